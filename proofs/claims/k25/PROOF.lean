import PyProof.Rows.All
import Wide.All
import OpenK.AllK
import Wide.FinOn
import HandS.ForMost
import HandS.IsInst
import HandS.SortInts
import HandS.Conv
import HandS.More
import HandS.ClsMeth
import HandS.Exc
import HandS.WordsExc
import HandS.ExcValue
import HandS.ExcIs
import HandS.ExcInit
import HandS.ExcField
import HandS.Deep
import HandS.DictTup
import HandS.Strs
import HandS.SetFor
import HandS.SortRule
import HandS.MakeKw
import HandS.TryOnly
import HandS.Style
import KE.KDictList
import HandS.Small
import PySem.Challenge.RW_lastreader_k25_sides_refused
set_option Elab.async false
set_option linter.all false
set_option maxRecDepth 100000
set_option maxHeartbeats 4000000
/-! The symbolic heap: what stands in H, unit by unit. -/
namespace Sy
open PySem L2
abbrev U := List (Addr × HO)
structure Has (H : Hp) (L : List U) : Prop where
  nd : (L.flatten.map (·.1)).Nodup
  at' : ∀ p ∈ L.flatten, H p.1 = some p.2
theorem Has.all {H : Hp} {L : List U} (h : Has H L) : ∀ p ∈ L.flatten, H p.1 = some p.2 := h.at'
theorem Has.set_at {H : Hp} {A : List U} {a : Addr} {o o2 : HO} {us : U} {L : List U} (h : Has H (A ++ ((a, o) :: us) :: L)) : Has (upd H a o2) (A ++ ((a, o2) :: us) :: L) := by
  have e1 : (A ++ ((a, o) :: us) :: L).flatten = A.flatten ++ (a, o) :: (us ++ L.flatten) := by simp
  have e2 : (A ++ ((a, o2) :: us) :: L).flatten = A.flatten ++ (a, o2) :: (us ++ L.flatten) := by simp
  have hn := h.nd
  have ha := h.at'
  rw [e1] at hn ha
  refine ⟨?_, ?_⟩
  · rw [e2]
    simpa using hn
  · rw [e2]
    rw [List.map_append, List.map_cons, List.nodup_append] at hn
    obtain ⟨n1, n2, n3⟩ := hn
    obtain ⟨n4, n5⟩ := List.nodup_cons.mp n2
    intro p hp
    rcases List.mem_append.mp hp with q | q
    · have ne : p.1 ≠ a := n3 p.1 (List.mem_map.mpr ⟨p, q, rfl⟩) a (List.mem_cons.mpr (.inl rfl))
      rw [upd_ne ne]
      exact ha p (List.mem_append.mpr (.inl q))
    · rcases List.mem_cons.mp q with e | q
      · subst e
        exact upd_same
      · have ne : p.1 ≠ a := fun z => n4 (List.mem_map.mpr ⟨p, q, z⟩)
        rw [upd_ne ne]
        exact ha p (List.mem_append.mpr (.inr (List.mem_cons.mpr (.inr q))))
theorem Has.nw {H : Hp} {L : List U} (h : Has H L) {p : Addr} {o : HO} (hp : H p = none) : Has (upd H p o) ([(p, o)] :: L) := by
  have np : ∀ q ∈ L.flatten, q.1 ≠ p := fun q hq => ne_of_none (h.at' q hq) hp
  refine ⟨?_, ?_⟩
  · show ((p :: L.flatten.map (·.1))).Nodup
    exact List.nodup_cons.mpr ⟨fun m => by obtain ⟨q, hq, e⟩ := List.mem_map.mp m; exact np q hq e, h.nd⟩
  · intro q hq
    have hq : q ∈ (p, o) :: L.flatten := hq
    rcases List.mem_cons.mp hq with e | hq
    · subst e
      exact upd_same
    · rw [upd_ne (np q hq)]
      exact h.at' q hq
theorem Has.nil {H : Hp} : Has H [] := ⟨List.nodup_nil, fun _ h => by cases h⟩
def Sub (T L : List U) : Prop := ∃ G, L.Perm (T ++ G)
theorem Sub.rf {L : List U} : Sub L L := ⟨[], by rw [List.append_nil]⟩
theorem Sub.skip {T L : List U} {u : U} (h : Sub T L) : Sub T (u :: L) := by
  obtain ⟨G, p⟩ := h
  exact ⟨u :: G, ((List.Perm.cons u p).trans List.perm_middle.symm)⟩
theorem Sub.pull {A : List U} {u : U} {T L : List U} (h : Sub T (A ++ L)) : Sub (u :: T) (A ++ u :: L) := by
  obtain ⟨G, p⟩ := h
  exact ⟨G, List.perm_middle.trans (List.Perm.cons u p)⟩
theorem Sub.trans {A B C : List U} (h : Sub A B) (k : Sub B C) : Sub A C := by
  obtain ⟨G, p⟩ := h
  obtain ⟨F, q⟩ := k
  refine ⟨G ++ F, q.trans ?_⟩
  rw [← List.append_assoc]
  exact p.append_right F
theorem flatten_perm {L M : List U} (p : L.Perm M) : L.flatten.Perm M.flatten := by
  induction p with
  | nil => exact List.Perm.refl _
  | cons x _ ih =>
    show (x ++ _).Perm (x ++ _)
    exact ih.append_left x
  | swap x y l =>
    show (y ++ (x ++ l.flatten)).Perm (x ++ (y ++ l.flatten))
    rw [← List.append_assoc, ← List.append_assoc]
    exact List.perm_append_comm.append_right _
  | trans _ _ a b => exact a.trans b
theorem Has.perm {H : Hp} {L M : List U} (h : Has H L) (p : L.Perm M) : Has H M :=
  ⟨((flatten_perm p).map (·.1)).nodup_iff.mp h.nd, fun q hq => h.at' q ((flatten_perm p).mem_iff.mpr hq)⟩
theorem Has.left {H : Hp} {L M : List U} (h : Has H (L ++ M)) : Has H L := by
  obtain ⟨n, a⟩ := h
  rw [List.flatten_append] at n a
  rw [List.map_append] at n
  exact ⟨(List.nodup_append.mp n).1, fun p hp => a p (List.mem_append.mpr (.inl hp))⟩
theorem Has.sub {H : Hp} {T L : List U} (h : Has H L) (s : Sub T L) : Has H T := by
  obtain ⟨G, p⟩ := s
  exact (h.perm p).left
/-- a unit is opened, closed -/
theorem Has.op {H : Hp} {A B : U} {L : List U} : Has H ((A ++ B) :: L) ↔ Has H (A :: B :: L) := by
  constructor
  · rintro ⟨n, a⟩
    exact ⟨by simpa using n, fun p hp => a p (by simpa [or_assoc] using hp)⟩
  · rintro ⟨n, a⟩
    exact ⟨by simpa using n, fun p hp => a p (by simpa [or_assoc] using hp)⟩
theorem Has.cut {H : Hp} {p : Addr × HO} {B : U} {L : List U} (h : Has H ((p :: B) :: L)) : Has H ([p] :: B :: L) := Has.op.mp h
theorem Has.glue {H : Hp} {p : Addr × HO} {B : U} {L : List U} (h : Has H ([p] :: B :: L)) : Has H ((p :: B) :: L) := Has.op.mpr h
theorem Has.nilU {H : Hp} {L : List U} : Has H ([] :: L) ↔ Has H L := ⟨fun ⟨n, a⟩ => ⟨n, a⟩, fun ⟨n, a⟩ => ⟨n, a⟩⟩
theorem Has.cut2 {H : Hp} {p q : Addr × HO} {B : U} {L : List U} (h : Has H ((p :: q :: B) :: L)) : Has H ([p] :: [q] :: B :: L) := Has.perm (Has.cut (Has.perm h.cut (List.Perm.swap _ _ _))) ((List.Perm.cons _ (List.Perm.swap _ _ _)).trans ((List.Perm.swap _ _ _)))
theorem Has.glue2 {H : Hp} {p q : Addr × HO} {B : U} {L : List U} (h : Has H ([p] :: [q] :: B :: L)) : Has H ((p :: q :: B) :: L) := Has.glue (Has.perm (Has.glue (Has.perm h ((List.Perm.swap _ _ _).trans (List.Perm.cons _ (List.Perm.swap _ _ _))))) (List.Perm.swap _ _ _))
theorem Has.g0 {H : Hp} {a : Addr} {o : HO} {us : U} {L : List U} (h : Has H (((a, o) :: us) :: L)) : H a = some o := h.2 (a, o) (by simp)
theorem Has.g1 {H : Hp} {u0 : U} {a : Addr} {o : HO} {us : U} {L : List U} (h : Has H (u0 :: ((a, o) :: us) :: L)) : H a = some o := h.2 (a, o) (by simp)
theorem Has.g2 {H : Hp} {u0 u1 : U} {a : Addr} {o : HO} {us : U} {L : List U} (h : Has H (u0 :: u1 :: ((a, o) :: us) :: L)) : H a = some o := h.2 (a, o) (by simp)
theorem Has.g3 {H : Hp} {u0 u1 u2 : U} {a : Addr} {o : HO} {us : U} {L : List U} (h : Has H (u0 :: u1 :: u2 :: ((a, o) :: us) :: L)) : H a = some o := h.2 (a, o) (by simp)
theorem Has.g4 {H : Hp} {u0 u1 u2 u3 : U} {a : Addr} {o : HO} {us : U} {L : List U} (h : Has H (u0 :: u1 :: u2 :: u3 :: ((a, o) :: us) :: L)) : H a = some o := h.2 (a, o) (by simp)
theorem Has.g5 {H : Hp} {u0 u1 u2 u3 u4 : U} {a : Addr} {o : HO} {us : U} {L : List U} (h : Has H (u0 :: u1 :: u2 :: u3 :: u4 :: ((a, o) :: us) :: L)) : H a = some o := h.2 (a, o) (by simp)
theorem Has.g6 {H : Hp} {u0 u1 u2 u3 u4 u5 : U} {a : Addr} {o : HO} {us : U} {L : List U} (h : Has H (u0 :: u1 :: u2 :: u3 :: u4 :: u5 :: ((a, o) :: us) :: L)) : H a = some o := h.2 (a, o) (by simp)
theorem Has.g7 {H : Hp} {u0 u1 u2 u3 u4 u5 u6 : U} {a : Addr} {o : HO} {us : U} {L : List U} (h : Has H (u0 :: u1 :: u2 :: u3 :: u4 :: u5 :: u6 :: ((a, o) :: us) :: L)) : H a = some o := h.2 (a, o) (by simp)
theorem Has.g8 {H : Hp} {u0 u1 u2 u3 u4 u5 u6 u7 : U} {a : Addr} {o : HO} {us : U} {L : List U} (h : Has H (u0 :: u1 :: u2 :: u3 :: u4 :: u5 :: u6 :: u7 :: ((a, o) :: us) :: L)) : H a = some o := h.2 (a, o) (by simp)
theorem Has.g9 {H : Hp} {u0 u1 u2 u3 u4 u5 u6 u7 u8 : U} {a : Addr} {o : HO} {us : U} {L : List U} (h : Has H (u0 :: u1 :: u2 :: u3 :: u4 :: u5 :: u6 :: u7 :: u8 :: ((a, o) :: us) :: L)) : H a = some o := h.2 (a, o) (by simp)
theorem Has.g10 {H : Hp} {u0 u1 u2 u3 u4 u5 u6 u7 u8 u9 : U} {a : Addr} {o : HO} {us : U} {L : List U} (h : Has H (u0 :: u1 :: u2 :: u3 :: u4 :: u5 :: u6 :: u7 :: u8 :: u9 :: ((a, o) :: us) :: L)) : H a = some o := h.2 (a, o) (by simp)
theorem Has.g11 {H : Hp} {u0 u1 u2 u3 u4 u5 u6 u7 u8 u9 u10 : U} {a : Addr} {o : HO} {us : U} {L : List U} (h : Has H (u0 :: u1 :: u2 :: u3 :: u4 :: u5 :: u6 :: u7 :: u8 :: u9 :: u10 :: ((a, o) :: us) :: L)) : H a = some o := h.2 (a, o) (by simp)
theorem Has.g12 {H : Hp} {u0 u1 u2 u3 u4 u5 u6 u7 u8 u9 u10 u11 : U} {a : Addr} {o : HO} {us : U} {L : List U} (h : Has H (u0 :: u1 :: u2 :: u3 :: u4 :: u5 :: u6 :: u7 :: u8 :: u9 :: u10 :: u11 :: ((a, o) :: us) :: L)) : H a = some o := h.2 (a, o) (by simp)
theorem Has.g13 {H : Hp} {u0 u1 u2 u3 u4 u5 u6 u7 u8 u9 u10 u11 u12 : U} {a : Addr} {o : HO} {us : U} {L : List U} (h : Has H (u0 :: u1 :: u2 :: u3 :: u4 :: u5 :: u6 :: u7 :: u8 :: u9 :: u10 :: u11 :: u12 :: ((a, o) :: us) :: L)) : H a = some o := h.2 (a, o) (by simp)
theorem Has.g14 {H : Hp} {u0 u1 u2 u3 u4 u5 u6 u7 u8 u9 u10 u11 u12 u13 : U} {a : Addr} {o : HO} {us : U} {L : List U} (h : Has H (u0 :: u1 :: u2 :: u3 :: u4 :: u5 :: u6 :: u7 :: u8 :: u9 :: u10 :: u11 :: u12 :: u13 :: ((a, o) :: us) :: L)) : H a = some o := h.2 (a, o) (by simp)
theorem Has.g15 {H : Hp} {u0 u1 u2 u3 u4 u5 u6 u7 u8 u9 u10 u11 u12 u13 u14 : U} {a : Addr} {o : HO} {us : U} {L : List U} (h : Has H (u0 :: u1 :: u2 :: u3 :: u4 :: u5 :: u6 :: u7 :: u8 :: u9 :: u10 :: u11 :: u12 :: u13 :: u14 :: ((a, o) :: us) :: L)) : H a = some o := h.2 (a, o) (by simp)
theorem Has.s0 {H : Hp} {a : Addr} {o o2 : HO} {us : U} {L : List U} (h : Has H (((a, o) :: us) :: L)) : Has (upd H a o2) (((a, o2) :: us) :: L) := Has.set_at (A := []) h
theorem Has.s1 {H : Hp} {u0 : U} {a : Addr} {o o2 : HO} {us : U} {L : List U} (h : Has H (u0 :: ((a, o) :: us) :: L)) : Has (upd H a o2) (u0 :: ((a, o2) :: us) :: L) := Has.set_at (A := [u0]) h
theorem Has.s2 {H : Hp} {u0 u1 : U} {a : Addr} {o o2 : HO} {us : U} {L : List U} (h : Has H (u0 :: u1 :: ((a, o) :: us) :: L)) : Has (upd H a o2) (u0 :: u1 :: ((a, o2) :: us) :: L) := Has.set_at (A := [u0, u1]) h
theorem Has.s3 {H : Hp} {u0 u1 u2 : U} {a : Addr} {o o2 : HO} {us : U} {L : List U} (h : Has H (u0 :: u1 :: u2 :: ((a, o) :: us) :: L)) : Has (upd H a o2) (u0 :: u1 :: u2 :: ((a, o2) :: us) :: L) := Has.set_at (A := [u0, u1, u2]) h
theorem Has.s4 {H : Hp} {u0 u1 u2 u3 : U} {a : Addr} {o o2 : HO} {us : U} {L : List U} (h : Has H (u0 :: u1 :: u2 :: u3 :: ((a, o) :: us) :: L)) : Has (upd H a o2) (u0 :: u1 :: u2 :: u3 :: ((a, o2) :: us) :: L) := Has.set_at (A := [u0, u1, u2, u3]) h
theorem Has.s5 {H : Hp} {u0 u1 u2 u3 u4 : U} {a : Addr} {o o2 : HO} {us : U} {L : List U} (h : Has H (u0 :: u1 :: u2 :: u3 :: u4 :: ((a, o) :: us) :: L)) : Has (upd H a o2) (u0 :: u1 :: u2 :: u3 :: u4 :: ((a, o2) :: us) :: L) := Has.set_at (A := [u0, u1, u2, u3, u4]) h
theorem Has.s6 {H : Hp} {u0 u1 u2 u3 u4 u5 : U} {a : Addr} {o o2 : HO} {us : U} {L : List U} (h : Has H (u0 :: u1 :: u2 :: u3 :: u4 :: u5 :: ((a, o) :: us) :: L)) : Has (upd H a o2) (u0 :: u1 :: u2 :: u3 :: u4 :: u5 :: ((a, o2) :: us) :: L) := Has.set_at (A := [u0, u1, u2, u3, u4, u5]) h
theorem Has.s7 {H : Hp} {u0 u1 u2 u3 u4 u5 u6 : U} {a : Addr} {o o2 : HO} {us : U} {L : List U} (h : Has H (u0 :: u1 :: u2 :: u3 :: u4 :: u5 :: u6 :: ((a, o) :: us) :: L)) : Has (upd H a o2) (u0 :: u1 :: u2 :: u3 :: u4 :: u5 :: u6 :: ((a, o2) :: us) :: L) := Has.set_at (A := [u0, u1, u2, u3, u4, u5, u6]) h
theorem Has.s8 {H : Hp} {u0 u1 u2 u3 u4 u5 u6 u7 : U} {a : Addr} {o o2 : HO} {us : U} {L : List U} (h : Has H (u0 :: u1 :: u2 :: u3 :: u4 :: u5 :: u6 :: u7 :: ((a, o) :: us) :: L)) : Has (upd H a o2) (u0 :: u1 :: u2 :: u3 :: u4 :: u5 :: u6 :: u7 :: ((a, o2) :: us) :: L) := Has.set_at (A := [u0, u1, u2, u3, u4, u5, u6, u7]) h
theorem Has.s9 {H : Hp} {u0 u1 u2 u3 u4 u5 u6 u7 u8 : U} {a : Addr} {o o2 : HO} {us : U} {L : List U} (h : Has H (u0 :: u1 :: u2 :: u3 :: u4 :: u5 :: u6 :: u7 :: u8 :: ((a, o) :: us) :: L)) : Has (upd H a o2) (u0 :: u1 :: u2 :: u3 :: u4 :: u5 :: u6 :: u7 :: u8 :: ((a, o2) :: us) :: L) := Has.set_at (A := [u0, u1, u2, u3, u4, u5, u6, u7, u8]) h
theorem Has.s10 {H : Hp} {u0 u1 u2 u3 u4 u5 u6 u7 u8 u9 : U} {a : Addr} {o o2 : HO} {us : U} {L : List U} (h : Has H (u0 :: u1 :: u2 :: u3 :: u4 :: u5 :: u6 :: u7 :: u8 :: u9 :: ((a, o) :: us) :: L)) : Has (upd H a o2) (u0 :: u1 :: u2 :: u3 :: u4 :: u5 :: u6 :: u7 :: u8 :: u9 :: ((a, o2) :: us) :: L) := Has.set_at (A := [u0, u1, u2, u3, u4, u5, u6, u7, u8, u9]) h
theorem Has.s11 {H : Hp} {u0 u1 u2 u3 u4 u5 u6 u7 u8 u9 u10 : U} {a : Addr} {o o2 : HO} {us : U} {L : List U} (h : Has H (u0 :: u1 :: u2 :: u3 :: u4 :: u5 :: u6 :: u7 :: u8 :: u9 :: u10 :: ((a, o) :: us) :: L)) : Has (upd H a o2) (u0 :: u1 :: u2 :: u3 :: u4 :: u5 :: u6 :: u7 :: u8 :: u9 :: u10 :: ((a, o2) :: us) :: L) := Has.set_at (A := [u0, u1, u2, u3, u4, u5, u6, u7, u8, u9, u10]) h
theorem Has.s12 {H : Hp} {u0 u1 u2 u3 u4 u5 u6 u7 u8 u9 u10 u11 : U} {a : Addr} {o o2 : HO} {us : U} {L : List U} (h : Has H (u0 :: u1 :: u2 :: u3 :: u4 :: u5 :: u6 :: u7 :: u8 :: u9 :: u10 :: u11 :: ((a, o) :: us) :: L)) : Has (upd H a o2) (u0 :: u1 :: u2 :: u3 :: u4 :: u5 :: u6 :: u7 :: u8 :: u9 :: u10 :: u11 :: ((a, o2) :: us) :: L) := Has.set_at (A := [u0, u1, u2, u3, u4, u5, u6, u7, u8, u9, u10, u11]) h
theorem Has.s13 {H : Hp} {u0 u1 u2 u3 u4 u5 u6 u7 u8 u9 u10 u11 u12 : U} {a : Addr} {o o2 : HO} {us : U} {L : List U} (h : Has H (u0 :: u1 :: u2 :: u3 :: u4 :: u5 :: u6 :: u7 :: u8 :: u9 :: u10 :: u11 :: u12 :: ((a, o) :: us) :: L)) : Has (upd H a o2) (u0 :: u1 :: u2 :: u3 :: u4 :: u5 :: u6 :: u7 :: u8 :: u9 :: u10 :: u11 :: u12 :: ((a, o2) :: us) :: L) := Has.set_at (A := [u0, u1, u2, u3, u4, u5, u6, u7, u8, u9, u10, u11, u12]) h
theorem Has.s14 {H : Hp} {u0 u1 u2 u3 u4 u5 u6 u7 u8 u9 u10 u11 u12 u13 : U} {a : Addr} {o o2 : HO} {us : U} {L : List U} (h : Has H (u0 :: u1 :: u2 :: u3 :: u4 :: u5 :: u6 :: u7 :: u8 :: u9 :: u10 :: u11 :: u12 :: u13 :: ((a, o) :: us) :: L)) : Has (upd H a o2) (u0 :: u1 :: u2 :: u3 :: u4 :: u5 :: u6 :: u7 :: u8 :: u9 :: u10 :: u11 :: u12 :: u13 :: ((a, o2) :: us) :: L) := Has.set_at (A := [u0, u1, u2, u3, u4, u5, u6, u7, u8, u9, u10, u11, u12, u13]) h
theorem Has.s15 {H : Hp} {u0 u1 u2 u3 u4 u5 u6 u7 u8 u9 u10 u11 u12 u13 u14 : U} {a : Addr} {o o2 : HO} {us : U} {L : List U} (h : Has H (u0 :: u1 :: u2 :: u3 :: u4 :: u5 :: u6 :: u7 :: u8 :: u9 :: u10 :: u11 :: u12 :: u13 :: u14 :: ((a, o) :: us) :: L)) : Has (upd H a o2) (u0 :: u1 :: u2 :: u3 :: u4 :: u5 :: u6 :: u7 :: u8 :: u9 :: u10 :: u11 :: u12 :: u13 :: u14 :: ((a, o2) :: us) :: L) := Has.set_at (A := [u0, u1, u2, u3, u4, u5, u6, u7, u8, u9, u10, u11, u12, u13, u14]) h
theorem Sub.p0 {u : U} {T L : List U} (h : Sub T L) : Sub (u :: T) (u :: L) := Sub.pull (A := []) h
theorem Sub.p1 {u0 u : U} {T L : List U} (h : Sub T (u0 :: L)) : Sub (u :: T) (u0 :: u :: L) := Sub.pull (A := [u0]) h
theorem Sub.p2 {u0 u1 u : U} {T L : List U} (h : Sub T (u0 :: u1 :: L)) : Sub (u :: T) (u0 :: u1 :: u :: L) := Sub.pull (A := [u0, u1]) h
theorem Sub.p3 {u0 u1 u2 u : U} {T L : List U} (h : Sub T (u0 :: u1 :: u2 :: L)) : Sub (u :: T) (u0 :: u1 :: u2 :: u :: L) := Sub.pull (A := [u0, u1, u2]) h
theorem Sub.p4 {u0 u1 u2 u3 u : U} {T L : List U} (h : Sub T (u0 :: u1 :: u2 :: u3 :: L)) : Sub (u :: T) (u0 :: u1 :: u2 :: u3 :: u :: L) := Sub.pull (A := [u0, u1, u2, u3]) h
theorem Sub.p5 {u0 u1 u2 u3 u4 u : U} {T L : List U} (h : Sub T (u0 :: u1 :: u2 :: u3 :: u4 :: L)) : Sub (u :: T) (u0 :: u1 :: u2 :: u3 :: u4 :: u :: L) := Sub.pull (A := [u0, u1, u2, u3, u4]) h
theorem Sub.p6 {u0 u1 u2 u3 u4 u5 u : U} {T L : List U} (h : Sub T (u0 :: u1 :: u2 :: u3 :: u4 :: u5 :: L)) : Sub (u :: T) (u0 :: u1 :: u2 :: u3 :: u4 :: u5 :: u :: L) := Sub.pull (A := [u0, u1, u2, u3, u4, u5]) h
theorem Sub.p7 {u0 u1 u2 u3 u4 u5 u6 u : U} {T L : List U} (h : Sub T (u0 :: u1 :: u2 :: u3 :: u4 :: u5 :: u6 :: L)) : Sub (u :: T) (u0 :: u1 :: u2 :: u3 :: u4 :: u5 :: u6 :: u :: L) := Sub.pull (A := [u0, u1, u2, u3, u4, u5, u6]) h
theorem Sub.p8 {u0 u1 u2 u3 u4 u5 u6 u7 u : U} {T L : List U} (h : Sub T (u0 :: u1 :: u2 :: u3 :: u4 :: u5 :: u6 :: u7 :: L)) : Sub (u :: T) (u0 :: u1 :: u2 :: u3 :: u4 :: u5 :: u6 :: u7 :: u :: L) := Sub.pull (A := [u0, u1, u2, u3, u4, u5, u6, u7]) h
theorem Sub.p9 {u0 u1 u2 u3 u4 u5 u6 u7 u8 u : U} {T L : List U} (h : Sub T (u0 :: u1 :: u2 :: u3 :: u4 :: u5 :: u6 :: u7 :: u8 :: L)) : Sub (u :: T) (u0 :: u1 :: u2 :: u3 :: u4 :: u5 :: u6 :: u7 :: u8 :: u :: L) := Sub.pull (A := [u0, u1, u2, u3, u4, u5, u6, u7, u8]) h
theorem Sub.p10 {u0 u1 u2 u3 u4 u5 u6 u7 u8 u9 u : U} {T L : List U} (h : Sub T (u0 :: u1 :: u2 :: u3 :: u4 :: u5 :: u6 :: u7 :: u8 :: u9 :: L)) : Sub (u :: T) (u0 :: u1 :: u2 :: u3 :: u4 :: u5 :: u6 :: u7 :: u8 :: u9 :: u :: L) := Sub.pull (A := [u0, u1, u2, u3, u4, u5, u6, u7, u8, u9]) h
theorem Sub.p11 {u0 u1 u2 u3 u4 u5 u6 u7 u8 u9 u10 u : U} {T L : List U} (h : Sub T (u0 :: u1 :: u2 :: u3 :: u4 :: u5 :: u6 :: u7 :: u8 :: u9 :: u10 :: L)) : Sub (u :: T) (u0 :: u1 :: u2 :: u3 :: u4 :: u5 :: u6 :: u7 :: u8 :: u9 :: u10 :: u :: L) := Sub.pull (A := [u0, u1, u2, u3, u4, u5, u6, u7, u8, u9, u10]) h
theorem Sub.p12 {u0 u1 u2 u3 u4 u5 u6 u7 u8 u9 u10 u11 u : U} {T L : List U} (h : Sub T (u0 :: u1 :: u2 :: u3 :: u4 :: u5 :: u6 :: u7 :: u8 :: u9 :: u10 :: u11 :: L)) : Sub (u :: T) (u0 :: u1 :: u2 :: u3 :: u4 :: u5 :: u6 :: u7 :: u8 :: u9 :: u10 :: u11 :: u :: L) := Sub.pull (A := [u0, u1, u2, u3, u4, u5, u6, u7, u8, u9, u10, u11]) h
theorem Sub.p13 {u0 u1 u2 u3 u4 u5 u6 u7 u8 u9 u10 u11 u12 u : U} {T L : List U} (h : Sub T (u0 :: u1 :: u2 :: u3 :: u4 :: u5 :: u6 :: u7 :: u8 :: u9 :: u10 :: u11 :: u12 :: L)) : Sub (u :: T) (u0 :: u1 :: u2 :: u3 :: u4 :: u5 :: u6 :: u7 :: u8 :: u9 :: u10 :: u11 :: u12 :: u :: L) := Sub.pull (A := [u0, u1, u2, u3, u4, u5, u6, u7, u8, u9, u10, u11, u12]) h
theorem Sub.p14 {u0 u1 u2 u3 u4 u5 u6 u7 u8 u9 u10 u11 u12 u13 u : U} {T L : List U} (h : Sub T (u0 :: u1 :: u2 :: u3 :: u4 :: u5 :: u6 :: u7 :: u8 :: u9 :: u10 :: u11 :: u12 :: u13 :: L)) : Sub (u :: T) (u0 :: u1 :: u2 :: u3 :: u4 :: u5 :: u6 :: u7 :: u8 :: u9 :: u10 :: u11 :: u12 :: u13 :: u :: L) := Sub.pull (A := [u0, u1, u2, u3, u4, u5, u6, u7, u8, u9, u10, u11, u12, u13]) h
theorem Sub.p15 {u0 u1 u2 u3 u4 u5 u6 u7 u8 u9 u10 u11 u12 u13 u14 u : U} {T L : List U} (h : Sub T (u0 :: u1 :: u2 :: u3 :: u4 :: u5 :: u6 :: u7 :: u8 :: u9 :: u10 :: u11 :: u12 :: u13 :: u14 :: L)) : Sub (u :: T) (u0 :: u1 :: u2 :: u3 :: u4 :: u5 :: u6 :: u7 :: u8 :: u9 :: u10 :: u11 :: u12 :: u13 :: u14 :: u :: L) := Sub.pull (A := [u0, u1, u2, u3, u4, u5, u6, u7, u8, u9, u10, u11, u12, u13, u14]) h
/-! Steps: a reading, rule by rule, over the symbolic heap. -/
theorem Has.cut3 {H : Hp} {p q r : Addr × HO} {B : U} {L : List U} (h : Has H ((p :: q :: r :: B) :: L)) : Has H ([p] :: [q] :: [r] :: B :: L) := (Has.cut (h.cut2.sub (Sub.p2 Sub.rf))).sub (Sub.p2 (Sub.p2 (Sub.p0 (Sub.p0 Sub.rf))))
theorem Has.glue3 {H : Hp} {p q r : Addr × HO} {B : U} {L : List U} (h : Has H ([p] :: [q] :: [r] :: B :: L)) : Has H ((p :: q :: r :: B) :: L) := Has.glue2 ((Has.glue (h.sub (Sub.p2 (Sub.p2 Sub.rf)))).sub (Sub.p1 (Sub.p1 (Sub.p0 Sub.rf))))
section
variable {K : PySem.W.Frag} {σ : St} {H H1 : Hp} {L : List U} {Q : VK} {QT : Bool → Hp → Prop} {QA : List V → Hp → Prop} {QS : St → Hp → Prop} {ta tb tc te tv td ty tx : TE} {t u c : TT} {tr : TA} {v w x y z : V} {xs ys : List V} {i j n m : Int} {a b p : Addr} {f : Str} {C dx : Addr} {fs : List (Str × V)} {nx bk ct : St → Hp → Prop} {rt : VK} {s1 s2 : TS} {A B : Prop} {k : Nat} {D : Ends}
/-! ### names, constants, operators -/
theorem x_var {k : Nat} (h : σ[k]? = some (some v)) (q : Q v H) : tVar k σ H Q := ⟨v, h, q⟩
theorem x_c (q : Q v H) : tC v σ H Q := q
theorem x_op {r : R2} (q : ta σ H fun x H1 => tb σ H1 fun y H2 => r x y H2 Q) : tOp r ta tb σ H Q := q
theorem x_un {r : V → Hp → VK → Prop} (q : ta σ H fun x H1 => r x H1 Q) : tUn r ta σ H Q := q
def rAddI : R2 := rI0 fun i j => .int (i + j)
def rSubI : R2 := rI0 fun i j => .int (i - j)
def rMulI : R2 := rI CMul fun i j => .int (i * j)
def rDivI : R2 := rI CDiv fun i j => .int (i / j)
def rModI : R2 := rI (fun _ j => 0 < j) fun i j => .int (i % j)
def rPowI : R2 := rI CPow fun i j => .int (i ^ j.toNat)
def rLtI : R2 := rI0 fun i j => .bl (decide (i < j))
def rLeI : R2 := rI0 fun i j => .bl (decide (i ≤ j))
def rGtI : R2 := rI0 fun i j => .bl (decide (j < i))
def rGeI : R2 := rI0 fun i j => .bl (decide (j ≤ i))
def rIsNo : R2 := fun x y H Q => y = .non ∧ Q (.bl (decide (x = .non))) H
def rNotNo : R2 := fun x y H Q => y = .non ∧ Q (.bl (!decide (x = .non))) H
theorem op_addI {X : Cx} : OpR X (binaryOp .Add) rAddI := op_add
theorem op_subI {X : Cx} : OpR X (binaryOp .Sub) rSubI := op_sub
theorem op_mulI {X : Cx} : OpR X (binaryOp .Mult) rMulI := op_mul
theorem op_divI {X : Cx} : OpR X (binaryOp .FloorDiv) rDivI := op_fdiv
theorem op_modI {X : Cx} : OpR X (binaryOp .Mod) rModI := op_mod
theorem op_powI {X : Cx} : OpR X (binaryOp .Pow) rPowI := op_pow
theorem op_ltI {X : Cx} : OpR X (compareOp .Lt) rLtI := op_lt
theorem op_leI {X : Cx} : OpR X (compareOp .LtE) rLeI := op_le
theorem op_gtI {X : Cx} : OpR X (compareOp .Gt) rGtI := op_gt
theorem op_geI {X : Cx} : OpR X (compareOp .GtE) rGeI := op_ge
theorem op_isNo {X : Cx} : OpR X (compareOp .Is) rIsNo := op_isN
theorem op_notNo {X : Cx} : OpR X (compareOp .IsNot) rNotNo := op_notN
theorem k_addI (q : Q (.int (i + j)) H) : rAddI (.int i) (.int j) H Q := ⟨i, j, rfl, rfl, q⟩
theorem k_subI (q : Q (.int (i - j)) H) : rSubI (.int i) (.int j) H Q := ⟨i, j, rfl, rfl, q⟩
theorem k_mulI (h : CMul i j) (q : Q (.int (i * j)) H) : rMulI (.int i) (.int j) H Q := ⟨i, j, rfl, rfl, h, q⟩
theorem k_divI (h : CDiv i j) (q : Q (.int (i / j)) H) : rDivI (.int i) (.int j) H Q := ⟨i, j, rfl, rfl, h, q⟩
theorem k_modI (h : 0 < j) (q : Q (.int (i % j)) H) : rModI (.int i) (.int j) H Q := ⟨i, j, rfl, rfl, h, q⟩
theorem k_powI (h : CPow i j) (q : Q (.int (i ^ j.toNat)) H) : rPowI (.int i) (.int j) H Q := ⟨i, j, rfl, rfl, h, q⟩
theorem k_ltI (q : Q (.bl (decide (i < j))) H) : rLtI (.int i) (.int j) H Q := ⟨i, j, rfl, rfl, q⟩
theorem k_leI (q : Q (.bl (decide (i ≤ j))) H) : rLeI (.int i) (.int j) H Q := ⟨i, j, rfl, rfl, q⟩
theorem k_gtI (q : Q (.bl (decide (j < i))) H) : rGtI (.int i) (.int j) H Q := ⟨i, j, rfl, rfl, q⟩
theorem k_geI (q : Q (.bl (decide (j ≤ i))) H) : rGeI (.int i) (.int j) H Q := ⟨i, j, rfl, rfl, q⟩
theorem k_isNo (q : Q (.bl (decide (x = .non))) H) : rIsNo x .non H Q := ⟨rfl, q⟩
theorem k_isNo0 (q : Q (.bl true) H) : rIsNo .non .non H Q := ⟨rfl, q⟩
theorem k_isNoI (q : Q (.bl false) H) : rIsNo (.int i) .non H Q := ⟨rfl, q⟩
theorem k_isNoR (q : Q (.bl false) H) : rIsNo (.ref a) .non H Q := ⟨rfl, q⟩
theorem k_notNo0 (q : Q (.bl false) H) : rNotNo .non .non H Q := ⟨rfl, q⟩
theorem k_notNoI (q : Q (.bl true) H) : rNotNo (.int i) .non H Q := ⟨rfl, q⟩
theorem k_notNoR (q : Q (.bl true) H) : rNotNo (.ref a) .non H Q := ⟨rfl, q⟩
theorem k_notNo (q : Q (.bl (!decide (x = .non))) H) : rNotNo x .non H Q := ⟨rfl, q⟩
theorem dI_eq : decide (V.int i = V.int j) = decide (i = j) := by
  by_cases h : i = j
  · subst h; simp
  · rw [decide_eq_false h, decide_eq_false fun q => h (V.int.inj q)]
theorem dB_eq {i j : Bool} : decide (V.bl i = V.bl j) = decide (i = j) := by
  by_cases h : i = j
  · subst h; simp
  · rw [decide_eq_false h, decide_eq_false fun q => h (V.bl.inj q)]
theorem dS_eq {i j : Str} : decide (V.str i = V.str j) = decide (i = j) := by
  by_cases h : i = j
  · subst h; simp
  · rw [decide_eq_false h, decide_eq_false fun q => h (V.str.inj q)]
theorem k_eqI (q : Q (.bl (decide (i = j))) H) : rEq (.int i) (.int j) H Q := ⟨rfl, by rw [dI_eq]; exact q⟩
theorem k_neI (q : Q (.bl (!decide (i = j))) H) : rNe (.int i) (.int j) H Q := ⟨rfl, by rw [dI_eq]; exact q⟩
theorem k_eqB {i j : Bool} (q : Q (.bl (decide (i = j))) H) : rEq (.bl i) (.bl j) H Q := ⟨rfl, by rw [dB_eq]; exact q⟩
theorem k_neB {i j : Bool} (q : Q (.bl (!decide (i = j))) H) : rNe (.bl i) (.bl j) H Q := ⟨rfl, by rw [dB_eq]; exact q⟩
theorem k_eqS {i j : Str} (q : Q (.bl (decide (i = j))) H) : rEq (.str i) (.str j) H Q := ⟨rfl, by rw [dS_eq]; exact q⟩
theorem k_neS {i j : Str} (q : Q (.bl (!decide (i = j))) H) : rNe (.str i) (.str j) H Q := ⟨rfl, by rw [dS_eq]; exact q⟩
theorem k_eqIN (q : Q (.bl false) H) : rEq (.int i) .non H Q := ⟨rfl, q⟩
theorem k_eqNI (q : Q (.bl false) H) : rEq .non (.int i) H Q := ⟨rfl, q⟩
theorem k_eqNN (q : Q (.bl true) H) : rEq .non .non H Q := ⟨rfl, q⟩
theorem k_neIN (q : Q (.bl true) H) : rNe (.int i) .non H Q := ⟨rfl, q⟩
theorem k_neNI (q : Q (.bl true) H) : rNe .non (.int i) H Q := ⟨rfl, q⟩
theorem k_neNN (q : Q (.bl false) H) : rNe .non .non H Q := ⟨rfl, q⟩
/-! ### tests -/
def kB (x : V) (H : Hp) (Q : Bool → Hp → Prop) : Prop := ∃ k, x = .bl k ∧ Q k H
theorem x_test (q : te σ H fun x H' => kB x H' QT) : tTest te σ H QT := q
theorem x_tB (q : te σ H fun x H' => kB x H' QT) : tB te σ H QT := q
theorem k_b {b : Bool} (q : QT b H) : kB (.bl b) H QT := ⟨b, rfl, q⟩
theorem x_and (q : t σ H fun c H1 => if c = true then u σ H1 QT else QT false H1) : tAnd t u σ H QT := q
theorem x_or (q : t σ H fun c H1 => if c = true then QT true H1 else u σ H1 QT) : tOr t u σ H QT := q
theorem x_not (q : t σ H fun c H1 => QT (!c) H1) : tNot t σ H QT := q
def kAndV (tb : TE) (σ : St) (x : V) (H1 : Hp) (Q : VK) : Prop := ∃ c, x = .bl c ∧ if c = true then tb σ H1 Q else Q (.bl false) H1
def kOrV (tb : TE) (σ : St) (x : V) (H1 : Hp) (Q : VK) : Prop := ∃ c, x = .bl c ∧ if c = true then Q (.bl true) H1 else tb σ H1 Q
def kNotV (x : V) (H1 : Hp) (Q : VK) : Prop := ∃ c, x = .bl c ∧ Q (.bl (!c)) H1
theorem x_andV (q : ta σ H fun x H1 => kAndV tb σ x H1 Q) : tAndV ta tb σ H Q := q
theorem x_orV (q : ta σ H fun x H1 => kOrV tb σ x H1 Q) : tOrV ta tb σ H Q := q
theorem x_notV (q : ta σ H fun x H1 => kNotV x H1 Q) : tNotV ta σ H Q := q
theorem k_andV {c : Bool} (q : if c = true then tb σ H Q else Q (.bl false) H) : kAndV tb σ (.bl c) H Q := ⟨c, rfl, q⟩
theorem k_orV {c : Bool} (q : if c = true then Q (.bl true) H else tb σ H Q) : kOrV tb σ (.bl c) H Q := ⟨c, rfl, q⟩
theorem k_notV {c : Bool} (q : Q (.bl (!c)) H) : kNotV (.bl c) H Q := ⟨c, rfl, q⟩
theorem k_notVt (q : Q (.bl false) H) : kNotV (.bl true) H Q := ⟨true, rfl, q⟩
theorem k_notVf (q : Q (.bl true) H) : kNotV (.bl false) H Q := ⟨false, rfl, q⟩
theorem x_ifE (q : t σ H fun c H1 => if c = true then ta σ H1 Q else tb σ H1 Q) : tIf t ta tb σ H Q := q
def kChain (r' : R2) (tc : TE) (σ : St) (y z : V) (H3 : Hp) (Q : VK) : Prop := ∃ k, z = .bl k ∧ (if k = true then tc σ H3 fun w' H4 => r' y w' H4 Q else Q (.bl false) H3)
theorem x_chain {r r' : R2} (q : ta σ H fun x H1 => tb σ H1 fun y H2 => r x y H2 fun z H3 => kChain r' tc σ y z H3 Q) : tChain r r' ta tb tc σ H Q := q
theorem k_chain {r' : R2} {c : Bool} (q : if c = true then tc σ H fun w' H4 => r' y w' H4 Q else Q (.bl false) H) : kChain r' tc σ y (.bl c) H Q := ⟨c, rfl, q⟩
theorem ifT (q : A) : if true = true then A else B := by rw [if_pos rfl]; exact q
theorem ifF (q : B) : if false = true then A else B := by rw [if_neg Bool.false_ne_true]; exact q
theorem ifNT (q : B) : if (!true) = true then A else B := ifF q
theorem ifNF (q : A) : if (!false) = true then A else B := ifT q
theorem ifY {c : Bool} (h : c = true) (q : A) : if c = true then A else B := by rw [if_pos h]; exact q
theorem ifN {c : Bool} (h : c = false) (q : B) : if c = true then A else B := by rw [h, if_neg Bool.false_ne_true]; exact q
theorem ifB {c : Bool} (h : c = true → A) (g : c = false → B) : if c = true then A else B := by
  cases c with
  | true => rw [if_pos rfl]; exact h rfl
  | false => rw [if_neg Bool.false_ne_true]; exact g rfl
theorem ifD {c : Prop} [Decidable c] (h : c → A) (g : ¬ c → B) : if decide c = true then A else B := ifB (fun q => h (of_decide_eq_true q)) fun q => g (of_decide_eq_false q)
theorem ifE {c : Prop} [Decidable c] (h : ¬ c → A) (g : c → B) : if (!decide c) = true then A else B := ifB (fun q => h (by simpa using q)) fun q => g (by simpa using q)
/-! ### statements -/
theorem x_seq (q : s1 ⟨s2 ⟨nx, rt, bk, ct⟩, rt, bk, ct⟩ σ H) : tSeq s1 s2 ⟨nx, rt, bk, ct⟩ σ H := q
theorem x_next (q : nx σ H) : tNext ⟨nx, rt, bk, ct⟩ σ H := q
theorem x_brk (q : bk σ H) : tBreak ⟨nx, rt, bk, ct⟩ σ H := q
theorem x_ct (q : ct σ H) : tCont ⟨nx, rt, bk, ct⟩ σ H := q
theorem x_drop (q : te σ H fun _ H1 => nx σ H1) : tDrop te ⟨nx, rt, bk, ct⟩ σ H := q
theorem x_ret (q : te σ H rt) : tRet te ⟨nx, rt, bk, ct⟩ σ H := q
theorem x_retN (q : rt .non H) : tRetN ⟨nx, rt, bk, ct⟩ σ H := q
theorem x_if (q : c σ H fun b H1 => if b = true then s1 ⟨nx, rt, bk, ct⟩ σ H1 else s2 ⟨nx, rt, bk, ct⟩ σ H1) : tIfS c s1 s2 ⟨nx, rt, bk, ct⟩ σ H := q
theorem x_asg {g : TG} (q : te σ H fun x H1 => g x σ H1 nx) : tAsg te g ⟨nx, rt, bk, ct⟩ σ H := q
theorem x_gname {k : Nat} (q : QS (σ.set k (some v)) H) : gName k v σ H QS := q
theorem x_gtup {k : Nat} {g : TGs} (hp : H a = some (.tup xs)) (hl : xs.length = k) (q : g xs σ H QS) : gTup K k g (.ref a) σ H QS := ⟨a, xs, rfl, SqT.of hp, hl, q⟩
theorem x_gcons {g : TG} {gs : TGs} (q : g v σ H fun σ' H' => gs xs σ' H' QS) : gCons g gs (v :: xs) σ H QS := ⟨v, xs, rfl, q⟩
theorem x_gnil (q : QS σ H) : gNil [] σ H QS := ⟨rfl, q⟩
theorem x_gsub {s : TSet} (q : ta σ H fun o H1 => tb σ H1 fun i H2 => s o i v H2 fun H3 => QS σ H3) : gSub ta tb s v σ H QS := q
theorem k_setL {Q : Hp → Prop} {k : Nat} {M : List U} (hp : H p = some (.lst xs)) (hk : ixN xs.length i = some k) (hh : Has (upd H p (.lst (xs.set k v))) M) (q : ∀ H', Has H' M → Q H') : rSetL (.ref p) (.int i) v H Q := ⟨p, xs, i, k, rfl, rfl, hp, hk, q _ hh⟩
def kPar (i j : Nat) (nx : St → Hp → Prop) (σ : St) (vs : List V) (H1 : Hp) : Prop := ∃ v w, vs = [v, w] ∧ nx ((σ.set i (some v)).set j (some w)) H1
theorem x_par {i j : Nat} (q : tr σ H fun vs H1 => kPar i j nx σ vs H1) : tPar i j tr ⟨nx, rt, bk, ct⟩ σ H := q
theorem k_par {i j : Nat} (q : nx ((σ.set i (some v)).set j (some w)) H) : kPar i j nx σ [v, w] H := ⟨v, w, rfl, q⟩
/-! ### fields -/
def kFld (K : PySem.W.Frag) (f : Str) (x : V) (H1 : Hp) (Q : VK) : Prop := ∃ a C dx fs v, x = .ref a ∧ H1 a = some (.ins C dx fs) ∧ Cls K C ∧ NoAttr K C f ∧ fs.lookup f = some v ∧ Q v H1
theorem x_fld (q : ta σ H fun x H1 => kFld K f x H1 Q) : tFld K ta f σ H Q := q
theorem k_fld (hp : H a = some (.ins C dx fs)) (hc : Cls K C) (hn : NoAttr K C f) (hl : fs.lookup f = some v) (q : Q v H) : kFld K f (.ref a) H Q := ⟨a, C, dx, fs, v, rfl, hp, hc, hn, hl, q⟩
def kSFld (K : PySem.W.Frag) (f : Str) (nx : St → Hp → Prop) (σ : St) (y x : V) (H2 : Hp) : Prop := ∃ a C dx fs, x = .ref a ∧ H2 a = some (.ins C dx fs) ∧ Cls K C ∧ NoAttr K C f ∧ fs.length < 1000 ∧ nx σ (upd H2 a (.ins C dx (putF f y fs)))
theorem x_sfld (q : tv σ H fun y H1 => ta σ H1 fun x H2 => kSFld K f nx σ y x H2) : sFld K ta tv f ⟨nx, rt, bk, ct⟩ σ H := q
theorem k_sfld {M : List U} {gs : List (Str × V)} (hp : H a = some (.ins C dx fs)) (hc : Cls K C) (hn : NoAttr K C f) (hl : fs.length < 1000) (he : putF f y fs = gs) (hh : Has (upd H a (.ins C dx gs)) M) (q : ∀ H', Has H' M → nx σ H') : kSFld K f nx σ y (.ref a) H :=
  ⟨a, C, dx, fs, rfl, hp, hc, hn, hl, by rw [he]; exact q _ hh⟩
/-! ### lists, tuples -/
theorem x_nil (q : QA [] H) : tNil σ H QA := q
theorem x_cons (q : ta σ H fun x H1 => tr σ H1 fun xs H2 => QA (x :: xs) H2) : tCons ta tr σ H QA := q
def kLst (xs : List V) (H1 : Hp) (Q : VK) : Prop := xs.length ≤ sizeLine ∧ ∀ p, H1 p = none → Q (.ref p) (upd H1 p (.lst xs))
def kTupN (xs : List V) (H1 : Hp) (Q : VK) : Prop := xs.length ≤ sizeLine ∧ ∀ p, H1 p = none → Q (.ref p) (upd H1 p (.tup xs))
theorem x_lst (q : tr σ H fun xs H1 => kLst xs H1 Q) : tLst tr σ H Q := q
theorem x_tup (q : tr σ H fun xs H1 => kTupN xs H1 Q) : tTup tr σ H Q := q
theorem k_lst (hh : Has H L) (hl : xs.length ≤ sizeLine) (q : ∀ p H', Has H' ([(p, .lst xs)] :: L) → Q (.ref p) H') : kLst xs H Q := ⟨hl, fun p hp => q p _ (hh.nw hp)⟩
theorem k_tupN (hh : Has H L) (hl : xs.length ≤ sizeLine) (q : ∀ p H', Has H' ([(p, .tup xs)] :: L) → Q (.ref p) H') : kTupN xs H Q := ⟨hl, fun p hp => q p _ (hh.nw hp)⟩
theorem k_ixL (hp : H p = some (.lst xs)) (hi : atI xs i = some v) (q : Q v H) : rIxL K (.ref p) (.int i) H Q := ⟨p, xs, i, v, rfl, rfl, SqL.of hp, hi, q⟩
theorem k_ixT (hp : H p = some (.tup xs)) (hi : atI xs i = some v) (q : Q v H) : rIxT K (.ref p) (.int i) H Q := ⟨p, xs, i, v, rfl, rfl, SqT.of hp, hi, q⟩
theorem at_n {α : Type} {zs : List α} {d : Int} {v : α} (h0 : 0 ≤ d) (h : zs[d.toNat]? = some v) : atI zs d = some v := by
  obtain ⟨j, rfl⟩ := Int.eq_ofNat_of_zero_le h0
  exact atI_nat h
def kTy (K : PySem.W.Frag) (T : String) (x : V) (H1 : Hp) (A : Prop) : Prop := tyV K T x H1 ∧ A
theorem x_bm {T : String} {r : V → List V → Hp → VK → Prop} (q : ta σ H fun x H1 => kTy K T x H1 (tr σ H1 fun xs H2 => r x xs H2 Q)) : tBM K T r ta tr σ H Q := q
theorem x_bm0 {T : String} {r : V → List V → Hp → VK → Prop} (q : ta σ H fun x H1 => kTy K T x H1 (r x [] H1 Q)) : tBM0 K T r ta σ H Q := q
theorem k_tyL (hp : H a = some (.lst xs)) (q : A) : kTy K "list" (.ref a) H A := ⟨.inl ⟨rfl, _, SqL.of hp⟩, q⟩
theorem k_app {M : List U} (hp : H a = some (.lst xs)) (hl : xs.length < sizeLine) (hh : Has (upd H a (.lst (xs ++ [v]))) M) (q : ∀ H', Has H' M → Q .non H') : rAppend (.ref a) [v] H Q := ⟨a, xs, v, rfl, rfl, hp, hl, q _ hh⟩
theorem k_pop {M : List U} (hp : H a = some (.lst xs)) (hl : xs[xs.length - 1]? = some y) (hh : Has (upd H a (.lst xs.dropLast)) M) (q : ∀ H', Has H' M → Q y H') : rPop (.ref a) [] H Q := ⟨a, xs, y, rfl, rfl, hp, hl, q _ hh⟩
theorem k_cat (hh : Has H L) (hp : H a = some (.lst xs)) (hq : H b = some (.lst ys)) (hl : xs.length + ys.length ≤ sizeLine) (q : ∀ p H', Has H' ([(p, .lst (xs ++ ys))] :: L) → Q (.ref p) H') : rCat (.ref a) (.ref b) H Q :=
  ⟨a, b, xs, ys, rfl, rfl, hp, hq, hl, fun p hp => q p _ (hh.nw hp)⟩
theorem k_rep (hh : Has H L) (hp : H a = some (.lst [v])) (h0 : 0 ≤ i) (h1 : i ≤ 100000) (q : ∀ p H', Has H' ([(p, .lst (List.replicate i.toNat v))] :: L) → Q (.ref p) H') : rRep (.ref a) (.int i) H Q := by
  have e : (List.replicate i.toNat [v]).flatten = List.replicate i.toNat v := by
    generalize i.toNat = n
    induction n with
    | zero => rfl
    | succ n ih => rw [List.replicate_succ, List.flatten_cons, ih]; rfl
  refine ⟨a, i, [v], rfl, rfl, hp, by omega, by omega, ?_, fun p hp => ?_⟩
  · rw [sizeLine_eq]; show 1 * i.toNat ≤ _; omega
  · rw [e]; exact q p _ (hh.nw hp)
def kRg (Qr : Int → Int → Hp → Prop) (x : V) (H1 : Hp) : Prop := ∃ n, x = .int n ∧ Qr 0 n H1
def kLstRg (a b : Int) (H1 : Hp) (Q : VK) : Prop := RgOk a b ∧ ∀ q, H1 q = none → Q (.ref q) (upd H1 q (.lst (rgV a b)))
theorem x_rg1 {Qr : Int → Int → Hp → Prop} (q : ta σ H fun x H1 => kRg Qr x H1) : tRg1 ta σ H Qr := q
theorem k_rg1 {Qr : Int → Int → Hp → Prop} (q : Qr 0 i H) : kRg Qr (.int i) H := ⟨i, rfl, q⟩
theorem x_lstRg {te : St → Hp → (Int → Int → Hp → Prop) → Prop} (q : te σ H fun a b H1 => kLstRg a b H1 Q) : tLstRg te σ H Q := q
def rgI (n : Int) : List Int := (List.range n.toNat).map fun (i : Nat) => (i : Int)
theorem rgV_I (n : Int) : rgV 0 n = (rgI n).map V.int := by
  unfold rgV rgI
  rw [List.map_map, Int.sub_zero]
  refine List.map_congr_left fun i _ => ?_
  show V.int (0 + (i : Int)) = V.int i
  rw [Int.zero_add]
theorem rgI_len (n : Int) : (rgI n).length = n.toNat := by unfold rgI; rw [List.length_map, List.length_range]
theorem k_lstRg (hh : Has H L) (h0 : 0 ≤ n) (h1 : n ≤ 100000) (q : ∀ p H', Has H' ([(p, .lst ((rgI n).map V.int))] :: L) → Q (.ref p) H') : kLstRg 0 n H Q :=
  ⟨RgOk.of_le (by omega) (by omega) (by omega) h0, fun p hp => by rw [rgV_I]; exact q p _ (hh.nw hp)⟩
/-! ### calls of built-ins -/
theorem x_cb {r : List V → Hp → VK → Prop} (q : tr σ H fun vs H1 => r vs H1 Q) : tCB r tr σ H Q := q
def rLenQ (K : PySem.W.Frag) : List V → Hp → VK → Prop := fun xs H Q => ∃ p ys, xs = [.ref p] ∧ (SqL K H p ys ∨ SqT K H p ys) ∧ Q (.int ys.length) H
theorem call_lenQ {X : Cx} : CallR X (.builtin "len") (rLenQ X.K) := call_len_seq
theorem k_lenL (hp : H p = some (.lst xs)) (q : Q (.int xs.length) H) : rLenQ K [.ref p] H Q := ⟨p, xs, rfl, .inl (SqL.of hp), q⟩
theorem k_lenT (hp : H p = some (.tup xs)) (q : Q (.int xs.length) H) : rLenQ K [.ref p] H Q := ⟨p, xs, rfl, .inr (SqT.of hp), q⟩
def rLenK : List V → Hp → VK → Prop := fun xs H Q => ∃ a kvs, xs = [V.ref a] ∧ H a = some (.dK kvs) ∧ Q (.int kvs.length) H
theorem call_lenK {X : Cx} : CallR X (.builtin "len") rLenK := call_lenD
theorem k_lenK {kvs : List (Key × V)} (hp : H p = some (.dK kvs)) (q : Q (.int kvs.length) H) : rLenK [.ref p] H Q := ⟨p, kvs, rfl, hp, q⟩
theorem k_isi {ta' tb' : String} {r : Bool} (hx : TyOf K H x (.type ta')) (hk : kitB ta' tb' = some r) (q : Q (.bl r) H) : rIsi K [x, .ty tb'] H Q := ⟨x, .ty tb', .type ta', .type tb', r, rfl, .ty tb', .base hx, kit_ty hk, q⟩
theorem kb_ii : kitB "int" "int" = some true := by decide +kernel
theorem kb_ib : kitB "int" "bool" = some false := by decide +kernel
theorem kb_bi : kitB "bool" "int" = some true := by decide +kernel
theorem kb_bb : kitB "bool" "bool" = some true := by decide +kernel
theorem kb_ll : kitB "list" "list" = some true := by decide +kernel
theorem kb_tt : kitB "tuple" "tuple" = some true := by decide +kernel
theorem k_isiII (q : Q (.bl true) H) : rIsi K [.int i, .ty "int"] H Q := k_isi (.int i) kb_ii q
theorem k_isiIB (q : Q (.bl false) H) : rIsi K [.int i, .ty "bool"] H Q := k_isi (.int i) kb_ib q
theorem k_isiBI {b : Bool} (q : Q (.bl true) H) : rIsi K [.bl b, .ty "int"] H Q := k_isi (.bl b) kb_bi q
theorem k_isiBB {b : Bool} (q : Q (.bl true) H) : rIsi K [.bl b, .ty "bool"] H Q := k_isi (.bl b) kb_bb q
theorem k_isiLL (hp : H p = some (.lst xs)) (q : Q (.bl true) H) : rIsi K [.ref p, .ty "list"] H Q := k_isi (.lst hp) kb_ll q
theorem k_isiTT (hp : H p = some (.tup xs)) (q : Q (.bl true) H) : rIsi K [.ref p, .ty "tuple"] H Q := k_isi (.tup hp) kb_tt q
theorem k_all {bs : List Bool} (hp : H p = some (.lst (bs.map V.bl))) (q : Q (.bl (bs.all id)) H) : rAll K [.ref p] H Q := ⟨p, bs, rfl, SqL.of hp, q⟩
theorem k_sum {ns : List Int} (hp : H p = some (.lst (ns.map V.int))) (q : Q (.int ns.sum) H) : rSum K [.ref p] H Q := ⟨p, ns, rfl, SqL.of hp, q⟩
def rSortD : List V → Hp → VK → Prop := fun xs H Q => ∃ (a : Addr) (kvs : List (Key × V)) (ks : List Int), xs = [.ref a] ∧ Rd H a (.dK kvs) ∧ kvs.map (·.1) = ks.map Sum.inl ∧ ks.length < 64 ∧
    ∀ (ys : List Int) (p : Addr), ys.Perm ks → ys.Pairwise (· ≤ ·) → H p = none → Q (.ref p) (upd H p (.lst (ys.map V.int)))
theorem call_sortD {X : Cx} (hc : X.calm = true) : CallR X (.builtin "sorted") rSortD := call_sortedDI hc
def rListOf (K : PySem.W.Frag) : List V → Hp → VK → Prop := fun xs H Q => ∃ p ys, xs = [.ref p] ∧ (SqL K H p ys ∨ SqT K H p ys) ∧ ∀ l, H l = none → Q (.ref l) (upd H l (.lst ys))
theorem call_listOf {X : Cx} : CallR X (.type "list") (rListOf X.K) := call_list_of
theorem k_listOf (hh : Has H L) (hp : H p = some (.lst xs)) (q : ∀ p H', Has H' ([(p, .lst xs)] :: L) → Q (.ref p) H') : rListOf K [.ref p] H Q := ⟨p, xs, rfl, .inl (SqL.of hp), fun l hl => q l _ (hh.nw hl)⟩
theorem k_listOfS (hh : Has H L) (hp : SqL K H p xs) (q : ∀ p H', Has H' ([(p, .lst xs)] :: L) → Q (.ref p) H') : rListOf K [.ref p] H Q := ⟨p, xs, rfl, .inl hp, fun l hl => q l _ (hh.nw hl)⟩
def rDictP (K : PySem.W.Frag) : List V → Hp → VK → Prop := fun xs H Q => ∃ (a : Addr) (ps : List Addr) (kvs : List (Key × V)), xs = [.ref a] ∧ SqL K H a (ps.map V.ref) ∧ Paired (fun p kv => SqT K H p [kV kv.1, kv.2]) ps kvs ∧
    ∀ p, H p = none → Q (.ref p) (upd H p (.dK (mergeK [] kvs)))
theorem call_dictPr {X : Cx} (hc : X.calm = true) : CallR X (.type "dict") (rDictP X.K) := call_dictP hc
theorem k_sortI {ns : List Int} (hh : Has H L) (hp : H p = some (.lst (ns.map V.int))) (q : ∀ (ys : List Int) p H', ys.Perm ns → ys.Pairwise (· ≤ ·) → Has H' ([(p, .lst (ys.map V.int))] :: L) → Q (.ref p) H') : rSortedI K [.ref p] H Q :=
  ⟨p, ns, rfl, SqL.of hp, fun ys l h1 h2 hl => q ys l _ h1 h2 (hh.nw hl)⟩
/-! ### own calls -/
theorem x_call {sp : Sp} {dvs : List V} {E : XK} (q : tr σ H fun vs H1 => sp (vs ++ dvs) H1 Q E) : tCall sp dvs E tr σ H Q := q
theorem x_call0 {sp : Sp} {E : XK} (q : tr σ H fun vs H1 => sp vs H1 Q E) : tCall sp [] E tr σ H Q := by
  have e : (fun vs H1 => sp (vs ++ []) H1 Q E) = fun vs H1 => sp vs H1 Q E := by funext vs H1; rw [List.append_nil]
  show tr σ H fun vs H1 => sp (vs ++ []) H1 Q E
  rw [e]
  exact q
def kMeth (C : Addr) (m : Str) (sp : Sp) (dvs : List V) (E : XK) (t : TA) (σ : St) (x : V) (H1 : Hp) (Q : VK) : Prop := ∃ a dx fs, x = .ref a ∧ H1 a = some (.ins C dx fs) ∧ fs.lookup m = none ∧ t σ H1 fun vs H2 => sp (x :: (vs ++ dvs)) H2 Q E
theorem x_meth {m : Str} {sp : Sp} {dvs : List V} {E : XK} (q : ta σ H fun x H1 => kMeth C m sp dvs E tr σ x H1 Q) : tMeth C m sp dvs E ta tr σ H Q := q
theorem k_meth {m : Str} {sp : Sp} {dvs : List V} {E : XK} (hp : H a = some (.ins C dx fs)) (hl : fs.lookup m = none) (q : tr σ H fun vs H2 => sp (.ref a :: (vs ++ dvs)) H2 Q E) : kMeth C m sp dvs E tr σ (.ref a) H Q := ⟨a, dx, fs, rfl, hp, hl, q⟩
theorem k_meth0 {m : Str} {sp : Sp} {E : XK} (hp : H a = some (.ins C dx fs)) (hl : fs.lookup m = none) (q : tr σ H fun vs H2 => sp (.ref a :: vs) H2 Q E) : kMeth C m sp [] E tr σ (.ref a) H Q := by
  have e : (fun vs H2 => sp (.ref a :: (vs ++ [])) H2 Q E) = fun vs H2 => sp (.ref a :: vs) H2 Q E := by funext vs H1; rw [List.append_nil]
  refine ⟨a, dx, fs, rfl, hp, hl, ?_⟩
  rw [e]
  exact q
def kMake (C : Addr) (sp : Sp) (dvs : List V) (E : XK) (vs : List V) (H1 : Hp) (Q : VK) : Prop := ∀ x dx, H1 x = none → H1 dx = none → dx ≠ x → sp (.ref x :: (vs ++ dvs)) (upd (upd H1 dx (.own x)) x (.ins C dx [])) (fun v H2 => v = .non ∧ Q (.ref x) H2) E
theorem x_make {sp : Sp} {dvs : List V} {E : XK} (q : tr σ H fun vs H1 => kMake C sp dvs E vs H1 Q) : tMake C sp dvs E tr σ H Q := q
theorem k_make {sp : Sp} {dvs vs : List V} {E : XK} (hh : Has H L) (q : ∀ x dx H', Has H' ([(x, .ins C dx [])] :: L) → sp (.ref x :: (vs ++ dvs)) H' (fun v H2 => v = .non ∧ Q (.ref x) H2) E) : kMake C sp dvs E vs H Q :=
  fun x dx hx hd ne => q x dx _ ((hh.nw hd (o := .own x)).nw (p := x) (o := .ins C dx []) (by rw [upd_ne (Ne.symm ne)]; exact hx) |>.sub (Sub.p0 (Sub.skip Sub.rf)))
theorem k_make0 {sp : Sp} {vs : List V} {E : XK} (hh : Has H L) (q : ∀ x dx H', Has H' ([(x, .ins C dx [])] :: L) → sp (.ref x :: vs) H' (fun v H2 => v = .non ∧ Q (.ref x) H2) E) : kMake C sp [] E vs H Q :=
  k_make hh (by rw [List.append_nil]; exact q)
/-! ### dicts with int keys, with keys that are pairs of ints -/
section
variable {κ κ' : Type} [DecidableEq κ] [DecidableEq κ']
def mk (g : κ → κ') (m : List (κ × V)) : List (κ' × V) := m.map fun p => (g p.1, p.2)
theorem mk_len (g : κ → κ') (m : List (κ × V)) : (mk g m).length = m.length := List.length_map ..
theorem mk_keys (g : κ → κ') (m : List (κ × V)) : (mk g m).map (·.1) = (m.map (·.1)).map g := by
  unfold mk
  rw [List.map_map, List.map_map]
  rfl
theorem mk_val {g : κ → κ'} (hg : ∀ a b, g a = g b → a = b) (m : List (κ × V)) (k : κ) : valV (mk g m) (g k) = valV m k := by
  induction m with
  | nil => rfl
  | cons p r ih =>
    show valV ((g p.1, p.2) :: mk g r) (g k) = _
    by_cases h : p.1 = k
    · rw [valV_pos (p := (g p.1, p.2)) (congrArg g h), valV_pos h]
    · rw [valV_neg (p := (g p.1, p.2)) (fun q => h (hg _ _ q)), valV_neg h, ih]
theorem mk_drop {g : κ → κ'} (hg : ∀ a b, g a = g b → a = b) (m : List (κ × V)) (k : κ) : dropK (mk g m) (g k) = mk g (dropK m k) := by
  induction m with
  | nil => rfl
  | cons p r ih =>
    show dropK ((g p.1, p.2) :: mk g r) (g k) = _
    by_cases h : p.1 = k
    · rw [dropK_pos (p := (g p.1, p.2)) (congrArg g h), dropK_pos h, ih]
    · rw [dropK_neg (p := (g p.1, p.2)) (fun q => h (hg _ _ q)), dropK_neg h, ih]
      rfl
theorem mk_any {g : κ → κ'} (hg : ∀ a b, g a = g b → a = b) (m : List (κ × V)) (k : κ) : ((mk g m).any fun kv => decide (kv.1 = g k)) = m.any fun kv => decide (kv.1 = k) := by
  rw [valV_any, valV_any, mk_val hg]
theorem mk_put {g : κ → κ'} (hg : ∀ a b, g a = g b → a = b) (m : List (κ × V)) (k : κ) (v : V) : putK (mk g m) (g k) v = mk g (putK m k v) := by
  unfold putK
  rw [mk_any hg]
  split
  · unfold mk
    rw [List.map_map, List.map_map]
    refine List.map_congr_left fun p _ => ?_
    show (if g p.1 = g k then (g p.1, v) else (g p.1, p.2)) = _
    by_cases h : p.1 = k
    · rw [if_pos (congrArg g h)]
      show _ = (g (if p.1 = k then (p.1, v) else p).1, (if p.1 = k then (p.1, v) else p).2)
      rw [if_pos h]
    · rw [if_neg (fun q => h (hg _ _ q))]
      show _ = (g (if p.1 = k then (p.1, v) else p).1, (if p.1 = k then (p.1, v) else p).2)
      rw [if_neg h]
  · unfold mk
    rw [List.map_append]
    rfl
end
def g1 : Int → Key := Sum.inl
def g2 (p : Int × Int) : List Key := [Sum.inl p.1, Sum.inl p.2]
theorem g1_inj : ∀ a b, g1 a = g1 b → a = b := fun _ _ h => Sum.inl.inj h
theorem g2_inj : ∀ a b, g2 a = g2 b → a = b := fun a b h => by
  obtain ⟨a1, a2⟩ := a
  obtain ⟨b1, b2⟩ := b
  unfold g2 at h
  simp only [List.cons.injEq, Sum.inl.injEq, and_true] at h
  rw [h.1, h.2]
abbrev dI (m : List (Int × V)) : HO := .dK (mk g1 m)
abbrev dP (m : List ((Int × Int) × V)) : HO := .dT (mk g2 m)
def kDGet (x y : V) (H2 : Hp) (Q : VK) : Prop := ∃ a v, x = .ref a ∧ DGet H2 a y (some v) ∧ Q v H2
theorem x_dget (q : td σ H fun x H1 => ty σ H1 fun y H2 => kDGet x y H2 Q) : tDGet td ty σ H Q := q
theorem dget_I {mm : List (Int × V)} (hp : H a = some (dI mm)) : DGet H a (.int i) (valV mm i) := by
  rw [← mk_val g1_inj mm i]
  exact DGet.k (k := g1 i) hp
theorem dget_P {mm : List ((Int × Int) × V)} (hp : H a = some (dP mm)) (hb : H b = some (.tup [.int i, .int j])) : DGet H a (.ref b) (valV mm (i, j)) := by
  rw [← mk_val g2_inj mm (i, j)]
  exact DGet.t (k := g2 (i, j)) hp hb
theorem k_dget {mm : List (Int × V)} (hp : H a = some (dI mm)) (hv : valV mm i = some v) (q : Q v H) : kDGet (.ref a) (.int i) H Q := ⟨a, v, rfl, hv ▸ dget_I hp, q⟩
theorem k_dgetP {mm : List ((Int × Int) × V)} (hp : H a = some (dP mm)) (hb : H b = some (.tup [.int i, .int j])) (hv : valV mm (i, j) = some v) (q : Q v H) : kDGet (.ref a) (.ref b) H Q := ⟨a, v, rfl, hv ▸ dget_P hp hb, q⟩
def kDIn (y x : V) (H2 : Hp) (Q : VK) : Prop := ∃ a o, x = .ref a ∧ DGet H2 a y o ∧ Q (.bl o.isSome) H2
def kDNot (y x : V) (H2 : Hp) (Q : VK) : Prop := ∃ a o, x = .ref a ∧ DGet H2 a y o ∧ Q (.bl (!o.isSome)) H2
theorem x_din (q : ty σ H fun y H1 => td σ H1 fun x H2 => kDIn y x H2 Q) : tDIn ty td σ H Q := q
theorem x_dnot (q : ty σ H fun y H1 => td σ H1 fun x H2 => kDNot y x H2 Q) : tDNotIn ty td σ H Q := q
theorem k_din {mm : List (Int × V)} (hp : H a = some (dI mm)) (q : Q (.bl (valV mm i).isSome) H) : kDIn (.int i) (.ref a) H Q := ⟨a, _, rfl, dget_I hp, q⟩
theorem k_dnot {mm : List (Int × V)} (hp : H a = some (dI mm)) (q : Q (.bl (!(valV mm i).isSome)) H) : kDNot (.int i) (.ref a) H Q := ⟨a, _, rfl, dget_I hp, q⟩
theorem k_dinP {mm : List ((Int × Int) × V)} (hp : H a = some (dP mm)) (hb : H b = some (.tup [.int i, .int j])) (q : Q (.bl (valV mm (i, j)).isSome) H) : kDIn (.ref b) (.ref a) H Q := ⟨a, _, rfl, dget_P hp hb, q⟩
theorem k_dnotP {mm : List ((Int × Int) × V)} (hp : H a = some (dP mm)) (hb : H b = some (.tup [.int i, .int j])) (q : Q (.bl (!(valV mm (i, j)).isSome)) H) : kDNot (.ref b) (.ref a) H Q := ⟨a, _, rfl, dget_P hp hb, q⟩
def kDPut (nx : St → Hp → Prop) (σ : St) (v x y : V) (H3 : Hp) : Prop := ∃ a H4, x = .ref a ∧ DPut H3 a y v H4 ∧ nx σ H4
theorem x_dput (q : tv σ H fun v H1 => td σ H1 fun x H2 => ty σ H2 fun y H3 => kDPut nx σ v x y H3) : sDPut td ty tv ⟨nx, rt, bk, ct⟩ σ H := q
theorem k_dput {mm : List (Int × V)} {M : List U} (hp : H a = some (dI mm)) (hl : mm.length < sizeLine) (hh : Has (upd H a (dI (putK mm i v))) M) (q : ∀ H', Has H' M → nx σ H') : kDPut nx σ v (.ref a) (.int i) H := by
  refine ⟨a, _, rfl, DPut.k (k := g1 i) hp (by rw [mk_len]; exact hl), ?_⟩
  rw [mk_put g1_inj]
  exact q _ hh
theorem k_dputP {mm : List ((Int × Int) × V)} {M : List U} (hp : H a = some (dP mm)) (hb : H b = some (.tup [.int i, .int j])) (hl : mm.length < sizeLine) (hh : Has (upd H a (dP (putK mm (i, j) v))) M) (q : ∀ H', Has H' M → nx σ H') : kDPut nx σ v (.ref a) (.ref b) H := by
  refine ⟨a, _, rfl, DPut.t (k := g2 (i, j)) hp hb (by rw [mk_len]; exact hl), ?_⟩
  rw [mk_put g2_inj]
  exact q _ hh
def kIsD (x : V) (H1 : Hp) (F : Addr → Prop) : Prop := ∃ a, x = .ref a ∧ IsD H1 a ∧ F a
theorem k_isD {kvs : List (Key × V)} {F : Addr → Prop} (hp : H a = some (.dK kvs)) (q : F a) : kIsD (.ref a) H F := ⟨a, rfl, .inl ⟨kvs, .inl hp⟩, q⟩
theorem k_isDT {kvs : List (List Key × V)} {F : Addr → Prop} (hp : H a = some (.dT kvs)) (q : F a) : kIsD (.ref a) H F := ⟨a, rfl, .inr ⟨kvs, .inl hp⟩, q⟩
def kDPop (a : Addr) (y : V) (H2 : Hp) (Q : VK) : Prop := ∃ kvs k v, H2 a = some (.dK kvs) ∧ y = kV k ∧ valV kvs k = some v ∧ Q v (upd H2 a (.dK (dropK kvs k)))
theorem x_dpop1 (q : td σ H fun x H1 => kIsD x H1 fun a => ty σ H1 fun y H2 => kDPop a y H2 Q) : tDPop1 td ty σ H Q := q
theorem k_dpop1 {mm : List (Int × V)} {M : List U} (hp : H a = some (dI mm)) (hv : valV mm i = some v) (hh : Has (upd H a (dI (dropK mm i))) M) (q : ∀ H', Has H' M → Q v H') : kDPop a (.int i) H Q := by
  refine ⟨_, g1 i, v, hp, rfl, by rw [mk_val g1_inj]; exact hv, ?_⟩
  rw [mk_drop g1_inj]
  exact q _ hh
def kDGet2 (a : Addr) (y z : V) (H3 : Hp) (Q : VK) : Prop := ∃ o, DGet H3 a y o ∧ Q (o.getD z) H3
theorem x_dget2 (q : td σ H fun x H1 => kIsD x H1 fun a => ty σ H1 fun y H2 => tx σ H2 fun z H3 => kDGet2 a y z H3 Q) : tDGet2 td ty tx σ H Q := q
theorem k_dget2 {mm : List (Int × V)} (hp : H a = some (dI mm)) (q : Q ((valV mm i).getD z) H) : kDGet2 a (.int i) z H Q := ⟨_, dget_I hp, q⟩
theorem k_dget2P {mm : List ((Int × Int) × V)} (hp : H a = some (dP mm)) (hb : H b = some (.tup [.int i, .int j])) (q : Q ((valV mm (i, j)).getD z) H) : kDGet2 a (.ref b) z H Q := ⟨_, dget_P hp hb, q⟩
def kDGet1 (a : Addr) (y : V) (H3 : Hp) (Q : VK) : Prop := ∃ o, DGet H3 a y o ∧ Q (o.getD .non) H3
theorem x_dget1 (q : td σ H fun x H1 => kIsD x H1 fun a => ty σ H1 fun y H2 => kDGet1 a y H2 Q) : tDGet1 td ty σ H Q := q
theorem k_dget1 {mm : List (Int × V)} (hp : H a = some (dI mm)) (q : Q ((valV mm i).getD .non) H) : kDGet1 a (.int i) H Q := ⟨_, dget_I hp, q⟩
theorem x_dnewK (hh : Has H L) (q : ∀ p H', Has H' ([(p, dI [])] :: L) → Q (.ref p) H') : tDNewK σ H Q := fun p hp => q p _ (hh.nw hp)
theorem x_dnewT (hh : Has H L) (q : ∀ p H', Has H' ([(p, dP [])] :: L) → Q (.ref p) H') : tDNewT σ H Q := fun p hp => q p _ (hh.nw hp)
theorem k_sortD {mm : List (Int × V)} (hh : Has H L) (hp : H p = some (dI mm)) (hl : mm.length < 64) (q : ∀ (ys : List Int) p H', ys.Perm (mm.map (·.1)) → ys.Pairwise (· ≤ ·) → Has H' ([(p, .lst (ys.map V.int))] :: L) → Q (.ref p) H') : rSortD [.ref p] H Q :=
  ⟨p, _, mm.map (fun (x : Int × V) => x.1), rfl, .inl hp, (by have e := mk_keys g1 mm; exact e), by rw [List.length_map]; exact hl, fun ys l h1 h2 hl => q ys l _ h1 h2 (hh.nw hl)⟩
/-! ### == of data -/
theorem dpAll_ints (ns : List Int) : DpAll K H (ns.map V.int) (ns.map PyData.int) := by
  induction ns with
  | nil => exact .nil
  | cons n r ih => exact .cons (.int n) ih
theorem eqv_ints (ns : List Int) : ∀ ms : List Int, PyData.eqv (.list (ns.map PyData.int)) (.list (ms.map PyData.int)) = decide (ns = ms) := by
  induction ns with
  | nil =>
    intro ms
    cases ms with
    | nil => rfl
    | cons m r => rfl
  | cons n r ih =>
    intro ms
    cases ms with
    | nil => rfl
    | cons m s =>
      have h := ih s
      simp [PyData.eqv, PyData.eqvAll] at h ⊢
      rw [h]
      by_cases e1 : n = m
      · subst e1; by_cases e2 : r = s <;> simp [e2]
      · simp [e1]
theorem lay_ints (ns : List Int) : PyData.canLayAll0 (ns.map PyData.int) = true := by
  induction ns with
  | nil => simp [PyData.canLayAll0]
  | cons n r ih => simp [PyData.canLayAll0, PyData.canLay0, ih]
theorem deep_ints (ns : List Int) : PyData.depthAll (ns.map PyData.int) ≤ 1 := by
  induction ns with
  | nil => simp [PyData.depthAll]
  | cons n r ih => simp [PyData.depthAll, PyData.depth, ih]
theorem shaped_ints (ns : List Int) : SeqAt.shaped (.list (ns.map PyData.int)) = true := by
  have h := deep_ints ns
  simp [SeqAt.shaped, PyData.canLay0, lay_ints, PyData.depth]
  omega
theorem k_eqLI {ns ms : List Int} (hp : H a = some (.lst (ns.map V.int))) (hq : H b = some (.lst (ms.map V.int))) (q : Q (.bl (decide (ns = ms))) H) : rEqD K (.ref a) (.ref b) H Q :=
  ⟨_, _, .lst (SqL.of hp) (dpAll_ints ns), .lst (SqL.of hq) (dpAll_ints ms), shaped_ints ns, shaped_ints ms, by rw [eqv_ints]; exact q⟩
theorem k_neLI {ns ms : List Int} (hp : H a = some (.lst (ns.map V.int))) (hq : H b = some (.lst (ms.map V.int))) (q : Q (.bl (!decide (ns = ms))) H) : rNeD K (.ref a) (.ref b) H Q :=
  ⟨_, _, .lst (SqL.of hp) (dpAll_ints ns), .lst (SqL.of hq) (dpAll_ints ms), shaped_ints ns, shaped_ints ms, by rw [eqv_ints]; exact q⟩
theorem k_eqLN {ns : List Int} (hp : H a = some (.lst (ns.map V.int))) (hq : H b = some (.lst [])) (q : Q (.bl (decide (ns = []))) H) : rEqD K (.ref a) (.ref b) H Q := k_eqLI (ms := []) hp hq q
theorem k_neLN {ns : List Int} (hp : H a = some (.lst (ns.map V.int))) (hq : H b = some (.lst [])) (q : Q (.bl (!decide (ns = []))) H) : rNeD K (.ref a) (.ref b) H Q := k_neLI (ms := []) hp hq q
/-! ### loops -/
def kForR (k : Nat) (tb : TS) (nx : St → Hp → Prop) (rt : VK) (σ : St) (vs : List V) (H1 : Hp) : Prop := ∃ j : Int, vs = [.int j] ∧ -(2 ^ 62) ≤ j ∧ j < 2 ^ 62 ∧ ∃ W : Nat → Nat → St → Hp → Prop, (∃ m, W 0 m σ H1) ∧ ∀ i m σ H, W i m σ H →
  ((Itr 0 j.toNat).stop i H ∧ nx σ H) ∨ ((Itr 0 j.toNat).go i H ∧ ∃ N : St → Hp → Prop, (∀ σ' H', N σ' H' → ∃ m', m' < m ∧ W (i + 1) m' σ' H') ∧ ∀ x H', (Itr 0 j.toNat).yld i H x H' → gName k x σ H' fun σ2 H2 => tb ⟨N, rt, nx, N⟩ σ2 H2)
theorem x_forR {k : Nat} (q : tr σ H fun vs H1 => kForR k s1 nx rt σ vs H1) : tFor (iRng1 tr) (gName k) s1 ⟨nx, rt, bk, ct⟩ σ H := q
theorem k_forR {k : Nat} (Pv : Nat → St → Hp → Prop) (h0 : Pv 0 σ H) (hn : 0 ≤ n ∧ n ≤ 100000) (hs : ∀ (i : Nat) σ H, (i : Int) < n → Pv i σ H → s1 ⟨Pv (i + 1), rt, nx, Pv (i + 1)⟩ (σ.set k (some (.int i))) H) (hd : ∀ σ H, Pv n.toNat σ H → nx σ H) : kForR k s1 nx rt σ [.int n] H := by
  refine ⟨n, rfl, by omega, by omega, for_range (g := gName k) (tb := s1) (D := ⟨nx, rt, fun _ _ => False, fun _ _ => False⟩) Pv h0 (fun i σ' H' hi p => ?_) hd⟩
  show s1 ⟨Pv (i + 1), rt, nx, Pv (i + 1)⟩ (σ'.set k (some (.int (0 + (i : Int))))) H'
  rw [Int.zero_add]
  exact hs i σ' H' (by omega) p
def kForL (K : PySem.W.Frag) (g : TG) (tb : TS) (nx : St → Hp → Prop) (rt : VK) (σ : St) (x : V) (H1 : Hp) : Prop := ∃ a, x = .ref a ∧ (∃ xs, SqL K H1 a xs) ∧ ∃ W : Nat → Nat → St → Hp → Prop, (∃ m, W 0 m σ H1) ∧ ∀ i m σ H, W i m σ H →
  ((Itl K a).stop i H ∧ nx σ H) ∨ ((Itl K a).go i H ∧ ∃ N : St → Hp → Prop, (∀ σ' H', N σ' H' → ∃ m', m' < m ∧ W (i + 1) m' σ' H') ∧ ∀ x H', (Itl K a).yld i H x H' → g x σ H' fun σ2 H2 => tb ⟨N, rt, nx, N⟩ σ2 H2)
theorem x_forL {g : TG} (q : te σ H fun x H1 => kForL K g s1 nx rt σ x H1) : tFor (iList K te) g s1 ⟨nx, rt, bk, ct⟩ σ H := q
theorem k_forL {g : TG} (Pv : Nat → St → Hp → Prop) (hp : H a = some (.lst xs)) (h0 : Pv 0 σ H) (hl : ∀ i σ H, Pv i σ H → H a = some (.lst xs)) (hs : ∀ (i : Nat) x σ H, xs[i]? = some x → Pv i σ H → g x σ H fun σ2 H2 => s1 ⟨Pv (i + 1), rt, nx, Pv (i + 1)⟩ σ2 H2) (hd : ∀ σ H, Pv xs.length σ H → nx σ H) : kForL K g s1 nx rt σ (.ref a) H :=
  ⟨a, rfl, ⟨xs, SqL.of hp⟩, for_list (K := K) (xs := xs) (tb := s1) (D := ⟨nx, rt, fun _ _ => False, fun _ _ => False⟩) Pv h0 (fun i σ H _ p => SqL.of (hl i σ H p)) hs hd⟩
/-! ### comprehensions -/
def kLc (g : TG) (tt : TT) (te : TE) (vs : List Nat) (σ : St) (J : It) (H1 : Hp) (Q : VK) : Prop := ∀ D, H1 D = none → ∃ W : Nat → Nat → Hp → Prop, (∃ m, W 0 m (upd H1 D (.lst []))) ∧ ∀ i m H, W i m H →
  (J.stop i H ∧ Q (.ref D) H) ∨ (J.go i H ∧ ∃ Nx : Hp → Prop, (∀ H', Nx H' → ∃ m', m' < m ∧ W (i + 1) m' H') ∧ ∀ x H', J.yld i H x H' → g x (wipe σ vs) H' fun σ2 H2 => wipe σ2 vs = wipe σ vs ∧ tt σ2 H2 fun b H3 =>
    if b = true then te σ2 H3 fun y H4 => ∃ acc, H4 D = some (.lst acc) ∧ acc.length < sizeLine ∧ Nx (upd H4 D (.lst (acc ++ [y]))) else Nx H3)
/-- what a comprehension's turn wants behind its element y: the list at D one longer, and J of that -/
def kAdd (D : Addr) (Nx : Hp → Prop) (y : V) (H4 : Hp) : Prop := ∃ acc, H4 D = some (.lst acc) ∧ acc.length < sizeLine ∧ Nx (upd H4 D (.lst (acc ++ [y])))
theorem k_add {Nx : Hp → Prop} {M : List U} (hp : H p = some (.lst xs)) (hl : xs.length < sizeLine) (hh : Has (upd H p (.lst (xs ++ [y]))) M) (q : ∀ H', Has H' M → Nx H') : kAdd p Nx y H := ⟨xs, hp, hl, q _ hh⟩
def kLcL (K : PySem.W.Frag) (g : TG) (tt : TT) (te : TE) (vs : List Nat) (σ : St) (x : V) (H1 : Hp) (Q : VK) : Prop := ∃ a, x = .ref a ∧ (∃ xs, SqL K H1 a xs) ∧ kLc g tt te vs σ (Itl K a) H1 Q
theorem x_lcL {g : TG} {tt : TT} {vs : List Nat} (q : ta σ H fun x H1 => kLcL K g tt te vs σ x H1 Q) : tLc (iList K ta) g tt te vs σ H Q := q
theorem k_lcL {g : TG} {tt : TT} {vs : List Nat} (hh : Has H L) (Pv : Addr → Nat → Hp → Prop) (hp : H a = some (.lst xs)) (h0 : ∀ D H', Has H' ([(D, .lst [])] :: L) → Pv D 0 H') (hl : ∀ D i H, Pv D i H → H a = some (.lst xs))
    (hs : ∀ D i x H, xs[i]? = some x → Pv D i H → g x (wipe σ vs) H fun σ2 H2 => wipe σ2 vs = wipe σ vs ∧ tt σ2 H2 fun b H3 => if b = true then te σ2 H3 (kAdd D (Pv D (i + 1))) else Pv D (i + 1) H3)
    (hd : ∀ D H, Pv D xs.length H → Q (.ref D) H) : kLcL K g tt te vs σ (.ref a) H Q :=
  ⟨a, rfl, ⟨xs, SqL.of hp⟩, fun D hD => lc_list (K := K) (xs := xs) (Pv D) (h0 D _ (hh.nw hD)) (fun i H _ p => SqL.of (hl D i H p)) (fun i x H hi p => hs D i x H hi p) fun H p => hd D H p⟩
def kLcR (g : TG) (tt : TT) (te : TE) (vs : List Nat) (σ : St) (us : List V) (H1 : Hp) (Q : VK) : Prop := ∃ j : Int, us = [.int j] ∧ -(2 ^ 62) ≤ j ∧ j < 2 ^ 62 ∧ kLc g tt te vs σ (Itr 0 j.toNat) H1 Q
theorem x_lcR {g : TG} {tt : TT} {vs : List Nat} (q : tr σ H fun us H1 => kLcR g tt te vs σ us H1 Q) : tLc (iRng1 tr) g tt te vs σ H Q := q
theorem k_lcR {k : Nat} {tt : TT} {vs : List Nat} (hh : Has H L) (Pv : Addr → Nat → Hp → Prop) (hn : 0 ≤ n ∧ n ≤ 100000) (h0 : ∀ D H', Has H' ([(D, .lst [])] :: L) → Pv D 0 H')
    (hs : ∀ D (i : Nat) H, (i : Int) < n → Pv D i H → gName k (.int i) (wipe σ vs) H fun σ2 H2 => wipe σ2 vs = wipe σ vs ∧ tt σ2 H2 fun b H3 => if b = true then te σ2 H3 (kAdd D (Pv D (i + 1))) else Pv D (i + 1) H3)
    (hd : ∀ D H, Pv D n.toNat H → Q (.ref D) H) : kLcR (gName k) tt te vs σ [.int n] H Q :=
  ⟨n, rfl, by omega, by omega, fun D hD => lc_range (lo := 0) (Pv D) (h0 D _ (hh.nw hD)) (fun i H hi p => by
    have q := hs D i H (by omega) p
    rw [← Int.zero_add (i : Int)] at q
    exact q) fun H p => hd D H p⟩
theorem filt_true {α : Type} (l : List α) : l.filter (fun _ => true) = l := List.filter_eq_self.mpr fun _ _ => rfl
/-- [h z for z in zs if c z], the source a list that stands in L; the test and the element may lay new things, which are let go -/
theorem k_lcF {α : Type} {k : Nat} {tt : TT} (zs : List α) (g h : α → V) (c : α → Bool) (hh : Has H L) (ha : ∀ H', Has H' L → H' a = some (.lst (zs.map g))) (hz : zs.length ≤ 100000)
    (ht : ∀ z ∈ zs, ∀ D M H' (Q' : Bool → Hp → Prop), Has H' ([(D, .lst M)] :: L) → (∀ H'', Has H'' ([(D, .lst M)] :: L) → Q' (c z) H'') → tt ((wipe σ [k]).set k (some (g z))) H' Q')
    (hs : ∀ z ∈ zs, c z = true → ∀ D M H' (Q' : VK), Has H' ([(D, .lst M)] :: L) → (∀ H'', Has H'' ([(D, .lst M)] :: L) → Q' (h z) H'') → te ((wipe σ [k]).set k (some (g z))) H' Q')
    (q : ∀ D H', Has H' ([(D, .lst ((zs.filter c).map h))] :: L) → Q (.ref D) H') : kLcL K (gName k) tt te [k] σ (.ref a) H Q := by
  have hw : ∀ x, wipe ((wipe σ [k]).set k (some x)) [k] = wipe σ [k] := fun x => by
    show ((σ.set k none).set k (some x)).set k none = σ.set k none
    rw [List.set_set, List.set_set]
  refine k_lcL (L := L) hh (fun D i H' => Has H' ([(D, .lst (((zs.take i).filter c).map h))] :: L)) (ha H hh) (fun D H' h' => h') (fun D i H' h' => ha H' (h'.sub (Sub.skip Sub.rf))) (fun D i x H' hi h' => ?_) (fun D H' h' => ?_)
  · rw [List.getElem?_map] at hi
    obtain ⟨z, hz1, rfl⟩ := Option.map_eq_some_iff.mp hi
    have hm : z ∈ zs := List.mem_of_getElem? hz1
    have et : zs.take (i + 1) = zs.take i ++ [z] := by rw [List.take_add_one, hz1]; rfl
    refine ⟨hw _, ht z hm D _ H' _ h' fun H2 h2 => ?_⟩
    refine ifB (fun e => ?_) (fun e => ?_)
    · refine hs z hm e D _ H2 _ h2 fun H3 h3 => ?_
      refine ⟨_, h3.g0, ?_, ?_⟩
      · rw [sizeLine_eq, List.length_map]
        have l1 := List.length_filter_le c (zs.take i)
        have l2 := List.length_take_le i zs
        have l3 := List.length_take_le' i zs
        omega
      · rw [et, List.filter_append, List.map_append, List.filter_cons, if_pos e]
        exact h3.s0
    · rw [et, List.filter_append, List.filter_cons, if_neg (by rw [e]; decide)]
      simpa using h2
  · rw [List.length_map, List.take_length] at h'
    exact q D H' h'
theorem k_lcM {α : Type} {k : Nat} (zs : List α) (g h : α → V) (hh : Has H L) (ha : ∀ H', Has H' L → H' a = some (.lst (zs.map g))) (hz : zs.length ≤ 100000)
    (hs : ∀ z ∈ zs, ∀ D M H' (Q' : VK), Has H' ([(D, .lst M)] :: L) → (∀ H'', Has H'' ([(D, .lst M)] :: L) → Q' (h z) H'') → te ((wipe σ [k]).set k (some (g z))) H' Q')
    (q : ∀ D H', Has H' ([(D, .lst (zs.map h))] :: L) → Q (.ref D) H') : kLcL K (gName k) tYes te [k] σ (.ref a) H Q :=
  k_lcF zs g h (fun _ => true) hh ha hz (fun z _ D M H' Q' h' q' => q' H' h') (fun z hm _ => hs z hm) fun D H' h' => q D H' (by rw [filt_true] at h'; exact h')
/-- [h i for i in range(n) if c i] -/
theorem k_lcRF {k : Nat} {tt : TT} (h : Int → V) (c : Int → Bool) (hh : Has H L) (hn : 0 ≤ n ∧ n ≤ 100000)
    (ht : ∀ z : Int, 0 ≤ z → z < n → ∀ D M H' (Q' : Bool → Hp → Prop), Has H' ([(D, .lst M)] :: L) → (∀ H'', Has H'' ([(D, .lst M)] :: L) → Q' (c z) H'') → tt ((wipe σ [k]).set k (some (.int z))) H' Q')
    (hs : ∀ z : Int, 0 ≤ z → z < n → c z = true → ∀ D M H' (Q' : VK), Has H' ([(D, .lst M)] :: L) → (∀ H'', Has H'' ([(D, .lst M)] :: L) → Q' (h z) H'') → te ((wipe σ [k]).set k (some (.int z))) H' Q')
    (q : ∀ D H', Has H' ([(D, .lst (((rgI n).filter c).map h))] :: L) → Q (.ref D) H') : kLcR (gName k) tt te [k] σ [.int n] H Q := by
  have hw : ∀ x, wipe ((wipe σ [k]).set k (some x)) [k] = wipe σ [k] := fun x => by
    show ((σ.set k none).set k (some x)).set k none = σ.set k none
    rw [List.set_set, List.set_set]
  refine k_lcR (L := L) hh (fun D i H' => Has H' ([(D, .lst (((rgI i).filter c).map h))] :: L)) hn (fun D H' h' => h') (fun D i H' hi h' => ?_) (fun D H' h' => ?_)
  · have et : rgI ((i + 1 : Nat) : Int) = rgI i ++ [(i : Int)] := by
      unfold rgI
      rw [Int.toNat_natCast, Int.toNat_natCast, List.range_succ, List.map_append]
      rfl
    have lr : (rgI (i : Int)).length = i := by rw [rgI_len, Int.toNat_natCast]
    refine ⟨hw _, ht i (by omega) hi D _ H' _ h' fun H2 h2 => ?_⟩
    refine ifB (fun e => ?_) (fun e => ?_)
    · refine hs i (by omega) hi e D _ H2 _ h2 fun H3 h3 => ?_
      refine ⟨_, h3.g0, ?_, ?_⟩
      · rw [sizeLine_eq, List.length_map]
        have l1 := List.length_filter_le c (rgI i)
        omega
      · rw [et, List.filter_append, List.map_append, List.filter_cons, if_pos e]
        exact h3.s0
    · rw [et, List.filter_append, List.filter_cons, if_neg (by rw [e]; decide)]
      simpa using h2
  · rw [Int.toNat_of_nonneg hn.1] at h'
    exact q D H' h'
theorem k_lcRM {k : Nat} (h : Int → V) (hh : Has H L) (hn : 0 ≤ n ∧ n ≤ 100000)
    (hs : ∀ z : Int, 0 ≤ z → z < n → ∀ D M H' (Q' : VK), Has H' ([(D, .lst M)] :: L) → (∀ H'', Has H'' ([(D, .lst M)] :: L) → Q' (h z) H'') → te ((wipe σ [k]).set k (some (.int z))) H' Q')
    (q : ∀ D H', Has H' ([(D, .lst ((rgI n).map h))] :: L) → Q (.ref D) H') : kLcR (gName k) tYes te [k] σ [.int n] H Q :=
  k_lcRF h (fun _ => true) hh hn (fun z _ _ D M H' Q' h' q' => q' H' h') (fun z h0 h1 _ => hs z h0 h1) fun D H' h' => q D H' (by rw [filt_true] at h'; exact h')
theorem x_yes (q : QT true H) : tYes σ H QT := q
end
end Sy
/-! More rules: C.f(..) of a def read off its class; comprehensions over dicts. -/
namespace Sy
open PySem PySem.Spec PyProof.Rows L2
def tCFn (C : Addr) (sp : Sp) (dvs : List V) (E : XK) (ta : TE) (t : TA) : TE := fun σ H Q => ta σ H fun x H1 => x = .ref C ∧ t σ H1 fun vs H2 => sp (vs ++ dvs) H2 Q E
/-- what the text must say of C.f, a def -/
structure CFn (K : PySem.W.Frag) (C : Addr) (mc : Value) (m : Str) (f : Addr) : Prop where
  rd : PySem.W.readsIn K C mc = true
  ga : PySem.W.specialIn K (.ref C) "__getattribute__" = some (some (.builtin "type.__getattribute__"))
  at_ : PySem.W.findCls K (.ref C) mc m = some (.val (.ref f))
  kp : PySem.W.keepIn K (.ref f) = true
section
variable {X : Cx} {CX : CXT} {k : Nat} {f C : Addr} {fd : FuncData} {ps : List Str} {sp : Sp} {dvs : List V} {ds : List Value} {E : XK} {m : Str} {pos apos : Pos} {e o : Expr} {es : List Expr} {ta : TE} {t : TA} {mc : Value}
theorem pe_cfn {pl : Sem Bool} (he : PE X o ta) (c : CFn X.K C mc m f) (F : FnOk X.prog X.w X.K X.mg X.base CX k f fd ps sp) (hr : Room k X.A) (hb : Binds X.K fd ps ds) (hd : Vals dvs ds) (hx : Passes CX X E) (ha : PA X (e :: es) t)
    (hst : starEach (e :: es) X.env = (false, eval e X.env) :: starEach es X.env := by rfl) (hpl : (backTo pos (starEach es X.env)).any (·.1) = false := by rfl)
    (ht : eval (.Call (.Attribute o m apos) (e :: es) [] pos) X.env = (do
      let ov ← eval o X.env
      standAt apos.atName
      let (f, first) ← holding [ov] (getMethod ov m pl)
      callWith pos f first (backTo pos (starEach (e :: es) X.env)) (backToKw pos (keywordEach [] X.env))) := by rfl) :
    PE X (.Call (.Attribute o m apos) (e :: es) [] pos) (tCFn C sp dvs E ta t) := by
  refine ⟨fun pins s σ H Q I h => ?_⟩
  refine PySem.W.methodCall_KW (pl := pl) (thn (he.run pins s σ H _ I h) fun u s1 ⟨x, H1, I1, rx, ex, q⟩ => ?_) ht
  subst ex
  obtain rfl : u = Value.ref C := rx
  refine PySem.W.method_cls I1.kIn c.ga (PySem.W.cls_value I1.kIn c.rd c.at_ rfl ?_)
  have I2 := I1.tok (s1.toks + 1)
  refine PySem.W.callWith_K (first := []) (h₀ := X.base) I.ok.mod.kin c.kp (thn (ha.run pos pins _ σ H1 _ I2 q) fun us s2 ⟨vs, H2, I3, r, q2⟩ => ⟨I3.kIn, ?_⟩) hst hpl
  exact run_fn F hr hb hd hx I3 r q2
end
end Sy
namespace Sy
open PySem L2
section
variable {K : PySem.W.Frag} {σ : St} {H H1 : Hp} {L : List U} {Q : VK} {ta td te : TE} {tr : TA} {v x y z : V} {xs ys : List V} {i j n m : Int} {a b d p : Addr} {C : Addr} {nx bk ct : St → Hp → Prop} {rt : VK} {s1 : TS} {A : Prop}
def kCFn (C : Addr) (sp : Sp) (dvs : List V) (E : XK) (t : TA) (σ : St) (x : V) (H1 : Hp) (Q : VK) : Prop := x = .ref C ∧ t σ H1 fun vs H2 => sp (vs ++ dvs) H2 Q E
theorem x_cfn {sp : Sp} {dvs : List V} {E : XK} (q : ta σ H fun x H1 => kCFn C sp dvs E tr σ x H1 Q) : tCFn C sp dvs E ta tr σ H Q := q
theorem k_cfn0 {sp : Sp} {E : XK} (q : tr σ H fun vs H2 => sp vs H2 Q E) : kCFn C sp [] E tr σ (.ref C) H Q := by
  have e : (fun vs H1 => sp (vs ++ []) H1 Q E) = fun vs H1 => sp vs H1 Q E := by funext vs H1; rw [List.append_nil]
  refine ⟨rfl, ?_⟩
  rw [e]
  exact q
/-! ### a dict while it is walked -/
theorem dget_F {o : Obj} {mm : List (Int × V)} (hp : H a = some (.frz o (dI mm))) : DGet H a (.int i) (valV mm i) := by
  rw [← mk_val g1_inj mm i]
  exact .inl ⟨_, g1 i, .inr ⟨o, hp⟩, rfl, rfl⟩
theorem k_dgetF {o : Obj} {mm : List (Int × V)} (hp : H a = some (.frz o (dI mm))) (hv : valV mm i = some v) (q : Q v H) : kDGet (.ref a) (.int i) H Q := ⟨a, v, rfl, hv ▸ dget_F hp, q⟩
/-- the keys of a locked dict, with a test and an element -/
theorem lc_keysF {k : Nat} {tt : TT} {o : Obj} {mm : List (Int × V)} (h : Int → V) (c : Int → Bool) (hh : Has H L) (hd : ∀ H', Has H' L → H' d = some (.frz o (dI mm))) (hz : mm.length ≤ 100000)
    (ht : ∀ z ∈ mm.map (·.1), ∀ D M H' (Q' : Bool → Hp → Prop), Has H' ([(D, .lst M)] :: L) → (∀ H'', Has H'' ([(D, .lst M)] :: L) → Q' (c z) H'') → tt ((wipe σ [k]).set k (some (.int z))) H' Q')
    (hs : ∀ z ∈ mm.map (·.1), c z = true → ∀ D M H' (Q' : VK), Has H' ([(D, .lst M)] :: L) → (∀ H'', Has H'' ([(D, .lst M)] :: L) → Q' (h z) H'') → te ((wipe σ [k]).set k (some (.int z))) H' Q')
    (q : ∀ D H', Has H' ([(D, .lst (((mm.map (·.1)).filter c).map h))] :: L) → Q (.ref D) H') : kLc (gName k) tt te [k] σ (Itk d o (mk g1 mm)) H Q := by
  have hw : ∀ x, wipe ((wipe σ [k]).set k (some x)) [k] = wipe σ [k] := fun x => by
    show ((σ.set k none).set k (some x)).set k none = σ.set k none
    rw [List.set_set, List.set_set]
  intro D hD
  have hl : (mk g1 mm).length = mm.length := mk_len _ _
  refine ⟨fun i m H' => m = mm.length - i ∧ i ≤ mm.length ∧ Has H' ([(D, .lst ((((mm.map (·.1)).take i).filter c).map h))] :: L), ⟨mm.length, by simp, Nat.zero_le _, hh.nw hD⟩, ?_⟩
  rintro i m H' ⟨rfl, hi, p⟩
  have pl := hd H' (p.sub (Sub.skip Sub.rf))
  by_cases hlt : i < mm.length
  · refine .inr ⟨⟨pl, by rw [hl]; exact hlt⟩, fun H2 => Has H2 ([(D, .lst ((((mm.map (·.1)).take (i + 1)).filter c).map h))] :: L), fun H2 p2 => ⟨mm.length - (i + 1), by omega, rfl, hlt, p2⟩, fun x H2 y => ?_⟩
    obtain ⟨e, kk, vv, hk, ex⟩ := y
    subst e
    have hz1 : (mm.map (·.1))[i]? = some (mm[i]).1 := by rw [List.getElem?_map, List.getElem?_eq_getElem hlt]; rfl
    have hkk : kk = g1 (mm[i]).1 := by
      unfold mk at hk
      rw [List.getElem?_map, List.getElem?_eq_getElem hlt] at hk
      exact (congrArg Prod.fst (Option.some.inj hk)).symm
    subst hkk
    have ex : x = .int (mm[i]).1 := ex
    subst ex
    have hm : (mm[i]).1 ∈ mm.map (·.1) := List.mem_of_getElem? hz1
    have et : (mm.map (·.1)).take (i + 1) = (mm.map (·.1)).take i ++ [(mm[i]).1] := by rw [List.take_add_one, hz1]; rfl
    refine ⟨hw _, ht _ hm D _ H2 _ p fun H3 h3 => ?_⟩
    refine ifB (fun e => ?_) (fun e => ?_)
    · refine hs _ hm e D _ H3 _ h3 fun H4 h4 => ?_
      refine ⟨_, h4.g0, ?_, ?_⟩
      · rw [sizeLine_eq, List.length_map]
        have l1 := List.length_filter_le c ((mm.map (·.1)).take i)
        have l3 := List.length_take_le' i (mm.map (·.1))
        rw [List.length_map] at l3
        omega
      · rw [et, List.filter_append, List.map_append, List.filter_cons, if_pos e]
        exact h4.s0
    · rw [et, List.filter_append, List.filter_cons, if_neg (by rw [e]; decide)]
      simpa using h3
  · have e : i = mm.length := by omega
    subst e
    refine .inl ⟨⟨pl, by rw [hl]; exact Nat.le_refl _⟩, q D H' ?_⟩
    have e2 : (mm.map (·.1)).take mm.length = mm.map (·.1) := List.take_of_length_le (by rw [List.length_map]; exact Nat.le_refl _)
    rw [e2] at p
    exact p
/-- [h z for z in d if c z], d a dict that stands in what is known -/
theorem x_lcD {k : Nat} {tt : TT} {mm : List (Int × V)} (h : Int → V) (c : Int → Bool) (hh : Has H ([(d, dI mm)] :: L)) (hz : mm.length ≤ 100000)
    (htd : ∀ o H' (Q' : VK), Has H' ([(d, .frz o (dI mm))] :: L) → Q' (.ref d) H' → td σ H' Q')
    (ht : ∀ o, ∀ z ∈ mm.map (·.1), ∀ D M H' (Q' : Bool → Hp → Prop), Has H' ([(D, .lst M)] :: [(d, .frz o (dI mm))] :: L) → (∀ H'', Has H'' ([(D, .lst M)] :: [(d, .frz o (dI mm))] :: L) → Q' (c z) H'') → tt ((wipe σ [k]).set k (some (.int z))) H' Q')
    (hs : ∀ o, ∀ z ∈ mm.map (·.1), c z = true → ∀ D M H' (Q' : VK), Has H' ([(D, .lst M)] :: [(d, .frz o (dI mm))] :: L) → (∀ H'', Has H'' ([(D, .lst M)] :: [(d, .frz o (dI mm))] :: L) → Q' (h z) H'') → te ((wipe σ [k]).set k (some (.int z))) H' Q')
    (q : ∀ D H', Has H' ([(D, .lst (((mm.map (·.1)).filter c).map h))] :: [(d, dI mm)] :: L) → Q (.ref D) H') : tLockE (tLc (iKeys td) (gName k) tt te [k]) σ H Q := by
  refine ⟨d, dI mm, hh.g0, trivial, fun o => ?_⟩
  have h1 : Has (upd H d (.frz o (dI mm))) ([(d, .frz o (dI mm))] :: L) := hh.s0
  have z : kLc (gName k) tt te [k] σ (Itk d o (mk g1 mm)) (upd H d (.frz o (dI mm))) (fun v H' => H' d = some (.frz o (dI mm)) ∧ Q v (upd H' d (dI mm))) :=
    lc_keysF h c h1 (fun H' h' => h'.g0) hz (ht o) (hs o) fun D H' h' => ⟨h'.g1, q D _ h'.s1⟩
  exact htd o _ _ h1 ⟨d, o, rfl, .inl ⟨mk g1 mm, h1.g0, z⟩⟩
/-- x = [h z for z in d if c z] -/
theorem x_asgD {k l : Nat} {tt : TT} {mm : List (Int × V)} (h : Int → V) (c : Int → Bool) (hh : Has H ([(d, dI mm)] :: L)) (hz : mm.length ≤ 100000)
    (htd : ∀ o H' (Q' : VK), Has H' ([(d, .frz o (dI mm))] :: L) → Q' (.ref d) H' → td σ H' Q')
    (ht : ∀ o, ∀ z ∈ mm.map (·.1), ∀ D M H' (Q' : Bool → Hp → Prop), Has H' ([(D, .lst M)] :: [(d, .frz o (dI mm))] :: L) → (∀ H'', Has H'' ([(D, .lst M)] :: [(d, .frz o (dI mm))] :: L) → Q' (c z) H'') → tt ((wipe σ [k]).set k (some (.int z))) H' Q')
    (hs : ∀ o, ∀ z ∈ mm.map (·.1), c z = true → ∀ D M H' (Q' : VK), Has H' ([(D, .lst M)] :: [(d, .frz o (dI mm))] :: L) → (∀ H'', Has H'' ([(D, .lst M)] :: [(d, .frz o (dI mm))] :: L) → Q' (h z) H'') → te ((wipe σ [k]).set k (some (.int z))) H' Q')
    (q : ∀ D H', Has H' ([(D, .lst (((mm.map (·.1)).filter c).map h))] :: [(d, dI mm)] :: L) → nx (σ.set l (some (.ref D))) H') : tLock (tAsg (tLc (iKeys td) (gName k) tt te [k]) (gName l)) ⟨nx, rt, bk, ct⟩ σ H := by
  refine ⟨d, dI mm, hh.g0, trivial, fun o => ?_⟩
  have h1 : Has (upd H d (.frz o (dI mm))) ([(d, .frz o (dI mm))] :: L) := hh.s0
  have z : kLc (gName k) tt te [k] σ (Itk d o (mk g1 mm)) (upd H d (.frz o (dI mm))) (fun v H' => H' d = some (.frz o (dI mm)) ∧ nx (σ.set l (some v)) (upd H' d (dI mm))) :=
    lc_keysF h c h1 (fun H' h' => h'.g0) hz (ht o) (hs o) fun D H' h' => ⟨h'.g1, q D _ h'.s1⟩
  exact htd o _ _ h1 ⟨d, o, rfl, .inl ⟨mk g1 mm, h1.g0, z⟩⟩
/-! ### x in xs, whole numbers -/
theorem k_inI {neg : Bool} {ns : List Int} (hp : H p = some (.lst (ns.map V.int))) (q : Q (.bl (if neg then !decide (i ∈ ns) else decide (i ∈ ns))) H) : rIn K neg (.int i) (.ref p) H Q := by
  refine ⟨p, _, rfl, .inl (SqL.of hp), rfl, ?_, ?_⟩
  · rw [List.all_eq_true]
    intro y hy
    obtain ⟨z, _, rfl⟩ := List.mem_map.mp hy
    rfl
  · have e : inV (.int i) (ns.map V.int) = decide (i ∈ ns) := by
      unfold inV
      rw [List.any_map]
      by_cases h : i ∈ ns
      · rw [decide_eq_true h, List.any_eq_true]
        exact ⟨i, h, by simp [eqV]⟩
      · rw [decide_eq_false h, List.any_eq_false]
        intro z hz
        have : z ≠ i := fun e => h (e ▸ hz)
        simp [eqV, this]
    rw [e]
    exact q
theorem k_inIt {ns : List Int} (hp : H p = some (.lst (ns.map V.int))) (q : Q (.bl (decide (i ∈ ns))) H) : rIn K false (.int i) (.ref p) H Q := k_inI hp q
theorem k_inIf {ns : List Int} (hp : H p = some (.lst (ns.map V.int))) (q : Q (.bl (!decide (i ∈ ns))) H) : rIn K true (.int i) (.ref p) H Q := k_inI hp q
/-- [h z for .. in zs if c z], the target of any form: behind it the names are t z -/
theorem k_lcG {α : Type} {g : TG} {tt : TT} {vs : List Nat} (zs : List α) (e : α → V) (h : α → V) (c : α → Bool) (t : α → St) (hh : Has H L) (ha : ∀ H', Has H' L → H' a = some (.lst (zs.map e))) (hz : zs.length ≤ 100000) (hw : ∀ z ∈ zs, wipe (t z) vs = wipe σ vs)
    (hg : ∀ z ∈ zs, ∀ D M H' (Q' : St → Hp → Prop), Has H' ([(D, .lst M)] :: L) → Q' (t z) H' → g (e z) (wipe σ vs) H' Q')
    (ht : ∀ z ∈ zs, ∀ D M H' (Q' : Bool → Hp → Prop), Has H' ([(D, .lst M)] :: L) → (∀ H'', Has H'' ([(D, .lst M)] :: L) → Q' (c z) H'') → tt (t z) H' Q')
    (hs : ∀ z ∈ zs, c z = true → ∀ D M H' (Q' : VK), Has H' ([(D, .lst M)] :: L) → (∀ H'', Has H'' ([(D, .lst M)] :: L) → Q' (h z) H'') → te (t z) H' Q')
    (q : ∀ D H', Has H' ([(D, .lst ((zs.filter c).map h))] :: L) → Q (.ref D) H') : kLcL K g tt te vs σ (.ref a) H Q := by
  refine k_lcL (L := L) hh (fun D i H' => Has H' ([(D, .lst (((zs.take i).filter c).map h))] :: L)) (ha H hh) (fun D H' h' => h') (fun D i H' h' => ha H' (h'.sub (Sub.skip Sub.rf))) (fun D i x H' hi h' => ?_) (fun D H' h' => ?_)
  · rw [List.getElem?_map] at hi
    obtain ⟨z, hz1, rfl⟩ := Option.map_eq_some_iff.mp hi
    have hm : z ∈ zs := List.mem_of_getElem? hz1
    have et : zs.take (i + 1) = zs.take i ++ [z] := by rw [List.take_add_one, hz1]; rfl
    refine hg z hm D _ H' _ h' ⟨hw z hm, ht z hm D _ H' _ h' fun H2 h2 => ?_⟩
    refine ifB (fun e => ?_) (fun e => ?_)
    · refine hs z hm e D _ H2 _ h2 fun H3 h3 => ?_
      refine ⟨_, h3.g0, ?_, ?_⟩
      · rw [sizeLine_eq, List.length_map]
        have l1 := List.length_filter_le c (zs.take i)
        have l3 := List.length_take_le' i zs
        omega
      · rw [et, List.filter_append, List.map_append, List.filter_cons, if_pos e]
        exact h3.s0
    · rw [et, List.filter_append, List.filter_cons, if_neg (by rw [e]; decide)]
      simpa using h2
  · rw [List.length_map, List.take_length] at h'
    exact q D H' h'
theorem k_neDNN (q : Q (.bl false) H) : rNeD K .non .non H Q := ⟨.none, .none, .non, .non, by decide +kernel, by decide +kernel, by
  have e : PyData.eqv .none .none = true := by decide +kernel
  rw [e]; exact q⟩
theorem k_eqDNN (q : Q (.bl true) H) : rEqD K .non .non H Q := ⟨.none, .none, .non, .non, by decide +kernel, by decide +kernel, by
  have e : PyData.eqv .none .none = true := by decide +kernel
  rw [e]; exact q⟩
end
end Sy
/-! Rules of our own: d.pop(k) for keys that are tuples; comprehensions over such dicts; set(xs) of a list of whole numbers, sorted. -/
namespace Sy
open PySem PySem.W PySem.Calls PySem.Spec PyProof.Rows L2
section
variable {κ : Type} [DecidableEq κ] {prog : Program} {w : World} {knd : HeapKind prog w κ}
theorem meetsPop1 {d b : Addr} {k : κ} (hd : (d == sysModules) = false) :
    MeetsIn prog w (Builtin.«dict.pop» ⟨[.ref d, .ref b], []⟩) (fun A R s => ∃ xs p, knd.room A.in1 ∧ knd.is s.heap k b ∧ s.heap.DictOfH knd d xs ∧ xs.length ≤ sizeLine ∧ atKey xs k = some p ∧
      ∀ h' tk, h'.DictOfH knd d (DT.dropH xs k) → Heap.SameBut d s.heap h' → R (.ok (.ret p.2)) { s with heap := h', toks := tk }) :=
  .of_wp fun A R s ⟨xs, p, hu, hkey, hm, hsz, hp, hsome⟩ => by
    obtain ⟨o, es, ep, ho, hc, hdat, he, his, hn⟩ := id hm
    have hpart : (keyPart (Value.ref b)).isSome = false := rfl
    have hes : es.size = xs.length := by rw [← Array.length_toList, he, List.length_map]
    unfold Builtin.«dict.pop»
    refine wpAny_bind ?_
    unfold Builtin.Dict.keyAndDefault
    refine wpAny_bind (wpAny_notOrdered_dict hm.typeIs ?_)
    show wpAny _ _ (pure (d, Value.ref b, none)) _ _ s
    refine wpAny_pure ?_
    simp only [hpart, Bool.false_eq_true, if_false]
    refine wpAny_bind (wpAny_dictEntries ho hdat (wpAny_bind (wpAny_pure ?_)))
    have hem : es.isEmpty = false := by
      cases hq : es.isEmpty with
      | false => rfl
      | true =>
        have z : es.size = 0 := by simpa using hq
        have z2 : xs = [] := List.length_eq_zero_iff.mp (by omega)
        rw [z2] at hp
        cases hp
    rw [hem]
    simp only [Bool.false_eq_true, if_false]
    refine wpAny_bind (DT.takeH hu hkey hm hsz (fun hno => absurd (hno.symm.trans hp) (fun z => nomatch z)) fun p' e hp' hev h' hm' hs' => ?_)
    simp only [Option.isNone_some, Bool.false_eq_true, if_false]
    have e2 : p' = p := Option.some.inj (hp'.symm.trans hp)
    subst e2
    exact wpAny_bind (wpAny_letGo (wpAny_pure ⟨e.val, rfl, by rw [hev]; exact hsome h' _ hm' hs'⟩))
end
/-- d.pop(k), k a tuple that is there -/
def tDPopT (td ty : TE) : TE := fun σ H Q => td σ H fun x H1 => ∃ a, x = .ref a ∧ IsD H1 a ∧ ty σ H1 fun y H2 => ∃ kvs k b v, H2 a = some (.dT kvs) ∧ y = .ref b ∧ H2 b = some (.tup (k.map kV)) ∧ valV kvs k = some v ∧ Q v (upd H2 a (.dT (dropK kvs k)))
section
variable {X : Cx} {o e : Expr} {apos cpos : Pos} {td ty : TE}
theorem pe_dpopT (hu : X.A.units + 1 < cLine) (ho : PE X o td) (he : PE X e ty) (m : M1 X o "pop" apos e cpos) : PE X (.Call (.Attribute o "pop" apos) [e] [] cpos) (tDPopT td ty) := by
  refine ⟨fun pins s σ H Q I h => ?_⟩
  refine wpAny_Call_method m.base m.few m.line PySem.F.plainAttrs_dict PySem.F.slot_dict_pop PySem.F.type_dict_pop (thn (ho.run pins s σ H _ I h) fun u s1 ⟨x, H1, I1, rx, a, ex, d, q1⟩ => ?_)
  subst ex
  obtain rfl : u = Value.ref a := rx
  obtain ⟨t1, t2, _⟩ := isD_at I1 d
  refine ⟨t1, t2, ?_⟩
  rw [m.trees]
  refine Calls.callWith_builtin rfl (Calls.evalArgs_plain (Calls.spliced_cons (thn (he.run pins s1 σ H1 _ I1 q1) fun iv s2 ⟨y, H2, I2, ry, kvs, k, b, v, ea, ey, eb, l, q2⟩ => Calls.spliced_nil ?_)))
  subst ey
  obtain rfl : iv = Value.ref b := ry
  obtain ⟨z, hd, xs, rel, dd⟩ := dt_of I2.hok ea
  have hz : xs.length ≤ sizeLine := by rw [← Paired.length rel]; exact z
  have r := rel.val k
  rw [l] at r
  obtain ⟨p, hp, rp⟩ : ∃ p, atKey xs k = some p ∧ RelV v p.2 := by
    cases ev : atKey xs k with
    | none => rw [ev] at r; exact (show False from r).elim
    | some p => rw [ev] at r; exact ⟨p, rfl, r⟩
  refine call_meetsIn PySem.F.slot_dict_pop dd.typeIs PySem.F.entry_dict_pop (PySem.F.args_dict_pop_2 _ _) (meetsPop1 (knd := tupleKind (mixKind X.prog X.w)) (k := k) hd)
    ⟨xs, p, tupleKind_room_in1 hu, key_of I2.hok eb, dd, hz, hp, fun h' tk dd' hs => ?_⟩
  obtain ⟨o, es, ep, hq, h2, h3, h4, _, h5⟩ := dd'
  have I3 : Inv X pins σ (upd H2 a (.dT (dropK kvs k))) { s2 with heap := h', toks := tk } :=
    d_write I2 (by rw [ea]; exact True.intro) hs ⟨o, hq⟩ ⟨Nat.le_trans (dropK_le kvs k) z, hd, _, (DX.KT_drop k rel).keeps (fun c ys ec => (by rw [upd_ne (ne_of ec ea (fun z => nomatch z))]; exact ec)), o, es, ep, hq, h2, h3, h4, h5⟩
  exact ⟨v, _, I3, rp, q2⟩
end
section
variable {P : Program} {w : World} {A : Around} {E : Value → Shared → Prop} {s : Shared}
abbrev freshSet (w : World) : Obj := { cls := .type "set", dict := none, data := .set #[] 0 (.fresh 0 0 (!w.params.followText "set-order")) }
set_option maxHeartbeats 3200000 in
theorem call_set_ints {l : Addr} {items : Array Value} (ns : List Int) {Q : Value → Shared → Prop} (hh : A.handled = none) (hl : s.heap.IsList l items) (hit : IntsAre items.toList ns) (hb : ns.length + 1 < scanBound)
    (h : ∀ (h' : Heap) (tk c : Nat), SetR w h' s.heap.objs.size (fun j => decide (j ∈ ns)) c → c ≤ ns.length → (∀ b o, s.heap.get? b = some o → h'.get? b = some o) → Q (.ref s.heap.objs.size) { s with heap := h', toks := tk }) :
    wpAny (model P w) A (call (.type "set") [.ref l]) Q E s := by
  have hisz : items.size = ns.length := by
    have q := IntsAre.length hit
    rw [Array.length_toList] at q
    exact q
  obtain ⟨c, tl, hmro⟩ := F.called_set.mro
  have hmade := F.called_set.made
  have hsub := F.called_set.sub
  refine wpAny_call (codeAny_of_tree ?_)
  show wpAny _ _ (callAny (.type "set") _) _ _ _
  refine wpAny_pure ⟨Code.quiet_builtin _ (by decide +kernel), codeAny_builtin F.entry_type_call ?_⟩
  rw [Around.under_plain (weight_type_call_type "set" [.ref l] []) rfl]
  have h1 := F.called_set.notType
  have h2 := F.called_set.canCreate
  have hct := F.typeCall_set_1 (.ref l)
  repeat (any_goals (first | assumption | wp_step))
  refine codeAny_mono (code_set_led1 (.ref l) (E := E) (Q₁ := fun obj s₁ => obj = .ref s.heap.objs.size ∧ s₁ = { s with heap := s.heap.push (freshSet w) }) ⟨rfl, rfl⟩) fun r s₁ hr => ?_
  match r, hr with
  | .error e, hr => exact hr
  | .ok (.ret obj), hr =>
    obtain ⟨rfl, rfl⟩ := hr
    have hS : (s.heap.push (freshSet w)).get? s.heap.objs.size = some (freshSet w) := Heap.get?_push_size _ rfl
    have hT : Shared.TypeIs { s with heap := s.heap.push (freshSet w) } (.ref s.heap.objs.size) "set" := ⟨_, hS, rfl⟩
    have hli := F.called_set.init.lookup
    have hbi := F.called_set.init.bind (.ref s.heap.objs.size)
    repeat (any_goals (first | assumption | wp_step))
    refine codeAny_mono (codeAny_call_builtin (R := wants (fun r s₂ => r = .none ∧ ∃ h' tk c, s₂ = { s with heap := h', toks := tk } ∧ SetR w h' s.heap.objs.size (fun j => decide (j ∈ ns)) c ∧ c ≤ ns.length ∧
        (∀ b o, s.heap.get? b = some o → h'.get? b = some o)) E) F.called_set.init.plain F.entry_set_init (check_set_init_1 hT ?_)) fun r₂ s₂ hr₂ => ?_
    · obtain ⟨ol, hol, hcl, nl, hdl⟩ := hl
      obtain ⟨ocls, odict, odata, oslots⟩ := ol
      simp only at hcl hdl
      subst hcl; subst hdl
      have hol' : (s.heap.push (freshSet w)).get? l = some { cls := .type "list", dict := odict, data := .seq items nl, slots := oslots } := Heap.get?_push_of_some _ hol
      have hsls := F.sub_list_set
      have hslf := F.sub_list_frozenset
      have hne : (Value.type "list" == Value.type "dict") = false := by decide
      have hl1 : (s.heap.push (freshSet w)).IsList l items := ⟨_, hol', rfl, nl, rfl⟩
      unfold Builtin.«set.__init__» noKeywords Builtin.Frozenset.updateFrom
      generalize hPI : pyIter = PI
      wp_walk
      subst hPI
      refine wpAny_pyIter_list hl1 ?_
      refine wpAny_bind (wpAny_runValue ?_)
      have hlS : l < s.heap.objs.size := Heap.lt_size hol
      have hsp : (s.heap.push (freshSet w)).objs.size = s.heap.objs.size + 1 := Heap.size_push ..
      have hneI : l ≠ (s.heap.push (freshSet w)).objs.size := by rw [hsp]; exact Nat.ne_of_lt (Nat.lt_succ_of_lt hlS)
      have hSf : s.heap.objs.size ∉ [(s.heap.push (freshSet w)).objs.size, l] := by
        simp only [List.mem_cons, List.not_mem_nil, or_false, not_or]
        exact ⟨by rw [hsp]; exact Nat.ne_of_lt (Nat.lt_succ_self _), Nat.ne_of_gt hlS⟩
      have hval : ∀ (i : Nat) (v : Value), items[i]? = some v → ∃ k t, ns[i]? = some k ∧ v = .int k t := fun i v hv => by
        have hi : i < ns.length := by rw [← hisz]; exact (Array.getElem?_eq_some_iff.mp hv).1
        obtain ⟨t, e⟩ := PyProof.Rows.IntsAre.int_at hit i v (by rw [Array.getElem?_toList]; exact hv)
        refine ⟨ns[i], t, List.getElem?_eq_getElem hi, ?_⟩
        rw [e, List.getD_eq_getElem?_getD, List.getElem?_eq_getElem hi] <;> rfl
      refine set_update_ints ((Walks.list (by simp [hh]) _ l hneI items).toS) s.heap.objs.size hSf ns hisz hb hval (items.size - 0) 0 _ (by omega) (Nat.zero_le _)
        ⟨⟨_, Heap.get?_push_size _ rfl, rfl, rfl⟩, hl1.push _⟩ ⟨0, Nat.le_refl 0, setR_new_at (Heap.get?_push_of_some _ hS)⟩ fun s' c' hm hc' hS' => ?_
      obtain ⟨h', g2, d', tk', os'⟩ := s'
      have eg : g2 = s.gens := hm.gens
      have ed : d' = s.drawn := hm.drawn
      have eo : os' = s.os := hm.os
      subst eg; subst ed; subst eo
      show wpAny _ _ _ _ _ _
      refine wpAny_pure ?_
      show wpAny _ _ (ret Value.none) _ _ _
      rw [hisz] at hc'
      refine wpAny_pure ⟨rfl, h', tk', c', rfl, hS', hc', fun b o e => ?_⟩
      have hb0 : b < s.heap.objs.size := Heap.lt_size e
      exact hm.heap b o (by simp only [List.mem_cons, List.not_mem_nil, or_false, not_or]; exact ⟨Nat.ne_of_lt hb0, by rw [hsp]; exact Nat.ne_of_lt (Nat.lt_succ_of_lt hb0)⟩) (Heap.get?_push_of_some _ (Heap.get?_push_of_some _ e))
    · match r₂, hr₂ with
      | .error e, hr₂ => exact hr₂
      | .ok (.ret r), hr₂ =>
        obtain ⟨rfl, h', tk, c', rfl, hS', hc', hk'⟩ := hr₂
        repeat (any_goals (first | assumption | wp_step))
        exact h _ _ _ hS' hc' hk'
      | .ok .next, hr₂ => exact hr₂.elim
      | .ok .brk, hr₂ => exact hr₂.elim
      | .ok .cont, hr₂ => exact hr₂.elim
  | .ok .next, hr => exact hr.elim
  | .ok .brk, hr => exact hr.elim
  | .ok .cont, hr => exact hr.elim
end
/-- set(xs), whole numbers -/
def rSetOf (K : PySem.W.Frag) (w : World) : List V → Hp → VK → Prop := fun vs H Q => ∃ (p : Addr) (ns : List Int), vs = [.ref p] ∧ SqL K H p (ns.map V.int) ∧ ns.length ≤ 1000 ∧
  ∀ q c, H q = none → c ≤ ns.length → Q (.ref q) (upd H q (SetO w q (fun j => decide (j ∈ ns)) c))
section
variable {X : Cx}
theorem call_setOf (hc : X.calm = true) : CallR X (.type "set") (rSetOf X.K X.w) := by
  intro pins s σ H vs us Q I r h
  obtain ⟨p, ns, rfl, hp, hl, q⟩ := h
  rw [Vals.ref1 r]
  obtain ⟨its, rv, pt, _⟩ := I.list hp
  have hi : IntsAre its.toArray.toList ns := ints_of_vals rv
  refine call_set_ints ns (I.ok.hd hc) pt.isList hi (by unfold scanBound; omega) fun h' tk c R1 hcn k => ?_
  have hn : H s.heap.objs.size = none := I.hok.fresh (Nat.le_refl _)
  exact ⟨.ref s.heap.objs.size, _, I.laid (t' := tk) (fun b u e => k b u e) (Nat.le_refl _) (setO_new R1), rfl, q _ c hn hcn⟩
end
/-- sorted(set(xs)), whole numbers -/
def tSSet (K : PySem.W.Frag) (t : TA) : TE := fun σ H Q => ∀ w : World, t σ H fun vs H1 => rSetOf K w vs H1 fun v H2 => rSortedSet w [v] H2 Q
section
variable {X : Cx} {e : Expr} {t : TA} {p p2 pos pos2 : Pos}
theorem pe_sset (hc : X.calm = true) (hg : Gl X "sorted") (hm : X.mg "sorted" = none) (hg2 : Gl X "set") (hm2 : X.mg "set" = none) (ha : PA X [e] t)
    (hs2 : starEach [e] X.env = [(false, eval e X.env)] := by rfl)
    (hs : starEach [.Call (.Name "set" p2) [e] [] pos2] X.env = [(false, eval (.Call (.Name "set" p2) [e] [] pos2) X.env)] := by rfl) :
    PE X (.Call (.Name "sorted" p) [.Call (.Name "set" p2) [e] [] pos2] [] pos) (tSSet X.K t) := by
  have h1 : PE X (.Call (.Name "sorted" p) [.Call (.Name "set" p2) [e] [] pos2] [] pos) (tCB (rSortedSet X.w) (tCons (tCB (rSetOf X.K X.w) t) tNil)) :=
    pe_callB (cr_sortedSet hc) hg hm (by decide +kernel) (pa_cons (pe_callTy (call_setOf hc) hg2 hm2 (by decide +kernel) ha (by decide) (by decide) hs2 rfl) pa_nil) (by decide) (by decide) hs rfl
  exact ⟨fun pins s σ H Q I h => h1.run pins s σ H Q I (h X.w)⟩
end
end Sy
namespace Sy
open PySem L2
section
variable {K : PySem.W.Frag} {σ : St} {H H1 : Hp} {L : List U} {Q : VK} {ta td te ty : TE} {tr : TA} {v x y z : V} {xs ys : List V} {i j n m : Int} {a b d p : Addr} {C : Addr} {nx bk ct : St → Hp → Prop} {rt : VK} {s1 : TS} {A : Prop}
def kSSet (K : PySem.W.Frag) (w : World) (vs : List V) (H1 : Hp) (Q : VK) : Prop := rSetOf K w vs H1 fun v H2 => rSortedSet w [v] H2 Q
theorem x_sset (q : ∀ w, tr σ H fun vs H1 => kSSet K w vs H1 Q) : tSSet K tr σ H Q := q
theorem k_sset {w : World} {ns : List Int} (hh : Has H L) (hp : H p = some (.lst (ns.map V.int))) (hl : ns.length < 64)
    (q : ∀ (ys : List Int) d H', ys.Pairwise (· < ·) → (∀ k, k ∈ ys ↔ k ∈ ns) → Has H' ([(d, .lst (ys.map V.int))] :: L) → Q (.ref d) H') : kSSet K w [.ref p] H Q := by
  refine ⟨p, ns, rfl, SqL.of hp, by omega, fun r c hr hc => ?_⟩
  have h1 := hh.nw (o := SetO w r (fun j => decide (j ∈ ns)) c) hr
  refine ⟨r, _, c, rfl, h1.g0, by omega, fun ys d hs hm _ hd => q ys d _ hs (fun k => (hm k).trans (by simp)) ?_⟩
  exact (h1.nw hd).sub (Sub.p0 (Sub.skip Sub.rf))
def kDPopT (a : Addr) (y : V) (H2 : Hp) (Q : VK) : Prop := ∃ kvs k b v, H2 a = some (.dT kvs) ∧ y = .ref b ∧ H2 b = some (.tup (k.map kV)) ∧ valV kvs k = some v ∧ Q v (upd H2 a (.dT (dropK kvs k)))
theorem x_dpopT (q : td σ H fun x H1 => kIsD x H1 fun a => ty σ H1 fun y H2 => kDPopT a y H2 Q) : tDPopT td ty σ H Q := q
theorem k_dpopT {mm : List ((Int × Int) × V)} {M : List U} (hp : H a = some (dP mm)) (hb : H b = some (.tup [.int i, .int j])) (hv : valV mm (i, j) = some v) (hh : Has (upd H a (dP (dropK mm (i, j)))) M) (q : ∀ H', Has H' M → Q v H') : kDPopT a (.ref b) H Q := by
  refine ⟨_, g2 (i, j), b, v, hp, rfl, hb, by rw [mk_val g2_inj]; exact hv, ?_⟩
  rw [mk_drop g2_inj]
  exact q _ hh
theorem dget_FP {o : Obj} {mm : List ((Int × Int) × V)} (hp : H a = some (.frz o (dP mm))) (hb : H b = some (.tup [.int i, .int j])) : DGet H a (.ref b) (valV mm (i, j)) := by
  rw [← mk_val g2_inj mm (i, j)]
  exact .inr ⟨_, g2 (i, j), b, .inr ⟨o, hp⟩, rfl, hb, rfl⟩
theorem k_dgetFP {o : Obj} {mm : List ((Int × Int) × V)} (hp : H a = some (.frz o (dP mm))) (hb : H b = some (.tup [.int i, .int j])) (hv : valV mm (i, j) = some v) (q : Q v H) : kDGet (.ref a) (.ref b) H Q := ⟨a, v, rfl, hv ▸ dget_FP hp hb, q⟩
/-- the keys of a locked dict, pairs, with a test and an element; behind the target the names are t -/
theorem lc_keysT {g : TG} {tt : TT} {o : Obj} {vs : List Nat} {mm : List ((Int × Int) × V)} (h : Int × Int → V) (c : Int × Int → Bool) (t : Addr → Int × Int → St) (hh : Has H L) (hd : ∀ H', Has H' L → H' d = some (.frz o (dP mm))) (hz : mm.length ≤ 100000)
    (hw : ∀ q, ∀ z ∈ mm.map (·.1), wipe (t q z) vs = wipe σ vs)
    (hg : ∀ q, ∀ z ∈ mm.map (·.1), ∀ D M H' (Q' : St → Hp → Prop), H' q = some (.tup [.int z.1, .int z.2]) → Has H' ([(D, .lst M)] :: L) → Q' (t q z) H' → g (.ref q) (wipe σ vs) H' Q')
    (ht : ∀ q, ∀ z ∈ mm.map (·.1), ∀ D M H' (Q' : Bool → Hp → Prop), H' q = some (.tup [.int z.1, .int z.2]) → Has H' ([(D, .lst M)] :: L) → (∀ H'', H'' q = some (.tup [.int z.1, .int z.2]) → Has H'' ([(D, .lst M)] :: L) → Q' (c z) H'') → tt (t q z) H' Q')
    (hs : ∀ q, ∀ z ∈ mm.map (·.1), c z = true → ∀ D M H' (Q' : VK), H' q = some (.tup [.int z.1, .int z.2]) → Has H' ([(D, .lst M)] :: L) → (∀ H'', Has H'' ([(D, .lst M)] :: L) → Q' (h z) H'') → te (t q z) H' Q')
    (q : ∀ D H', Has H' ([(D, .lst (((mm.map (·.1)).filter c).map h))] :: L) → Q (.ref D) H') : kLc g tt te vs σ (Itkt d o (mk g2 mm)) H Q := by
  intro D hD
  have hl : (mk g2 mm).length = mm.length := mk_len _ _
  refine ⟨fun i m H' => m = mm.length - i ∧ i ≤ mm.length ∧ Has H' ([(D, .lst ((((mm.map (·.1)).take i).filter c).map h))] :: L), ⟨mm.length, by simp, Nat.zero_le _, hh.nw hD⟩, ?_⟩
  rintro i m H' ⟨rfl, hi, p⟩
  have pl := hd H' (p.sub (Sub.skip Sub.rf))
  by_cases hlt : i < mm.length
  · refine .inr ⟨⟨pl, by rw [hl]; exact hlt⟩, fun H2 => Has H2 ([(D, .lst ((((mm.map (·.1)).take (i + 1)).filter c).map h))] :: L), fun H2 p2 => ⟨mm.length - (i + 1), by omega, rfl, hlt, p2⟩, fun x H2 y => ?_⟩
    obtain ⟨e, kk, vv, r, hk, ex, hr⟩ := y
    subst e
    have hz1 : (mm.map (·.1))[i]? = some (mm[i]).1 := by rw [List.getElem?_map, List.getElem?_eq_getElem hlt]; rfl
    have hkk : kk = g2 (mm[i]).1 := by
      unfold mk at hk
      rw [List.getElem?_map, List.getElem?_eq_getElem hlt] at hk
      exact (congrArg Prod.fst (Option.some.inj hk)).symm
    subst hkk ex
    have hr : H2 r = some (.tup [.int (mm[i]).1.1, .int (mm[i]).1.2]) := hr
    have hm : (mm[i]).1 ∈ mm.map (·.1) := List.mem_of_getElem? hz1
    have et : (mm.map (·.1)).take (i + 1) = (mm.map (·.1)).take i ++ [(mm[i]).1] := by rw [List.take_add_one, hz1]; rfl
    refine hg r _ hm D _ H2 _ hr p ⟨hw r _ hm, ht r _ hm D _ H2 _ hr p fun H3 hr3 h3 => ?_⟩
    refine ifB (fun e => ?_) (fun e => ?_)
    · refine hs r _ hm e D _ H3 _ hr3 h3 fun H4 h4 => ?_
      refine ⟨_, h4.g0, ?_, ?_⟩
      · rw [sizeLine_eq, List.length_map]
        have l1 := List.length_filter_le c ((mm.map (·.1)).take i)
        have l3 := List.length_take_le' i (mm.map (·.1))
        rw [List.length_map] at l3
        omega
      · rw [et, List.filter_append, List.map_append, List.filter_cons, if_pos e]
        exact h4.s0
    · rw [et, List.filter_append, List.filter_cons, if_neg (by rw [e]; decide)]
      simpa using h3
  · have e : i = mm.length := by omega
    subst e
    refine .inl ⟨⟨pl, by rw [hl]; exact Nat.le_refl _⟩, q D H' ?_⟩
    have e2 : (mm.map (·.1)).take mm.length = mm.map (·.1) := List.take_of_length_le (by rw [List.length_map]; exact Nat.le_refl _)
    rw [e2] at p
    exact p
/-- [h z for .. in d if c z], d a dict of pairs that stands in what is known -/
theorem x_lcT {g : TG} {tt : TT} {vs : List Nat} {mm : List ((Int × Int) × V)} (h : Int × Int → V) (c : Int × Int → Bool) (t : Addr → Int × Int → St) (hh : Has H ([(d, dP mm)] :: L)) (hz : mm.length ≤ 100000)
    (hw : ∀ q, ∀ z ∈ mm.map (·.1), wipe (t q z) vs = wipe σ vs)
    (htd : ∀ o H' (Q' : VK), Has H' ([(d, .frz o (dP mm))] :: L) → Q' (.ref d) H' → td σ H' Q')
    (hg : ∀ o q, ∀ z ∈ mm.map (·.1), ∀ D M H' (Q' : St → Hp → Prop), H' q = some (.tup [.int z.1, .int z.2]) → Has H' ([(D, .lst M)] :: [(d, .frz o (dP mm))] :: L) → Q' (t q z) H' → g (.ref q) (wipe σ vs) H' Q')
    (ht : ∀ o q, ∀ z ∈ mm.map (·.1), ∀ D M H' (Q' : Bool → Hp → Prop), H' q = some (.tup [.int z.1, .int z.2]) → Has H' ([(D, .lst M)] :: [(d, .frz o (dP mm))] :: L) → (∀ H'', H'' q = some (.tup [.int z.1, .int z.2]) → Has H'' ([(D, .lst M)] :: [(d, .frz o (dP mm))] :: L) → Q' (c z) H'') → tt (t q z) H' Q')
    (hs : ∀ o q, ∀ z ∈ mm.map (·.1), c z = true → ∀ D M H' (Q' : VK), H' q = some (.tup [.int z.1, .int z.2]) → Has H' ([(D, .lst M)] :: [(d, .frz o (dP mm))] :: L) → (∀ H'', Has H'' ([(D, .lst M)] :: [(d, .frz o (dP mm))] :: L) → Q' (h z) H'') → te (t q z) H' Q')
    (q : ∀ D H', Has H' ([(D, .lst (((mm.map (·.1)).filter c).map h))] :: [(d, dP mm)] :: L) → Q (.ref D) H') : tLockE (tLc (iKeys td) g tt te vs) σ H Q := by
  refine ⟨d, dP mm, hh.g0, trivial, fun o => ?_⟩
  have h1 : Has (upd H d (.frz o (dP mm))) ([(d, .frz o (dP mm))] :: L) := hh.s0
  have z : kLc g tt te vs σ (Itkt d o (mk g2 mm)) (upd H d (.frz o (dP mm))) (fun v H' => H' d = some (.frz o (dP mm)) ∧ Q v (upd H' d (dP mm))) :=
    lc_keysT h c t h1 (fun H' h' => h'.g0) hz hw (hg o) (ht o) (hs o) fun D H' h' => ⟨h'.g1, q D _ h'.s1⟩
  exact htd o _ _ h1 ⟨d, o, rfl, .inr ⟨mk g2 mm, h1.g0, z⟩⟩
theorem x_asgT {g : TG} {l : Nat} {tt : TT} {vs : List Nat} {mm : List ((Int × Int) × V)} (h : Int × Int → V) (c : Int × Int → Bool) (t : Addr → Int × Int → St) (hh : Has H ([(d, dP mm)] :: L)) (hz : mm.length ≤ 100000)
    (hw : ∀ q, ∀ z ∈ mm.map (·.1), wipe (t q z) vs = wipe σ vs)
    (htd : ∀ o H' (Q' : VK), Has H' ([(d, .frz o (dP mm))] :: L) → Q' (.ref d) H' → td σ H' Q')
    (hg : ∀ o q, ∀ z ∈ mm.map (·.1), ∀ D M H' (Q' : St → Hp → Prop), H' q = some (.tup [.int z.1, .int z.2]) → Has H' ([(D, .lst M)] :: [(d, .frz o (dP mm))] :: L) → Q' (t q z) H' → g (.ref q) (wipe σ vs) H' Q')
    (ht : ∀ o q, ∀ z ∈ mm.map (·.1), ∀ D M H' (Q' : Bool → Hp → Prop), H' q = some (.tup [.int z.1, .int z.2]) → Has H' ([(D, .lst M)] :: [(d, .frz o (dP mm))] :: L) → (∀ H'', H'' q = some (.tup [.int z.1, .int z.2]) → Has H'' ([(D, .lst M)] :: [(d, .frz o (dP mm))] :: L) → Q' (c z) H'') → tt (t q z) H' Q')
    (hs : ∀ o q, ∀ z ∈ mm.map (·.1), c z = true → ∀ D M H' (Q' : VK), H' q = some (.tup [.int z.1, .int z.2]) → Has H' ([(D, .lst M)] :: [(d, .frz o (dP mm))] :: L) → (∀ H'', Has H'' ([(D, .lst M)] :: [(d, .frz o (dP mm))] :: L) → Q' (h z) H'') → te (t q z) H' Q')
    (q : ∀ D H', Has H' ([(D, .lst (((mm.map (·.1)).filter c).map h))] :: [(d, dP mm)] :: L) → nx (σ.set l (some (.ref D))) H') : tLock (tAsg (tLc (iKeys td) g tt te vs) (gName l)) ⟨nx, rt, bk, ct⟩ σ H := by
  refine ⟨d, dP mm, hh.g0, trivial, fun o => ?_⟩
  have h1 : Has (upd H d (.frz o (dP mm))) ([(d, .frz o (dP mm))] :: L) := hh.s0
  have z : kLc g tt te vs σ (Itkt d o (mk g2 mm)) (upd H d (.frz o (dP mm))) (fun v H' => H' d = some (.frz o (dP mm)) ∧ nx (σ.set l (some v)) (upd H' d (dP mm))) :=
    lc_keysT h c t h1 (fun H' h' => h'.g0) hz hw (hg o) (ht o) (hs o) fun D H' h' => ⟨h'.g1, q D _ h'.s1⟩
  exact htd o _ _ h1 ⟨d, o, rfl, .inr ⟨mk g2 mm, h1.g0, z⟩⟩
/-- x in t, texts -/
theorem k_inS {neg : Bool} {ss : List Str} {x : Str} (hp : H p = some (.tup (ss.map V.str))) (q : Q (.bl (if neg then !decide (x ∈ ss) else decide (x ∈ ss))) H) : rIn K neg (.str x) (.ref p) H Q := by
  refine ⟨p, _, rfl, .inr (SqT.of hp), rfl, ?_, ?_⟩
  · rw [List.all_eq_true]
    intro y hy
    obtain ⟨z, _, rfl⟩ := List.mem_map.mp hy
    rfl
  · have e : inV (.str x) (ss.map V.str) = decide (x ∈ ss) := by
      unfold inV
      rw [List.any_map]
      by_cases h : x ∈ ss
      · rw [decide_eq_true h, List.any_eq_true]
        exact ⟨x, h, by simp [eqV]⟩
      · rw [decide_eq_false h, List.any_eq_false]
        intro z hz
        have : z ≠ x := fun e => h (e ▸ hz)
        simp [eqV, this]
    rw [e]
    exact q
end
end Sy
/-! Lists of pairs of whole numbers: sorted, ==; xs.remove, xs.count. -/
namespace Sy
open PySem L2
/-- new objects, each with what it bears -/
def fmU {β : Type} (ob : β → HO) (m : List (Addr × β)) : U := m.map fun q => (q.1, ob q.2)
def fmR {β : Type} (m : List (Addr × β)) : List V := m.map fun q => V.ref q.1
abbrev Prs := List (Addr × (Int × Int))
def obP (q : Int × Int) : HO := .tup [.int q.1, .int q.2]
abbrev prU (m : Prs) : U := fmU obP m
abbrev prR (m : Prs) : List V := fmR m
theorem fmU_snoc {β : Type} (ob : β → HO) (m : List (Addr × β)) (t : Addr) (b : β) : fmU ob (m ++ [(t, b)]) = fmU ob m ++ [(t, ob b)] := by unfold fmU; rw [List.map_append]; rfl
theorem fmR_snoc {β : Type} (m : List (Addr × β)) (t : Addr) (b : β) : fmR (m ++ [(t, b)]) = fmR m ++ [.ref t] := by unfold fmR; rw [List.map_append]; rfl
theorem Has.fms {β : Type} {ob : β → HO} {H : Hp} {zs : List (Addr × β)} {L : List U} (h : Has H (fmU ob zs :: L)) : ∀ q ∈ zs, H q.1 = some (ob q.2) := fun q hq => h.2 (q.1, ob q.2) (List.mem_append.mpr (.inl (List.mem_map.mpr ⟨q, hq, rfl⟩)))
/-- a before b, or alike -/
def leP (a b : Int × Int) : Prop := a.1 < b.1 ∨ (a.1 = b.1 ∧ a.2 ≤ b.2)
section
variable {K : PySem.W.Frag} {σ : St} {H H1 : Hp} {L : List U} {Q : VK} {a b d p : Addr}
theorem Has.prs {zs : Prs} (h : Has H (prU zs :: L)) : ∀ q ∈ zs, H q.1 = some (.tup [.int q.2.1, .int q.2.2]) := fun q hq => h.2 (q.1, .tup [.int q.2.1, .int q.2.2]) (List.mem_append.mpr (.inl (List.mem_map.mpr ⟨q, hq, rfl⟩)))
def keyP (zs : Prs) (x : V) : Int × Int := ((zs.find? fun q => match x with | .ref t => decide (q.1 = t) | _ => false).map (·.2)).getD (0, 0)
theorem keyP_of : ∀ {zs : Prs}, (zs.map (·.1)).Nodup → ∀ q ∈ zs, keyP zs (.ref q.1) = q.2
  | [], _, q, hq => by cases hq
  | z :: r, nd, q, hq => by
    have nd2 := List.nodup_cons.mp (show (z.1 :: r.map (·.1)).Nodup from nd)
    rcases List.mem_cons.mp hq with e | e
    · subst e
      simp [keyP, List.find?_cons]
    · have hne : ¬ z.1 = q.1 := fun h => nd2.1 (h ▸ List.mem_map.mpr ⟨q, e, rfl⟩)
      have ih := keyP_of nd2.2 q e
      unfold keyP at ih ⊢
      rw [List.find?_cons]
      simp only [decide_eq_false hne]
      exact ih
theorem k_sortP {zs : Prs} (hh : Has H (prU zs :: L)) (hp : H p = some (.lst (prR zs)))
    (q : ∀ (ys : Prs) d H', ys.Perm zs → (ys.map (·.2)).Pairwise leP → Has H' ([(d, .lst (prR ys))] :: prU zs :: L) → Q (.ref d) H') : rSortedPO K [.ref p] H Q := by
  have nd : (zs.map (·.1)).Nodup := by
    have h1 := hh.1
    rw [show (prU zs :: L).flatten = prU zs ++ L.flatten from rfl, List.map_append] at h1
    have h2 := (List.nodup_append.mp h1).1
    unfold prU fmU at h2
    rw [List.map_map] at h2
    exact h2
  have key := keyP_of nd
  have fam := hh.prs
  refine ⟨p, prR zs, keyP zs, rfl, SqL.of hp, fun x hx => ?_, fun vs d hs ht hd => ?_⟩
  · obtain ⟨z, hz, rfl⟩ := List.mem_map.mp hx
    refine ⟨z.1, rfl, ?_⟩
    rw [key z hz]
    exact fam z hz
  · obtain ⟨ys, py, ey⟩ := perm_lift (fun q : Addr × (Int × Int) => V.ref q.1) ht.perm zs rfl
    subst ey
    refine q ys d _ py ?_ (hh.nw hd)
    have hs2 : (ys.map fun q : Addr × (Int × Int) => V.ref q.1).Pairwise fun x y => SrtO.lexB (keyP zs y) (keyP zs x) = false := hs
    rw [List.pairwise_map] at hs2 ⊢
    refine List.Pairwise.imp_of_mem (fun {x y} hx hy h => ?_) hs2
    rw [key x (py.mem_iff.mp hx), key y (py.mem_iff.mp hy)] at h
    have h2 := SrtO.lexB_no.mp h
    unfold leP
    omega
theorem leP_uniq {xs ys : List (Int × Int)} (h1 : xs.Pairwise leP) (h2 : ys.Pairwise leP) (p : xs.Perm ys) : xs = ys := p.eq_of_pairwise (fun a b _ _ h h' => by
  unfold leP at h h'
  exact Prod.ext (by omega) (by omega)) h1 h2
theorem dpAll_prs {zs : Prs} (f : ∀ q ∈ zs, H q.1 = some (.tup [.int q.2.1, .int q.2.2])) : DpAll K H (prR zs) ((zs.map (·.2)).map fun q => PyData.tuple [.int q.1, .int q.2]) := by
  induction zs with
  | nil => exact .nil
  | cons z r ih => exact .cons (.tup (SqT.of (f z (List.mem_cons.mpr (.inl rfl)))) (.cons (.int _) (.cons (.int _) .nil))) (ih fun q hq => f q (List.mem_cons_of_mem _ hq))
def pd (q : Int × Int) : PyData := .tuple [.int q.1, .int q.2]
theorem eqv_prs (ns : List (Int × Int)) : ∀ ms : List (Int × Int), PyData.eqv (.list (ns.map pd)) (.list (ms.map pd)) = decide (ns = ms) := by
  induction ns with
  | nil =>
    intro ms
    cases ms with
    | nil => rfl
    | cons m r => rfl
  | cons n r ih =>
    intro ms
    cases ms with
    | nil => rfl
    | cons m s =>
      have h := ih s
      simp [PyData.eqv, PyData.eqvAll, pd] at h ⊢
      rw [h]
      by_cases e1 : n = m
      · subst e1; by_cases e2 : r = s <;> simp [e2]
      · have e3 : ¬ (n.1 = m.1 ∧ n.2 = m.2) := fun z => e1 (Prod.ext z.1 z.2)
        simp [e1]
        intro z1 z2
        exact absurd ⟨z1, z2⟩ e3
theorem lay_prs (ns : List (Int × Int)) : PyData.canLayAll0 (ns.map pd) = true := by
  induction ns with
  | nil => simp [PyData.canLayAll0]
  | cons n r ih => simp [PyData.canLayAll0, PyData.canLay0, pd] ; exact ih
theorem deep_prs (ns : List (Int × Int)) : PyData.depthAll (ns.map pd) ≤ 2 := by
  induction ns with
  | nil => simp [PyData.depthAll]
  | cons n r ih => simp [PyData.depthAll, PyData.depth, pd]; omega
theorem shaped_prs (ns : List (Int × Int)) : SeqAt.shaped (.list (ns.map pd)) = true := by
  have h := deep_prs ns
  simp [SeqAt.shaped, PyData.canLay0, lay_prs, PyData.depth]
  omega
theorem k_eqLP {zs ws : Prs} (hp : H a = some (.lst (prR zs))) (hq : H b = some (.lst (prR ws))) (fz : ∀ q ∈ zs, H q.1 = some (.tup [.int q.2.1, .int q.2.2])) (fw : ∀ q ∈ ws, H q.1 = some (.tup [.int q.2.1, .int q.2.2])) (q : Q (.bl (decide (zs.map (·.2) = ws.map (·.2)))) H) : rEqD K (.ref a) (.ref b) H Q :=
  ⟨_, _, .lst (SqL.of hp) (dpAll_prs fz), .lst (SqL.of hq) (dpAll_prs fw), shaped_prs _, shaped_prs _, by rw [show (fun q : Int × Int => PyData.tuple [.int q.1, .int q.2]) = pd from rfl, eqv_prs]; exact q⟩
theorem k_neLP {zs ws : Prs} (hp : H a = some (.lst (prR zs))) (hq : H b = some (.lst (prR ws))) (fz : ∀ q ∈ zs, H q.1 = some (.tup [.int q.2.1, .int q.2.2])) (fw : ∀ q ∈ ws, H q.1 = some (.tup [.int q.2.1, .int q.2.2])) (q : Q (.bl (!decide (zs.map (·.2) = ws.map (·.2)))) H) : rNeD K (.ref a) (.ref b) H Q :=
  ⟨_, _, .lst (SqL.of hp) (dpAll_prs fz), .lst (SqL.of hq) (dpAll_prs fw), shaped_prs _, shaped_prs _, by rw [show (fun q : Int × Int => PyData.tuple [.int q.1, .int q.2]) = pd from rfl, eqv_prs]; exact q⟩
/-- one more of the new objects -/
theorem fm_add {β : Type} {ob : β → HO} {D t : Addr} {m : List (Addr × β)} {b : β} (h : Has H ([(t, ob b)] :: [(D, .lst (fmR m))] :: fmU ob m :: L)) : Has (upd H D (.lst (fmR m ++ [.ref t]))) ([(D, .lst (fmR (m ++ [(t, b)])))] :: fmU ob (m ++ [(t, b)]) :: L) := by
  have h1 : Has (upd H D (.lst (fmR m ++ [.ref t]))) ([(t, ob b)] :: [(D, .lst (fmR m ++ [.ref t]))] :: fmU ob m :: L) := h.s1
  rw [fmR_snoc, fmU_snoc]
  exact (Has.op.mpr (h1.sub (show Sub (fmU ob m :: [(t, ob b)] :: _) _ from Sub.p2 (Sub.p0 Sub.rf)))).sub (Sub.p1 (Sub.p0 Sub.rf))
/-- [new object for .. in zs if c z] -/
theorem k_lcN {α β : Type} {g : TG} {tt : TT} {te : TE} {vs : List Nat} (zs : List α) (e : α → V) (ob : β → HO) (h : α → β) (c : α → Bool) (t : α → St) (hh : Has H L) (ha : ∀ H', Has H' L → H' a = some (.lst (zs.map e))) (hz : zs.length ≤ 100000) (hw : ∀ z ∈ zs, wipe (t z) vs = wipe σ vs)
    (hg : ∀ z ∈ zs, ∀ D m H' (Q' : St → Hp → Prop), Has H' ([(D, .lst (fmR m))] :: fmU ob m :: L) → Q' (t z) H' → g (e z) (wipe σ vs) H' Q')
    (ht : ∀ z ∈ zs, ∀ D m H' (Q' : Bool → Hp → Prop), Has H' ([(D, .lst (fmR m))] :: fmU ob m :: L) → (∀ H'', Has H'' ([(D, .lst (fmR m))] :: fmU ob m :: L) → Q' (c z) H'') → tt (t z) H' Q')
    (hs : ∀ z ∈ zs, c z = true → ∀ D m H' (Q' : VK), Has H' ([(D, .lst (fmR m))] :: fmU ob m :: L) → (∀ u H'', Has H'' ([(u, ob (h z))] :: [(D, .lst (fmR m))] :: fmU ob m :: L) → Q' (.ref u) H'') → te (t z) H' Q')
    (q : ∀ D m H', m.map (·.2) = (zs.filter c).map h → Has H' ([(D, .lst (fmR m))] :: fmU ob m :: L) → Q (.ref D) H') : kLcL K g tt te vs σ (.ref a) H Q := by
  refine k_lcL (L := L) hh (fun D i H' => ∃ m : List (Addr × β), m.map (·.2) = ((zs.take i).filter c).map h ∧ Has H' ([(D, .lst (fmR m))] :: fmU ob m :: L)) (ha H hh) (fun D H' h' => ⟨[], rfl, (Has.nilU.mpr h').sub (Sub.p1 (Sub.p0 Sub.rf))⟩) (fun D i H' h' => ha H' (h'.choose_spec.2.sub (Sub.skip (Sub.skip Sub.rf)))) (fun D i x H' hi h' => ?_) (fun D H' h' => ?_)
  · obtain ⟨m, em, h'⟩ := h'
    rw [List.getElem?_map] at hi
    obtain ⟨z, hz1, rfl⟩ := Option.map_eq_some_iff.mp hi
    have hm : z ∈ zs := List.mem_of_getElem? hz1
    have et : zs.take (i + 1) = zs.take i ++ [z] := by rw [List.take_add_one, hz1]; rfl
    refine hg z hm D m H' _ h' ⟨hw z hm, ht z hm D m H' _ h' fun H2 h2 => ?_⟩
    refine ifB (fun e => ?_) (fun e => ?_)
    · refine hs z hm e D m H2 _ h2 fun u H3 h3 => ?_
      refine ⟨_, h3.g1, ?_, m ++ [(u, h z)], ?_, fm_add h3⟩
      · rw [sizeLine_eq]
        unfold fmR
        rw [List.length_map]
        have l0 := congrArg List.length em
        rw [List.length_map, List.length_map] at l0
        have l1 := List.length_filter_le c (zs.take i)
        have l3 := List.length_take_le' i zs
        omega
      · rw [et, List.filter_append, List.map_append, List.map_append, em, List.filter_cons, if_pos e]
        rfl
    · refine ⟨m, ?_, h2⟩
      rw [et, List.filter_append, List.filter_cons, if_neg (by rw [e]; decide), em]
      simp
  · obtain ⟨m, em, h'⟩ := h'
    rw [List.length_map, List.take_length] at em
    exact q D m H' em h'
/-- the keys of a locked dict, pairs, with a test; the elements are new objects -/
theorem lc_keysTN {β : Type} {g : TG} {tt : TT} {te : TE} {o : Obj} {vs : List Nat} {mm : List ((Int × Int) × V)} (ob : β → HO) (h : Int × Int → β) (c : Int × Int → Bool) (t : Addr → Int × Int → St) (hh : Has H L) (hd : ∀ H', Has H' L → H' d = some (.frz o (dP mm))) (hz : mm.length ≤ 100000)
    (hw : ∀ q, ∀ z ∈ mm.map (·.1), wipe (t q z) vs = wipe σ vs)
    (hg : ∀ q, ∀ z ∈ mm.map (·.1), ∀ D m H' (Q' : St → Hp → Prop), H' q = some (.tup [.int z.1, .int z.2]) → Has H' ([(D, .lst (fmR m))] :: fmU ob m :: L) → Q' (t q z) H' → g (.ref q) (wipe σ vs) H' Q')
    (ht : ∀ q, ∀ z ∈ mm.map (·.1), ∀ D m H' (Q' : Bool → Hp → Prop), H' q = some (.tup [.int z.1, .int z.2]) → Has H' ([(D, .lst (fmR m))] :: fmU ob m :: L) → (∀ H'', H'' q = some (.tup [.int z.1, .int z.2]) → Has H'' ([(D, .lst (fmR m))] :: fmU ob m :: L) → Q' (c z) H'') → tt (t q z) H' Q')
    (hs : ∀ q, ∀ z ∈ mm.map (·.1), c z = true → ∀ D m H' (Q' : VK), H' q = some (.tup [.int z.1, .int z.2]) → Has H' ([(D, .lst (fmR m))] :: fmU ob m :: L) → (∀ u H'', Has H'' ([(u, ob (h z))] :: [(D, .lst (fmR m))] :: fmU ob m :: L) → Q' (.ref u) H'') → te (t q z) H' Q')
    (q : ∀ D m H', m.map (·.2) = ((mm.map (·.1)).filter c).map h → Has H' ([(D, .lst (fmR m))] :: fmU ob m :: L) → Q (.ref D) H') : kLc g tt te vs σ (Itkt d o (mk g2 mm)) H Q := by
  intro D hD
  have hl : (mk g2 mm).length = mm.length := mk_len _ _
  refine ⟨fun i m H' => m = mm.length - i ∧ i ≤ mm.length ∧ ∃ ms : List (Addr × β), ms.map (·.2) = (((mm.map (·.1)).take i).filter c).map h ∧ Has H' ([(D, .lst (fmR ms))] :: fmU ob ms :: L), ⟨mm.length, by simp, Nat.zero_le _, [], rfl, (Has.nilU.mpr (hh.nw hD)).sub (Sub.p1 (Sub.p0 Sub.rf))⟩, ?_⟩
  rintro i m H' ⟨rfl, hi, ms, em, p⟩
  have pl := hd H' (p.sub (Sub.skip (Sub.skip Sub.rf)))
  by_cases hlt : i < mm.length
  · refine .inr ⟨⟨pl, by rw [hl]; exact hlt⟩, fun H2 => ∃ ms : List (Addr × β), ms.map (·.2) = (((mm.map (·.1)).take (i + 1)).filter c).map h ∧ Has H2 ([(D, .lst (fmR ms))] :: fmU ob ms :: L), fun H2 p2 => ⟨mm.length - (i + 1), by omega, rfl, hlt, p2⟩, fun x H2 y => ?_⟩
    obtain ⟨e, kk, vv, r, hk, ex, hr⟩ := y
    subst e
    have hz1 : (mm.map (·.1))[i]? = some (mm[i]).1 := by rw [List.getElem?_map, List.getElem?_eq_getElem hlt]; rfl
    have hkk : kk = g2 (mm[i]).1 := by
      unfold mk at hk
      rw [List.getElem?_map, List.getElem?_eq_getElem hlt] at hk
      exact (congrArg Prod.fst (Option.some.inj hk)).symm
    subst hkk ex
    have hr : H2 r = some (.tup [.int (mm[i]).1.1, .int (mm[i]).1.2]) := hr
    have hm : (mm[i]).1 ∈ mm.map (·.1) := List.mem_of_getElem? hz1
    have et : (mm.map (·.1)).take (i + 1) = (mm.map (·.1)).take i ++ [(mm[i]).1] := by rw [List.take_add_one, hz1]; rfl
    refine hg r _ hm D ms H2 _ hr p ⟨hw r _ hm, ht r _ hm D ms H2 _ hr p fun H3 hr3 h3 => ?_⟩
    refine ifB (fun e => ?_) (fun e => ?_)
    · refine hs r _ hm e D ms H3 _ hr3 h3 fun u H4 h4 => ?_
      refine ⟨_, h4.g1, ?_, ms ++ [(u, h (mm[i]).1)], ?_, fm_add h4⟩
      · rw [sizeLine_eq]
        unfold fmR
        rw [List.length_map]
        have l0 := congrArg List.length em
        rw [List.length_map, List.length_map] at l0
        have l1 := List.length_filter_le c ((mm.map (·.1)).take i)
        have l3 := List.length_take_le' i (mm.map (·.1))
        rw [List.length_map] at l3
        omega
      · rw [et, List.filter_append, List.map_append, List.map_append, em, List.filter_cons, if_pos e]
        rfl
    · refine ⟨ms, ?_, h3⟩
      rw [et, List.filter_append, List.filter_cons, if_neg (by rw [e]; decide), em]
      simp
  · have e : i = mm.length := by omega
    subst e
    have e2 : (mm.map (·.1)).take mm.length = mm.map (·.1) := List.take_of_length_le (by rw [List.length_map]; exact Nat.le_refl _)
    rw [e2] at em
    exact .inl ⟨⟨pl, by rw [hl]; exact Nat.le_refl _⟩, q D ms H' em p⟩
theorem x_lcTN {β : Type} {td te : TE} {g : TG} {tt : TT} {vs : List Nat} {mm : List ((Int × Int) × V)} (ob : β → HO) (h : Int × Int → β) (c : Int × Int → Bool) (t : Addr → Int × Int → St) (hh : Has H ([(d, dP mm)] :: L)) (hz : mm.length ≤ 100000)
    (hw : ∀ q, ∀ z ∈ mm.map (·.1), wipe (t q z) vs = wipe σ vs)
    (htd : ∀ o H' (Q' : VK), Has H' ([(d, .frz o (dP mm))] :: L) → Q' (.ref d) H' → td σ H' Q')
    (hg : ∀ o q, ∀ z ∈ mm.map (·.1), ∀ D m H' (Q' : St → Hp → Prop), H' q = some (.tup [.int z.1, .int z.2]) → Has H' ([(D, .lst (fmR m))] :: fmU ob m :: [(d, .frz o (dP mm))] :: L) → Q' (t q z) H' → g (.ref q) (wipe σ vs) H' Q')
    (ht : ∀ o q, ∀ z ∈ mm.map (·.1), ∀ D m H' (Q' : Bool → Hp → Prop), H' q = some (.tup [.int z.1, .int z.2]) → Has H' ([(D, .lst (fmR m))] :: fmU ob m :: [(d, .frz o (dP mm))] :: L) → (∀ H'', H'' q = some (.tup [.int z.1, .int z.2]) → Has H'' ([(D, .lst (fmR m))] :: fmU ob m :: [(d, .frz o (dP mm))] :: L) → Q' (c z) H'') → tt (t q z) H' Q')
    (hs : ∀ o q, ∀ z ∈ mm.map (·.1), c z = true → ∀ D m H' (Q' : VK), H' q = some (.tup [.int z.1, .int z.2]) → Has H' ([(D, .lst (fmR m))] :: fmU ob m :: [(d, .frz o (dP mm))] :: L) → (∀ u H'', Has H'' ([(u, ob (h z))] :: [(D, .lst (fmR m))] :: fmU ob m :: [(d, .frz o (dP mm))] :: L) → Q' (.ref u) H'') → te (t q z) H' Q')
    (q : ∀ D m H', m.map (·.2) = ((mm.map (·.1)).filter c).map h → Has H' ([(D, .lst (fmR m))] :: fmU ob m :: [(d, dP mm)] :: L) → Q (.ref D) H') : tLockE (tLc (iKeys td) g tt te vs) σ H Q := by
  refine ⟨d, dP mm, hh.g0, trivial, fun o => ?_⟩
  have h1 : Has (upd H d (.frz o (dP mm))) ([(d, .frz o (dP mm))] :: L) := hh.s0
  have z : kLc g tt te vs σ (Itkt d o (mk g2 mm)) (upd H d (.frz o (dP mm))) (fun v H' => H' d = some (.frz o (dP mm)) ∧ Q v (upd H' d (dP mm))) :=
    lc_keysTN ob h c t h1 (fun H' h' => h'.g0) hz hw (hg o) (ht o) (hs o) fun D m H' em h' => ⟨h'.g2, q D m _ em h'.s2⟩
  exact htd o _ _ h1 ⟨d, o, rfl, .inr ⟨mk g2 mm, h1.g0, z⟩⟩
/-- xs.remove(k), xs.count(k) -/
theorem k_rem {ns : List Int} {k : Int} {M : List U} (hp : H a = some (.lst (ns.map V.int))) (hk : k ∈ ns) (hh : Has (upd H a (.lst ((ns.erase k).map V.int))) M) (q : ∀ H', Has H' M → Q .non H') : rRemI (.ref a) [.int k] H Q := by
  obtain ⟨j, h1, h2, h3, h4⟩ : ∃ j, j < ns.length ∧ ns[j]? = some k ∧ (∀ i, i < j → ns[i]? ≠ some k) ∧ ns.eraseIdx j = ns.erase k := by
    clear hp hh q
    induction ns with
    | nil => cases hk
    | cons z r ih =>
      by_cases e : z = k
      · exact ⟨0, Nat.succ_pos _, by rw [e]; rfl, fun i hi => absurd hi (Nat.not_lt_zero _), by rw [e, List.erase_cons_head]; rfl⟩
      · obtain ⟨j, h1, h2, h3, h4⟩ := ih ((List.mem_cons.mp hk).resolve_left fun z => e z.symm)
        refine ⟨j + 1, Nat.succ_lt_succ h1, h2, fun i hi => ?_, ?_⟩
        · cases i with
          | zero => exact fun z => e (Option.some.inj z)
          | succ i => exact h3 i (Nat.lt_of_succ_lt_succ hi)
        · rw [List.erase_cons_tail (by simpa using e), ← h4]
          rfl
  refine ⟨a, ns, k, j, rfl, rfl, hp, h2, h3, ?_⟩
  rw [h4]
  exact q _ hh
theorem k_cnt {ns : List Int} {k : Int} (hp : H a = some (.lst (ns.map V.int))) (q : Q (.int (ns.count k : Nat)) H) : rCntI K (.ref a) [.int k] H Q := ⟨a, ns, k, rfl, rfl, SqL.of hp, q⟩
/-! ### rows: a list of lists, each by itself -/
abbrev Rows := List (Addr × List Int)
def obL (l : List Int) : HO := .lst (l.map V.int)
theorem fm_out {β : Type} {ob : β → HO} {A B : List (Addr × β)} {b : β} (h : Has H (fmU ob (A ++ (a, b) :: B) :: L)) : Has H ([(a, ob b)] :: fmU ob A :: fmU ob B :: L) := by
  have e : fmU ob (A ++ (a, b) :: B) = fmU ob A ++ ([(a, ob b)] ++ fmU ob B) := by unfold fmU; rw [List.map_append]; rfl
  rw [e] at h
  exact (Has.op.mp ((Has.op.mp h).sub (show Sub ((_ ++ _) :: fmU ob A :: L) _ from Sub.p1 (Sub.p0 Sub.rf)))).sub (Sub.p0 (Sub.p1 (Sub.p0 Sub.rf)))
theorem fm_in {β : Type} {ob : β → HO} {A B : List (Addr × β)} {b : β} (h : Has H ([(a, ob b)] :: fmU ob A :: fmU ob B :: L)) : Has H (fmU ob (A ++ (a, b) :: B) :: L) := by
  have e : fmU ob (A ++ (a, b) :: B) = fmU ob A ++ ([(a, ob b)] ++ fmU ob B) := by unfold fmU; rw [List.map_append]; rfl
  rw [e]
  refine Has.op.mpr ?_
  exact (Has.op.mpr (h.sub (show Sub ([(a, ob b)] :: fmU ob B :: fmU ob A :: L) _ from Sub.p0 (Sub.p1 (Sub.p0 Sub.rf))))).sub (Sub.p1 (Sub.p0 Sub.rf))
theorem split_at {α : Type} : ∀ {l : List α} {k : Nat} {q : α}, l[k]? = some q → ∃ A B, l = A ++ q :: B ∧ A.length = k
  | [], k, q, h => by simp at h
  | x :: r, 0, q, h => ⟨[], r, by rw [show x = q from Option.some.inj h]; rfl, rfl⟩
  | x :: r, k + 1, q, h => by
    obtain ⟨A, B, e, el⟩ := split_at (l := r) (k := k) (q := q) h
    exact ⟨x :: A, B, by rw [e]; rfl, by rw [← el]; rfl⟩
theorem fmR_mid {β : Type} {A B : List (Addr × β)} {b c : β} : fmR (A ++ (a, b) :: B) = fmR (A ++ (a, c) :: B) := by unfold fmR; rw [List.map_append, List.map_append]; rfl
theorem fmR_at {β : Type} {A B : List (Addr × β)} {b : β} {k : Int} (k0 : 0 ≤ k) (h : A.length = k.toNat) : atI (fmR (A ++ (a, b) :: B)) k = some (.ref a) := by
  refine at_n k0 ?_
  unfold fmR
  rw [List.map_append, List.getElem?_append_right (by rw [List.length_map]; omega), List.length_map, h, Nat.sub_self]
  rfl
theorem k_lcRN {β : Type} {te : TE} {k : Nat} {n : Int} (ob : β → HO) (h : Int → β) (hh : Has H L) (hn : 0 ≤ n ∧ n ≤ 100000)
    (hs : ∀ z : Int, 0 ≤ z → z < n → ∀ D m H' (Q' : VK), Has H' ([(D, .lst (fmR m))] :: fmU ob m :: L) → (∀ u H'', Has H'' ([(u, ob (h z))] :: [(D, .lst (fmR m))] :: fmU ob m :: L) → Q' (.ref u) H'') → te ((wipe σ [k]).set k (some (.int z))) H' Q')
    (q : ∀ D m H', m.map (·.2) = (rgI n).map h → Has H' ([(D, .lst (fmR m))] :: fmU ob m :: L) → Q (.ref D) H') : kLcR (gName k) tYes te [k] σ [.int n] H Q := by
  have hw : ∀ x, wipe ((wipe σ [k]).set k (some x)) [k] = wipe σ [k] := fun x => by
    show ((σ.set k none).set k (some x)).set k none = σ.set k none
    rw [List.set_set, List.set_set]
  refine k_lcR (L := L) hh (fun D i H' => ∃ m : List (Addr × β), m.map (·.2) = (rgI i).map h ∧ Has H' ([(D, .lst (fmR m))] :: fmU ob m :: L)) hn (fun D H' h' => ⟨[], rfl, (Has.nilU.mpr h').sub (Sub.p1 (Sub.p0 Sub.rf))⟩) (fun D i H' hi h' => ?_) (fun D H' h' => ?_)
  · obtain ⟨m, em, h'⟩ := h'
    have et : rgI ((i + 1 : Nat) : Int) = rgI i ++ [(i : Int)] := by
      unfold rgI
      rw [Int.toNat_natCast, Int.toNat_natCast, List.range_succ, List.map_append]
      rfl
    have lr : (rgI (i : Int)).length = i := by rw [rgI_len, Int.toNat_natCast]
    refine ⟨hw _, ?_⟩
    refine x_yes (ifT (hs i (by omega) hi D m H' _ h' fun u H3 h3 => ?_))
    refine ⟨_, h3.g1, ?_, m ++ [(u, h i)], ?_, fm_add h3⟩
    · rw [sizeLine_eq]
      unfold fmR
      rw [List.length_map]
      have l0 := congrArg List.length em
      rw [List.length_map, List.length_map] at l0
      omega
    · rw [et, List.map_append, List.map_append, em]
      rfl
  · obtain ⟨m, em, h'⟩ := h'
    rw [Int.toNat_of_nonneg hn.1] at em
    exact q D m H' em h'
/-- b in bs, truths -/
theorem k_inB {neg : Bool} {bs : List Bool} {b : Bool} (hp : H p = some (.lst (bs.map V.bl))) (q : Q (.bl (if neg then !decide (b ∈ bs) else decide (b ∈ bs))) H) : rIn K neg (.bl b) (.ref p) H Q := by
  refine ⟨p, _, rfl, .inl (SqL.of hp), rfl, ?_, ?_⟩
  · rw [List.all_eq_true]
    intro y hy
    obtain ⟨z, _, rfl⟩ := List.mem_map.mp hy
    rfl
  · have e : inV (.bl b) (bs.map V.bl) = decide (b ∈ bs) := by
      unfold inV
      rw [List.any_map]
      by_cases h : b ∈ bs
      · rw [decide_eq_true h, List.any_eq_true]
        exact ⟨b, h, by simp [eqV]⟩
      · rw [decide_eq_false h, List.any_eq_false]
        intro z hz
        have : z ≠ b := fun e => h (e ▸ hz)
        cases b <;> cases z <;> simp_all [eqV]
    rw [e]
    exact q
theorem perm_mem {α : Type} [DecidableEq α] : ∀ {l m : List α}, l.Nodup → m.Nodup → (∀ z, z ∈ l ↔ z ∈ m) → l.Perm m
  | [], m, _, _, h => by
    cases m with
    | nil => exact .refl _
    | cons a r => exact absurd ((h a).mpr (List.mem_cons.mpr (.inl rfl))) List.not_mem_nil
  | a :: r, m, nl, nm, h => by
    have ha : a ∈ m := (h a).mp (List.mem_cons.mpr (.inl rfl))
    have nl2 := List.nodup_cons.mp nl
    have ih := perm_mem (l := r) (m := m.erase a) nl2.2 (nm.erase _) fun z => by
      rw [nm.mem_erase_iff]
      constructor
      · intro hz
        exact ⟨fun e => nl2.1 (e ▸ hz), (h z).mp (List.mem_cons_of_mem _ hz)⟩
      · intro hz
        rcases List.mem_cons.mp ((h z).mpr hz.2) with e | e
        · exact absurd e hz.1
        · exact e
    exact (ih.cons a).trans (List.perm_cons_erase ha).symm
theorem rise_nodup {l : List Int} (h : l.Pairwise (· < ·)) : l.Nodup := h.imp fun h => Int.ne_of_lt h
theorem rise_eq {l m : List Int} (h1 : l.Pairwise (· < ·)) (h2 : m.Pairwise (· < ·)) (h : ∀ z, z ∈ l ↔ z ∈ m) : l = m :=
  (perm_mem (rise_nodup h1) (rise_nodup h2) h).eq_of_pairwise (fun a b _ _ h h' => Int.le_antisymm h h') (h1.imp fun h => Int.le_of_lt h) (h2.imp fun h => Int.le_of_lt h)
end
end Sy
/-! More rules: C(e, k = v), a list taken apart, while. -/
namespace Sy
open PySem L2
abbrev gKw : List V → List V → List V := fun vs zs => vs ++ zs
/-- one of two readings of the same expression -/
def tOrE (t u : TE) : TE := fun σ H Q => t σ H Q ∨ u σ H Q
theorem pe_orE {X : Cx} {e : Expr} {t u : TE} (h1 : PE X e t) (h2 : PE X e u) : PE X e (tOrE t u) := ⟨fun pins s σ H Q I h => h.elim (h1.run pins s σ H Q I) (h2.run pins s σ H Q I)⟩
section
variable {K : PySem.W.Frag} {σ : St} {H H1 : Hp} {L : List U} {Q : VK} {QS : St → Hp → Prop} {a b d p C : Addr} {nx bk ct : St → Hp → Prop} {rt : VK} {xs : List V} {tr tk : TA}
def kMakeN (C : Addr) (n m : Nat) (sp : Sp) (gV : List V → List V → List V) (E : XK) (vs zs : List V) (H2 : Hp) (Q : VK) : Prop := vs.length = n ∧ zs.length = m ∧
  ∀ x dx, H2 x = none → H2 dx = none → dx ≠ x → sp (gV (.ref x :: vs) zs) (upd (upd H2 dx (.own x)) x (.ins C dx [])) (fun v H3 => v = .non ∧ Q (.ref x) H3) E
theorem x_makeN {n m : Nat} {sp : Sp} {gV : List V → List V → List V} {E : XK} (q : tr σ H fun vs H1 => tk σ H1 fun zs H2 => kMakeN C n m sp gV E vs zs H2 Q) : tMakeN C n m sp gV E tr tk σ H Q := q
theorem k_makeN {n m : Nat} {sp : Sp} {gV : List V → List V → List V} {E : XK} {vs zs : List V} (hh : Has H L) (hn : vs.length = n) (hm : zs.length = m) (q : ∀ x dx H', Has H' ([(x, .ins C dx [])] :: L) → sp (gV (.ref x :: vs) zs) H' (fun v H2 => v = .non ∧ Q (.ref x) H2) E) : kMakeN C n m sp gV E vs zs H Q :=
  ⟨hn, hm, fun x dx hx hd ne => q x dx _ ((hh.nw hd (o := .own x)).nw (p := x) (o := .ins C dx []) (by rw [upd_ne (Ne.symm ne)]; exact hx) |>.sub (Sub.p0 (Sub.skip Sub.rf)))⟩
theorem x_or1 {t u : TE} (q : t σ H Q) : tOrE t u σ H Q := .inl q
theorem x_or2 {t u : TE} (q : u σ H Q) : tOrE t u σ H Q := .inr q
theorem k_isB {b c : Bool} (q : Q (.bl (decide (b = c))) H) : rIsB (.bl b) (.bl c) H Q := ⟨b, c, rfl, rfl, q⟩
theorem k_notB {b c : Bool} (q : Q (.bl (!decide (b = c))) H) : rNotB (.bl b) (.bl c) H Q := ⟨b, c, rfl, rfl, q⟩
/-- None in xs, whole numbers -/
theorem k_inNon {ns : List Int} (hp : H p = some (.lst (ns.map V.int))) (q : Q (.bl false) H) : rIn K false .non (.ref p) H Q := by
  refine ⟨p, _, rfl, .inl (SqL.of hp), rfl, ?_, ?_⟩
  · rw [List.all_eq_true]
    intro y hy
    obtain ⟨z, _, rfl⟩ := List.mem_map.mp hy
    rfl
  · have e : inV .non (ns.map V.int) = false := by
      unfold inV
      rw [List.any_map, List.any_eq_false]
      intro z hz
      simp [eqV]
    rw [e]
    exact q
theorem x_glst {k : Nat} {g : TGs} (hp : H a = some (.lst xs)) (hl : xs.length = k) (q : g xs σ H QS) : gLst K k g (.ref a) σ H QS := ⟨a, xs, rfl, SqL.of hp, hl, q⟩
def kPar3 (i j l : Nat) (nx : St → Hp → Prop) (σ : St) (vs : List V) (H1 : Hp) : Prop := ∃ u v w, vs = [u, v, w] ∧ nx (((σ.set i (some u)).set j (some v)).set l (some w)) H1
theorem x_par3 {i j l : Nat} (q : tr σ H fun vs H1 => kPar3 i j l nx σ vs H1) : tPar3 i j l tr ⟨nx, rt, bk, ct⟩ σ H := q
theorem k_par3 {i j l : Nat} {u v w : V} (q : nx (((σ.set i (some u)).set j (some v)).set l (some w)) H) : kPar3 i j l nx σ [u, v, w] H := ⟨u, v, w, rfl, q⟩
/-- while: W m with the measure m -/
def kWb (W : Nat → St → Hp → Prop) (m : Nat) (tb : TS) (nx : St → Hp → Prop) (rt : VK) (σ : St) (H1 : Hp) : Prop := ∃ N : St → Hp → Prop, (∀ σ' H', N σ' H' → ∃ m', m' < m ∧ W m' σ' H') ∧ tb ⟨N, rt, nx, N⟩ σ H1
theorem k_while {c : TT} {tb : TS} (W : Nat → St → Hp → Prop) (m : Nat) (h0 : W m σ H)
    (hs : ∀ m σ H, W m σ H → c σ H fun b H1 => if b = true then kWb W m tb nx rt σ H1 else nx σ H1) : tWhile c tb ⟨nx, rt, bk, ct⟩ σ H := ⟨W, ⟨m, h0⟩, hs⟩
theorem k_wb {tb : TS} {W : Nat → St → Hp → Prop} {m : Nat} (q : tb ⟨fun σ' H' => ∃ m', m' < m ∧ W m' σ' H', rt, nx, fun σ' H' => ∃ m', m' < m ∧ W m' σ' H'⟩ σ H) : kWb W m tb nx rt σ H := ⟨_, fun _ _ h => h, q⟩
end
end Sy
/-! list(d.values()). -/
namespace Sy
open PySem PySem.W PySem.Calls PySem.Spec PyProof.Rows L2
def tListVals (te : TE) : TE := fun σ H Q => te σ H fun x H1 => ∃ (d : Addr) (kvs : List (Key × V)), x = .ref d ∧ H1 d = some (.dK kvs) ∧ ∀ p, H1 p = none → Q (.ref p) (upd H1 p (.lst (kvs.map (·.2))))
section
variable {X : Cx} {e : Expr} {te : TE} {p apos cpos pos : Pos}
theorem vals_snd : ∀ {kvs : List (Key × V)} {vs : List (Key × Value)}, KV kvs vs → Vals (kvs.map (·.2)) (vs.map (·.2))
  | _, _, .nil => .nil
  | _, _, .cons h t => .cons h.2 (vals_snd t)
theorem pe_listVals (hc : X.calm = true) (he : PE X e te) (hg : Gl X "list") (hm : X.mg "list" = none) (hv : bootBuiltins "list" = some (.type "list")) (hbase : attributeBase e "values" X.env (eval e X.env) = eval e X.env := by rfl) (hline : (apos.endLine == cpos.line) = true := by rfl)
    (hs : starEach [.Call (.Attribute e "values" apos) [] [] cpos] X.env = (false, eval (.Call (.Attribute e "values" apos) [] [] cpos) X.env) :: starEach [] X.env := by rfl) :
    PE X (.Call (.Name "list" p) [.Call (.Attribute e "values" apos) [] [] cpos] [] pos) (tListVals te) := by
  refine ⟨fun pins s σ H Q I hq => ?_⟩
  refine wpAny_Call_Name_kw (ld_blt I hg hm hv ?_)
  refine PyProof.Rows.callWith_type1 ?_ hs rfl
  rw [hs]
  show wpAny _ _ (spliced ((false, eval (.Call (.Attribute e "values" apos) [] [] cpos) X.env) :: backTo pos (starEach [] X.env))) _ _ s
  refine Calls.spliced_cons ?_
  refine wpAny_Call_method (T := "dict") (id := "dict.values") hbase rfl hline F.plainAttrs_dict F.slot_dict_values F.type_dict_values (thn (he.run pins s σ H _ I hq) fun u s1 ⟨x, H1, I1, rx, d, kvs, ex, hd, q⟩ => ?_)
  subst ex
  obtain rfl : u = Value.ref d := rx
  obtain ⟨hz, hs0, vs, kv, hdo⟩ := I1.hok d _ hd
  obtain ⟨ep, hat⟩ := hdo.dictAt
  have lk : kvs.length = vs.length := Paired.length kv
  have I2 : Inv X pins σ H1 { s1 with heap := s1.heap.push { cls := .type "dict_values", data := .fields #[.ref d] } } := I1.kept (t' := s1.toks) fun b ob q => Heap.get?_push_of_some _ q
  refine ⟨hdo.typeIs, hdo.mapOf.noDict, ?_⟩
  show wpAny _ _ (callWith cpos (.builtin "dict.values") [.ref d] [] []) _ X.xe s1
  refine method_meetsIn F.slot_dict_values F.entry_dict_values rfl (PySem.evalArgs_none ⟨rfl, hdo.typeIs, F.args_dict_values_1 _, _, meets_dict_values (mixKind X.prog X.w) d hs0, ⟨vs, hdo⟩, ?_⟩)
  refine Calls.spliced_nil ?_
  refine PySem.W.kdl_call (PySem.W.kdl_values (knd := mixKind X.prog X.w) (d := d) (r := s1.heap.objs.size) (kvs := vs) (ep := ep)) (I1.ok.hd hc) ⟨⟨_, Heap.get?_push_size _ rfl, rfl, rfl⟩, hat.push _⟩ (by omega) fun h' tk acc c hk hD hacc => ?_
  have ea : acc.toList = vs.map (·.2) := PySem.W.kdl_vals_eq acc.toList (by rw [Array.length_toList]; exact hacc.1) fun j v e => hacc.2 j v (by rw [← Array.getElem?_toList]; exact e)
  refine ⟨.ref _, _, I2.laid (t' := tk) (o := .lst (kvs.map (·.2))) hk (Nat.le_refl _) ⟨by rw [List.length_map]; omega, acc.toList, c, by rw [ea]; exact vals_snd kv, by rw [Array.toArray_toList]; exact hD⟩, rfl, q _ (I2.hok.fresh (Nat.le_refl _))⟩
end
end Sy
namespace Sy
open PySem L2
section
variable {K : PySem.W.Frag} {σ : St} {H H1 : Hp} {L : List U} {Q : VK} {a b d p C : Addr} {te : TE}
def kListVals (x : V) (H1 : Hp) (Q : VK) : Prop := ∃ (d : Addr) (kvs : List (Key × V)), x = .ref d ∧ H1 d = some (.dK kvs) ∧ ∀ p, H1 p = none → Q (.ref p) (upd H1 p (.lst (kvs.map (·.2))))
theorem x_listVals (q : te σ H fun x H1 => kListVals x H1 Q) : tListVals te σ H Q := q
theorem k_listVals {mm : List (Int × V)} (hh : Has H L) (hp : H d = some (dI mm)) (q : ∀ p H', Has H' ([(p, .lst (mm.map (·.2)))] :: L) → Q (.ref p) H') : kListVals (.ref d) H Q := by
  refine ⟨d, _, rfl, hp, fun p hp => ?_⟩
  have e : (mk g1 mm).map (·.2) = mm.map (·.2) := by unfold mk; rw [List.map_map]; rfl
  rw [e]
  exact q p _ (hh.nw hp)
end
end Sy
/-! More rules: xs[::-1], == of alike data, a place of a dict set. -/
namespace Sy
open PySem L2
theorem Has.permU {H : Hp} {u u' : U} {L : List U} (h : Has H (u :: L)) (p : u.Perm u') : Has H (u' :: L) := by
  obtain ⟨n, a⟩ := h
  have e : (u :: L).flatten.Perm (u' :: L).flatten := p.append_right L.flatten
  exact ⟨(e.map (·.1)).nodup_iff.mp n, fun q hq => a q (e.mem_iff.mpr hq)⟩
theorem fmU_perm {β : Type} {ob : β → HO} {m m' : List (Addr × β)} (p : m.Perm m') : (fmU ob m).Perm (fmU ob m') := p.map _
section
variable {K : PySem.W.Frag} {σ : St} {H H1 : Hp} {L : List U} {Q : VK} {a b d p C : Addr} {te : TE} {x y v : V} {i : Int}
def kRevL (K : PySem.W.Frag) (x : V) (H1 : Hp) (Q : VK) : Prop := ∃ a xs, x = .ref a ∧ SqL K H1 a xs ∧ ∀ p, H1 p = none → Q (.ref p) (upd H1 p (.lst xs.reverse))
theorem x_revL (q : te σ H fun x H1 => kRevL K x H1 Q) : tRevL K te σ H Q := q
theorem k_revL {xs : List V} (hh : Has H L) (hp : H a = some (.lst xs)) (q : ∀ p H', Has H' ([(p, .lst xs.reverse)] :: L) → Q (.ref p) H') : kRevL K (.ref a) H Q := ⟨a, xs, rfl, SqL.of hp, fun p hp => q p _ (hh.nw hp)⟩
theorem shaped_lay {d : PyData} (h : SeqAt.shaped d = true) : d.canLay0 = true := by
  unfold SeqAt.shaped at h
  exact (Bool.and_eq_true_iff.mp h).1
theorem k_neSame {dd : PyData} (hx : Dp K H x dd) (hy : Dp K H y dd) (hs : SeqAt.shaped dd = true) (q : Q (.bl false) H) : rNeD K x y H Q :=
  ⟨dd, dd, hx, hy, hs, hs, by rw [SeqAt.eqv_refl dd (shaped_lay hs)]; exact q⟩
theorem k_eqSame {dd : PyData} (hx : Dp K H x dd) (hy : Dp K H y dd) (hs : SeqAt.shaped dd = true) (q : Q (.bl true) H) : rEqD K x y H Q :=
  ⟨dd, dd, hx, hy, hs, hs, by rw [SeqAt.eqv_refl dd (shaped_lay hs)]; exact q⟩
theorem k_setD {mm : List (Int × V)} {M : List U} {Q : Hp → Prop} (hp : H a = some (dI mm)) (hl : mm.length < sizeLine) (hh : Has (upd H a (dI (putK mm i v))) M) (q : ∀ H', Has H' M → Q H') : rSetD (.ref a) (.int i) v H Q := by
  refine ⟨a, _, rfl, DPut.k (k := g1 i) hp (by rw [mk_len]; exact hl), ?_⟩
  rw [mk_put g1_inj]
  exact q _ hh
theorem x_ifAnd {t u : TT} {s1 s2 : TS} {nx bk ct : St → Hp → Prop} {rt : VK} {b1 b2 : Bool} (ht : ∀ Q' : Bool → Hp → Prop, Q' b1 H → t σ H Q') (hu : ∀ Q' : Bool → Hp → Prop, Q' b2 H → u σ H Q') (q1 : b1 = true → b2 = true → s1 ⟨nx, rt, bk, ct⟩ σ H) (q2 : ¬ (b1 = true ∧ b2 = true) → s2 ⟨nx, rt, bk, ct⟩ σ H) : tIfS (tAnd t u) s1 s2 ⟨nx, rt, bk, ct⟩ σ H := by
  refine x_if (x_and (ht _ ?_))
  cases b1 with
  | false => exact ifF (ifF (q2 (by simp)))
  | true =>
    refine ifT (hu _ ?_)
    cases b2 with
    | false => exact ifF (q2 (by simp))
    | true => exact ifT (q1 rfl rfl)
def srtI (l : List Int) : List Int := l.mergeSort (fun a b => decide (a ≤ b))
theorem srtI_eq {l ys : List Int} (p : ys.Perm l) (s : ys.Pairwise (· ≤ ·)) : ys = srtI l := by
  have p2 : (srtI l).Perm l := List.mergeSort_perm _ _
  have s2 : (srtI l).Pairwise (fun a b => decide (a ≤ b) = true) := List.pairwise_mergeSort (fun a b c h1 h2 => by simp at h1 h2 ⊢; omega) (fun a b => by simp; omega) l
  exact (p.trans p2.symm).eq_of_pairwise (fun a b _ _ h h' => Int.le_antisymm h h') s (s2.imp of_decide_eq_true)
end
end Sy
/-! len(x) of an own class with its own __len__; {k: v}. -/
namespace Sy
open PySem PySem.Spec PyProof.Rows L2
def rLenO (C : Addr) (sp : Sp) (E : XK) : List V → Hp → VK → Prop := fun xs H Q => ∃ (a dx : Addr) (fs : List (Str × V)), xs = [.ref a] ∧ H a = some (.ins C dx fs) ∧ sp [.ref a] H (fun v H' => ∃ n : Int, v = .int n ∧ 0 ≤ n ∧ n < 2 ^ 63 ∧ Q (.int n) H') E
theorem call_lenO {X : Cx} {CX : CXT} {C f : Addr} {fd : FuncData} {ps : List Str} {sp : Sp} {E : XK} {n : Nat} (F : FnOk X.prog X.w X.K X.mg X.base CX n f fd ps sp) (hr : Room (n + 1) X.A) (M : Meth X.K C "__len__" f) (hb : Binds X.K fd ps []) (hx : Passes CX X E) : CallR X (.builtin "len") (rLenO C sp E) := by
  intro pins s σ H xs us Q I r h
  obtain ⟨a, dx, fs, rfl, ha, hsp⟩ := h
  obtain ⟨u, rfl, ru⟩ := vals1 r
  obtain rfl : u = Value.ref a := ru
  obtain ⟨mA, J, _⟩ := ins_get I.hok ha
  obtain ⟨od, J, _⟩ := J.look
  obtain ⟨m, hF⟩ := I.fr
  refine PySem.W.len_K hF I.ok.mod.kin J M.at_ M.fn ?_
  have e0 : Env0 X.prog X.w X.K X.mg X.base X.A.in1 X.stack s H := by
    have e := I.env0
    exact ⟨e.frames, e.mod, e.bs, e.bsz, e.funs, e.frf, e.hok, e.bare⟩
  have hl := F.len _ _ _ _ hsp
  have r2 : Vals [V.ref a] [Value.ref a] := .cons rfl .nil
  refine wpAny_call (codeAny_mono (F.run X.A.in1 X.stack s H ⟨[.ref a], []⟩ [.ref a] [.ref a] _ E hr.in1 e0 (by
    have := hb s [.ref a] I.kIn (by simpa using hl)
    simpa using this) r2 hsp) fun r s' hq => ?_)
  cases r with
  | error e => exact hx pins σ H s e s' I hq
  | ok fl =>
    cases fl with
    | ret w =>
      obtain ⟨z, H', I', rz, k, ez, h0, h1, q⟩ := I.after hq
      subst ez
      obtain ⟨tk, rfl⟩ := rz
      exact ⟨⟨h0, h1⟩, .int k, H', I'.tok _, ⟨_, rfl⟩, q⟩
    | next => exact False.elim hq
    | brk => exact False.elim hq
    | cont => exact False.elim hq
end Sy
namespace Sy
open PySem L2
section
variable {σ : St} {H : Hp} {L : List U} {Q : VK} {a C dx p : Addr} {fs : List (Str × V)} {sp : Sp} {E : XK} {tk tv : TE} {i : Int} {v : V}
theorem k_lenO (hp : H a = some (.ins C dx fs)) (q : sp [.ref a] H (fun v H' => ∃ n : Int, v = .int n ∧ 0 ≤ n ∧ n < 2 ^ 63 ∧ Q (.int n) H') E) : rLenO C sp E [.ref a] H Q := ⟨a, dx, fs, rfl, hp, q⟩
def kDisp (p : Addr) (x v : V) (H2 : Hp) (Q : VK) : Prop := H2 p = some (.dK []) ∧ ∃ kvs : List (Key × V), [(x, v)] = kvs.map (fun kv => (kV kv.1, kv.2)) ∧ kvs.length ≤ 15 ∧ Q (.ref p) (upd H2 p (.dK (mergeK [] kvs)))
theorem x_disp1 (hh : Has H L) (q : ∀ p H', Has H' ([(p, dI [])] :: L) → tk σ H' fun x H1 => tv σ H1 fun v H2 => kDisp p x v H2 Q) : tDisp [(tk, tv)] σ H Q := fun p hp => q p _ (hh.nw hp)
theorem k_disp {M : List U} (hp : H p = some (dI [])) (hh : Has (upd H p (dI [(i, v)])) M) (q : ∀ H', Has H' M → Q (.ref p) H') : kDisp p (.int i) v H Q := by
  refine ⟨hp, [(g1 i, v)], rfl, (show 1 ≤ 15 by decide), ?_⟩
  have e : (HO.dK (mergeK [] [(g1 i, v)])) = dI [(i, v)] := by
    unfold mergeK
    rw [List.foldl_cons, List.foldl_nil]
    unfold putK
    simp [mk]
  rw [e]
  exact q _ hh
end
end Sy
/-! for k in d, d locked. -/
namespace Sy
open PySem L2
theorem x_forD {σ : St} {H : Hp} {L : List U} {k : Nat} {d : Addr} {mm : List (Int × V)} {tb : TS} {td : TE} {nx bk ct : St → Hp → Prop} {rt : VK} (Pv : Obj → Nat → St → Hp → Prop) (hh : Has H ([(d, dI mm)] :: L))
    (htd : ∀ o H' (Q' : VK), Has H' ([(d, .frz o (dI mm))] :: L) → Q' (.ref d) H' → td σ H' Q')
    (h0 : ∀ o H', Has H' ([(d, .frz o (dI mm))] :: L) → Pv o 0 σ H')
    (hl : ∀ o i σ' H', Pv o i σ' H' → H' d = some (.frz o (dI mm)))
    (hs : ∀ o (i : Nat) (z : Int) σ' H', (mm.map (·.1))[i]? = some z → Pv o i σ' H' → tb ⟨Pv o (i + 1), fun v H' => H' d = some (.frz o (dI mm)) ∧ rt v (upd H' d (dI mm)), fun σ' H' => H' d = some (.frz o (dI mm)) ∧ nx σ' (upd H' d (dI mm)), Pv o (i + 1)⟩ (σ'.set k (some (.int z))) H')
    (hd : ∀ o σ' H', Pv o mm.length σ' H' → nx σ' (upd H' d (dI mm))) : tLock (tFor (iKeys td) (gName k) tb) ⟨nx, rt, bk, ct⟩ σ H := by
  refine ⟨d, dI mm, hh.g0, trivial, fun o => ?_⟩
  have h1 : Has (upd H d (.frz o (dI mm))) ([(d, .frz o (dI mm))] :: L) := hh.s0
  have hlen : (mk g1 mm).length = mm.length := mk_len _ _
  refine htd o _ _ h1 ⟨d, o, rfl, .inl ⟨mk g1 mm, h1.g0, fun i m σ' H' => m = mm.length - i ∧ i ≤ mm.length ∧ Pv o i σ' H', ⟨mm.length, by simp, Nat.zero_le _, h0 o _ h1⟩, ?_⟩⟩
  rintro i m σ' H' ⟨rfl, hi, p⟩
  have pl := hl o i σ' H' p
  by_cases hlt : i < mm.length
  · refine .inr ⟨⟨pl, by rw [hlen]; exact hlt⟩, Pv o (i + 1), fun σ2 H2 p2 => ⟨mm.length - (i + 1), by omega, rfl, hlt, p2⟩, fun x H2 y => ?_⟩
    obtain ⟨e, kk, vv, hk, ex⟩ := y
    subst e
    have hz1 : (mm.map (·.1))[i]? = some (mm[i]).1 := by rw [List.getElem?_map, List.getElem?_eq_getElem hlt]; rfl
    have hkk : kk = g1 (mm[i]).1 := by
      unfold mk at hk
      rw [List.getElem?_map, List.getElem?_eq_getElem hlt] at hk
      exact (congrArg Prod.fst (Option.some.inj hk)).symm
    subst hkk
    have ex : x = .int (mm[i]).1 := ex
    subst ex
    exact hs o i _ σ' H2 hz1 p
  · have e : i = mm.length := by omega
    subst e
    exact .inl ⟨⟨pl, by rw [hlen]; exact Nat.le_refl _⟩, pl, hd o σ' H' p⟩
end Sy
/-! Exceptions that are kept: try .. except X as e: caught = e; isinstance of what was caught; defs with two promises. -/
namespace Sy
open PySem PySem.Spec PyProof.Rows L2
/-- a caught exception, at a -/
def ExK (cls : Value) (d : Option Addr) (a : Addr) : HO := .ext fun h => ∃ (oe : Obj) (vs : Array Value), h.get? a = some oe ∧ Zc cls d oe ∧ oe.data = .fields vs
theorem exK_ok {P : Program} {w : World} {H : Hp} {h : Heap} {a : Addr} {cls : Value} {d : Option Addr} {oe : Obj} {vs : Array Value} (e : h.get? a = some oe) (z : Zc cls d oe) (hd : oe.data = .fields vs) : ObjOk P w H h a (ExK cls d a) :=
  ⟨⟨oe, vs, e, z, hd⟩, ⟨oe, e⟩, fun _ _ ⟨o, v, q, r⟩ k => ⟨o, v, k o q, r⟩⟩
section
variable {X : Cx} {pins : List (Addr × Obj)} {σ : L2.St} {H : Hp} {s : Shared}
theorem Inv_track {a : Addr} {φ : Heap → Prop} (I : Inv X pins σ H s) (na : H a = none) (n0 : X.s_0.heap.get? a = none) (nL : a ≠ X.env.locals) (nC : ∀ x c, X.env.cells.lookup x = some c → c ≠ a) (nP : ∀ p ∈ X.pn ++ pins, p.1 ≠ a)
    (new : ObjOk X.prog X.w (upd H a (.ext φ)) s.heap a (.ext φ)) : Inv X pins σ (upd H a (.ext φ)) s := by
  refine ⟨I.ok, I.os, I.bare, ⟨I.base.keep, I.base.slot, fun b o e n hq => ?_, I.base.there, fun b xs e => ?_, fun b o u e => ?_, fun b ps e => ?_⟩, I.loc, I.cell, ?_, fun x c e => ?_, fun p hp => ?_, I.hok.laidN (fun _ _ q => q) na new, I.len⟩
  · rw [upd_ne (fun z => by rw [z, n0] at e; cases e)]
    exact I.base.free b o e n hq
  · have q := I.base.tups b xs e
    rw [upd_ne (ne_of_none q na)]
    exact q
  · have q := I.base.frzs b o u e
    rw [upd_ne (ne_of_none q na)]
    exact q
  · obtain ⟨m, q⟩ := I.base.tbls b ps e
    exact ⟨m, by rw [upd_ne (ne_of_none q na)]; exact q⟩
  · rw [upd_ne (Ne.symm nL)]
    exact I.free
  · rw [upd_ne (nC x c e)]
    exact I.freeC x c e
  · obtain ⟨e, n, ne, nf, d⟩ := I.pin p hp
    exact ⟨e, by rw [upd_ne (nP p hp)]; exact n, ne, nf, d⟩
end
/-- what the clause 'except x as n' wishes of an exception of the body, the exception kept behind it -/
def wKeep (K : PySem.W.Frag) (c : Value) (i : Nat) (ts : Addr → Value → Option Addr → TS) (Wout : WX) (D : Ends) : WX := fun cls d σ H =>
  ∃ b, PySem.W.exmOne K cls c = some b ∧ (b = true → ∀ a, H a = none → ts a cls d { nx := fun σ' H' => D.nx (σ'.set i none) (upd H' a (ExK cls d a)), rt := fun _ _ => False, bk := fun _ _ => False, ct := fun _ _ => False } (σ.set i (some (.ref a))) H) ∧
    (b = false → Wout cls d σ H)
section
variable {X : Cx} {x n : Str} {c : Value} {i : Nat} {body suite : List Stmt} {b₀ : Stmt} {np pos pos' : Pos} {tb : WX → TS} {ts : Addr → Value → Option Addr → TS} {Wout : WX}
theorem ps_try_keep (hs : X.stack = X.env :: X.outer) (hf : X.env.frame = some X.env.locals) (hex : X.ex = []) (hN : X.N.Nodup) (hi : X.N[i]? = some n) (hln : X.env.kindOf n = some .local) (hc : Names X x c) (tk : Takes X Wout)
    (hb : ∀ (W : WX) (pn : List (Addr × Obj)) (xe : Value → Shared → Prop), Takes (X.tr pn xe) W → PassesOwn (model X.prog X.w) X.A X.env xe → PSs (X.tr pn xe) body (tb W))
    (hsu : ∀ (a : Addr) (oe : Obj) (cls : Value) (d : Option Addr) (pn : List (Addr × Obj)), Zc cls d oe → (∃ vs, oe.data = .fields vs) → PSs (X.suite a ((a, oe) :: pn)) (b₀ :: suite) (ts a cls d)) :
    PS X (.Try body [.ExceptHandler (some (.Name x np)) (some n) (b₀ :: suite) pos'] [] [] pos) (fun D σ H => tb (wKeep X.K c i ts Wout D) D σ H) := by
  refine ⟨fun pins s σ H D I h => ?_⟩
  have ok := I.ok
  have hfr : X.A.frames = some (X.env :: X.outer) := by rw [ok.frames, hs]
  have hloc : Loc X.env.scope n := .inl hln
  refine wpAny_Try_except ?_
  refine wpAny_mono ((hb (wKeep X.K c i ts Wout D) (X.pn ++ pins) (fun e s₁ => wpAny (model X.prog X.w) X.A (noteFrame e X.env) (fun _ s₂ => wpAny (model X.prog X.w) X.A (setFlight e none) (fun _ s₃ =>
    wpAny (model X.prog X.w) X.A (handleBy e X.env [.ExceptHandler (some (.Name x np)) (some n) (b₀ :: suite) pos']) (SP X pins D) X.xe s₃) X.xe s₂) X.xe s₁) (fun u s' xx => ?_) PassesOwn.looking).run [] s σ H D (I.toTry _) h) (fun f s1 hsp => ?_) (fun e s1 he => he)
  · -- the catch
    obtain ⟨a, B, sI, pins', σ', H', cls, d, rfl, J', nb, up, sky, na, os, ag, b, hb1, hyes, hno⟩ := xx
    have J : Inv X pins σ' H' sI := J'.ofTry ok
    have sky' : Sky B (X.env :: X.outer) a (Zc cls d) X.env.locals s'.heap := by rw [← hs]; exact sky
    show wpAny (model X.prog X.w) X.A (noteFrame (.ref a) X.env) _ _ _
    refine Sky.land Zc.steady hfr hf sky' fun h3 fl3 up3 => ?_
    have J3 : Inv X pins σ' H' { s' with heap := h3 } := J.landed nb fl3.1 (up.trans up3) os ag
    obtain ⟨oe3, vs3, he3, hz3, hd3⟩ := fl3.there
    have notFr : ∀ {h : Heap} {o : Obj} {vs : Array Value}, h.FunFrames B (X.env :: X.outer) → h.get? a = some o → o.data = .fields vs → a ∉ frs (X.env :: X.outer) := fun {h o vs} ff e dd hm => by
      obtain ⟨_, o', e', hnf⟩ := ff.mem hm
      rw [e] at e'; cases e'
      exact hnf _ dd
    have nfr := notFr fl3.2.2.1 he3 hd3
    have nL : a ≠ X.env.locals := fun z => nfr (List.mem_filterMap.mpr ⟨X.env, List.mem_cons_self, by rw [hf, z]⟩)
    have nF : a ∉ X.fs := fun hm => by
      obtain ⟨e, he, q⟩ := List.mem_filterMap.mp hm
      exact nfr (List.mem_filterMap.mpr ⟨e, List.mem_cons_of_mem _ he, q⟩)
    have nI : sI.heap.get? a = none := by
      cases e : sI.heap.get? a with
      | none => rfl
      | some o =>
        have z := nb a o e (by rw [hs]; exact nfr)
        rw [fl3.2.1] at z
        cases z
    have n0 : X.s_0.heap.get? a = none := by
      cases e : X.s_0.heap.get? a with
      | none => rfl
      | some o =>
        obtain ⟨o', z⟩ := J.base.there a o e (by rw [hex]; exact fun z => nomatch z)
        rw [nI] at z
        cases z
    have nP : ∀ p ∈ X.pn ++ pins, p.1 ≠ a := fun p hp z => by
      obtain ⟨e, _⟩ := J.pin p hp
      rw [z, nI] at e
      cases e
    have S3 := J3.suite he3 hd3 na nL nF
    refine wpAny_handleBy_cons (codeAny_handlers_test ?_) (by intro q; cases q)
    have LT : PySem.W.Looks (model X.prog X.w) h3 (typeOf (.ref a)) cls := fun A Q E s k q => wpAny_typeOf_ref (k _ _ he3) (by rw [hz3.1]; exact q)
    have LM := PySem.W.exm_one (M := model X.prog X.w) (J3.kIn) LT hb1
    have test : ∀ {Q : Value → Shared → Prop} {E : Value → Shared → Prop}, Q c { s' with heap := h3 } → wpAny (model X.prog X.w) (X.A.mark (some (.ref a))) (eval (.Name x np) X.env) Q E { s' with heap := h3 } := fun {Q E} q => by
      obtain ⟨hg, hdbg, hm | ⟨hm, hv, hnn⟩⟩ := hc
      · exact ld_glob (X := X.suite a ((a, oe3) :: (X.pn ++ pins))) S3 hg hm q hdbg
      · exact ld_blt (X := X.suite a ((a, oe3) :: (X.pn ++ pins))) S3 hg hm hv q hnn hdbg
    refine test (LM.here ?_)
    cases b with
    | true =>
      refine codeAny_handlers_suite_as ?_
      refine HandSPX.lands_againZ fl3 fun h4 fl4 up4 => ?_
      have J4 : Inv X pins σ' H' { s' with heap := h4 } := J.landed nb fl4.1 ((up.trans up3).trans up4) os ag
      obtain ⟨oe4, vs4, he4, hz4, hd4⟩ := fl4.there
      have S4 := J4.suite he4 hd4 na nL nF
      refine store_ok (X := X.suite a ((a, oe4) :: (X.pn ++ pins))) (v := .ref a) S4 hN hi hloc rfl (fun s5 S5 => ?_) (.inr hln)
      refine wpAny_mono ((hsu a oe4 cls d (X.pn ++ pins) hz4 ⟨_, hd4⟩).run [] s5 _ H' _ S5 (hyes rfl a na)) (fun f s6 hsp => ?_) (fun _ _ z => False.elim z)
      cases f with
      | next =>
        obtain ⟨σ6, H6, S6, q6⟩ := hsp
        refine gone_ok (X := X.suite a ((a, oe4) :: (X.pn ++ pins))) S6 hN hi hln fun s7 S7 => ?_
        obtain ⟨e7, n7, _, _, d7⟩ := S7.pin (a, oe4) (List.mem_append.mpr (.inl List.mem_cons_self))
        have J7 := S7.unsuite ok
        refine ⟨_, _, Inv_track J7 n7 n0 nL (fun y c e z => ?_) nP (exK_ok e7 hz4 hd4), q6⟩
        obtain ⟨v, o, ho, hd⟩ := J7.cell y c e
        rw [z] at ho
        have ho : s7.heap.get? a = some o := ho
        rw [e7] at ho
        have := Option.some.inj ho
        subst this
        exact d7 _ hd
      | brk =>
        obtain ⟨_, _, _, q6⟩ := hsp
        exact q6.elim
      | cont =>
        obtain ⟨_, _, _, q6⟩ := hsp
        exact q6.elim
      | ret u =>
        obtain ⟨_, _, _, _, _, q6⟩ := hsp
        exact q6.elim
    | false =>
      show wpAny _ X.A (handleBy (.ref a) X.env []) _ _ _
      refine wpAny_handleBy_nil ?_
      obtain ⟨k1, k2, k3, oe, vs, T, oT, ts', he, hz, hd, h1, hr⟩ := id fl3
      unfold PySem.passOn
      refine wpAny_bind (wpAny_field he hd h1 ?_)
      rw [if_neg (show ¬ ((Value.ref T == Value.none) = true) from by simp)]
      have fin : wpAny (model X.prog X.w) X.A (setFlight (.ref a) X.env.frame) (fun _ s4 => wpAny (model X.prog X.w) X.A (throw (.ref a) : Sem Flow) (SP X pins D) X.xe s4) X.xe { s' with heap := h3 } := by
        rw [hf]
        refine HandSPX.setFlight_upZ fl3 fun h4 hh4 up4 => wpAny_throw (tk _ _ ?_)
        exact ⟨a, B, sI, pins, σ', H', cls, d, rfl, J, nb, (up.trans up3).trans up4, .inr (.inr (by rw [hs]; exact hh4)), na, os, ag, hno rfl⟩
      first
        | exact wpAny_bind (wpAny_pure (wpAny_bind fin))
        | exact wpAny_bind fin
  · cases f with
    | next => obtain ⟨σ6, H6, S6, q6⟩ := hsp; exact wpAny_execs_nil ⟨σ6, H6, S6.ofTry ok, q6⟩
    | brk => obtain ⟨σ6, H6, S6, q6⟩ := hsp; exact ⟨σ6, H6, S6.ofTry ok, q6⟩
    | cont => obtain ⟨σ6, H6, S6, q6⟩ := hsp; exact ⟨σ6, H6, S6.ofTry ok, q6⟩
    | ret u => obtain ⟨v6, σ6, H6, S6, r6, q6⟩ := hsp; exact ⟨v6, σ6, H6, S6.ofTry ok, r6, q6⟩
end
/-- isinstance(x, c), x an exception that was caught -/
def rIsK (K : PySem.W.Frag) : List V → Hp → VK → Prop := fun xs H Q => ∃ (a D : Addr) (c : V) (cv : Value) (b : Bool), xs = [.ref a, c] ∧ H a = some (ExK (.ref D) none a) ∧ ExcC K D ∧ (∀ u, RelV c u → u = cv) ∧ PySem.W.kitOne K (.ref D) cv = some b ∧ Q (.bl b) H
theorem call_isK {X : Cx} : CallR X (.builtin "isinstance") (rIsK X.K) := by
  intro pins s σ H xs us Q I r h
  obtain ⟨a, D, c, cv, b, rfl, ha, C, hcv, e, q⟩ := h
  cases r with
  | cons rx rr =>
    cases rr with
    | cons rt rr =>
      cases rr
      cases rx
      have ec := hcv _ rt
      subst ec
      obtain ⟨⟨oe, vs, hget, hz, hv⟩, _, _⟩ := I.hok a _ ha
      have J : PySem.W.InstAt s.heap a oe D none := by
        obtain ⟨oc, od, oda, osl⟩ := oe
        obtain ⟨h1, h2⟩ := hz
        dsimp only at h1 h2 hv
        subst h1 h2 hv
        exact ⟨hget, rfl, rfl, trivial⟩
      exact PySem.W.kia_one (PySem.W.handS_kitx_exc C.hg C.hk C.hs C.hd C.ha C.hn C.ht C.hm) I.kIn J e (fun z => nomatch z) fun tk => ⟨.bl b, H, I.kept (t' := tk) fun _ _ z => z, rfl, q⟩
/-! ### a def with two promises; a def that lets nothing out -/
section
variable {P : Program} {w : World} {K : PySem.W.Frag} {mg : Str → Option Value} {base : Heap} {CX CX' : CXT} {n m : Nat} {f : Addr} {fd : FuncData} {ps : List Str} {sp sp' : Sp}
theorem fn_mono (F : FnOk P w K mg base CX n f fd ps sp) (h : n ≤ m) : FnOk P w K mg base CX m f fd ps sp := ⟨F.len, fun A outer s H args us vs Q E hr e0 b r hsp => F.run A outer s H args us vs Q E (hr.mono h) e0 b r hsp⟩
theorem fn_or (F : FnOk P w K mg base CX n f fd ps sp) (G : FnOk P w K mg base CX m f fd ps sp') : FnOk P w K mg base CX (max n m) f fd ps (fun vs H Q E => sp vs H Q E ∨ sp' vs H Q E) :=
  ⟨fun vs H Q E h => h.elim (F.len vs H Q E) (G.len vs H Q E), fun A outer s H args us vs Q E hr e0 b r hsp => hsp.elim (fun h => F.run A outer s H args us vs Q E (hr.mono (Nat.le_max_left _ _)) e0 b r h) fun h => G.run A outer s H args us vs Q E (hr.mono (Nat.le_max_right _ _)) e0 b r h⟩
end
/-- both promises -/
def spOr (a b : Sp) : Sp := fun vs H Q E => a vs H Q E ∨ b vs H Q E
theorem fn_up {P : Program} {w : World} {K : PySem.W.Frag} {mg : Str → Option Value} {base : Heap} {CX : CXT} {n : Nat} {f : Addr} {fd : FuncData} {ps : List Str} {sp : Sp} (F : FnOk P w K mg base CX0 n f fd ps sp) : FnOk P w K mg base CX n f fd ps sp :=
  ⟨F.len, fun A outer s H args us vs Q E hr e0 b r hsp => codeAny_mono (F.run A outer s H args us vs Q E hr e0 b r hsp) fun r s' hq => by
    cases r with
    | error e => exact hq.elim
    | ok fl => cases fl <;> exact hq⟩
/-! ### xs.count(v), flat items -/
def rCntV (K : PySem.W.Frag) : V → List V → Hp → VK → Prop := fun x xs H Q => ∃ (a : Addr) (ys : List V) (y : V), x = V.ref a ∧ xs = [y] ∧ SqL K H a ys ∧ flatV y = true ∧ ys.all flatV = true ∧ Q (.int ((ys.countP fun z => eqV z y) : Nat)) H
theorem cnt_vals {y : V} : ∀ {ys : List V} {its : List Value}, Vals ys its → ys.all flatV = true → its.countP (eqU y) = ys.countP fun z => eqV z y
  | _, _, .nil, _ => rfl
  | _, _, .cons (a := z) (b := u) h t, f => by
    rw [List.all_cons, Bool.and_eq_true] at f
    rw [List.countP_cons, List.countP_cons, cnt_vals t f.2, eqU_of h f.1]
theorem mt_countV {X : Cx} : MtR X "list.count" (rCntV X.K) := by
  intro pins s σ H x xs v us Q I rx rxs h
  obtain ⟨a, ys, y, rfl, rfl, hs, fy, fys, q⟩ := h
  cases rx
  cases rxs with
  | cons ry rt =>
    rename_i uy ut
    cases rt
    obtain ⟨its, rv, ⟨⟨cls, dd, data, sl⟩, n, ho, hc, hdn, hd⟩, hlen⟩ := I.list hs
    simp only at hc hd
    subst hc hd
    refine call_meets PySem.F.slot_list_count ⟨_, ho, rfl⟩ PySem.F.entry_list_count (PySem.F.args_list_count_2 _ _)
      (SeqAt.list_countAt a its.toArray n dd sl uy (eqU y)) ⟨ho, fun u' hu' => mem_eqAt ry fy rv fys u' (by simpa using hu'), ?_⟩
    have ec : its.toArray.toList.countP (eqU y) = ys.countP fun z => eqV z y := cnt_vals rv fys
    refine ⟨.int ((ys.countP fun z => eqV z y) : Nat), H, I.tok _, ⟨s.toks, ?_⟩, q⟩
    show Value.int ((its.toArray.toList.countP (eqU y) : Nat) : Int) s.toks = _
    rw [ec]
/-! ### calls that may raise, within a try -/
section
variable {X : Cx} {CX : CXT} {k : Nat} {f C : Addr} {fd : FuncData} {ps : List Str} {sp : Sp} {E : L2.St → XK} {x m : Str} {p pos apos : Pos} {e o : Expr} {es : List Expr} {ta : TE} {t : TA}
def tMethS' (C : Addr) (m : Str) (sp : Sp) (E : L2.St → XK) (ta : TE) (t : TA) : TE := fun σ H Q => ta σ H fun x H1 => ∃ a dx fs, x = .ref a ∧ H1 a = some (.ins C dx fs) ∧ fs.lookup m = none ∧ t σ H1 fun vs H2 => sp (x :: vs) H2 Q (E σ)
theorem pe_methS' {pl : Sem Bool} (he : PE X o ta) (c : Cls X.K C) (hm : Meth X.K C m f) (F : FnOk X.prog X.w X.K X.mg X.base CX k f fd ps sp) (hr : Room k X.A) (hb : Binds X.K fd ps []) (hx : ∀ σ, PassesAt CX X σ (E σ)) (ha : PA X (e :: es) t)
    (hst : starEach (e :: es) X.env = (false, eval e X.env) :: starEach es X.env := by rfl) (hpl : (backTo pos (starEach es X.env)).any (·.1) = false := by rfl)
    (ht : eval (.Call (.Attribute o m apos) (e :: es) [] pos) X.env = (do
      let ov ← eval o X.env
      standAt apos.atName
      let (f, first) ← holding [ov] (getMethod ov m pl)
      callWith pos f first (backTo pos (starEach (e :: es) X.env)) (backToKw pos (keywordEach [] X.env))) := by rfl) :
    PE X (.Call (.Attribute o m apos) (e :: es) [] pos) (tMethS' C m sp E ta t) := by
  refine ⟨fun pins s σ H Q I h => ?_⟩
  refine PySem.W.methodCall_KW (pl := pl) (thn (he.run pins s σ H _ I h) fun u s1 ⟨x, H1, I1, rx, a, dx, fs, ex, ea, l, q⟩ => ?_) ht
  subst ex
  obtain rfl : u = Value.ref a := rx
  refine getmeth_ok I1 ea c hm l ?_
  refine PySem.W.callWith_K (first := [.ref a]) (h₀ := X.base) I.ok.mod.kin hm.kp (thn (ha.run pos pins s1 σ H1 _ I1 q) fun us s2 ⟨vs, H2, I2, r, q2⟩ => ⟨I2.kIn, ?_⟩) hst hpl
  exact run_fnS (us := .ref a :: us) (vs := .ref a :: vs) F hr hb (hx σ) I2 (.cons rfl r) q2
end
end Sy
namespace Sy
open PySem L2
/-- raise C('..') in a def whose way out is E -/
def tRaise (E : XK) (C : Addr) : TS := fun _ _ H => E (.ref C) none H
/-- try: .. except c as e: x = e (e in slot i, x in slot j) -/
def tTryK (K : PySem.W.Frag) (c : Value) (i j : Nat) (tb : WX → TS) : TS := fun D σ H => tb (wKeep K c i (fun _ _ _ => tAsg (tVar i) (gName j)) (fun _ _ _ _ => False) D) D σ H
section
variable {K : PySem.W.Frag} {σ : St} {H : Hp} {L : List U} {Q : VK} {nx bk ct : St → Hp → Prop} {rt : VK} {E : XK} {C : Addr} {cls c : Value} {d : Option Addr} {i j : Nat} {tb : WX → TS} {tr : TA} {ta : TE} {sp : Sp} {Es : St → XK} {a dx : Addr} {fs : List (Str × V)} {m : Str} {D : Ends} {Wout : WX}
theorem x_raise (q : E (.ref C) none H) : tRaise E C D σ H := q
theorem x_tryK (q : tb (wKeep K c i (fun _ _ _ => tAsg (tVar i) (gName j)) (fun _ _ _ _ => False) ⟨nx, rt, bk, ct⟩) ⟨nx, rt, bk, ct⟩ σ H) : tTryK K c i j tb ⟨nx, rt, bk, ct⟩ σ H := q
theorem k_keep (he : PySem.W.exmOne K cls c = some true) (hi : i < σ.length) (hh : Has H L) (q : ∀ a H', Has H' ([(a, ExK cls d a)] :: L) → nx (((σ.set i (some (.ref a))).set j (some (.ref a))).set i none) H') : wKeep K c i (fun _ _ _ => tAsg (tVar i) (gName j)) Wout ⟨nx, rt, bk, ct⟩ cls d σ H := by
  refine ⟨true, he, fun _ a ha => ⟨.ref a, ?_, ?_⟩, fun h => by cases h⟩
  · rw [List.getElem?_set_self hi]
  · exact q a _ (hh.nw ha)
theorem x_callS (q : tr σ H fun vs H1 => sp vs H1 Q (Es σ)) : tCallS sp Es tr σ H Q := q
def kMethS (C : Addr) (m : Str) (sp : Sp) (Es : St → XK) (t : TA) (σ : St) (x : V) (H1 : Hp) (Q : VK) : Prop := ∃ a dx fs, x = .ref a ∧ H1 a = some (.ins C dx fs) ∧ fs.lookup m = none ∧ t σ H1 fun vs H2 => sp (x :: vs) H2 Q (Es σ)
theorem x_methS (q : ta σ H fun x H1 => kMethS C m sp Es tr σ x H1 Q) : tMethS' C m sp Es ta tr σ H Q := q
theorem k_methS (hp : H a = some (.ins C dx fs)) (hl : fs.lookup m = none) (q : tr σ H fun vs H2 => sp (.ref a :: vs) H2 Q (Es σ)) : kMethS C m sp Es tr σ (.ref a) H Q := ⟨a, dx, fs, rfl, hp, hl, q⟩
theorem k_isK {D : Addr} {c : V} {cv : Value} {b : Bool} (hp : H a = some (ExK (.ref D) none a)) (hC : ExcC K D) (hc : ∀ u, RelV c u → u = cv) (hk : PySem.W.kitOne K (.ref D) cv = some b) (q : Q (.bl b) H) : rIsK K [.ref a, c] H Q := ⟨a, D, c, cv, b, rfl, hp, hC, hc, hk, q⟩
theorem k_isKR {D C : Addr} {b : Bool} (hp : H a = some (ExK (.ref D) none a)) (hC : ExcC K D) (hk : PySem.W.kitOne K (.ref D) (.ref C) = some b) (q : Q (.bl b) H) : rIsK K [.ref a, .ref C] H Q := k_isK hp hC (fun u r => r) hk q
theorem k_isKT {D : Addr} {t : String} {b : Bool} (hp : H a = some (ExK (.ref D) none a)) (hC : ExcC K D) (hk : PySem.W.kitOne K (.ref D) (.type t) = some b) (q : Q (.bl b) H) : rIsK K [.ref a, .ty t] H Q := k_isK hp hC (fun u r => r) hk q
theorem k_cntV {y : V} {ys : List V} (hp : H a = some (.lst ys)) (f1 : flatV y = true) (f2 : ys.all flatV = true) (q : Q (.int ((ys.countP fun z => eqV z y) : Nat)) H) : rCntV K (.ref a) [y] H Q := ⟨a, ys, y, rfl, rfl, SqL.of hp, f1, f2, q⟩
end
end Sy
/-! try with several clauses 'except X as e: ..', the exception kept behind it. -/
namespace Sy
open PySem PySem.Spec PyProof.Rows L2
def wKeepM (K : PySem.W.Frag) (i : Nat) (Wout : WX) (D : Ends) : List (Value × (Addr → Value → Option Addr → TS)) → WX
  | [] => Wout
  | (c, ts) :: r => fun cls d σ H => ∃ b, PySem.W.exmOne K cls c = some b ∧ (b = true → ∀ a, H a = none → ts a cls d { nx := fun σ' H' => D.nx (σ'.set i none) (upd H' a (ExK cls d a)), rt := fun _ _ => False, bk := fun _ _ => False, ct := fun _ _ => False } (σ.set i (some (.ref a))) H) ∧
    (b = false → wKeepM K i Wout D r cls d σ H)
inductive HdsKp (X : Cx) (n : Str) : List ExceptHandler → List (Value × (Addr → Value → Option Addr → TS)) → Prop
  | nil : HdsKp X n [] []
  | cons {x : Str} {c : Value} {ts : Addr → Value → Option Addr → TS} {b₀ : Stmt} {suite : List Stmt} {np pos' : Pos} {hds : List ExceptHandler} {l : List (Value × (Addr → Value → Option Addr → TS))} (hc : Names X x c)
      (hsu : ∀ (a : Addr) (oe : Obj) (cls : Value) (d : Option Addr) (pn : List (Addr × Obj)), Zc cls d oe → (∃ vs, oe.data = .fields vs) → PSs (X.suite a ((a, oe) :: pn)) (b₀ :: suite) (ts a cls d)) (r : HdsKp X n hds l) :
      HdsKp X n (.ExceptHandler (some (.Name x np)) (some n) (b₀ :: suite) pos' :: hds) ((c, ts) :: l)
section
variable {X : Cx} {n : Str} {i : Nat} {body : List Stmt} {h₀ : ExceptHandler} {hds : List ExceptHandler} {l : List (Value × (Addr → Value → Option Addr → TS))} {pos : Pos} {tb : WX → TS} {Wout : WX}
theorem ps_try_keepM (hs : X.stack = X.env :: X.outer) (hf : X.env.frame = some X.env.locals) (hex : X.ex = []) (hN : X.N.Nodup) (hi : X.N[i]? = some n) (hln : X.env.kindOf n = some .local) (tk : Takes X Wout)
    (hb : ∀ (W : WX) (pn : List (Addr × Obj)) (xe : Value → Shared → Prop), Takes (X.tr pn xe) W → PassesOwn (model X.prog X.w) X.A X.env xe → PSs (X.tr pn xe) body (tb W))
    (hh : HdsKp X n (h₀ :: hds) l) :
    PS X (.Try body (h₀ :: hds) [] [] pos) (fun D σ H => tb (wKeepM X.K i Wout D l) D σ H) := by
  refine ⟨fun pins s σ H D I h => ?_⟩
  have ok := I.ok
  have hfr : X.A.frames = some (X.env :: X.outer) := by rw [ok.frames, hs]
  have hloc : Loc X.env.scope n := .inl hln
  refine wpAny_Try_except ?_
  refine wpAny_mono ((hb (wKeepM X.K i Wout D l) (X.pn ++ pins) (fun e s₁ => wpAny (model X.prog X.w) X.A (noteFrame e X.env) (fun _ s₂ => wpAny (model X.prog X.w) X.A (setFlight e none) (fun _ s₃ =>
    wpAny (model X.prog X.w) X.A (handleBy e X.env (h₀ :: hds)) (SP X pins D) X.xe s₃) X.xe s₂) X.xe s₁) (fun u s' xx => ?_) PassesOwn.looking).run [] s σ H D (I.toTry _) h) (fun f s1 hsp => ?_) (fun e s1 he => he)
  · -- the catch
    obtain ⟨a, B, sI, pins', σ', H', cls, d, rfl, J', nb, up, sky, na, os, ag, w⟩ := xx
    have J : Inv X pins σ' H' sI := J'.ofTry ok
    have sky' : Sky B (X.env :: X.outer) a (Zc cls d) X.env.locals s'.heap := by rw [← hs]; exact sky
    show wpAny (model X.prog X.w) X.A (noteFrame (.ref a) X.env) _ _ _
    refine Sky.land Zc.steady hfr hf sky' fun h3 fl3 up3 => ?_
    have J3 : Inv X pins σ' H' { s' with heap := h3 } := J.landed nb fl3.1 (up.trans up3) os ag
    obtain ⟨oe3, vs3, he3, hz3, hd3⟩ := fl3.there
    have notFr : ∀ {h : Heap} {o : Obj} {vs : Array Value}, h.FunFrames B (X.env :: X.outer) → h.get? a = some o → o.data = .fields vs → a ∉ frs (X.env :: X.outer) := fun {h o vs} ff e dd hm => by
      obtain ⟨_, o', e', hnf⟩ := ff.mem hm
      rw [e] at e'; cases e'
      exact hnf _ dd
    have nfr := notFr fl3.2.2.1 he3 hd3
    have nL : a ≠ X.env.locals := fun z => nfr (List.mem_filterMap.mpr ⟨X.env, List.mem_cons_self, by rw [hf, z]⟩)
    have nF : a ∉ X.fs := fun hm => by
      obtain ⟨e, he, q⟩ := List.mem_filterMap.mp hm
      exact nfr (List.mem_filterMap.mpr ⟨e, List.mem_cons_of_mem _ he, q⟩)
    have nI : sI.heap.get? a = none := by
      cases e : sI.heap.get? a with
      | none => rfl
      | some o =>
        have z := nb a o e (by rw [hs]; exact nfr)
        rw [fl3.2.1] at z
        cases z
    have n0 : X.s_0.heap.get? a = none := by
      cases e : X.s_0.heap.get? a with
      | none => rfl
      | some o =>
        obtain ⟨o', z⟩ := J.base.there a o e (by rw [hex]; exact fun z => nomatch z)
        rw [nI] at z
        cases z
    have nP : ∀ p ∈ X.pn ++ pins, p.1 ≠ a := fun p hp z => by
      obtain ⟨e, _⟩ := J.pin p hp
      rw [z, nI] at e
      cases e
    have S3 := J3.suite he3 hd3 na nL nF
    have go : ∀ {hds' : List ExceptHandler} {l' : List (Value × (Addr → Value → Option Addr → TS))}, HdsKp X n hds' l' → wKeepM X.K i Wout D l' cls d σ' H' →
        wpAny (model X.prog X.w) X.A (handleBy (.ref a) X.env hds') (SP X pins D) X.xe { s' with heap := h3 } := by
      intro hds' l' hk
      induction hk with
      | nil =>
        intro w
        refine wpAny_handleBy_nil ?_
        obtain ⟨k1, k2, k3, oe, vs, T, oT, ts', he, hz, hd, h1, hr⟩ := id fl3
        unfold PySem.passOn
        refine wpAny_bind (wpAny_field he hd h1 ?_)
        rw [if_neg (show ¬ ((Value.ref T == Value.none) = true) from by simp)]
        have fin : wpAny (model X.prog X.w) X.A (setFlight (.ref a) X.env.frame) (fun _ s4 => wpAny (model X.prog X.w) X.A (throw (.ref a) : Sem Flow) (SP X pins D) X.xe s4) X.xe { s' with heap := h3 } := by
          rw [hf]
          refine HandSPX.setFlight_upZ fl3 fun h4 hh4 up4 => wpAny_throw (tk _ _ ?_)
          exact ⟨a, B, sI, pins, σ', H', cls, d, rfl, J, nb, (up.trans up3).trans up4, .inr (.inr (by rw [hs]; exact hh4)), na, os, ag, w⟩
        first
          | exact wpAny_bind (wpAny_pure (wpAny_bind fin))
          | exact wpAny_bind fin
      | @cons x c ts b₀ suite np pos' hds2 l2 hc hsu r ih =>
        intro w
        obtain ⟨b, hb1, hyes, hno⟩ := w
        refine wpAny_handleBy_cons (codeAny_handlers_test ?_) (by intro q; cases q)
        have LT : PySem.W.Looks (model X.prog X.w) h3 (typeOf (.ref a)) cls := fun A Q E s k q => wpAny_typeOf_ref (k _ _ he3) (by rw [hz3.1]; exact q)
        have LM := PySem.W.exm_one (M := model X.prog X.w) (J3.kIn) LT hb1
        have test : ∀ {Q : Value → Shared → Prop} {E : Value → Shared → Prop}, Q c { s' with heap := h3 } → wpAny (model X.prog X.w) (X.A.mark (some (.ref a))) (eval (.Name x np) X.env) Q E { s' with heap := h3 } := fun {Q E} q => by
          obtain ⟨hg, hdbg, hm | ⟨hm, hv, hnn⟩⟩ := hc
          · exact ld_glob (X := X.suite a ((a, oe3) :: (X.pn ++ pins))) S3 hg hm q hdbg
          · exact ld_blt (X := X.suite a ((a, oe3) :: (X.pn ++ pins))) S3 hg hm hv q hnn hdbg
        refine test (LM.here ?_)
        cases b with
        | true =>
          refine codeAny_handlers_suite_as ?_
          refine HandSPX.lands_againZ fl3 fun h4 fl4 up4 => ?_
          have J4 : Inv X pins σ' H' { s' with heap := h4 } := J.landed nb fl4.1 ((up.trans up3).trans up4) os ag
          obtain ⟨oe4, vs4, he4, hz4, hd4⟩ := fl4.there
          have S4 := J4.suite he4 hd4 na nL nF
          refine store_ok (X := X.suite a ((a, oe4) :: (X.pn ++ pins))) (v := .ref a) S4 hN hi hloc rfl (fun s5 S5 => ?_) (.inr hln)
          refine wpAny_mono ((hsu a oe4 cls d (X.pn ++ pins) hz4 ⟨_, hd4⟩).run [] s5 _ H' _ S5 (hyes rfl a na)) (fun f s6 hsp => ?_) (fun _ _ z => False.elim z)
          cases f with
          | next =>
            obtain ⟨σ6, H6, S6, q6⟩ := hsp
            refine gone_ok (X := X.suite a ((a, oe4) :: (X.pn ++ pins))) S6 hN hi hln fun s7 S7 => ?_
            obtain ⟨e7, n7, _, _, d7⟩ := S7.pin (a, oe4) (List.mem_append.mpr (.inl List.mem_cons_self))
            have J7 := S7.unsuite ok
            refine ⟨_, _, Inv_track J7 n7 n0 nL (fun y c e z => ?_) nP (exK_ok e7 hz4 hd4), q6⟩
            obtain ⟨v, o, ho, hd⟩ := J7.cell y c e
            rw [z] at ho
            have ho : s7.heap.get? a = some o := ho
            rw [e7] at ho
            have := Option.some.inj ho
            subst this
            exact d7 _ hd
          | brk =>
            obtain ⟨_, _, _, q6⟩ := hsp
            exact q6.elim
          | cont =>
            obtain ⟨_, _, _, q6⟩ := hsp
            exact q6.elim
          | ret u =>
            obtain ⟨_, _, _, _, _, q6⟩ := hsp
            exact q6.elim
        | false =>
          show wpAny _ X.A (handleBy (.ref a) X.env hds2) _ _ _
          exact ih (hno rfl)
    exact go hh w
  · cases f with
    | next => obtain ⟨σ6, H6, S6, q6⟩ := hsp; exact wpAny_execs_nil ⟨σ6, H6, S6.ofTry ok, q6⟩
    | brk => obtain ⟨σ6, H6, S6, q6⟩ := hsp; exact ⟨σ6, H6, S6.ofTry ok, q6⟩
    | cont => obtain ⟨σ6, H6, S6, q6⟩ := hsp; exact ⟨σ6, H6, S6.ofTry ok, q6⟩
    | ret u => obtain ⟨v6, σ6, H6, S6, r6, q6⟩ := hsp; exact ⟨v6, σ6, H6, S6.ofTry ok, r6, q6⟩
end
end Sy
namespace Sy
open PySem L2
def tTryM (K : PySem.W.Frag) (i : Nat) (l : List (Value × (Addr → Value → Option Addr → TS))) (tb : WX → TS) : TS := fun D σ H => tb (wKeepM K i (fun _ _ _ _ => False) D l) D σ H
/-- raise C(..), C with an own __init__ -/
def tRaiseO (E : XK) (C : Addr) (sp : Sp) (ta : TA) : TS := fun _ σ H => tMkO C sp [] ta σ H E
end Sy
namespace Sy
open PySem PySem.Spec PyProof.Rows L2
/-- a tuple made in a clause: it is not the exception -/
def tTupN (a : Addr) (t : TA) : TE := fun σ H Q => t σ H fun xs H1 => xs.length ≤ sizeLine ∧ ∀ p, H1 p = none → p ≠ a → Q (.ref p) (upd H1 p (.tup xs))
theorem pe_tupN {X : Cx} {a : Addr} {oe : Obj} {pn : List (Addr × Obj)} {es : List Expr} {t : TA} {pos : Pos} {x1} (h : PA (X.suite a ((a, oe) :: pn)) es t) : PE (X.suite a ((a, oe) :: pn)) (.Tuple es x1 pos) (tTupN a t) := by
  refine ⟨fun pins s σ H Q I hq => ?_⟩
  refine wpAny_Tuple_spliced (thn (h.run pos pins s σ H _ I hq) fun us s1 ⟨xs, H1, I1, r, z, q⟩ => ⟨by rw [← r.length]; exact z, ?_⟩)
  have hf : H1 s1.heap.objs.size = none := I1.hok.fresh (Nat.le_refl _)
  have ne : s1.heap.objs.size ≠ a := fun e => by
    obtain ⟨ha, _⟩ := I1.pin (a, oe) (List.mem_append_left _ List.mem_cons_self)
    have ha : s1.heap.get? a = some oe := ha
    rw [← e] at ha
    rw [Heap.get?_none_of_le (Nat.le_refl _)] at ha
    cases ha
  refine ⟨.ref s1.heap.objs.size, upd H1 s1.heap.objs.size (.tup xs), I1.laid (t' := s1.toks) (fun b u e => Heap.get?_push_of_some _ e) (Nat.le_refl _) ?_, rfl, q _ hf ne⟩
  exact ⟨z, us, r, ⟨_, Heap.get?_push_size _ rfl, rfl, _, rfl⟩⟩
end Sy
namespace Sy
open PySem PySem.Spec PyProof.Rows L2
theorem hu65 {A : Around} {k : Nat} (hr : Room k A) : A.units + 65 < cLine := Nat.lt_of_le_of_lt (by omega : A.units + 65 ≤ A.units + 16 * k + 200) hr.un
end Sy
/-! == and != of lists and tuples whose items are the same: flat ones alike, or the same object (a dict, too). -/
namespace Sy
open PySem PySem.Spec PyProof.Rows L2
inductive Sm (K : PySem.W.Frag) (H : Hp) : Nat → V → V → Prop
  | non {n : Nat} : Sm K H n .non .non
  | bl {n : Nat} (b : Bool) : Sm K H n (.bl b) (.bl b)
  | int {n : Nat} (i : Int) : Sm K H n (.int i) (.int i)
  | str {n : Nat} (s : Str) : Sm K H n (.str s) (.str s)
  | ref {n : Nat} (a : Addr) : Sm K H n (.ref a) (.ref a)
  | tup {n : Nat} {a b : Addr} {xs ys : List V} : SqT K H a xs → SqT K H b ys → xs.length = ys.length → (∀ (j : Nat) (x y : V), xs[j]? = some x → ys[j]? = some y → Sm K H n x y) → Sm K H (n + 1) (.ref a) (.ref b)
theorem all_true (n : Nat) : (List.range n).all (fun _ => true) = true := by rw [List.all_eq_true]; intros; rfl
section
variable {X : Cx} {pins : List (Addr × Obj)} {σ : L2.St} {H : Hp} {s : Shared}
theorem vals_at {xs : List V} {its : List Value} (r : Vals xs its) {j : Nat} (h : j < its.toArray.size) : ∃ x, xs[j]? = some x ∧ RelV x its.toArray[j] := by
  have hl : j < xs.length := by rw [r.length]; simpa using h
  obtain ⟨u, e1, e2⟩ := Vals.get r (List.getElem?_eq_getElem hl)
  refine ⟨_, List.getElem?_eq_getElem hl, ?_⟩
  have hj : j < its.length := by simpa using h
  rw [List.getElem?_eq_getElem hj] at e1
  have e3 : its.toArray[j] = its[j] := by simp
  rw [e3, Option.some.inj e1]
  exact e2
theorem sm_flat {A : Around} {x : V} {v u : Value} (f : flatV x = true) (e : eqV x x = true) (r1 : RelV x v) (r2 : RelV x u) : SeqAt.EqAt A s v u true := by
  have h := mem_eqAt (A := A) (s := s) r2 f (xs := [x]) (us := [v]) (.cons r1 .nil) (by simp [f]) v List.mem_cons_self
  rw [eqU_of r1 f, e] at h
  exact h
theorem sm_eq (I : Inv X pins σ H s) : ∀ (n : Nat) (A : Around) (x y : V) (v u : Value), Sm X.K H n x y → RelV x v → RelV y u → A.units + n < cLine → SeqAt.EqAt A s v u true := by
  intro n
  induction n with
  | zero =>
    intro A x y v u h r1 r2 hu
    cases h with
    | non => exact sm_flat rfl rfl r1 r2
    | bl b => exact sm_flat rfl (by simp [eqV]) r1 r2
    | int i => exact sm_flat rfl (by simp [eqV]) r1 r2
    | str z => exact sm_flat rfl (by simp [eqV]) r1 r2
    | ref a => cases r1; cases r2; exact SeqAt.EqAt.same _
  | succ n ih =>
    intro A x y v u h r1 r2 hu
    cases h with
    | non => exact sm_flat rfl rfl r1 r2
    | bl b => exact sm_flat rfl (by simp [eqV]) r1 r2
    | int i => exact sm_flat rfl (by simp [eqV]) r1 r2
    | str z => exact sm_flat rfl (by simp [eqV]) r1 r2
    | ref a => cases r1; cases r2; exact SeqAt.EqAt.same _
    | @tup _ a b xs ys h1 h2 hl hs =>
      cases r1; cases r2
      by_cases e : a = b
      · subst e; exact SeqAt.EqAt.same _
      obtain ⟨i1, q1, t1, _⟩ := I.tuple h1
      obtain ⟨i2, q2, t2, _⟩ := I.tuple h2
      have hsz : i1.toArray.size = i2.toArray.size := by simp only [List.size_toArray]; rw [← q1.length, ← q2.length]; exact hl
      have R := SeqAt.RcAt.tuples (A := A) (e := fun _ => true) t1 t2 (by omega) (fun j g1 g2 => by
        obtain ⟨x, ex, rx⟩ := vals_at q1 g1
        obtain ⟨y, ey, ry⟩ := vals_at q2 g2
        exact ih A.in1 x y _ _ (hs j x y ex ey) rx ry (by show A.units + 1 + n < cLine; omega))
      rw [all_true, hsz, beq_self_eq_true] at R
      exact SeqAt.EqAt.of_refs e R
end
/-- both lists, or both tuples, item by item the same -/
def SmTop (K : PySem.W.Frag) (H : Hp) (x y : V) : Prop := ∃ (a b : Addr) (xs ys : List V) (n : Nat), x = .ref a ∧ y = .ref b ∧ (SqT K H a xs ∧ SqT K H b ys ∨ SqL K H a xs ∧ SqL K H b ys) ∧ xs.length = ys.length ∧ (∀ (j : Nat) (x y : V), xs[j]? = some x → ys[j]? = some y → Sm K H n x y) ∧ n ≤ 50
def rNeSm (K : PySem.W.Frag) : R2 := fun x y H Q => SmTop K H x y ∧ Q (.bl false) H
def rEqSm (K : PySem.W.Frag) : R2 := fun x y H Q => SmTop K H x y ∧ Q (.bl true) H
theorem op_neSm {X : Cx} (hu : X.A.units + 64 < cLine) : OpR X (compareOp .NotEq) (rNeSm X.K) := by
  intro pins s σ H x y v u Q I rx ry h
  obtain ⟨⟨a, b, xs, ys, n, rfl, rfl, hq, hl, hs, hn⟩, q⟩ := h
  cases rx; cases ry
  rcases hq with ⟨h1, h2⟩ | ⟨h1, h2⟩
  · obtain ⟨i1, q1, t1, _⟩ := I.tuple h1
    obtain ⟨i2, q2, t2, _⟩ := I.tuple h2
    have hsz : i1.toArray.size = i2.toArray.size := by simp only [List.size_toArray]; rw [← q1.length, ← q2.length]; exact hl
    have R := SeqAt.RcNeAt.tuples (A := X.A) (e := fun _ => true) t1 t2 (by omega) (fun j g1 g2 => by
      obtain ⟨x, ex, rx⟩ := vals_at q1 g1
      obtain ⟨y, ey, ry⟩ := vals_at q2 g2
      exact sm_eq I n X.A.in1 x y _ _ (hs j x y ex ey) rx ry (by show X.A.units + 1 + n < cLine; omega))
    rw [all_true, hsz, beq_self_eq_true] at R
    exact R _ _ _ _ ⟨.bl false, H, I, rfl, q⟩
  · obtain ⟨i1, q1, ⟨o1, n1, e1, c1, d1, dd1⟩, _⟩ := I.list h1
    obtain ⟨i2, q2, ⟨o2, n2, e2, c2, d2, dd2⟩, _⟩ := I.list h2
    have hsz : i1.toArray.size = i2.toArray.size := by simp only [List.size_toArray]; rw [← q1.length, ← q2.length]; exact hl
    have R := SeqAt.RcNeAt.lists (A := X.A) (e := fun _ => true) ⟨o1, e1, c1, n1, dd1⟩ ⟨o2, e2, c2, n2, dd2⟩ hsz (by omega) (fun j g1 g2 => by
      obtain ⟨x, ex, rx⟩ := vals_at q1 g1
      obtain ⟨y, ey, ry⟩ := vals_at q2 g2
      exact sm_eq I n X.A.in1 x y _ _ (hs j x y ex ey) rx ry (by show X.A.units + 1 + n < cLine; omega))
    rw [all_true] at R
    exact R _ _ _ _ ⟨.bl false, H, I, rfl, q⟩
theorem op_eqSm {X : Cx} (hu : X.A.units + 64 < cLine) : OpR X (compareOp .Eq) (rEqSm X.K) := by
  intro pins s σ H x y v u Q I rx ry h
  obtain ⟨⟨a, b, xs, ys, n, rfl, rfl, hq, hl, hs, hn⟩, q⟩ := h
  cases rx; cases ry
  rcases hq with ⟨h1, h2⟩ | ⟨h1, h2⟩
  · obtain ⟨i1, q1, t1, _⟩ := I.tuple h1
    obtain ⟨i2, q2, t2, _⟩ := I.tuple h2
    have hsz : i1.toArray.size = i2.toArray.size := by simp only [List.size_toArray]; rw [← q1.length, ← q2.length]; exact hl
    have R := SeqAt.RcAt.tuples (A := X.A) (e := fun _ => true) t1 t2 (by omega) (fun j g1 g2 => by
      obtain ⟨x, ex, rx⟩ := vals_at q1 g1
      obtain ⟨y, ey, ry⟩ := vals_at q2 g2
      exact sm_eq I n X.A.in1 x y _ _ (hs j x y ex ey) rx ry (by show X.A.units + 1 + n < cLine; omega))
    rw [all_true, hsz, beq_self_eq_true] at R
    exact R _ _ _ _ ⟨.bl true, H, I, rfl, q⟩
  · obtain ⟨i1, q1, ⟨o1, n1, e1, c1, d1, dd1⟩, _⟩ := I.list h1
    obtain ⟨i2, q2, ⟨o2, n2, e2, c2, d2, dd2⟩, _⟩ := I.list h2
    have hsz : i1.toArray.size = i2.toArray.size := by simp only [List.size_toArray]; rw [← q1.length, ← q2.length]; exact hl
    have R := SeqAt.RcAt.lists (A := X.A) (e := fun _ => true) ⟨o1, e1, c1, n1, dd1⟩ ⟨o2, e2, c2, n2, dd2⟩ hsz (by omega) (fun j g1 g2 => by
      obtain ⟨x, ex, rx⟩ := vals_at q1 g1
      obtain ⟨y, ey, ry⟩ := vals_at q2 g2
      exact sm_eq I n X.A.in1 x y _ _ (hs j x y ex ey) rx ry (by show X.A.units + 1 + n < cLine; omega))
    rw [all_true] at R
    exact R _ _ _ _ ⟨.bl true, H, I, rfl, q⟩
end Sy
local macro_rules | `(tactic| walk_at "hp") => `(tactic| first | assumption | exact Sy.Has.g0 (by assumption) | exact Sy.Has.g1 (by assumption) | exact Sy.Has.g2 (by assumption) | exact Sy.Has.g3 (by assumption) | exact Sy.Has.g4 (by assumption) | exact Sy.Has.g5 (by assumption) | exact Sy.Has.g6 (by assumption) | exact Sy.Has.g7 (by assumption) | exact Sy.Has.g8 (by assumption) | exact Sy.Has.g9 (by assumption) | exact Sy.Has.g10 (by assumption) | exact Sy.Has.g11 (by assumption) | exact Sy.Has.g12 (by assumption) | exact Sy.Has.g13 (by assumption) | exact Sy.Has.g14 (by assumption) | exact Sy.Has.g15 (by assumption))
local macro_rules | `(tactic| walk_at "hs") => `(tactic| first | exact Sy.Has.s0 (by assumption) | exact Sy.Has.s1 (by assumption) | exact Sy.Has.s2 (by assumption) | exact Sy.Has.s3 (by assumption) | exact Sy.Has.s4 (by assumption) | exact Sy.Has.s5 (by assumption) | exact Sy.Has.s6 (by assumption) | exact Sy.Has.s7 (by assumption) | exact Sy.Has.s8 (by assumption) | exact Sy.Has.s9 (by assumption) | exact Sy.Has.s10 (by assumption) | exact Sy.Has.s11 (by assumption) | exact Sy.Has.s12 (by assumption) | exact Sy.Has.s13 (by assumption) | exact Sy.Has.s14 (by assumption) | exact Sy.Has.s15 (by assumption))
local macro_rules | `(tactic| walk_at "sub1") => `(tactic| first | exact Sy.Sub.rf | apply Sy.Sub.p0 | apply Sy.Sub.p1 | apply Sy.Sub.p2 | apply Sy.Sub.p3 | apply Sy.Sub.p4 | apply Sy.Sub.p5 | apply Sy.Sub.p6 | apply Sy.Sub.p7 | apply Sy.Sub.p8 | apply Sy.Sub.p9 | apply Sy.Sub.p10 | apply Sy.Sub.p11 | apply Sy.Sub.p12 | apply Sy.Sub.p13 | apply Sy.Sub.p14 | apply Sy.Sub.p15 | apply Sy.Sub.skip)
local macro_rules | `(tactic| walk_at "sub") => `(tactic| repeat walk_at "sub1")
local macro_rules | `(tactic| walk_at "has") => `(tactic| (refine Sy.Has.sub (by assumption) ?_; repeat walk_at "sub1"))
local macro_rules | `(tactic| walk_at "sz") => `(tactic| first | (rw [PySem.sizeLine_eq]; first | decide | (simp; done) | (simp; omega) | omega) | omega)
local macro_rules | `(tactic| walk_at "cn") => `(tactic| first | assumption | omega | (unfold L2.CMul; omega) | (unfold L2.CDiv; omega) | (unfold L2.CPow; omega) | decide)
local macro_rules | `(tactic| walk_at "fl") => `(tactic| first | rfl | assumption)
local macro_rules | `(tactic| walk_at "ix") => `(tactic| first | assumption | rfl)
local macro_rules | `(tactic| walk_at "fsl") => `(tactic| first | assumption | decide | (simp; done))
local macro_rules | `(tactic| walk_at "put") => `(tactic| rfl)
local macro_rules | `(tactic| walk_at "st1") => `(tactic| first | with_reducible refine Sy.x_seq ?_ | with_reducible refine Sy.x_asg ?_ | with_reducible refine Sy.x_gname ?_ | with_reducible refine Sy.x_c ?_ | with_reducible refine Sy.x_op ?_ | with_reducible refine Sy.x_un ?_ | with_reducible refine Sy.x_test ?_ | with_reducible refine Sy.x_tB ?_ | with_reducible refine Sy.k_b ?_ | with_reducible refine Sy.x_if ?_ | with_reducible refine Sy.x_and ?_ | with_reducible refine Sy.x_or ?_ | with_reducible refine Sy.x_not ?_ | with_reducible refine Sy.x_andV ?_ | with_reducible refine Sy.x_orV ?_ | with_reducible refine Sy.x_notV ?_ | with_reducible refine Sy.k_andV ?_ | with_reducible refine Sy.k_orV ?_ | with_reducible refine Sy.k_notVt ?_ | with_reducible refine Sy.k_notVf ?_ | with_reducible refine Sy.k_notV ?_ | with_reducible refine Sy.ifNT ?_ | with_reducible refine Sy.ifNF ?_ | with_reducible refine Sy.x_ifE ?_ | with_reducible refine Sy.x_chain ?_ | with_reducible refine Sy.k_chain ?_ | with_reducible refine Sy.x_ret ?_ | with_reducible refine Sy.x_retN ?_ | with_reducible refine Sy.x_drop ?_ | with_reducible refine Sy.x_next ?_ | with_reducible refine Sy.x_brk ?_ | with_reducible refine Sy.x_ct ?_ | with_reducible refine Sy.x_cons ?_ | with_reducible refine Sy.x_nil ?_ | with_reducible refine Sy.x_call0 ?_ | with_reducible refine Sy.x_call ?_ | with_reducible refine Sy.x_meth ?_ | with_reducible refine Sy.x_cb ?_ | with_reducible refine Sy.x_fld ?_ | with_reducible refine Sy.x_sfld ?_ | with_reducible refine Sy.x_lst ?_ | with_reducible refine Sy.x_tup ?_ | with_reducible refine Sy.x_bm ?_ | with_reducible refine Sy.x_bm0 ?_ | with_reducible refine Sy.k_addI ?_ | with_reducible refine Sy.k_subI ?_ | with_reducible refine Sy.k_ltI ?_ | with_reducible refine Sy.k_leI ?_ | with_reducible refine Sy.k_gtI ?_ | with_reducible refine Sy.k_geI ?_ | with_reducible refine Sy.k_eqI ?_ | with_reducible refine Sy.k_neI ?_ | with_reducible refine Sy.k_eqB ?_ | with_reducible refine Sy.k_neB ?_ | with_reducible refine Sy.k_eqS ?_ | with_reducible refine Sy.k_neS ?_ | with_reducible refine Sy.k_isNo0 ?_ | with_reducible refine Sy.k_isNoI ?_ | with_reducible refine Sy.k_isNoR ?_ | with_reducible refine Sy.k_notNo0 ?_ | with_reducible refine Sy.k_notNoI ?_ | with_reducible refine Sy.k_notNoR ?_ | with_reducible refine Sy.k_eqIN ?_ | with_reducible refine Sy.k_eqNI ?_ | with_reducible refine Sy.k_eqNN ?_ | with_reducible refine Sy.k_neIN ?_ | with_reducible refine Sy.k_neNI ?_ | with_reducible refine Sy.k_neNN ?_ | with_reducible refine Sy.ifT ?_ | with_reducible refine Sy.ifF ?_ | with_reducible refine Sy.x_gcons ?_ | with_reducible refine Sy.x_gnil ?_ | with_reducible refine Sy.x_gsub ?_ | with_reducible refine Sy.x_rg1 ?_ | with_reducible refine Sy.k_rg1 ?_ | with_reducible refine Sy.x_lstRg ?_ | with_reducible refine Sy.x_make ?_ | with_reducible refine Sy.x_dget ?_ | with_reducible refine Sy.x_din ?_ | with_reducible refine Sy.x_dnot ?_ | with_reducible refine Sy.x_dput ?_ | with_reducible refine Sy.x_dpop1 ?_ | with_reducible refine Sy.x_dget2 ?_ | with_reducible refine Sy.x_dget1 ?_ | with_reducible refine Sy.x_forR ?_ | with_reducible refine Sy.x_forL ?_ | with_reducible refine Sy.x_lcL ?_ | with_reducible refine Sy.x_lcR ?_ | with_reducible refine Sy.x_yes ?_ | with_reducible refine Sy.k_isiII ?_ | with_reducible refine Sy.k_isiIB ?_ | with_reducible refine Sy.k_isiBI ?_ | with_reducible refine Sy.k_isiBB ?_ | with_reducible refine Sy.x_par ?_ | with_reducible refine Sy.k_par ?_ | with_reducible refine Sy.k_neDNN ?_ | with_reducible refine Sy.k_eqDNN ?_ | with_reducible refine Sy.x_cfn ?_ | with_reducible refine Sy.k_cfn0 ?_ | with_reducible refine Sy.x_dpopT ?_ | with_reducible refine Sy.x_makeN ?_ | with_reducible refine Sy.x_par3 ?_ | with_reducible refine Sy.k_par3 ?_ | with_reducible refine Sy.k_isB ?_ | with_reducible refine Sy.k_notB ?_ | with_reducible refine Sy.x_listVals ?_ | with_reducible refine Sy.x_revL ?_ | with_reducible refine Sy.x_raise ?_ | with_reducible refine Sy.x_tryK ?_ | with_reducible refine Sy.x_callS ?_ | with_reducible refine Sy.x_methS ?_ | with_reducible refine Sy.x_sset (fun _ => ?_))
local macro_rules | `(tactic| walk_at "st2") => `(tactic| first | ((with_reducible refine' Sy.x_var ?h ?q); (case h => rfl)) | ((with_reducible refine' Sy.k_fld ?hp ?hc ?hn ?hl ?q); (case hp => walk_at "hp"); (case hc => assumption); (case hn => assumption); (case hl => walk_at "fl")) | ((with_reducible refine' Sy.k_meth0 ?hp ?hl ?q); (case hp => walk_at "hp"); (case hl => walk_at "fl")) | ((with_reducible refine' Sy.k_meth ?hp ?hl ?q); (case hp => walk_at "hp"); (case hl => walk_at "fl")) | ((with_reducible refine' Sy.k_ixL ?hp ?hi ?q); (case hp => walk_at "hp"); (case hi => walk_at "ix")) | ((with_reducible refine' Sy.k_ixT ?hp ?hi ?q); (case hp => walk_at "hp"); (case hi => walk_at "ix")) | ((with_reducible refine' Sy.k_tyL ?hp ?q); (case hp => walk_at "hp")) | ((with_reducible refine' Sy.k_lenL ?hp ?q); (case hp => walk_at "hp")) | ((with_reducible refine' Sy.k_lenT ?hp ?q); (case hp => walk_at "hp")) | ((with_reducible refine' Sy.k_lenK ?hp ?q); (case hp => walk_at "hp")) | ((with_reducible refine' Sy.k_isiLL ?hp ?q); (case hp => walk_at "hp")) | ((with_reducible refine' Sy.k_isiTT ?hp ?q); (case hp => walk_at "hp")) | ((with_reducible refine' Sy.k_all ?hp ?q); (case hp => walk_at "hp")) | ((with_reducible refine' Sy.k_sum ?hp ?q); (case hp => walk_at "hp")) | ((with_reducible refine' Sy.k_isD ?hp ?q); (case hp => walk_at "hp")) | ((with_reducible refine' Sy.k_isDT ?hp ?q); (case hp => walk_at "hp")) | ((with_reducible refine' Sy.k_din ?hp ?q); (case hp => walk_at "hp")) | ((with_reducible refine' Sy.k_dnot ?hp ?q); (case hp => walk_at "hp")) | ((with_reducible refine' Sy.k_dget2 ?hp ?q); (case hp => walk_at "hp")) | ((with_reducible refine' Sy.k_dget1 ?hp ?q); (case hp => walk_at "hp")) | ((with_reducible refine' Sy.k_dinP ?hp ?hb ?q); (case hp => walk_at "hp"); (case hb => walk_at "hp")) | ((with_reducible refine' Sy.k_dnotP ?hp ?hb ?q); (case hp => walk_at "hp"); (case hb => walk_at "hp")) | ((with_reducible refine' Sy.k_dget2P ?hp ?hb ?q); (case hp => walk_at "hp"); (case hb => walk_at "hp")) | ((with_reducible refine' Sy.k_dget ?hp ?hv ?q); (case hp => walk_at "hp"); (case hv => walk_at "ix")) | ((with_reducible refine' Sy.k_dgetF ?hp ?hv ?q); (case hp => walk_at "hp"); (case hv => walk_at "ix")) | ((with_reducible refine' Sy.k_dgetP ?hp ?hb ?hv ?q); (case hp => walk_at "hp"); (case hb => walk_at "hp"); (case hv => walk_at "ix")) | ((with_reducible refine' Sy.k_mulI ?h ?q); (case h => walk_at "cn")) | ((with_reducible refine' Sy.k_divI ?h ?q); (case h => walk_at "cn")) | ((with_reducible refine' Sy.k_modI ?h ?q); (case h => walk_at "cn")) | ((with_reducible refine' Sy.k_powI ?h ?q); (case h => walk_at "cn")) | ((with_reducible refine' Sy.x_gtup ?hp ?hl ?q); (case hp => walk_at "hp"); (case hl => rfl)) | ((with_reducible refine' Sy.k_inIt ?hp ?q); (case hp => walk_at "hp")) | ((with_reducible refine' Sy.k_inIf ?hp ?q); (case hp => walk_at "hp")) | ((with_reducible refine' Sy.k_eqLN ?hp ?hq ?q); (case hp => walk_at "hp"); (case hq => walk_at "hp")) | ((with_reducible refine' Sy.k_neLN ?hp ?hq ?q); (case hp => walk_at "hp"); (case hq => walk_at "hp")) | ((with_reducible refine' Sy.k_eqLI ?hp ?hq ?q); (case hp => walk_at "hp"); (case hq => walk_at "hp")) | ((with_reducible refine' Sy.k_neLI ?hp ?hq ?q); (case hp => walk_at "hp"); (case hq => walk_at "hp")) | ((with_reducible refine' Sy.k_cnt ?hp ?q); (case hp => walk_at "hp")) | ((with_reducible refine' Sy.k_lenO ?hp ?q); (case hp => walk_at "hp")) | ((with_reducible refine' Sy.k_methS ?hp ?hl ?q); (case hp => walk_at "hp"); (case hl => walk_at "fl")) | ((with_reducible refine' Sy.k_isKR ?hp ?hC ?hk ?q); (case hp => walk_at "hp"); (case hC => assumption); (case hk => assumption)) | ((with_reducible refine' Sy.k_isKT ?hp ?hC ?hk ?q); (case hp => walk_at "hp"); (case hC => assumption); (case hk => assumption)) | ((with_reducible refine' Sy.x_glst ?hp ?hl ?q); (case hp => walk_at "hp"); (case hl => rfl)) | ((with_reducible refine' Sy.k_dgetFP ?hp ?hb ?hv ?q); (case hp => walk_at "hp"); (case hb => walk_at "hp"); (case hv => walk_at "ix")))
local macro_rules | `(tactic| walk_at "st3") => `(tactic| first | ((with_reducible refine' Sy.k_rem ?hp ?hk ?hh ?q); (case hp => walk_at "hp"); (case hk => assumption); (case hh => walk_at "hs"); intro _ _) | ((with_reducible refine' Sy.k_dpopT ?hp ?hb ?hv ?hh ?q); (case hp => walk_at "hp"); (case hb => walk_at "hp"); (case hv => walk_at "ix"); (case hh => walk_at "hs"); intro _ _) | ((with_reducible refine' Sy.k_sset ?hh ?hp ?hl ?q); (case hh => assumption); (case hp => walk_at "hp"); (case hl => first | assumption | omega | walk_at "sz"); intro _ _ _ _ _ _) | ((with_reducible refine' Sy.k_lst ?hh ?hl ?q); (case hh => assumption); (case hl => walk_at "sz"); intro _ _ _) | ((with_reducible refine' Sy.k_make0 ?hh ?q); (case hh => assumption); intro _ _ _ _) | ((with_reducible refine' Sy.k_listVals ?hh ?hp ?q); (case hh => assumption); (case hp => walk_at "hp"); intro _ _ _) | ((with_reducible refine' Sy.x_disp1 ?hh ?q); (case hh => assumption); intro _ _ _) | ((with_reducible refine' Sy.k_disp ?hp ?hh ?q); (case hp => walk_at "hp"); (case hh => walk_at "hs"); intro _ _) | ((with_reducible refine' Sy.k_revL ?hh ?hp ?q); (case hh => assumption); (case hp => walk_at "hp"); intro _ _ _) | ((with_reducible refine' Sy.k_setD ?hp ?hl ?hh ?q); (case hp => walk_at "hp"); (case hl => walk_at "sz"); (case hh => walk_at "hs"); intro _ _) | ((with_reducible refine' Sy.k_make ?hh ?q); (case hh => assumption); intro _ _ _ _) | ((with_reducible refine' Sy.k_makeN ?hh ?hn ?hm ?q); (case hh => assumption); (case hn => rfl); (case hm => rfl); intro _ _ _ _) | ((with_reducible refine' Sy.k_tupN ?hh ?hl ?q); (case hh => assumption); (case hl => walk_at "sz"); intro _ _ _) | ((with_reducible refine' Sy.k_setL ?hp ?hk ?hh ?q); (case hp => walk_at "hp"); (case hk => walk_at "ix"); (case hh => walk_at "hs"); intro _ _) | ((with_reducible refine' Sy.k_app ?hp ?hl ?hh ?q); (case hp => walk_at "hp"); (case hl => walk_at "sz"); (case hh => walk_at "hs"); intro _ _) | ((with_reducible refine' Sy.k_add ?hp ?hl ?hh ?q); (case hp => walk_at "hp"); (case hl => walk_at "sz"); (case hh => walk_at "hs"); intro _ _) | ((with_reducible refine' Sy.k_pop ?hp ?hl ?hh ?q); (case hp => walk_at "hp"); (case hl => walk_at "ix"); (case hh => walk_at "hs"); intro _ _) | ((with_reducible refine' Sy.k_sfld ?hp ?hc ?hn ?hl ?he ?hh ?q); (case hp => walk_at "hp"); (case hc => assumption); (case hn => assumption); (case hl => walk_at "fsl"); (case he => walk_at "put"); (case hh => walk_at "hs"); intro _ _) | ((with_reducible refine' Sy.k_cat ?hh ?hp ?hq ?hl ?q); (case hh => assumption); (case hp => walk_at "hp"); (case hq => walk_at "hp"); (case hl => walk_at "sz"); intro _ _ _) | ((with_reducible refine' Sy.k_rep ?hh ?hp ?h0 ?h1 ?q); (case hh => assumption); (case hp => walk_at "hp"); (case h0 => omega); (case h1 => omega); intro _ _ _) | ((with_reducible refine' Sy.k_lstRg ?hh ?h0 ?h1 ?q); (case hh => assumption); (case h0 => omega); (case h1 => omega); intro _ _ _) | ((with_reducible refine' Sy.x_dnewK ?hh ?q); (case hh => assumption); intro _ _ _) | ((with_reducible refine' Sy.x_dnewT ?hh ?q); (case hh => assumption); intro _ _ _) | ((with_reducible refine' Sy.k_dput ?hp ?hl ?hh ?q); (case hp => walk_at "hp"); (case hl => walk_at "sz"); (case hh => walk_at "hs"); intro _ _) | ((with_reducible refine' Sy.k_dputP ?hp ?hb ?hl ?hh ?q); (case hp => walk_at "hp"); (case hb => walk_at "hp"); (case hl => walk_at "sz"); (case hh => walk_at "hs"); intro _ _) | ((with_reducible refine' Sy.k_dpop1 ?hp ?hv ?hh ?q); (case hp => walk_at "hp"); (case hv => walk_at "ix"); (case hh => walk_at "hs"); intro _ _) | ((with_reducible refine' Sy.k_listOf ?hh ?hp ?q); (case hh => assumption); (case hp => walk_at "hp"); intro _ _ _) | ((with_reducible refine' Sy.k_sortI ?hh ?hp ?q); (case hh => assumption); (case hp => walk_at "hp"); intro _ _ _ _ _ _) | ((with_reducible refine' Sy.k_sortD ?hh ?hp ?hl ?q); (case hh => assumption); (case hp => walk_at "hp"); (case hl => first | assumption | omega | walk_at "sz"); intro _ _ _ _ _ _))
local macro_rules | `(tactic| walk_at "go1") => `(tactic| first | walk_at "st1" | walk_at "st2" | walk_at "st3")
local macro_rules | `(tactic| walk_at "go") => `(tactic| repeat walk_at "go1")
namespace La
open PySem L2 Sy
def t_is_whole (K : PySem.W.Frag) : TS :=
  tRet (tAndV (tCB (rIsi K) (tCons (tVar 0) (tCons (tC (.ty "int")) (tNil)))) (tAndV (tNotV (tCB (rIsi K) (tCons (tVar 0) (tCons (tC (.ty "bool")) (tNil))))) (tChain rLeI rLeI (tVar 1) (tVar 0) (tVar 2))))
def t_look_number (K : PySem.W.Frag) (sp_is_whole : Sp) : TS :=
  tIfS (tNot (tB (tCall sp_is_whole [] E0 (tCons (tVar 0) (tCons (tVar 1) (tCons (tVar 2) (tNil))))))) (tNever) (tNext)
def t_Store_init (K : PySem.W.Frag) (sp_look_number : Sp) : TS :=
  tSeq (tDrop (tCall sp_look_number [] E0 (tCons (tVar 1) (tCons (tC (.int 1)) (tCons (tC (.int 6)) (tNil))))))
    (tSeq (tDrop (tCall sp_look_number [] E0 (tCons (tVar 2) (tCons (tC (.int 1)) (tCons (tC (.int 5)) (tNil))))))
    (tSeq (sFld K (tVar 0) (tVar 1) "hands")
    (tSeq (sFld K (tVar 0) (tCB (rDictP K) (tCons (tLc (iRng1 (tCons (tVar 2) (tNil))) (gName 3) tYes (tTup (tCons (tVar 3) (tCons (tC (.int 0)) (tNil)))) [3]) (tNil))) "worth")
    (tSeq (sFld K (tVar 0) (tLstRg (tRg1 (tVar 2))) "cells")
    (sFld K (tVar 0) (tVar 2) "made")))))
def t_Store_look_cell (K : PySem.W.Frag) (sp_is_whole : Sp) : TS :=
  tIfS (tNot (tB (tCall sp_is_whole [] E0 (tCons (tVar 1) (tCons (tC (.int 0)) (tCons (tOp rSubI (tCB (rLenQ K) (tCons (tFld K (tVar 0) "cells") (tNil))) (tC (.int 1))) (tNil))))))) (tNever) (tNext)
def t_Store_after_swap (K : PySem.W.Frag) : TS :=
  tRet (tC .non)
def t_Store_swap (K : PySem.W.Frag) (C_Store : Addr) (sp_Store__Store_look_cell sp_look_number sp_Store__Store_after_swap : Sp) : TS :=
  tSeq (tDrop (tMeth C_Store "look_cell" sp_Store__Store_look_cell [] E0 (tVar 0) (tCons (tVar 1) (tNil))))
    (tSeq (tDrop (tCall sp_look_number [] E0 (tCons (tVar 2) (tCons (tC (.int 0)) (tCons (tC (.int 999)) (tNil))))))
    (tSeq (tAsg (tOp (rIxL K) (tFld K (tVar 0) "cells") (tVar 1)) (gName 3))
    (tSeq (sDPut (tFld K (tVar 0) "worth") (tFld K (tVar 0) "made") (tVar 2))
    (tSeq (tAsg (tFld K (tVar 0) "made") (gSub (tFld K (tVar 0) "cells") (tVar 1) rSetL))
    (tSeq (sFld K (tVar 0) (tOp rAddI (tFld K (tVar 0) "made") (tC (.int 1))) "made")
    (tSeq (tDrop (tMeth C_Store "after_swap" sp_Store__Store_after_swap [] E0 (tVar 0) (tCons (tVar 3) (tNil))))
    (tRet (tVar 3))))))))
def t_Store_now (K : PySem.W.Frag) : TS :=
  tRet (tLc (iList K (tFld K (tVar 0) "cells")) (gName 1) tYes (tDGet (tFld K (tVar 0) "worth") (tVar 1)) [1])
def t_Store_kept (K : PySem.W.Frag) : TS :=
  tRet (tCB rSortD (tCons (tFld K (tVar 0) "worth") (tNil)))
def t__law_town (K : PySem.W.Frag) : TS :=
  tRet (tLst (tCons (tIf (tTest (tOp (rNeD K) (tVar 0) (tLst (tNil)))) (tCB (rListOf K) (tCons (tVar 0) (tNil))) (tLst (tCons (tC (.int 0)) (tNil)))) (tCons (tC (.int 0)) (tNil))))
def t__law_draw (K : PySem.W.Frag) : TS :=
  tSeq (tAsg (tOp (rIxL K) (tVar 0) (tC (.int 0))) (gName 2))
    (tSeq (tAsg (tOp rAddI (tOp (rIxL K) (tVar 0) (tC (.int 1))) (tC (.int 1))) (gSub (tVar 0) (tC (.int 1)) rSetL))
    (tSeq (tAsg (tOp rModI (tOp (rIxL K) (tVar 0) (tC (.int 1))) (tCB (rLenQ K) (tCons (tVar 2) (tNil)))) (gName 3))
    (tSeq (tAsg (tOp (rIxL K) (tVar 2) (tVar 3)) (gName 4))
    (tSeq (tIfS (tTest (tOp rGeI (tVar 4) (tC (.int 1000000000000000000)))) (tSeq (tAsg (tOp rDivI (tVar 4) (tVar 1)) (gSub (tVar 2) (tVar 3) rSetL))
    (tRet (tOp rModI (tVar 4) (tVar 1)))) (tNext))
    (tSeq (tAsg (tOp rModI (tOp rAddI (tVar 4) (tOp rMulI (tC (.int 104729)) (tOp (rIxL K) (tVar 0) (tC (.int 1))))) (tC (.int 4294967291))) (gName 5))
    (tSeq (tAsg (tOp rModI (tOp rPowI (tVar 5) (tC (.int 5))) (tC (.int 4294967279))) (gName 5))
    (tRet (tOp rModI (tOp rDivI (tOp rModI (tOp rAddI (tOp rMulI (tOp rDivI (tVar 5) (tC (.int 64))) (tC (.int 69621))) (tVar 5)) (tC (.int 4294967231))) (tC (.int 8))) (tVar 1)))))))))
def t__law_pick (K : PySem.W.Frag) (sp__law_draw : Sp) : TS :=
  tRet (tOp (rIxL K) (tVar 1) (tCall sp__law_draw [] E0 (tCons (tVar 0) (tCons (tCB (rLenQ K) (tCons (tVar 1) (tNil))) (tNil)))))
def t__law_whole (K : PySem.W.Frag) : TS :=
  tRet (tAndV (tCB (rIsi K) (tCons (tVar 0) (tCons (tC (.ty "int")) (tNil)))) (tNotV (tCB (rIsi K) (tCons (tVar 0) (tCons (tC (.ty "bool")) (tNil))))))
def t__law_whole_list (K : PySem.W.Frag) (sp__law_whole : Sp) : TS :=
  tRet (tAndV (tCB (rIsi K) (tCons (tVar 0) (tCons (tC (.ty "list")) (tNil)))) (tCB (rAll K) (tCons (tLc (iList K (tVar 0)) (gName 1) tYes (tCall sp__law_whole [] E0 (tCons (tVar 1) (tNil))) [1]) (tNil))))
def t__law_value (K : PySem.W.Frag) (sp__law_pick sp__law_draw : Sp) : TS :=
  tRet (tCall sp__law_pick [] E0 (tCons (tVar 0) (tCons (tLst (tCons (tC (.int 0)) (tCons (tC (.int 999)) (tCons (tCall sp__law_draw [] E0 (tCons (tVar 0) (tCons (tC (.int 1000)) (tNil)))) (tCons (tCall sp__law_draw [] E0 (tCons (tVar 0) (tCons (tC (.int 5)) (tNil)))) (tNil)))))) (tNil))))
def t__law_things (K : PySem.W.Frag) : TS :=
  tRet (tLst (tCons (tLstRg (tRg1 (tVar 0))) (tCons (tOp rRep (tLst (tCons (tC (.int 0)) (tNil))) (tVar 0)) (tCons (tLstRg (tRg1 (tVar 0))) (tNil)))))
def t__law_swap (K : PySem.W.Frag) (C_Store : Addr) (sp__law_draw sp__law_value sp_Store__Store_swap : Sp) : TS :=
  tSeq (tAsg (tCall sp__law_draw [] E0 (tCons (tVar 0) (tCons (tCB (rLenQ K) (tCons (tOp (rIxL K) (tVar 2) (tC (.int 0))) (tNil))) (tNil)))) (gName 3))
    (tSeq (tAsg (tCall sp__law_value [] E0 (tCons (tVar 0) (tNil))) (gName 4))
    (tSeq (tAsg (tOp (rIxL K) (tOp (rIxL K) (tVar 2) (tC (.int 0))) (tVar 3)) (gName 5))
    (tSeq (tAsg (tCB (rLenQ K) (tCons (tOp (rIxL K) (tVar 2) (tC (.int 1))) (tNil))) (gSub (tOp (rIxL K) (tVar 2) (tC (.int 0))) (tVar 3) rSetL))
    (tSeq (tDrop (tBM K "list" rAppend (tOp (rIxL K) (tVar 2) (tC (.int 2))) (tCons (tCB (rLenQ K) (tCons (tOp (rIxL K) (tVar 2) (tC (.int 1))) (tNil))) (tNil))))
    (tSeq (tDrop (tBM K "list" rAppend (tOp (rIxL K) (tVar 2) (tC (.int 1))) (tCons (tVar 4) (tNil))))
    (tRet (tIf (tTest (tOp rEq (tMeth C_Store "swap" sp_Store__Store_swap [] E0 (tVar 1) (tCons (tVar 3) (tCons (tVar 4) (tNil)))) (tVar 5))) (tVar 5) (tC .non))))))))
def t__law_fits (K : PySem.W.Frag) (C_Store : Addr) (sp_Store__Store_now sp_Store__Store_kept sp__law_whole_list : Sp) : TS :=
  tSeq (tIfS (tTest (tOp (rNeD K) (tMeth C_Store "now" sp_Store__Store_now [] E0 (tVar 0) tNil) (tLc (iList K (tOp (rIxL K) (tVar 1) (tC (.int 0)))) (gName 2) tYes (tOp (rIxL K) (tOp (rIxL K) (tVar 1) (tC (.int 1))) (tVar 2)) [2]))) (tRet (tC (.bl false))) (tNext))
    (tRet (tAndV (tOp (rEqD K) (tMeth C_Store "kept" sp_Store__Store_kept [] E0 (tVar 0) tNil) (tCB (rSortedI K) (tCons (tOp (rIxL K) (tVar 1) (tC (.int 2))) (tNil)))) (tCall sp__law_whole_list [] E0 (tCons (tMeth C_Store "kept" sp_Store__Store_kept [] E0 (tVar 0) tNil) (tNil)))))
def t_Store_look_hand (K : PySem.W.Frag) (sp_is_whole : Sp) : TS :=
  tIfS (tNot (tB (tCall sp_is_whole [] E0 (tCons (tVar 1) (tCons (tC (.int 0)) (tCons (tOp rSubI (tFld K (tVar 0) "hands") (tC (.int 1))) (tNil))))))) (tNever) (tNext)
def t_Store_is_out (K : PySem.W.Frag) : TS :=
  tRet (tOp (rIn K true) (tVar 1) (tFld K (tVar 0) "cells"))
def t_Store_let_go (K : PySem.W.Frag) : TS :=
  tSeq (tFor (iList K (tVar 1)) (gName 2) (tDrop (tDPop1 (tFld K (tVar 0) "worth") (tVar 2))))
    (tRet (tCB (rSortedI K) (tCons (tVar 1) (tNil))))
def t_Store_value_of (K : PySem.W.Frag) : TS :=
  tSeq (tIfS (tB (tDNotIn (tVar 1) (tFld K (tVar 0) "worth"))) (tNever) (tNext))
    (tRet (tDGet (tFld K (tVar 0) "worth") (tVar 1)))
def t_Rounds_init (K : PySem.W.Frag) (C_Store : Addr) (sp_Rounds__Store_init : Sp) : TS :=
  tSeq (tDrop (tCFn C_Store sp_Rounds__Store_init [] E0 (tC (.ref C_Store)) (tCons (tVar 0) (tCons (tVar 1) (tCons (tVar 2) (tNil))))))
    (tSeq (sFld K (tVar 0) (tC (.int 0)) "era")
    (tSeq (sFld K (tVar 0) (tDNewK) "inside")
    (tSeq (sFld K (tVar 0) (tDNewK) "saw")
    (sFld K (tVar 0) (tDNewK) "waits"))))
def t_Rounds_look_in (K : PySem.W.Frag) (C_Rounds : Addr) (sp_Rounds__Store_look_hand : Sp) : TS :=
  tSeq (tDrop (tMeth C_Rounds "look_hand" sp_Rounds__Store_look_hand [] E0 (tVar 0) (tCons (tVar 1) (tNil))))
    (tIfS (tB (tDNotIn (tVar 1) (tFld K (tVar 0) "inside"))) (tNever) (tNext))
def t_Rounds_read (K : PySem.W.Frag) (C_Rounds : Addr) (sp_Rounds__Rounds_look_in sp_Rounds__Store_value_of : Sp) : TS :=
  tSeq (tDrop (tMeth C_Rounds "look_in" sp_Rounds__Rounds_look_in [] E0 (tVar 0) (tCons (tVar 1) (tNil))))
    (tSeq (tIfS (tOr (tB (tCB (rIsi K) (tCons (tVar 2) (tCons (tC (.ty "bool")) (tNil))))) (tTest (tOp (rIn K true) (tVar 2) (tDGet (tFld K (tVar 0) "saw") (tVar 1))))) (tNever) (tNext))
    (tRet (tMeth C_Rounds "value_of" sp_Rounds__Store_value_of [] E0 (tVar 0) (tCons (tVar 2) (tNil)))))
def t_Rounds_after_swap (K : PySem.W.Frag) : TS :=
  sDPut (tFld K (tVar 0) "waits") (tVar 1) (tFld K (tVar 0) "era")
def t_Rounds_enter (K : PySem.W.Frag) (C_Rounds : Addr) (sp_Rounds__Store_look_hand : Sp) : TS :=
  tSeq (tDrop (tMeth C_Rounds "look_hand" sp_Rounds__Store_look_hand [] E0 (tVar 0) (tCons (tVar 1) (tNil))))
    (tSeq (tIfS (tB (tDIn (tVar 1) (tFld K (tVar 0) "inside"))) (tNever) (tNext))
    (tSeq (sDPut (tFld K (tVar 0) "inside") (tVar 1) (tFld K (tVar 0) "era"))
    (tSeq (sDPut (tFld K (tVar 0) "saw") (tVar 1) (tLst (tNil)))
    (tRet (tFld K (tVar 0) "era")))))
def t_Rounds_leave (K : PySem.W.Frag) (C_Rounds : Addr) (sp_Rounds__Rounds_look_in : Sp) : TS :=
  tSeq (tDrop (tMeth C_Rounds "look_in" sp_Rounds__Rounds_look_in [] E0 (tVar 0) (tCons (tVar 1) (tNil))))
    (tSeq (tDrop (tDPop1 (tFld K (tVar 0) "inside") (tVar 1)))
    (tDrop (tDPop1 (tFld K (tVar 0) "saw") (tVar 1))))
def t_Rounds_look (K : PySem.W.Frag) (C_Rounds : Addr) (sp_Rounds__Rounds_look_in sp_Rounds__Store_look_cell : Sp) : TS :=
  tSeq (tDrop (tMeth C_Rounds "look_in" sp_Rounds__Rounds_look_in [] E0 (tVar 0) (tCons (tVar 1) (tNil))))
    (tSeq (tDrop (tMeth C_Rounds "look_cell" sp_Rounds__Store_look_cell [] E0 (tVar 0) (tCons (tVar 2) (tNil))))
    (tSeq (tDrop (tBM K "list" rAppend (tDGet (tFld K (tVar 0) "saw") (tVar 1)) (tCons (tOp (rIxL K) (tFld K (tVar 0) "cells") (tVar 2)) (tNil))))
    (tRet (tOp (rIxL K) (tFld K (tVar 0) "cells") (tVar 2)))))
def t_Rounds_go_on (K : PySem.W.Frag) (C_Rounds : Addr) (sp_Rounds__Store_let_go : Sp) : TS :=
  tSeq (tIfS (tNot (tB (tCB (rAll K) (tCons (tLockE (tLc (iKeys (tFld K (tVar 0) "inside")) (gName 1) tYes (tOp rEq (tDGet (tFld K (tVar 0) "inside") (tVar 1)) (tFld K (tVar 0) "era")) [1])) (tNil))))) (tRet (tC .non)) (tNext))
    (tSeq (sFld K (tVar 0) (tOp rAddI (tFld K (tVar 0) "era") (tC (.int 1))) "era")
    (tSeq (tLock (tAsg (tLc (iKeys (tFld K (tVar 0) "waits")) (gName 3) (tTest (tOp rLeI (tDGet (tFld K (tVar 0) "waits") (tVar 3)) (tOp rSubI (tFld K (tVar 0) "era") (tC (.int 2))))) (tVar 3) [3]) (gName 2)))
    (tSeq (tFor (iList K (tVar 2)) (gName 3) (tDrop (tDPop1 (tFld K (tVar 0) "waits") (tVar 3))))
    (tRet (tMeth C_Rounds "let_go" sp_Rounds__Store_let_go [] E0 (tVar 0) (tCons (tVar 2) (tNil)))))))
def t__law_read (K : PySem.W.Frag) (C_Rounds : Addr) (sp_Rounds__Rounds_read : Sp) : TS :=
  tSeq (tAsg (tC .non) (gName 3))
    (tSeq (tAsg (tC .non) (gName 4))
    (tSeq (tAsg (tMeth C_Rounds "read" sp_Rounds__Rounds_read [] E0 (tVar 0) (tCons (tVar 1) (tCons (tVar 2) (tNil)))) (gName 3))
    (tRet (tIf (tTest (tOp rIsNo (tVar 4) (tC .non))) (tVar 3) (tC .non)))))
def t_Rounds_round_now (K : PySem.W.Frag) : TS :=
  tRet (tFld K (tVar 0) "era")
def t_Rounds_hands_in (K : PySem.W.Frag) : TS :=
  tRet (tCB rSortD (tCons (tFld K (tVar 0) "inside") (tNil)))
def t__law_gone (K : PySem.W.Frag) : TS :=
  tAsg (tLc (iList K (tOp (rIxL K) (tVar 0) (tC (.int 2)))) (gName 2) (tTest (tOp (rIn K true) (tVar 2) (tVar 1))) (tVar 2) [2]) (gSub (tVar 0) (tC (.int 2)) rSetL)
def t__law_is (K : PySem.W.Frag) : TS :=
  tRet (tAndV (tCB (rIsi K) (tCons (tVar 0) (tCons (tC (.ty "bool")) (tNil)))) (tOp rEq (tVar 0) (tVar 1)))
end La
namespace La
open PySem L2 Sy
/-! ### numbers -/
def sp_is_whole : Sp := fun vs H Q _ => ∃ x lo hi : Int, vs = [.int x, .int lo, .int hi] ∧ Q (.bl (decide (lo ≤ x ∧ x ≤ hi))) H
theorem pure_is_whole {K : PySem.W.Frag} {vs : List V} {H : Hp} {Q : VK} {E : XK} (h : sp_is_whole vs H Q E) : t_is_whole K ⟨fun _ H' => Q .non H', Q, fun _ _ => False, fun _ _ => False⟩ (start ["thing", "low", "high"] vs) H := by
  obtain ⟨x, lo, hi, rfl, q⟩ := h
  unfold t_is_whole
  walk_at "go"
  refine ifD (fun h1 => ?_) (fun h1 => ?_)
  · walk_at "go"
    have e : decide (lo ≤ x ∧ x ≤ hi) = decide (x ≤ hi) := by simp [h1]
    rw [e] at q
    exact q
  · have e : decide (lo ≤ x ∧ x ≤ hi) = false := by simp [h1]
    rw [e] at q
    exact q
def sp_look_number : Sp := fun vs H Q _ => ∃ x lo hi : Int, vs = [.int x, .int lo, .int hi] ∧ lo ≤ x ∧ x ≤ hi ∧ Q .non H
theorem pure_look_number {K : PySem.W.Frag} {vs : List V} {H : Hp} {Q : VK} {E : XK} (h : sp_look_number vs H Q E) : t_look_number K sp_is_whole ⟨fun _ H' => Q .non H', Q, fun _ _ => False, fun _ _ => False⟩ (start ["thing", "low", "high"] vs) H := by
  obtain ⟨x, lo, hi, rfl, h1, h2, q⟩ := h
  unfold t_look_number
  walk_at "go"
  refine ⟨x, lo, hi, rfl, ?_⟩
  rw [decide_eq_true ⟨h1, h2⟩]
  walk_at "go"
  exact q
/-! ### the town: the script's numbers, and how many draws were made -/
structure Town where
  r : Addr
  ns : List Int
  n : Int
@[reducible] def townU (t : Addr) (s : Town) : U := [(t, .lst [.ref s.r, .int s.n]), (s.r, .lst (s.ns.map V.int))]
def Town.ok (s : Town) : Prop := 0 < s.ns.length ∧ s.ns.length ≤ 63
theorem at_ints {ns : List Int} {k : Int} (h0 : 0 ≤ k) (h1 : k < ns.length) : atI (ns.map V.int) k = some (.int (ns.getD k.toNat 0)) := by
  obtain ⟨j, rfl⟩ := Int.eq_ofNat_of_zero_le h0
  have hj : j < ns.length := by omega
  refine atI_nat ?_
  rw [List.getElem?_map]
  simp [hj]
theorem ix_ok {n : Nat} {k : Int} (h0 : 0 ≤ k) (h1 : k < n) : ixN n k = some k.toNat := by
  unfold ixN
  rw [if_pos h0, if_pos h1]
theorem map_set_int (ns : List Int) (k : Nat) (z : Int) : (ns.map V.int).set k (.int z) = (ns.set k z).map V.int := by rw [List.map_set]
def sp__law_draw : Sp := fun vs H Q _ => ∃ (t : Addr) (s : Town) (m : Int) (R : List U), vs = [.ref t, .int m] ∧ 0 < m ∧ m ≤ 100000 ∧ s.ok ∧ Has H (townU t s :: R) ∧
  ∀ (d : Int) (s' : Town) (H' : Hp), 0 ≤ d → d < m → s'.ok → Has H' (townU t s' :: R) → Q (.int d) H'
theorem pure__law_draw {K : PySem.W.Frag} {vs : List V} {H : Hp} {Q : VK} {E : XK} (h : sp__law_draw vs H Q E) : t__law_draw K ⟨fun _ H' => Q .non H', Q, fun _ _ => False, fun _ _ => False⟩ (start ["town", "many", "row", "at", "cell", "mixed"] vs) H := by
  obtain ⟨t, ⟨r, ns, n⟩, m, R, rfl, m0, m1, ⟨l0, l1⟩, hh, q⟩ := h
  replace hh := hh.cut
  have l0' : 0 < ns.length := l0
  have hl : ((ns.map V.int).length : Int) = ns.length := by rw [List.length_map]
  have k0 : 0 ≤ (n + 1) % ((ns.map V.int).length : Int) := Int.emod_nonneg _ (by omega)
  have k1 : (n + 1) % ((ns.map V.int).length : Int) < ns.length := by rw [hl]; exact Int.emod_lt_of_pos _ (by omega)
  have ea := at_ints k0 k1
  have ex : ixN (ns.map V.int).length ((n + 1) % ((ns.map V.int).length : Int)) = some ((n + 1) % ((ns.map V.int).length : Int)).toNat := ix_ok k0 (by omega)
  have lz : (0 : Int) < ((ns.map V.int).length : Int) := by omega
  unfold t__law_draw
  walk_at "go"
  refine ifD (fun hb => ?_) (fun hb => ?_)
  · walk_at "go"
    rename_i H1 h1 H2 h2
    rw [map_set_int] at h2
    exact q _ ⟨r, ns.set _ _, n + 1⟩ _ (Int.emod_nonneg _ (by omega)) (Int.emod_lt_of_pos _ m0) ⟨by show 0 < (ns.set _ _).length; rw [List.length_set]; exact l0, by show (ns.set _ _).length ≤ 63; rw [List.length_set]; exact l1⟩ h2.glue
  · walk_at "go"
    rename_i H1 h1
    exact q _ ⟨r, ns, n + 1⟩ _ (Int.emod_nonneg _ (by omega)) (Int.emod_lt_of_pos _ m0) ⟨l0, l1⟩ h1.glue
/-- a draw, as the caller uses it -/
theorem use_draw {H : Hp} {Q : VK} {E : XK} {L R : List U} {t : Addr} {s : Town} {m : Int} (hh : Has H L) (hs : Sub (townU t s :: R) L) (ok : s.ok) (m0 : 0 < m) (m1 : m ≤ 100000)
    (q : ∀ (d : Int) (s' : Town) (H' : Hp), 0 ≤ d → d < m → s'.ok → Has H' (townU t s' :: R) → Q (.int d) H') : sp__law_draw [.ref t, .int m] H Q E := ⟨t, s, m, R, rfl, m0, m1, ok, hh.sub hs, q⟩
/-! ### the script -/
/-- the script's list, as it stands in any heap that has the unit u -/
def Scr (K : PySem.W.Frag) (a : Addr) (xs : List V) (u : U) : Prop := ∀ H L, Has H (u :: L) → SqL K H a xs
theorem scr_of {K : PySem.W.Frag} {H : Hp} {a : Addr} {xs : List V} (h : SqL K H a xs) : ∃ u, Has H [u] ∧ Scr K a xs u := by
  rcases h with (h | ⟨o, h⟩) | h
  · exact ⟨[(a, .lst xs)], ⟨by simp, fun p hp => by simp at hp; subst hp; exact h⟩, fun H' L hh => .inl (.inl hh.g0)⟩
  · exact ⟨[(a, .frz o (.lst xs))], ⟨by simp, fun p hp => by simp at hp; subst hp; exact h⟩, fun H' L hh => .inl (.inr ⟨o, hh.g0⟩)⟩
  · exact ⟨[], Has.nilU.mpr Has.nil, fun H' L hh => .inr h⟩
def sp__law_town (K : PySem.W.Frag) : Sp := fun vs H Q _ => ∃ (a : Addr) (ns : List Int), vs = [.ref a] ∧ SqL K H a (ns.map V.int) ∧ ns.length ≤ 63 ∧
  ∀ (t : Addr) (s : Town) (H' : Hp), s.ok → Has H' [townU t s] → Q (.ref t) H'
theorem pure__law_town {K : PySem.W.Frag} {vs : List V} {H : Hp} {Q : VK} {E : XK} (h : sp__law_town K vs H Q E) : t__law_town K ⟨fun _ H' => Q .non H', Q, fun _ _ => False, fun _ _ => False⟩ (start ["script"] vs) H := by
  obtain ⟨a, ns, rfl, hs, hl, q⟩ := h
  obtain ⟨u, h0, hu⟩ := scr_of hs
  unfold t__law_town
  walk_at "go"
  rename_i p H1 h1
  have e := eqv_ints ns []
  refine ⟨_, _, .lst (hu H1 _ (by walk_at "has")) (dpAll_ints ns), .lst (SqL.of h1.g0) .nil, shaped_ints ns, by decide +kernel, ?_⟩
  have e : PyData.eqv (.list (ns.map PyData.int)) (.list []) = decide (ns = []) := e
  rw [e]
  walk_at "go"
  refine ifE (fun hn => ?_) (fun hn => ?_)
  · walk_at "go"
    refine k_listOfS h1 (hu H1 _ (by walk_at "has")) fun r H2 h2 => ?_
    walk_at "go"
    rename_i t H3 h3
    refine q t ⟨r, ns, 0⟩ H3 ⟨List.length_pos_iff.mpr hn, hl⟩ (Has.glue ?_)
    walk_at "has"
  · walk_at "go"
    rename_i r H2 h2 t H3 h3
    refine q t ⟨r, [0], 0⟩ H3 ⟨Nat.zero_lt_one, (by show 1 ≤ 63; decide)⟩ (Has.glue ?_)
    walk_at "has"
def sp__law_whole : Sp := fun vs H Q _ => ∃ x : Int, vs = [.int x] ∧ Q (.bl true) H
theorem pure__law_whole {K : PySem.W.Frag} {vs : List V} {H : Hp} {Q : VK} {E : XK} (h : sp__law_whole vs H Q E) : t__law_whole K ⟨fun _ H' => Q .non H', Q, fun _ _ => False, fun _ _ => False⟩ (start ["thing"] vs) H := by
  obtain ⟨x, rfl, q⟩ := h
  unfold t__law_whole
  walk_at "go"
  exact q
def sp__law_pick : Sp := fun vs H Q _ => ∃ (t p : Addr) (s : Town) (xs : List V) (R : List U), vs = [.ref t, .ref p] ∧ Has H (townU t s :: [(p, .lst xs)] :: R) ∧ 0 < xs.length ∧ xs.length ≤ 1000 ∧ s.ok ∧
  ∀ (d : Nat) (v : V) (s' : Town) (H' : Hp), xs[d]? = some v → s'.ok → Has H' (townU t s' :: [(p, .lst xs)] :: R) → Q v H'
theorem pure__law_pick {K : PySem.W.Frag} {vs : List V} {H : Hp} {Q : VK} {E : XK} (h : sp__law_pick vs H Q E) : t__law_pick K sp__law_draw ⟨fun _ H' => Q .non H', Q, fun _ _ => False, fun _ _ => False⟩ (start ["town", "some"] vs) H := by
  obtain ⟨t, p, s, xs, R, rfl, hh, h1, h2, ok, q⟩ := h
  unfold t__law_pick
  walk_at "go"
  refine use_draw hh Sub.rf ok (by omega) (by omega) fun d s' H' d0 d1 ok' hh' => ?_
  have ht : d.toNat < xs.length := by omega
  have e : atI xs d = some xs[d.toNat] := at_n d0 (by simp [ht])
  walk_at "go"
  exact q d.toNat _ s' H' (by simp [ht]) ok' hh'
def sp__law_value : Sp := fun vs H Q _ => ∃ (t : Addr) (s : Town) (R : List U), vs = [.ref t] ∧ s.ok ∧ Has H (townU t s :: R) ∧
  ∀ (d : Int) (s' : Town) (H' : Hp), 0 ≤ d → d ≤ 999 → s'.ok → Has H' (townU t s' :: R) → Q (.int d) H'
theorem pure__law_value {K : PySem.W.Frag} {vs : List V} {H : Hp} {Q : VK} {E : XK} (h : sp__law_value vs H Q E) : t__law_value K sp__law_pick sp__law_draw ⟨fun _ H' => Q .non H', Q, fun _ _ => False, fun _ _ => False⟩ (start ["town"] vs) H := by
  obtain ⟨t, s, R, rfl, ok, hh, q⟩ := h
  unfold t__law_value
  walk_at "go"
  refine use_draw hh Sub.rf ok (by decide) (by decide) fun d s1 H1 d0 d1 ok1 hh1 => ?_
  walk_at "go"
  refine use_draw hh1 Sub.rf ok1 (by decide) (by decide) fun e s2 H2 e0 e1 ok2 hh2 => ?_
  walk_at "go"
  rename_i p H3 hh3
  refine ⟨t, p, s2, _, R, rfl, by walk_at "has", by show 0 < 4; decide, by show 4 ≤ 1000; decide, ok2, fun k v s4 H4 hk ok4 hh4 => ?_⟩
  have hv : ∃ z : Int, v = .int z ∧ 0 ≤ z ∧ z ≤ 999 := by
    match k, hk with
    | 0, hk => exact ⟨0, (Option.some.inj hk).symm, by omega, by omega⟩
    | 1, hk => exact ⟨999, (Option.some.inj hk).symm, by omega, by omega⟩
    | 2, hk => exact ⟨d, (Option.some.inj hk).symm, by omega, by omega⟩
    | 3, hk => exact ⟨e, (Option.some.inj hk).symm, by omega, by omega⟩
  obtain ⟨z, rfl, z0, z1⟩ := hv
  exact q z s4 H4 z0 z1 ok4 (by walk_at "has")
end La
namespace La
open PySem L2 Sy
/-! ### dicts with whole-number keys, their values typed -/
section
variable {κ β : Type} [DecidableEq κ]
def mv (f : β → V) (m : List (κ × β)) : List (κ × V) := m.map fun q => (q.1, f q.2)
def fd (m : List (κ × β)) (k : κ) : Option β := (m.find? fun q => decide (q.1 = k)).map (·.2)
def rm (m : List (κ × β)) (k : κ) : List (κ × β) := m.filter fun q => decide (q.1 ≠ k)
def pu (m : List (κ × β)) (k : κ) (b : β) : List (κ × β) := if (fd m k).isSome then m.map (fun q => if q.1 = k then (q.1, b) else q) else m ++ [(k, b)]
theorem fd_nil (k : κ) : fd ([] : List (κ × β)) k = none := rfl
theorem fd_pos {p : κ × β} {r : List (κ × β)} {k : κ} (h : p.1 = k) : fd (p :: r) k = some p.2 := by simp [fd, List.find?_cons, h]
theorem fd_neg {p : κ × β} {r : List (κ × β)} {k : κ} (h : ¬ p.1 = k) : fd (p :: r) k = fd r k := by simp [fd, List.find?_cons, h]
theorem fd_none {m : List (κ × β)} {k : κ} : fd m k = none ↔ k ∉ m.map (·.1) := by
  induction m with
  | nil => simp [fd_nil]
  | cons p r ih =>
    by_cases h : p.1 = k
    · rw [fd_pos h]; simp [h]
    · rw [fd_neg h, ih]
      simp only [List.map_cons, List.mem_cons, not_or]
      exact ⟨fun q => ⟨fun e => h e.symm, q⟩, fun q => q.2⟩
theorem fd_isSome {m : List (κ × β)} {k : κ} : (fd m k).isSome = true ↔ k ∈ m.map (·.1) := by
  cases e : fd m k with
  | none => have := fd_none.mp e; simpa using this
  | some b => simp only [Option.isSome_some, true_iff]; exact Classical.byContradiction fun h => by rw [fd_none.mpr h] at e; cases e
theorem fd_mem {m : List (κ × β)} {k : κ} {b : β} (h : fd m k = some b) : (k, b) ∈ m := by
  unfold fd at h
  obtain ⟨q, hq, e⟩ := Option.map_eq_some_iff.mp h
  have h1 := List.mem_of_find?_eq_some hq
  have h2 := List.find?_some hq
  have h3 : q.1 = k := by simpa using h2
  rw [← h3, ← e]
  exact h1
theorem fd_of {m : List (κ × β)} {k : κ} {b : β} (nd : (m.map (·.1)).Nodup) (h : (k, b) ∈ m) : fd m k = some b := by
  induction m with
  | nil => cases h
  | cons p r ih =>
    obtain ⟨n1, n2⟩ := List.nodup_cons.mp (show (p.1 :: r.map (·.1)).Nodup from nd)
    rcases List.mem_cons.mp h with e | h
    · rw [← e, fd_pos rfl]
    · have : ¬ p.1 = k := fun e => n1 (e ▸ List.mem_map.mpr ⟨(k, b), h, rfl⟩)
      rw [fd_neg this]
      exact ih n2 h
theorem fd_split {m : List (κ × β)} {k : κ} {b : β} (h : fd m k = some b) : ∃ A B, m = A ++ (k, b) :: B ∧ k ∉ A.map (·.1) := by
  induction m with
  | nil => cases h
  | cons p r ih =>
    by_cases e : p.1 = k
    · rw [fd_pos e] at h
      cases h
      exact ⟨[], r, by rw [← e]; rfl, by simp⟩
    · rw [fd_neg e] at h
      obtain ⟨A, B, rfl, hk⟩ := ih h
      refine ⟨p :: A, B, rfl, ?_⟩
      simp only [List.map_cons, List.mem_cons, not_or]
      exact ⟨fun q => e q.symm, hk⟩
theorem mv_len (f : β → V) (m : List (κ × β)) : (mv f m).length = m.length := List.length_map ..
theorem mv_keys (f : β → V) (m : List (κ × β)) : (mv f m).map (fun x => x.1) = m.map (·.1) := by unfold mv; rw [List.map_map]; rfl
theorem mv_val (f : β → V) (m : List (κ × β)) (k : κ) : valV (mv f m) k = (fd m k).map f := by
  induction m with
  | nil => rfl
  | cons p r ih =>
    show valV ((p.1, f p.2) :: mv f r) k = _
    by_cases h : p.1 = k
    · rw [valV_pos (p := (p.1, f p.2)) h, fd_pos h]; rfl
    · rw [valV_neg (p := (p.1, f p.2)) h, fd_neg h, ih]
theorem mv_some {f : β → V} {m : List (κ × β)} {k : κ} {b : β} (h : fd m k = some b) : valV (mv f m) k = some (f b) := by rw [mv_val, h]; rfl
theorem mv_isSome (f : β → V) (m : List (κ × β)) (k : κ) : (valV (mv f m) k).isSome = (fd m k).isSome := by rw [mv_val, Option.isSome_map]
theorem mv_drop (f : β → V) (m : List (κ × β)) (k : κ) : dropK (mv f m) k = mv f (rm m k) := by
  unfold dropK mv rm
  rw [List.filter_map]
  rfl
theorem mv_put (f : β → V) (m : List (κ × β)) (k : κ) (b : β) : putK (mv f m) k (f b) = mv f (pu m k b) := by
  unfold putK pu
  rw [valV_any, mv_isSome]
  by_cases h : (fd m k).isSome = true
  · rw [if_pos h, if_pos h]
    unfold mv
    rw [List.map_map, List.map_map]
    refine List.map_congr_left fun q _ => ?_
    show (if q.1 = k then (q.1, f b) else (q.1, f q.2)) = ((if q.1 = k then (q.1, b) else q).1, f (if q.1 = k then (q.1, b) else q).2)
    split <;> rfl
  · rw [if_neg h, if_neg h]
    unfold mv
    rw [List.map_append]
    rfl
theorem pu_new {m : List (κ × β)} {k : κ} (b : β) (h : fd m k = none) : pu m k b = m ++ [(k, b)] := by unfold pu; rw [h]; rfl
theorem pu_keys_old {m : List (κ × β)} {k : κ} (b : β) (h : (fd m k).isSome = true) : (pu m k b).map (·.1) = m.map (·.1) := by
  unfold pu
  rw [if_pos h, List.map_map]
  refine List.map_congr_left fun q _ => ?_
  show (if q.1 = k then (q.1, b) else q).1 = q.1
  split <;> rfl
theorem fd_append {m n : List (κ × β)} {k : κ} : fd (m ++ n) k = (fd m k).or (fd n k) := by
  induction m with
  | nil => simp [fd_nil]
  | cons p r ih =>
    by_cases h : p.1 = k
    · rw [List.cons_append, fd_pos h, fd_pos h]; rfl
    · rw [List.cons_append, fd_neg h, fd_neg h, ih]
theorem fd_pu (m : List (κ × β)) (k j : κ) (b : β) : fd (pu m k b) j = if j = k then some b else fd m j := by
  unfold pu
  by_cases h : (fd m k).isSome = true
  · rw [if_pos h]
    induction m with
    | nil => cases h
    | cons p r ih =>
      rw [List.map_cons]
      by_cases e : p.1 = k
      · rw [if_pos e]
        by_cases ej : j = k
        · rw [fd_pos (p := (p.1, b)) (e.trans ej.symm), if_pos ej]
        · rw [fd_neg (p := (p.1, b)) (fun z => ej (z.symm.trans e)), if_neg ej, fd_neg (fun z => ej (z.symm.trans e))]
          by_cases hr : (fd r k).isSome = true
          · rw [ih hr, if_neg ej]
          · have hk : k ∉ r.map (·.1) := fun z => hr (fd_isSome.mpr z)
            congr 1
            refine List.map_congr_left (g := id) (fun q hq => ?_) |>.trans (List.map_id r)
            have : ¬ q.1 = k := fun z => hk (z ▸ List.mem_map.mpr ⟨q, hq, rfl⟩)
            rw [if_neg this]; rfl
      · rw [if_neg e]
        rw [fd_neg e] at h
        by_cases ep : p.1 = j
        · rw [fd_pos ep, fd_pos ep, if_neg (fun z => e (ep.trans z))]
        · rw [fd_neg ep, fd_neg ep, ih h]
  · rw [if_neg h, fd_append]
    by_cases ej : j = k
    · subst ej
      have hn : fd m j = none := by cases e : fd m j with
        | none => rfl
        | some v => rw [e] at h; exact absurd rfl h
      rw [hn, if_pos rfl, fd_pos rfl]; rfl
    · rw [if_neg ej, fd_neg (p := (k, b)) (fun z => ej z.symm), fd_nil, Option.or_none]
theorem fd_rm (m : List (κ × β)) (k j : κ) : fd (rm m k) j = if j = k then none else fd m j := by
  induction m with
  | nil => simp [rm, fd_nil]
  | cons p r ih =>
    have ih : fd (List.filter (fun q => decide (q.1 ≠ k)) r) j = _ := ih
    unfold rm
    by_cases e : p.1 = k
    · rw [List.filter_cons, if_neg (by simp [e]), ih]
      by_cases ej : j = k
      · rw [if_pos ej, if_pos ej]
      · rw [if_neg ej, if_neg ej, fd_neg (fun z => ej (z.symm.trans e))]
    · rw [List.filter_cons, if_pos (by simp [e])]
      by_cases ep : p.1 = j
      · rw [fd_pos ep, fd_pos ep, if_neg (fun z => e (ep.trans z))]
      · rw [fd_neg ep, fd_neg ep, ih]
theorem rm_len (m : List (κ × β)) (k : κ) : (rm m k).length ≤ m.length := List.length_filter_le _ _
theorem rm_sub (m : List (κ × β)) (k : κ) : (rm m k).Sublist m := List.filter_sublist
theorem rm_nodup {m : List (κ × β)} {k : κ} (h : (m.map (·.1)).Nodup) : ((rm m k).map (·.1)).Nodup := ((rm_sub m k).map _).nodup h
theorem rm_mem {m : List (κ × β)} {k : κ} {q : κ × β} : q ∈ rm m k ↔ q ∈ m ∧ q.1 ≠ k := by unfold rm; rw [List.mem_filter]; simp
theorem nodup_snoc {l : List Int} {k : Int} (h : l.Nodup) (hk : k ∉ l) : (l ++ [k]).Nodup := nd_snoc h hk
/-- several keys taken out -/
def rms (m : List (Int × β)) (ks : List Int) : List (Int × β) := m.filter fun q => decide (q.1 ∉ ks)
theorem rms_nil (m : List (Int × β)) : rms m [] = m := List.filter_eq_self.mpr fun _ _ => by simp
theorem rms_snoc (m : List (Int × β)) (ks : List Int) (k : Int) : rm (rms m ks) k = rms m (ks ++ [k]) := by
  unfold rm rms
  rw [List.filter_filter]
  refine List.filter_congr fun q _ => ?_
  by_cases h1 : q.1 ∈ ks <;> by_cases h2 : q.1 = k <;> simp [h1, h2]
end
/-! ### families of objects by keys -/
def famU {κ β : Type} (obs : β → U) (m : List (κ × β)) : U := m.flatMap fun q => obs q.2
theorem fam_app {κ β : Type} (obs : β → U) (A B : List (κ × β)) : famU obs (A ++ B) = famU obs A ++ famU obs B := by unfold famU; rw [List.flatMap_append]
theorem fam_out {κ β : Type} {obs : β → U} {A B : List (κ × β)} {k : κ} {b : β} {H : Hp} {L : List U} (h : Has H (famU obs (A ++ (k, b) :: B) :: L)) : Has H (obs b :: famU obs A :: famU obs B :: L) := by
  rw [fam_app, show famU obs ((k, b) :: B) = obs b ++ famU obs B from rfl] at h
  exact (Has.op.mp ((Has.op.mp h).sub (show Sub ((_ ++ _) :: famU obs A :: L) _ from Sub.p1 (Sub.p0 Sub.rf)))).sub (Sub.p0 (Sub.p1 (Sub.p0 Sub.rf)))
theorem fam_in {κ β : Type} {obs : β → U} {A B : List (κ × β)} {k : κ} {b : β} {H : Hp} {L : List U} (h : Has H (obs b :: famU obs A :: famU obs B :: L)) : Has H (famU obs (A ++ (k, b) :: B) :: L) := by
  rw [fam_app, show famU obs ((k, b) :: B) = obs b ++ famU obs B from rfl]
  refine Has.op.mpr ?_
  exact (Has.op.mpr (h.sub (show Sub (obs b :: famU obs B :: famU obs A :: L) _ from Sub.p0 (Sub.p1 (Sub.p0 Sub.rf))))).sub (Sub.p1 (Sub.p0 Sub.rf))
theorem fam_two {κ β : Type} {obs : β → U} {A B : List (κ × β)} {H : Hp} {L : List U} (h : Has H (famU obs A :: famU obs B :: L)) : Has H (famU obs (A ++ B) :: L) := by
  rw [fam_app]
  exact Has.op.mpr h
theorem fam_snoc {κ β : Type} {obs : β → U} {A : List (κ × β)} {k : κ} {b : β} {H : Hp} {L : List U} (h : Has H (obs b :: famU obs A :: L)) : Has H (famU obs (A ++ [(k, b)]) :: L) := by
  rw [fam_app, show famU obs [(k, b)] = obs b from List.append_nil _]
  exact Has.op.mpr (h.sub (Sub.p1 (Sub.p0 Sub.rf)))
theorem pu_split {κ β : Type} [DecidableEq κ] {m : List (κ × β)} {k : κ} {b : β} (nd : (m.map (·.1)).Nodup) (h : fd m k = some b) : ∃ A B, m = A ++ (k, b) :: B ∧ (∀ b', pu m k b' = A ++ (k, b') :: B) ∧ rm m k = A ++ B := by
  obtain ⟨A, B, e, ha⟩ := fd_split h
  have hb : k ∉ B.map (·.1) := by
    rw [e, List.map_append, List.map_cons] at nd
    exact (List.nodup_cons.mp (List.nodup_append.mp nd).2.1).1
  have key : ∀ (l : List (κ × β)), k ∉ l.map (·.1) → (∀ q ∈ l, ¬ q.1 = k) := fun l hl q hq e => hl (e ▸ List.mem_map.mpr ⟨q, hq, rfl⟩)
  have hid : ∀ (l : List (κ × β)) (b' : β), k ∉ l.map (·.1) → l.map (fun q => if q.1 = k then (q.1, b') else q) = l := fun l b' hl => (List.map_congr_left fun q hq => if_neg (key l hl q hq)).trans (List.map_id' l)
  have hfl : ∀ (l : List (κ × β)), k ∉ l.map (·.1) → l.filter (fun q => decide (q.1 ≠ k)) = l := fun l hl => List.filter_eq_self.mpr fun q hq => decide_eq_true (key l hl q hq)
  refine ⟨A, B, e, fun b' => ?_, ?_⟩
  · unfold pu
    rw [if_pos (by rw [h]; rfl), e, List.map_append, List.map_cons, hid A b' ha, hid B b' hb, if_pos rfl]
  · unfold rm
    rw [e, List.filter_append, List.filter_cons, if_neg (by simp), hfl A ha, hfl B hb]
theorem pu_mem {κ β : Type} [DecidableEq κ] {m : List (κ × β)} {k : κ} {b : β} {q : κ × β} (h : q ∈ pu m k b) : q ∈ m ∨ q = (k, b) := by
  unfold pu at h
  split at h
  · obtain ⟨z, hz, e⟩ := List.mem_map.mp h
    by_cases hk : z.1 = k
    · rw [if_pos hk] at e
      exact .inr (by rw [← e, hk])
    · rw [if_neg hk] at e
      exact .inl (e ▸ hz)
  · rcases List.mem_append.mp h with h | h
    · exact .inl h
    · exact .inr (List.mem_singleton.mp h)
theorem pu_nd {κ β : Type} [DecidableEq κ] {m : List (κ × β)} {k : κ} (b : β) (h : (m.map (·.1)).Nodup) : ((pu m k b).map (·.1)).Nodup := by
  by_cases e : (fd m k).isSome = true
  · rw [pu_keys_old b e]
    exact h
  · have hn : fd m k = none := by cases e2 : fd m k with
      | none => rfl
      | some v => rw [e2] at e; exact absurd rfl e
    rw [pu_new b hn, List.map_append]
    refine List.nodup_append.mpr ⟨h, List.pairwise_singleton _ _, fun a ha b hb e3 => ?_⟩
    have hb : b = k := List.mem_singleton.mp hb
    rw [e3, hb] at ha
    exact fd_none.mp hn ha
theorem pu_len' {κ β : Type} [DecidableEq κ] (m : List (κ × β)) (k : κ) (b : β) : (pu m k b).length ≤ m.length + 1 := by
  unfold pu
  split
  · rw [List.length_map]; omega
  · rw [List.length_append]; exact Nat.le_refl _
theorem nodup_sub_len : ∀ {l m : List Int}, l.Nodup → (∀ z ∈ l, z ∈ m) → l.length ≤ m.length
  | [], m, _, _ => Nat.zero_le _
  | a :: r, m, nd, h => by
    have nd2 := List.nodup_cons.mp nd
    have ha : a ∈ m := h a (List.mem_cons.mpr (.inl rfl))
    have ih := nodup_sub_len (l := r) (m := m.erase a) nd2.2 fun z hz => (List.mem_erase_of_ne (show z ≠ a from fun e => nd2.1 (e ▸ hz))).mpr (h z (List.mem_cons_of_mem _ hz))
    have e := List.length_erase_of_mem ha
    have := List.length_pos_of_mem ha
    rw [List.length_cons]
    omega
end La
namespace La
open PySem L2 Sy
def t_Sides_init (K : PySem.W.Frag) (sp_look_number : Sp) : TS :=
  tSeq (tDrop (tCall sp_look_number [] E0 (tCons (tVar 1) (tCons (tC (.int 1)) (tCons (tC (.int 6)) (tNil))))))
    (tSeq (tDrop (tCall sp_look_number [] E0 (tCons (tVar 2) (tCons (tC (.int 1)) (tCons (tC (.int 5)) (tNil))))))
    (tSeq (sFld K (tVar 0) (tVar 1) "hands")
    (tSeq (sFld K (tVar 0) (tLst (tCons (tOp rRep (tLst (tCons (tC (.int 0)) (tNil))) (tVar 2)) (tCons (tOp rRep (tLst (tCons (tC (.int 0)) (tNil))) (tVar 2)) (tNil)))) "sides")
    (tSeq (sFld K (tVar 0) (tC (.int 0)) "open_side")
    (tSeq (sFld K (tVar 0) (tDNewK) "where")
    (tSeq (sFld K (tVar 0) (tLst (tNil)) "under_way")
    (sFld K (tVar 0) (tC (.str "free")) "far")))))))
def t_Sides_look_hand (K : PySem.W.Frag) (sp_is_whole : Sp) : TS :=
  tIfS (tNot (tB (tCall sp_is_whole [] E0 (tCons (tVar 1) (tCons (tC (.int 0)) (tCons (tOp rSubI (tFld K (tVar 0) "hands") (tC (.int 1))) (tNil))))))) (tNever) (tNext)
def t_Sides_look_pairs (K : PySem.W.Frag) (sp_is_whole : Sp) : TS :=
  tSeq (tAsg (tAndV (tCB (rIsi K) (tCons (tVar 1) (tCons (tC (.ty "list")) (tNil)))) (tOp (rNeD K) (tVar 1) (tLst (tNil)))) (gName 2))
    (tSeq (tIfS (tOr (tNot (tB (tVar 2))) (tNot (tB (tCB (rAll K) (tCons (tLc (iList K (tVar 1)) (gName 3) tYes (tAndV (tCB (rIsi K) (tCons (tVar 3) (tCons (tC (.ty "tuple")) (tNil)))) (tOp rEq (tCB (rLenQ K) (tCons (tVar 3) (tNil))) (tC (.int 2)))) [3]) (tNil)))))) (tNever) (tNext))
    (tSeq (tAsg (tOp rSubI (tCB (rLenQ K) (tCons (tOp (rIxL K) (tFld K (tVar 0) "sides") (tC (.int 0))) (tNil))) (tC (.int 1))) (gName 4))
    (tIfS (tNot (tB (tCB (rAll K) (tCons (tLc (iList K (tVar 1)) (gName 3) tYes (tAndV (tCall sp_is_whole [] E0 (tCons (tOp (rIxT K) (tVar 3) (tC (.int 0))) (tCons (tC (.int 0)) (tCons (tVar 4) (tNil))))) (tCall sp_is_whole [] E0 (tCons (tOp (rIxT K) (tVar 3) (tC (.int 1))) (tCons (tC (.int 0)) (tCons (tC (.int 999)) (tNil)))))) [3]) (tNil))))) (tNever) (tNext))))
def t_Sides_enter (K : PySem.W.Frag) (C_Sides : Addr) (sp_Sides__Sides_look_hand : Sp) : TS :=
  tSeq (tDrop (tMeth C_Sides "look_hand" sp_Sides__Sides_look_hand [] E0 (tVar 0) (tCons (tVar 1) (tNil))))
    (tSeq (tIfS (tB (tDIn (tVar 1) (tFld K (tVar 0) "where"))) (tNever) (tNext))
    (tSeq (sDPut (tFld K (tVar 0) "where") (tVar 1) (tFld K (tVar 0) "open_side"))
    (tRet (tFld K (tVar 0) "open_side"))))
def t_Sides_look_in (K : PySem.W.Frag) (C_Sides : Addr) (sp_Sides__Sides_look_hand : Sp) : TS :=
  tSeq (tDrop (tMeth C_Sides "look_hand" sp_Sides__Sides_look_hand [] E0 (tVar 0) (tCons (tVar 1) (tNil))))
    (tIfS (tB (tDNotIn (tVar 1) (tFld K (tVar 0) "where"))) (tNever) (tNext))
def t_Sides_leave (K : PySem.W.Frag) (C_Sides : Addr) (sp_Sides__Sides_look_in : Sp) : TS :=
  tSeq (tDrop (tMeth C_Sides "look_in" sp_Sides__Sides_look_in [] E0 (tVar 0) (tCons (tVar 1) (tNil))))
    (tDrop (tDPop1 (tFld K (tVar 0) "where") (tVar 1)))
def t_Sides_read (K : PySem.W.Frag) (C_Sides : Addr) (sp_Sides__Sides_look_in sp_is_whole : Sp) : TS :=
  tSeq (tDrop (tMeth C_Sides "look_in" sp_Sides__Sides_look_in [] E0 (tVar 0) (tCons (tVar 1) (tNil))))
    (tSeq (tIfS (tNot (tB (tCall sp_is_whole [] E0 (tCons (tVar 2) (tCons (tC (.int 0)) (tCons (tOp rSubI (tCB (rLenQ K) (tCons (tOp (rIxL K) (tFld K (tVar 0) "sides") (tC (.int 0))) (tNil))) (tC (.int 1))) (tNil))))))) (tNever) (tNext))
    (tRet (tOp (rIxL K) (tOp (rIxL K) (tFld K (tVar 0) "sides") (tDGet (tFld K (tVar 0) "where") (tVar 1))) (tVar 2))))
def t_Sides_begin (K : PySem.W.Frag) (C_Sides : Addr) (sp_Sides__Sides_look_pairs sp_Sides__Sides_put_all : Sp) : TS :=
  tSeq (tDrop (tMeth C_Sides "look_pairs" sp_Sides__Sides_look_pairs [] E0 (tVar 0) (tCons (tVar 1) (tNil))))
    (tSeq (tIfS (tTest (tOp rNe (tFld K (tVar 0) "far") (tC (.str "free")))) (tNever) (tNext))
    (tSeq (sFld K (tVar 0) (tCB (rListOf K) (tCons (tVar 1) (tNil))) "under_way")
    (tSeq (tDrop (tMeth C_Sides "put_all" sp_Sides__Sides_put_all [] E0 (tVar 0) (tCons (tOp rSubI (tC (.int 1)) (tFld K (tVar 0) "open_side")) (tNil))))
    (sFld K (tVar 0) (tC (.str "written")) "far"))))
def t_Sides_put_all (K : PySem.W.Frag) : TS :=
  tFor (iList K (tFld K (tVar 0) "under_way")) (gTup K 2 (gCons (gName 2) (gCons (gName 3) (gNil)))) (tAsg (tVar 3) (gSub (tOp (rIxL K) (tFld K (tVar 0) "sides") (tVar 1)) (tVar 2) rSetL))
def t_Sides_turn (K : PySem.W.Frag) : TS :=
  tSeq (tIfS (tTest (tOp rNe (tFld K (tVar 0) "far") (tC (.str "written")))) (tNever) (tNext))
    (tSeq (sFld K (tVar 0) (tOp rSubI (tC (.int 1)) (tFld K (tVar 0) "open_side")) "open_side")
    (sFld K (tVar 0) (tC (.str "turned")) "far"))
def t_Sides_finish (K : PySem.W.Frag) (C_Sides : Addr) (sp_Sides__Sides_put_all : Sp) : TS :=
  tSeq (tIfS (tTest (tOp rNe (tFld K (tVar 0) "far") (tC (.str "turned")))) (tNever) (tNext))
    (tSeq (tIfS (tTest (tOp (rIn K false) (tOp rSubI (tC (.int 1)) (tFld K (tVar 0) "open_side")) (tListVals (tFld K (tVar 0) "where")))) (tRet (tC (.bl false))) (tNext))
    (tSeq (tDrop (tMeth C_Sides "put_all" sp_Sides__Sides_put_all [] E0 (tVar 0) (tCons (tOp rSubI (tC (.int 1)) (tFld K (tVar 0) "open_side")) (tNil))))
    (tSeq (sFld K (tVar 0) (tC (.str "free")) "far")
    (tRet (tC (.bl true))))))
def t_Sides_state (K : PySem.W.Frag) : TS :=
  tRet (tFld K (tVar 0) "far")
def t_Sides_hands_on (K : PySem.W.Frag) (sp_look_number : Sp) : TS :=
  tSeq (tDrop (tCall sp_look_number [] E0 (tCons (tVar 1) (tCons (tC (.int 0)) (tCons (tC (.int 1)) (tNil))))))
    (tRet (tCB (rSortedI K) (tCons (tLockE (tLc (iKeys (tFld K (tVar 0) "where")) (gName 2) (tTest (tOp rEq (tDGet (tFld K (tVar 0) "where") (tVar 2)) (tVar 1))) (tVar 2) [2])) (tNil))))
def siF (v0 v1 v2 v3 v4 v5 : V) : List (Str × V) := [("hands", v0), ("sides", v1), ("open_side", v2), ("where", v3), ("under_way", v4), ("far", v5)]
theorem si_hands {v0 v1 v2 v3 v4 v5 : V} : (siF v0 v1 v2 v3 v4 v5).lookup ("hands" : Str) = some v0 := by kernel_rfl
theorem si_put_hands {v0 v1 v2 v3 v4 v5 u : V} : putF "hands" u (siF v0 v1 v2 v3 v4 v5) = siF u v1 v2 v3 v4 v5 := by kernel_rfl
theorem si_sides {v0 v1 v2 v3 v4 v5 : V} : (siF v0 v1 v2 v3 v4 v5).lookup ("sides" : Str) = some v1 := by kernel_rfl
theorem si_put_sides {v0 v1 v2 v3 v4 v5 u : V} : putF "sides" u (siF v0 v1 v2 v3 v4 v5) = siF v0 u v2 v3 v4 v5 := by kernel_rfl
theorem si_open_side {v0 v1 v2 v3 v4 v5 : V} : (siF v0 v1 v2 v3 v4 v5).lookup ("open_side" : Str) = some v2 := by kernel_rfl
theorem si_put_open_side {v0 v1 v2 v3 v4 v5 u : V} : putF "open_side" u (siF v0 v1 v2 v3 v4 v5) = siF v0 v1 u v3 v4 v5 := by kernel_rfl
theorem si_where {v0 v1 v2 v3 v4 v5 : V} : (siF v0 v1 v2 v3 v4 v5).lookup ("where" : Str) = some v3 := by kernel_rfl
theorem si_put_where {v0 v1 v2 v3 v4 v5 u : V} : putF "where" u (siF v0 v1 v2 v3 v4 v5) = siF v0 v1 v2 u v4 v5 := by kernel_rfl
theorem si_under_way {v0 v1 v2 v3 v4 v5 : V} : (siF v0 v1 v2 v3 v4 v5).lookup ("under_way" : Str) = some v4 := by kernel_rfl
theorem si_put_under_way {v0 v1 v2 v3 v4 v5 u : V} : putF "under_way" u (siF v0 v1 v2 v3 v4 v5) = siF v0 v1 v2 v3 u v5 := by kernel_rfl
theorem si_far {v0 v1 v2 v3 v4 v5 : V} : (siF v0 v1 v2 v3 v4 v5).lookup ("far" : Str) = some v5 := by kernel_rfl
theorem si_put_far {v0 v1 v2 v3 v4 v5 u : V} : putF "far" u (siF v0 v1 v2 v3 v4 v5) = siF v0 v1 v2 v3 v4 u := by kernel_rfl
theorem si_m_look_hand {v0 v1 v2 v3 v4 v5 : V} : (siF v0 v1 v2 v3 v4 v5).lookup ("look_hand" : Str) = none := by kernel_rfl
theorem si_m_look_pairs {v0 v1 v2 v3 v4 v5 : V} : (siF v0 v1 v2 v3 v4 v5).lookup ("look_pairs" : Str) = none := by kernel_rfl
theorem si_m_enter {v0 v1 v2 v3 v4 v5 : V} : (siF v0 v1 v2 v3 v4 v5).lookup ("enter" : Str) = none := by kernel_rfl
theorem si_m_look_in {v0 v1 v2 v3 v4 v5 : V} : (siF v0 v1 v2 v3 v4 v5).lookup ("look_in" : Str) = none := by kernel_rfl
theorem si_m_leave {v0 v1 v2 v3 v4 v5 : V} : (siF v0 v1 v2 v3 v4 v5).lookup ("leave" : Str) = none := by kernel_rfl
theorem si_m_read {v0 v1 v2 v3 v4 v5 : V} : (siF v0 v1 v2 v3 v4 v5).lookup ("read" : Str) = none := by kernel_rfl
theorem si_m_begin {v0 v1 v2 v3 v4 v5 : V} : (siF v0 v1 v2 v3 v4 v5).lookup ("begin" : Str) = none := by kernel_rfl
theorem si_m_put_all {v0 v1 v2 v3 v4 v5 : V} : (siF v0 v1 v2 v3 v4 v5).lookup ("put_all" : Str) = none := by kernel_rfl
theorem si_m_turn {v0 v1 v2 v3 v4 v5 : V} : (siF v0 v1 v2 v3 v4 v5).lookup ("turn" : Str) = none := by kernel_rfl
theorem si_m_finish {v0 v1 v2 v3 v4 v5 : V} : (siF v0 v1 v2 v3 v4 v5).lookup ("finish" : Str) = none := by kernel_rfl
theorem si_m_state {v0 v1 v2 v3 v4 v5 : V} : (siF v0 v1 v2 v3 v4 v5).lookup ("state" : Str) = none := by kernel_rfl
theorem si_m_hands_on {v0 v1 v2 v3 v4 v5 : V} : (siF v0 v1 v2 v3 v4 v5).lookup ("hands_on" : Str) = none := by kernel_rfl
theorem si_p1 { u : V} : putF "hands" u ([] : List (Str × V)) = ([("hands", u)] : List (Str × V)) := by kernel_rfl
theorem si_p2 {v0 u : V} : putF "sides" u ([("hands", v0)] : List (Str × V)) = ([("hands", v0), ("sides", u)] : List (Str × V)) := by kernel_rfl
theorem si_p3 {v0 v1 u : V} : putF "open_side" u ([("hands", v0), ("sides", v1)] : List (Str × V)) = ([("hands", v0), ("sides", v1), ("open_side", u)] : List (Str × V)) := by kernel_rfl
theorem si_p4 {v0 v1 v2 u : V} : putF "where" u ([("hands", v0), ("sides", v1), ("open_side", v2)] : List (Str × V)) = ([("hands", v0), ("sides", v1), ("open_side", v2), ("where", u)] : List (Str × V)) := by kernel_rfl
theorem si_p5 {v0 v1 v2 v3 u : V} : putF "under_way" u ([("hands", v0), ("sides", v1), ("open_side", v2), ("where", v3)] : List (Str × V)) = ([("hands", v0), ("sides", v1), ("open_side", v2), ("where", v3), ("under_way", u)] : List (Str × V)) := by kernel_rfl
theorem si_p6 {v0 v1 v2 v3 v4 u : V} : putF "far" u ([("hands", v0), ("sides", v1), ("open_side", v2), ("where", v3), ("under_way", v4)] : List (Str × V)) = ((siF v0 v1 v2 v3 v4 u) : List (Str × V)) := by kernel_rfl
theorem si_len {v0 v1 v2 v3 v4 v5 : V} : (siF v0 v1 v2 v3 v4 v5).length < 1000 := by show 6 < 1000; decide
local macro_rules | `(tactic| walk_at "fl") => `(tactic| first | assumption | exact si_hands | exact si_sides | exact si_open_side | exact si_where | exact si_under_way | exact si_far | kernel_rfl)
local macro_rules | `(tactic| walk_at "put") => `(tactic| first | exact si_put_hands | exact si_put_sides | exact si_put_open_side | exact si_put_where | exact si_put_under_way | exact si_put_far | exact si_p1 | exact si_p2 | exact si_p3 | exact si_p4 | exact si_p5 | exact si_p6)
local macro_rules | `(tactic| walk_at "fsl") => `(tactic| first | assumption | exact si_len | (show 0 < 1000; decide) | (show 1 < 1000; decide) | (show 2 < 1000; decide) | (show 3 < 1000; decide) | (show 4 < 1000; decide) | (show 5 < 1000; decide))
/-! ### pairs, small things -/
theorem fmR_len {β : Type} (m : List (Addr × β)) : (fmR m).length = m.length := List.length_map ..
structure PrOk (ps : Prs) (n : Nat) : Prop where
  ne : ps ≠ []
  l : ps.length ≤ 50
  rise : (ps.map (·.2.1)).Pairwise (· < ·)
  cr : ∀ q ∈ ps, 0 ≤ q.2.1 ∧ q.2.1 < n
  vr : ∀ q ∈ ps, 0 ≤ q.2.2 ∧ q.2.2 ≤ 999
theorem all_true {α : Type} (l : List α) : ((l.map fun _ => true).all id) = true := by rw [List.all_map]; exact List.all_eq_true.mpr fun _ _ => rfl
theorem at_last {α : Type} {l : List α} (h : l ≠ []) : atI l (-1) = l.getLast? := by
  unfold atI ixN
  have h1 : 0 < l.length := List.length_pos_iff.mpr h
  rw [if_neg (by omega), if_pos (by omega)]
  rw [List.getLast?_eq_getElem?]
  show l[((l.length : Int) + -1).toNat]? = _
  congr 1
  omega
theorem k_uneg {i : Int} {H : Hp} {Q : VK} (q : Q (.int (-i)) H) : rU (fun i => .int (-i)) (.int i) H Q := ⟨i, rfl, q⟩
def putAll (l : List Int) (ps : List (Int × Int)) : List Int := ps.foldl (fun l q => l.set q.1.toNat q.2) l
theorem putAll_len (ps : List (Int × Int)) : ∀ l, (putAll l ps).length = l.length := by
  induction ps with
  | nil => exact fun l => rfl
  | cons q r ih => exact fun l => (ih _).trans List.length_set
theorem lastD_cons {α : Type} (a d : α) (l : List α) : (a :: l).getLastD d = l.getLastD a := by cases l <;> rfl
theorem lastD_app {α : Type} (a b : List α) (d : α) : (a ++ b).getLastD d = b.getLastD (a.getLastD d) := by
  induction a generalizing d with
  | nil => rfl
  | cons x r ih => rw [List.cons_append, lastD_cons, lastD_cons, ih]
theorem putAll_get (ps : List (Int × Int)) : ∀ (l : List Int) (c : Nat), (∀ q ∈ ps, 0 ≤ q.1 ∧ q.1 < l.length) → (putAll l ps).getD c 0 = ((ps.filter fun q => decide (q.1 = (c : Int))).map (·.2)).getLastD (l.getD c 0) := by
  induction ps with
  | nil => exact fun l c _ => rfl
  | cons q r ih =>
    intro l c h
    obtain ⟨q0, q1⟩ := h q (List.mem_cons.mpr (.inl rfl))
    have h2 := ih (l.set q.1.toNat q.2) c (fun x hx => by rw [List.length_set]; exact h x (List.mem_cons_of_mem _ hx))
    show (putAll (l.set q.1.toNat q.2) r).getD c 0 = _
    rw [h2]
    by_cases e : q.1 = (c : Int)
    · rw [List.filter_cons, if_pos (decide_eq_true e), List.map_cons, lastD_cons]
      congr 1
      have : q.1.toNat = c := by omega
      subst this
      rw [List.getD_eq_getElem?_getD, List.getElem?_set_self (by omega)]
      rfl
    · rw [List.filter_cons, if_neg (by simpa using e)]
      congr 1
      rw [List.getD_eq_getElem?_getD, List.getD_eq_getElem?_getD, List.getElem?_set_ne (by omega)]
/-! ### sides -/
structure SiC (K : PySem.W.Frag) (C : Addr) : Prop where
  cl : Cls K C
  n1 : NoAttr K C "hands"
  n2 : NoAttr K C "sides"
  n3 : NoAttr K C "open_side"
  n4 : NoAttr K C "where"
  n5 : NoAttr K C "under_way"
  n6 : NoAttr K C "far"
structure Sid where
  dx : Addr
  ra : Addr
  c0 : Addr
  c1 : Addr
  wa : Addr
  ua : Addr
  hands : Int
  s0 : List Int
  s1 : List Int
  op : Int
  wh : List (Int × Int)
  way : Prs
  far : Str
def Sid.ob (C : Addr) (s : Sid) : HO := .ins C s.dx (siF (.int s.hands) (.ref s.ra) (.int s.op) (.ref s.wa) (.ref s.ua) (.str s.far))
def sidU (C p : Addr) (s : Sid) : U := (p, .ins C s.dx (siF (.int s.hands) (.ref s.ra) (.int s.op) (.ref s.wa) (.ref s.ua) (.str s.far))) :: (s.ra, .lst [.ref s.c0, .ref s.c1]) :: (s.c0, .lst (s.s0.map V.int)) :: (s.c1, .lst (s.s1.map V.int)) :: (s.wa, dI (mv V.int s.wh)) :: (s.ua, .lst (prR s.way)) :: prU s.way
abbrev sidL (C p : Addr) (s : Sid) (R : List U) : List U := [(p, .ins C s.dx (siF (.int s.hands) (.ref s.ra) (.int s.op) (.ref s.wa) (.ref s.ua) (.str s.far)))] :: [(s.ra, .lst [.ref s.c0, .ref s.c1])] :: [(s.c0, .lst (s.s0.map V.int))] :: [(s.c1, .lst (s.s1.map V.int))] :: [(s.wa, dI (mv V.int s.wh))] :: [(s.ua, .lst (prR s.way))] :: prU s.way :: R
theorem si_cut {H : Hp} {C p : Addr} {s : Sid} {R : List U} (h : Has H (sidU C p s :: R)) : Has H (sidL C p s R) := by
  have h1 := Has.cut3 h
  have h2 := Has.cut3 (h1.sub (Sub.p3 Sub.rf))
  exact h2.sub (Sub.p4 (Sub.p4 (Sub.p4 (Sub.p0 (Sub.p0 (Sub.p0 (Sub.p0 Sub.rf)))))))
theorem si_in {H : Hp} {C p : Addr} {s : Sid} {R : List U} (h : Has H (sidL C p s R)) : Has H (sidU C p s :: R) := by
  have h1 := Has.glue3 (h.sub (show Sub ([(s.c1, _)] :: [(s.wa, _)] :: [(s.ua, _)] :: prU s.way :: _) _ from Sub.p3 (Sub.p3 (Sub.p3 (Sub.p3 Sub.rf)))))
  exact Has.glue3 (h1.sub (show Sub ([(p, _)] :: [(s.ra, _)] :: [(s.c0, _)] :: _ :: R) _ from Sub.p1 (Sub.p1 (Sub.p1 (Sub.p0 Sub.rf)))))
def Sid.side (s : Sid) (k : Int) : List Int := if k = 0 then s.s0 else s.s1
structure Sid.wf (s : Sid) : Prop where
  o : s.op = 0 ∨ s.op = 1
  l0 : 0 < s.s0.length
  l5 : s.s0.length ≤ 5
  l1 : s.s1.length = s.s0.length
  wl : s.wh.length ≤ 500
  wn : (s.wh.map (·.1)).Nodup
  wr : ∀ q ∈ s.wh, q.2 = 0 ∨ q.2 = 1
  pl : s.way.length ≤ 60
  pc : ∀ q ∈ s.way, 0 ≤ q.2.1 ∧ q.2.1 < s.s0.length
theorem rep_map (n : Nat) : (List.replicate n (0 : Int)).map V.int = List.replicate n (V.int 0) := List.map_replicate ..
def sp_sinit (C : Addr) : Sp := fun vs H Q _ => ∃ (p dx : Addr) (h n : Int) (R : List U), vs = [.ref p, .int h, .int n] ∧ Has H ([(p, .ins C dx [])] :: R) ∧ 1 ≤ h ∧ h ≤ 6 ∧ 1 ≤ n ∧ n ≤ 5 ∧
  ∀ ra c0 c1 wa ua H', Has H' (sidU C p ⟨dx, ra, c0, c1, wa, ua, h, List.replicate n.toNat 0, List.replicate n.toNat 0, 0, [], [], "free"⟩ :: R) → Q .non H'
theorem pure_sinit {K : PySem.W.Frag} {C : Addr} (hC : SiC K C) {vs : List V} {H : Hp} {Q : VK} {E : XK} (h : sp_sinit C vs H Q E) : t_Sides_init K sp_look_number ⟨fun _ H' => Q .non H', Q, fun _ _ => False, fun _ _ => False⟩ (start ["self", "hands", "cells"] vs) H := by
  obtain ⟨p, dx, h, n, R, rfl, hh, h1, h6, m1, m5, q⟩ := h
  obtain ⟨cl, n1, n2, n3, n4, n5, n6⟩ := hC
  unfold t_Sides_init
  walk_at "go"
  refine ⟨h, 1, 6, rfl, h1, h6, ?_⟩
  walk_at "go"
  refine ⟨n, 1, 5, rfl, m1, m5, ?_⟩
  walk_at "go"
  rename_i H1 g1 x1 H2 g2 c0 H3 g3 x2 H4 g4 c1 H5 g5 ra H6 g6 H7 g7 H8 g8 wa H9 g9 H10 g10 ua H11 g11 H12 g12 H13 g13
  rw [← rep_map] at g13
  have g14 := Has.nilU.mpr g13
  exact q ra c0 c1 wa ua H13 (si_in (g14.sub (show Sub ([(p, _)] :: [(ra, _)] :: [(c0, _)] :: [(c1, _)] :: [(wa, dI (mv V.int []))] :: [(ua, .lst (prR []))] :: prU [] :: R) _ by walk_at "sub")))
def sp_slook_hand (C : Addr) : Sp := fun vs H Q _ => ∃ (p : Addr) (s : Sid) (k : Int) (R : List U), vs = [.ref p, .int k] ∧ Has H (sidU C p s :: R) ∧ 0 ≤ k ∧ k < s.hands ∧ Q .non H
theorem pure_slook_hand {K : PySem.W.Frag} {C : Addr} (hC : SiC K C) {vs : List V} {H : Hp} {Q : VK} {E : XK} (h : sp_slook_hand C vs H Q E) : t_Sides_look_hand K sp_is_whole ⟨fun _ H' => Q .non H', Q, fun _ _ => False, fun _ _ => False⟩ (start ["self", "hand"] vs) H := by
  obtain ⟨p, s, k, R, rfl, hh, c0, c1, q⟩ := h
  obtain ⟨cl, n1, n2, n3, n4, n5, n6⟩ := hC
  replace hh := si_cut hh
  unfold t_Sides_look_hand
  walk_at "go"
  refine ⟨k, 0, _, rfl, ?_⟩
  rw [decide_eq_true (by omega)]
  walk_at "go"
  exact q
def sp_slook_in (C : Addr) : Sp := fun vs H Q _ => ∃ (p : Addr) (s : Sid) (k : Int) (R : List U), vs = [.ref p, .int k] ∧ Has H (sidU C p s :: R) ∧ 0 ≤ k ∧ k < s.hands ∧ (fd s.wh k).isSome = true ∧ Q .non H
theorem pure_slook_in {K : PySem.W.Frag} {C : Addr} (hC : SiC K C) {vs : List V} {H : Hp} {Q : VK} {E : XK} (h : sp_slook_in C vs H Q E) : t_Sides_look_in K C (sp_slook_hand C) ⟨fun _ H' => Q .non H', Q, fun _ _ => False, fun _ _ => False⟩ (start ["self", "hand"] vs) H := by
  obtain ⟨p, s, k, R, rfl, h0, c0, c1, hf, q⟩ := h
  obtain ⟨cl, n1, n2, n3, n4, n5, n6⟩ := hC
  have hh := si_cut h0
  unfold t_Sides_look_in
  walk_at "go"
  refine ⟨p, s, k, R, rfl, h0, c0, c1, ?_⟩
  walk_at "go"
  rw [mv_isSome, hf]
  walk_at "go"
  exact q
structure PrOk2 (ps : Prs) (n : Nat) : Prop where
  ne : ps ≠ []
  l : ps.length ≤ 60
  cr : ∀ q ∈ ps, 0 ≤ q.2.1 ∧ q.2.1 < n
  vr : ∀ q ∈ ps, 0 ≤ q.2.2 ∧ q.2.2 ≤ 999
def sp_slook_pairs (C : Addr) : Sp := fun vs H Q _ => ∃ (p pa : Addr) (s : Sid) (ps : Prs) (R : List U), vs = [.ref p, .ref pa] ∧ Has H (sidU C p s :: [(pa, .lst (prR ps))] :: prU ps :: R) ∧ PrOk2 ps s.s0.length ∧
  ∀ H', Has H' (sidU C p s :: [(pa, .lst (prR ps))] :: prU ps :: R) → Q .non H'
theorem pure_slook_pairs {K : PySem.W.Frag} {C : Addr} (hC : SiC K C) {vs : List V} {H : Hp} {Q : VK} {E : XK} (h : sp_slook_pairs C vs H Q E) : t_Sides_look_pairs K sp_is_whole ⟨fun _ H' => Q .non H', Q, fun _ _ => False, fun _ _ => False⟩ (start ["self", "pairs", "fine", "one", "most"] vs) H := by
  obtain ⟨p, pa, s, ps, R, rfl, hh, ok, q⟩ := h
  obtain ⟨cl, n1, n2, n3, n4, n5, n6⟩ := hC
  have hl := ok.l
  have fin : ∀ H', Has H' (sidL C p s ([(pa, .lst (prR ps))] :: prU ps :: R)) → Q .non H' := fun H' h' => q H' (si_in h')
  replace hh := si_cut hh
  clear q
  unfold t_Sides_look_pairs
  walk_at "go"
  rename_i d0 H0 h0
  refine k_neLP (zs := ps) (ws := []) (by walk_at "hp") (by walk_at "hp") (Has.prs (h0.sub (show Sub (prU ps :: _) _ by walk_at "sub"))) (fun q hq => absurd hq List.not_mem_nil) ?_
  have ene : (!decide (ps.map (·.2) = ([] : Prs).map (·.2))) = true := by
    have : ¬ ps.map (·.2) = ([] : Prs).map (·.2) := fun e => ok.ne (List.map_eq_nil_iff.mp e)
    simp [this, ok.ne]
  rw [ene]
  have h0 := h0.sub (Sub.skip Sub.rf)
  clear hh
  walk_at "go"
  refine k_lcM ps (fun q => V.ref q.1) (fun _ => V.bl true) h0 (fun H' h' => by walk_at "hp") (by omega) (fun z hz D M H' Q' h' q' => ?_) fun D H1 h1 => ?_
  · have hz2 : H' z.1 = some (.tup [.int z.2.1, .int z.2.2]) := Has.prs (h'.sub (show Sub (prU ps :: _) _ by walk_at "sub")) z hz
    walk_at "go"
    exact q' H' h'
  rw [show ps.map (fun _ => V.bl true) = (ps.map fun _ => true).map V.bl by rw [List.map_map]; rfl] at h1
  walk_at "go"
  rw [all_true]
  walk_at "go"
  have h1 := h1.sub (Sub.skip Sub.rf)
  clear h0
  refine k_lcM ps (fun q => V.ref q.1) (fun _ => V.bl true) h1 (fun H' h' => by walk_at "hp") (by omega) (fun z hz D M H' Q' h' q' => ?_) fun D2 H2 h2 => ?_
  · have hz2 : H' z.1 = some (.tup [.int z.2.1, .int z.2.2]) := Has.prs (h'.sub (show Sub (prU ps :: _) _ by walk_at "sub")) z hz
    obtain ⟨c0, c1⟩ := ok.cr z hz
    obtain ⟨v0, v1⟩ := ok.vr z hz
    walk_at "go"
    refine ⟨z.2.1, 0, _, rfl, ?_⟩
    rw [decide_eq_true (by rw [List.length_map]; omega)]
    walk_at "go"
    refine ⟨z.2.2, 0, _, rfl, ?_⟩
    rw [decide_eq_true (by omega)]
    exact q' H' h'
  rw [show ps.map (fun _ => V.bl true) = (ps.map fun _ => true).map V.bl by rw [List.map_map]; rfl] at h2
  walk_at "go"
  rw [all_true]
  walk_at "go"
  exact fin _ (h2.sub (Sub.skip Sub.rf))
def sp_senter (C : Addr) : Sp := fun vs H Q _ => ∃ (p : Addr) (s : Sid) (k : Int) (R : List U), vs = [.ref p, .int k] ∧ Has H (sidU C p s :: R) ∧ s.wf ∧ 0 ≤ k ∧ k < s.hands ∧ fd s.wh k = none ∧
  ∀ H', Has H' (sidU C p { s with wh := pu s.wh k s.op } :: R) → Q (.int s.op) H'
theorem pure_senter {K : PySem.W.Frag} {C : Addr} (hC : SiC K C) {vs : List V} {H : Hp} {Q : VK} {E : XK} (h : sp_senter C vs H Q E) : t_Sides_enter K C (sp_slook_hand C) ⟨fun _ H' => Q .non H', Q, fun _ _ => False, fun _ _ => False⟩ (start ["self", "hand"] vs) H := by
  obtain ⟨p, s, k, R, rfl, h0, w, c0, c1, hf, q⟩ := h
  obtain ⟨cl, n1, n2, n3, n4, n5, n6⟩ := hC
  have hwl := w.wl
  have e1 : (mv V.int s.wh).length < sizeLine := by rw [mv_len, sizeLine_eq]; omega
  have hh := si_cut h0
  unfold t_Sides_enter
  walk_at "go"
  refine ⟨p, s, k, R, rfl, h0, c0, c1, ?_⟩
  clear h0
  walk_at "go"
  rw [mv_isSome, hf]
  refine ifF ?_
  walk_at "go"
  rename_i H1 h1
  rw [mv_put] at h1
  clear hh
  walk_at "go"
  exact q H1 (si_in (s := { s with wh := pu s.wh k s.op }) h1)
def sp_sleave (C : Addr) : Sp := fun vs H Q _ => ∃ (p : Addr) (s : Sid) (k : Int) (R : List U), vs = [.ref p, .int k] ∧ Has H (sidU C p s :: R) ∧ 0 ≤ k ∧ k < s.hands ∧ (fd s.wh k).isSome = true ∧
  ∀ H', Has H' (sidU C p { s with wh := rm s.wh k } :: R) → Q .non H'
theorem pure_sleave {K : PySem.W.Frag} {C : Addr} (hC : SiC K C) {vs : List V} {H : Hp} {Q : VK} {E : XK} (h : sp_sleave C vs H Q E) : t_Sides_leave K C (sp_slook_in C) ⟨fun _ H' => Q .non H', Q, fun _ _ => False, fun _ _ => False⟩ (start ["self", "hand"] vs) H := by
  obtain ⟨p, s, k, R, rfl, h0, c0, c1, hf, q⟩ := h
  obtain ⟨cl, n1, n2, n3, n4, n5, n6⟩ := hC
  obtain ⟨b, hb⟩ := Option.isSome_iff_exists.mp hf
  have hv1 : valV (mv V.int s.wh) k = some (.int b) := mv_some hb
  have hh := si_cut h0
  unfold t_Sides_leave
  walk_at "go"
  refine ⟨p, s, k, R, rfl, h0, c0, c1, hf, ?_⟩
  clear h0
  walk_at "go"
  rename_i H1 h1
  rw [mv_drop] at h1
  exact q H1 (si_in (s := { s with wh := rm s.wh k }) h1)
def sp_sread (C : Addr) : Sp := fun vs H Q _ => ∃ (p : Addr) (s : Sid) (k c b : Int) (R : List U), vs = [.ref p, .int k, .int c] ∧ Has H (sidU C p s :: R) ∧ s.wf ∧ 0 ≤ k ∧ k < s.hands ∧ fd s.wh k = some b ∧ 0 ≤ c ∧ c < s.s0.length ∧ Q (.int ((s.side b).getD c.toNat 0)) H
theorem pure_sread {K : PySem.W.Frag} {C : Addr} (hC : SiC K C) {vs : List V} {H : Hp} {Q : VK} {E : XK} (h : sp_sread C vs H Q E) : t_Sides_read K C (sp_slook_in C) sp_is_whole ⟨fun _ H' => Q .non H', Q, fun _ _ => False, fun _ _ => False⟩ (start ["self", "hand", "cell"] vs) H := by
  obtain ⟨p, s, k, c, b, R, rfl, h0, w, k0, k1, hf, c0, c1, q⟩ := h
  obtain ⟨cl, n1, n2, n3, n4, n5, n6⟩ := hC
  have hv1 : valV (mv V.int s.wh) k = some (.int b) := mv_some hf
  have hh := si_cut h0
  have hl1 := w.l1
  have ea0 : atI (s.s0.map V.int) c = some (.int (s.s0.getD c.toNat 0)) := at_ints c0 c1
  have ea1 : atI (s.s1.map V.int) c = some (.int (s.s1.getD c.toNat 0)) := at_ints c0 (by rw [hl1]; exact c1)
  unfold t_Sides_read
  walk_at "go"
  refine ⟨p, s, k, R, rfl, h0, k0, k1, by rw [hf]; rfl, ?_⟩
  walk_at "go"
  refine ⟨c, 0, _, rfl, ?_⟩
  rw [decide_eq_true (by rw [List.length_map]; omega)]
  walk_at "go"
  unfold Sid.side at q
  rcases w.wr (k, b) (fd_mem hf) with e | e
  · have e : b = 0 := e
    subst e
    walk_at "go"
    exact q
  · have e : b = 1 := e
    subst e
    walk_at "go"
    exact q
end La
namespace La
open PySem L2 Sy
local macro_rules | `(tactic| walk_at "fl") => `(tactic| first | assumption | exact si_hands | exact si_sides | exact si_open_side | exact si_where | exact si_under_way | exact si_far | kernel_rfl)
local macro_rules | `(tactic| walk_at "put") => `(tactic| first | exact si_put_hands | exact si_put_sides | exact si_put_open_side | exact si_put_where | exact si_put_under_way | exact si_put_far | exact si_p1 | exact si_p2 | exact si_p3 | exact si_p4 | exact si_p5 | exact si_p6)
local macro_rules | `(tactic| walk_at "fsl") => `(tactic| first | assumption | exact si_len | (show 0 < 1000; decide) | (show 1 < 1000; decide) | (show 2 < 1000; decide) | (show 3 < 1000; decide) | (show 4 < 1000; decide) | (show 5 < 1000; decide))
def Sid.put (s : Sid) (k : Int) : Sid := if k = 0 then { s with s0 := putAll s.s0 (s.way.map (·.2)) } else { s with s1 := putAll s.s1 (s.way.map (·.2)) }
def sp_put_all (C : Addr) : Sp := fun vs H Q _ => ∃ (p : Addr) (s : Sid) (k : Int) (R : List U), vs = [.ref p, .int k] ∧ Has H (sidU C p s :: R) ∧ s.wf ∧ (k = 0 ∨ k = 1) ∧ ∀ H', Has H' (sidU C p (s.put k) :: R) → Q .non H'
theorem pure_put_all {K : PySem.W.Frag} {C : Addr} (hC : SiC K C) {vs : List V} {H : Hp} {Q : VK} {E : XK} (h : sp_put_all C vs H Q E) : t_Sides_put_all K ⟨fun _ H' => Q .non H', Q, fun _ _ => False, fun _ _ => False⟩ (start ["self", "side", "cell", "value"] vs) H := by
  obtain ⟨p, s, k, R, rfl, hh, w, hk, q⟩ := h
  obtain ⟨cl, n1, n2, n3, n4, n5, n6⟩ := hC
  have hl1 := w.l1
  replace hh := si_cut hh
  have elen : (prR s.way).length = (s.way.map (·.2)).length := by rw [List.length_map]; exact fmR_len s.way
  unfold t_Sides_put_all
  walk_at "go"
  rcases hk with e | e
  · subst e
    refine k_forL (xs := prR s.way) (fun j σ H' => ∃ w2 w3 : Option V, σ = [some (.ref p), some (.int 0), w2, w3] ∧ Has H' (sidL C p { s with s0 := putAll s.s0 ((s.way.map (·.2)).take j) } R)) hh.g5 ⟨none, none, rfl, hh⟩ (fun j σ H' h' => by obtain ⟨_, _, _, h'⟩ := h'; exact h'.g5) (fun j x σ H' hx h' => ?_) (fun σ H' h' => ?_)
    · obtain ⟨w2, w3, rfl, h'⟩ := h'
      unfold prR fmR at hx
      rw [List.getElem?_map] at hx
      obtain ⟨z, hz, rfl⟩ := Option.map_eq_some_iff.mp hx
      have hzm := List.mem_of_getElem? hz
      have hz2 : H' z.1 = some (.tup [.int z.2.1, .int z.2.2]) := Has.prs (h'.sub (show Sub (prU s.way :: _) _ by walk_at "sub")) z hzm
      obtain ⟨c0, c1⟩ := w.pc z hzm
      have ex : ixN ((putAll s.s0 ((s.way.map (·.2)).take j)).map V.int).length z.2.1 = some z.2.1.toNat := by rw [List.length_map, putAll_len]; exact ix_ok c0 c1
      walk_at "go"
      rename_i H2 h2
      rw [map_set_int] at h2
      refine ⟨_, _, rfl, ?_⟩
      have e2 : (s.way.map (·.2)).take (j + 1) = (s.way.map (·.2)).take j ++ [z.2] := by rw [List.take_add_one, List.getElem?_map, hz]; rfl
      rw [e2]
      unfold putAll at h2 ⊢
      rw [List.foldl_append]
      exact h2
    · obtain ⟨w2, w3, rfl, h'⟩ := h'
      rw [elen, List.take_length] at h'
      have h2 := si_in (s := { s with s0 := putAll s.s0 (s.way.map (·.2)) }) h'
      exact q H' h2
  · subst e
    refine k_forL (xs := prR s.way) (fun j σ H' => ∃ w2 w3 : Option V, σ = [some (.ref p), some (.int 1), w2, w3] ∧ Has H' (sidL C p { s with s1 := putAll s.s1 ((s.way.map (·.2)).take j) } R)) hh.g5 ⟨none, none, rfl, hh⟩ (fun j σ H' h' => by obtain ⟨_, _, _, h'⟩ := h'; exact h'.g5) (fun j x σ H' hx h' => ?_) (fun σ H' h' => ?_)
    · obtain ⟨w2, w3, rfl, h'⟩ := h'
      unfold prR fmR at hx
      rw [List.getElem?_map] at hx
      obtain ⟨z, hz, rfl⟩ := Option.map_eq_some_iff.mp hx
      have hzm := List.mem_of_getElem? hz
      have hz2 : H' z.1 = some (.tup [.int z.2.1, .int z.2.2]) := Has.prs (h'.sub (show Sub (prU s.way :: _) _ by walk_at "sub")) z hzm
      obtain ⟨c0, c1⟩ := w.pc z hzm
      have ex : ixN ((putAll s.s1 ((s.way.map (·.2)).take j)).map V.int).length z.2.1 = some z.2.1.toNat := by rw [List.length_map, putAll_len]; exact ix_ok c0 (by rw [hl1]; exact c1)
      walk_at "go"
      rename_i H2 h2
      rw [map_set_int] at h2
      refine ⟨_, _, rfl, ?_⟩
      have e2 : (s.way.map (·.2)).take (j + 1) = (s.way.map (·.2)).take j ++ [z.2] := by rw [List.take_add_one, List.getElem?_map, hz]; rfl
      rw [e2]
      unfold putAll at h2 ⊢
      rw [List.foldl_append]
      exact h2
    · obtain ⟨w2, w3, rfl, h'⟩ := h'
      rw [elen, List.take_length] at h'
      have h2 := si_in (s := { s with s1 := putAll s.s1 (s.way.map (·.2)) }) h'
      exact q H' h2
theorem Sid.wf.put {s : Sid} (w : s.wf) (k : Int) : (s.put k).wf := by
  unfold Sid.put
  split
  · exact ⟨w.o, by show 0 < (putAll _ _).length; rw [putAll_len]; exact w.l0, by show (putAll _ _).length ≤ 5; rw [putAll_len]; exact w.l5, by show s.s1.length = (putAll _ _).length; rw [putAll_len]; exact w.l1, w.wl, w.wn, w.wr, w.pl, by show ∀ q ∈ s.way, 0 ≤ q.2.1 ∧ q.2.1 < (putAll s.s0 _).length; rw [putAll_len]; exact w.pc⟩
  · exact ⟨w.o, w.l0, w.l5, by show (putAll _ _).length = s.s0.length; rw [putAll_len]; exact w.l1, w.wl, w.wn, w.wr, w.pl, w.pc⟩
def Sid.began (s : Sid) (ua : Addr) (ps : Prs) : Sid := { ({ s with ua := ua, way := ps } : Sid).put (1 - s.op) with far := "written" }
theorem op_flip {o : Int} (h : o = 0 ∨ o = 1) : 1 - o = 0 ∨ 1 - o = 1 := by omega
theorem put_dx (s : Sid) (k : Int) : (s.put k).dx = s.dx ∧ (s.put k).ra = s.ra ∧ (s.put k).c0 = s.c0 ∧ (s.put k).c1 = s.c1 ∧ (s.put k).wa = s.wa ∧ (s.put k).ua = s.ua ∧ (s.put k).hands = s.hands ∧ (s.put k).op = s.op ∧ (s.put k).wh = s.wh ∧ (s.put k).way = s.way ∧ (s.put k).far = s.far := by
  unfold Sid.put
  split <;> exact ⟨rfl, rfl, rfl, rfl, rfl, rfl, rfl, rfl, rfl, rfl, rfl⟩
def sp_sbegin (C : Addr) : Sp := fun vs H Q _ => ∃ (p pa : Addr) (s : Sid) (ps : Prs) (R : List U), vs = [.ref p, .ref pa] ∧ Has H (sidU C p s :: [(pa, .lst (prR ps))] :: prU ps :: R) ∧ s.wf ∧ s.far = "free" ∧ PrOk2 ps s.s0.length ∧
  ∀ ua H', Has H' (sidU C p (s.began ua ps) :: [(pa, .lst (prR ps))] :: R) → Q .non H'
theorem pure_sbegin {K : PySem.W.Frag} {C : Addr} (hC : SiC K C) {vs : List V} {H : Hp} {Q : VK} {E : XK} (h : sp_sbegin C vs H Q E) : t_Sides_begin K C (sp_slook_pairs C) (sp_put_all C) ⟨fun _ H' => Q .non H', Q, fun _ _ => False, fun _ _ => False⟩ (start ["self", "pairs"] vs) H := by
  obtain ⟨p, pa, s, ps, R, rfl, h0, w, hf, ok, q⟩ := h
  obtain ⟨cl, n1, n2, n3, n4, n5, n6⟩ := hC
  have hp := (si_cut h0).g0
  unfold t_Sides_begin
  walk_at "go"
  refine ⟨p, pa, s, ps, R, rfl, h0, ok, fun H1 h1 => ?_⟩
  have hh := si_cut h1
  clear h0 h1 hp
  walk_at "go"
  refine ifN (by rw [hf]; rfl) ?_
  walk_at "go"
  rename_i ua H2 h2 H3 h3
  have h4 := si_in (C := C) (p := p) (s := { s with ua := ua, way := ps }) (h3.sub (show Sub ([(p, _)] :: [(s.ra, _)] :: [(s.c0, _)] :: [(s.c1, _)] :: [(s.wa, _)] :: [(ua, .lst (prR ps))] :: prU ps :: [(pa, .lst (prR ps))] :: R) _ by walk_at "sub"))
  have w2 : ({ s with ua := ua, way := ps } : Sid).wf := ⟨w.o, w.l0, w.l5, w.l1, w.wl, w.wn, w.wr, ok.l, ok.cr⟩
  clear hh h2
  walk_at "go"
  refine ⟨p, { s with ua := ua, way := ps }, 1 - s.op, _, rfl, h4, w2, op_flip w.o, fun H5 h5 => ?_⟩
  have h6 := si_cut h5
  clear h3 h4 h5
  walk_at "go"
  rename_i H7 h7
  exact q ua H7 (si_in (s := s.began ua ps) h7)
def sp_sturn (C : Addr) : Sp := fun vs H Q _ => ∃ (p : Addr) (s : Sid) (R : List U), vs = [.ref p] ∧ Has H (sidU C p s :: R) ∧ s.far = "written" ∧ ∀ H', Has H' (sidU C p { s with op := 1 - s.op, far := "turned" } :: R) → Q .non H'
theorem pure_sturn {K : PySem.W.Frag} {C : Addr} (hC : SiC K C) {vs : List V} {H : Hp} {Q : VK} {E : XK} (h : sp_sturn C vs H Q E) : t_Sides_turn K ⟨fun _ H' => Q .non H', Q, fun _ _ => False, fun _ _ => False⟩ (start ["self"] vs) H := by
  obtain ⟨p, s, R, rfl, hh, hf, q⟩ := h
  obtain ⟨cl, n1, n2, n3, n4, n5, n6⟩ := hC
  replace hh := si_cut hh
  unfold t_Sides_turn
  walk_at "go"
  refine ifN (by rw [hf]; rfl) ?_
  walk_at "go"
  rename_i H1 h1 H2 h2
  exact q H2 (si_in (s := { s with op := 1 - s.op, far := "turned" }) h2)
def sp_sfinish (C : Addr) : Sp := fun vs H Q _ => ∃ (p : Addr) (s : Sid) (R : List U), vs = [.ref p] ∧ Has H (sidU C p s :: R) ∧ s.wf ∧ s.far = "turned" ∧
  (1 - s.op ∈ s.wh.map (·.2) → ∀ H', Has H' (sidU C p s :: R) → Q (.bl false) H') ∧
  (¬ 1 - s.op ∈ s.wh.map (·.2) → ∀ H', Has H' (sidU C p { s.put (1 - s.op) with far := "free" } :: R) → Q (.bl true) H')
theorem pure_sfinish {K : PySem.W.Frag} {C : Addr} (hC : SiC K C) {vs : List V} {H : Hp} {Q : VK} {E : XK} (h : sp_sfinish C vs H Q E) : t_Sides_finish K C (sp_put_all C) ⟨fun _ H' => Q .non H', Q, fun _ _ => False, fun _ _ => False⟩ (start ["self"] vs) H := by
  obtain ⟨p, s, R, rfl, hh, w, hf, q1, q2⟩ := h
  obtain ⟨cl, n1, n2, n3, n4, n5, n6⟩ := hC
  replace hh := si_cut hh
  unfold t_Sides_finish
  walk_at "go"
  refine ifN (by rw [hf]; rfl) ?_
  walk_at "go"
  rename_i d1 H1 h1
  have e0 : (mv V.int s.wh).map (·.2) = (s.wh.map (·.2)).map V.int := by
    unfold mv
    rw [List.map_map, List.map_map]
    rfl
  rw [e0] at h1
  clear hh
  walk_at "go"
  refine ifD (fun b => ?_) (fun b => ?_)
  · walk_at "go"
    exact q1 b H1 (si_in (h1.sub (Sub.skip Sub.rf)))
  · have h2 := si_in (h1.sub (Sub.skip Sub.rf))
    have hp := (si_cut h2).g0
    walk_at "go"
    refine ⟨p, s, 1 - s.op, _, rfl, h2, w, op_flip w.o, fun H5 h5 => ?_⟩
    have h6 := si_cut h5
    clear h1 h2 hp
    walk_at "go"
    rename_i H7 h7
    exact q2 b H7 (si_in (s := { s.put (1 - s.op) with far := "free" }) h7)
def sp_sstate (C : Addr) : Sp := fun vs H Q _ => ∃ (p : Addr) (s : Sid) (R : List U), vs = [.ref p] ∧ Has H (sidU C p s :: R) ∧ Q (.str s.far) H
theorem pure_sstate {K : PySem.W.Frag} {C : Addr} (hC : SiC K C) {vs : List V} {H : Hp} {Q : VK} {E : XK} (h : sp_sstate C vs H Q E) : t_Sides_state K ⟨fun _ H' => Q .non H', Q, fun _ _ => False, fun _ _ => False⟩ (start ["self"] vs) H := by
  obtain ⟨p, s, R, rfl, hh, q⟩ := h
  obtain ⟨cl, n1, n2, n3, n4, n5, n6⟩ := hC
  replace hh := si_cut hh
  unfold t_Sides_state
  walk_at "go"
  exact q
def onOf (m : List (Int × Int)) (k : Int) : List Int := (m.filter fun q => decide (q.2 = k)).map (·.1)
def sp_hands_on (C : Addr) : Sp := fun vs H Q _ => ∃ (p : Addr) (s : Sid) (k : Int) (R : List U), vs = [.ref p, .int k] ∧ Has H (sidU C p s :: R) ∧ s.wf ∧ (k = 0 ∨ k = 1) ∧
  ∀ (ys : List Int) d H', ys.Perm (onOf s.wh k) → ys.Pairwise (· ≤ ·) → Has H' ([(d, .lst (ys.map V.int))] :: sidU C p s :: R) → Q (.ref d) H'
/-- [h for h in d if d[h] == k] -/
theorem on_eq {m : List (Int × Int)} {k : Int} (nd : (m.map (·.1)).Nodup) : (((mv V.int m).map (·.1)).filter fun z => decide ((fd m z).getD 0 = k)).map V.int = (onOf m k).map V.int := by
  unfold onOf
  rw [mv_keys, List.filter_map, List.map_map, List.map_map]
  have e1 : m.filter ((fun z => decide ((fd m z).getD 0 = k)) ∘ fun x => x.1) = m.filter fun q => decide (q.2 = k) := List.filter_congr fun q hq => by
    show decide ((fd m q.1).getD 0 = k) = _
    rw [fd_of nd (show (q.1, q.2) ∈ m from hq)]
    rfl
  rw [e1]
theorem pure_hands_on {K : PySem.W.Frag} {C : Addr} (hC : SiC K C) {vs : List V} {H : Hp} {Q : VK} {E : XK} (h : sp_hands_on C vs H Q E) : t_Sides_hands_on K sp_look_number ⟨fun _ H' => Q .non H', Q, fun _ _ => False, fun _ _ => False⟩ (start ["self", "side", "hand"] vs) H := by
  obtain ⟨p, s, k, R, rfl, hh, w, hk, q⟩ := h
  obtain ⟨cl, n1, n2, n3, n4, n5, n6⟩ := hC
  have hwl := w.wl
  replace hh := si_cut hh
  unfold t_Sides_hands_on
  walk_at "go"
  refine ⟨k, 0, 1, rfl, by omega, by omega, ?_⟩
  walk_at "go"
  refine x_lcD (d := s.wa) (fun z => .int z) (fun z => decide ((fd s.wh z).getD 0 = k)) (hh.sub (show Sub ([(s.wa, _)] :: _) _ by walk_at "sub")) (by rw [mv_len]; omega) (fun oo H' Q' h' q' => ?_) (fun oo z hz D M H' Q' h' q' => ?_) (fun oo z hz _ D M H' Q' h' q' => ?_) fun D H2 h2 => ?_
  · walk_at "go"
    exact q'
  · rw [mv_keys] at hz
    obtain ⟨v, hv⟩ := Option.isSome_iff_exists.mp (fd_isSome.mpr hz)
    have hv2 : valV (mv V.int s.wh) z = some (.int v) := mv_some hv
    rw [hv] at q'
    walk_at "go"
    exact q' H' h'
  · walk_at "go"
    exact q' H' h'
  rw [on_eq w.wn] at h2
  clear hh
  walk_at "go"
  rename_i ys d H3 y1 y2 h3
  refine q ys d H3 y1 y2 ?_
  have h4 := si_in (C := C) (p := p) (s := s) (h3.sub (show Sub ([(p, _)] :: [(s.ra, _)] :: [(s.c0, _)] :: [(s.c1, _)] :: [(s.wa, _)] :: [(s.ua, _)] :: prU s.way :: _) _ by walk_at "sub"))
  exact h4.sub (show Sub ([(d, _)] :: sidU C p s :: R) _ by walk_at "sub")
end La
namespace La
open PySem L2 Sy
def t_Twice_init (K : PySem.W.Frag) (sp_look_number : Sp) : TS :=
  tSeq (tDrop (tCall sp_look_number [] E0 (tCons (tVar 1) (tCons (tC (.int 1)) (tCons (tC (.int 6)) (tNil))))))
    (tSeq (tDrop (tCall sp_look_number [] E0 (tCons (tVar 2) (tCons (tC (.int 1)) (tCons (tC (.int 5)) (tNil))))))
    (tSeq (sFld K (tVar 0) (tVar 1) "hands")
    (tSeq (sFld K (tVar 0) (tOp rRep (tLst (tCons (tC (.int 0)) (tNil))) (tVar 2)) "cells")
    (tSeq (sFld K (tVar 0) (tC (.int 0)) "number")
    (sFld K (tVar 0) (tDNewK) "first")))))
def t_Twice_look_cell (K : PySem.W.Frag) (sp_is_whole : Sp) : TS :=
  tIfS (tNot (tB (tCall sp_is_whole [] E0 (tCons (tVar 1) (tCons (tC (.int 0)) (tCons (tOp rSubI (tCB (rLenQ K) (tCons (tFld K (tVar 0) "cells") (tNil))) (tC (.int 1))) (tNil))))))) (tNever) (tNext)
def t_Twice_look_hand (K : PySem.W.Frag) (sp_is_whole : Sp) : TS :=
  tIfS (tNot (tB (tCall sp_is_whole [] E0 (tCons (tVar 1) (tCons (tC (.int 0)) (tCons (tOp rSubI (tFld K (tVar 0) "hands") (tC (.int 1))) (tNil))))))) (tNever) (tNext)
def t_Twice_begin_write (K : PySem.W.Frag) : TS :=
  tSeq (tIfS (tTest (tOp rEq (tOp rModI (tFld K (tVar 0) "number") (tC (.int 2))) (tC (.int 1)))) (tNever) (tNext))
    (sFld K (tVar 0) (tOp rAddI (tFld K (tVar 0) "number") (tC (.int 1))) "number")
def t_Twice_put (K : PySem.W.Frag) (C_Twice : Addr) (sp_Twice__Twice_look_cell sp_look_number : Sp) : TS :=
  tSeq (tDrop (tMeth C_Twice "look_cell" sp_Twice__Twice_look_cell [] E0 (tVar 0) (tCons (tVar 1) (tNil))))
    (tSeq (tDrop (tCall sp_look_number [] E0 (tCons (tVar 2) (tCons (tC (.int 0)) (tCons (tC (.int 999)) (tNil))))))
    (tSeq (tIfS (tTest (tOp rEq (tOp rModI (tFld K (tVar 0) "number") (tC (.int 2))) (tC (.int 0)))) (tNever) (tNext))
    (tAsg (tVar 2) (gSub (tFld K (tVar 0) "cells") (tVar 1) rSetL))))
def t_Twice_end_write (K : PySem.W.Frag) : TS :=
  tSeq (tIfS (tTest (tOp rEq (tOp rModI (tFld K (tVar 0) "number") (tC (.int 2))) (tC (.int 0)))) (tNever) (tNext))
    (sFld K (tVar 0) (tOp rAddI (tFld K (tVar 0) "number") (tC (.int 1))) "number")
def t_Twice_begin_read (K : PySem.W.Frag) (C_Twice : Addr) (sp_Twice__Twice_look_hand : Sp) : TS :=
  tSeq (tDrop (tMeth C_Twice "look_hand" sp_Twice__Twice_look_hand [] E0 (tVar 0) (tCons (tVar 1) (tNil))))
    (tSeq (sDPut (tFld K (tVar 0) "first") (tVar 1) (tFld K (tVar 0) "number"))
    (tRet (tFld K (tVar 0) "number")))
def t_Twice_take (K : PySem.W.Frag) (C_Twice : Addr) (sp_Twice__Twice_look_hand sp_Twice__Twice_look_cell : Sp) : TS :=
  tSeq (tDrop (tMeth C_Twice "look_hand" sp_Twice__Twice_look_hand [] E0 (tVar 0) (tCons (tVar 1) (tNil))))
    (tSeq (tIfS (tB (tDNotIn (tVar 1) (tFld K (tVar 0) "first"))) (tNever) (tNext))
    (tSeq (tDrop (tMeth C_Twice "look_cell" sp_Twice__Twice_look_cell [] E0 (tVar 0) (tCons (tVar 2) (tNil))))
    (tRet (tOp (rIxL K) (tFld K (tVar 0) "cells") (tVar 2)))))
def t_Twice_sure (K : PySem.W.Frag) (C_Twice : Addr) (sp_Twice__Twice_look_hand : Sp) : TS :=
  tSeq (tDrop (tMeth C_Twice "look_hand" sp_Twice__Twice_look_hand [] E0 (tVar 0) (tCons (tVar 1) (tNil))))
    (tSeq (tIfS (tB (tDNotIn (tVar 1) (tFld K (tVar 0) "first"))) (tNever) (tNext))
    (tSeq (tAsg (tDPop1 (tFld K (tVar 0) "first") (tVar 1)) (gName 2))
    (tRet (tAndV (tOp rEq (tOp rModI (tVar 2) (tC (.int 2))) (tC (.int 0))) (tOp rEq (tVar 2) (tFld K (tVar 0) "number"))))))
def t_Twice_number_now (K : PySem.W.Frag) : TS :=
  tRet (tFld K (tVar 0) "number")
def twF (v0 v1 v2 v3 : V) : List (Str × V) := [("hands", v0), ("cells", v1), ("number", v2), ("first", v3)]
theorem tw_hands {v0 v1 v2 v3 : V} : (twF v0 v1 v2 v3).lookup ("hands" : Str) = some v0 := by kernel_rfl
theorem tw_put_hands {v0 v1 v2 v3 u : V} : putF "hands" u (twF v0 v1 v2 v3) = twF u v1 v2 v3 := by kernel_rfl
theorem tw_cells {v0 v1 v2 v3 : V} : (twF v0 v1 v2 v3).lookup ("cells" : Str) = some v1 := by kernel_rfl
theorem tw_put_cells {v0 v1 v2 v3 u : V} : putF "cells" u (twF v0 v1 v2 v3) = twF v0 u v2 v3 := by kernel_rfl
theorem tw_number {v0 v1 v2 v3 : V} : (twF v0 v1 v2 v3).lookup ("number" : Str) = some v2 := by kernel_rfl
theorem tw_put_number {v0 v1 v2 v3 u : V} : putF "number" u (twF v0 v1 v2 v3) = twF v0 v1 u v3 := by kernel_rfl
theorem tw_first {v0 v1 v2 v3 : V} : (twF v0 v1 v2 v3).lookup ("first" : Str) = some v3 := by kernel_rfl
theorem tw_put_first {v0 v1 v2 v3 u : V} : putF "first" u (twF v0 v1 v2 v3) = twF v0 v1 v2 u := by kernel_rfl
theorem tw_m_look_cell {v0 v1 v2 v3 : V} : (twF v0 v1 v2 v3).lookup ("look_cell" : Str) = none := by kernel_rfl
theorem tw_m_look_hand {v0 v1 v2 v3 : V} : (twF v0 v1 v2 v3).lookup ("look_hand" : Str) = none := by kernel_rfl
theorem tw_m_begin_write {v0 v1 v2 v3 : V} : (twF v0 v1 v2 v3).lookup ("begin_write" : Str) = none := by kernel_rfl
theorem tw_m_put {v0 v1 v2 v3 : V} : (twF v0 v1 v2 v3).lookup ("put" : Str) = none := by kernel_rfl
theorem tw_m_end_write {v0 v1 v2 v3 : V} : (twF v0 v1 v2 v3).lookup ("end_write" : Str) = none := by kernel_rfl
theorem tw_m_begin_read {v0 v1 v2 v3 : V} : (twF v0 v1 v2 v3).lookup ("begin_read" : Str) = none := by kernel_rfl
theorem tw_m_take {v0 v1 v2 v3 : V} : (twF v0 v1 v2 v3).lookup ("take" : Str) = none := by kernel_rfl
theorem tw_m_sure {v0 v1 v2 v3 : V} : (twF v0 v1 v2 v3).lookup ("sure" : Str) = none := by kernel_rfl
theorem tw_m_number_now {v0 v1 v2 v3 : V} : (twF v0 v1 v2 v3).lookup ("number_now" : Str) = none := by kernel_rfl
theorem tw_p1 { u : V} : putF "hands" u ([] : List (Str × V)) = ([("hands", u)] : List (Str × V)) := by kernel_rfl
theorem tw_p2 {v0 u : V} : putF "cells" u ([("hands", v0)] : List (Str × V)) = ([("hands", v0), ("cells", u)] : List (Str × V)) := by kernel_rfl
theorem tw_p3 {v0 v1 u : V} : putF "number" u ([("hands", v0), ("cells", v1)] : List (Str × V)) = ([("hands", v0), ("cells", v1), ("number", u)] : List (Str × V)) := by kernel_rfl
theorem tw_p4 {v0 v1 v2 u : V} : putF "first" u ([("hands", v0), ("cells", v1), ("number", v2)] : List (Str × V)) = ((twF v0 v1 v2 u) : List (Str × V)) := by kernel_rfl
theorem tw_len {v0 v1 v2 v3 : V} : (twF v0 v1 v2 v3).length < 1000 := by show 4 < 1000; decide
local macro_rules | `(tactic| walk_at "fl") => `(tactic| first | assumption | exact tw_hands | exact tw_cells | exact tw_number | exact tw_first | kernel_rfl)
local macro_rules | `(tactic| walk_at "put") => `(tactic| first | exact tw_put_hands | exact tw_put_cells | exact tw_put_number | exact tw_put_first | exact tw_p1 | exact tw_p2 | exact tw_p3 | exact tw_p4)
local macro_rules | `(tactic| walk_at "fsl") => `(tactic| first | assumption | exact tw_len | (show 0 < 1000; decide) | (show 1 < 1000; decide) | (show 2 < 1000; decide) | (show 3 < 1000; decide))
/-! ### twice -/
structure TwC (K : PySem.W.Frag) (C : Addr) : Prop where
  cl : Cls K C
  n1 : NoAttr K C "hands"
  n2 : NoAttr K C "cells"
  n3 : NoAttr K C "number"
  n4 : NoAttr K C "first"
structure Tw where
  dx : Addr
  c : Addr
  d : Addr
  hands : Int
  cells : List Int
  number : Int
  first : List (Int × Int)
def twU (C p : Addr) (s : Tw) : U := [(p, .ins C s.dx (twF (.int s.hands) (.ref s.c) (.int s.number) (.ref s.d))), (s.c, .lst (s.cells.map V.int)), (s.d, dI (mv V.int s.first))]
theorem tw_cut {H : Hp} {C p : Addr} {s : Tw} {R : List U} (h : Has H (twU C p s :: R)) : Has H ([(p, .ins C s.dx (twF (.int s.hands) (.ref s.c) (.int s.number) (.ref s.d)))] :: [(s.c, .lst (s.cells.map V.int))] :: [(s.d, dI (mv V.int s.first))] :: R) := Has.cut2 h
theorem tw_in {H : Hp} {C p : Addr} {s : Tw} {R : List U} (h : Has H ([(p, .ins C s.dx (twF (.int s.hands) (.ref s.c) (.int s.number) (.ref s.d)))] :: [(s.c, .lst (s.cells.map V.int))] :: [(s.d, dI (mv V.int s.first))] :: R)) : Has H (twU C p s :: R) := Has.glue2 h
def sp_tinit (C : Addr) : Sp := fun vs H Q _ => ∃ (p dx : Addr) (h n : Int) (R : List U), vs = [.ref p, .int h, .int n] ∧ Has H ([(p, .ins C dx [])] :: R) ∧ 1 ≤ h ∧ h ≤ 6 ∧ 1 ≤ n ∧ n ≤ 5 ∧
  ∀ c d H', Has H' (twU C p ⟨dx, c, d, h, List.replicate n.toNat 0, 0, []⟩ :: R) → Q .non H'
theorem pure_tinit {K : PySem.W.Frag} {C : Addr} (hC : TwC K C) {vs : List V} {H : Hp} {Q : VK} {E : XK} (h : sp_tinit C vs H Q E) : t_Twice_init K sp_look_number ⟨fun _ H' => Q .non H', Q, fun _ _ => False, fun _ _ => False⟩ (start ["self", "hands", "cells"] vs) H := by
  obtain ⟨p, dx, h, n, R, rfl, hh, h1, h6, m1, m5, q⟩ := h
  obtain ⟨cl, n1, n2, n3, n4⟩ := hC
  unfold t_Twice_init
  walk_at "go"
  refine ⟨h, 1, 6, rfl, h1, h6, ?_⟩
  walk_at "go"
  refine ⟨n, 1, 5, rfl, m1, m5, ?_⟩
  walk_at "go"
  rename_i c Ha ha Hb hb Hc hc d H1 g1 H2 g2
  rw [← rep_map] at g2
  exact q c d H2 (tw_in (g2.sub (show Sub ([(p, _)] :: [(c, _)] :: [(d, dI (mv V.int []))] :: R) _ by walk_at "sub")))
def sp_tlook_cell (C : Addr) : Sp := fun vs H Q _ => ∃ (p : Addr) (s : Tw) (c : Int) (R : List U), vs = [.ref p, .int c] ∧ Has H (twU C p s :: R) ∧ 0 ≤ c ∧ c < s.cells.length ∧ Q .non H
theorem pure_tlook_cell {K : PySem.W.Frag} {C : Addr} (hC : TwC K C) {vs : List V} {H : Hp} {Q : VK} {E : XK} (h : sp_tlook_cell C vs H Q E) : t_Twice_look_cell K sp_is_whole ⟨fun _ H' => Q .non H', Q, fun _ _ => False, fun _ _ => False⟩ (start ["self", "cell"] vs) H := by
  obtain ⟨p, s, c, R, rfl, hh, c0, c1, q⟩ := h
  obtain ⟨cl, n1, n2, n3, n4⟩ := hC
  replace hh := tw_cut hh
  unfold t_Twice_look_cell
  walk_at "go"
  refine ⟨c, 0, _, rfl, ?_⟩
  rw [decide_eq_true (by rw [List.length_map]; omega)]
  walk_at "go"
  exact q
def sp_tlook_hand (C : Addr) : Sp := fun vs H Q _ => ∃ (p : Addr) (s : Tw) (k : Int) (R : List U), vs = [.ref p, .int k] ∧ Has H (twU C p s :: R) ∧ 0 ≤ k ∧ k < s.hands ∧ Q .non H
theorem pure_tlook_hand {K : PySem.W.Frag} {C : Addr} (hC : TwC K C) {vs : List V} {H : Hp} {Q : VK} {E : XK} (h : sp_tlook_hand C vs H Q E) : t_Twice_look_hand K sp_is_whole ⟨fun _ H' => Q .non H', Q, fun _ _ => False, fun _ _ => False⟩ (start ["self", "hand"] vs) H := by
  obtain ⟨p, s, k, R, rfl, hh, c0, c1, q⟩ := h
  obtain ⟨cl, n1, n2, n3, n4⟩ := hC
  replace hh := tw_cut hh
  unfold t_Twice_look_hand
  walk_at "go"
  refine ⟨k, 0, _, rfl, ?_⟩
  rw [decide_eq_true (by omega)]
  walk_at "go"
  exact q
def sp_begin_write (C : Addr) : Sp := fun vs H Q _ => ∃ (p : Addr) (s : Tw) (R : List U), vs = [.ref p] ∧ Has H (twU C p s :: R) ∧ s.number % 2 = 0 ∧ ∀ H', Has H' (twU C p { s with number := s.number + 1 } :: R) → Q .non H'
theorem pure_begin_write {K : PySem.W.Frag} {C : Addr} (hC : TwC K C) {vs : List V} {H : Hp} {Q : VK} {E : XK} (h : sp_begin_write C vs H Q E) : t_Twice_begin_write K ⟨fun _ H' => Q .non H', Q, fun _ _ => False, fun _ _ => False⟩ (start ["self"] vs) H := by
  obtain ⟨p, s, R, rfl, hh, h2, q⟩ := h
  obtain ⟨cl, n1, n2, n3, n4⟩ := hC
  replace hh := tw_cut hh
  unfold t_Twice_begin_write
  walk_at "go"
  refine ifN (decide_eq_false (by omega)) ?_
  walk_at "go"
  rename_i H1 h1
  exact q H1 (tw_in h1)
def sp_end_write (C : Addr) : Sp := fun vs H Q _ => ∃ (p : Addr) (s : Tw) (R : List U), vs = [.ref p] ∧ Has H (twU C p s :: R) ∧ s.number % 2 = 1 ∧ ∀ H', Has H' (twU C p { s with number := s.number + 1 } :: R) → Q .non H'
theorem pure_end_write {K : PySem.W.Frag} {C : Addr} (hC : TwC K C) {vs : List V} {H : Hp} {Q : VK} {E : XK} (h : sp_end_write C vs H Q E) : t_Twice_end_write K ⟨fun _ H' => Q .non H', Q, fun _ _ => False, fun _ _ => False⟩ (start ["self"] vs) H := by
  obtain ⟨p, s, R, rfl, hh, h2, q⟩ := h
  obtain ⟨cl, n1, n2, n3, n4⟩ := hC
  replace hh := tw_cut hh
  unfold t_Twice_end_write
  walk_at "go"
  refine ifN (decide_eq_false (by omega)) ?_
  walk_at "go"
  rename_i H1 h1
  exact q H1 (tw_in h1)
def sp_tput (C : Addr) : Sp := fun vs H Q _ => ∃ (p : Addr) (s : Tw) (c v : Int) (R : List U), vs = [.ref p, .int c, .int v] ∧ Has H (twU C p s :: R) ∧ 0 ≤ c ∧ c < s.cells.length ∧ 0 ≤ v ∧ v ≤ 999 ∧ s.number % 2 = 1 ∧ ∀ H', Has H' (twU C p { s with cells := s.cells.set c.toNat v } :: R) → Q .non H'
theorem pure_tput {K : PySem.W.Frag} {C : Addr} (hC : TwC K C) {vs : List V} {H : Hp} {Q : VK} {E : XK} (h : sp_tput C vs H Q E) : t_Twice_put K C (sp_tlook_cell C) sp_look_number ⟨fun _ H' => Q .non H', Q, fun _ _ => False, fun _ _ => False⟩ (start ["self", "cell", "value"] vs) H := by
  obtain ⟨p, s, c, v, R, rfl, hh, c0, c1, v0, v9, h2, q⟩ := h
  obtain ⟨cl, n1, n2, n3, n4⟩ := hC
  have h0 := hh
  replace hh := tw_cut hh
  have ex : ixN (s.cells.map V.int).length c = some c.toNat := by rw [List.length_map]; exact ix_ok c0 c1
  unfold t_Twice_put
  walk_at "go"
  refine ⟨p, s, c, R, rfl, h0, c0, c1, ?_⟩
  walk_at "go"
  refine ⟨v, 0, 999, rfl, v0, v9, ?_⟩
  walk_at "go"
  refine ifN (decide_eq_false (by omega)) ?_
  walk_at "go"
  rename_i H1 h1
  rw [map_set_int] at h1
  exact q H1 (tw_in (s := { s with cells := s.cells.set c.toNat v }) h1)
def sp_begin_read (C : Addr) : Sp := fun vs H Q _ => ∃ (p : Addr) (s : Tw) (k : Int) (R : List U), vs = [.ref p, .int k] ∧ Has H (twU C p s :: R) ∧ 0 ≤ k ∧ k < s.hands ∧ s.first.length ≤ 1000 ∧ ∀ H', Has H' (twU C p { s with first := pu s.first k s.number } :: R) → Q (.int s.number) H'
theorem pure_begin_read {K : PySem.W.Frag} {C : Addr} (hC : TwC K C) {vs : List V} {H : Hp} {Q : VK} {E : XK} (h : sp_begin_read C vs H Q E) : t_Twice_begin_read K C (sp_tlook_hand C) ⟨fun _ H' => Q .non H', Q, fun _ _ => False, fun _ _ => False⟩ (start ["self", "hand"] vs) H := by
  obtain ⟨p, s, k, R, rfl, hh, k0, k1, hl, q⟩ := h
  obtain ⟨cl, n1, n2, n3, n4⟩ := hC
  have h0 := hh
  replace hh := tw_cut hh
  have e1 : (mv V.int s.first).length < sizeLine := by rw [mv_len, sizeLine_eq]; omega
  unfold t_Twice_begin_read
  walk_at "go"
  refine ⟨p, s, k, R, rfl, h0, k0, k1, ?_⟩
  clear h0
  walk_at "go"
  rename_i H1 h1
  rw [mv_put] at h1
  clear hh
  walk_at "go"
  exact q H1 (tw_in (s := { s with first := pu s.first k s.number }) h1)
def sp_take (C : Addr) : Sp := fun vs H Q _ => ∃ (p : Addr) (s : Tw) (k c : Int) (R : List U), vs = [.ref p, .int k, .int c] ∧ Has H (twU C p s :: R) ∧ 0 ≤ k ∧ k < s.hands ∧ (fd s.first k).isSome = true ∧ 0 ≤ c ∧ c < s.cells.length ∧ Q (.int (s.cells.getD c.toNat 0)) H
theorem pure_take {K : PySem.W.Frag} {C : Addr} (hC : TwC K C) {vs : List V} {H : Hp} {Q : VK} {E : XK} (h : sp_take C vs H Q E) : t_Twice_take K C (sp_tlook_hand C) (sp_tlook_cell C) ⟨fun _ H' => Q .non H', Q, fun _ _ => False, fun _ _ => False⟩ (start ["self", "hand", "cell"] vs) H := by
  obtain ⟨p, s, k, c, R, rfl, hh, k0, k1, hf, c0, c1, q⟩ := h
  obtain ⟨cl, n1, n2, n3, n4⟩ := hC
  have h0 := hh
  replace hh := tw_cut hh
  have ea : atI (s.cells.map V.int) c = some (.int (s.cells.getD c.toNat 0)) := at_ints c0 c1
  unfold t_Twice_take
  walk_at "go"
  refine ⟨p, s, k, R, rfl, h0, k0, k1, ?_⟩
  walk_at "go"
  rw [mv_isSome, hf]
  walk_at "go"
  refine ⟨p, s, c, R, rfl, h0, c0, c1, ?_⟩
  walk_at "go"
  exact q
def sp_tsure (C : Addr) : Sp := fun vs H Q _ => ∃ (p : Addr) (s : Tw) (k n : Int) (R : List U), vs = [.ref p, .int k] ∧ Has H (twU C p s :: R) ∧ 0 ≤ k ∧ k < s.hands ∧ fd s.first k = some n ∧ ∀ H', Has H' (twU C p { s with first := rm s.first k } :: R) → Q (.bl (decide (n % 2 = 0 ∧ n = s.number))) H'
theorem pure_tsure {K : PySem.W.Frag} {C : Addr} (hC : TwC K C) {vs : List V} {H : Hp} {Q : VK} {E : XK} (h : sp_tsure C vs H Q E) : t_Twice_sure K C (sp_tlook_hand C) ⟨fun _ H' => Q .non H', Q, fun _ _ => False, fun _ _ => False⟩ (start ["self", "hand", "first"] vs) H := by
  obtain ⟨p, s, k, n, R, rfl, hh, k0, k1, hf, q⟩ := h
  obtain ⟨cl, n1, n2, n3, n4⟩ := hC
  have h0 := hh
  replace hh := tw_cut hh
  have hv : valV (mv V.int s.first) k = some (.int n) := mv_some hf
  unfold t_Twice_sure
  walk_at "go"
  refine ⟨p, s, k, R, rfl, h0, k0, k1, ?_⟩
  clear h0
  walk_at "go"
  rw [mv_isSome, show (fd s.first k).isSome = true by rw [hf]; rfl]
  walk_at "go"
  rename_i H1 h1
  rw [mv_drop] at h1
  clear hh
  walk_at "go"
  have h2 := tw_in (s := { s with first := rm s.first k }) h1
  refine ifD (fun b => ?_) (fun b => ?_)
  · walk_at "go"
    have e : decide (n % 2 = 0 ∧ n = s.number) = decide (n = s.number) := by simp [b]
    rw [← e]
    exact q H1 h2
  · have e : decide (n % 2 = 0 ∧ n = s.number) = false := by simp [b]
    rw [← e]
    exact q H1 h2
def sp_number_now (C : Addr) : Sp := fun vs H Q _ => ∃ (p : Addr) (s : Tw) (R : List U), vs = [.ref p] ∧ Has H (twU C p s :: R) ∧ Q (.int s.number) H
theorem pure_number_now {K : PySem.W.Frag} {C : Addr} (hC : TwC K C) {vs : List V} {H : Hp} {Q : VK} {E : XK} (h : sp_number_now C vs H Q E) : t_Twice_number_now K ⟨fun _ H' => Q .non H', Q, fun _ _ => False, fun _ _ => False⟩ (start ["self"] vs) H := by
  obtain ⟨p, s, R, rfl, hh, q⟩ := h
  obtain ⟨cl, n1, n2, n3, n4⟩ := hC
  replace hh := tw_cut hh
  unfold t_Twice_number_now
  walk_at "go"
  exact q
end La
namespace La
open PySem L2 Sy
def t__law_odd (K : PySem.W.Frag) (sp__law_pick sp__law_draw : Sp) : TS :=
  tRet (tCall sp__law_pick [] E0 (tCons (tVar 0) (tCons (tLst (tCons (tVar 1) (tCons (tOp rSubI (tC (.int 0)) (tC (.int 1))) (tCons (tC (.bl true)) (tCons (tC .non) (tCons (tC (.str "0")) (tCons (tLst (tCons (tC (.int 0)) (tNil))) (tCons (tC (.bl false)) (tCons (tOp rAddI (tVar 1) (tCall sp__law_draw [] E0 (tCons (tVar 0) (tCons (tC (.int 9)) (tNil))))) (tNil)))))))))) (tNil))))
def tr_is_whole (K : PySem.W.Frag) (EE : XK) : TS :=
  tRet (tAndV (tCB (rIsi K) (tCons (tVar 0) (tCons (tC (.ty "int")) (tNil)))) (tAndV (tNotV (tCB (rIsi K) (tCons (tVar 0) (tCons (tC (.ty "bool")) (tNil))))) (tChain rLeI rLeI (tVar 1) (tVar 0) (tVar 2))))
def tr_Sides_look_hand (K : PySem.W.Frag) (C_NoHand : Addr) (sr_is_whole : Sp) (EE : XK) : TS :=
  tIfS (tNot (tB (tCall sr_is_whole [] EE (tCons (tVar 1) (tCons (tC (.int 0)) (tCons (tOp rSubI (tFld K (tVar 0) "hands") (tC (.int 1))) (tNil))))))) (tRaise EE C_NoHand) (tNext)
def tr_Sides_enter (K : PySem.W.Frag) (C_Sides C_IsIn : Addr) (sr_Sides__Sides_look_hand : Sp) (EE : XK) : TS :=
  tSeq (tDrop (tMeth C_Sides "look_hand" sr_Sides__Sides_look_hand [] EE (tVar 0) (tCons (tVar 1) (tNil))))
    (tSeq (tIfS (tB (tDIn (tVar 1) (tFld K (tVar 0) "where"))) (tRaise EE C_IsIn) (tNext))
    (tSeq (sDPut (tFld K (tVar 0) "where") (tVar 1) (tFld K (tVar 0) "open_side"))
    (tRet (tFld K (tVar 0) "open_side"))))
def tr_Sides_look_in (K : PySem.W.Frag) (C_Sides C_NotIn : Addr) (sr_Sides__Sides_look_hand : Sp) (EE : XK) : TS :=
  tSeq (tDrop (tMeth C_Sides "look_hand" sr_Sides__Sides_look_hand [] EE (tVar 0) (tCons (tVar 1) (tNil))))
    (tIfS (tB (tDNotIn (tVar 1) (tFld K (tVar 0) "where"))) (tRaise EE C_NotIn) (tNext))
def tr_Sides_leave (K : PySem.W.Frag) (C_Sides : Addr) (sr_Sides__Sides_look_in : Sp) (EE : XK) : TS :=
  tSeq (tDrop (tMeth C_Sides "look_in" sr_Sides__Sides_look_in [] EE (tVar 0) (tCons (tVar 1) (tNil))))
    (tDrop (tDPop1 (tFld K (tVar 0) "where") (tVar 1)))
def tr_Sides_read (K : PySem.W.Frag) (C_Sides C_NoCell : Addr) (sr_Sides__Sides_look_in sr_is_whole : Sp) (EE : XK) : TS :=
  tSeq (tDrop (tMeth C_Sides "look_in" sr_Sides__Sides_look_in [] EE (tVar 0) (tCons (tVar 1) (tNil))))
    (tSeq (tIfS (tNot (tB (tCall sr_is_whole [] EE (tCons (tVar 2) (tCons (tC (.int 0)) (tCons (tOp rSubI (tCB (rLenQ K) (tCons (tOp (rIxL K) (tFld K (tVar 0) "sides") (tC (.int 0))) (tNil))) (tC (.int 1))) (tNil))))))) (tRaise EE C_NoCell) (tNext))
    (tRet (tOp (rIxL K) (tOp (rIxL K) (tFld K (tVar 0) "sides") (tDGet (tFld K (tVar 0) "where") (tVar 1))) (tVar 2))))
def tr_Sides_look_pairs (K : PySem.W.Frag) (C_BadPairs : Addr) (sr_is_whole : Sp) (EE : XK) : TS :=
  tSeq (tAsg (tAndV (tCB (rIsi K) (tCons (tVar 1) (tCons (tC (.ty "list")) (tNil)))) (tOp (rNeD K) (tVar 1) (tLst (tNil)))) (gName 2))
    (tSeq (tIfS (tOr (tNot (tB (tVar 2))) (tNot (tB (tCB (rAll K) (tCons (tLc (iList K (tVar 1)) (gName 3) tYes (tAndV (tCB (rIsi K) (tCons (tVar 3) (tCons (tC (.ty "tuple")) (tNil)))) (tOp rEq (tCB (rLenQ K) (tCons (tVar 3) (tNil))) (tC (.int 2)))) [3]) (tNil)))))) (tRaise EE C_BadPairs) (tNext))
    (tSeq (tAsg (tOp rSubI (tCB (rLenQ K) (tCons (tOp (rIxL K) (tFld K (tVar 0) "sides") (tC (.int 0))) (tNil))) (tC (.int 1))) (gName 4))
    (tIfS (tNot (tB (tCB (rAll K) (tCons (tLc (iList K (tVar 1)) (gName 3) tYes (tAndV (tCall sr_is_whole [] E0 (tCons (tOp (rIxT K) (tVar 3) (tC (.int 0))) (tCons (tC (.int 0)) (tCons (tVar 4) (tNil))))) (tCall sr_is_whole [] E0 (tCons (tOp (rIxT K) (tVar 3) (tC (.int 1))) (tCons (tC (.int 0)) (tCons (tC (.int 999)) (tNil)))))) [3]) (tNil))))) (tRaise EE C_BadPairs) (tNext))))
def tr_Sides_begin (K : PySem.W.Frag) (C_Sides C_NotNow : Addr) (sr_Sides__Sides_look_pairs sp_Sides__Sides_put_all : Sp) (EE : XK) : TS :=
  tSeq (tDrop (tMeth C_Sides "look_pairs" sr_Sides__Sides_look_pairs [] EE (tVar 0) (tCons (tVar 1) (tNil))))
    (tSeq (tIfS (tTest (tOp rNe (tFld K (tVar 0) "far") (tC (.str "free")))) (tRaise EE C_NotNow) (tNext))
    (tSeq (sFld K (tVar 0) (tCB (rListOf K) (tCons (tVar 1) (tNil))) "under_way")
    (tSeq (tDrop (tMeth C_Sides "put_all" sp_Sides__Sides_put_all [] E0 (tVar 0) (tCons (tOp rSubI (tC (.int 1)) (tFld K (tVar 0) "open_side")) (tNil))))
    (sFld K (tVar 0) (tC (.str "written")) "far"))))
def tr_Sides_turn (K : PySem.W.Frag) (C_NotNow : Addr) (EE : XK) : TS :=
  tSeq (tIfS (tTest (tOp rNe (tFld K (tVar 0) "far") (tC (.str "written")))) (tRaise EE C_NotNow) (tNext))
    (tSeq (sFld K (tVar 0) (tOp rSubI (tC (.int 1)) (tFld K (tVar 0) "open_side")) "open_side")
    (sFld K (tVar 0) (tC (.str "turned")) "far"))
def tr_Sides_finish (K : PySem.W.Frag) (C_NotNow C_Sides : Addr) (sp_Sides__Sides_put_all : Sp) (EE : XK) : TS :=
  tSeq (tIfS (tTest (tOp rNe (tFld K (tVar 0) "far") (tC (.str "turned")))) (tRaise EE C_NotNow) (tNext))
    (tSeq (tIfS (tTest (tOp (rInD K) (tOp rSubI (tC (.int 1)) (tFld K (tVar 0) "open_side")) (tListVals (tFld K (tVar 0) "where")))) (tRet (tC (.bl false))) (tNext))
    (tSeq (tDrop (tMeth C_Sides "put_all" sp_Sides__Sides_put_all [] E0 (tVar 0) (tCons (tOp rSubI (tC (.int 1)) (tFld K (tVar 0) "open_side")) (tNil))))
    (tSeq (sFld K (tVar 0) (tC (.str "free")) "far")
    (tRet (tC (.bl true))))))
def tr_look_number (K : PySem.W.Frag) (C_BadNumber : Addr) (sr_is_whole : Sp) (EE : XK) : TS :=
  tIfS (tNot (tB (tCall sr_is_whole [] EE (tCons (tVar 0) (tCons (tVar 1) (tCons (tVar 2) (tNil))))))) (tRaise EE C_BadNumber) (tNext)
def tr_Sides_hands_on (K : PySem.W.Frag) (sr_look_number : Sp) (EE : XK) : TS :=
  tSeq (tDrop (tCall sr_look_number [] EE (tCons (tVar 1) (tCons (tC (.int 0)) (tCons (tC (.int 1)) (tNil))))))
    (tRet (tCB (rSortedI K) (tCons (tLockE (tLc (iKeys (tFld K (tVar 0) "where")) (gName 2) (tTest (tOp rEq (tDGet (tFld K (tVar 0) "where") (tVar 2)) (tVar 1))) (tVar 2) [2])) (tNil))))
def tr__law_did (K : PySem.W.Frag) (C_Sides : Addr) (sr_Sides__Sides_enter sr_Sides__Sides_leave sr_Sides__Sides_read sr_Sides__Sides_begin sr_Sides__Sides_turn sr_Sides__Sides_finish sr_Sides__Sides_hands_on : Sp) (EE : XK) : TS :=
  tSeq (tIfS (tTest (tOp rEq (tVar 1) (tC (.int 0)))) (tRet (tMeth C_Sides "enter" sr_Sides__Sides_enter [] EE (tVar 0) (tCons (tVar 2) (tNil)))) (tNext))
    (tSeq (tIfS (tTest (tOp rEq (tVar 1) (tC (.int 1)))) (tRet (tMeth C_Sides "leave" sr_Sides__Sides_leave [] EE (tVar 0) (tCons (tVar 2) (tNil)))) (tNext))
    (tSeq (tIfS (tTest (tOp rEq (tVar 1) (tC (.int 2)))) (tRet (tMeth C_Sides "read" sr_Sides__Sides_read [] EE (tVar 0) (tCons (tVar 2) (tCons (tVar 3) (tNil))))) (tNext))
    (tSeq (tIfS (tTest (tOp rEq (tVar 1) (tC (.int 3)))) (tRet (tMeth C_Sides "begin" sr_Sides__Sides_begin [] EE (tVar 0) (tCons (tVar 2) (tNil)))) (tNext))
    (tSeq (tIfS (tTest (tOp rEq (tVar 1) (tC (.int 4)))) (tRet (tMeth C_Sides "turn" sr_Sides__Sides_turn [] EE (tVar 0) tNil)) (tNext))
    (tRet (tIf (tTest (tOp rEq (tVar 1) (tC (.int 5)))) (tMeth C_Sides "finish" sr_Sides__Sides_finish [] EE (tVar 0) tNil) (tMeth C_Sides "hands_on" sr_Sides__Sides_hands_on [] EE (tVar 0) (tCons (tVar 2) (tNil)))))))))
def tr_Twice_look_hand (K : PySem.W.Frag) (C_NoHand : Addr) (sr_is_whole : Sp) (EE : XK) : TS :=
  tIfS (tNot (tB (tCall sr_is_whole [] EE (tCons (tVar 1) (tCons (tC (.int 0)) (tCons (tOp rSubI (tFld K (tVar 0) "hands") (tC (.int 1))) (tNil))))))) (tRaise EE C_NoHand) (tNext)
def tr_Twice_begin_read (K : PySem.W.Frag) (C_Twice : Addr) (sr_Twice__Twice_look_hand : Sp) (EE : XK) : TS :=
  tSeq (tDrop (tMeth C_Twice "look_hand" sr_Twice__Twice_look_hand [] EE (tVar 0) (tCons (tVar 1) (tNil))))
    (tSeq (sDPut (tFld K (tVar 0) "first") (tVar 1) (tFld K (tVar 0) "number"))
    (tRet (tFld K (tVar 0) "number")))
def tr_Twice_look_cell (K : PySem.W.Frag) (C_NoCell : Addr) (sr_is_whole : Sp) (EE : XK) : TS :=
  tIfS (tNot (tB (tCall sr_is_whole [] EE (tCons (tVar 1) (tCons (tC (.int 0)) (tCons (tOp rSubI (tCB (rLenQ K) (tCons (tFld K (tVar 0) "cells") (tNil))) (tC (.int 1))) (tNil))))))) (tRaise EE C_NoCell) (tNext)
def tr_Twice_take (K : PySem.W.Frag) (C_Twice C_NotIn : Addr) (sr_Twice__Twice_look_hand sr_Twice__Twice_look_cell : Sp) (EE : XK) : TS :=
  tSeq (tDrop (tMeth C_Twice "look_hand" sr_Twice__Twice_look_hand [] EE (tVar 0) (tCons (tVar 1) (tNil))))
    (tSeq (tIfS (tB (tDNotIn (tVar 1) (tFld K (tVar 0) "first"))) (tRaise EE C_NotIn) (tNext))
    (tSeq (tDrop (tMeth C_Twice "look_cell" sr_Twice__Twice_look_cell [] EE (tVar 0) (tCons (tVar 2) (tNil))))
    (tRet (tOp (rIxL K) (tFld K (tVar 0) "cells") (tVar 2)))))
def tr_Twice_sure (K : PySem.W.Frag) (C_Twice C_NotIn : Addr) (sr_Twice__Twice_look_hand : Sp) (EE : XK) : TS :=
  tSeq (tDrop (tMeth C_Twice "look_hand" sr_Twice__Twice_look_hand [] EE (tVar 0) (tCons (tVar 1) (tNil))))
    (tSeq (tIfS (tB (tDNotIn (tVar 1) (tFld K (tVar 0) "first"))) (tRaise EE C_NotIn) (tNext))
    (tSeq (tAsg (tDPop1 (tFld K (tVar 0) "first") (tVar 1)) (gName 2))
    (tRet (tAndV (tOp rEq (tOp rModI (tVar 2) (tC (.int 2))) (tC (.int 0))) (tOp rEq (tVar 2) (tFld K (tVar 0) "number"))))))
def tr_Twice_put (K : PySem.W.Frag) (C_Twice C_NotNow : Addr) (sr_Twice__Twice_look_cell sr_look_number : Sp) (EE : XK) : TS :=
  tSeq (tDrop (tMeth C_Twice "look_cell" sr_Twice__Twice_look_cell [] EE (tVar 0) (tCons (tVar 1) (tNil))))
    (tSeq (tDrop (tCall sr_look_number [] EE (tCons (tVar 2) (tCons (tC (.int 0)) (tCons (tC (.int 999)) (tNil))))))
    (tSeq (tIfS (tTest (tOp rEq (tOp rModI (tFld K (tVar 0) "number") (tC (.int 2))) (tC (.int 0)))) (tRaise EE C_NotNow) (tNext))
    (tAsg (tVar 2) (gSub (tFld K (tVar 0) "cells") (tVar 1) rSetL))))
def tr_Twice_begin_write (K : PySem.W.Frag) (C_NotNow : Addr) (EE : XK) : TS :=
  tSeq (tIfS (tTest (tOp rEq (tOp rModI (tFld K (tVar 0) "number") (tC (.int 2))) (tC (.int 1)))) (tRaise EE C_NotNow) (tNext))
    (sFld K (tVar 0) (tOp rAddI (tFld K (tVar 0) "number") (tC (.int 1))) "number")
def tr_Twice_end_write (K : PySem.W.Frag) (C_NotNow : Addr) (EE : XK) : TS :=
  tSeq (tIfS (tTest (tOp rEq (tOp rModI (tFld K (tVar 0) "number") (tC (.int 2))) (tC (.int 0)))) (tRaise EE C_NotNow) (tNext))
    (sFld K (tVar 0) (tOp rAddI (tFld K (tVar 0) "number") (tC (.int 1))) "number")
def tr__law_does (K : PySem.W.Frag) (C_Twice : Addr) (sr_Twice__Twice_begin_read sr_Twice__Twice_take sr_Twice__Twice_sure sr_Twice__Twice_put sr_Twice__Twice_begin_write sr_Twice__Twice_end_write : Sp) (EE : XK) : TS :=
  tSeq (tIfS (tTest (tOp rEq (tVar 1) (tC (.int 0)))) (tRet (tMeth C_Twice "begin_read" sr_Twice__Twice_begin_read [] EE (tVar 0) (tCons (tVar 2) (tNil)))) (tNext))
    (tSeq (tIfS (tTest (tOp rEq (tVar 1) (tC (.int 1)))) (tRet (tMeth C_Twice "take" sr_Twice__Twice_take [] EE (tVar 0) (tCons (tVar 2) (tCons (tVar 3) (tNil))))) (tNext))
    (tSeq (tIfS (tTest (tOp rEq (tVar 1) (tC (.int 2)))) (tRet (tMeth C_Twice "sure" sr_Twice__Twice_sure [] EE (tVar 0) (tCons (tVar 2) (tNil)))) (tNext))
    (tSeq (tIfS (tTest (tOp rEq (tVar 1) (tC (.int 3)))) (tRet (tMeth C_Twice "put" sr_Twice__Twice_put [] EE (tVar 0) (tCons (tVar 2) (tCons (tVar 3) (tNil))))) (tNext))
    (tRet (tIf (tTest (tOp rEq (tVar 1) (tC (.int 4)))) (tMeth C_Twice "begin_write" sr_Twice__Twice_begin_write [] EE (tVar 0) tNil) (tMeth C_Twice "end_write" sr_Twice__Twice_end_write [] EE (tVar 0) tNil))))))
def t__law_refusal (K : PySem.W.Frag) (C_NoCell C_NoHand C_BadNumber C_NotIn C_IsIn C_NoMark C_BadPairs C_Gone C_NotHeld C_NotNow C_StoreError : Addr) : TS :=
  tSeq (tAsg (tLst (tCons (tCB (rIsK K) (tCons (tVar 0) (tCons (tC (.ref C_BadNumber)) (tNil)))) (tCons (tCB (rIsK K) (tCons (tVar 0) (tCons (tC (.ref C_NoHand)) (tNil)))) (tCons (tCB (rIsK K) (tCons (tVar 0) (tCons (tC (.ref C_NoCell)) (tNil)))) (tNil))))) (gName 1))
    (tSeq (tAsg (tOp rCat (tVar 1) (tLst (tCons (tCB (rIsK K) (tCons (tVar 0) (tCons (tC (.ref C_NoMark)) (tNil)))) (tCons (tCB (rIsK K) (tCons (tVar 0) (tCons (tC (.ref C_IsIn)) (tNil)))) (tCons (tCB (rIsK K) (tCons (tVar 0) (tCons (tC (.ref C_NotIn)) (tNil)))) (tNil)))))) (gName 1))
    (tSeq (tAsg (tOp rCat (tVar 1) (tLst (tCons (tCB (rIsK K) (tCons (tVar 0) (tCons (tC (.ref C_NotHeld)) (tNil)))) (tCons (tCB (rIsK K) (tCons (tVar 0) (tCons (tC (.ref C_Gone)) (tNil)))) (tCons (tCB (rIsK K) (tCons (tVar 0) (tCons (tC (.ref C_BadPairs)) (tNil)))) (tNil)))))) (gName 1))
    (tSeq (tAsg (tOp rCat (tVar 1) (tLst (tCons (tCB (rIsK K) (tCons (tVar 0) (tCons (tC (.ref C_NotNow)) (tNil)))) (tNil)))) (gName 1))
    (tSeq (tIfS (tOr (tTest (tOp rNe (tBM K "list" (rCntV K) (tVar 1) (tCons (tC (.bl true)) (tNil))) (tC (.int 1)))) (tOr (tNot (tB (tCB (rIsK K) (tCons (tVar 0) (tCons (tC (.ref C_StoreError)) (tNil)))))) (tNot (tB (tCB (rIsK K) (tCons (tVar 0) (tCons (tC (.ty "ValueError")) (tNil)))))))) (tRet (tC (.str "odd"))) (tNext))
    (tSeq (tAsg (tLst (tCons (tC (.str "number")) (tCons (tC (.str "hand")) (tCons (tC (.str "cell")) (tCons (tC (.str "mark")) (tCons (tC (.str "in")) (tCons (tC (.str "not in")) (tCons (tC (.str "not held")) (tCons (tC (.str "gone")) (tCons (tC (.str "pairs")) (tCons (tC (.str "now")) (tNil)))))))))))) (gName 2))
    (tRet (tOp (rIxL K) (tVar 2) (tBM K "list" (rIndex K) (tVar 1) (tCons (tC (.bl true)) (tNil))))))))))
def t__law_asked (K : PySem.W.Frag) (C_StoreError C_Sides : Addr) (sr__law_did sr__law_does sp__law_refusal : Sp) : TS :=
  tSeq (tAsg (tC .non) (gName 4))
    (tSeq (tTryK K (.ref C_StoreError) 5 4 (fun W => tIfS (tB (tCB (rIsi K) (tCons (tVar 0) (tCons (tC (.ref C_Sides)) (tNil))))) (tDrop (tCallS sr__law_did (WE W) (tCons (tVar 0) (tCons (tVar 1) (tCons (tVar 2) (tCons (tVar 3) (tNil))))))) (tDrop (tCallS sr__law_does (WE W) (tCons (tVar 0) (tCons (tVar 1) (tCons (tVar 2) (tCons (tVar 3) (tNil)))))))))
    (tRet (tIf (tTest (tOp rIsNo (tVar 4) (tC .non))) (tC (.str "told")) (tCall sp__law_refusal [] E0 (tCons (tVar 4) (tNil))))))
def t_law_b0 (K : PySem.W.Frag) (C_Twice C_Sides : Addr) (sp__law_town sp_mk_Twice sp_mk_Sides sp__law_pick sp_Sides__Sides_enter sp__law_odd sp__law_asked sp_Twice__Twice_number_now sp_Twice__Twice_begin_read sp_Sides__Sides_finish sp_Sides__Sides_read : Sp) : TS :=
  tSeq (tAsg (tCall sp__law_odd [] E0 (tCons (tVar 1) (tCons (tC (.int 2)) (tNil)))) (gName 7))
    (tSeq (tFor (iRng1 (tCons (tC (.int 3)) (tNil))) (gName 8) (tIfS (tOr (tTest (tOp rNe (tCall sp__law_asked [] E0 (tCons (tVar 2) (tCons (tVar 8) (tCons (tCall sp__law_odd [] E0 (tCons (tVar 1) (tCons (tC (.int 3)) (tNil)))) (tCons (tVar 7) (tNil)))))) (tC (.str "hand")))) (tTest (tOp rNe (tCall sp__law_asked [] E0 (tCons (tVar 3) (tCons (tVar 8) (tCons (tC (.int 3)) (tCons (tVar 7) (tNil)))))) (tC (.str "hand"))))) (tRet (tC (.bl false))) (tNext)))
    (tSeq (tAsg (tLst (tCons (tCall sp__law_asked [] E0 (tCons (tVar 2) (tCons (tC (.int 0)) (tCons (tC (.int 1)) (tCons (tC (.int 0)) (tNil)))))) (tCons (tCall sp__law_asked [] E0 (tCons (tVar 2) (tCons (tC (.int 1)) (tCons (tC (.int 2)) (tCons (tC (.int 0)) (tNil)))))) (tCons (tCall sp__law_asked [] E0 (tCons (tVar 2) (tCons (tC (.int 2)) (tCons (tC (.int 2)) (tCons (tVar 7) (tNil)))))) (tNil))))) (gName 9))
    (tSeq (tIfS (tTest (tOp (rNeD K) (tVar 9) (tLst (tCons (tC (.str "in")) (tCons (tC (.str "not in")) (tCons (tC (.str "not in")) (tNil))))))) (tRet (tC (.bl false))) (tNext))
    (tSeq (tIfS (tOr (tTest (tOp rNe (tCall sp__law_asked [] E0 (tCons (tVar 2) (tCons (tC (.int 2)) (tCons (tC (.int 1)) (tCons (tVar 7) (tNil)))))) (tC (.str "cell")))) (tTest (tOp rNe (tCall sp__law_asked [] E0 (tCons (tVar 2) (tCons (tC (.int 6)) (tCons (tCall sp__law_odd [] E0 (tCons (tVar 1) (tCons (tC (.int 2)) (tNil)))) (tCons (tC (.int 0)) (tNil)))))) (tC (.str "number"))))) (tRet (tC (.bl false))) (tNext))
    (tSeq (tIfS (tOr (tTest (tOp rNe (tCall sp__law_asked [] E0 (tCons (tVar 2) (tCons (tC (.int 3)) (tCons (tVar 4) (tCons (tC (.int 0)) (tNil)))))) (tC (.str "pairs")))) (tAnd (tTest (tOp rGtI (tVar 6) (tC (.int 0)))) (tTest (tOp rNe (tCall sp__law_asked [] E0 (tCons (tVar 2) (tCons (tC (.int 3)) (tCons (tLst (tCons (tTup (tCons (tC (.int 0)) (tCons (tC (.int 1)) (tNil)))) (tNil))) (tCons (tC (.int 0)) (tNil)))))) (tC (.str "now")))))) (tRet (tC (.bl false))) (tNext))
    (tSeq (tIfS (tOr (tAnd (tTest (tOp rNe (tVar 6) (tC (.int 1)))) (tTest (tOp rNe (tCall sp__law_asked [] E0 (tCons (tVar 2) (tCons (tC (.int 4)) (tCons (tC (.int 0)) (tCons (tC (.int 0)) (tNil)))))) (tC (.str "now"))))) (tAnd (tTest (tOp rNe (tVar 6) (tC (.int 2)))) (tTest (tOp rNe (tCall sp__law_asked [] E0 (tCons (tVar 2) (tCons (tC (.int 5)) (tCons (tC (.int 0)) (tCons (tC (.int 0)) (tNil)))))) (tC (.str "now")))))) (tRet (tC (.bl false))) (tNext))
    (tSeq (tAsg (tLst (tCons (tCall sp__law_asked [] E0 (tCons (tVar 3) (tCons (tC (.int 1)) (tCons (tC (.int 2)) (tCons (tVar 7) (tNil)))))) (tCons (tCall sp__law_asked [] E0 (tCons (tVar 3) (tCons (tC (.int 2)) (tCons (tC (.int 2)) (tCons (tC (.int 0)) (tNil)))))) (tCons (tCall sp__law_asked [] E0 (tCons (tVar 3) (tCons (tC (.int 3)) (tCons (tVar 7) (tCons (tVar 5) (tNil)))))) (tNil))))) (gName 9))
    (tSeq (tIfS (tOr (tTest (tOp (rNeD K) (tVar 9) (tLst (tCons (tC (.str "not in")) (tCons (tC (.str "not in")) (tCons (tC (.str "cell")) (tNil))))))) (tTest (tOp rNe (tCall sp__law_asked [] E0 (tCons (tVar 3) (tCons (tC (.int 3)) (tCons (tC (.int 0)) (tCons (tVar 5) (tNil)))))) (tC (.str "number"))))) (tRet (tC (.bl false))) (tNext))
    (tSeq (tIfS (tAnd (tTest (tOp rNe (tVar 6) (tC (.int 1)))) (tTest (tOp (rNeD K) (tLst (tCons (tCall sp__law_asked [] E0 (tCons (tVar 3) (tCons (tC (.int 3)) (tCons (tC (.int 0)) (tCons (tC (.int 5)) (tNil)))))) (tCons (tCall sp__law_asked [] E0 (tCons (tVar 3) (tCons (tC (.int 5)) (tCons (tC (.int 0)) (tCons (tC (.int 0)) (tNil)))))) (tNil)))) (tLst (tCons (tC (.str "now")) (tCons (tC (.str "now")) (tNil))))))) (tRet (tC (.bl false))) (tNext))
    (tSeq (tIfS (tOr (tAnd (tTest (tOp rEq (tVar 6) (tC (.int 1)))) (tTest (tOp rNe (tCall sp__law_asked [] E0 (tCons (tVar 3) (tCons (tC (.int 4)) (tCons (tC (.int 0)) (tCons (tC (.int 0)) (tNil)))))) (tC (.str "now"))))) (tTest (tOp rNe (tMeth C_Twice "number_now" sp_Twice__Twice_number_now [] E0 (tVar 3) tNil) (tVar 6)))) (tRet (tC (.bl false))) (tNext))
    (tSeq (tAsg (tIf (tTest (tOp rEq (tVar 6) (tC (.int 0)))) (tC (.int 3)) (tC (.int 4))) (gName 8))
    (tSeq (tAsg (tLst (tCons (tCall sp__law_asked [] E0 (tCons (tVar 2) (tCons (tVar 8) (tCons (tLst (tCons (tTup (tCons (tC (.int 0)) (tCons (tC (.int 7)) (tNil)))) (tNil))) (tCons (tC (.int 0)) (tNil)))))) (tCons (tCall sp__law_asked [] E0 (tCons (tVar 3) (tCons (tOp rAddI (tVar 8) (tC (.int 1))) (tCons (tC (.int 0)) (tCons (tC (.int 0)) (tNil)))))) (tNil)))) (gName 9))
    (tIfS (tTest (tOp (rNeD K) (tVar 9) (tOp rRep (tLst (tCons (tIf (tTest (tOp rLtI (tVar 6) (tC (.int 2)))) (tC (.str "told")) (tC (.str "now"))) (tNil))) (tC (.int 2))))) (tRet (tC (.bl false))) (tNext))))))))))))))
def t_law (K : PySem.W.Frag) (C_Twice C_Sides : Addr) (sp__law_town sp_mk_Twice sp_mk_Sides sp__law_pick sp_Sides__Sides_enter sp__law_odd sp__law_asked sp_Twice__Twice_number_now sp_Twice__Twice_begin_read sp_Sides__Sides_finish sp_Sides__Sides_read : Sp) : TS :=
  tSeq (tAsg (tCall sp__law_town [] E0 (tCons (tVar 0) (tNil))) (gName 1))
    (tSeq (tPar 2 3 (tCons (tMake C_Sides sp_mk_Sides [] E0 (tCons (tC (.int 3)) (tCons (tC (.int 2)) (tNil)))) (tCons (tMake C_Twice sp_mk_Twice [] E0 (tCons (tC (.int 3)) (tCons (tC (.int 2)) (tNil)))) (tNil))))
    (tSeq (tAsg (tCall sp__law_pick [] E0 (tCons (tVar 1) (tCons (tLst (tCons (tLst (tNil)) (tCons (tLst (tCons (tTup (tCons (tC (.int 2)) (tCons (tC (.int 1)) (tNil)))) (tNil))) (tCons (tLst (tCons (tTup (tCons (tC (.int 0)) (tCons (tC (.int 1000)) (tNil)))) (tNil))) (tCons (tLst (tCons (tLst (tCons (tC (.int 0)) (tCons (tC (.int 1)) (tNil)))) (tNil))) (tCons (tLst (tCons (tTup (tCons (tC (.int 0)) (tNil))) (tNil))) (tCons (tC .non) (tCons (tTup (tCons (tTup (tCons (tC (.int 0)) (tCons (tC (.int 1)) (tNil)))) (tNil))) (tCons (tLst (tCons (tTup (tCons (tC (.int 0)) (tCons (tC (.bl true)) (tNil)))) (tNil))) (tCons (tC (.int 5)) (tCons (tDNewK) (tNil)))))))))))) (tNil)))) (gName 4))
    (tSeq (tAsg (tCall sp__law_pick [] E0 (tCons (tVar 1) (tCons (tLst (tCons (tC (.int 1000)) (tCons (tOp rSubI (tC (.int 0)) (tC (.int 1))) (tCons (tC (.bl true)) (tCons (tC .non) (tCons (tC (.str "5")) (tNil))))))) (tNil)))) (gName 5))
    (tSeq (tDrop (tMeth C_Sides "enter" sp_Sides__Sides_enter [] E0 (tVar 2) (tCons (tC (.int 1)) (tNil))))
    (tSeq (tFor (iRng1 (tCons (tC (.int 3)) (tNil))) (gName 6) (t_law_b0 K C_Twice C_Sides sp__law_town sp_mk_Twice sp_mk_Sides sp__law_pick sp_Sides__Sides_enter sp__law_odd sp__law_asked sp_Twice__Twice_number_now sp_Twice__Twice_begin_read sp_Sides__Sides_finish sp_Sides__Sides_read))
    (tSeq (tDrop (tMeth C_Twice "begin_read" sp_Twice__Twice_begin_read [] E0 (tVar 3) (tCons (tC (.int 2)) (tNil))))
    (tRet (tAndV (tOp rIsB (tMeth C_Sides "finish" sp_Sides__Sides_finish [] E0 (tVar 2) tNil) (tC (.bl false))) (tAndV (tOp rEq (tCall sp__law_asked [] E0 (tCons (tVar 3) (tCons (tC (.int 1)) (tCons (tC (.int 2)) (tCons (tVar 7) (tNil)))))) (tC (.str "cell"))) (tOp rEq (tMeth C_Sides "read" sp_Sides__Sides_read [] E0 (tVar 2) (tCons (tC (.int 1)) (tCons (tC (.int 0)) (tNil)))) (tC (.int 0))))))))))))
end La
namespace La
open PySem L2 Sy
/-! ### refusals: what is no number; the classes; what a refusal is called -/
inductive Odd (lo hi : Int) : V → U → Prop where
  | non : Odd lo hi .non []
  | str (s : Str) : Odd lo hi (.str s) []
  | bl (b : Bool) : Odd lo hi (.bl b) []
  | int (i : Int) (h : ¬ (lo ≤ i ∧ i ≤ hi)) : Odd lo hi (.int i) []
  | lst (a : Addr) (xs : List V) : Odd lo hi (.ref a) [(a, .lst xs)]
  | tup (a : Addr) (xs : List V) : Odd lo hi (.ref a) [(a, .tup xs)]
theorem kb_ni : kitB "NoneType" "int" = some false := by decide +kernel
theorem kb_si : kitB "str" "int" = some false := by decide +kernel
theorem kb_li : kitB "list" "int" = some false := by decide +kernel
theorem kb_ti : kitB "tuple" "int" = some false := by decide +kernel
def sr_is_whole : Sp := fun vs H Q _ => ∃ (v : V) (u : U) (lo hi : Int) (R : List U), vs = [v, .int lo, .int hi] ∧ Odd lo hi v u ∧ Has H (u :: R) ∧ Q (.bl false) H
theorem purer_is_whole {K : PySem.W.Frag} {vs : List V} {H : Hp} {Q : VK} {E : XK} (h : sr_is_whole vs H Q E) : tr_is_whole K E ⟨fun _ H' => Q .non H', Q, fun _ _ => False, fun _ _ => False⟩ (start ["thing", "low", "high"] vs) H := by
  obtain ⟨v, u, lo, hi, R, rfl, ho, hh, q⟩ := h
  unfold tr_is_whole
  cases ho with
  | non =>
    walk_at "go"
    refine k_isi .non kb_ni ?_
    walk_at "go"
    exact q
  | str s =>
    walk_at "go"
    refine k_isi (.str s) kb_si ?_
    walk_at "go"
    exact q
  | bl b =>
    walk_at "go"
    exact q
  | int i h =>
    walk_at "go"
    refine ifD (fun h1 => ?_) (fun h1 => ?_)
    · walk_at "go"
      rw [decide_eq_false (fun h2 => h ⟨h1, h2⟩)]
      exact q
    · exact q
  | lst a xs =>
    walk_at "go"
    refine k_isi (.lst hh.g0) kb_li ?_
    walk_at "go"
    exact q
  | tup a xs =>
    walk_at "go"
    refine k_isi (.tup hh.g0) kb_ti ?_
    walk_at "go"
    exact q
structure Exs where
  bn : Addr
  nh : Addr
  nc : Addr
  nm : Addr
  ii : Addr
  ni : Addr
  nt : Addr
  go : Addr
  bp : Addr
  nn : Addr
  se : Addr
def Exs.of (X : Exs) : Nat → Addr
  | 0 => X.bn | 1 => X.nh | 2 => X.nc | 3 => X.nm | 4 => X.ii | 5 => X.ni | 6 => X.nt | 7 => X.go | 8 => X.bp | _ => X.nn
def word : Nat → Str
  | 0 => "number" | 1 => "hand" | 2 => "cell" | 3 => "mark" | 4 => "in" | 5 => "not in" | 6 => "not held" | 7 => "gone" | 8 => "pairs" | _ => "now"
/-- what the classes say of one of them -/
structure RefK (K : PySem.W.Frag) (X : Exs) (i : Nat) : Prop where
  lt : i < 10
  ec : ExcC K (X.of i)
  k0 : PySem.W.kitOne K (.ref (X.of i)) (.ref X.bn) = some (decide (i = 0))
  k1 : PySem.W.kitOne K (.ref (X.of i)) (.ref X.nh) = some (decide (i = 1))
  k2 : PySem.W.kitOne K (.ref (X.of i)) (.ref X.nc) = some (decide (i = 2))
  k3 : PySem.W.kitOne K (.ref (X.of i)) (.ref X.nm) = some (decide (i = 3))
  k4 : PySem.W.kitOne K (.ref (X.of i)) (.ref X.ii) = some (decide (i = 4))
  k5 : PySem.W.kitOne K (.ref (X.of i)) (.ref X.ni) = some (decide (i = 5))
  k6 : PySem.W.kitOne K (.ref (X.of i)) (.ref X.nt) = some (decide (i = 6))
  k7 : PySem.W.kitOne K (.ref (X.of i)) (.ref X.go) = some (decide (i = 7))
  k8 : PySem.W.kitOne K (.ref (X.of i)) (.ref X.bp) = some (decide (i = 8))
  k9 : PySem.W.kitOne K (.ref (X.of i)) (.ref X.nn) = some (decide (i = 9))
  ks : PySem.W.kitOne K (.ref (X.of i)) (.ref X.se) = some true
  kv : PySem.W.kitOne K (.ref (X.of i)) (.type "ValueError") = some true
  em : PySem.W.exmOne K (.ref (X.of i)) (.ref X.se) = some true
theorem k_index {K : PySem.W.Frag} {H : Hp} {Q : VK} {a : Addr} {ys : List V} {y z : V} (hp : H a = some (.lst ys)) (j : Nat) (f1 : flatV y = true) (f2 : ys.all flatV = true) (hz : ys[j]? = some z) (he : eqV z y = true) (hn : (ys.take j).all (fun z => !eqV z y) = true) (q : Q (.int (j : Nat)) H) : rIndex K (.ref a) [y] H Q := by
  refine ⟨a, ys, y, j, z, rfl, rfl, SqL.of hp, f1, f2, hz, he, fun m z' hm hz' => ?_, q⟩
  have h1 : z' ∈ ys.take j := List.mem_of_getElem? (i := m) (by rw [List.getElem?_take, if_pos hm]; exact hz')
  have h2 := List.all_eq_true.mp hn z' h1
  simpa using h2
def sp__law_refusal (X : Exs) (ok : List Nat) : Sp := fun vs H Q _ => ∃ (a : Addr) (i : Nat) (R : List U), i ∈ ok ∧ vs = [.ref a] ∧ Has H ([(a, ExK (.ref (X.of i)) none a)] :: R) ∧ ∀ H', Has H' ([(a, ExK (.ref (X.of i)) none a)] :: R) → Q (.str (word i)) H'
theorem pure__law_refusal {K : PySem.W.Frag} {X : Exs} {ok : List Nat} (hk : ∀ i ∈ ok, RefK K X i) {vs : List V} {H : Hp} {Q : VK} {E : XK} (h : sp__law_refusal X ok vs H Q E) :
    t__law_refusal (C_NoCell := X.nc) (C_NoHand := X.nh) (C_BadNumber := X.bn) (C_NotIn := X.ni) (C_IsIn := X.ii) (C_NoMark := X.nm) (C_BadPairs := X.bp) (C_Gone := X.go) (C_NotHeld := X.nt) (C_NotNow := X.nn) (C_StoreError := X.se) K ⟨fun _ H' => Q .non H', Q, fun _ _ => False, fun _ _ => False⟩ (start ["caught", "kinds", "words"] vs) H := by
  obtain ⟨a, i, R, hi, rfl, hh, q⟩ := h
  obtain ⟨lt, ec, k0, k1, k2, k3, k4, k5, k6, k7, k8, k9, ks, kv, em⟩ := hk i hi
  generalize hD : X.of i = D at *
  unfold t__law_refusal
  walk_at "go"
  rename_i p1 H1 h1 p2 H2 h2 p3 H3 h3 p4 H4 h4 p5 H5 h5 p6 H6 h6 p7 H7 h7
  clear hh h1 h2 h3 h4 h5 h6
  refine k_cntV (by walk_at "hp") rfl rfl ?_
  have hc : ((([V.bl (decide (i = 0)), V.bl (decide (i = 1)), V.bl (decide (i = 2))] ++ [V.bl (decide (i = 3)), V.bl (decide (i = 4)), V.bl (decide (i = 5))] ++ [V.bl (decide (i = 6)), V.bl (decide (i = 7)), V.bl (decide (i = 8))] ++ [V.bl (decide (i = 9))]).countP fun z => eqV z (.bl true) : Nat) : Int) = 1 := by
    have : i = 0 ∨ i = 1 ∨ i = 2 ∨ i = 3 ∨ i = 4 ∨ i = 5 ∨ i = 6 ∨ i = 7 ∨ i = 8 ∨ i = 9 := by omega
    rcases this with h | h | h | h | h | h | h | h | h | h <;> subst h <;> rfl
  walk_at "go"
  refine ifN (by rw [hc]; rfl) ?_
  walk_at "go"
  rename_i p8 H8 h8
  have h9 := h8.sub (show Sub ([(a, ExK (.ref D) none a)] :: R) _ by walk_at "sub")
  have : i = 0 ∨ i = 1 ∨ i = 2 ∨ i = 3 ∨ i = 4 ∨ i = 5 ∨ i = 6 ∨ i = 7 ∨ i = 8 ∨ i = 9 := by omega
  rcases this with h | h | h | h | h | h | h | h | h | h
  all_goals subst h
  · refine k_index (by walk_at "hp") 0 rfl rfl rfl rfl rfl (k_ixL (by walk_at "hp") rfl (q H8 h9))
  · refine k_index (by walk_at "hp") 1 rfl rfl rfl rfl rfl (k_ixL (by walk_at "hp") rfl (q H8 h9))
  · refine k_index (by walk_at "hp") 2 rfl rfl rfl rfl rfl (k_ixL (by walk_at "hp") rfl (q H8 h9))
  · refine k_index (by walk_at "hp") 3 rfl rfl rfl rfl rfl (k_ixL (by walk_at "hp") rfl (q H8 h9))
  · refine k_index (by walk_at "hp") 4 rfl rfl rfl rfl rfl (k_ixL (by walk_at "hp") rfl (q H8 h9))
  · refine k_index (by walk_at "hp") 5 rfl rfl rfl rfl rfl (k_ixL (by walk_at "hp") rfl (q H8 h9))
  · refine k_index (by walk_at "hp") 6 rfl rfl rfl rfl rfl (k_ixL (by walk_at "hp") rfl (q H8 h9))
  · refine k_index (by walk_at "hp") 7 rfl rfl rfl rfl rfl (k_ixL (by walk_at "hp") rfl (q H8 h9))
  · refine k_index (by walk_at "hp") 8 rfl rfl rfl rfl rfl (k_ixL (by walk_at "hp") rfl (q H8 h9))
  · refine k_index (by walk_at "hp") 9 rfl rfl rfl rfl rfl (k_ixL (by walk_at "hp") rfl (q H8 h9))
def sp__law_odd : Sp := fun vs H Q _ => ∃ (t : Addr) (ts : Town) (n : Int) (R : List U), vs = [.ref t, .int n] ∧ 0 ≤ n ∧ Has H (townU t ts :: R) ∧ ts.ok ∧ ∀ (v : V) (u : U) (ts' : Town) H', Odd 0 (n - 1) v u → ts'.ok → Has H' (u :: townU t ts' :: R) → Q v H'
theorem pure__law_odd {K : PySem.W.Frag} {vs : List V} {H : Hp} {Q : VK} {E : XK} (h : sp__law_odd vs H Q E) : t__law_odd K sp__law_pick sp__law_draw ⟨fun _ H' => Q .non H', Q, fun _ _ => False, fun _ _ => False⟩ (start ["town", "most"] vs) H := by
  obtain ⟨t, ts, n, R, rfl, n0, hh, tok, q⟩ := h
  unfold t__law_odd
  walk_at "go"
  rename_i l1 H1 h1
  refine use_draw (h1.sub (show Sub (townU t ts :: _) _ by walk_at "sub")) Sub.rf tok (by omega) (by omega) fun d ts2 H2 d0 d1 tok2 h2 => ?_
  clear hh h1
  walk_at "go"
  rename_i l3 H3 h3
  refine ⟨t, l3, ts2, _, _, rfl, h3.sub (show Sub (townU t ts2 :: [(l3, _)] :: _) _ by walk_at "sub"), by show 0 < 8; decide, by show 8 ≤ 1000; decide, tok2, fun k v ts4 H4 hk tok4 h4 => ?_⟩
  have h5 := Has.nilU.mpr h4
  match k, hk with
  | 0, hk => rw [← Option.some.inj hk]; exact q _ [] ts4 H4 (.int n (by omega)) tok4 (h5.sub (show Sub ([] :: townU t ts4 :: R) _ by walk_at "sub"))
  | 1, hk => rw [← Option.some.inj hk]; exact q _ [] ts4 H4 (.int _ (by omega)) tok4 (h5.sub (show Sub ([] :: townU t ts4 :: R) _ by walk_at "sub"))
  | 2, hk => rw [← Option.some.inj hk]; exact q _ [] ts4 H4 (.bl true) tok4 (h5.sub (show Sub ([] :: townU t ts4 :: R) _ by walk_at "sub"))
  | 3, hk => rw [← Option.some.inj hk]; exact q _ [] ts4 H4 .non tok4 (h5.sub (show Sub ([] :: townU t ts4 :: R) _ by walk_at "sub"))
  | 4, hk => rw [← Option.some.inj hk]; exact q _ [] ts4 H4 (.str _) tok4 (h5.sub (show Sub ([] :: townU t ts4 :: R) _ by walk_at "sub"))
  | 5, hk => rw [← Option.some.inj hk]; exact q _ _ ts4 H4 (.lst l1 _) tok4 (h5.sub (show Sub ([(l1, _)] :: townU t ts4 :: R) _ by walk_at "sub"))
  | 6, hk => rw [← Option.some.inj hk]; exact q _ [] ts4 H4 (.bl false) tok4 (h5.sub (show Sub ([] :: townU t ts4 :: R) _ by walk_at "sub"))
  | 7, hk => rw [← Option.some.inj hk]; exact q _ [] ts4 H4 (.int _ (by omega)) tok4 (h5.sub (show Sub ([] :: townU t ts4 :: R) _ by walk_at "sub"))
def sr_look_number (CB : Addr) : Sp := fun vs H _ E => ∃ (v : V) (u : U) (lo hi : Int) (R : List U), vs = [v, .int lo, .int hi] ∧ Odd lo hi v u ∧ Has H (u :: R) ∧ E (.ref CB) none H
theorem purer_look_number {K : PySem.W.Frag} {CB : Addr} {vs : List V} {H : Hp} {Q : VK} {E : XK} (h : sr_look_number CB vs H Q E) : tr_look_number K CB (spOr sp_is_whole sr_is_whole) E ⟨fun _ H' => Q .non H', Q, fun _ _ => False, fun _ _ => False⟩ (start ["thing", "low", "high"] vs) H := by
  obtain ⟨v, u, lo, hi, R, rfl, ho, hh, q⟩ := h
  unfold tr_look_number
  walk_at "go"
  refine .inr ⟨v, u, lo, hi, R, rfl, ho, hh, ?_⟩
  walk_at "go"
  exact q
/-! ### lists of words, comprehensions that draw -/
theorem dpWords {K : PySem.W.Frag} {H : Hp} (w : Str) : ∀ n : Nat, DpAll K H (List.replicate n (V.str w)) (List.replicate n (PyData.str w))
  | 0 => .nil
  | n + 1 => .cons (.str w) (dpWords w n)
theorem layWords {w : Str} (ok : PyData.strOk w = true) (n : Nat) : PyData.canLayAll0 (List.replicate n (PyData.str w)) = true := by
  induction n with
  | zero => simp [PyData.canLayAll0]
  | succ n ih => rw [List.replicate_succ]; simp [PyData.canLayAll0, PyData.canLay0, ih, ok]
theorem deepWords (w : Str) (n : Nat) : PyData.depthAll (List.replicate n (PyData.str w)) ≤ 1 := by
  induction n with
  | zero => simp [PyData.depthAll]
  | succ n ih => rw [List.replicate_succ]; simp only [PyData.depthAll, PyData.depth]; omega
theorem neWords {K : PySem.W.Frag} {H : Hp} {Q : VK} {a b : Addr} {w : Str} {xs ys : List V} (n : Nat) (ok : PyData.strOk w = true) (ha : H a = some (.lst xs)) (hb : H b = some (.lst ys)) (ex : xs = List.replicate n (.str w)) (ey : ys = List.replicate n (.str w)) (q : Q (.bl false) H) : rNeD K (.ref a) (.ref b) H Q := by
  subst ex ey
  refine k_neSame (dd := .list (List.replicate n (.str w))) (.lst (SqL.of ha) (dpWords w n)) (.lst (SqL.of hb) (dpWords w n)) ?_ q
  have h := deepWords w n
  simp only [SeqAt.shaped, PyData.canLay0, layWords ok, PyData.depth, Bool.true_and]
  exact decide_eq_true (by omega)
theorem ifY {b : Bool} {A B : Prop} (h : b = true) (a : A) : if b = true then A else B := by rw [if_pos h]; exact a
section
variable {K : PySem.W.Frag} {σ : St} {H : Hp} {L : List U} {Q : VK} {te : TE} {tt : TT} {t : Addr} {ts : Town}
theorem x_lcR2 {g : TG} {tr : TA} {vs : List Nat} (q : tr σ H fun us H1 => ∃ i j : Int, us = [.int i, .int j] ∧ (-(2 ^ 62) ≤ i ∧ i < 2 ^ 62 ∧ -(2 ^ 62) ≤ j ∧ j < 2 ^ 62) ∧ kLc g tt te vs σ (Itr i (j - i).toNat) H1 Q) : tLc (iRng2 tr) g tt te vs σ H Q := q
/-- [w for k in range(lo, lo + n)], each item asked with draws -/
theorem lcW {k : Nat} {lo : Int} {n : Nat} (w : Str) (hn : n ≤ 1000) (hh : Has H (townU t ts :: L)) (tok : ts.ok)
    (hs : ∀ z : Int, lo ≤ z → z < lo + n → ∀ D M ts' H' (Q' : VK), ts'.ok → Has H' ([(D, .lst M)] :: townU t ts' :: L) → (∀ ts'' H'', ts''.ok → Has H'' ([(D, .lst M)] :: townU t ts'' :: L) → Q' (.str w) H'') → te ((wipe σ [k]).set k (some (.int z))) H' Q')
    (q : ∀ D ts' H', ts'.ok → Has H' ([(D, .lst (List.replicate n (.str w)))] :: townU t ts' :: L) → Q (.ref D) H') : kLc (gName k) tYes te [k] σ (Itr lo n) H Q := by
  intro D hD
  have hw : ∀ x, wipe ((wipe σ [k]).set k (some x)) [k] = wipe σ [k] := fun x => by
    show ((σ.set k none).set k (some x)).set k none = σ.set k none
    rw [List.set_set, List.set_set]
  refine lc_range (lo := lo) (fun i H' => ∃ ts' : Town, ts'.ok ∧ Has H' ([(D, .lst (List.replicate i (.str w)))] :: townU t ts' :: L)) ⟨ts, tok, hh.nw hD⟩ (fun i H' hi hP => ?_) (fun H' ⟨ts', tok', h'⟩ => q D ts' H' tok' h')
  obtain ⟨ts', tok', h'⟩ := hP
  refine x_gname ⟨hw _, x_yes (ifT (hs _ (by omega) (by omega) D _ ts' H' _ tok' h' fun ts'' H'' tok'' h'' => ?_))⟩
  refine ⟨_, h''.g0, by rw [List.length_replicate, sizeLine_eq]; omega, ts'', tok'', ?_⟩
  rw [List.replicate_succ']
  exact h''.s0
/-- [k for k in range(lo, lo + n) if c k] -/
theorem lcF2 {k : Nat} {lo : Int} {n : Nat} (c : Int → Bool) (hn : n ≤ 1000) (hh : Has H L)
    (ht : ∀ z : Int, lo ≤ z → z < lo + n → ∀ D M H' (Q' : Bool → Hp → Prop), Has H' ([(D, .lst M)] :: L) → (∀ H'', Has H'' ([(D, .lst M)] :: L) → Q' (c z) H'') → tt ((wipe σ [k]).set k (some (.int z))) H' Q')
    (hs : ∀ z : Int, lo ≤ z → z < lo + n → ∀ D M H' (Q' : VK), Has H' ([(D, .lst M)] :: L) → (∀ H'', Has H'' ([(D, .lst M)] :: L) → Q' (.int z) H'') → te ((wipe σ [k]).set k (some (.int z))) H' Q')
    (q : ∀ D (ws : List Int) H', (∀ z, z ∈ ws → lo ≤ z ∧ z < lo + n ∧ c z = true) → ws.length ≤ n → Has H' ([(D, .lst (ws.map V.int))] :: L) → Q (.ref D) H') : kLc (gName k) tt te [k] σ (Itr lo n) H Q := by
  intro D hD
  have hw : ∀ x, wipe ((wipe σ [k]).set k (some x)) [k] = wipe σ [k] := fun x => by
    show ((σ.set k none).set k (some x)).set k none = σ.set k none
    rw [List.set_set, List.set_set]
  refine lc_range (lo := lo) (fun i H' => ∃ ws : List Int, (∀ z, z ∈ ws → lo ≤ z ∧ z < lo + n ∧ c z = true) ∧ ws.length ≤ i ∧ Has H' ([(D, .lst (ws.map V.int))] :: L)) ⟨[], fun z hz => absurd hz List.not_mem_nil, Nat.le_refl _, hh.nw hD⟩ (fun i H' hi hP => ?_) (fun H' ⟨ws, h1, h2, h'⟩ => q D ws H' h1 h2 h')
  obtain ⟨ws, h1, h2, h'⟩ := hP
  refine x_gname ⟨hw _, ht _ (by omega) (by omega) D _ H' _ h' fun H2 h3 => ?_⟩
  cases hc : c (lo + i) with
  | false => exact ifF ⟨ws, h1, by omega, h3⟩
  | true =>
    refine ifT (hs _ (by omega) (by omega) D _ H2 _ h3 fun H4 h4 => ?_)
    refine ⟨_, h4.g0, by rw [List.length_map, sizeLine_eq]; omega, ws ++ [lo + i], fun z hz => ?_, by rw [List.length_append]; show ws.length + 1 ≤ _; omega, ?_⟩
    · rcases List.mem_append.mp hz with h | h
      · exact h1 z h
      · rw [List.mem_singleton.mp h]; exact ⟨by omega, by omega, hc⟩
    · rw [List.map_append]
      exact h4.s0
end
/-! ### pairs that are none -/
theorem kb_nl : kitB "NoneType" "list" = some false := by decide +kernel
theorem kb_sl : kitB "str" "list" = some false := by decide +kernel
theorem kb_il : kitB "int" "list" = some false := by decide +kernel
theorem kb_tl : kitB "tuple" "list" = some false := by decide +kernel
theorem kb_dl : kitB "dict" "list" = some false := by decide +kernel
theorem kb_it : kitB "int" "tuple" = some false := by decide +kernel
theorem kb_nt : kitB "NoneType" "tuple" = some false := by decide +kernel
theorem kb_lt : kitB "list" "tuple" = some false := by decide +kernel
/-- what is no tuple of two -/
inductive NoPair : V → U → Prop where
  | int (i : Int) : NoPair (.int i) []
  | l2 (a : Addr) (i j : Int) : NoPair (.ref a) [(a, .lst [.int i, .int j])]
  | t1 (a : Addr) (i : Int) : NoPair (.ref a) [(a, .tup [.int i])]
  | t3 (a : Addr) (i j k : Int) : NoPair (.ref a) [(a, .tup [.int i, .int j, .int k])]
inductive OddF (lo hi : Int) : V → Prop where
  | int (i : Int) (h : ¬ (lo ≤ i ∧ i ≤ hi)) : OddF lo hi (.int i)
  | bl (b : Bool) : OddF lo hi (.bl b)
  | str (s : Str) (ok : PyData.strOk s = true) : OddF lo hi (.str s)
theorem OddF.odd {lo hi : Int} {v : V} (h : OddF lo hi v) : Odd lo hi v [] := by
  cases h with
  | int i h => exact .int i h
  | bl b => exact .bl b
  | str s ok => exact .str s
/-- no pairs for n cells; cells that do not rise among them, if rs -/
inductive BadP (rs : Bool) (n : Nat) : V → U → Prop where
  | non : BadP rs n .non []
  | str (s : Str) : BadP rs n (.str s) []
  | int (i : Int) : BadP rs n (.int i) []
  | tup (a : Addr) (xs : List V) : BadP rs n (.ref a) [(a, .tup xs)]
  | dct (a : Addr) : BadP rs n (.ref a) [(a, dI [])]
  | nil (a : Addr) : BadP rs n (.ref a) [(a, .lst [])]
  | sh1 (a : Addr) (x : V) (u : U) (h : NoPair x u) : BadP rs n (.ref a) ((a, .lst [x]) :: u)
  | sh2 (a b : Addr) (i j : Int) : BadP rs n (.ref a) [(a, .lst [.ref b, .non]), (b, .tup [.int i, .int j])]
  | key (a b : Addr) (x : V) (j : Int) (h : OddF 0 (n - 1) x) : BadP rs n (.ref a) [(a, .lst [.ref b]), (b, .tup [x, .int j])]
  | val (a b : Addr) (i : Int) (y : V) (i0 : 0 ≤ i) (i1 : i < n) (h : OddF 0 999 y) : BadP rs n (.ref a) [(a, .lst [.ref b]), (b, .tup [.int i, y])]
  | two (a b c : Addr) (i j v w : Int) (hr : rs = true) (i0 : 0 ≤ i) (i1 : i < n) (j0 : 0 ≤ j) (j1 : j < n) (hv : 0 ≤ v ∧ v ≤ 999) (hw : 0 ≤ w ∧ w ≤ 999) (h : ¬ i < j) : BadP rs n (.ref a) [(a, .lst [.ref b, .ref c]), (c, .tup [.int j, .int w]), (b, .tup [.int i, .int v])]
theorem NoPair.dp {K : PySem.W.Frag} {H : Hp} {v : V} {u : U} {R : List U} (h : NoPair v u) (hh : Has H (u :: R)) : ∃ d, Dp K H v d ∧ SeqAt.shaped (.list [d]) = true := by
  cases h with
  | int i => exact ⟨_, .int i, by simp [SeqAt.shaped, PyData.canLay0, PyData.canLayAll0, PyData.depth, PyData.depthAll]⟩
  | l2 a i j => exact ⟨_, .lst (SqL.of hh.g0) (.cons (.int i) (.cons (.int j) .nil)), by simp [SeqAt.shaped, PyData.canLay0, PyData.canLayAll0, PyData.depth, PyData.depthAll]⟩
  | t1 a i => exact ⟨_, .tup (SqT.of hh.g0) (.cons (.int i) .nil), by simp [SeqAt.shaped, PyData.canLay0, PyData.canLayAll0, PyData.depth, PyData.depthAll]⟩
  | t3 a i j k => exact ⟨_, .tup (SqT.of hh.g0) (.cons (.int i) (.cons (.int j) (.cons (.int k) .nil))), by simp [SeqAt.shaped, PyData.canLay0, PyData.canLayAll0, PyData.depth, PyData.depthAll]⟩
theorem OddF.dp {K : PySem.W.Frag} {H : Hp} {lo hi : Int} {v : V} (h : OddF lo hi v) : ∃ d, Dp K H v d ∧ ∀ i : Int, SeqAt.shaped (.list [.tuple [d, .int i]]) = true ∧ SeqAt.shaped (.list [.tuple [.int i, d]]) = true := by
  cases h with
  | int i h => exact ⟨_, .int i, by simp [SeqAt.shaped, PyData.canLay0, PyData.canLayAll0, PyData.depth, PyData.depthAll]⟩
  | bl b => exact ⟨_, .bl b, by simp [SeqAt.shaped, PyData.canLay0, PyData.canLayAll0, PyData.depth, PyData.depthAll]⟩
  | str s ok => exact ⟨_, .str s, by simp [SeqAt.shaped, PyData.canLay0, PyData.canLayAll0, PyData.depth, PyData.depthAll, ok]⟩
theorem k_neNil {K : PySem.W.Frag} {H : Hp} {Q : VK} {a b : Addr} {xs : List V} {d : PyData} {ds : List PyData} (ha : H a = some (.lst xs)) (hb : H b = some (.lst [])) (hd : DpAll K H xs (d :: ds)) (hs : SeqAt.shaped (.list (d :: ds)) = true) (q : Q (.bl true) H) : rNeD K (.ref a) (.ref b) H Q := by
  refine ⟨_, .list [], .lst (SqL.of ha) hd, .lst (SqL.of hb) .nil, hs, by decide +kernel, ?_⟩
  have e : PyData.eqv (.list (d :: ds)) (.list []) = false := by simp [PyData.eqv, PyData.eqvAll]
  rw [e]
  exact q
theorem Has.flatEq {H : Hp} {L M : List U} (h : Has H L) (e : L.flatten = M.flatten) : Has H M := ⟨by rw [← e]; exact h.nd, fun q hq => h.at' q (by rw [e]; exact hq)⟩
end La
namespace La
open PySem L2 Sy
local macro_rules | `(tactic| walk_at "fl") => `(tactic| first | assumption | exact tw_hands | exact tw_cells | exact tw_number | exact tw_first | kernel_rfl)
local macro_rules | `(tactic| walk_at "put") => `(tactic| first | exact tw_put_hands | exact tw_put_cells | exact tw_put_number | exact tw_put_first | exact tw_p1 | exact tw_p2 | exact tw_p3 | exact tw_p4)
local macro_rules | `(tactic| walk_at "fsl") => `(tactic| first | assumption | exact tw_len | (show 0 < 1000; decide) | (show 1 < 1000; decide) | (show 2 < 1000; decide) | (show 3 < 1000; decide))
/-! ### refusals of a number looked at twice -/
section
variable {K : PySem.W.Frag} {C : Addr} {X : Exs} {vs : List V} {H : Hp} {Q : VK} {E : XK}
def srT0 (C : Addr) (X : Exs) (Rf : Tw → Nat → Prop) : Sp := fun vs H _ E => ∃ (p : Addr) (s : Tw) (i : Nat) (R : List U), vs = [.ref p] ∧ Rf s i ∧ Has H (twU C p s :: R) ∧ ∀ H', Has H' (twU C p s :: R) → E (.ref (X.of i)) none H'
def srT (C : Addr) (X : Exs) (Rf : Tw → V → U → Nat → Prop) : Sp := fun vs H _ E => ∃ (p : Addr) (s : Tw) (v : V) (u : U) (i : Nat) (R : List U), vs = [.ref p, v] ∧ Rf s v u i ∧ Has H (twU C p s :: u :: R) ∧ ∀ H', Has H' (twU C p s :: u :: R) → E (.ref (X.of i)) none H'
def srT2 (C : Addr) (X : Exs) (Rf : Tw → V → U → V → U → Nat → Prop) : Sp := fun vs H _ E => ∃ (p : Addr) (s : Tw) (v v2 : V) (u u2 : U) (i : Nat) (R : List U), vs = [.ref p, v, v2] ∧ Rf s v u v2 u2 i ∧ Has H (twU C p s :: u :: u2 :: R) ∧ ∀ H', Has H' (twU C p s :: u :: u2 :: R) → E (.ref (X.of i)) none H'
inductive WHand (s : Tw) : V → U → Nat → Prop where
  | hand {v : V} {u : U} : Odd 0 (s.hands - 1) v u → WHand s v u 1
inductive WCell (s : Tw) : V → U → Nat → Prop where
  | cell {v : V} {u : U} : Odd 0 (s.cells.length - 1) v u → WCell s v u 2
inductive WSure (s : Tw) : V → U → Nat → Prop where
  | hand {v : V} {u : U} : Odd 0 (s.hands - 1) v u → WSure s v u 1
  | out {k : Int} : 0 ≤ k → k < s.hands → fd s.first k = none → WSure s (.int k) [] 5
inductive WTake (s : Tw) : V → U → V → U → Nat → Prop where
  | lk {v v2 : V} {u u2 : U} {i : Nat} : WSure s v u i → WTake s v u v2 u2 i
  | cell {k : Int} {v2 : V} {u2 : U} : 0 ≤ k → k < s.hands → (fd s.first k).isSome = true → Odd 0 (s.cells.length - 1) v2 u2 → WTake s (.int k) [] v2 u2 2
inductive WPut (s : Tw) : V → U → V → U → Nat → Prop where
  | cell {v v2 : V} {u u2 : U} : Odd 0 (s.cells.length - 1) v u → WPut s v u v2 u2 2
  | val {c : Int} {v2 : V} {u2 : U} : 0 ≤ c → c < s.cells.length → Odd 0 999 v2 u2 → WPut s (.int c) [] v2 u2 0
  | now {c x : Int} : 0 ≤ c → c < s.cells.length → 0 ≤ x → x ≤ 999 → s.number % 2 = 0 → WPut s (.int c) [] (.int x) [] 9
inductive WBeg (s : Tw) : Nat → Prop where
  | now : s.number % 2 = 1 → WBeg s 9
inductive WEnd (s : Tw) : Nat → Prop where
  | now : s.number % 2 = 0 → WEnd s 9
abbrev sr_tlook_hand (C : Addr) (X : Exs) : Sp := srT C X WHand
abbrev sr_tlook_cell (C : Addr) (X : Exs) : Sp := srT C X WCell
abbrev sr_begin_read (C : Addr) (X : Exs) : Sp := srT C X WHand
abbrev sr_tsure (C : Addr) (X : Exs) : Sp := srT C X WSure
abbrev sr_take (C : Addr) (X : Exs) : Sp := srT2 C X WTake
abbrev sr_tput (C : Addr) (X : Exs) : Sp := srT2 C X WPut
abbrev sr_begin_write (C : Addr) (X : Exs) : Sp := srT0 C X WBeg
abbrev sr_end_write (C : Addr) (X : Exs) : Sp := srT0 C X WEnd
theorem purer_tlook_hand (hC : TwC K C) (h : sr_tlook_hand C X vs H Q E) : tr_Twice_look_hand K X.nh (spOr sp_is_whole sr_is_whole) E ⟨fun _ H' => Q .non H', Q, fun _ _ => False, fun _ _ => False⟩ (start ["self", "hand"] vs) H := by
  obtain ⟨p, s, v, u, i, R, rfl, hr, hh, q⟩ := h
  obtain ⟨cl, n1, n2, n3, n4⟩ := hC
  obtain ⟨ho⟩ := hr
  have h0 := tw_cut hh
  unfold tr_Twice_look_hand
  walk_at "go"
  refine .inr ⟨v, u, 0, _, _, rfl, ho, hh.sub (show Sub (u :: _) _ by walk_at "sub"), ?_⟩
  walk_at "go"
  exact q H hh
theorem purer_tlook_cell (hC : TwC K C) (h : sr_tlook_cell C X vs H Q E) : tr_Twice_look_cell K X.nc (spOr sp_is_whole sr_is_whole) E ⟨fun _ H' => Q .non H', Q, fun _ _ => False, fun _ _ => False⟩ (start ["self", "cell"] vs) H := by
  obtain ⟨p, s, v, u, i, R, rfl, hr, hh, q⟩ := h
  obtain ⟨cl, n1, n2, n3, n4⟩ := hC
  obtain ⟨ho⟩ := hr
  have h0 := tw_cut hh
  unfold tr_Twice_look_cell
  walk_at "go"
  refine .inr ⟨v, u, 0, _, _, rfl, by rw [List.length_map]; exact ho, hh.sub (show Sub (u :: _) _ by walk_at "sub"), ?_⟩
  walk_at "go"
  exact q H hh
theorem purer_begin_read (hC : TwC K C) (h : sr_begin_read C X vs H Q E) : tr_Twice_begin_read K C (spOr (sp_tlook_hand C) (sr_tlook_hand C X)) E ⟨fun _ H' => Q .non H', Q, fun _ _ => False, fun _ _ => False⟩ (start ["self", "hand"] vs) H := by
  obtain ⟨p, s, v, u, i, R, rfl, hr, hh, q⟩ := h
  have hp := (tw_cut hh).g0
  unfold tr_Twice_begin_read
  walk_at "go"
  exact .inr ⟨p, s, v, u, i, R, rfl, hr, hh, q⟩
theorem purer_tsure (hC : TwC K C) (h : sr_tsure C X vs H Q E) : tr_Twice_sure K C X.ni (spOr (sp_tlook_hand C) (sr_tlook_hand C X)) E ⟨fun _ H' => Q .non H', Q, fun _ _ => False, fun _ _ => False⟩ (start ["self", "hand", "first"] vs) H := by
  obtain ⟨p, s, v, u, i, R, rfl, hr, hh, q⟩ := h
  obtain ⟨cl, n1, n2, n3, n4⟩ := hC
  have h0 := tw_cut hh
  unfold tr_Twice_sure
  cases hr with
  | hand ho =>
    walk_at "go"
    exact .inr ⟨p, s, v, u, 1, R, rfl, .hand ho, hh, q⟩
  | out k0 k1 hf =>
    walk_at "go"
    refine .inl ⟨p, s, _, _, rfl, hh, k0, k1, ?_⟩
    walk_at "go"
    rw [mv_isSome, hf]
    refine ifT ?_
    walk_at "go"
    exact q H hh
theorem purer_take (hC : TwC K C) (h : sr_take C X vs H Q E) : tr_Twice_take K C X.ni (spOr (sp_tlook_hand C) (sr_tlook_hand C X)) (spOr (sp_tlook_cell C) (sr_tlook_cell C X)) E ⟨fun _ H' => Q .non H', Q, fun _ _ => False, fun _ _ => False⟩ (start ["self", "hand", "cell"] vs) H := by
  obtain ⟨p, s, v, v2, u, u2, i, R, rfl, hr, hh, q⟩ := h
  obtain ⟨cl, n1, n2, n3, n4⟩ := hC
  have h0 := tw_cut hh
  unfold tr_Twice_take
  cases hr with
  | lk hr =>
    cases hr with
    | hand ho =>
      walk_at "go"
      exact .inr ⟨p, s, v, u, 1, _, rfl, .hand ho, hh, q⟩
    | out k0 k1 hf =>
      walk_at "go"
      refine .inl ⟨p, s, _, _, rfl, hh, k0, k1, ?_⟩
      walk_at "go"
      rw [mv_isSome, hf]
      refine ifT ?_
      walk_at "go"
      exact q H hh
  | cell k0 k1 hf ho =>
    walk_at "go"
    refine .inl ⟨p, s, _, _, rfl, hh, k0, k1, ?_⟩
    walk_at "go"
    rw [mv_isSome, hf]
    walk_at "go"
    exact .inr ⟨p, s, v2, u2, 2, _, rfl, .cell ho, hh.sub (show Sub (twU C p s :: u2 :: [] :: R) _ from Sub.p0 (Sub.p1 (Sub.p0 Sub.rf))), fun H' h' => q H' (h'.sub (Sub.p0 (Sub.p1 (Sub.p0 Sub.rf))))⟩
theorem purer_tput (hC : TwC K C) (h : sr_tput C X vs H Q E) : tr_Twice_put K C X.nn (spOr (sp_tlook_cell C) (sr_tlook_cell C X)) (spOr sp_look_number (sr_look_number X.bn)) E ⟨fun _ H' => Q .non H', Q, fun _ _ => False, fun _ _ => False⟩ (start ["self", "cell", "value"] vs) H := by
  obtain ⟨p, s, v, v2, u, u2, i, R, rfl, hr, hh, q⟩ := h
  obtain ⟨cl, n1, n2, n3, n4⟩ := hC
  have h0 := tw_cut hh
  unfold tr_Twice_put
  cases hr with
  | cell ho =>
    walk_at "go"
    exact .inr ⟨p, s, v, u, 2, _, rfl, .cell ho, hh, q⟩
  | val c0 c1 ho =>
    walk_at "go"
    refine .inl ⟨p, s, _, _, rfl, hh, c0, c1, ?_⟩
    walk_at "go"
    exact .inr ⟨v2, u2, 0, 999, _, rfl, ho, hh.sub (show Sub (u2 :: _) _ from Sub.p2 Sub.rf), q H hh⟩
  | now c0 c1 x0 x1 hn =>
    walk_at "go"
    refine .inl ⟨p, s, _, _, rfl, hh, c0, c1, ?_⟩
    walk_at "go"
    refine .inl ⟨_, 0, 999, rfl, x0, x1, ?_⟩
    walk_at "go"
    refine ifY (by rw [hn]; rfl) ?_
    walk_at "go"
    exact q H hh
theorem purer_begin_write (hC : TwC K C) (h : sr_begin_write C X vs H Q E) : tr_Twice_begin_write K X.nn E ⟨fun _ H' => Q .non H', Q, fun _ _ => False, fun _ _ => False⟩ (start ["self"] vs) H := by
  obtain ⟨p, s, i, R, rfl, hr, hh, q⟩ := h
  obtain ⟨cl, n1, n2, n3, n4⟩ := hC
  have h0 := tw_cut hh
  obtain ⟨hn⟩ := hr
  unfold tr_Twice_begin_write
  walk_at "go"
  refine ifY (by rw [hn]; rfl) ?_
  walk_at "go"
  exact q H hh
theorem purer_end_write (hC : TwC K C) (h : sr_end_write C X vs H Q E) : tr_Twice_end_write K X.nn E ⟨fun _ H' => Q .non H', Q, fun _ _ => False, fun _ _ => False⟩ (start ["self"] vs) H := by
  obtain ⟨p, s, i, R, rfl, hr, hh, q⟩ := h
  obtain ⟨cl, n1, n2, n3, n4⟩ := hC
  have h0 := tw_cut hh
  obtain ⟨hn⟩ := hr
  unfold tr_Twice_end_write
  walk_at "go"
  refine ifY (by rw [hn]; rfl) ?_
  walk_at "go"
  exact q H hh
end
inductive DoesR (s : Tw) : Int → V → U → V → U → Nat → Prop where
  | b {v v2 : V} {u u2 : U} {i : Nat} : WHand s v u i → DoesR s 0 v u v2 u2 i
  | t {v v2 : V} {u u2 : U} {i : Nat} : WTake s v u v2 u2 i → DoesR s 1 v u v2 u2 i
  | s {v v2 : V} {u u2 : U} {i : Nat} : WSure s v u i → DoesR s 2 v u v2 u2 i
  | p {v v2 : V} {u u2 : U} {i : Nat} : WPut s v u v2 u2 i → DoesR s 3 v u v2 u2 i
  | w {v v2 : V} {u u2 : U} {i : Nat} : WBeg s i → DoesR s 4 v u v2 u2 i
  | e {v v2 : V} {u u2 : U} {i : Nat} : WEnd s i → DoesR s 5 v u v2 u2 i
theorem WSure.ok {s : Tw} {v : V} {u : U} {i : Nat} (h : WSure s v u i) : i ∈ [0, 1, 2, 4, 5, 8, 9] := by cases h <;> decide
theorem DoesR.ok {s : Tw} {kd : Int} {v v2 : V} {u u2 : U} {i : Nat} (h : DoesR s kd v u v2 u2 i) : i ∈ [0, 1, 2, 4, 5, 8, 9] := by
  cases h with
  | b h => cases h; decide
  | t h =>
    cases h with
    | lk h => exact h.ok
    | cell => decide
  | s h => exact h.ok
  | p h => cases h <;> decide
  | w h => cases h; decide
  | e h => cases h; decide
/-- steps that are done -/
inductive DoesD (s : Tw) : Int → Tw → Prop where
  | w : s.number % 2 = 0 → DoesD s 4 { s with number := s.number + 1 }
  | e : s.number % 2 = 1 → DoesD s 5 { s with number := s.number + 1 }
def sr__law_does (C : Addr) (X : Exs) : Sp := fun vs H Q E => ∃ (p : Addr) (s : Tw) (kd : Int) (v v2 : V) (u u2 : U) (R : List U), vs = [.ref p, .int kd, v, v2] ∧ Has H (twU C p s :: u :: u2 :: R) ∧
  ((∃ i, DoesR s kd v u v2 u2 i ∧ ∀ H', Has H' (twU C p s :: u :: u2 :: R) → E (.ref (X.of i)) none H') ∨ (∃ s', DoesD s kd s' ∧ ∀ w H', Has H' (twU C p s' :: u :: u2 :: R) → Q w H'))
theorem purer__law_does {K : PySem.W.Frag} {C : Addr} {X : Exs} {vs : List V} {H : Hp} {Q : VK} {E : XK} (h : sr__law_does C X vs H Q E) :
    tr__law_does K C (spOr (sp_begin_read C) (sr_begin_read C X)) (spOr (sp_take C) (sr_take C X)) (spOr (sp_tsure C) (sr_tsure C X)) (spOr (sp_tput C) (sr_tput C X)) (spOr (sp_begin_write C) (sr_begin_write C X)) (spOr (sp_end_write C) (sr_end_write C X)) E ⟨fun _ H' => Q .non H', Q, fun _ _ => False, fun _ _ => False⟩ (start ["some", "kind", "one", "other"] vs) H := by
  obtain ⟨p, s, kd, v, v2, u, u2, R, rfl, hh, h⟩ := h
  have hp := (tw_cut hh).g0
  unfold tr__law_does
  rcases h with ⟨i, hr, q⟩ | ⟨s', hr, q⟩
  · cases hr with
    | b hr =>
      walk_at "go"
      repeat ((first | refine ifT ?_ | refine ifF ?_); (try walk_at "go"))
      exact .inr ⟨p, s, v, u, i, _, rfl, hr, hh, q⟩
    | t hr =>
      walk_at "go"
      repeat ((first | refine ifT ?_ | refine ifF ?_); (try walk_at "go"))
      exact .inr ⟨p, s, v, v2, u, u2, i, _, rfl, hr, hh, q⟩
    | s hr =>
      walk_at "go"
      repeat ((first | refine ifT ?_ | refine ifF ?_); (try walk_at "go"))
      exact .inr ⟨p, s, v, u, i, _, rfl, hr, hh, q⟩
    | p hr =>
      walk_at "go"
      repeat ((first | refine ifT ?_ | refine ifF ?_); (try walk_at "go"))
      exact .inr ⟨p, s, v, v2, u, u2, i, _, rfl, hr, hh, q⟩
    | w hr =>
      walk_at "go"
      repeat ((first | refine ifT ?_ | refine ifF ?_); (try walk_at "go"))
      exact .inr ⟨p, s, i, _, rfl, hr, hh, q⟩
    | e hr =>
      walk_at "go"
      repeat ((first | refine ifT ?_ | refine ifF ?_); (try walk_at "go"))
      exact .inr ⟨p, s, i, _, rfl, hr, hh, q⟩
  · cases hr with
    | w hn =>
      walk_at "go"
      repeat ((first | refine ifT ?_ | refine ifF ?_); (try walk_at "go"))
      exact .inl ⟨p, s, _, rfl, hh, hn, fun H' h' => q _ H' h'⟩
    | e hn =>
      walk_at "go"
      repeat ((first | refine ifT ?_ | refine ifF ?_); (try walk_at "go"))
      exact .inl ⟨p, s, _, rfl, hh, hn, fun H' h' => q _ H' h'⟩
end La
namespace La
open PySem L2 Sy
local macro_rules | `(tactic| walk_at "fl") => `(tactic| first | assumption | exact si_hands | exact si_sides | exact si_open_side | exact si_where | exact si_under_way | exact si_far | kernel_rfl)
local macro_rules | `(tactic| walk_at "put") => `(tactic| first | exact si_put_hands | exact si_put_sides | exact si_put_open_side | exact si_put_where | exact si_put_under_way | exact si_put_far | exact si_p1 | exact si_p2 | exact si_p3 | exact si_p4 | exact si_p5 | exact si_p6)
local macro_rules | `(tactic| walk_at "fsl") => `(tactic| first | assumption | exact si_len | (show 0 < 1000; decide) | (show 1 < 1000; decide) | (show 2 < 1000; decide) | (show 3 < 1000; decide) | (show 4 < 1000; decide) | (show 5 < 1000; decide))
/-! ### refusals of sides -/
section
variable {K : PySem.W.Frag} {C : Addr} {X : Exs} {vs : List V} {H : Hp} {Q : VK} {E : XK}
def srS0 (C : Addr) (X : Exs) (Rf : Sid → Nat → Prop) : Sp := fun vs H _ E => ∃ (p : Addr) (s : Sid) (i : Nat) (R : List U), vs = [.ref p] ∧ Rf s i ∧ Has H (sidU C p s :: R) ∧ ∀ H', Has H' (sidU C p s :: R) → E (.ref (X.of i)) none H'
def srS (C : Addr) (X : Exs) (Rf : Sid → V → U → Nat → Prop) : Sp := fun vs H _ E => ∃ (p : Addr) (s : Sid) (v : V) (u : U) (i : Nat) (R : List U), vs = [.ref p, v] ∧ Rf s v u i ∧ Has H (sidU C p s :: u :: R) ∧ ∀ H', Has H' (sidU C p s :: u :: R) → E (.ref (X.of i)) none H'
def srS2 (C : Addr) (X : Exs) (Rf : Sid → V → U → V → U → Nat → Prop) : Sp := fun vs H _ E => ∃ (p : Addr) (s : Sid) (v v2 : V) (u u2 : U) (i : Nat) (R : List U), vs = [.ref p, v, v2] ∧ Rf s v u v2 u2 i ∧ Has H (sidU C p s :: u :: u2 :: R) ∧ ∀ H', Has H' (sidU C p s :: u :: u2 :: R) → E (.ref (X.of i)) none H'
inductive SHand (s : Sid) : V → U → Nat → Prop where
  | hand {v : V} {u : U} : Odd 0 (s.hands - 1) v u → SHand s v u 1
inductive SIn (s : Sid) : V → U → Nat → Prop where
  | hand {v : V} {u : U} : Odd 0 (s.hands - 1) v u → SIn s v u 1
  | out {k : Int} : 0 ≤ k → k < s.hands → fd s.wh k = none → SIn s (.int k) [] 5
inductive SEnt (s : Sid) : V → U → Nat → Prop where
  | hand {v : V} {u : U} : Odd 0 (s.hands - 1) v u → SEnt s v u 1
  | isin {k : Int} : 0 ≤ k → k < s.hands → (fd s.wh k).isSome = true → SEnt s (.int k) [] 4
inductive SRead (s : Sid) : V → U → V → U → Nat → Prop where
  | lk {v v2 : V} {u u2 : U} {i : Nat} : SIn s v u i → SRead s v u v2 u2 i
  | cell {k : Int} {v2 : V} {u2 : U} : 0 ≤ k → k < s.hands → (fd s.wh k).isSome = true → Odd 0 (s.s0.length - 1) v2 u2 → SRead s (.int k) [] v2 u2 2
inductive SPairs (s : Sid) : V → U → Nat → Prop where
  | pairs {v : V} {u : U} : BadP false s.s0.length v u → SPairs s v u 8
inductive SBeg (s : Sid) : V → U → Nat → Prop where
  | pairs {v : V} {u : U} : BadP false s.s0.length v u → SBeg s v u 8
  | now {pa : Addr} {ps : Prs} : PrOk2 ps s.s0.length → s.far ≠ "free" → SBeg s (.ref pa) ((pa, .lst (prR ps)) :: prU ps) 9
inductive STurn (s : Sid) : Nat → Prop where
  | now : s.far ≠ "written" → STurn s 9
inductive SFin (s : Sid) : Nat → Prop where
  | now : s.far ≠ "turned" → SFin s 9
inductive SOn (s : Sid) : V → U → Nat → Prop where
  | num {v : V} {u : U} : Odd 0 1 v u → SOn s v u 0
abbrev sr_slook_hand (C : Addr) (X : Exs) : Sp := srS C X SHand
abbrev sr_slook_in (C : Addr) (X : Exs) : Sp := srS C X SIn
abbrev sr_sleave (C : Addr) (X : Exs) : Sp := srS C X SIn
abbrev sr_senter (C : Addr) (X : Exs) : Sp := srS C X SEnt
abbrev sr_sread (C : Addr) (X : Exs) : Sp := srS2 C X SRead
abbrev sr_slook_pairs (C : Addr) (X : Exs) : Sp := srS C X SPairs
abbrev sr_sbegin (C : Addr) (X : Exs) : Sp := srS C X SBeg
abbrev sr_sturn (C : Addr) (X : Exs) : Sp := srS0 C X STurn
abbrev sr_sfinish (C : Addr) (X : Exs) : Sp := srS0 C X SFin
abbrev sr_hands_on (C : Addr) (X : Exs) : Sp := srS C X SOn
theorem purer_slook_hand (hC : SiC K C) (h : sr_slook_hand C X vs H Q E) : tr_Sides_look_hand K X.nh (spOr sp_is_whole sr_is_whole) E ⟨fun _ H' => Q .non H', Q, fun _ _ => False, fun _ _ => False⟩ (start ["self", "hand"] vs) H := by
  obtain ⟨p, s, v, u, i, R, rfl, hr, hh, q⟩ := h
  obtain ⟨cl, n1, n2, n3, n4, n5, n6⟩ := hC
  obtain ⟨ho⟩ := hr
  have h0 := si_cut hh
  unfold tr_Sides_look_hand
  walk_at "go"
  refine .inr ⟨v, u, 0, _, _, rfl, ho, hh.sub (show Sub (u :: _) _ by walk_at "sub"), ?_⟩
  walk_at "go"
  exact q H hh
theorem purer_slook_in (hC : SiC K C) (h : sr_slook_in C X vs H Q E) : tr_Sides_look_in K C X.ni (spOr (sp_slook_hand C) (sr_slook_hand C X)) E ⟨fun _ H' => Q .non H', Q, fun _ _ => False, fun _ _ => False⟩ (start ["self", "hand"] vs) H := by
  obtain ⟨p, s, v, u, i, R, rfl, hr, hh, q⟩ := h
  obtain ⟨cl, n1, n2, n3, n4, n5, n6⟩ := hC
  have h0 := si_cut hh
  unfold tr_Sides_look_in
  cases hr with
  | hand ho =>
    walk_at "go"
    exact .inr ⟨p, s, v, u, 1, R, rfl, .hand ho, hh, q⟩
  | out k0 k1 hf =>
    walk_at "go"
    refine .inl ⟨p, s, _, _, rfl, hh, k0, k1, ?_⟩
    walk_at "go"
    rw [mv_isSome, hf]
    refine ifT ?_
    walk_at "go"
    exact q H hh
theorem purer_senter (hC : SiC K C) (h : sr_senter C X vs H Q E) : tr_Sides_enter K C X.ii (spOr (sp_slook_hand C) (sr_slook_hand C X)) E ⟨fun _ H' => Q .non H', Q, fun _ _ => False, fun _ _ => False⟩ (start ["self", "hand"] vs) H := by
  obtain ⟨p, s, v, u, i, R, rfl, hr, hh, q⟩ := h
  obtain ⟨cl, n1, n2, n3, n4, n5, n6⟩ := hC
  have h0 := si_cut hh
  unfold tr_Sides_enter
  cases hr with
  | hand ho =>
    walk_at "go"
    exact .inr ⟨p, s, v, u, 1, R, rfl, .hand ho, hh, q⟩
  | isin k0 k1 hf =>
    walk_at "go"
    refine .inl ⟨p, s, _, _, rfl, hh, k0, k1, ?_⟩
    walk_at "go"
    rw [mv_isSome, hf]
    refine ifT ?_
    walk_at "go"
    exact q H hh
theorem purer_sleave (hC : SiC K C) (h : sr_sleave C X vs H Q E) : tr_Sides_leave K C (spOr (sp_slook_in C) (sr_slook_in C X)) E ⟨fun _ H' => Q .non H', Q, fun _ _ => False, fun _ _ => False⟩ (start ["self", "hand"] vs) H := by
  obtain ⟨p, s, v, u, i, R, rfl, hr, hh, q⟩ := h
  have hp := (si_cut hh).g0
  unfold tr_Sides_leave
  walk_at "go"
  exact .inr ⟨p, s, v, u, i, R, rfl, hr, hh, q⟩
theorem purer_sread (hC : SiC K C) (h : sr_sread C X vs H Q E) : tr_Sides_read K C X.nc (spOr (sp_slook_in C) (sr_slook_in C X)) (spOr sp_is_whole sr_is_whole) E ⟨fun _ H' => Q .non H', Q, fun _ _ => False, fun _ _ => False⟩ (start ["self", "hand", "cell"] vs) H := by
  obtain ⟨p, s, v, v2, u, u2, i, R, rfl, hr, hh, q⟩ := h
  obtain ⟨cl, n1, n2, n3, n4, n5, n6⟩ := hC
  have h0 := si_cut hh
  unfold tr_Sides_read
  cases hr with
  | lk hr =>
    walk_at "go"
    exact .inr ⟨p, s, v, u, i, _, rfl, hr, hh, q⟩
  | cell k0 k1 hf ho =>
    walk_at "go"
    refine .inl ⟨p, s, _, _, rfl, hh, k0, k1, hf, ?_⟩
    walk_at "go"
    refine .inr ⟨v2, u2, 0, _, _, rfl, by rw [List.length_map]; exact ho, hh.sub (show Sub (u2 :: _) _ from Sub.p2 Sub.rf), ?_⟩
    walk_at "go"
    exact q H hh
theorem purer_sturn (hC : SiC K C) (h : sr_sturn C X vs H Q E) : tr_Sides_turn K X.nn E ⟨fun _ H' => Q .non H', Q, fun _ _ => False, fun _ _ => False⟩ (start ["self"] vs) H := by
  obtain ⟨p, s, i, R, rfl, hr, hh, q⟩ := h
  obtain ⟨cl, n1, n2, n3, n4, n5, n6⟩ := hC
  have h0 := si_cut hh
  obtain ⟨hn⟩ := hr
  unfold tr_Sides_turn
  walk_at "go"
  refine ifY (by simp [hn]) ?_
  walk_at "go"
  exact q H hh
theorem purer_sfinish (hC : SiC K C) (h : sr_sfinish C X vs H Q E) : tr_Sides_finish K X.nn C (sp_put_all C) E ⟨fun _ H' => Q .non H', Q, fun _ _ => False, fun _ _ => False⟩ (start ["self"] vs) H := by
  obtain ⟨p, s, i, R, rfl, hr, hh, q⟩ := h
  obtain ⟨cl, n1, n2, n3, n4, n5, n6⟩ := hC
  have h0 := si_cut hh
  obtain ⟨hn⟩ := hr
  unfold tr_Sides_finish
  walk_at "go"
  refine ifY (by simp [hn]) ?_
  walk_at "go"
  exact q H hh
theorem purer_hands_on (hC : SiC K C) (h : sr_hands_on C X vs H Q E) : tr_Sides_hands_on K (spOr sp_look_number (sr_look_number X.bn)) E ⟨fun _ H' => Q .non H', Q, fun _ _ => False, fun _ _ => False⟩ (start ["self", "side", "hand"] vs) H := by
  obtain ⟨p, s, v, u, i, R, rfl, hr, hh, q⟩ := h
  obtain ⟨ho⟩ := hr
  unfold tr_Sides_hands_on
  walk_at "go"
  exact .inr ⟨v, u, 0, 1, _, rfl, ho, hh.sub (show Sub (u :: _) _ from Sub.p1 Sub.rf), q H hh⟩
theorem purer_sbegin (hC : SiC K C) (h : sr_sbegin C X vs H Q E) : tr_Sides_begin K C X.nn (spOr (sp_slook_pairs C) (sr_slook_pairs C X)) (sp_put_all C) E ⟨fun _ H' => Q .non H', Q, fun _ _ => False, fun _ _ => False⟩ (start ["self", "pairs"] vs) H := by
  obtain ⟨p, s, v, u, i, R, rfl, hr, hh, q⟩ := h
  obtain ⟨cl, n1, n2, n3, n4, n5, n6⟩ := hC
  have hp := (si_cut hh).g0
  unfold tr_Sides_begin
  cases hr with
  | pairs hb =>
    walk_at "go"
    exact .inr ⟨p, s, v, u, 8, R, rfl, .pairs hb, hh, q⟩
  | @now pa ps ok hn =>
    walk_at "go"
    refine .inl ⟨p, pa, s, ps, R, rfl, (hh.sub (Sub.p1 Sub.rf)).cut.sub (Sub.p2 Sub.rf), ok, fun H1 h1 => ?_⟩
    have h2 := si_cut h1
    clear hh hp
    walk_at "go"
    refine ifY (by simp [hn]) ?_
    walk_at "go"
    exact q H1 ((Has.glue (h1.sub (show Sub ([(pa, _)] :: prU ps :: _) _ from Sub.p1 (Sub.p1 Sub.rf)))).sub (Sub.p1 Sub.rf))
theorem purer_slook_pairs (hC : SiC K C) (h : sr_slook_pairs C X vs H Q E) : tr_Sides_look_pairs K X.bp (spOr sp_is_whole sr_is_whole) E ⟨fun _ H' => Q .non H', Q, fun _ _ => False, fun _ _ => False⟩ (start ["self", "pairs", "fine", "one", "most"] vs) H := by
  obtain ⟨p, s, v, u, i, R, rfl, hr, hh, q⟩ := h
  obtain ⟨cl, n1, n2, n3, n4, n5, n6⟩ := hC
  obtain ⟨hb⟩ := hr
  unfold tr_Sides_look_pairs
  cases hb with
  | non =>
    walk_at "go"
    refine k_isi .non kb_nl ?_
    walk_at "go"
    exact q H hh
  | str z =>
    walk_at "go"
    refine k_isi (.str z) kb_sl ?_
    walk_at "go"
    exact q H hh
  | int z =>
    walk_at "go"
    refine k_isi (.int z) kb_il ?_
    walk_at "go"
    exact q H hh
  | tup a xs =>
    have ha : H a = some (.tup xs) := (hh.sub (Sub.p1 Sub.rf)).g0
    walk_at "go"
    refine k_isi (.tup ha) kb_tl ?_
    walk_at "go"
    exact q H hh
  | dct a =>
    have ha : H a = some (dI []) := (hh.sub (Sub.p1 Sub.rf)).g0
    walk_at "go"
    refine k_isi (.dK ha) kb_dl ?_
    walk_at "go"
    exact q H hh
  | nil a =>
    walk_at "go"
    rename_i d0 H0 h0
    refine k_neSame (dd := .list []) (.lst (SqL.of (by walk_at "hp")) .nil) (.lst (SqL.of (by walk_at "hp")) .nil) (by decide +kernel) ?_
    walk_at "go"
    exact q _ (h0.sub (Sub.skip Sub.rf))
  | sh1 a x u hx =>
    have hin : ∀ {H' : Hp} {G : List U}, Has H' ([(a, .lst [x])] :: u :: sidU C p s :: R) → Has H' (sidU C p s :: ((a, .lst [x]) :: u) :: R) := fun h => h.glue.sub (Sub.p1 (Sub.p0 Sub.rf))
    replace hh := (hh.sub (Sub.p1 Sub.rf)).cut
    walk_at "go"
    rename_i d0 H0 h0
    obtain ⟨d, hd, hs⟩ := hx.dp (K := K) (h0.sub (show Sub (u :: _) _ from Sub.p2 Sub.rf))
    refine k_neNil (by walk_at "hp") (by walk_at "hp") (.cons hd .nil) hs ?_
    have h1 := h0.sub (Sub.skip Sub.rf)
    clear hh
    walk_at "go"
    refine k_lcM [x] (fun z => z) (fun _ => V.bl false) h1 (fun H' h' => by walk_at "hp") (by simp) (fun z hz D M H' Q' h' q' => ?_) fun D H2 h2 => ?_
    · rw [List.mem_singleton.mp hz]
      cases hx with
      | int i =>
        walk_at "go"
        refine k_isi (.int i) kb_it ?_
        walk_at "go"
        exact q' H' h'
      | l2 b i j =>
        walk_at "go"
        refine k_isi (.lst (show H' b = _ by walk_at "hp")) kb_lt ?_
        walk_at "go"
        exact q' H' h'
      | t1 b i =>
        walk_at "go"
        exact q' H' h'
      | t3 b i j k =>
        walk_at "go"
        exact q' H' h'
    have h2 : Has H2 ([(D, .lst ([false].map V.bl))] :: _) := h2
    clear h0 h1
    walk_at "go"
    exact q _ (hin (G := []) (h2.sub (Sub.skip Sub.rf)))
  | sh2 a b i j =>
    have hin : ∀ {H' : Hp}, Has H' ([(a, .lst [.ref b, .non])] :: [(b, .tup [.int i, .int j])] :: sidU C p s :: R) → Has H' (sidU C p s :: [(a, .lst [.ref b, .non]), (b, .tup [.int i, .int j])] :: R) := fun h => h.glue.sub (Sub.p1 (Sub.p0 Sub.rf))
    replace hh := (hh.sub (Sub.p1 Sub.rf)).cut
    walk_at "go"
    rename_i d0 H0 h0
    refine k_neNil (by walk_at "hp") (by walk_at "hp") (.cons (.tup (SqT.of (by walk_at "hp")) (.cons (.int _) (.cons (.int _) .nil))) (.cons .non .nil)) (by simp [SeqAt.shaped, PyData.canLay0, PyData.canLayAll0, PyData.depth, PyData.depthAll]) ?_
    have h1 := h0.sub (Sub.skip Sub.rf)
    clear hh
    walk_at "go"
    refine k_lcM [(V.ref b, true), (V.non, false)] (·.1) (fun z => V.bl z.2) h1 (fun H' h' => by walk_at "hp") (by simp) (fun z hz D M H' Q' h' q' => ?_) fun D H2 h2 => ?_
    · rcases (by simpa using hz : z = (V.ref b, true) ∨ z = (V.non, false)) with rfl | rfl
      · walk_at "go"
        exact q' H' h'
      · walk_at "go"
        refine k_isi .non kb_nt ?_
        walk_at "go"
        exact q' H' h'
    have h2 : Has H2 ([(D, .lst ([true, false].map V.bl))] :: _) := h2
    clear h0 h1
    walk_at "go"
    exact q _ (hin (h2.sub (Sub.skip Sub.rf)))
  | key a b x j ho =>
    have hin : ∀ {H' : Hp}, Has H' ([(a, .lst [.ref b])] :: [(b, .tup [x, .int j])] :: sidU C p s :: R) → Has H' (sidU C p s :: [(a, .lst [.ref b]), (b, .tup [x, .int j])] :: R) := fun h => h.glue.sub (Sub.p1 (Sub.p0 Sub.rf))
    replace hh := (hh.sub (Sub.p1 Sub.rf)).cut
    walk_at "go"
    rename_i d0 H0 h0
    obtain ⟨d, hd, hs⟩ := ho.dp (K := K) (H := H0)
    refine k_neNil (by walk_at "hp") (by walk_at "hp") (.cons (.tup (SqT.of (by walk_at "hp")) (.cons hd (.cons (.int _) .nil))) .nil) (hs j).1 ?_
    have h1 := h0.sub (Sub.skip Sub.rf)
    clear hh
    walk_at "go"
    refine k_lcM [V.ref b] (fun z => z) (fun _ => V.bl true) h1 (fun H' h' => by walk_at "hp") (by simp) (fun z hz D M H' Q' h' q' => ?_) fun D H2 h2 => ?_
    · rw [List.mem_singleton.mp hz]
      walk_at "go"
      exact q' H' h'
    have h2 : Has H2 ([(D, .lst ([true].map V.bl))] :: _) := h2
    walk_at "go"
    refine ifN (by rfl) ?_
    have h3 := h2.sub (Sub.skip Sub.rf)
    have h4 := si_cut (h3.sub (show Sub (sidU C p s :: [(a, _)] :: [(b, _)] :: R) _ from Sub.p2 Sub.rf))
    clear h0 h1 h2
    walk_at "go"
    refine k_lcM [V.ref b] (fun z => z) (fun _ => V.bl false) h3 (fun H' h' => by walk_at "hp") (by simp) (fun z hz D M H' Q' h' q' => ?_) fun D4 H4 h5 => ?_
    · rw [List.mem_singleton.mp hz]
      have hb : H' b = some (.tup [x, .int j]) := (h'.sub (Sub.p2 Sub.rf)).g0
      clear h4
      walk_at "go"
      refine .inr ⟨x, [], 0, _, _, rfl, by rw [List.length_map]; exact ho.odd, Has.nilU.mpr h', ?_⟩
      walk_at "go"
      exact q' H' h'
    have h5 : Has H4 ([(D4, .lst ([false].map V.bl))] :: _) := h5
    clear h3 h4
    walk_at "go"
    exact q _ (hin (h5.sub (Sub.skip Sub.rf)))
  | val a b i y i0 i1 ho =>
    have hin : ∀ {H' : Hp}, Has H' ([(a, .lst [.ref b])] :: [(b, .tup [.int i, y])] :: sidU C p s :: R) → Has H' (sidU C p s :: [(a, .lst [.ref b]), (b, .tup [.int i, y])] :: R) := fun h => h.glue.sub (Sub.p1 (Sub.p0 Sub.rf))
    replace hh := (hh.sub (Sub.p1 Sub.rf)).cut
    walk_at "go"
    rename_i d0 H0 h0
    obtain ⟨d, hd, hs⟩ := ho.dp (K := K) (H := H0)
    refine k_neNil (by walk_at "hp") (by walk_at "hp") (.cons (.tup (SqT.of (by walk_at "hp")) (.cons (.int _) (.cons hd .nil))) .nil) (hs i).2 ?_
    have h1 := h0.sub (Sub.skip Sub.rf)
    clear hh
    walk_at "go"
    refine k_lcM [V.ref b] (fun z => z) (fun _ => V.bl true) h1 (fun H' h' => by walk_at "hp") (by simp) (fun z hz D M H' Q' h' q' => ?_) fun D H2 h2 => ?_
    · rw [List.mem_singleton.mp hz]
      walk_at "go"
      exact q' H' h'
    have h2 : Has H2 ([(D, .lst ([true].map V.bl))] :: _) := h2
    walk_at "go"
    refine ifN (by rfl) ?_
    have h3 := h2.sub (Sub.skip Sub.rf)
    have h4 := si_cut (h3.sub (show Sub (sidU C p s :: [(a, _)] :: [(b, _)] :: R) _ from Sub.p2 Sub.rf))
    clear h0 h1 h2
    walk_at "go"
    refine k_lcM [V.ref b] (fun z => z) (fun _ => V.bl false) h3 (fun H' h' => by walk_at "hp") (by simp) (fun z hz D M H' Q' h' q' => ?_) fun D4 H4 h5 => ?_
    · rw [List.mem_singleton.mp hz]
      have hb : H' b = some (.tup [.int i, y]) := (h'.sub (Sub.p2 Sub.rf)).g0
      clear h4
      walk_at "go"
      refine .inl ⟨i, 0, _, rfl, ?_⟩
      rw [decide_eq_true (by rw [List.length_map]; omega)]
      walk_at "go"
      exact .inr ⟨y, [], 0, 999, _, rfl, ho.odd, Has.nilU.mpr h', q' H' h'⟩
    have h5 : Has H4 ([(D4, .lst ([false].map V.bl))] :: _) := h5
    clear h3 h4
    walk_at "go"
    exact q _ (hin (h5.sub (Sub.skip Sub.rf)))
  | two a b c i j v w hr => cases hr
end
inductive DidR (s : Sid) : Int → V → U → V → U → Nat → Prop where
  | e {v v2 : V} {u u2 : U} {i : Nat} : SEnt s v u i → DidR s 0 v u v2 u2 i
  | l {v v2 : V} {u u2 : U} {i : Nat} : SIn s v u i → DidR s 1 v u v2 u2 i
  | r {v v2 : V} {u u2 : U} {i : Nat} : SRead s v u v2 u2 i → DidR s 2 v u v2 u2 i
  | b {v v2 : V} {u u2 : U} {i : Nat} : SBeg s v u i → DidR s 3 v u v2 u2 i
  | t {v v2 : V} {u u2 : U} {i : Nat} : STurn s i → DidR s 4 v u v2 u2 i
  | f {v v2 : V} {u u2 : U} {i : Nat} : SFin s i → DidR s 5 v u v2 u2 i
  | o {v v2 : V} {u u2 : U} {i : Nat} : SOn s v u i → DidR s 6 v u v2 u2 i
theorem SIn.ok {s : Sid} {v : V} {u : U} {i : Nat} (h : SIn s v u i) : i ∈ [0, 1, 2, 4, 5, 8, 9] := by cases h <;> decide
theorem DidR.ok {s : Sid} {kd : Int} {v v2 : V} {u u2 : U} {i : Nat} (h : DidR s kd v u v2 u2 i) : i ∈ [0, 1, 2, 4, 5, 8, 9] := by
  cases h with
  | e h => cases h <;> decide
  | l h => exact h.ok
  | r h =>
    cases h with
    | lk h => exact h.ok
    | cell => decide
  | b h => cases h <;> decide
  | t h => cases h; decide
  | f h => cases h; decide
  | o h => cases h; decide
/-- steps that are done: begin with pairs, turn -/
def DidD (C p : Addr) (s : Sid) (kd : Int) (v : V) (H : Hp) (R : List U) (Q : VK) : Prop :=
  (kd = 3 ∧ s.wf ∧ s.far = "free" ∧ ∃ (pa : Addr) (ps : Prs) (R' : List U), v = .ref pa ∧ PrOk2 ps s.s0.length ∧ Has H (sidU C p s :: [(pa, .lst (prR ps))] :: prU ps :: R') ∧ sp_sbegin C [.ref p, v] H Q E0) ∨
  (kd = 4 ∧ s.far = "written" ∧ Has H (sidU C p s :: R) ∧ ∀ H', Has H' (sidU C p { s with op := 1 - s.op, far := "turned" } :: R) → Q .non H')
def sr__law_did (C : Addr) (X : Exs) : Sp := fun vs H Q E => ∃ (p : Addr) (s : Sid) (kd : Int) (v v2 : V), vs = [.ref p, .int kd, v, v2] ∧
  ((∃ (u u2 : U) (i : Nat) (R : List U), DidR s kd v u v2 u2 i ∧ Has H (sidU C p s :: u :: u2 :: R) ∧ ∀ H', Has H' (sidU C p s :: u :: u2 :: R) → E (.ref (X.of i)) none H') ∨ ∃ R, Has H (sidU C p s :: R) ∧ DidD C p s kd v H R Q)
theorem purer__law_did {K : PySem.W.Frag} {C : Addr} {X : Exs} {vs : List V} {H : Hp} {Q : VK} {E : XK} (h : sr__law_did C X vs H Q E) :
    tr__law_did K C (spOr (sp_senter C) (sr_senter C X)) (spOr (sp_sleave C) (sr_sleave C X)) (spOr (sp_sread C) (sr_sread C X)) (spOr (sp_sbegin C) (sr_sbegin C X)) (spOr (sp_sturn C) (sr_sturn C X)) (spOr (sp_sfinish C) (sr_sfinish C X)) (spOr (sp_hands_on C) (sr_hands_on C X)) E ⟨fun _ H' => Q .non H', Q, fun _ _ => False, fun _ _ => False⟩ (start ["some", "kind", "one", "other"] vs) H := by
  obtain ⟨p, s, kd, v, v2, rfl, h⟩ := h
  unfold tr__law_did
  rcases h with ⟨u, u2, i, R, hr, hh, q⟩ | ⟨R, hh, h⟩
  · have hp := (si_cut hh).g0
    cases hr with
    | e hr =>
      walk_at "go"
      repeat ((first | refine ifT ?_ | refine ifF ?_); (try walk_at "go"))
      exact .inr ⟨p, s, v, u, i, _, rfl, hr, hh, q⟩
    | l hr =>
      walk_at "go"
      repeat ((first | refine ifT ?_ | refine ifF ?_); (try walk_at "go"))
      exact .inr ⟨p, s, v, u, i, _, rfl, hr, hh, q⟩
    | r hr =>
      walk_at "go"
      repeat ((first | refine ifT ?_ | refine ifF ?_); (try walk_at "go"))
      exact .inr ⟨p, s, v, v2, u, u2, i, _, rfl, hr, hh, q⟩
    | b hr =>
      walk_at "go"
      repeat ((first | refine ifT ?_ | refine ifF ?_); (try walk_at "go"))
      exact .inr ⟨p, s, v, u, i, _, rfl, hr, hh, q⟩
    | t hr =>
      walk_at "go"
      repeat ((first | refine ifT ?_ | refine ifF ?_); (try walk_at "go"))
      exact .inr ⟨p, s, i, _, rfl, hr, hh, q⟩
    | f hr =>
      walk_at "go"
      repeat ((first | refine ifT ?_ | refine ifF ?_); (try walk_at "go"))
      exact .inr ⟨p, s, i, _, rfl, hr, hh, q⟩
    | o hr =>
      walk_at "go"
      repeat ((first | refine ifT ?_ | refine ifF ?_); (try walk_at "go"))
      exact .inr ⟨p, s, v, u, i, _, rfl, hr, hh, q⟩
  · have hp := (si_cut hh).g0
    rcases h with ⟨rfl, hw, hf, pa, ps, R', rfl, ok, h1, h2⟩ | ⟨rfl, hf, h1, q⟩
    · walk_at "go"
      repeat ((first | refine ifT ?_ | refine ifF ?_); (try walk_at "go"))
      exact .inl h2
    · walk_at "go"
      repeat ((first | refine ifT ?_ | refine ifF ?_); (try walk_at "go"))
      exact .inl ⟨p, s, R, rfl, h1, hf, q⟩
end La
namespace La
open PySem L2 Sy
local macro_rules | `(tactic| walk_at "fl") => `(tactic| first | assumption | exact tw_hands | exact tw_cells | exact tw_number | exact tw_first | kernel_rfl)
local macro_rules | `(tactic| walk_at "put") => `(tactic| first | exact tw_put_hands | exact tw_put_cells | exact tw_put_number | exact tw_put_first | exact tw_p1 | exact tw_p2 | exact tw_p3 | exact tw_p4)
local macro_rules | `(tactic| walk_at "fsl") => `(tactic| first | assumption | exact tw_len | (show 0 < 1000; decide) | (show 1 < 1000; decide) | (show 2 < 1000; decide) | (show 3 < 1000; decide))
local macro_rules | `(tactic| walk_at "fl") => `(tactic| first | assumption | exact si_hands | exact si_sides | exact si_open_side | exact si_where | exact si_under_way | exact si_far | kernel_rfl)
local macro_rules | `(tactic| walk_at "put") => `(tactic| first | exact si_put_hands | exact si_put_sides | exact si_put_open_side | exact si_put_where | exact si_put_under_way | exact si_put_far | exact si_p1 | exact si_p2 | exact si_p3 | exact si_p4 | exact si_p5 | exact si_p6)
local macro_rules | `(tactic| walk_at "fsl") => `(tactic| first | assumption | exact si_len | (show 0 < 1000; decide) | (show 1 < 1000; decide) | (show 2 < 1000; decide) | (show 3 < 1000; decide) | (show 4 < 1000; decide) | (show 5 < 1000; decide))
/-! ### asks -/
structure InsK (K : PySem.W.Frag) (C : Addr) : Prop where
  cl : Cls K C
  ha : PySem.W.findIn K (.ref C) "__class__" = some (some (.builtin "object.__class__"))
  hn : PySem.W.specialIn K (.builtin "object.__class__") "__get__" = some (some (.builtin "getset_descriptor.__get__"))
  htk : PySem.W.takesIn K (.builtin "object.__class__") = some true
  hm : PySem.W.mroIn K C (.type "object") = some true
theorem k_isIns {K : PySem.W.Frag} {H : Hp} {Q : VK} {a C D dx : Addr} {fs : List (Str × V)} {b : Bool} (hp : H a = some (.ins C dx fs)) (hI : InsK K C) (hk : PySem.W.kitOne K (.ref C) (.ref D) = some b) (q : Q (.bl b) H) : rIsi K [.ref a, .ref D] H Q := ⟨_, _, _, _, b, rfl, .own D, .base (.ins hp hI.cl hI.ha hI.hn hI.htk hI.hm), hk, q⟩
def sp__law_asked (C CT : Addr) (X : Exs) : Sp := fun vs H Q _ => ∃ (p : Addr) (kd : Int) (v v2 : V), vs = [.ref p, .int kd, v, v2] ∧
  ((∃ (s : Sid) (u u2 : U) (i : Nat) (R : List U), DidR s kd v u v2 u2 i ∧ Has H (sidU C p s :: u :: u2 :: R) ∧ ∀ H', Has H' (sidU C p s :: u :: u2 :: R) → Q (.str (word i)) H') ∨
  (∃ (s : Sid) (R : List U), Has H (sidU C p s :: R) ∧ DidD C p s kd v H R fun _ H' => Q (.str "told") H') ∨
  (∃ (s : Tw) (u u2 : U) (i : Nat) (R : List U), DoesR s kd v u v2 u2 i ∧ Has H (twU CT p s :: u :: u2 :: R) ∧ ∀ H', Has H' (twU CT p s :: u :: u2 :: R) → Q (.str (word i)) H') ∨
  (∃ (s s' : Tw) (R : List U), Has H (twU CT p s :: R) ∧ DoesD s kd s' ∧ ∀ H', Has H' (twU CT p s' :: R) → Q (.str "told") H'))
theorem pure__law_asked {K : PySem.W.Frag} {C CT : Addr} {X : Exs} (hS : InsK K C) (hT : InsK K CT) (k1 : PySem.W.kitOne K (.ref C) (.ref C) = some true) (k2 : PySem.W.kitOne K (.ref CT) (.ref C) = some false) (hk : ∀ i ∈ [0, 1, 2, 4, 5, 8, 9], RefK K X i) {vs : List V} {H : Hp} {Q : VK} {E : XK} (h : sp__law_asked C CT X vs H Q E) :
    t__law_asked K X.se C (sr__law_did C X) (sr__law_does CT X) (sp__law_refusal X [0, 1, 2, 4, 5, 8, 9]) ⟨fun _ H' => Q .non H', Q, fun _ _ => False, fun _ _ => False⟩ (start ["some", "kind", "one", "other", "caught", "e"] vs) H := by
  obtain ⟨p, kd, v, v2, rfl, h⟩ := h
  unfold t__law_asked
  rcases h with ⟨s, u, u2, i, R, hr, hh, q⟩ | ⟨s, R, hh, hd⟩ | ⟨s, u, u2, i, R, hr, hh, q⟩ | ⟨s, s', R, hh, hd, q⟩
  · have hp := (si_cut hh).g0
    have RK := hk i hr.ok
    walk_at "go"
    refine k_isIns hp hS k1 ?_
    walk_at "go"
    refine ⟨p, s, kd, v, v2, rfl, .inl ⟨u, u2, i, R, hr, hh, fun H1 h1 => ?_⟩⟩
    refine k_keep RK.em (show 5 < 6 by decide) h1 fun a H2 h2 => ?_
    walk_at "go"
    exact ⟨a, i, _, hr.ok, rfl, h2, fun H3 h3 => q H3 (h3.sub (Sub.skip Sub.rf))⟩
  · have hp := (si_cut hh).g0
    walk_at "go"
    refine k_isIns hp hS k1 ?_
    walk_at "go"
    refine ⟨p, s, kd, v, v2, rfl, .inr ⟨R, hh, ?_⟩⟩
    rcases hd with ⟨e1, e2, e3, pa, ps, R', e4, e5, e6, x1, x2, x3, x4, x5, x6, x7, x8, x9, x10, x11⟩ | ⟨e1, e2, e3, e4⟩
    · refine .inl ⟨e1, e2, e3, pa, ps, R', e4, e5, e6, x1, x2, x3, x4, x5, x6, x7, x8, x9, x10, fun d H1 h1 => ?_⟩
      walk_at "go"
      exact x11 d H1 h1
    · refine .inr ⟨e1, e2, e3, fun H1 h1 => ?_⟩
      walk_at "go"
      exact e4 H1 h1
  · have hp := (tw_cut hh).g0
    have RK := hk i hr.ok
    walk_at "go"
    refine k_isIns hp hT k2 ?_
    walk_at "go"
    refine ⟨p, s, kd, v, v2, u, u2, R, rfl, hh, .inl ⟨i, hr, fun H1 h1 => ?_⟩⟩
    refine k_keep RK.em (show 5 < 6 by decide) h1 fun a H2 h2 => ?_
    walk_at "go"
    exact ⟨a, i, _, hr.ok, rfl, h2, fun H3 h3 => q H3 (h3.sub (Sub.skip Sub.rf))⟩
  · have hp := (tw_cut hh).g0
    walk_at "go"
    refine k_isIns hp hT k2 ?_
    walk_at "go"
    refine ⟨p, s, kd, v, v2, [], [], R, rfl, (Has.nilU.mpr (Has.nilU.mpr hh)).sub (Sub.p2 Sub.rf), .inr ⟨s', hd, fun w H1 h1 => ?_⟩⟩
    walk_at "go"
    exact q H1 (Has.nilU.mp (Has.nilU.mp (h1.sub (Sub.p1 (Sub.p1 Sub.rf)))))
section
variable {C CT : Addr} {X : Exs} {p : Addr} {kd : Int} {v v2 : V} {u u2 : U} {i : Nat} {H : Hp} {L R : List U} {Q : VK} {E : XK}
theorem use_s {s : Sid} (hr : DidR s kd v u v2 u2 i) (hh : Has H L) (hs : Sub (sidU C p s :: u :: u2 :: R) L) (q : ∀ H', Has H' (sidU C p s :: u :: u2 :: R) → Q (.str (word i)) H') : sp__law_asked C CT X [.ref p, .int kd, v, v2] H Q E := ⟨p, kd, v, v2, rfl, .inl ⟨s, u, u2, i, R, hr, hh.sub hs, q⟩⟩
theorem use_w {s : Tw} (hr : DoesR s kd v u v2 u2 i) (hh : Has H L) (hs : Sub (twU CT p s :: u :: u2 :: R) L) (q : ∀ H', Has H' (twU CT p s :: u :: u2 :: R) → Q (.str (word i)) H') : sp__law_asked C CT X [.ref p, .int kd, v, v2] H Q E := ⟨p, kd, v, v2, rfl, .inr (.inr (.inl ⟨s, u, u2, i, R, hr, hh.sub hs, q⟩))⟩
theorem use_wd {s s' : Tw} (hr : DoesD s kd s') (hh : Has H L) (hs : Sub (twU CT p s :: R) L) (q : ∀ H', Has H' (twU CT p s' :: R) → Q (.str "told") H') : sp__law_asked C CT X [.ref p, .int kd, v, v2] H Q E := ⟨p, kd, v, v2, rfl, .inr (.inr (.inr ⟨s, s', R, hh.sub hs, hr, q⟩))⟩
theorem use_sd {s : Sid} (hh : Has H L) (hs : Sub (sidU C p s :: R) L) (q : DidD C p s kd v H R fun _ H' => Q (.str "told") H') : sp__law_asked C CT X [.ref p, .int kd, v, v2] H Q E := ⟨p, kd, v, v2, rfl, .inr (.inl ⟨s, R, hh.sub hs, q⟩)⟩
end
def sp_law (K : PySem.W.Frag) : Sp := fun vs H Q _ => ∃ (a : Addr) (ns : List Int), vs = [.ref a] ∧ SqL K H a (ns.map V.int) ∧ ns.length ≤ 63 ∧ ∀ H', Q (.bl true) H'
abbrev TL (K : PySem.W.Frag) (CT C : Addr) (X : Exs) (f : PySem.W.Frag → Addr → Addr → Sp → Sp → Sp → Sp → Sp → Sp → Sp → Sp → Sp → Sp → Sp → TS) : TS := f K CT C (sp__law_town K) (sp_tinit CT) (sp_sinit C) sp__law_pick (sp_senter C) sp__law_odd (sp__law_asked C CT X) (sp_number_now CT) (sp_begin_read CT) (sp_sfinish C) (sp_sread C)
def farOf : Nat → Str
  | 0 => "free" | 1 => "written" | _ => "turned"
structure J25 (s : Sid) (w : Tw) (n : Nat) : Prop where
  wf : s.wf
  hh : s.hands = 3
  z0 : s.s0 = [0, 0]
  wh : s.wh = [(1, 0)]
  op : s.op = if n < 2 then 0 else 1
  far : s.far = farOf n
  th : w.hands = 3
  tc : w.cells = [0, 0]
  tf : w.first = []
  nu : w.number = n
section
variable {s : Sid} {w : Tw} {n : Nat}
theorem J25.l0 (J : J25 s w n) : s.s0.length = 2 := by rw [J.z0]; rfl
theorem J25.tl (J : J25 s w n) : w.cells.length = 2 := by rw [J.tc]; rfl
theorem J25.own (J : J25 s w n) : fd s.wh 1 = some 0 := by rw [J.wh]; exact fd_pos rfl
theorem J25.owns (J : J25 s w n) : (fd s.wh 1).isSome = true := by rw [J.own]; rfl
theorem J25.two (J : J25 s w n) : fd s.wh 2 = none := by rw [J.wh]; rfl
theorem J25.tout (J : J25 s w n) (k : Int) : fd w.first k = none := by rw [J.tf]; rfl
end
theorem J25.begin {s : Sid} {w : Tw} (J : J25 s w 0) (ua : Addr) {ps : Prs} (ok : PrOk2 ps s.s0.length) : J25 (s.began ua ps) { w with number := w.number + 1 } 1 := by
  have w1 : ({ s with ua := ua, way := ps } : Sid).wf := ⟨J.wf.o, J.wf.l0, J.wf.l5, J.wf.l1, J.wf.wl, J.wf.wn, J.wf.wr, ok.l, ok.cr⟩
  have ho : s.op = 0 := J.op
  have w2 := w1.put (1 - s.op)
  have e : s.began ua ps = { s with ua := ua, way := ps, s1 := putAll s.s1 (ps.map (·.2)), far := "written" } := by
    unfold Sid.began Sid.put
    rw [ho]
    rfl
  have w3 : (s.began ua ps).wf := ⟨w2.o, w2.l0, w2.l5, w2.l1, w2.wl, w2.wn, w2.wr, w2.pl, w2.pc⟩
  rw [e] at w3 ⊢
  exact ⟨w3, J.hh, J.z0, J.wh, J.op, rfl, J.th, J.tc, J.tf, by show w.number + 1 = 1; rw [J.nu]; rfl⟩
theorem J25.turn {s : Sid} {w : Tw} (J : J25 s w 1) : J25 { s with op := 1 - s.op, far := "turned" } { w with number := w.number + 1 } 2 := by
  have ho : s.op = 0 := J.op
  exact ⟨⟨.inr (by show 1 - s.op = 1; rw [ho]; rfl), J.wf.l0, J.wf.l5, J.wf.l1, J.wf.wl, J.wf.wn, J.wf.wr, J.wf.pl, J.wf.pc⟩, J.hh, J.z0, J.wh, by show 1 - s.op = 1; rw [ho]; rfl, rfl, J.th, J.tc, J.tf, by show w.number + 1 = 2; rw [J.nu]; rfl⟩
def L25 (C CT t p2 p1 : Addr) (s : Sid) (w : Tw) (ts : Town) (ub uc : U) : List U := sidU C p2 s :: twU CT p1 w :: townU t ts :: ub :: uc :: []
def P25 (C CT a t p2 p1 : Addr) (vb vv : V) (ub : U) (i : Nat) (σ : St) (H : Hp) : Prop := ∃ (s : Sid) (w : Tw) (ts : Town) (uc : U) (w6 w7 w8 w9 : Option V), σ = [some (.ref a), some (.ref t), some (.ref p2), some (.ref p1), some vb, some vv, w6, w7, w8, w9] ∧ Has H (L25 C CT t p2 p1 s w ts ub uc) ∧ ts.ok ∧ J25 s w (min i 2) ∧ (0 < i → ∃ v, w7 = some v ∧ Odd 0 1 v uc)
theorem dpW3 {K : PySem.W.Frag} {H : Hp} (x y z : Str) : DpAll K H [.str x, .str y, .str z] [.str x, .str y, .str z] := .cons (.str x) (.cons (.str y) (.cons (.str z) .nil))
theorem neW3 {K : PySem.W.Frag} {H : Hp} {Q : VK} {a b : Addr} {x y z : Str} (hs : SeqAt.shaped (.list [.str x, .str y, .str z]) = true) (ha : H a = some (.lst [.str x, .str y, .str z])) (hb : H b = some (.lst [.str x, .str y, .str z])) (q : Q (.bl false) H) : rNeD K (.ref a) (.ref b) H Q := k_neSame (.lst (SqL.of ha) (dpW3 x y z)) (.lst (SqL.of hb) (dpW3 x y z)) hs q
theorem one_pair {H : Hp} {a b : Addr} {i j : Int} {L : List U} (h : Has H ([(a, .lst [.ref b])] :: [(b, .tup [.int i, .int j])] :: L)) : Has H (((a, .lst (prR [(b, (i, j))])) :: prU [(b, (i, j))]) :: L) := h.glue
theorem ok_pair {b : Addr} {j : Int} {n : Nat} (hn : 0 < n) (j0 : 0 ≤ j) (j9 : j ≤ 999) : PrOk2 [(b, (0, j))] n := ⟨by simp, by show 1 ≤ 60; decide, fun q hq => by rw [List.mem_singleton.mp hq]; exact ⟨by show (0 : Int) ≤ 0; omega, by show (0 : Int) < n; omega⟩, fun q hq => by rw [List.mem_singleton.mp hq]; exact ⟨j0, j9⟩⟩
theorem k25_turn {K : PySem.W.Frag} {C CT a t p2 p1 : Addr} {X : Exs} {vb vv : V} {ub : U} {i : Nat} {Q : VK} {bk ct : St → Hp → Prop} {σ : St} {H : Hp} (hi : i < 3) (hb : BadP false 2 vb ub) (hv : Odd 0 999 vv []) (h : P25 C CT a t p2 p1 vb vv ub i σ H) :
    TL K CT C X t_law_b0 ⟨P25 C CT a t p2 p1 vb vv ub (i + 1), Q, bk, ct⟩ (σ.set 6 (some (.int i))) H := by
  obtain ⟨s, w, ts, uc0, w6, w7, w8, w9, rfl, hh, tok, J, _⟩ := h
  have hJ := J.hh
  have hT := J.th
  have hl0 := J.l0
  have htl := J.tl
  have hmi : min i 2 = i := by omega
  rw [hmi] at J
  unfold L25 at hh
  show TL K CT C X t_law_b0 _ [some (.ref a), some (.ref t), some (.ref p2), some (.ref p1), some vb, some vv, some (.int i), w7, w8, w9] H
  unfold TL t_law_b0
  walk_at "go"
  refine ⟨t, ts, 2, _, rfl, by omega, hh.sub (show Sub (townU t ts :: sidU C p2 s :: twU CT p1 w :: ub :: []) _ from Sub.p2 (Sub.p0 (Sub.p0 (Sub.p0 (Sub.skip Sub.rf))))), tok, fun vc uc ts1 H1 hc tok1 h1 => ?_⟩
  have hc : Odd 0 1 vc uc := hc
  have hc2 : Odd 0 ((s.s0.length : Int) - 1) vc uc := by rw [hl0]; exact hc
  have hc3 : Odd 0 ((w.cells.length : Int) - 1) vc uc := by rw [htl]; exact hc
  clear hh
  walk_at "go"
  refine k_forR (fun _ σ H => ∃ (ts : Town) (w8 w9 : Option V), σ = [some (.ref a), some (.ref t), some (.ref p2), some (.ref p1), some vb, some vv, some (.int i), some vc, w8, w9] ∧ Has H (L25 C CT t p2 p1 s w ts ub uc) ∧ ts.ok) ⟨ts1, _, _, rfl, h1.sub (Sub.p2 (Sub.p2 (Sub.p1 (Sub.p1 (Sub.p0 Sub.rf))))), tok1⟩ (by omega) (fun z σ H hz hP => ?_) (fun σ H hP => ?_)
  · obtain ⟨ts2, w8, w9, rfl, h2, tok2⟩ := hP
    unfold L25 at h2
    clear h1
    show tIfS _ _ _ _ [some (.ref a), some (.ref t), some (.ref p2), some (.ref p1), some vb, some vv, some (.int i), some vc, some (.int z), w9] H
    walk_at "go"
    refine ⟨t, ts2, 3, _, rfl, by omega, h2.sub (show Sub (townU t ts2 :: sidU C p2 s :: twU CT p1 w :: ub :: uc :: []) _ from Sub.p2 Sub.rf), tok2, fun v3 u3 ts3 H3 hv3 tok3 h3 => ?_⟩
    have hv3 : Odd 0 (s.hands - 1) v3 u3 := by rw [hJ]; exact hv3
    have hr : DidR s z v3 u3 vc uc 1 := by
      rcases (by omega : z = 0 ∨ z = 1 ∨ z = 2) with h | h | h <;> subst h
      · exact .e (.hand hv3)
      · exact .l (.hand hv3)
      · exact .r (.lk (.hand hv3))
    clear h2
    walk_at "go"
    refine use_s (R := townU t ts3 :: twU CT p1 w :: ub :: []) hr h3 (Sub.p2 (Sub.p0 (Sub.p3 Sub.rf))) fun H4 h4 => ?_
    have h5 := Has.nilU.mpr h4
    clear h3 h4
    walk_at "go"
    refine ifN (by decide +kernel) ?_
    walk_at "go"
    have h3h : Odd 0 (w.hands - 1) (.int 3) [] := .int 3 (by omega)
    have hr2 : DoesR w z (.int 3) [] vc uc 1 := by
      rcases (by omega : z = 0 ∨ z = 1 ∨ z = 2) with h | h | h <;> subst h
      · exact .b (.hand h3h)
      · exact .t (.lk (.hand h3h))
      · exact .s (.hand h3h)
    refine use_w (R := sidU C p2 s :: u3 :: townU t ts3 :: ub :: []) hr2 h5 (Sub.p5 (Sub.p0 (Sub.p2 Sub.rf))) fun H6 h6 => ?_
    clear h5
    walk_at "go"
    refine ifN (by decide +kernel) ?_
    walk_at "go"
    refine ⟨ts3, _, _, rfl, h6.sub (show Sub (L25 C CT t p2 p1 s w ts3 ub uc) _ from Sub.p3 (Sub.p0 (Sub.p3 (Sub.p3 (Sub.p1 (Sub.skip (Sub.skip Sub.rf))))))), tok3⟩
  obtain ⟨ts2, w8, w9, rfl, h2, tok2⟩ := hP
  clear h1
  have h3 := Has.nilU.mpr (Has.nilU.mpr h2)
  unfold L25 at h3
  clear h2
  walk_at "go"
  refine use_s (v2 := .int 0) (u2 := []) (R := twU CT p1 w :: townU t ts2 :: ub :: uc :: []) (.e (.isin (by decide) (by omega) J.owns)) h3 (Sub.p2 (Sub.p0 (Sub.p0 Sub.rf))) fun H4 h4 => ?_
  clear h3
  walk_at "go"
  refine use_s (v2 := .int 0) (u2 := []) (R := twU CT p1 w :: townU t ts2 :: ub :: uc :: []) (.l (.out (by decide) (by omega) J.two)) h4 Sub.rf fun H5 h5 => ?_
  clear h4
  walk_at "go"
  refine use_s (R := twU CT p1 w :: townU t ts2 :: ub :: [] :: []) (.r (.lk (.out (by decide) (by omega) J.two))) h5 (show Sub (sidU C p2 s :: [] :: uc :: _) _ from Sub.p0 (Sub.p0 (Sub.p4 (Sub.p1 (Sub.p1 (Sub.p1 Sub.rf)))))) fun H6 h6 => ?_
  clear h5
  walk_at "go"
  rename_i d7 H7 h7 d8 H8 h8
  refine neW3 (by decide +kernel) h8.g1 h8.g0 ?_
  have h9 := h8.sub (show Sub (sidU C p2 s :: [] :: uc :: twU CT p1 w :: townU t ts2 :: ub :: [] :: []) _ from Sub.skip (Sub.skip Sub.rf))
  clear h6 h7 h8
  walk_at "go"
  refine use_s (R := twU CT p1 w :: townU t ts2 :: ub :: [] :: []) (.r (.cell (by decide) (by omega) J.owns hc2)) h9 Sub.rf fun H10 h10 => ?_
  clear h9
  walk_at "go"
  refine ifN (by decide +kernel) ?_
  walk_at "go"
  refine ⟨t, ts2, 2, _, rfl, by omega, h10.sub (show Sub (townU t ts2 :: sidU C p2 s :: uc :: twU CT p1 w :: ub :: [] :: []) _ from Sub.p4 (Sub.p0 (Sub.p1 (Sub.p1 (Sub.p1 (Sub.p0 (Sub.skip Sub.rf))))))), tok2, fun v11 u11 ts11 H11 hv11 tok11 h11 => ?_⟩
  clear h10
  walk_at "go"
  refine use_s (v2 := .int 0) (u2 := []) (R := townU t ts11 :: uc :: twU CT p1 w :: ub :: []) (.o (.num hv11)) h11 (Sub.p2 (Sub.p0 (Sub.p4 Sub.rf))) fun H12 h12 => ?_
  have h13 : Has H12 (sidU C p2 s :: ub :: [] :: townU t ts11 :: uc :: twU CT p1 w :: []) := h12.sub (Sub.p0 (Sub.p5 (Sub.p1 (Sub.p1 (Sub.p1 (Sub.p1 (Sub.skip Sub.rf)))))))
  clear h11 h12
  walk_at "go"
  refine ifN (by decide +kernel) ?_
  walk_at "go"
  have hb2 : BadP false s.s0.length vb ub := by rw [hl0]; exact hb
  refine use_s (v2 := .int 0) (u2 := []) (R := townU t ts11 :: uc :: twU CT p1 w :: []) (.b (.pairs hb2)) h13 Sub.rf fun H14 h14 => ?_
  clear h13
  walk_at "go"
  refine ifN (by decide +kernel) ?_
  have hfar := J.far
  have hnu := J.nu
  have hop := J.op
  rcases (by omega : i = 0 ∨ i = 1 ∨ i = 2) with h | h | h <;> subst h
  · have hfar : s.far = "free" := hfar
    have hnu : w.number = 0 := hnu
    walk_at "go"
    refine ifN (by decide) ?_
    walk_at "go"
    refine ifY (by decide) ?_
    walk_at "go"
    refine use_s (v := .int 0) (u := []) (v2 := .int 0) (u2 := ub) (R := townU t ts11 :: uc :: twU CT p1 w :: []) (.t (.now (by rw [hfar]; decide +kernel))) h14 (Sub.p0 (Sub.p1 (Sub.p0 Sub.rf))) fun H19 h19 => ?_
    clear h14
    have h14 : Has H19 (sidU C p2 s :: ub :: [] :: townU t ts11 :: uc :: twU CT p1 w :: []) := h19.sub (Sub.p0 (Sub.p1 (Sub.p0 Sub.rf)))
    clear h19
    walk_at "go"
    refine ifN (by decide +kernel) ?_
    walk_at "go"
    refine ifY (by decide) ?_
    walk_at "go"
    refine use_s (v := .int 0) (u := []) (v2 := .int 0) (u2 := ub) (R := townU t ts11 :: uc :: twU CT p1 w :: []) (.f (.now (by rw [hfar]; decide +kernel))) h14 (Sub.p0 (Sub.p1 (Sub.p0 Sub.rf))) fun H20 h20 => ?_
    clear h14
    have h14 : Has H20 (sidU C p2 s :: ub :: [] :: townU t ts11 :: uc :: twU CT p1 w :: []) := h20.sub (Sub.p0 (Sub.p1 (Sub.p0 Sub.rf)))
    clear h20
    walk_at "go"
    refine ifN (by decide +kernel) ?_
    walk_at "go"
    refine use_w (R := sidU C p2 s :: ub :: townU t ts11 :: []) (.t (.lk (.out (by decide) (by omega) (J.tout 2)))) h14 (show Sub (twU CT p1 w :: [] :: uc :: _) _ from Sub.p5 (Sub.p2 (Sub.p3 Sub.rf))) fun H21 h21 => ?_
    clear h14
    walk_at "go"
    refine use_w (v2 := .int 0) (u2 := uc) (R := sidU C p2 s :: ub :: townU t ts11 :: []) (.s (.out (by decide) (by omega) (J.tout 2))) h21 Sub.rf fun H22 h22 => ?_
    clear h21
    walk_at "go"
    refine use_w (u2 := []) (R := sidU C p2 s :: ub :: townU t ts11 :: []) (.p (.cell hc3)) h22 (Sub.p0 (Sub.p1 Sub.rf)) fun H23 h23 => ?_
    clear h22
    walk_at "go"
    rename_i d24 H24 h24 d25 H25 h25
    refine neW3 (by decide +kernel) h25.g1 h25.g0 ?_
    have h26 := Has.nilU.mpr (h25.sub (show Sub (twU CT p1 w :: uc :: [] :: sidU C p2 s :: ub :: townU t ts11 :: []) _ from Sub.skip (Sub.skip Sub.rf)))
    clear h23 h24 h25
    walk_at "go"
    refine use_w (u := []) (u2 := []) (R := uc :: sidU C p2 s :: ub :: townU t ts11 :: []) (.p (.val (by decide) (by omega) hv)) h26 (Sub.p1 (Sub.p0 (Sub.p1 Sub.rf))) fun H27 h27 => ?_
    clear h26
    walk_at "go"
    refine ifN (by decide +kernel) ?_
    walk_at "go"
    refine ifY (by decide) ?_
    walk_at "go"
    refine use_w (u := []) (u2 := []) (R := uc :: sidU C p2 s :: ub :: townU t ts11 :: []) (.p (.now (by decide) (by omega) (by decide) (by decide) (by rw [hnu]; decide))) h27 Sub.rf fun H28 h28 => ?_
    clear h27
    walk_at "go"
    refine use_w (v := .int 0) (u := []) (v2 := .int 0) (u2 := []) (R := uc :: sidU C p2 s :: ub :: townU t ts11 :: []) (.e (.now (by rw [hnu]; decide))) h28 Sub.rf fun H29 h29 => ?_
    clear h28
    walk_at "go"
    rename_i d30 H30 h30 d31 H31 h31
    refine neWords (w := "now") 2 (by decide +kernel) h31.g1 h31.g0 rfl rfl ?_
    have h27 := h31.sub (Sub.skip (Sub.skip Sub.rf))
    clear h29 h30 h31
    walk_at "go"
    refine ifN (by decide) ?_
    have hp := (tw_cut h27).g0
    walk_at "go"
    refine ⟨p1, w, _, rfl, h27, ?_⟩
    rw [hnu]
    walk_at "go"
    refine ifN (by decide) ?_
    clear hp
    walk_at "go"
    refine ifY (by decide) ?_
    walk_at "go"
    rename_i d32 H32 h32 d33 H33 h33
    have h34 : Has H33 (sidU C p2 s :: [(d33, .lst (prR [(d32, (0, 7))]))] :: prU [(d32, (0, 7))] :: twU CT p1 w :: uc :: ub :: townU t ts11 :: []) := h33.sub (show Sub (sidU C p2 s :: [(d33, .lst [.ref d32])] :: [(d32, .tup [.int 0, .int 7])] :: twU CT p1 w :: uc :: ub :: townU t ts11 :: []) _ from Sub.p6 (Sub.p0 (Sub.p0 (Sub.p0 (Sub.p2 (Sub.p2 (Sub.p2 (Sub.skip (Sub.skip Sub.rf)))))))))
    clear h27 h32 h33
    refine use_sd h34 Sub.rf (.inl ⟨rfl, J.wf, hfar, d33, [(d32, (0, 7))], _, rfl, ok_pair (by omega) (by decide) (by decide), h34, p2, d33, s, [(d32, (0, 7))], _, rfl, h34, J.wf, hfar, ok_pair (by omega) (by decide) (by decide), fun d35 H35 h35 => ?_⟩)
    clear h34
    walk_at "go"
    refine use_wd (.w (by rw [hnu]; decide)) h35 (show Sub (twU CT p1 w :: _) _ by walk_at "sub") fun H36 h36 => ?_
    clear h35
    walk_at "go"
    refine ifY (by decide) ?_
    walk_at "go"
    rename_i d37 H37 h37 d38 H38 h38 d39 H39 h39
    refine neWords (w := "told") 2 (by decide +kernel) h39.g2 h39.g0 rfl rfl ?_
    clear h36 h37 h38
    walk_at "go"
    exact ⟨(s.began d35 [(d32, (0, 7))]), { w with number := w.number + 1 }, ts11, uc, _, _, _, _, rfl, h39.sub (show Sub (sidU C p2 (s.began d35 [(d32, (0, 7))]) :: twU CT p1 { w with number := w.number + 1 } :: townU t ts11 :: ub :: uc :: []) _ by walk_at "sub"), tok11, J.begin d35 (ok_pair (by omega) (by decide) (by decide)), fun _ => ⟨vc, rfl, hc⟩⟩
  · have hfar : s.far = "written" := hfar
    have hnu : w.number = 1 := hnu
    walk_at "go"
    refine ifY (by decide) ?_
    walk_at "go"
    rename_i d15 H15 h15 d16 H16 h16
    have h17 := one_pair (h16.sub (show Sub ([(d16, .lst [.ref d15])] :: [(d15, .tup [.int 0, .int 1])] :: sidU C p2 s :: ub :: [] :: townU t ts11 :: uc :: twU CT p1 w :: []) _ from Sub.rf))
    refine use_s (v2 := .int 0) (u2 := []) (R := ub :: townU t ts11 :: uc :: twU CT p1 w :: []) (.b (.now (ok_pair (by omega) (by decide) (by decide)) (by rw [hfar]; decide +kernel))) h17 (Sub.p1 (Sub.p0 (Sub.p1 (Sub.p0 Sub.rf)))) fun H18 h18 => ?_
    clear h14 h15 h16 h17
    have h14 : Has H18 (sidU C p2 s :: ub :: [] :: townU t ts11 :: uc :: twU CT p1 w :: []) := h18.sub (Sub.p0 (Sub.p2 (Sub.p1 (Sub.p1 (Sub.p1 (Sub.p1 (Sub.skip Sub.rf)))))))
    clear h18
    walk_at "go"
    refine ifN (by decide +kernel) ?_
    walk_at "go"
    refine ifN (by decide) ?_
    walk_at "go"
    refine ifY (by decide) ?_
    walk_at "go"
    refine use_s (v := .int 0) (u := []) (v2 := .int 0) (u2 := ub) (R := townU t ts11 :: uc :: twU CT p1 w :: []) (.f (.now (by rw [hfar]; decide +kernel))) h14 (Sub.p0 (Sub.p1 (Sub.p0 Sub.rf))) fun H20 h20 => ?_
    clear h14
    have h14 : Has H20 (sidU C p2 s :: ub :: [] :: townU t ts11 :: uc :: twU CT p1 w :: []) := h20.sub (Sub.p0 (Sub.p1 (Sub.p0 Sub.rf)))
    clear h20
    walk_at "go"
    refine ifN (by decide +kernel) ?_
    walk_at "go"
    refine use_w (R := sidU C p2 s :: ub :: townU t ts11 :: []) (.t (.lk (.out (by decide) (by omega) (J.tout 2)))) h14 (show Sub (twU CT p1 w :: [] :: uc :: _) _ from Sub.p5 (Sub.p2 (Sub.p3 Sub.rf))) fun H21 h21 => ?_
    clear h14
    walk_at "go"
    refine use_w (v2 := .int 0) (u2 := uc) (R := sidU C p2 s :: ub :: townU t ts11 :: []) (.s (.out (by decide) (by omega) (J.tout 2))) h21 Sub.rf fun H22 h22 => ?_
    clear h21
    walk_at "go"
    refine use_w (u2 := []) (R := sidU C p2 s :: ub :: townU t ts11 :: []) (.p (.cell hc3)) h22 (Sub.p0 (Sub.p1 Sub.rf)) fun H23 h23 => ?_
    clear h22
    walk_at "go"
    rename_i d24 H24 h24 d25 H25 h25
    refine neW3 (by decide +kernel) h25.g1 h25.g0 ?_
    have h26 := Has.nilU.mpr (h25.sub (show Sub (twU CT p1 w :: uc :: [] :: sidU C p2 s :: ub :: townU t ts11 :: []) _ from Sub.skip (Sub.skip Sub.rf)))
    clear h23 h24 h25
    walk_at "go"
    refine use_w (u := []) (u2 := []) (R := uc :: sidU C p2 s :: ub :: townU t ts11 :: []) (.p (.val (by decide) (by omega) hv)) h26 (Sub.p1 (Sub.p0 (Sub.p1 Sub.rf))) fun H27 h27 => ?_
    clear h26
    walk_at "go"
    refine ifN (by decide +kernel) ?_
    walk_at "go"
    refine ifN (by decide) ?_
    walk_at "go"
    refine ifY (by decide) ?_
    walk_at "go"
    refine use_w (v := .int 0) (u := []) (v2 := .int 0) (u2 := []) (R := uc :: sidU C p2 s :: ub :: townU t ts11 :: []) (.w (.now (by rw [hnu]; decide))) h27 Sub.rf fun H28 h28 => ?_
    clear h27
    have h27 := h28
    clear h28
    walk_at "go"
    refine ifN (by decide +kernel) ?_
    have hp := (tw_cut h27).g0
    walk_at "go"
    refine ⟨p1, w, _, rfl, h27, ?_⟩
    rw [hnu]
    walk_at "go"
    refine ifN (by decide) ?_
    clear hp
    walk_at "go"
    refine ifN (by decide) ?_
    walk_at "go"
    rename_i d32 H32 h32 d33 H33 h33
    have h34 : Has H33 (sidU C p2 s :: [(d33, .lst (prR [(d32, (0, 7))]))] :: prU [(d32, (0, 7))] :: twU CT p1 w :: uc :: ub :: townU t ts11 :: []) := h33.sub (show Sub (sidU C p2 s :: [(d33, .lst [.ref d32])] :: [(d32, .tup [.int 0, .int 7])] :: twU CT p1 w :: uc :: ub :: townU t ts11 :: []) _ from Sub.p6 (Sub.p0 (Sub.p0 (Sub.p0 (Sub.p2 (Sub.p2 (Sub.p2 (Sub.skip (Sub.skip Sub.rf)))))))))
    clear h27 h32 h33
    refine use_sd h34 Sub.rf (.inr ⟨rfl, hfar, h34, fun H35 h35 => ?_⟩)
    clear h34
    walk_at "go"
    refine use_wd (.e (by rw [hnu]; decide)) h35 (show Sub (twU CT p1 w :: _) _ by walk_at "sub") fun H36 h36 => ?_
    clear h35
    walk_at "go"
    refine ifY (by decide) ?_
    walk_at "go"
    rename_i d37 H37 h37 d38 H38 h38 d39 H39 h39
    refine neWords (w := "told") 2 (by decide +kernel) h39.g2 h39.g0 rfl rfl ?_
    clear h36 h37 h38
    walk_at "go"
    exact ⟨{ s with op := 1 - s.op, far := "turned" }, { w with number := w.number + 1 }, ts11, uc, _, _, _, _, rfl, h39.sub (show Sub (sidU C p2 { s with op := 1 - s.op, far := "turned" } :: twU CT p1 { w with number := w.number + 1 } :: townU t ts11 :: ub :: uc :: []) _ by walk_at "sub"), tok11, J.turn, fun _ => ⟨vc, rfl, hc⟩⟩
  · have hfar : s.far = "turned" := hfar
    have hnu : w.number = 2 := hnu
    walk_at "go"
    refine ifY (by decide) ?_
    walk_at "go"
    rename_i d15 H15 h15 d16 H16 h16
    have h17 := one_pair (h16.sub (show Sub ([(d16, .lst [.ref d15])] :: [(d15, .tup [.int 0, .int 1])] :: sidU C p2 s :: ub :: [] :: townU t ts11 :: uc :: twU CT p1 w :: []) _ from Sub.rf))
    refine use_s (v2 := .int 0) (u2 := []) (R := ub :: townU t ts11 :: uc :: twU CT p1 w :: []) (.b (.now (ok_pair (by omega) (by decide) (by decide)) (by rw [hfar]; decide +kernel))) h17 (Sub.p1 (Sub.p0 (Sub.p1 (Sub.p0 Sub.rf)))) fun H18 h18 => ?_
    clear h14 h15 h16 h17
    have h14 : Has H18 (sidU C p2 s :: ub :: [] :: townU t ts11 :: uc :: twU CT p1 w :: []) := h18.sub (Sub.p0 (Sub.p2 (Sub.p1 (Sub.p1 (Sub.p1 (Sub.p1 (Sub.skip Sub.rf)))))))
    clear h18
    walk_at "go"
    refine ifN (by decide +kernel) ?_
    walk_at "go"
    refine ifY (by decide) ?_
    walk_at "go"
    refine use_s (v := .int 0) (u := []) (v2 := .int 0) (u2 := ub) (R := townU t ts11 :: uc :: twU CT p1 w :: []) (.t (.now (by rw [hfar]; decide +kernel))) h14 (Sub.p0 (Sub.p1 (Sub.p0 Sub.rf))) fun H19 h19 => ?_
    clear h14
    have h14 : Has H19 (sidU C p2 s :: ub :: [] :: townU t ts11 :: uc :: twU CT p1 w :: []) := h19.sub (Sub.p0 (Sub.p1 (Sub.p0 Sub.rf)))
    clear h19
    walk_at "go"
    refine ifN (by decide +kernel) ?_
    walk_at "go"
    refine ifN (by decide) ?_
    walk_at "go"
    refine use_w (R := sidU C p2 s :: ub :: townU t ts11 :: []) (.t (.lk (.out (by decide) (by omega) (J.tout 2)))) h14 (show Sub (twU CT p1 w :: [] :: uc :: _) _ from Sub.p5 (Sub.p2 (Sub.p3 Sub.rf))) fun H21 h21 => ?_
    clear h14
    walk_at "go"
    refine use_w (v2 := .int 0) (u2 := uc) (R := sidU C p2 s :: ub :: townU t ts11 :: []) (.s (.out (by decide) (by omega) (J.tout 2))) h21 Sub.rf fun H22 h22 => ?_
    clear h21
    walk_at "go"
    refine use_w (u2 := []) (R := sidU C p2 s :: ub :: townU t ts11 :: []) (.p (.cell hc3)) h22 (Sub.p0 (Sub.p1 Sub.rf)) fun H23 h23 => ?_
    clear h22
    walk_at "go"
    rename_i d24 H24 h24 d25 H25 h25
    refine neW3 (by decide +kernel) h25.g1 h25.g0 ?_
    have h26 := Has.nilU.mpr (h25.sub (show Sub (twU CT p1 w :: uc :: [] :: sidU C p2 s :: ub :: townU t ts11 :: []) _ from Sub.skip (Sub.skip Sub.rf)))
    clear h23 h24 h25
    walk_at "go"
    refine use_w (u := []) (u2 := []) (R := uc :: sidU C p2 s :: ub :: townU t ts11 :: []) (.p (.val (by decide) (by omega) hv)) h26 (Sub.p1 (Sub.p0 (Sub.p1 Sub.rf))) fun H27 h27 => ?_
    clear h26
    walk_at "go"
    refine ifN (by decide +kernel) ?_
    walk_at "go"
    refine ifY (by decide) ?_
    walk_at "go"
    refine use_w (u := []) (u2 := []) (R := uc :: sidU C p2 s :: ub :: townU t ts11 :: []) (.p (.now (by decide) (by omega) (by decide) (by decide) (by rw [hnu]; decide))) h27 Sub.rf fun H28 h28 => ?_
    clear h27
    walk_at "go"
    refine use_w (v := .int 0) (u := []) (v2 := .int 0) (u2 := []) (R := uc :: sidU C p2 s :: ub :: townU t ts11 :: []) (.e (.now (by rw [hnu]; decide))) h28 Sub.rf fun H29 h29 => ?_
    clear h28
    walk_at "go"
    rename_i d30 H30 h30 d31 H31 h31
    refine neWords (w := "now") 2 (by decide +kernel) h31.g1 h31.g0 rfl rfl ?_
    have h27 := h31.sub (Sub.skip (Sub.skip Sub.rf))
    clear h29 h30 h31
    walk_at "go"
    refine ifN (by decide) ?_
    have hp := (tw_cut h27).g0
    walk_at "go"
    refine ⟨p1, w, _, rfl, h27, ?_⟩
    rw [hnu]
    walk_at "go"
    refine ifN (by decide) ?_
    clear hp
    walk_at "go"
    refine ifN (by decide) ?_
    walk_at "go"
    rename_i d32 H32 h32 d33 H33 h33
    have h34 : Has H33 (sidU C p2 s :: [(d33, .lst (prR [(d32, (0, 7))]))] :: prU [(d32, (0, 7))] :: twU CT p1 w :: uc :: ub :: townU t ts11 :: []) := h33.sub (show Sub (sidU C p2 s :: [(d33, .lst [.ref d32])] :: [(d32, .tup [.int 0, .int 7])] :: twU CT p1 w :: uc :: ub :: townU t ts11 :: []) _ from Sub.p6 (Sub.p0 (Sub.p0 (Sub.p0 (Sub.p2 (Sub.p2 (Sub.p2 (Sub.skip (Sub.skip Sub.rf)))))))))
    clear h27 h32 h33
    refine use_s (u := [(d33, .lst (prR [(d32, (0, 7))]))]) (v2 := .int 0) (u2 := prU [(d32, (0, 7))]) (.t (.now (by rw [hfar]; decide +kernel))) h34 Sub.rf fun H35 h35 => ?_
    clear h34
    walk_at "go"
    refine use_w (v := .int 0) (u := uc) (v2 := .int 0) (u2 := ub) (.e (.now (by rw [hnu]; decide))) h35 (show Sub (twU CT p1 w :: uc :: ub :: _) _ by walk_at "sub") fun H36 h36 => ?_
    clear h35
    walk_at "go"
    refine ifN (by decide) ?_
    walk_at "go"
    rename_i d37 H37 h37 d38 H38 h38 d39 H39 h39
    refine neWords (w := "now") 2 (by decide +kernel) h39.g2 h39.g0 rfl rfl ?_
    clear h36 h37 h38
    walk_at "go"
    exact ⟨s, w, ts11, uc, _, _, _, _, rfl, h39.sub (show Sub (sidU C p2 s :: twU CT p1 w :: townU t ts11 :: ub :: uc :: []) _ by walk_at "sub"), tok11, J, fun _ => ⟨vc, rfl, hc⟩⟩
theorem pure_law {K : PySem.W.Frag} {C CT : Addr} {X : Exs} {vs : List V} {H : Hp} {Q : VK} {E : XK} (h : sp_law K vs H Q E) :
    TL K CT C X t_law ⟨fun _ H' => Q .non H', Q, fun _ _ => False, fun _ _ => False⟩ (start ["script", "town", "two", "one", "bad", "value", "step", "cell", "kind", "found"] vs) H := by
  obtain ⟨a, ns, rfl, hs, hl, q⟩ := h
  unfold TL t_law
  walk_at "go"
  refine ⟨a, ns, rfl, hs, hl, fun t ts H1 tok h1 => ?_⟩
  walk_at "go"
  rename_i p2 dx H4 h4
  refine ⟨p2, dx, 3, 2, _, rfl, h4, by decide, by decide, by decide, by decide, fun ra c0 c1 wa ua H5 h5 => ⟨rfl, ?_⟩⟩
  clear h1 h4
  walk_at "go"
  rename_i p1 dy H6 h6
  refine ⟨p1, dy, 3, 2, _, rfl, h6, by decide, by decide, by decide, by decide, fun c2 d2 H7 h7 => ⟨rfl, ?_⟩⟩
  have h8 : Has H7 (townU t ts :: sidU C p2 ⟨dx, ra, c0, c1, wa, ua, 3, [0, 0], [0, 0], 0, [], [], "free"⟩ :: twU CT p1 ⟨dy, c2, d2, 3, [0, 0], 0, []⟩ :: []) := h7.sub (show Sub (townU t ts :: sidU C p2 _ :: twU CT p1 _ :: []) _ by walk_at "sub")
  have w0 : (⟨dx, ra, c0, c1, wa, ua, 3, [0, 0], [0, 0], 0, [], [], "free"⟩ : Sid).wf := ⟨.inl rfl, by show 0 < 2; decide, by show 2 ≤ 5; decide, rfl, by show 0 ≤ 500; decide, List.nodup_nil, fun q hq => (by cases hq), by show 0 ≤ 60; decide, fun q hq => (by cases hq)⟩
  clear h5 h6 h7
  walk_at "go"
  rename_i b0 G0 g0 b1 G1 g1 b2 G2 g2 b3 G3 g3 b4 G4 g4 b5 G5 g5 b6 G6 g6 b7 G7 g7 b8 G8 g8 b9 G9 g9 b10 G10 g10 b11 G11 g11 b12 G12 g12 b13 G13 g13 b14 G14 g14
  clear h8 g0 g1 g2 g3 g4 g5 g6 g7 g8 g9 g10 g11 g12 g13
  refine ⟨t, b14, ts, _, _, rfl, g14.sub (show Sub (townU t ts :: [(b14, _)] :: _) _ from Sub.pull (A := [_, _, _, _, _, _, _, _, _, _, _, _, _, _, _]) (Sub.p0 Sub.rf)), by show 0 < 10; decide, by show 10 ≤ 1000; decide, tok, fun kk vb ts9 H9 hkk tok9 h9 => ?_⟩
  clear g14
  obtain ⟨ub, hb, h10⟩ : ∃ ub, BadP false 2 vb ub ∧ Has H9 (ub :: townU t ts9 :: sidU C p2 ⟨dx, ra, c0, c1, wa, ua, 3, [0, 0], [0, 0], 0, [], [], "free"⟩ :: twU CT p1 ⟨dy, c2, d2, 3, [0, 0], 0, []⟩ :: []) := by
    have one : ∀ {a : Addr} {o : HO}, Sub ([(a, o)] :: townU t ts9 :: sidU C p2 ⟨dx, ra, c0, c1, wa, ua, 3, [0, 0], [0, 0], 0, [], [], "free"⟩ :: twU CT p1 ⟨dy, c2, d2, 3, [0, 0], 0, []⟩ :: []) _ → Has H9 ([(a, o)] :: _) := fun h => h9.sub h
    have two : ∀ {a b : Addr} {o o2 : HO}, Sub ([(a, o)] :: [(b, o2)] :: townU t ts9 :: sidU C p2 ⟨dx, ra, c0, c1, wa, ua, 3, [0, 0], [0, 0], 0, [], [], "free"⟩ :: twU CT p1 ⟨dy, c2, d2, 3, [0, 0], 0, []⟩ :: []) _ → Has H9 ([(a, o), (b, o2)] :: townU t ts9 :: sidU C p2 ⟨dx, ra, c0, c1, wa, ua, 3, [0, 0], [0, 0], 0, [], [], "free"⟩ :: twU CT p1 ⟨dy, c2, d2, 3, [0, 0], 0, []⟩ :: []) := fun h => (h9.sub h).glue
    have nul : Has H9 ([] :: townU t ts9 :: sidU C p2 ⟨dx, ra, c0, c1, wa, ua, 3, [0, 0], [0, 0], 0, [], [], "free"⟩ :: twU CT p1 ⟨dy, c2, d2, 3, [0, 0], 0, []⟩ :: []) := Has.nilU.mpr (h9.sub (show Sub (townU t ts9 :: sidU C p2 _ :: twU CT p1 _ :: []) _ by walk_at "sub"))
    match kk, hkk with
    | 0, hk => rw [← Option.some.inj hk]; exact ⟨_, .nil b0, one (by walk_at "sub")⟩
    | 1, hk => rw [← Option.some.inj hk]; exact ⟨_, .key b2 b1 (.int 2) 1 (.int 2 (by decide)), two (by walk_at "sub")⟩
    | 2, hk => rw [← Option.some.inj hk]; exact ⟨_, .val b4 b3 0 (.int 1000) (by decide) (by decide) (.int 1000 (by decide)), two (by walk_at "sub")⟩
    | 3, hk => rw [← Option.some.inj hk]; exact ⟨_, .sh1 b6 _ _ (.l2 b5 0 1), two (by walk_at "sub")⟩
    | 4, hk => rw [← Option.some.inj hk]; exact ⟨_, .sh1 b8 _ _ (.t1 b7 0), two (by walk_at "sub")⟩
    | 5, hk => rw [← Option.some.inj hk]; exact ⟨_, .non, nul⟩
    | 6, hk => rw [← Option.some.inj hk]; exact ⟨_, .tup b10 _, one (by walk_at "sub")⟩
    | 7, hk => rw [← Option.some.inj hk]; exact ⟨_, .val b12 b11 0 _ (by decide) (by decide) (.bl _), two (by walk_at "sub")⟩
    | 8, hk => rw [← Option.some.inj hk]; exact ⟨_, .int 5, nul⟩
    | 9, hk => rw [← Option.some.inj hk]; exact ⟨_, .dct b13, one (by walk_at "sub")⟩
  clear h9
  walk_at "go"
  rename_i d11 H11 h11
  refine ⟨t, d11, ts9, _, _, rfl, h11.sub (show Sub (townU t ts9 :: [(d11, _)] :: ub :: sidU C p2 _ :: twU CT p1 _ :: []) _ by walk_at "sub"), by show 0 < 5; decide, by show 5 ≤ 1000; decide, tok9, fun k2 vv ts12 H12 hk2 tok12 h12 => ?_⟩
  have hv : Odd 0 999 vv [] := by
    match k2, hk2 with
    | 0, hk => rw [← Option.some.inj hk]; exact .int _ (by decide)
    | 1, hk => rw [← Option.some.inj hk]; exact .int _ (by decide)
    | 2, hk => rw [← Option.some.inj hk]; exact .bl _
    | 3, hk => rw [← Option.some.inj hk]; exact .non
    | 4, hk => rw [← Option.some.inj hk]; exact .str _
  clear h10 h11
  have h13 := h12.sub (show Sub (sidU C p2 ⟨dx, ra, c0, c1, wa, ua, 3, [0, 0], [0, 0], 0, [], [], "free"⟩ :: twU CT p1 ⟨dy, c2, d2, 3, [0, 0], 0, []⟩ :: townU t ts12 :: ub :: []) _ by walk_at "sub")
  clear h12
  have hp := (si_cut h13).g0
  walk_at "go"
  refine ⟨p2, _, 1, _, rfl, h13, w0, by decide, by show (1 : Int) < 3; decide, rfl, fun H14 h14 => ?_⟩
  have w1 : (⟨dx, ra, c0, c1, wa, ua, 3, [0, 0], [0, 0], 0, [(1, 0)], [], "free"⟩ : Sid).wf := ⟨.inl rfl, by show 0 < 2; decide, by show 2 ≤ 5; decide, rfl, by show 1 ≤ 500; decide, by simp, fun q hq => by rw [List.mem_singleton.mp hq]; exact .inl rfl, by show 0 ≤ 60; decide, fun q hq => (by cases hq)⟩
  have h14 : Has H14 (sidU C p2 ⟨dx, ra, c0, c1, wa, ua, 3, [0, 0], [0, 0], 0, [(1, 0)], [], "free"⟩ :: twU CT p1 ⟨dy, c2, d2, 3, [0, 0], 0, []⟩ :: townU t ts12 :: ub :: []) := h14
  clear h13 hp
  walk_at "go"
  refine k_forR (fun i => P25 C CT a t p2 p1 vb vv ub i) ⟨_, _, ts12, [], _, _, _, _, rfl, (Has.nilU.mpr h14).sub (Sub.p1 (Sub.p1 (Sub.p1 (Sub.p1 (Sub.p0 Sub.rf))))), tok12, ⟨w1, rfl, rfl, rfl, rfl, rfl, rfl, rfl, rfl, rfl⟩, fun h => absurd h (by decide)⟩ (by omega) (fun i σ H hi hP => k25_turn (by omega) hb hv hP) (fun σ H hP => ?_)
  obtain ⟨s, w, ts15, uc, w6, w7, w8, w9, rfl, h15, tok15, J, hcv⟩ := hP
  obtain ⟨vc, rfl, hc⟩ := hcv (by decide)
  have J : J25 s w 2 := J
  have hl0 := J.l0
  have htl := J.tl
  have hc3 : Odd 0 ((w.cells.length : Int) - 1) vc uc := by rw [htl]; exact hc
  unfold L25 at h15
  have h16 := h15.sub (show Sub (twU CT p1 w :: sidU C p2 s :: uc :: []) _ from Sub.p1 (Sub.p0 (Sub.skip (Sub.skip (Sub.p0 Sub.rf)))))
  clear h14 h15
  have hp := (tw_cut h16).g0
  walk_at "go"
  refine ⟨p1, w, 2, _, rfl, h16, by decide, by rw [J.th]; decide, by rw [J.tf]; decide, fun H17 h17 => ?_⟩
  have hfi : (fd ({ w with first := pu w.first 2 w.number } : Tw).first 2).isSome = true := by
    show (fd (pu w.first 2 w.number) 2).isSome = true
    rw [fd_pu, if_pos rfl]; rfl
  have hth : ({ w with first := pu w.first 2 w.number } : Tw).hands = 3 := J.th
  have hc4 : Odd 0 ((({ w with first := pu w.first 2 w.number } : Tw).cells.length : Int) - 1) vc uc := hc3
  generalize ({ w with first := pu w.first 2 w.number } : Tw) = w2 at *
  clear h16 hp
  have h18 := h17.sub (show Sub (sidU C p2 s :: twU CT p1 w2 :: uc :: []) _ from Sub.p1 (Sub.p0 Sub.rf))
  clear h17
  have hp := (si_cut h18).g0
  have hop : s.op = 1 := J.op
  walk_at "go"
  refine ⟨p2, s, _, rfl, h18, J.wf, J.far, fun _ H19 h19 => ?_, fun hx => absurd (by rw [hop, J.wh]; exact List.mem_singleton.mpr rfl) hx⟩
  have h20 := Has.nilU.mpr h19
  clear h18 h19 hp
  walk_at "go"
  refine ifY (by decide) ?_
  walk_at "go"
  refine use_w (R := sidU C p2 s :: []) (.t (.cell (by decide) (by rw [hth]; decide) hfi hc4)) h20 (Sub.p2 (Sub.p0 (Sub.p1 Sub.rf))) fun H21 h21 => ?_
  have h22 := h21.sub (show Sub (sidU C p2 s :: []) _ by walk_at "sub")
  clear h20 h21
  have hp := (si_cut h22).g0
  walk_at "go"
  refine ifY (by decide +kernel) ?_
  walk_at "go"
  refine ⟨p2, s, 1, 0, 0, _, rfl, h22, J.wf, by decide, by rw [J.hh]; decide, J.own, by decide, by rw [hl0]; decide, ?_⟩
  have e : (s.side 0).getD (0 : Int).toNat 0 = 0 := by
    show s.s0.getD 0 0 = 0
    rw [J.z0]; rfl
  rw [e]
  walk_at "go"
  exact q _
end La
namespace La
open PySem L2 Sy
def top (i : Nat) : Stmt := PySem.Challenge.pw_lastreader_k25_sides_refused.main.body.getD i (.Pass ⟨0, 0, 0, 0⟩)
abbrev s__law_town : Stmt := top 23
theorem sc__law_town : FnScope ["script"] ["script"] (defScope s__law_town) := ⟨rfl, rfl, rfl, by decide +kernel, rfl, by decide +kernel, by decide +kernel⟩
abbrev s_is_whole : Stmt := top 13
theorem sc_is_whole : FnScope ["thing", "low", "high"] ["thing", "low", "high"] (defScope s_is_whole) := ⟨rfl, rfl, rfl, by decide +kernel, rfl, by decide +kernel, by decide +kernel⟩
abbrev s_look_number : Stmt := top 14
theorem sc_look_number : FnScope ["thing", "low", "high"] ["thing", "low", "high"] (defScope s_look_number) := ⟨rfl, rfl, rfl, by decide +kernel, rfl, by decide +kernel, by decide +kernel⟩
abbrev s_Twice_init : Stmt := inClass (top 21) 0
theorem sc_Twice_init : FnScope ["self", "hands", "cells"] ["self", "hands", "cells"] (defScope s_Twice_init) := ⟨rfl, rfl, rfl, by decide +kernel, rfl, by decide +kernel, by decide +kernel⟩
abbrev s_Sides_init : Stmt := inClass (top 19) 0
theorem sc_Sides_init : FnScope ["self", "hands", "cells"] ["self", "hands", "cells"] (defScope s_Sides_init) := ⟨rfl, rfl, rfl, by decide +kernel, rfl, by decide +kernel, by decide +kernel⟩
abbrev s__law_draw : Stmt := top 24
theorem sc__law_draw : FnScope ["town", "many", "row", "at", "cell", "mixed"] ["town", "many"] (defScope s__law_draw) := ⟨rfl, rfl, rfl, by decide +kernel, rfl, by decide +kernel, by decide +kernel⟩
abbrev s__law_pick : Stmt := top 25
theorem sc__law_pick : FnScope ["town", "some"] ["town", "some"] (defScope s__law_pick) := ⟨rfl, rfl, rfl, by decide +kernel, rfl, by decide +kernel, by decide +kernel⟩
abbrev s_Sides_look_hand : Stmt := inClass (top 19) 1
theorem sc_Sides_look_hand : FnScope ["self", "hand"] ["self", "hand"] (defScope s_Sides_look_hand) := ⟨rfl, rfl, rfl, by decide +kernel, rfl, by decide +kernel, by decide +kernel⟩
abbrev s_Sides_enter : Stmt := inClass (top 19) 3
theorem sc_Sides_enter : FnScope ["self", "hand"] ["self", "hand"] (defScope s_Sides_enter) := ⟨rfl, rfl, rfl, by decide +kernel, rfl, by decide +kernel, by decide +kernel⟩
abbrev s__law_odd : Stmt := top 27
theorem sc__law_odd : FnScope ["town", "most"] ["town", "most"] (defScope s__law_odd) := ⟨rfl, rfl, rfl, by decide +kernel, rfl, by decide +kernel, by decide +kernel⟩
abbrev s_Sides_look_in : Stmt := inClass (top 19) 4
theorem sc_Sides_look_in : FnScope ["self", "hand"] ["self", "hand"] (defScope s_Sides_look_in) := ⟨rfl, rfl, rfl, by decide +kernel, rfl, by decide +kernel, by decide +kernel⟩
abbrev s_Sides_leave : Stmt := inClass (top 19) 5
theorem sc_Sides_leave : FnScope ["self", "hand"] ["self", "hand"] (defScope s_Sides_leave) := ⟨rfl, rfl, rfl, by decide +kernel, rfl, by decide +kernel, by decide +kernel⟩
abbrev s_Sides_read : Stmt := inClass (top 19) 6
theorem sc_Sides_read : FnScope ["self", "hand", "cell"] ["self", "hand", "cell"] (defScope s_Sides_read) := ⟨rfl, rfl, rfl, by decide +kernel, rfl, by decide +kernel, by decide +kernel⟩
abbrev s_Sides_look_pairs : Stmt := inClass (top 19) 2
theorem sc_Sides_look_pairs : FnScope ["self", "pairs", "fine", "one", "most"] ["self", "pairs"] (defScope s_Sides_look_pairs) := ⟨rfl, rfl, rfl, by decide +kernel, rfl, by decide +kernel, by decide +kernel⟩
abbrev s_Sides_put_all : Stmt := inClass (top 19) 8
theorem sc_Sides_put_all : FnScope ["self", "side", "cell", "value"] ["self", "side"] (defScope s_Sides_put_all) := ⟨rfl, rfl, rfl, by decide +kernel, rfl, by decide +kernel, by decide +kernel⟩
abbrev s_Sides_begin : Stmt := inClass (top 19) 7
theorem sc_Sides_begin : FnScope ["self", "pairs"] ["self", "pairs"] (defScope s_Sides_begin) := ⟨rfl, rfl, rfl, by decide +kernel, rfl, by decide +kernel, by decide +kernel⟩
abbrev s_Sides_turn : Stmt := inClass (top 19) 9
theorem sc_Sides_turn : FnScope ["self"] ["self"] (defScope s_Sides_turn) := ⟨rfl, rfl, rfl, by decide +kernel, rfl, by decide +kernel, by decide +kernel⟩
abbrev s_Sides_finish : Stmt := inClass (top 19) 10
theorem sc_Sides_finish : FnScope ["self"] ["self"] (defScope s_Sides_finish) := ⟨rfl, rfl, rfl, by decide +kernel, rfl, by decide +kernel, by decide +kernel⟩
abbrev s_Sides_hands_on : Stmt := inClass (top 19) 12
theorem sc_Sides_hands_on : FnScope ["self", "side", "hand"] ["self", "side"] (defScope s_Sides_hands_on) := ⟨rfl, rfl, rfl, by decide +kernel, rfl, by decide +kernel, by decide +kernel⟩
abbrev s__law_did : Stmt := top 28
theorem sc__law_did : FnScope ["some", "kind", "one", "other"] ["some", "kind", "one", "other"] (defScope s__law_did) := ⟨rfl, rfl, rfl, by decide +kernel, rfl, by decide +kernel, by decide +kernel⟩
abbrev s_Twice_look_hand : Stmt := inClass (top 21) 2
theorem sc_Twice_look_hand : FnScope ["self", "hand"] ["self", "hand"] (defScope s_Twice_look_hand) := ⟨rfl, rfl, rfl, by decide +kernel, rfl, by decide +kernel, by decide +kernel⟩
abbrev s_Twice_begin_read : Stmt := inClass (top 21) 6
theorem sc_Twice_begin_read : FnScope ["self", "hand"] ["self", "hand"] (defScope s_Twice_begin_read) := ⟨rfl, rfl, rfl, by decide +kernel, rfl, by decide +kernel, by decide +kernel⟩
abbrev s_Twice_look_cell : Stmt := inClass (top 21) 1
theorem sc_Twice_look_cell : FnScope ["self", "cell"] ["self", "cell"] (defScope s_Twice_look_cell) := ⟨rfl, rfl, rfl, by decide +kernel, rfl, by decide +kernel, by decide +kernel⟩
abbrev s_Twice_take : Stmt := inClass (top 21) 7
theorem sc_Twice_take : FnScope ["self", "hand", "cell"] ["self", "hand", "cell"] (defScope s_Twice_take) := ⟨rfl, rfl, rfl, by decide +kernel, rfl, by decide +kernel, by decide +kernel⟩
abbrev s_Twice_sure : Stmt := inClass (top 21) 8
theorem sc_Twice_sure : FnScope ["self", "hand", "first"] ["self", "hand"] (defScope s_Twice_sure) := ⟨rfl, rfl, rfl, by decide +kernel, rfl, by decide +kernel, by decide +kernel⟩
abbrev s_Twice_put : Stmt := inClass (top 21) 4
theorem sc_Twice_put : FnScope ["self", "cell", "value"] ["self", "cell", "value"] (defScope s_Twice_put) := ⟨rfl, rfl, rfl, by decide +kernel, rfl, by decide +kernel, by decide +kernel⟩
abbrev s_Twice_begin_write : Stmt := inClass (top 21) 3
theorem sc_Twice_begin_write : FnScope ["self"] ["self"] (defScope s_Twice_begin_write) := ⟨rfl, rfl, rfl, by decide +kernel, rfl, by decide +kernel, by decide +kernel⟩
abbrev s_Twice_end_write : Stmt := inClass (top 21) 5
theorem sc_Twice_end_write : FnScope ["self"] ["self"] (defScope s_Twice_end_write) := ⟨rfl, rfl, rfl, by decide +kernel, rfl, by decide +kernel, by decide +kernel⟩
abbrev s__law_does : Stmt := top 29
theorem sc__law_does : FnScope ["some", "kind", "one", "other"] ["some", "kind", "one", "other"] (defScope s__law_does) := ⟨rfl, rfl, rfl, by decide +kernel, rfl, by decide +kernel, by decide +kernel⟩
abbrev s__law_refusal : Stmt := top 26
theorem sc__law_refusal : FnScope ["caught", "kinds", "words"] ["caught"] (defScope s__law_refusal) := ⟨rfl, rfl, rfl, by decide +kernel, rfl, by decide +kernel, by decide +kernel⟩
abbrev s__law_asked : Stmt := top 30
theorem sc__law_asked : FnScope ["some", "kind", "one", "other", "caught", "e"] ["some", "kind", "one", "other"] (defScope s__law_asked) := ⟨rfl, rfl, rfl, by decide +kernel, rfl, by decide +kernel, by decide +kernel⟩
abbrev s_Twice_number_now : Stmt := inClass (top 21) 9
theorem sc_Twice_number_now : FnScope ["self"] ["self"] (defScope s_Twice_number_now) := ⟨rfl, rfl, rfl, by decide +kernel, rfl, by decide +kernel, by decide +kernel⟩
abbrev s_law : Stmt := top 31
theorem sc_law : FnScope ["script", "town", "two", "one", "bad", "value", "step", "cell", "kind", "found"] ["script"] (defScope s_law) := ⟨rfl, rfl, rfl, by decide +kernel, rfl, by decide +kernel, by decide +kernel⟩
structure Adr where
  ds_Twice_init : List Value
  ds_Sides_init : List Value
  c_Twice : Addr
  c_Sides : Addr
  c_NoHand : Addr
  c_IsIn : Addr
  c_NotIn : Addr
  c_NoCell : Addr
  c_BadPairs : Addr
  c_NotNow : Addr
  c_BadNumber : Addr
  c_NoMark : Addr
  c_Gone : Addr
  c_NotHeld : Addr
  c_StoreError : Addr
  f__law_town : Addr
  d__law_town : FuncData
  f_is_whole : Addr
  d_is_whole : FuncData
  f_look_number : Addr
  d_look_number : FuncData
  f_Twice_init : Addr
  d_Twice_init : FuncData
  f_Sides_init : Addr
  d_Sides_init : FuncData
  f__law_draw : Addr
  d__law_draw : FuncData
  f__law_pick : Addr
  d__law_pick : FuncData
  f_Sides_look_hand : Addr
  d_Sides_look_hand : FuncData
  f_Sides_enter : Addr
  d_Sides_enter : FuncData
  f__law_odd : Addr
  d__law_odd : FuncData
  f_Sides_look_in : Addr
  d_Sides_look_in : FuncData
  f_Sides_leave : Addr
  d_Sides_leave : FuncData
  f_Sides_read : Addr
  d_Sides_read : FuncData
  f_Sides_look_pairs : Addr
  d_Sides_look_pairs : FuncData
  f_Sides_put_all : Addr
  d_Sides_put_all : FuncData
  f_Sides_begin : Addr
  d_Sides_begin : FuncData
  f_Sides_turn : Addr
  d_Sides_turn : FuncData
  f_Sides_finish : Addr
  d_Sides_finish : FuncData
  f_Sides_hands_on : Addr
  d_Sides_hands_on : FuncData
  f__law_did : Addr
  d__law_did : FuncData
  f_Twice_look_hand : Addr
  d_Twice_look_hand : FuncData
  f_Twice_begin_read : Addr
  d_Twice_begin_read : FuncData
  f_Twice_look_cell : Addr
  d_Twice_look_cell : FuncData
  f_Twice_take : Addr
  d_Twice_take : FuncData
  f_Twice_sure : Addr
  d_Twice_sure : FuncData
  f_Twice_put : Addr
  d_Twice_put : FuncData
  f_Twice_begin_write : Addr
  d_Twice_begin_write : FuncData
  f_Twice_end_write : Addr
  d_Twice_end_write : FuncData
  f__law_does : Addr
  d__law_does : FuncData
  f__law_refusal : Addr
  d__law_refusal : FuncData
  f__law_asked : Addr
  d__law_asked : FuncData
  f_Twice_number_now : Addr
  d_Twice_number_now : FuncData
  f_law : Addr
  d_law : FuncData
  t_MOST_CELLS : Tok
  t_MOST_HANDS : Tok
  t_MOST_VALUE : Tok
structure Txt (K : PySem.W.Frag) (mg : Str → Option Value) (D : Adr) : Prop where
  F__law_town : Fun K "_law_town" "_law_town" s__law_town D.f__law_town D.d__law_town
  b__law_town : Binds K D.d__law_town ["script"] []
  g__law_town : mg "_law_town" = some (.ref D.f__law_town)
  F_is_whole : Fun K "is_whole" "is_whole" s_is_whole D.f_is_whole D.d_is_whole
  b_is_whole : Binds K D.d_is_whole ["thing", "low", "high"] []
  g_is_whole : mg "is_whole" = some (.ref D.f_is_whole)
  F_look_number : Fun K "look_number" "look_number" s_look_number D.f_look_number D.d_look_number
  b_look_number : Binds K D.d_look_number ["thing", "low", "high"] []
  g_look_number : mg "look_number" = some (.ref D.f_look_number)
  F_Twice_init : FunD K "__init__" "Twice.__init__" (defArgs s_Twice_init) (defBody s_Twice_init) (defScope s_Twice_init) [.int 3] [] D.f_Twice_init D.d_Twice_init
  bd_Twice_init : Binds K D.d_Twice_init ["self", "hands", "cells"] D.ds_Twice_init
  vd_Twice_init : Vals [.int 3] D.ds_Twice_init
  kb_Twice_init : KBn K D.d_Twice_init ["self", "hands", "cells"] 2 ["cells"] (fun us ws => us ++ ws) (fun vs zs => vs ++ zs)
  b_Twice_init : Binds K D.d_Twice_init ["self", "hands", "cells"] []
  F_Sides_init : FunD K "__init__" "Sides.__init__" (defArgs s_Sides_init) (defBody s_Sides_init) (defScope s_Sides_init) [.int 3] [] D.f_Sides_init D.d_Sides_init
  bd_Sides_init : Binds K D.d_Sides_init ["self", "hands", "cells"] D.ds_Sides_init
  vd_Sides_init : Vals [.int 3] D.ds_Sides_init
  kb_Sides_init : KBn K D.d_Sides_init ["self", "hands", "cells"] 2 ["cells"] (fun us ws => us ++ ws) (fun vs zs => vs ++ zs)
  b_Sides_init : Binds K D.d_Sides_init ["self", "hands", "cells"] []
  F__law_draw : Fun K "_law_draw" "_law_draw" s__law_draw D.f__law_draw D.d__law_draw
  b__law_draw : Binds K D.d__law_draw ["town", "many"] []
  g__law_draw : mg "_law_draw" = some (.ref D.f__law_draw)
  F__law_pick : Fun K "_law_pick" "_law_pick" s__law_pick D.f__law_pick D.d__law_pick
  b__law_pick : Binds K D.d__law_pick ["town", "some"] []
  g__law_pick : mg "_law_pick" = some (.ref D.f__law_pick)
  F_Sides_look_hand : Fun K "look_hand" "Sides.look_hand" s_Sides_look_hand D.f_Sides_look_hand D.d_Sides_look_hand
  b_Sides_look_hand : Binds K D.d_Sides_look_hand ["self", "hand"] []
  F_Sides_enter : Fun K "enter" "Sides.enter" s_Sides_enter D.f_Sides_enter D.d_Sides_enter
  b_Sides_enter : Binds K D.d_Sides_enter ["self", "hand"] []
  F__law_odd : Fun K "_law_odd" "_law_odd" s__law_odd D.f__law_odd D.d__law_odd
  b__law_odd : Binds K D.d__law_odd ["town", "most"] []
  g__law_odd : mg "_law_odd" = some (.ref D.f__law_odd)
  F_Sides_look_in : Fun K "look_in" "Sides.look_in" s_Sides_look_in D.f_Sides_look_in D.d_Sides_look_in
  b_Sides_look_in : Binds K D.d_Sides_look_in ["self", "hand"] []
  F_Sides_leave : Fun K "leave" "Sides.leave" s_Sides_leave D.f_Sides_leave D.d_Sides_leave
  b_Sides_leave : Binds K D.d_Sides_leave ["self", "hand"] []
  F_Sides_read : Fun K "read" "Sides.read" s_Sides_read D.f_Sides_read D.d_Sides_read
  b_Sides_read : Binds K D.d_Sides_read ["self", "hand", "cell"] []
  F_Sides_look_pairs : Fun K "look_pairs" "Sides.look_pairs" s_Sides_look_pairs D.f_Sides_look_pairs D.d_Sides_look_pairs
  b_Sides_look_pairs : Binds K D.d_Sides_look_pairs ["self", "pairs"] []
  F_Sides_put_all : Fun K "put_all" "Sides.put_all" s_Sides_put_all D.f_Sides_put_all D.d_Sides_put_all
  b_Sides_put_all : Binds K D.d_Sides_put_all ["self", "side"] []
  F_Sides_begin : Fun K "begin" "Sides.begin" s_Sides_begin D.f_Sides_begin D.d_Sides_begin
  b_Sides_begin : Binds K D.d_Sides_begin ["self", "pairs"] []
  F_Sides_turn : Fun K "turn" "Sides.turn" s_Sides_turn D.f_Sides_turn D.d_Sides_turn
  b_Sides_turn : Binds K D.d_Sides_turn ["self"] []
  F_Sides_finish : Fun K "finish" "Sides.finish" s_Sides_finish D.f_Sides_finish D.d_Sides_finish
  b_Sides_finish : Binds K D.d_Sides_finish ["self"] []
  F_Sides_hands_on : Fun K "hands_on" "Sides.hands_on" s_Sides_hands_on D.f_Sides_hands_on D.d_Sides_hands_on
  b_Sides_hands_on : Binds K D.d_Sides_hands_on ["self", "side"] []
  F__law_did : Fun K "_law_did" "_law_did" s__law_did D.f__law_did D.d__law_did
  b__law_did : Binds K D.d__law_did ["some", "kind", "one", "other"] []
  g__law_did : mg "_law_did" = some (.ref D.f__law_did)
  F_Twice_look_hand : Fun K "look_hand" "Twice.look_hand" s_Twice_look_hand D.f_Twice_look_hand D.d_Twice_look_hand
  b_Twice_look_hand : Binds K D.d_Twice_look_hand ["self", "hand"] []
  F_Twice_begin_read : Fun K "begin_read" "Twice.begin_read" s_Twice_begin_read D.f_Twice_begin_read D.d_Twice_begin_read
  b_Twice_begin_read : Binds K D.d_Twice_begin_read ["self", "hand"] []
  F_Twice_look_cell : Fun K "look_cell" "Twice.look_cell" s_Twice_look_cell D.f_Twice_look_cell D.d_Twice_look_cell
  b_Twice_look_cell : Binds K D.d_Twice_look_cell ["self", "cell"] []
  F_Twice_take : Fun K "take" "Twice.take" s_Twice_take D.f_Twice_take D.d_Twice_take
  b_Twice_take : Binds K D.d_Twice_take ["self", "hand", "cell"] []
  F_Twice_sure : Fun K "sure" "Twice.sure" s_Twice_sure D.f_Twice_sure D.d_Twice_sure
  b_Twice_sure : Binds K D.d_Twice_sure ["self", "hand"] []
  F_Twice_put : Fun K "put" "Twice.put" s_Twice_put D.f_Twice_put D.d_Twice_put
  b_Twice_put : Binds K D.d_Twice_put ["self", "cell", "value"] []
  F_Twice_begin_write : Fun K "begin_write" "Twice.begin_write" s_Twice_begin_write D.f_Twice_begin_write D.d_Twice_begin_write
  b_Twice_begin_write : Binds K D.d_Twice_begin_write ["self"] []
  F_Twice_end_write : Fun K "end_write" "Twice.end_write" s_Twice_end_write D.f_Twice_end_write D.d_Twice_end_write
  b_Twice_end_write : Binds K D.d_Twice_end_write ["self"] []
  F__law_does : Fun K "_law_does" "_law_does" s__law_does D.f__law_does D.d__law_does
  b__law_does : Binds K D.d__law_does ["some", "kind", "one", "other"] []
  g__law_does : mg "_law_does" = some (.ref D.f__law_does)
  F__law_refusal : Fun K "_law_refusal" "_law_refusal" s__law_refusal D.f__law_refusal D.d__law_refusal
  b__law_refusal : Binds K D.d__law_refusal ["caught"] []
  g__law_refusal : mg "_law_refusal" = some (.ref D.f__law_refusal)
  F__law_asked : Fun K "_law_asked" "_law_asked" s__law_asked D.f__law_asked D.d__law_asked
  b__law_asked : Binds K D.d__law_asked ["some", "kind", "one", "other"] []
  g__law_asked : mg "_law_asked" = some (.ref D.f__law_asked)
  F_Twice_number_now : Fun K "number_now" "Twice.number_now" s_Twice_number_now D.f_Twice_number_now D.d_Twice_number_now
  b_Twice_number_now : Binds K D.d_Twice_number_now ["self"] []
  F_law : Fun K "law" "law" s_law D.f_law D.d_law
  b_law : Binds K D.d_law ["script"] []
  g_law : mg "law" = some (.ref D.f_law)
  cl_Twice : Cls K D.c_Twice
  g_Twice : mg "Twice" = some (.ref D.c_Twice)
  na_Twice_hands : NoAttr K D.c_Twice "hands"
  na_Twice_cells : NoAttr K D.c_Twice "cells"
  na_Twice_number : NoAttr K D.c_Twice "number"
  na_Twice_first : NoAttr K D.c_Twice "first"
  mk_Twice : Mk K D.c_Twice D.f_Twice_init
  cl_Sides : Cls K D.c_Sides
  g_Sides : mg "Sides" = some (.ref D.c_Sides)
  na_Sides_hands : NoAttr K D.c_Sides "hands"
  na_Sides_sides : NoAttr K D.c_Sides "sides"
  na_Sides_open_side : NoAttr K D.c_Sides "open_side"
  na_Sides_where : NoAttr K D.c_Sides "where"
  na_Sides_under_way : NoAttr K D.c_Sides "under_way"
  na_Sides_far : NoAttr K D.c_Sides "far"
  mk_Sides : Mk K D.c_Sides D.f_Sides_init
  g_NoHand : mg "NoHand" = some (.ref D.c_NoHand)
  xi_NoHand : PySem.W.excIn K D.c_NoHand [.type "ValueError", .type "Exception", .type "BaseException", .type "object"] "ValueError.__new__" = true
  kp_NoHand : PySem.W.keepIn K (.ref D.c_NoHand) = true
  sb_NoHand : PySem.W.subIn K (.ref D.c_NoHand) (.type "BaseException") = some true
  ty_NoHand : PySem.W.typeIn K (.ref D.c_NoHand) = some (.type "type")
  em_NoHand : PySem.W.exmOne K (.ref D.c_NoHand) (.ref D.c_StoreError) = some true
  ec_NoHand : ExcC K D.c_NoHand
  ki_NoHand_BadNumber : PySem.W.kitOne K (.ref D.c_NoHand) (.ref D.c_BadNumber) = some false
  ki_NoHand_NoHand : PySem.W.kitOne K (.ref D.c_NoHand) (.ref D.c_NoHand) = some true
  ki_NoHand_NoCell : PySem.W.kitOne K (.ref D.c_NoHand) (.ref D.c_NoCell) = some false
  ki_NoHand_NoMark : PySem.W.kitOne K (.ref D.c_NoHand) (.ref D.c_NoMark) = some false
  ki_NoHand_IsIn : PySem.W.kitOne K (.ref D.c_NoHand) (.ref D.c_IsIn) = some false
  ki_NoHand_NotIn : PySem.W.kitOne K (.ref D.c_NoHand) (.ref D.c_NotIn) = some false
  ki_NoHand_NotHeld : PySem.W.kitOne K (.ref D.c_NoHand) (.ref D.c_NotHeld) = some false
  ki_NoHand_Gone : PySem.W.kitOne K (.ref D.c_NoHand) (.ref D.c_Gone) = some false
  ki_NoHand_BadPairs : PySem.W.kitOne K (.ref D.c_NoHand) (.ref D.c_BadPairs) = some false
  ki_NoHand_NotNow : PySem.W.kitOne K (.ref D.c_NoHand) (.ref D.c_NotNow) = some false
  ki_NoHand_StoreError : PySem.W.kitOne K (.ref D.c_NoHand) (.ref D.c_StoreError) = some true
  kv_NoHand : PySem.W.kitOne K (.ref D.c_NoHand) (.type "ValueError") = some true
  g_IsIn : mg "IsIn" = some (.ref D.c_IsIn)
  xi_IsIn : PySem.W.excIn K D.c_IsIn [.type "ValueError", .type "Exception", .type "BaseException", .type "object"] "ValueError.__new__" = true
  kp_IsIn : PySem.W.keepIn K (.ref D.c_IsIn) = true
  sb_IsIn : PySem.W.subIn K (.ref D.c_IsIn) (.type "BaseException") = some true
  ty_IsIn : PySem.W.typeIn K (.ref D.c_IsIn) = some (.type "type")
  em_IsIn : PySem.W.exmOne K (.ref D.c_IsIn) (.ref D.c_StoreError) = some true
  ec_IsIn : ExcC K D.c_IsIn
  ki_IsIn_BadNumber : PySem.W.kitOne K (.ref D.c_IsIn) (.ref D.c_BadNumber) = some false
  ki_IsIn_NoHand : PySem.W.kitOne K (.ref D.c_IsIn) (.ref D.c_NoHand) = some false
  ki_IsIn_NoCell : PySem.W.kitOne K (.ref D.c_IsIn) (.ref D.c_NoCell) = some false
  ki_IsIn_NoMark : PySem.W.kitOne K (.ref D.c_IsIn) (.ref D.c_NoMark) = some false
  ki_IsIn_IsIn : PySem.W.kitOne K (.ref D.c_IsIn) (.ref D.c_IsIn) = some true
  ki_IsIn_NotIn : PySem.W.kitOne K (.ref D.c_IsIn) (.ref D.c_NotIn) = some false
  ki_IsIn_NotHeld : PySem.W.kitOne K (.ref D.c_IsIn) (.ref D.c_NotHeld) = some false
  ki_IsIn_Gone : PySem.W.kitOne K (.ref D.c_IsIn) (.ref D.c_Gone) = some false
  ki_IsIn_BadPairs : PySem.W.kitOne K (.ref D.c_IsIn) (.ref D.c_BadPairs) = some false
  ki_IsIn_NotNow : PySem.W.kitOne K (.ref D.c_IsIn) (.ref D.c_NotNow) = some false
  ki_IsIn_StoreError : PySem.W.kitOne K (.ref D.c_IsIn) (.ref D.c_StoreError) = some true
  kv_IsIn : PySem.W.kitOne K (.ref D.c_IsIn) (.type "ValueError") = some true
  g_NotIn : mg "NotIn" = some (.ref D.c_NotIn)
  xi_NotIn : PySem.W.excIn K D.c_NotIn [.type "ValueError", .type "Exception", .type "BaseException", .type "object"] "ValueError.__new__" = true
  kp_NotIn : PySem.W.keepIn K (.ref D.c_NotIn) = true
  sb_NotIn : PySem.W.subIn K (.ref D.c_NotIn) (.type "BaseException") = some true
  ty_NotIn : PySem.W.typeIn K (.ref D.c_NotIn) = some (.type "type")
  em_NotIn : PySem.W.exmOne K (.ref D.c_NotIn) (.ref D.c_StoreError) = some true
  ec_NotIn : ExcC K D.c_NotIn
  ki_NotIn_BadNumber : PySem.W.kitOne K (.ref D.c_NotIn) (.ref D.c_BadNumber) = some false
  ki_NotIn_NoHand : PySem.W.kitOne K (.ref D.c_NotIn) (.ref D.c_NoHand) = some false
  ki_NotIn_NoCell : PySem.W.kitOne K (.ref D.c_NotIn) (.ref D.c_NoCell) = some false
  ki_NotIn_NoMark : PySem.W.kitOne K (.ref D.c_NotIn) (.ref D.c_NoMark) = some false
  ki_NotIn_IsIn : PySem.W.kitOne K (.ref D.c_NotIn) (.ref D.c_IsIn) = some false
  ki_NotIn_NotIn : PySem.W.kitOne K (.ref D.c_NotIn) (.ref D.c_NotIn) = some true
  ki_NotIn_NotHeld : PySem.W.kitOne K (.ref D.c_NotIn) (.ref D.c_NotHeld) = some false
  ki_NotIn_Gone : PySem.W.kitOne K (.ref D.c_NotIn) (.ref D.c_Gone) = some false
  ki_NotIn_BadPairs : PySem.W.kitOne K (.ref D.c_NotIn) (.ref D.c_BadPairs) = some false
  ki_NotIn_NotNow : PySem.W.kitOne K (.ref D.c_NotIn) (.ref D.c_NotNow) = some false
  ki_NotIn_StoreError : PySem.W.kitOne K (.ref D.c_NotIn) (.ref D.c_StoreError) = some true
  kv_NotIn : PySem.W.kitOne K (.ref D.c_NotIn) (.type "ValueError") = some true
  g_NoCell : mg "NoCell" = some (.ref D.c_NoCell)
  xi_NoCell : PySem.W.excIn K D.c_NoCell [.type "ValueError", .type "Exception", .type "BaseException", .type "object"] "ValueError.__new__" = true
  kp_NoCell : PySem.W.keepIn K (.ref D.c_NoCell) = true
  sb_NoCell : PySem.W.subIn K (.ref D.c_NoCell) (.type "BaseException") = some true
  ty_NoCell : PySem.W.typeIn K (.ref D.c_NoCell) = some (.type "type")
  em_NoCell : PySem.W.exmOne K (.ref D.c_NoCell) (.ref D.c_StoreError) = some true
  ec_NoCell : ExcC K D.c_NoCell
  ki_NoCell_BadNumber : PySem.W.kitOne K (.ref D.c_NoCell) (.ref D.c_BadNumber) = some false
  ki_NoCell_NoHand : PySem.W.kitOne K (.ref D.c_NoCell) (.ref D.c_NoHand) = some false
  ki_NoCell_NoCell : PySem.W.kitOne K (.ref D.c_NoCell) (.ref D.c_NoCell) = some true
  ki_NoCell_NoMark : PySem.W.kitOne K (.ref D.c_NoCell) (.ref D.c_NoMark) = some false
  ki_NoCell_IsIn : PySem.W.kitOne K (.ref D.c_NoCell) (.ref D.c_IsIn) = some false
  ki_NoCell_NotIn : PySem.W.kitOne K (.ref D.c_NoCell) (.ref D.c_NotIn) = some false
  ki_NoCell_NotHeld : PySem.W.kitOne K (.ref D.c_NoCell) (.ref D.c_NotHeld) = some false
  ki_NoCell_Gone : PySem.W.kitOne K (.ref D.c_NoCell) (.ref D.c_Gone) = some false
  ki_NoCell_BadPairs : PySem.W.kitOne K (.ref D.c_NoCell) (.ref D.c_BadPairs) = some false
  ki_NoCell_NotNow : PySem.W.kitOne K (.ref D.c_NoCell) (.ref D.c_NotNow) = some false
  ki_NoCell_StoreError : PySem.W.kitOne K (.ref D.c_NoCell) (.ref D.c_StoreError) = some true
  kv_NoCell : PySem.W.kitOne K (.ref D.c_NoCell) (.type "ValueError") = some true
  g_BadPairs : mg "BadPairs" = some (.ref D.c_BadPairs)
  xi_BadPairs : PySem.W.excIn K D.c_BadPairs [.type "ValueError", .type "Exception", .type "BaseException", .type "object"] "ValueError.__new__" = true
  kp_BadPairs : PySem.W.keepIn K (.ref D.c_BadPairs) = true
  sb_BadPairs : PySem.W.subIn K (.ref D.c_BadPairs) (.type "BaseException") = some true
  ty_BadPairs : PySem.W.typeIn K (.ref D.c_BadPairs) = some (.type "type")
  em_BadPairs : PySem.W.exmOne K (.ref D.c_BadPairs) (.ref D.c_StoreError) = some true
  ec_BadPairs : ExcC K D.c_BadPairs
  ki_BadPairs_BadNumber : PySem.W.kitOne K (.ref D.c_BadPairs) (.ref D.c_BadNumber) = some false
  ki_BadPairs_NoHand : PySem.W.kitOne K (.ref D.c_BadPairs) (.ref D.c_NoHand) = some false
  ki_BadPairs_NoCell : PySem.W.kitOne K (.ref D.c_BadPairs) (.ref D.c_NoCell) = some false
  ki_BadPairs_NoMark : PySem.W.kitOne K (.ref D.c_BadPairs) (.ref D.c_NoMark) = some false
  ki_BadPairs_IsIn : PySem.W.kitOne K (.ref D.c_BadPairs) (.ref D.c_IsIn) = some false
  ki_BadPairs_NotIn : PySem.W.kitOne K (.ref D.c_BadPairs) (.ref D.c_NotIn) = some false
  ki_BadPairs_NotHeld : PySem.W.kitOne K (.ref D.c_BadPairs) (.ref D.c_NotHeld) = some false
  ki_BadPairs_Gone : PySem.W.kitOne K (.ref D.c_BadPairs) (.ref D.c_Gone) = some false
  ki_BadPairs_BadPairs : PySem.W.kitOne K (.ref D.c_BadPairs) (.ref D.c_BadPairs) = some true
  ki_BadPairs_NotNow : PySem.W.kitOne K (.ref D.c_BadPairs) (.ref D.c_NotNow) = some false
  ki_BadPairs_StoreError : PySem.W.kitOne K (.ref D.c_BadPairs) (.ref D.c_StoreError) = some true
  kv_BadPairs : PySem.W.kitOne K (.ref D.c_BadPairs) (.type "ValueError") = some true
  g_NotNow : mg "NotNow" = some (.ref D.c_NotNow)
  xi_NotNow : PySem.W.excIn K D.c_NotNow [.type "ValueError", .type "Exception", .type "BaseException", .type "object"] "ValueError.__new__" = true
  kp_NotNow : PySem.W.keepIn K (.ref D.c_NotNow) = true
  sb_NotNow : PySem.W.subIn K (.ref D.c_NotNow) (.type "BaseException") = some true
  ty_NotNow : PySem.W.typeIn K (.ref D.c_NotNow) = some (.type "type")
  em_NotNow : PySem.W.exmOne K (.ref D.c_NotNow) (.ref D.c_StoreError) = some true
  ec_NotNow : ExcC K D.c_NotNow
  ki_NotNow_BadNumber : PySem.W.kitOne K (.ref D.c_NotNow) (.ref D.c_BadNumber) = some false
  ki_NotNow_NoHand : PySem.W.kitOne K (.ref D.c_NotNow) (.ref D.c_NoHand) = some false
  ki_NotNow_NoCell : PySem.W.kitOne K (.ref D.c_NotNow) (.ref D.c_NoCell) = some false
  ki_NotNow_NoMark : PySem.W.kitOne K (.ref D.c_NotNow) (.ref D.c_NoMark) = some false
  ki_NotNow_IsIn : PySem.W.kitOne K (.ref D.c_NotNow) (.ref D.c_IsIn) = some false
  ki_NotNow_NotIn : PySem.W.kitOne K (.ref D.c_NotNow) (.ref D.c_NotIn) = some false
  ki_NotNow_NotHeld : PySem.W.kitOne K (.ref D.c_NotNow) (.ref D.c_NotHeld) = some false
  ki_NotNow_Gone : PySem.W.kitOne K (.ref D.c_NotNow) (.ref D.c_Gone) = some false
  ki_NotNow_BadPairs : PySem.W.kitOne K (.ref D.c_NotNow) (.ref D.c_BadPairs) = some false
  ki_NotNow_NotNow : PySem.W.kitOne K (.ref D.c_NotNow) (.ref D.c_NotNow) = some true
  ki_NotNow_StoreError : PySem.W.kitOne K (.ref D.c_NotNow) (.ref D.c_StoreError) = some true
  kv_NotNow : PySem.W.kitOne K (.ref D.c_NotNow) (.type "ValueError") = some true
  g_BadNumber : mg "BadNumber" = some (.ref D.c_BadNumber)
  xi_BadNumber : PySem.W.excIn K D.c_BadNumber [.type "ValueError", .type "Exception", .type "BaseException", .type "object"] "ValueError.__new__" = true
  kp_BadNumber : PySem.W.keepIn K (.ref D.c_BadNumber) = true
  sb_BadNumber : PySem.W.subIn K (.ref D.c_BadNumber) (.type "BaseException") = some true
  ty_BadNumber : PySem.W.typeIn K (.ref D.c_BadNumber) = some (.type "type")
  em_BadNumber : PySem.W.exmOne K (.ref D.c_BadNumber) (.ref D.c_StoreError) = some true
  ec_BadNumber : ExcC K D.c_BadNumber
  ki_BadNumber_BadNumber : PySem.W.kitOne K (.ref D.c_BadNumber) (.ref D.c_BadNumber) = some true
  ki_BadNumber_NoHand : PySem.W.kitOne K (.ref D.c_BadNumber) (.ref D.c_NoHand) = some false
  ki_BadNumber_NoCell : PySem.W.kitOne K (.ref D.c_BadNumber) (.ref D.c_NoCell) = some false
  ki_BadNumber_NoMark : PySem.W.kitOne K (.ref D.c_BadNumber) (.ref D.c_NoMark) = some false
  ki_BadNumber_IsIn : PySem.W.kitOne K (.ref D.c_BadNumber) (.ref D.c_IsIn) = some false
  ki_BadNumber_NotIn : PySem.W.kitOne K (.ref D.c_BadNumber) (.ref D.c_NotIn) = some false
  ki_BadNumber_NotHeld : PySem.W.kitOne K (.ref D.c_BadNumber) (.ref D.c_NotHeld) = some false
  ki_BadNumber_Gone : PySem.W.kitOne K (.ref D.c_BadNumber) (.ref D.c_Gone) = some false
  ki_BadNumber_BadPairs : PySem.W.kitOne K (.ref D.c_BadNumber) (.ref D.c_BadPairs) = some false
  ki_BadNumber_NotNow : PySem.W.kitOne K (.ref D.c_BadNumber) (.ref D.c_NotNow) = some false
  ki_BadNumber_StoreError : PySem.W.kitOne K (.ref D.c_BadNumber) (.ref D.c_StoreError) = some true
  kv_BadNumber : PySem.W.kitOne K (.ref D.c_BadNumber) (.type "ValueError") = some true
  g_NoMark : mg "NoMark" = some (.ref D.c_NoMark)
  g_Gone : mg "Gone" = some (.ref D.c_Gone)
  g_NotHeld : mg "NotHeld" = some (.ref D.c_NotHeld)
  g_StoreError : mg "StoreError" = some (.ref D.c_StoreError)
  me_Sides_look_hand : Meth K D.c_Sides "look_hand" D.f_Sides_look_hand
  me_Sides_enter : Meth K D.c_Sides "enter" D.f_Sides_enter
  me_Sides_look_in : Meth K D.c_Sides "look_in" D.f_Sides_look_in
  me_Sides_leave : Meth K D.c_Sides "leave" D.f_Sides_leave
  me_Sides_read : Meth K D.c_Sides "read" D.f_Sides_read
  me_Sides_look_pairs : Meth K D.c_Sides "look_pairs" D.f_Sides_look_pairs
  me_Sides_put_all : Meth K D.c_Sides "put_all" D.f_Sides_put_all
  me_Sides_begin : Meth K D.c_Sides "begin" D.f_Sides_begin
  me_Sides_turn : Meth K D.c_Sides "turn" D.f_Sides_turn
  me_Sides_finish : Meth K D.c_Sides "finish" D.f_Sides_finish
  me_Sides_hands_on : Meth K D.c_Sides "hands_on" D.f_Sides_hands_on
  me_Twice_look_hand : Meth K D.c_Twice "look_hand" D.f_Twice_look_hand
  me_Twice_begin_read : Meth K D.c_Twice "begin_read" D.f_Twice_begin_read
  me_Twice_look_cell : Meth K D.c_Twice "look_cell" D.f_Twice_look_cell
  me_Twice_take : Meth K D.c_Twice "take" D.f_Twice_take
  me_Twice_sure : Meth K D.c_Twice "sure" D.f_Twice_sure
  me_Twice_put : Meth K D.c_Twice "put" D.f_Twice_put
  me_Twice_begin_write : Meth K D.c_Twice "begin_write" D.f_Twice_begin_write
  me_Twice_end_write : Meth K D.c_Twice "end_write" D.f_Twice_end_write
  me_Twice_number_now : Meth K D.c_Twice "number_now" D.f_Twice_number_now
  ko_Sides_Sides : PySem.W.kitOne K (.ref D.c_Sides) (.ref D.c_Sides) = some true
  ko_Twice_Sides : PySem.W.kitOne K (.ref D.c_Twice) (.ref D.c_Sides) = some false
  ih_Sides : PySem.W.findIn K (.ref D.c_Sides) "__class__" = some (some (.builtin "object.__class__"))
  io_Sides : PySem.W.mroIn K D.c_Sides (.type "object") = some true
  ih_Twice : PySem.W.findIn K (.ref D.c_Twice) "__class__" = some (some (.builtin "object.__class__"))
  io_Twice : PySem.W.mroIn K D.c_Twice (.type "object") = some true
  ig_get : PySem.W.specialIn K (.builtin "object.__class__") "__get__" = some (some (.builtin "getset_descriptor.__get__"))
  ig_tk : PySem.W.takesIn K (.builtin "object.__class__") = some true
  m_ValueError : mg "ValueError" = none
  m_all : mg "all" = none
  m_bool : mg "bool" = none
  m_int : mg "int" = none
  m_isinstance : mg "isinstance" = none
  m_len : mg "len" = none
  m_list : mg "list" = none
  m_range : mg "range" = none
  m_sorted : mg "sorted" = none
  m_tuple : mg "tuple" = none
  k_MOST_CELLS : mg "MOST_CELLS" = some (.int (5) D.t_MOST_CELLS)
  k_MOST_HANDS : mg "MOST_HANDS" = some (.int (6) D.t_MOST_HANDS)
  k_MOST_VALUE : mg "MOST_VALUE" = some (.int (999) D.t_MOST_VALUE)
section
variable {P : Program} {w : World} {K : PySem.W.Frag} {mg : Str → Option Value} {base : Heap} {D : Adr}
set_option maxHeartbeats 8000000 in
theorem ok__law_town (T : Txt K mg D) : FnOk P w K mg base CX0 1 D.f__law_town D.d__law_town ["script"] (sp__law_town K) := by
  refine T.F__law_town.ok sc__law_town (fun vs H Q E h => ?_) (fun cdv A outer s H vs Q E hr h => ⟨t__law_town K, ?_, ?_⟩)
  · first | (obtain ⟨_, rfl, _⟩ := h; rfl; done) | (obtain ⟨_, _, rfl, _⟩ := h; rfl; done) | (obtain ⟨_, _, _, rfl, _⟩ := h; rfl; done) | (obtain ⟨_, _, _, _, rfl, _⟩ := h; rfl; done) | (obtain ⟨_, _, _, _, _, rfl, _⟩ := h; rfl; done) | (obtain ⟨_, _, _, _, _, _, rfl, _⟩ := h; rfl; done) | (obtain ⟨_, _, _, _, _, _, _, rfl, _⟩ := h; rfl; done) | (obtain ⟨_, _, _, _, _, _, _, _, rfl, _⟩ := h; rfl; done) | (obtain ⟨_, _, _, _, _, _, _, _, _, rfl, _⟩ := h; rfl; done) | (obtain ⟨_, _, _, _, _, _, _, _, _, _, rfl, _⟩ := h; rfl; done) | (obtain ⟨_, _, _, _, _, _, _, _, _, _, _, rfl, _⟩ := h; rfl; done) | (obtain ⟨_, _, _, _, _, _, _, _, _, _, _, _, rfl, _⟩ := h; rfl; done) | (obtain ⟨_, _, _, _, _, _, _, _, _, _, _, _, _, rfl, _⟩ := h; rfl; done) | (obtain ⟨_, _, _, _, _, _, _, _, _, _, _, _, _, _, rfl, _⟩ := h; rfl; done) | (obtain ⟨_, _, _, _, _, _, _, _, _, _, _, _, _, _, _, rfl, _⟩ := h; rfl; done) | ((rcases h with h | h) <;> (first | (obtain ⟨_, rfl, _⟩ := h; rfl) | (obtain ⟨_, _, rfl, _⟩ := h; rfl) | (obtain ⟨_, _, _, rfl, _⟩ := h; rfl) | (obtain ⟨_, _, _, _, rfl, _⟩ := h; rfl) | (obtain ⟨_, _, _, _, _, rfl, _⟩ := h; rfl) | (obtain ⟨_, _, _, _, _, _, rfl, _⟩ := h; rfl) | (obtain ⟨_, _, _, _, _, _, _, rfl, _⟩ := h; rfl) | (obtain ⟨_, _, _, _, _, _, _, _, rfl, _⟩ := h; rfl) | (obtain ⟨_, _, _, _, _, _, _, _, _, rfl, _⟩ := h; rfl) | (obtain ⟨_, _, _, _, _, _, _, _, _, _, rfl, _⟩ := h; rfl) | (obtain ⟨_, _, _, _, _, _, _, _, _, _, _, rfl, _⟩ := h; rfl) | (obtain ⟨_, _, _, _, _, _, _, _, _, _, _, _, rfl, _⟩ := h; rfl) | (obtain ⟨_, _, _, _, _, _, _, _, _, _, _, _, _, rfl, _⟩ := h; rfl) | (obtain ⟨_, _, _, _, _, _, _, _, _, _, _, _, _, _, rfl, _⟩ := h; rfl) | (obtain ⟨_, _, _, _, _, _, _, _, _, _, _, _, _, _, _, rfl, _⟩ := h; rfl)))
  · have hu := hu_of hr
    exact pss_one (ps_ret (pe_lst (pa_cons (pe_ifExp (pt_cmpR (op_neD hr.units) (pv 0) (pe_lst (pa_nil)) (nomark _)) (pe_callTy call_listOf (by rfl) T.m_list (by decide +kernel) (pa_cons (pv 0) (pa_nil))) (pe_lst (pa_cons (pe_int) (pa_nil)))) (pa_cons (pe_int) (pa_nil)))))
  · exact pure__law_town h
set_option maxHeartbeats 8000000 in
theorem ok_is_whole (T : Txt K mg D) : FnOk P w K mg base CX0 1 D.f_is_whole D.d_is_whole ["thing", "low", "high"] (sp_is_whole) := by
  refine T.F_is_whole.ok sc_is_whole (fun vs H Q E h => ?_) (fun cdv A outer s H vs Q E hr h => ⟨t_is_whole K, ?_, ?_⟩)
  · first | (obtain ⟨_, rfl, _⟩ := h; rfl; done) | (obtain ⟨_, _, rfl, _⟩ := h; rfl; done) | (obtain ⟨_, _, _, rfl, _⟩ := h; rfl; done) | (obtain ⟨_, _, _, _, rfl, _⟩ := h; rfl; done) | (obtain ⟨_, _, _, _, _, rfl, _⟩ := h; rfl; done) | (obtain ⟨_, _, _, _, _, _, rfl, _⟩ := h; rfl; done) | (obtain ⟨_, _, _, _, _, _, _, rfl, _⟩ := h; rfl; done) | (obtain ⟨_, _, _, _, _, _, _, _, rfl, _⟩ := h; rfl; done) | (obtain ⟨_, _, _, _, _, _, _, _, _, rfl, _⟩ := h; rfl; done) | (obtain ⟨_, _, _, _, _, _, _, _, _, _, rfl, _⟩ := h; rfl; done) | (obtain ⟨_, _, _, _, _, _, _, _, _, _, _, rfl, _⟩ := h; rfl; done) | (obtain ⟨_, _, _, _, _, _, _, _, _, _, _, _, rfl, _⟩ := h; rfl; done) | (obtain ⟨_, _, _, _, _, _, _, _, _, _, _, _, _, rfl, _⟩ := h; rfl; done) | (obtain ⟨_, _, _, _, _, _, _, _, _, _, _, _, _, _, rfl, _⟩ := h; rfl; done) | (obtain ⟨_, _, _, _, _, _, _, _, _, _, _, _, _, _, _, rfl, _⟩ := h; rfl; done) | ((rcases h with h | h) <;> (first | (obtain ⟨_, rfl, _⟩ := h; rfl) | (obtain ⟨_, _, rfl, _⟩ := h; rfl) | (obtain ⟨_, _, _, rfl, _⟩ := h; rfl) | (obtain ⟨_, _, _, _, rfl, _⟩ := h; rfl) | (obtain ⟨_, _, _, _, _, rfl, _⟩ := h; rfl) | (obtain ⟨_, _, _, _, _, _, rfl, _⟩ := h; rfl) | (obtain ⟨_, _, _, _, _, _, _, rfl, _⟩ := h; rfl) | (obtain ⟨_, _, _, _, _, _, _, _, rfl, _⟩ := h; rfl) | (obtain ⟨_, _, _, _, _, _, _, _, _, rfl, _⟩ := h; rfl) | (obtain ⟨_, _, _, _, _, _, _, _, _, _, rfl, _⟩ := h; rfl) | (obtain ⟨_, _, _, _, _, _, _, _, _, _, _, rfl, _⟩ := h; rfl) | (obtain ⟨_, _, _, _, _, _, _, _, _, _, _, _, rfl, _⟩ := h; rfl) | (obtain ⟨_, _, _, _, _, _, _, _, _, _, _, _, _, rfl, _⟩ := h; rfl) | (obtain ⟨_, _, _, _, _, _, _, _, _, _, _, _, _, _, rfl, _⟩ := h; rfl) | (obtain ⟨_, _, _, _, _, _, _, _, _, _, _, _, _, _, _, rfl, _⟩ := h; rfl)))
  · have hu := hu_of hr
    exact pss_one (ps_ret (pe_and (pe_callB call_isi (by rfl) T.m_isinstance (by decide +kernel) (pa_cons (pv 0) (pa_cons (pe_bltn (v := .ty "int") (by rfl) T.m_int (by decide +kernel) rfl) (pa_nil)))) (pe_and (pe_not (pe_callB call_isi (by rfl) T.m_isinstance (by decide +kernel) (pa_cons (pv 0) (pa_cons (pe_bltn (v := .ty "bool") (by rfl) T.m_bool (by decide +kernel) rfl) (pa_nil))))) (pe_one (pe_chain op_leI op_leI (pv 1) (pv 0) (pv 2))))))
  · exact pure_is_whole h
set_option maxHeartbeats 8000000 in
theorem ok_look_number (T : Txt K mg D) : FnOk P w K mg base CX0 2 D.f_look_number D.d_look_number ["thing", "low", "high"] (sp_look_number) := by
  have G_is_whole : FnOk P w K mg base CX0 1 D.f_is_whole D.d_is_whole ["thing", "low", "high"] (sp_is_whole) := ok_is_whole T
  refine T.F_look_number.ok sc_look_number (fun vs H Q E h => ?_) (fun cdv A outer s H vs Q E hr h => ⟨t_look_number K (sp_is_whole), ?_, ?_⟩)
  · first | (obtain ⟨_, rfl, _⟩ := h; rfl; done) | (obtain ⟨_, _, rfl, _⟩ := h; rfl; done) | (obtain ⟨_, _, _, rfl, _⟩ := h; rfl; done) | (obtain ⟨_, _, _, _, rfl, _⟩ := h; rfl; done) | (obtain ⟨_, _, _, _, _, rfl, _⟩ := h; rfl; done) | (obtain ⟨_, _, _, _, _, _, rfl, _⟩ := h; rfl; done) | (obtain ⟨_, _, _, _, _, _, _, rfl, _⟩ := h; rfl; done) | (obtain ⟨_, _, _, _, _, _, _, _, rfl, _⟩ := h; rfl; done) | (obtain ⟨_, _, _, _, _, _, _, _, _, rfl, _⟩ := h; rfl; done) | (obtain ⟨_, _, _, _, _, _, _, _, _, _, rfl, _⟩ := h; rfl; done) | (obtain ⟨_, _, _, _, _, _, _, _, _, _, _, rfl, _⟩ := h; rfl; done) | (obtain ⟨_, _, _, _, _, _, _, _, _, _, _, _, rfl, _⟩ := h; rfl; done) | (obtain ⟨_, _, _, _, _, _, _, _, _, _, _, _, _, rfl, _⟩ := h; rfl; done) | (obtain ⟨_, _, _, _, _, _, _, _, _, _, _, _, _, _, rfl, _⟩ := h; rfl; done) | (obtain ⟨_, _, _, _, _, _, _, _, _, _, _, _, _, _, _, rfl, _⟩ := h; rfl; done) | ((rcases h with h | h) <;> (first | (obtain ⟨_, rfl, _⟩ := h; rfl) | (obtain ⟨_, _, rfl, _⟩ := h; rfl) | (obtain ⟨_, _, _, rfl, _⟩ := h; rfl) | (obtain ⟨_, _, _, _, rfl, _⟩ := h; rfl) | (obtain ⟨_, _, _, _, _, rfl, _⟩ := h; rfl) | (obtain ⟨_, _, _, _, _, _, rfl, _⟩ := h; rfl) | (obtain ⟨_, _, _, _, _, _, _, rfl, _⟩ := h; rfl) | (obtain ⟨_, _, _, _, _, _, _, _, rfl, _⟩ := h; rfl) | (obtain ⟨_, _, _, _, _, _, _, _, _, rfl, _⟩ := h; rfl) | (obtain ⟨_, _, _, _, _, _, _, _, _, _, rfl, _⟩ := h; rfl) | (obtain ⟨_, _, _, _, _, _, _, _, _, _, _, rfl, _⟩ := h; rfl) | (obtain ⟨_, _, _, _, _, _, _, _, _, _, _, _, rfl, _⟩ := h; rfl) | (obtain ⟨_, _, _, _, _, _, _, _, _, _, _, _, _, rfl, _⟩ := h; rfl) | (obtain ⟨_, _, _, _, _, _, _, _, _, _, _, _, _, _, rfl, _⟩ := h; rfl) | (obtain ⟨_, _, _, _, _, _, _, _, _, _, _, _, _, _, _, rfl, _⟩ := h; rfl)))
  · have hu := hu_of hr
    exact pss_one (ps_if (pt_not (pt_val (pe_call G_is_whole (hr.mono (by decide)) (by rfl) T.g_is_whole T.F_is_whole.kp T.b_is_whole .nil pass0 (pa_cons (pv 0) (pa_cons (pv 1) (pa_cons (pv 2) (pa_nil))))))) (pss_one (ps_never)) (pss_nil))
  · exact pure_look_number h
set_option maxHeartbeats 8000000 in
theorem ok_mk_Twice (T : Txt K mg D) : FnOk P w K mg base CX0 3 D.f_Twice_init D.d_Twice_init ["self", "hands", "cells"] (sp_tinit D.c_Twice) := by
  have G_look_number : FnOk P w K mg base CX0 2 D.f_look_number D.d_look_number ["thing", "low", "high"] (sp_look_number) := ok_look_number T
  refine T.F_Twice_init.ok sc_Twice_init (fun vs H Q E h => ?_) (fun cdv A outer s H vs Q E hr h => ⟨t_Twice_init K (sp_look_number), ?_, ?_⟩)
  · first | (obtain ⟨_, rfl, _⟩ := h; rfl; done) | (obtain ⟨_, _, rfl, _⟩ := h; rfl; done) | (obtain ⟨_, _, _, rfl, _⟩ := h; rfl; done) | (obtain ⟨_, _, _, _, rfl, _⟩ := h; rfl; done) | (obtain ⟨_, _, _, _, _, rfl, _⟩ := h; rfl; done) | (obtain ⟨_, _, _, _, _, _, rfl, _⟩ := h; rfl; done) | (obtain ⟨_, _, _, _, _, _, _, rfl, _⟩ := h; rfl; done) | (obtain ⟨_, _, _, _, _, _, _, _, rfl, _⟩ := h; rfl; done) | (obtain ⟨_, _, _, _, _, _, _, _, _, rfl, _⟩ := h; rfl; done) | (obtain ⟨_, _, _, _, _, _, _, _, _, _, rfl, _⟩ := h; rfl; done) | (obtain ⟨_, _, _, _, _, _, _, _, _, _, _, rfl, _⟩ := h; rfl; done) | (obtain ⟨_, _, _, _, _, _, _, _, _, _, _, _, rfl, _⟩ := h; rfl; done) | (obtain ⟨_, _, _, _, _, _, _, _, _, _, _, _, _, rfl, _⟩ := h; rfl; done) | (obtain ⟨_, _, _, _, _, _, _, _, _, _, _, _, _, _, rfl, _⟩ := h; rfl; done) | (obtain ⟨_, _, _, _, _, _, _, _, _, _, _, _, _, _, _, rfl, _⟩ := h; rfl; done) | ((rcases h with h | h) <;> (first | (obtain ⟨_, rfl, _⟩ := h; rfl) | (obtain ⟨_, _, rfl, _⟩ := h; rfl) | (obtain ⟨_, _, _, rfl, _⟩ := h; rfl) | (obtain ⟨_, _, _, _, rfl, _⟩ := h; rfl) | (obtain ⟨_, _, _, _, _, rfl, _⟩ := h; rfl) | (obtain ⟨_, _, _, _, _, _, rfl, _⟩ := h; rfl) | (obtain ⟨_, _, _, _, _, _, _, rfl, _⟩ := h; rfl) | (obtain ⟨_, _, _, _, _, _, _, _, rfl, _⟩ := h; rfl) | (obtain ⟨_, _, _, _, _, _, _, _, _, rfl, _⟩ := h; rfl) | (obtain ⟨_, _, _, _, _, _, _, _, _, _, rfl, _⟩ := h; rfl) | (obtain ⟨_, _, _, _, _, _, _, _, _, _, _, rfl, _⟩ := h; rfl) | (obtain ⟨_, _, _, _, _, _, _, _, _, _, _, _, rfl, _⟩ := h; rfl) | (obtain ⟨_, _, _, _, _, _, _, _, _, _, _, _, _, rfl, _⟩ := h; rfl) | (obtain ⟨_, _, _, _, _, _, _, _, _, _, _, _, _, _, rfl, _⟩ := h; rfl) | (obtain ⟨_, _, _, _, _, _, _, _, _, _, _, _, _, _, _, rfl, _⟩ := h; rfl)))
  · have hu := hu_of hr
    exact pss_cons (ps_expr (pe_call G_look_number (hr.mono (by decide)) (by rfl) T.g_look_number T.F_look_number.kp T.b_look_number .nil pass0 (pa_cons (pv 1) (pa_cons (pe_int) (pa_cons (pe_glob (by rfl) T.k_MOST_HANDS ⟨_, rfl⟩) (pa_nil))))))
      (pss_cons (ps_expr (pe_call G_look_number (hr.mono (by decide)) (by rfl) T.g_look_number T.F_look_number.kp T.b_look_number .nil pass0 (pa_cons (pv 2) (pa_cons (pe_int) (pa_cons (pe_glob (by rfl) T.k_MOST_CELLS ⟨_, rfl⟩) (pa_nil))))))
      (pss_cons (ps_fld (pv 0) (pv 1) (by rfl))
      (pss_cons (ps_fld (pv 0) (pe_op op_rep (pe_lst (pa_cons (pe_int) (pa_nil))) (pv 2)) (by rfl))
      (pss_cons (ps_fld (pv 0) (pe_int) (by rfl))
      (pss_one (ps_fld (pv 0) (pe_dnewK) (by rfl)))))))
  · exact pure_tinit ⟨T.cl_Twice, T.na_Twice_hands, T.na_Twice_cells, T.na_Twice_number, T.na_Twice_first⟩ h
set_option maxHeartbeats 8000000 in
theorem ok_mk_Sides (T : Txt K mg D) : FnOk P w K mg base CX0 3 D.f_Sides_init D.d_Sides_init ["self", "hands", "cells"] (sp_sinit D.c_Sides) := by
  have G_look_number : FnOk P w K mg base CX0 2 D.f_look_number D.d_look_number ["thing", "low", "high"] (sp_look_number) := ok_look_number T
  refine T.F_Sides_init.ok sc_Sides_init (fun vs H Q E h => ?_) (fun cdv A outer s H vs Q E hr h => ⟨t_Sides_init K (sp_look_number), ?_, ?_⟩)
  · first | (obtain ⟨_, rfl, _⟩ := h; rfl; done) | (obtain ⟨_, _, rfl, _⟩ := h; rfl; done) | (obtain ⟨_, _, _, rfl, _⟩ := h; rfl; done) | (obtain ⟨_, _, _, _, rfl, _⟩ := h; rfl; done) | (obtain ⟨_, _, _, _, _, rfl, _⟩ := h; rfl; done) | (obtain ⟨_, _, _, _, _, _, rfl, _⟩ := h; rfl; done) | (obtain ⟨_, _, _, _, _, _, _, rfl, _⟩ := h; rfl; done) | (obtain ⟨_, _, _, _, _, _, _, _, rfl, _⟩ := h; rfl; done) | (obtain ⟨_, _, _, _, _, _, _, _, _, rfl, _⟩ := h; rfl; done) | (obtain ⟨_, _, _, _, _, _, _, _, _, _, rfl, _⟩ := h; rfl; done) | (obtain ⟨_, _, _, _, _, _, _, _, _, _, _, rfl, _⟩ := h; rfl; done) | (obtain ⟨_, _, _, _, _, _, _, _, _, _, _, _, rfl, _⟩ := h; rfl; done) | (obtain ⟨_, _, _, _, _, _, _, _, _, _, _, _, _, rfl, _⟩ := h; rfl; done) | (obtain ⟨_, _, _, _, _, _, _, _, _, _, _, _, _, _, rfl, _⟩ := h; rfl; done) | (obtain ⟨_, _, _, _, _, _, _, _, _, _, _, _, _, _, _, rfl, _⟩ := h; rfl; done) | ((rcases h with h | h) <;> (first | (obtain ⟨_, rfl, _⟩ := h; rfl) | (obtain ⟨_, _, rfl, _⟩ := h; rfl) | (obtain ⟨_, _, _, rfl, _⟩ := h; rfl) | (obtain ⟨_, _, _, _, rfl, _⟩ := h; rfl) | (obtain ⟨_, _, _, _, _, rfl, _⟩ := h; rfl) | (obtain ⟨_, _, _, _, _, _, rfl, _⟩ := h; rfl) | (obtain ⟨_, _, _, _, _, _, _, rfl, _⟩ := h; rfl) | (obtain ⟨_, _, _, _, _, _, _, _, rfl, _⟩ := h; rfl) | (obtain ⟨_, _, _, _, _, _, _, _, _, rfl, _⟩ := h; rfl) | (obtain ⟨_, _, _, _, _, _, _, _, _, _, rfl, _⟩ := h; rfl) | (obtain ⟨_, _, _, _, _, _, _, _, _, _, _, rfl, _⟩ := h; rfl) | (obtain ⟨_, _, _, _, _, _, _, _, _, _, _, _, rfl, _⟩ := h; rfl) | (obtain ⟨_, _, _, _, _, _, _, _, _, _, _, _, _, rfl, _⟩ := h; rfl) | (obtain ⟨_, _, _, _, _, _, _, _, _, _, _, _, _, _, rfl, _⟩ := h; rfl) | (obtain ⟨_, _, _, _, _, _, _, _, _, _, _, _, _, _, _, rfl, _⟩ := h; rfl)))
  · have hu := hu_of hr
    exact pss_cons (ps_expr (pe_call G_look_number (hr.mono (by decide)) (by rfl) T.g_look_number T.F_look_number.kp T.b_look_number .nil pass0 (pa_cons (pv 1) (pa_cons (pe_int) (pa_cons (pe_glob (by rfl) T.k_MOST_HANDS ⟨_, rfl⟩) (pa_nil))))))
      (pss_cons (ps_expr (pe_call G_look_number (hr.mono (by decide)) (by rfl) T.g_look_number T.F_look_number.kp T.b_look_number .nil pass0 (pa_cons (pv 2) (pa_cons (pe_int) (pa_cons (pe_glob (by rfl) T.k_MOST_CELLS ⟨_, rfl⟩) (pa_nil))))))
      (pss_cons (ps_fld (pv 0) (pv 1) (by rfl))
      (pss_cons (ps_fld (pv 0) (pe_lst (pa_cons (pe_op op_rep (pe_lst (pa_cons (pe_int) (pa_nil))) (pv 2)) (pa_cons (pe_op op_rep (pe_lst (pa_cons (pe_int) (pa_nil))) (pv 2)) (pa_nil)))) (by rfl))
      (pss_cons (ps_fld (pv 0) (pe_int) (by rfl))
      (pss_cons (ps_fld (pv 0) (pe_dnewK) (by rfl))
      (pss_cons (ps_fld (pv 0) (pe_lst (pa_nil)) (by rfl))
      (pss_one (ps_fld (pv 0) (pe_str) (by rfl)))))))))
  · exact pure_sinit ⟨T.cl_Sides, T.na_Sides_hands, T.na_Sides_sides, T.na_Sides_open_side, T.na_Sides_where, T.na_Sides_under_way, T.na_Sides_far⟩ h
set_option maxHeartbeats 8000000 in
theorem ok__law_draw (T : Txt K mg D) : FnOk P w K mg base CX0 1 D.f__law_draw D.d__law_draw ["town", "many"] (sp__law_draw) := by
  refine T.F__law_draw.ok sc__law_draw (fun vs H Q E h => ?_) (fun cdv A outer s H vs Q E hr h => ⟨t__law_draw K, ?_, ?_⟩)
  · first | (obtain ⟨_, rfl, _⟩ := h; rfl; done) | (obtain ⟨_, _, rfl, _⟩ := h; rfl; done) | (obtain ⟨_, _, _, rfl, _⟩ := h; rfl; done) | (obtain ⟨_, _, _, _, rfl, _⟩ := h; rfl; done) | (obtain ⟨_, _, _, _, _, rfl, _⟩ := h; rfl; done) | (obtain ⟨_, _, _, _, _, _, rfl, _⟩ := h; rfl; done) | (obtain ⟨_, _, _, _, _, _, _, rfl, _⟩ := h; rfl; done) | (obtain ⟨_, _, _, _, _, _, _, _, rfl, _⟩ := h; rfl; done) | (obtain ⟨_, _, _, _, _, _, _, _, _, rfl, _⟩ := h; rfl; done) | (obtain ⟨_, _, _, _, _, _, _, _, _, _, rfl, _⟩ := h; rfl; done) | (obtain ⟨_, _, _, _, _, _, _, _, _, _, _, rfl, _⟩ := h; rfl; done) | (obtain ⟨_, _, _, _, _, _, _, _, _, _, _, _, rfl, _⟩ := h; rfl; done) | (obtain ⟨_, _, _, _, _, _, _, _, _, _, _, _, _, rfl, _⟩ := h; rfl; done) | (obtain ⟨_, _, _, _, _, _, _, _, _, _, _, _, _, _, rfl, _⟩ := h; rfl; done) | (obtain ⟨_, _, _, _, _, _, _, _, _, _, _, _, _, _, _, rfl, _⟩ := h; rfl; done) | ((rcases h with h | h) <;> (first | (obtain ⟨_, rfl, _⟩ := h; rfl) | (obtain ⟨_, _, rfl, _⟩ := h; rfl) | (obtain ⟨_, _, _, rfl, _⟩ := h; rfl) | (obtain ⟨_, _, _, _, rfl, _⟩ := h; rfl) | (obtain ⟨_, _, _, _, _, rfl, _⟩ := h; rfl) | (obtain ⟨_, _, _, _, _, _, rfl, _⟩ := h; rfl) | (obtain ⟨_, _, _, _, _, _, _, rfl, _⟩ := h; rfl) | (obtain ⟨_, _, _, _, _, _, _, _, rfl, _⟩ := h; rfl) | (obtain ⟨_, _, _, _, _, _, _, _, _, rfl, _⟩ := h; rfl) | (obtain ⟨_, _, _, _, _, _, _, _, _, _, rfl, _⟩ := h; rfl) | (obtain ⟨_, _, _, _, _, _, _, _, _, _, _, rfl, _⟩ := h; rfl) | (obtain ⟨_, _, _, _, _, _, _, _, _, _, _, _, rfl, _⟩ := h; rfl) | (obtain ⟨_, _, _, _, _, _, _, _, _, _, _, _, _, rfl, _⟩ := h; rfl) | (obtain ⟨_, _, _, _, _, _, _, _, _, _, _, _, _, _, rfl, _⟩ := h; rfl) | (obtain ⟨_, _, _, _, _, _, _, _, _, _, _, _, _, _, _, rfl, _⟩ := h; rfl)))
  · have hu := hu_of hr
    exact pss_cons (ps_set (i := 2) sc__law_draw.nd rfl (by first | exact Or.inl rfl | exact Or.inr rfl) (pe_ix ix_list (pv 0) (pe_int) (fun _ _ => rfl)))
      (pss_cons (ps_asg (pe_op op_addI (pe_ix ix_list (pv 0) (pe_int) (fun _ _ => rfl)) (pe_int)) (pg_sub (pv 0) (pe_int) set_list))
      (pss_cons (ps_set (i := 3) sc__law_draw.nd rfl (by first | exact Or.inl rfl | exact Or.inr rfl) (pe_op op_modI (pe_ix ix_list (pv 0) (pe_int) (fun _ _ => rfl)) (pe_callB call_lenQ (by rfl) T.m_len PySem.boot_len (pa_cons (pv 2) (pa_nil)))))
      (pss_cons (ps_set (i := 4) sc__law_draw.nd rfl (by first | exact Or.inl rfl | exact Or.inr rfl) (pe_ix ix_list (pv 2) (pv 3) (fun _ _ => rfl)))
      (pss_cons (ps_if (pt_cmpR op_geI (pv 4) (pe_int) (nomark _)) (pss_cons (ps_asg (pe_op op_divI (pv 4) (pv 1)) (pg_sub (pv 2) (pv 3) set_list))
      (pss_one (ps_ret (pe_op op_modI (pv 4) (pv 1))))) (pss_nil))
      (pss_cons (ps_set (i := 5) sc__law_draw.nd rfl (by first | exact Or.inl rfl | exact Or.inr rfl) (pe_op op_modI (pe_op op_addI (pv 4) (pe_op op_mulI (pe_int) (pe_ix ix_list (pv 0) (pe_int) (fun _ _ => rfl)))) (pe_int)))
      (pss_cons (ps_set (i := 5) sc__law_draw.nd rfl (by first | exact Or.inl rfl | exact Or.inr rfl) (pe_op op_modI (pe_op op_powI (pv 5) (pe_int)) (pe_int)))
      (pss_one (ps_ret (pe_op op_modI (pe_op op_divI (pe_op op_modI (pe_op op_addI (pe_op op_mulI (pe_op op_divI (pv 5) (pe_int)) (pe_int)) (pv 5)) (pe_int)) (pe_int)) (pv 1))))))))))
  · exact pure__law_draw h
set_option maxHeartbeats 8000000 in
theorem ok__law_pick (T : Txt K mg D) : FnOk P w K mg base CX0 2 D.f__law_pick D.d__law_pick ["town", "some"] (sp__law_pick) := by
  have G__law_draw : FnOk P w K mg base CX0 1 D.f__law_draw D.d__law_draw ["town", "many"] (sp__law_draw) := ok__law_draw T
  refine T.F__law_pick.ok sc__law_pick (fun vs H Q E h => ?_) (fun cdv A outer s H vs Q E hr h => ⟨t__law_pick K (sp__law_draw), ?_, ?_⟩)
  · first | (obtain ⟨_, rfl, _⟩ := h; rfl; done) | (obtain ⟨_, _, rfl, _⟩ := h; rfl; done) | (obtain ⟨_, _, _, rfl, _⟩ := h; rfl; done) | (obtain ⟨_, _, _, _, rfl, _⟩ := h; rfl; done) | (obtain ⟨_, _, _, _, _, rfl, _⟩ := h; rfl; done) | (obtain ⟨_, _, _, _, _, _, rfl, _⟩ := h; rfl; done) | (obtain ⟨_, _, _, _, _, _, _, rfl, _⟩ := h; rfl; done) | (obtain ⟨_, _, _, _, _, _, _, _, rfl, _⟩ := h; rfl; done) | (obtain ⟨_, _, _, _, _, _, _, _, _, rfl, _⟩ := h; rfl; done) | (obtain ⟨_, _, _, _, _, _, _, _, _, _, rfl, _⟩ := h; rfl; done) | (obtain ⟨_, _, _, _, _, _, _, _, _, _, _, rfl, _⟩ := h; rfl; done) | (obtain ⟨_, _, _, _, _, _, _, _, _, _, _, _, rfl, _⟩ := h; rfl; done) | (obtain ⟨_, _, _, _, _, _, _, _, _, _, _, _, _, rfl, _⟩ := h; rfl; done) | (obtain ⟨_, _, _, _, _, _, _, _, _, _, _, _, _, _, rfl, _⟩ := h; rfl; done) | (obtain ⟨_, _, _, _, _, _, _, _, _, _, _, _, _, _, _, rfl, _⟩ := h; rfl; done) | ((rcases h with h | h) <;> (first | (obtain ⟨_, rfl, _⟩ := h; rfl) | (obtain ⟨_, _, rfl, _⟩ := h; rfl) | (obtain ⟨_, _, _, rfl, _⟩ := h; rfl) | (obtain ⟨_, _, _, _, rfl, _⟩ := h; rfl) | (obtain ⟨_, _, _, _, _, rfl, _⟩ := h; rfl) | (obtain ⟨_, _, _, _, _, _, rfl, _⟩ := h; rfl) | (obtain ⟨_, _, _, _, _, _, _, rfl, _⟩ := h; rfl) | (obtain ⟨_, _, _, _, _, _, _, _, rfl, _⟩ := h; rfl) | (obtain ⟨_, _, _, _, _, _, _, _, _, rfl, _⟩ := h; rfl) | (obtain ⟨_, _, _, _, _, _, _, _, _, _, rfl, _⟩ := h; rfl) | (obtain ⟨_, _, _, _, _, _, _, _, _, _, _, rfl, _⟩ := h; rfl) | (obtain ⟨_, _, _, _, _, _, _, _, _, _, _, _, rfl, _⟩ := h; rfl) | (obtain ⟨_, _, _, _, _, _, _, _, _, _, _, _, _, rfl, _⟩ := h; rfl) | (obtain ⟨_, _, _, _, _, _, _, _, _, _, _, _, _, _, rfl, _⟩ := h; rfl) | (obtain ⟨_, _, _, _, _, _, _, _, _, _, _, _, _, _, _, rfl, _⟩ := h; rfl)))
  · have hu := hu_of hr
    exact pss_one (ps_ret (pe_ix ix_list (pv 1) (pe_call G__law_draw (hr.mono (by decide)) (by rfl) T.g__law_draw T.F__law_draw.kp T.b__law_draw .nil pass0 (pa_cons (pv 0) (pa_cons (pe_callB call_lenQ (by rfl) T.m_len PySem.boot_len (pa_cons (pv 1) (pa_nil))) (pa_nil)))) (fun _ _ => rfl)))
  · exact pure__law_pick h
set_option maxHeartbeats 8000000 in
theorem ok_Sides__Sides_look_hand (T : Txt K mg D) : FnOk P w K mg base CX0 2 D.f_Sides_look_hand D.d_Sides_look_hand ["self", "hand"] (sp_slook_hand D.c_Sides) := by
  have G_is_whole : FnOk P w K mg base CX0 1 D.f_is_whole D.d_is_whole ["thing", "low", "high"] (sp_is_whole) := ok_is_whole T
  refine T.F_Sides_look_hand.ok sc_Sides_look_hand (fun vs H Q E h => ?_) (fun cdv A outer s H vs Q E hr h => ⟨t_Sides_look_hand K (sp_is_whole), ?_, ?_⟩)
  · first | (obtain ⟨_, rfl, _⟩ := h; rfl; done) | (obtain ⟨_, _, rfl, _⟩ := h; rfl; done) | (obtain ⟨_, _, _, rfl, _⟩ := h; rfl; done) | (obtain ⟨_, _, _, _, rfl, _⟩ := h; rfl; done) | (obtain ⟨_, _, _, _, _, rfl, _⟩ := h; rfl; done) | (obtain ⟨_, _, _, _, _, _, rfl, _⟩ := h; rfl; done) | (obtain ⟨_, _, _, _, _, _, _, rfl, _⟩ := h; rfl; done) | (obtain ⟨_, _, _, _, _, _, _, _, rfl, _⟩ := h; rfl; done) | (obtain ⟨_, _, _, _, _, _, _, _, _, rfl, _⟩ := h; rfl; done) | (obtain ⟨_, _, _, _, _, _, _, _, _, _, rfl, _⟩ := h; rfl; done) | (obtain ⟨_, _, _, _, _, _, _, _, _, _, _, rfl, _⟩ := h; rfl; done) | (obtain ⟨_, _, _, _, _, _, _, _, _, _, _, _, rfl, _⟩ := h; rfl; done) | (obtain ⟨_, _, _, _, _, _, _, _, _, _, _, _, _, rfl, _⟩ := h; rfl; done) | (obtain ⟨_, _, _, _, _, _, _, _, _, _, _, _, _, _, rfl, _⟩ := h; rfl; done) | (obtain ⟨_, _, _, _, _, _, _, _, _, _, _, _, _, _, _, rfl, _⟩ := h; rfl; done) | ((rcases h with h | h) <;> (first | (obtain ⟨_, rfl, _⟩ := h; rfl) | (obtain ⟨_, _, rfl, _⟩ := h; rfl) | (obtain ⟨_, _, _, rfl, _⟩ := h; rfl) | (obtain ⟨_, _, _, _, rfl, _⟩ := h; rfl) | (obtain ⟨_, _, _, _, _, rfl, _⟩ := h; rfl) | (obtain ⟨_, _, _, _, _, _, rfl, _⟩ := h; rfl) | (obtain ⟨_, _, _, _, _, _, _, rfl, _⟩ := h; rfl) | (obtain ⟨_, _, _, _, _, _, _, _, rfl, _⟩ := h; rfl) | (obtain ⟨_, _, _, _, _, _, _, _, _, rfl, _⟩ := h; rfl) | (obtain ⟨_, _, _, _, _, _, _, _, _, _, rfl, _⟩ := h; rfl) | (obtain ⟨_, _, _, _, _, _, _, _, _, _, _, rfl, _⟩ := h; rfl) | (obtain ⟨_, _, _, _, _, _, _, _, _, _, _, _, rfl, _⟩ := h; rfl) | (obtain ⟨_, _, _, _, _, _, _, _, _, _, _, _, _, rfl, _⟩ := h; rfl) | (obtain ⟨_, _, _, _, _, _, _, _, _, _, _, _, _, _, rfl, _⟩ := h; rfl) | (obtain ⟨_, _, _, _, _, _, _, _, _, _, _, _, _, _, _, rfl, _⟩ := h; rfl)))
  · have hu := hu_of hr
    exact pss_one (ps_if (pt_not (pt_val (pe_call G_is_whole (hr.mono (by decide)) (by rfl) T.g_is_whole T.F_is_whole.kp T.b_is_whole .nil pass0 (pa_cons (pv 1) (pa_cons (pe_int) (pa_cons (pe_op op_subI (pe_fld (pv 0) (by rfl)) (pe_int)) (pa_nil))))))) (pss_one (ps_never)) (pss_nil))
  · exact pure_slook_hand ⟨T.cl_Sides, T.na_Sides_hands, T.na_Sides_sides, T.na_Sides_open_side, T.na_Sides_where, T.na_Sides_under_way, T.na_Sides_far⟩ h
set_option maxHeartbeats 8000000 in
theorem ok_Sides__Sides_enter (T : Txt K mg D) : FnOk P w K mg base CX0 3 D.f_Sides_enter D.d_Sides_enter ["self", "hand"] (sp_senter D.c_Sides) := by
  have G_Sides__Sides_look_hand : FnOk P w K mg base CX0 2 D.f_Sides_look_hand D.d_Sides_look_hand ["self", "hand"] (sp_slook_hand D.c_Sides) := ok_Sides__Sides_look_hand T
  refine T.F_Sides_enter.ok sc_Sides_enter (fun vs H Q E h => ?_) (fun cdv A outer s H vs Q E hr h => ⟨t_Sides_enter K D.c_Sides (sp_slook_hand D.c_Sides), ?_, ?_⟩)
  · first | (obtain ⟨_, rfl, _⟩ := h; rfl; done) | (obtain ⟨_, _, rfl, _⟩ := h; rfl; done) | (obtain ⟨_, _, _, rfl, _⟩ := h; rfl; done) | (obtain ⟨_, _, _, _, rfl, _⟩ := h; rfl; done) | (obtain ⟨_, _, _, _, _, rfl, _⟩ := h; rfl; done) | (obtain ⟨_, _, _, _, _, _, rfl, _⟩ := h; rfl; done) | (obtain ⟨_, _, _, _, _, _, _, rfl, _⟩ := h; rfl; done) | (obtain ⟨_, _, _, _, _, _, _, _, rfl, _⟩ := h; rfl; done) | (obtain ⟨_, _, _, _, _, _, _, _, _, rfl, _⟩ := h; rfl; done) | (obtain ⟨_, _, _, _, _, _, _, _, _, _, rfl, _⟩ := h; rfl; done) | (obtain ⟨_, _, _, _, _, _, _, _, _, _, _, rfl, _⟩ := h; rfl; done) | (obtain ⟨_, _, _, _, _, _, _, _, _, _, _, _, rfl, _⟩ := h; rfl; done) | (obtain ⟨_, _, _, _, _, _, _, _, _, _, _, _, _, rfl, _⟩ := h; rfl; done) | (obtain ⟨_, _, _, _, _, _, _, _, _, _, _, _, _, _, rfl, _⟩ := h; rfl; done) | (obtain ⟨_, _, _, _, _, _, _, _, _, _, _, _, _, _, _, rfl, _⟩ := h; rfl; done) | ((rcases h with h | h) <;> (first | (obtain ⟨_, rfl, _⟩ := h; rfl) | (obtain ⟨_, _, rfl, _⟩ := h; rfl) | (obtain ⟨_, _, _, rfl, _⟩ := h; rfl) | (obtain ⟨_, _, _, _, rfl, _⟩ := h; rfl) | (obtain ⟨_, _, _, _, _, rfl, _⟩ := h; rfl) | (obtain ⟨_, _, _, _, _, _, rfl, _⟩ := h; rfl) | (obtain ⟨_, _, _, _, _, _, _, rfl, _⟩ := h; rfl) | (obtain ⟨_, _, _, _, _, _, _, _, rfl, _⟩ := h; rfl) | (obtain ⟨_, _, _, _, _, _, _, _, _, rfl, _⟩ := h; rfl) | (obtain ⟨_, _, _, _, _, _, _, _, _, _, rfl, _⟩ := h; rfl) | (obtain ⟨_, _, _, _, _, _, _, _, _, _, _, rfl, _⟩ := h; rfl) | (obtain ⟨_, _, _, _, _, _, _, _, _, _, _, _, rfl, _⟩ := h; rfl) | (obtain ⟨_, _, _, _, _, _, _, _, _, _, _, _, _, rfl, _⟩ := h; rfl) | (obtain ⟨_, _, _, _, _, _, _, _, _, _, _, _, _, _, rfl, _⟩ := h; rfl) | (obtain ⟨_, _, _, _, _, _, _, _, _, _, _, _, _, _, _, rfl, _⟩ := h; rfl)))
  · have hu := hu_of hr
    exact pss_cons (ps_expr (pe_meth (pv 0) T.cl_Sides T.me_Sides_look_hand G_Sides__Sides_look_hand (hr.mono (by decide)) T.b_Sides_look_hand .nil pass0 (pa_cons (pv 1) (pa_nil))))
      (pss_cons (ps_if (pt_cmp (pc_din hu (pv 1) (pe_fld (pv 0) (by rfl))) (by rfl)) (pss_one (ps_never)) (pss_nil))
      (pss_cons (ps_dput hu (pe_fld (pv 0) (by rfl)) (pv 1) (pe_fld (pv 0) (by rfl)) (by rfl))
      (pss_one (ps_ret (pe_fld (pv 0) (by rfl))))))
  · exact pure_senter ⟨T.cl_Sides, T.na_Sides_hands, T.na_Sides_sides, T.na_Sides_open_side, T.na_Sides_where, T.na_Sides_under_way, T.na_Sides_far⟩ h
set_option maxHeartbeats 8000000 in
theorem ok__law_odd (T : Txt K mg D) : FnOk P w K mg base CX0 3 D.f__law_odd D.d__law_odd ["town", "most"] (sp__law_odd) := by
  have G__law_pick : FnOk P w K mg base CX0 2 D.f__law_pick D.d__law_pick ["town", "some"] (sp__law_pick) := ok__law_pick T
  have G__law_draw : FnOk P w K mg base CX0 1 D.f__law_draw D.d__law_draw ["town", "many"] (sp__law_draw) := ok__law_draw T
  refine T.F__law_odd.ok sc__law_odd (fun vs H Q E h => ?_) (fun cdv A outer s H vs Q E hr h => ⟨t__law_odd K (sp__law_pick) (sp__law_draw), ?_, ?_⟩)
  · first | (obtain ⟨_, rfl, _⟩ := h; rfl; done) | (obtain ⟨_, _, rfl, _⟩ := h; rfl; done) | (obtain ⟨_, _, _, rfl, _⟩ := h; rfl; done) | (obtain ⟨_, _, _, _, rfl, _⟩ := h; rfl; done) | (obtain ⟨_, _, _, _, _, rfl, _⟩ := h; rfl; done) | (obtain ⟨_, _, _, _, _, _, rfl, _⟩ := h; rfl; done) | (obtain ⟨_, _, _, _, _, _, _, rfl, _⟩ := h; rfl; done) | (obtain ⟨_, _, _, _, _, _, _, _, rfl, _⟩ := h; rfl; done) | (obtain ⟨_, _, _, _, _, _, _, _, _, rfl, _⟩ := h; rfl; done) | (obtain ⟨_, _, _, _, _, _, _, _, _, _, rfl, _⟩ := h; rfl; done) | (obtain ⟨_, _, _, _, _, _, _, _, _, _, _, rfl, _⟩ := h; rfl; done) | (obtain ⟨_, _, _, _, _, _, _, _, _, _, _, _, rfl, _⟩ := h; rfl; done) | (obtain ⟨_, _, _, _, _, _, _, _, _, _, _, _, _, rfl, _⟩ := h; rfl; done) | (obtain ⟨_, _, _, _, _, _, _, _, _, _, _, _, _, _, rfl, _⟩ := h; rfl; done) | (obtain ⟨_, _, _, _, _, _, _, _, _, _, _, _, _, _, _, rfl, _⟩ := h; rfl; done) | ((rcases h with h | h) <;> (first | (obtain ⟨_, rfl, _⟩ := h; rfl) | (obtain ⟨_, _, rfl, _⟩ := h; rfl) | (obtain ⟨_, _, _, rfl, _⟩ := h; rfl) | (obtain ⟨_, _, _, _, rfl, _⟩ := h; rfl) | (obtain ⟨_, _, _, _, _, rfl, _⟩ := h; rfl) | (obtain ⟨_, _, _, _, _, _, rfl, _⟩ := h; rfl) | (obtain ⟨_, _, _, _, _, _, _, rfl, _⟩ := h; rfl) | (obtain ⟨_, _, _, _, _, _, _, _, rfl, _⟩ := h; rfl) | (obtain ⟨_, _, _, _, _, _, _, _, _, rfl, _⟩ := h; rfl) | (obtain ⟨_, _, _, _, _, _, _, _, _, _, rfl, _⟩ := h; rfl) | (obtain ⟨_, _, _, _, _, _, _, _, _, _, _, rfl, _⟩ := h; rfl) | (obtain ⟨_, _, _, _, _, _, _, _, _, _, _, _, rfl, _⟩ := h; rfl) | (obtain ⟨_, _, _, _, _, _, _, _, _, _, _, _, _, rfl, _⟩ := h; rfl) | (obtain ⟨_, _, _, _, _, _, _, _, _, _, _, _, _, _, rfl, _⟩ := h; rfl) | (obtain ⟨_, _, _, _, _, _, _, _, _, _, _, _, _, _, _, rfl, _⟩ := h; rfl)))
  · have hu := hu_of hr
    exact pss_one (ps_ret (pe_call G__law_pick (hr.mono (by decide)) (by rfl) T.g__law_pick T.F__law_pick.kp T.b__law_pick .nil pass0 (pa_cons (pv 0) (pa_cons (pe_lst (pa_cons (pv 1) (pa_cons (pe_op op_subI (pe_int) (pe_int)) (pa_cons (pe_bl) (pa_cons (pe_non) (pa_cons (pe_str) (pa_cons (pe_lst (pa_cons (pe_int) (pa_nil))) (pa_cons (pe_bl) (pa_cons (pe_op op_addI (pv 1) (pe_call G__law_draw (hr.mono (by decide)) (by rfl) T.g__law_draw T.F__law_draw.kp T.b__law_draw .nil pass0 (pa_cons (pv 0) (pa_cons (pe_int) (pa_nil))))) (pa_nil)))))))))) (pa_nil)))))
  · exact pure__law_odd h
set_option maxHeartbeats 8000000 in
theorem okr_is_whole (T : Txt K mg D) : FnOk P w K mg base (L2.CX P w) 1 D.f_is_whole D.d_is_whole ["thing", "low", "high"] (sr_is_whole) := by
  refine T.F_is_whole.okX sc_is_whole (fun vs H Q E h => ?_) (fun cdv A outer s H vs Q E hr h => ⟨tr_is_whole K E, ?_, ?_⟩)
  · first | (obtain ⟨_, rfl, _⟩ := h; rfl; done) | (obtain ⟨_, _, rfl, _⟩ := h; rfl; done) | (obtain ⟨_, _, _, rfl, _⟩ := h; rfl; done) | (obtain ⟨_, _, _, _, rfl, _⟩ := h; rfl; done) | (obtain ⟨_, _, _, _, _, rfl, _⟩ := h; rfl; done) | (obtain ⟨_, _, _, _, _, _, rfl, _⟩ := h; rfl; done) | (obtain ⟨_, _, _, _, _, _, _, rfl, _⟩ := h; rfl; done) | (obtain ⟨_, _, _, _, _, _, _, _, rfl, _⟩ := h; rfl; done) | (obtain ⟨_, _, _, _, _, _, _, _, _, rfl, _⟩ := h; rfl; done) | (obtain ⟨_, _, _, _, _, _, _, _, _, _, rfl, _⟩ := h; rfl; done) | (obtain ⟨_, _, _, _, _, _, _, _, _, _, _, rfl, _⟩ := h; rfl; done) | (obtain ⟨_, _, _, _, _, _, _, _, _, _, _, _, rfl, _⟩ := h; rfl; done) | (obtain ⟨_, _, _, _, _, _, _, _, _, _, _, _, _, rfl, _⟩ := h; rfl; done) | (obtain ⟨_, _, _, _, _, _, _, _, _, _, _, _, _, _, rfl, _⟩ := h; rfl; done) | (obtain ⟨_, _, _, _, _, _, _, _, _, _, _, _, _, _, _, rfl, _⟩ := h; rfl; done) | ((rcases h with h | h) <;> (first | (obtain ⟨_, rfl, _⟩ := h; rfl) | (obtain ⟨_, _, rfl, _⟩ := h; rfl) | (obtain ⟨_, _, _, rfl, _⟩ := h; rfl) | (obtain ⟨_, _, _, _, rfl, _⟩ := h; rfl) | (obtain ⟨_, _, _, _, _, rfl, _⟩ := h; rfl) | (obtain ⟨_, _, _, _, _, _, rfl, _⟩ := h; rfl) | (obtain ⟨_, _, _, _, _, _, _, rfl, _⟩ := h; rfl) | (obtain ⟨_, _, _, _, _, _, _, _, rfl, _⟩ := h; rfl) | (obtain ⟨_, _, _, _, _, _, _, _, _, rfl, _⟩ := h; rfl) | (obtain ⟨_, _, _, _, _, _, _, _, _, _, rfl, _⟩ := h; rfl) | (obtain ⟨_, _, _, _, _, _, _, _, _, _, _, rfl, _⟩ := h; rfl) | (obtain ⟨_, _, _, _, _, _, _, _, _, _, _, _, rfl, _⟩ := h; rfl) | (obtain ⟨_, _, _, _, _, _, _, _, _, _, _, _, _, rfl, _⟩ := h; rfl) | (obtain ⟨_, _, _, _, _, _, _, _, _, _, _, _, _, _, rfl, _⟩ := h; rfl) | (obtain ⟨_, _, _, _, _, _, _, _, _, _, _, _, _, _, _, rfl, _⟩ := h; rfl)))
  · have hu := hu_of hr
    exact pss_one (ps_ret (pe_and (pe_callB call_isi (by rfl) T.m_isinstance (by decide +kernel) (pa_cons (pv 0) (pa_cons (pe_bltn (v := .ty "int") (by rfl) T.m_int (by decide +kernel) rfl) (pa_nil)))) (pe_and (pe_not (pe_callB call_isi (by rfl) T.m_isinstance (by decide +kernel) (pa_cons (pv 0) (pa_cons (pe_bltn (v := .ty "bool") (by rfl) T.m_bool (by decide +kernel) rfl) (pa_nil))))) (pe_one (pe_chain op_leI op_leI (pv 1) (pv 0) (pv 2))))))
  · exact purer_is_whole h
set_option maxHeartbeats 8000000 in
theorem okr_Sides__Sides_look_hand (T : Txt K mg D) : FnOk P w K mg base (L2.CX P w) 2 D.f_Sides_look_hand D.d_Sides_look_hand ["self", "hand"] (sr_slook_hand D.c_Sides (Exs.mk D.c_BadNumber D.c_NoHand D.c_NoCell D.c_NoMark D.c_IsIn D.c_NotIn D.c_NotHeld D.c_Gone D.c_BadPairs D.c_NotNow D.c_StoreError)) := by
  have GR_is_whole : FnOk P w K mg base (L2.CX P w) 1 D.f_is_whole D.d_is_whole ["thing", "low", "high"] (spOr (sp_is_whole) (sr_is_whole)) := fn_or (fn_up (ok_is_whole T)) (okr_is_whole T)
  refine T.F_Sides_look_hand.okX sc_Sides_look_hand (fun vs H Q E h => ?_) (fun cdv A outer s H vs Q E hr h => ⟨tr_Sides_look_hand K D.c_NoHand (spOr (sp_is_whole) (sr_is_whole)) E, ?_, ?_⟩)
  · first | (obtain ⟨_, rfl, _⟩ := h; rfl; done) | (obtain ⟨_, _, rfl, _⟩ := h; rfl; done) | (obtain ⟨_, _, _, rfl, _⟩ := h; rfl; done) | (obtain ⟨_, _, _, _, rfl, _⟩ := h; rfl; done) | (obtain ⟨_, _, _, _, _, rfl, _⟩ := h; rfl; done) | (obtain ⟨_, _, _, _, _, _, rfl, _⟩ := h; rfl; done) | (obtain ⟨_, _, _, _, _, _, _, rfl, _⟩ := h; rfl; done) | (obtain ⟨_, _, _, _, _, _, _, _, rfl, _⟩ := h; rfl; done) | (obtain ⟨_, _, _, _, _, _, _, _, _, rfl, _⟩ := h; rfl; done) | (obtain ⟨_, _, _, _, _, _, _, _, _, _, rfl, _⟩ := h; rfl; done) | (obtain ⟨_, _, _, _, _, _, _, _, _, _, _, rfl, _⟩ := h; rfl; done) | (obtain ⟨_, _, _, _, _, _, _, _, _, _, _, _, rfl, _⟩ := h; rfl; done) | (obtain ⟨_, _, _, _, _, _, _, _, _, _, _, _, _, rfl, _⟩ := h; rfl; done) | (obtain ⟨_, _, _, _, _, _, _, _, _, _, _, _, _, _, rfl, _⟩ := h; rfl; done) | (obtain ⟨_, _, _, _, _, _, _, _, _, _, _, _, _, _, _, rfl, _⟩ := h; rfl; done) | ((rcases h with h | h) <;> (first | (obtain ⟨_, rfl, _⟩ := h; rfl) | (obtain ⟨_, _, rfl, _⟩ := h; rfl) | (obtain ⟨_, _, _, rfl, _⟩ := h; rfl) | (obtain ⟨_, _, _, _, rfl, _⟩ := h; rfl) | (obtain ⟨_, _, _, _, _, rfl, _⟩ := h; rfl) | (obtain ⟨_, _, _, _, _, _, rfl, _⟩ := h; rfl) | (obtain ⟨_, _, _, _, _, _, _, rfl, _⟩ := h; rfl) | (obtain ⟨_, _, _, _, _, _, _, _, rfl, _⟩ := h; rfl) | (obtain ⟨_, _, _, _, _, _, _, _, _, rfl, _⟩ := h; rfl) | (obtain ⟨_, _, _, _, _, _, _, _, _, _, rfl, _⟩ := h; rfl) | (obtain ⟨_, _, _, _, _, _, _, _, _, _, _, rfl, _⟩ := h; rfl) | (obtain ⟨_, _, _, _, _, _, _, _, _, _, _, _, rfl, _⟩ := h; rfl) | (obtain ⟨_, _, _, _, _, _, _, _, _, _, _, _, _, rfl, _⟩ := h; rfl) | (obtain ⟨_, _, _, _, _, _, _, _, _, _, _, _, _, _, rfl, _⟩ := h; rfl) | (obtain ⟨_, _, _, _, _, _, _, _, _, _, _, _, _, _, _, rfl, _⟩ := h; rfl)))
  · have hu := hu_of hr
    exact pss_one (ps_if (pt_not (pt_val (pe_call GR_is_whole (hr.mono (by decide)) (by rfl) T.g_is_whole T.F_is_whole.kp T.b_is_whole .nil (passes_call (takes_of rfl rfl rfl rfl) fun _ _ _ _ h => h) (pa_cons (pv 1) (pa_cons (pe_int) (pa_cons (pe_op op_subI (pe_fld (pv 0) (by rfl)) (pe_int)) (pa_nil))))))) (pss_one (ps_raise rfl (takes_of rfl rfl rfl rfl) (pmk_own PySem.F.excBase_ValueError T.xi_NoHand T.g_NoHand T.kp_NoHand (raises_own T.sb_NoHand T.ty_NoHand) (by rfl)))) (pss_nil))
  · exact purer_slook_hand (X := (Exs.mk D.c_BadNumber D.c_NoHand D.c_NoCell D.c_NoMark D.c_IsIn D.c_NotIn D.c_NotHeld D.c_Gone D.c_BadPairs D.c_NotNow D.c_StoreError)) ⟨T.cl_Sides, T.na_Sides_hands, T.na_Sides_sides, T.na_Sides_open_side, T.na_Sides_where, T.na_Sides_under_way, T.na_Sides_far⟩ h
set_option maxHeartbeats 8000000 in
theorem okr_Sides__Sides_enter (T : Txt K mg D) : FnOk P w K mg base (L2.CX P w) 3 D.f_Sides_enter D.d_Sides_enter ["self", "hand"] (sr_senter D.c_Sides (Exs.mk D.c_BadNumber D.c_NoHand D.c_NoCell D.c_NoMark D.c_IsIn D.c_NotIn D.c_NotHeld D.c_Gone D.c_BadPairs D.c_NotNow D.c_StoreError)) := by
  have GR_Sides__Sides_look_hand : FnOk P w K mg base (L2.CX P w) 2 D.f_Sides_look_hand D.d_Sides_look_hand ["self", "hand"] (spOr (sp_slook_hand D.c_Sides) (sr_slook_hand D.c_Sides (Exs.mk D.c_BadNumber D.c_NoHand D.c_NoCell D.c_NoMark D.c_IsIn D.c_NotIn D.c_NotHeld D.c_Gone D.c_BadPairs D.c_NotNow D.c_StoreError))) := fn_or (fn_up (ok_Sides__Sides_look_hand T)) (okr_Sides__Sides_look_hand T)
  refine T.F_Sides_enter.okX sc_Sides_enter (fun vs H Q E h => ?_) (fun cdv A outer s H vs Q E hr h => ⟨tr_Sides_enter K D.c_Sides D.c_IsIn (spOr (sp_slook_hand D.c_Sides) (sr_slook_hand D.c_Sides (Exs.mk D.c_BadNumber D.c_NoHand D.c_NoCell D.c_NoMark D.c_IsIn D.c_NotIn D.c_NotHeld D.c_Gone D.c_BadPairs D.c_NotNow D.c_StoreError))) E, ?_, ?_⟩)
  · first | (obtain ⟨_, rfl, _⟩ := h; rfl; done) | (obtain ⟨_, _, rfl, _⟩ := h; rfl; done) | (obtain ⟨_, _, _, rfl, _⟩ := h; rfl; done) | (obtain ⟨_, _, _, _, rfl, _⟩ := h; rfl; done) | (obtain ⟨_, _, _, _, _, rfl, _⟩ := h; rfl; done) | (obtain ⟨_, _, _, _, _, _, rfl, _⟩ := h; rfl; done) | (obtain ⟨_, _, _, _, _, _, _, rfl, _⟩ := h; rfl; done) | (obtain ⟨_, _, _, _, _, _, _, _, rfl, _⟩ := h; rfl; done) | (obtain ⟨_, _, _, _, _, _, _, _, _, rfl, _⟩ := h; rfl; done) | (obtain ⟨_, _, _, _, _, _, _, _, _, _, rfl, _⟩ := h; rfl; done) | (obtain ⟨_, _, _, _, _, _, _, _, _, _, _, rfl, _⟩ := h; rfl; done) | (obtain ⟨_, _, _, _, _, _, _, _, _, _, _, _, rfl, _⟩ := h; rfl; done) | (obtain ⟨_, _, _, _, _, _, _, _, _, _, _, _, _, rfl, _⟩ := h; rfl; done) | (obtain ⟨_, _, _, _, _, _, _, _, _, _, _, _, _, _, rfl, _⟩ := h; rfl; done) | (obtain ⟨_, _, _, _, _, _, _, _, _, _, _, _, _, _, _, rfl, _⟩ := h; rfl; done) | ((rcases h with h | h) <;> (first | (obtain ⟨_, rfl, _⟩ := h; rfl) | (obtain ⟨_, _, rfl, _⟩ := h; rfl) | (obtain ⟨_, _, _, rfl, _⟩ := h; rfl) | (obtain ⟨_, _, _, _, rfl, _⟩ := h; rfl) | (obtain ⟨_, _, _, _, _, rfl, _⟩ := h; rfl) | (obtain ⟨_, _, _, _, _, _, rfl, _⟩ := h; rfl) | (obtain ⟨_, _, _, _, _, _, _, rfl, _⟩ := h; rfl) | (obtain ⟨_, _, _, _, _, _, _, _, rfl, _⟩ := h; rfl) | (obtain ⟨_, _, _, _, _, _, _, _, _, rfl, _⟩ := h; rfl) | (obtain ⟨_, _, _, _, _, _, _, _, _, _, rfl, _⟩ := h; rfl) | (obtain ⟨_, _, _, _, _, _, _, _, _, _, _, rfl, _⟩ := h; rfl) | (obtain ⟨_, _, _, _, _, _, _, _, _, _, _, _, rfl, _⟩ := h; rfl) | (obtain ⟨_, _, _, _, _, _, _, _, _, _, _, _, _, rfl, _⟩ := h; rfl) | (obtain ⟨_, _, _, _, _, _, _, _, _, _, _, _, _, _, rfl, _⟩ := h; rfl) | (obtain ⟨_, _, _, _, _, _, _, _, _, _, _, _, _, _, _, rfl, _⟩ := h; rfl)))
  · have hu := hu_of hr
    exact pss_cons (ps_expr (pe_meth (pv 0) T.cl_Sides T.me_Sides_look_hand GR_Sides__Sides_look_hand (hr.mono (by decide)) T.b_Sides_look_hand .nil (passes_call (takes_of rfl rfl rfl rfl) fun _ _ _ _ h => h) (pa_cons (pv 1) (pa_nil))))
      (pss_cons (ps_if (pt_cmp (pc_din hu (pv 1) (pe_fld (pv 0) (by rfl))) (by rfl)) (pss_one (ps_raise rfl (takes_of rfl rfl rfl rfl) (pmk_own PySem.F.excBase_ValueError T.xi_IsIn T.g_IsIn T.kp_IsIn (raises_own T.sb_IsIn T.ty_IsIn) (by rfl)))) (pss_nil))
      (pss_cons (ps_dput hu (pe_fld (pv 0) (by rfl)) (pv 1) (pe_fld (pv 0) (by rfl)) (by rfl))
      (pss_one (ps_ret (pe_fld (pv 0) (by rfl))))))
  · exact purer_senter (X := (Exs.mk D.c_BadNumber D.c_NoHand D.c_NoCell D.c_NoMark D.c_IsIn D.c_NotIn D.c_NotHeld D.c_Gone D.c_BadPairs D.c_NotNow D.c_StoreError)) ⟨T.cl_Sides, T.na_Sides_hands, T.na_Sides_sides, T.na_Sides_open_side, T.na_Sides_where, T.na_Sides_under_way, T.na_Sides_far⟩ h
set_option maxHeartbeats 8000000 in
theorem ok_Sides__Sides_look_in (T : Txt K mg D) : FnOk P w K mg base CX0 3 D.f_Sides_look_in D.d_Sides_look_in ["self", "hand"] (sp_slook_in D.c_Sides) := by
  have G_Sides__Sides_look_hand : FnOk P w K mg base CX0 2 D.f_Sides_look_hand D.d_Sides_look_hand ["self", "hand"] (sp_slook_hand D.c_Sides) := ok_Sides__Sides_look_hand T
  refine T.F_Sides_look_in.ok sc_Sides_look_in (fun vs H Q E h => ?_) (fun cdv A outer s H vs Q E hr h => ⟨t_Sides_look_in K D.c_Sides (sp_slook_hand D.c_Sides), ?_, ?_⟩)
  · first | (obtain ⟨_, rfl, _⟩ := h; rfl; done) | (obtain ⟨_, _, rfl, _⟩ := h; rfl; done) | (obtain ⟨_, _, _, rfl, _⟩ := h; rfl; done) | (obtain ⟨_, _, _, _, rfl, _⟩ := h; rfl; done) | (obtain ⟨_, _, _, _, _, rfl, _⟩ := h; rfl; done) | (obtain ⟨_, _, _, _, _, _, rfl, _⟩ := h; rfl; done) | (obtain ⟨_, _, _, _, _, _, _, rfl, _⟩ := h; rfl; done) | (obtain ⟨_, _, _, _, _, _, _, _, rfl, _⟩ := h; rfl; done) | (obtain ⟨_, _, _, _, _, _, _, _, _, rfl, _⟩ := h; rfl; done) | (obtain ⟨_, _, _, _, _, _, _, _, _, _, rfl, _⟩ := h; rfl; done) | (obtain ⟨_, _, _, _, _, _, _, _, _, _, _, rfl, _⟩ := h; rfl; done) | (obtain ⟨_, _, _, _, _, _, _, _, _, _, _, _, rfl, _⟩ := h; rfl; done) | (obtain ⟨_, _, _, _, _, _, _, _, _, _, _, _, _, rfl, _⟩ := h; rfl; done) | (obtain ⟨_, _, _, _, _, _, _, _, _, _, _, _, _, _, rfl, _⟩ := h; rfl; done) | (obtain ⟨_, _, _, _, _, _, _, _, _, _, _, _, _, _, _, rfl, _⟩ := h; rfl; done) | ((rcases h with h | h) <;> (first | (obtain ⟨_, rfl, _⟩ := h; rfl) | (obtain ⟨_, _, rfl, _⟩ := h; rfl) | (obtain ⟨_, _, _, rfl, _⟩ := h; rfl) | (obtain ⟨_, _, _, _, rfl, _⟩ := h; rfl) | (obtain ⟨_, _, _, _, _, rfl, _⟩ := h; rfl) | (obtain ⟨_, _, _, _, _, _, rfl, _⟩ := h; rfl) | (obtain ⟨_, _, _, _, _, _, _, rfl, _⟩ := h; rfl) | (obtain ⟨_, _, _, _, _, _, _, _, rfl, _⟩ := h; rfl) | (obtain ⟨_, _, _, _, _, _, _, _, _, rfl, _⟩ := h; rfl) | (obtain ⟨_, _, _, _, _, _, _, _, _, _, rfl, _⟩ := h; rfl) | (obtain ⟨_, _, _, _, _, _, _, _, _, _, _, rfl, _⟩ := h; rfl) | (obtain ⟨_, _, _, _, _, _, _, _, _, _, _, _, rfl, _⟩ := h; rfl) | (obtain ⟨_, _, _, _, _, _, _, _, _, _, _, _, _, rfl, _⟩ := h; rfl) | (obtain ⟨_, _, _, _, _, _, _, _, _, _, _, _, _, _, rfl, _⟩ := h; rfl) | (obtain ⟨_, _, _, _, _, _, _, _, _, _, _, _, _, _, _, rfl, _⟩ := h; rfl)))
  · have hu := hu_of hr
    exact pss_cons (ps_expr (pe_meth (pv 0) T.cl_Sides T.me_Sides_look_hand G_Sides__Sides_look_hand (hr.mono (by decide)) T.b_Sides_look_hand .nil pass0 (pa_cons (pv 1) (pa_nil))))
      (pss_one (ps_if (pt_cmp (pc_dnotin hu (pv 1) (pe_fld (pv 0) (by rfl))) (by rfl)) (pss_one (ps_never)) (pss_nil)))
  · exact pure_slook_in ⟨T.cl_Sides, T.na_Sides_hands, T.na_Sides_sides, T.na_Sides_open_side, T.na_Sides_where, T.na_Sides_under_way, T.na_Sides_far⟩ h
set_option maxHeartbeats 8000000 in
theorem ok_Sides__Sides_leave (T : Txt K mg D) : FnOk P w K mg base CX0 4 D.f_Sides_leave D.d_Sides_leave ["self", "hand"] (sp_sleave D.c_Sides) := by
  have G_Sides__Sides_look_in : FnOk P w K mg base CX0 3 D.f_Sides_look_in D.d_Sides_look_in ["self", "hand"] (sp_slook_in D.c_Sides) := ok_Sides__Sides_look_in T
  refine T.F_Sides_leave.ok sc_Sides_leave (fun vs H Q E h => ?_) (fun cdv A outer s H vs Q E hr h => ⟨t_Sides_leave K D.c_Sides (sp_slook_in D.c_Sides), ?_, ?_⟩)
  · first | (obtain ⟨_, rfl, _⟩ := h; rfl; done) | (obtain ⟨_, _, rfl, _⟩ := h; rfl; done) | (obtain ⟨_, _, _, rfl, _⟩ := h; rfl; done) | (obtain ⟨_, _, _, _, rfl, _⟩ := h; rfl; done) | (obtain ⟨_, _, _, _, _, rfl, _⟩ := h; rfl; done) | (obtain ⟨_, _, _, _, _, _, rfl, _⟩ := h; rfl; done) | (obtain ⟨_, _, _, _, _, _, _, rfl, _⟩ := h; rfl; done) | (obtain ⟨_, _, _, _, _, _, _, _, rfl, _⟩ := h; rfl; done) | (obtain ⟨_, _, _, _, _, _, _, _, _, rfl, _⟩ := h; rfl; done) | (obtain ⟨_, _, _, _, _, _, _, _, _, _, rfl, _⟩ := h; rfl; done) | (obtain ⟨_, _, _, _, _, _, _, _, _, _, _, rfl, _⟩ := h; rfl; done) | (obtain ⟨_, _, _, _, _, _, _, _, _, _, _, _, rfl, _⟩ := h; rfl; done) | (obtain ⟨_, _, _, _, _, _, _, _, _, _, _, _, _, rfl, _⟩ := h; rfl; done) | (obtain ⟨_, _, _, _, _, _, _, _, _, _, _, _, _, _, rfl, _⟩ := h; rfl; done) | (obtain ⟨_, _, _, _, _, _, _, _, _, _, _, _, _, _, _, rfl, _⟩ := h; rfl; done) | ((rcases h with h | h) <;> (first | (obtain ⟨_, rfl, _⟩ := h; rfl) | (obtain ⟨_, _, rfl, _⟩ := h; rfl) | (obtain ⟨_, _, _, rfl, _⟩ := h; rfl) | (obtain ⟨_, _, _, _, rfl, _⟩ := h; rfl) | (obtain ⟨_, _, _, _, _, rfl, _⟩ := h; rfl) | (obtain ⟨_, _, _, _, _, _, rfl, _⟩ := h; rfl) | (obtain ⟨_, _, _, _, _, _, _, rfl, _⟩ := h; rfl) | (obtain ⟨_, _, _, _, _, _, _, _, rfl, _⟩ := h; rfl) | (obtain ⟨_, _, _, _, _, _, _, _, _, rfl, _⟩ := h; rfl) | (obtain ⟨_, _, _, _, _, _, _, _, _, _, rfl, _⟩ := h; rfl) | (obtain ⟨_, _, _, _, _, _, _, _, _, _, _, rfl, _⟩ := h; rfl) | (obtain ⟨_, _, _, _, _, _, _, _, _, _, _, _, rfl, _⟩ := h; rfl) | (obtain ⟨_, _, _, _, _, _, _, _, _, _, _, _, _, rfl, _⟩ := h; rfl) | (obtain ⟨_, _, _, _, _, _, _, _, _, _, _, _, _, _, rfl, _⟩ := h; rfl) | (obtain ⟨_, _, _, _, _, _, _, _, _, _, _, _, _, _, _, rfl, _⟩ := h; rfl)))
  · have hu := hu_of hr
    exact pss_cons (ps_expr (pe_meth (pv 0) T.cl_Sides T.me_Sides_look_in G_Sides__Sides_look_in (hr.mono (by decide)) T.b_Sides_look_in .nil pass0 (pa_cons (pv 1) (pa_nil))))
      (pss_one (ps_expr (pe_dpop1 (pe_fld (pv 0) (by rfl)) (pv 1) ⟨rfl, rfl, rfl, rfl⟩)))
  · exact pure_sleave ⟨T.cl_Sides, T.na_Sides_hands, T.na_Sides_sides, T.na_Sides_open_side, T.na_Sides_where, T.na_Sides_under_way, T.na_Sides_far⟩ h
set_option maxHeartbeats 8000000 in
theorem okr_Sides__Sides_look_in (T : Txt K mg D) : FnOk P w K mg base (L2.CX P w) 3 D.f_Sides_look_in D.d_Sides_look_in ["self", "hand"] (sr_slook_in D.c_Sides (Exs.mk D.c_BadNumber D.c_NoHand D.c_NoCell D.c_NoMark D.c_IsIn D.c_NotIn D.c_NotHeld D.c_Gone D.c_BadPairs D.c_NotNow D.c_StoreError)) := by
  have GR_Sides__Sides_look_hand : FnOk P w K mg base (L2.CX P w) 2 D.f_Sides_look_hand D.d_Sides_look_hand ["self", "hand"] (spOr (sp_slook_hand D.c_Sides) (sr_slook_hand D.c_Sides (Exs.mk D.c_BadNumber D.c_NoHand D.c_NoCell D.c_NoMark D.c_IsIn D.c_NotIn D.c_NotHeld D.c_Gone D.c_BadPairs D.c_NotNow D.c_StoreError))) := fn_or (fn_up (ok_Sides__Sides_look_hand T)) (okr_Sides__Sides_look_hand T)
  refine T.F_Sides_look_in.okX sc_Sides_look_in (fun vs H Q E h => ?_) (fun cdv A outer s H vs Q E hr h => ⟨tr_Sides_look_in K D.c_Sides D.c_NotIn (spOr (sp_slook_hand D.c_Sides) (sr_slook_hand D.c_Sides (Exs.mk D.c_BadNumber D.c_NoHand D.c_NoCell D.c_NoMark D.c_IsIn D.c_NotIn D.c_NotHeld D.c_Gone D.c_BadPairs D.c_NotNow D.c_StoreError))) E, ?_, ?_⟩)
  · first | (obtain ⟨_, rfl, _⟩ := h; rfl; done) | (obtain ⟨_, _, rfl, _⟩ := h; rfl; done) | (obtain ⟨_, _, _, rfl, _⟩ := h; rfl; done) | (obtain ⟨_, _, _, _, rfl, _⟩ := h; rfl; done) | (obtain ⟨_, _, _, _, _, rfl, _⟩ := h; rfl; done) | (obtain ⟨_, _, _, _, _, _, rfl, _⟩ := h; rfl; done) | (obtain ⟨_, _, _, _, _, _, _, rfl, _⟩ := h; rfl; done) | (obtain ⟨_, _, _, _, _, _, _, _, rfl, _⟩ := h; rfl; done) | (obtain ⟨_, _, _, _, _, _, _, _, _, rfl, _⟩ := h; rfl; done) | (obtain ⟨_, _, _, _, _, _, _, _, _, _, rfl, _⟩ := h; rfl; done) | (obtain ⟨_, _, _, _, _, _, _, _, _, _, _, rfl, _⟩ := h; rfl; done) | (obtain ⟨_, _, _, _, _, _, _, _, _, _, _, _, rfl, _⟩ := h; rfl; done) | (obtain ⟨_, _, _, _, _, _, _, _, _, _, _, _, _, rfl, _⟩ := h; rfl; done) | (obtain ⟨_, _, _, _, _, _, _, _, _, _, _, _, _, _, rfl, _⟩ := h; rfl; done) | (obtain ⟨_, _, _, _, _, _, _, _, _, _, _, _, _, _, _, rfl, _⟩ := h; rfl; done) | ((rcases h with h | h) <;> (first | (obtain ⟨_, rfl, _⟩ := h; rfl) | (obtain ⟨_, _, rfl, _⟩ := h; rfl) | (obtain ⟨_, _, _, rfl, _⟩ := h; rfl) | (obtain ⟨_, _, _, _, rfl, _⟩ := h; rfl) | (obtain ⟨_, _, _, _, _, rfl, _⟩ := h; rfl) | (obtain ⟨_, _, _, _, _, _, rfl, _⟩ := h; rfl) | (obtain ⟨_, _, _, _, _, _, _, rfl, _⟩ := h; rfl) | (obtain ⟨_, _, _, _, _, _, _, _, rfl, _⟩ := h; rfl) | (obtain ⟨_, _, _, _, _, _, _, _, _, rfl, _⟩ := h; rfl) | (obtain ⟨_, _, _, _, _, _, _, _, _, _, rfl, _⟩ := h; rfl) | (obtain ⟨_, _, _, _, _, _, _, _, _, _, _, rfl, _⟩ := h; rfl) | (obtain ⟨_, _, _, _, _, _, _, _, _, _, _, _, rfl, _⟩ := h; rfl) | (obtain ⟨_, _, _, _, _, _, _, _, _, _, _, _, _, rfl, _⟩ := h; rfl) | (obtain ⟨_, _, _, _, _, _, _, _, _, _, _, _, _, _, rfl, _⟩ := h; rfl) | (obtain ⟨_, _, _, _, _, _, _, _, _, _, _, _, _, _, _, rfl, _⟩ := h; rfl)))
  · have hu := hu_of hr
    exact pss_cons (ps_expr (pe_meth (pv 0) T.cl_Sides T.me_Sides_look_hand GR_Sides__Sides_look_hand (hr.mono (by decide)) T.b_Sides_look_hand .nil (passes_call (takes_of rfl rfl rfl rfl) fun _ _ _ _ h => h) (pa_cons (pv 1) (pa_nil))))
      (pss_one (ps_if (pt_cmp (pc_dnotin hu (pv 1) (pe_fld (pv 0) (by rfl))) (by rfl)) (pss_one (ps_raise rfl (takes_of rfl rfl rfl rfl) (pmk_own PySem.F.excBase_ValueError T.xi_NotIn T.g_NotIn T.kp_NotIn (raises_own T.sb_NotIn T.ty_NotIn) (by rfl)))) (pss_nil)))
  · exact purer_slook_in (X := (Exs.mk D.c_BadNumber D.c_NoHand D.c_NoCell D.c_NoMark D.c_IsIn D.c_NotIn D.c_NotHeld D.c_Gone D.c_BadPairs D.c_NotNow D.c_StoreError)) ⟨T.cl_Sides, T.na_Sides_hands, T.na_Sides_sides, T.na_Sides_open_side, T.na_Sides_where, T.na_Sides_under_way, T.na_Sides_far⟩ h
set_option maxHeartbeats 8000000 in
theorem okr_Sides__Sides_leave (T : Txt K mg D) : FnOk P w K mg base (L2.CX P w) 4 D.f_Sides_leave D.d_Sides_leave ["self", "hand"] (sr_sleave D.c_Sides (Exs.mk D.c_BadNumber D.c_NoHand D.c_NoCell D.c_NoMark D.c_IsIn D.c_NotIn D.c_NotHeld D.c_Gone D.c_BadPairs D.c_NotNow D.c_StoreError)) := by
  have GR_Sides__Sides_look_in : FnOk P w K mg base (L2.CX P w) 3 D.f_Sides_look_in D.d_Sides_look_in ["self", "hand"] (spOr (sp_slook_in D.c_Sides) (sr_slook_in D.c_Sides (Exs.mk D.c_BadNumber D.c_NoHand D.c_NoCell D.c_NoMark D.c_IsIn D.c_NotIn D.c_NotHeld D.c_Gone D.c_BadPairs D.c_NotNow D.c_StoreError))) := fn_or (fn_up (ok_Sides__Sides_look_in T)) (okr_Sides__Sides_look_in T)
  refine T.F_Sides_leave.okX sc_Sides_leave (fun vs H Q E h => ?_) (fun cdv A outer s H vs Q E hr h => ⟨tr_Sides_leave K D.c_Sides (spOr (sp_slook_in D.c_Sides) (sr_slook_in D.c_Sides (Exs.mk D.c_BadNumber D.c_NoHand D.c_NoCell D.c_NoMark D.c_IsIn D.c_NotIn D.c_NotHeld D.c_Gone D.c_BadPairs D.c_NotNow D.c_StoreError))) E, ?_, ?_⟩)
  · first | (obtain ⟨_, rfl, _⟩ := h; rfl; done) | (obtain ⟨_, _, rfl, _⟩ := h; rfl; done) | (obtain ⟨_, _, _, rfl, _⟩ := h; rfl; done) | (obtain ⟨_, _, _, _, rfl, _⟩ := h; rfl; done) | (obtain ⟨_, _, _, _, _, rfl, _⟩ := h; rfl; done) | (obtain ⟨_, _, _, _, _, _, rfl, _⟩ := h; rfl; done) | (obtain ⟨_, _, _, _, _, _, _, rfl, _⟩ := h; rfl; done) | (obtain ⟨_, _, _, _, _, _, _, _, rfl, _⟩ := h; rfl; done) | (obtain ⟨_, _, _, _, _, _, _, _, _, rfl, _⟩ := h; rfl; done) | (obtain ⟨_, _, _, _, _, _, _, _, _, _, rfl, _⟩ := h; rfl; done) | (obtain ⟨_, _, _, _, _, _, _, _, _, _, _, rfl, _⟩ := h; rfl; done) | (obtain ⟨_, _, _, _, _, _, _, _, _, _, _, _, rfl, _⟩ := h; rfl; done) | (obtain ⟨_, _, _, _, _, _, _, _, _, _, _, _, _, rfl, _⟩ := h; rfl; done) | (obtain ⟨_, _, _, _, _, _, _, _, _, _, _, _, _, _, rfl, _⟩ := h; rfl; done) | (obtain ⟨_, _, _, _, _, _, _, _, _, _, _, _, _, _, _, rfl, _⟩ := h; rfl; done) | ((rcases h with h | h) <;> (first | (obtain ⟨_, rfl, _⟩ := h; rfl) | (obtain ⟨_, _, rfl, _⟩ := h; rfl) | (obtain ⟨_, _, _, rfl, _⟩ := h; rfl) | (obtain ⟨_, _, _, _, rfl, _⟩ := h; rfl) | (obtain ⟨_, _, _, _, _, rfl, _⟩ := h; rfl) | (obtain ⟨_, _, _, _, _, _, rfl, _⟩ := h; rfl) | (obtain ⟨_, _, _, _, _, _, _, rfl, _⟩ := h; rfl) | (obtain ⟨_, _, _, _, _, _, _, _, rfl, _⟩ := h; rfl) | (obtain ⟨_, _, _, _, _, _, _, _, _, rfl, _⟩ := h; rfl) | (obtain ⟨_, _, _, _, _, _, _, _, _, _, rfl, _⟩ := h; rfl) | (obtain ⟨_, _, _, _, _, _, _, _, _, _, _, rfl, _⟩ := h; rfl) | (obtain ⟨_, _, _, _, _, _, _, _, _, _, _, _, rfl, _⟩ := h; rfl) | (obtain ⟨_, _, _, _, _, _, _, _, _, _, _, _, _, rfl, _⟩ := h; rfl) | (obtain ⟨_, _, _, _, _, _, _, _, _, _, _, _, _, _, rfl, _⟩ := h; rfl) | (obtain ⟨_, _, _, _, _, _, _, _, _, _, _, _, _, _, _, rfl, _⟩ := h; rfl)))
  · have hu := hu_of hr
    exact pss_cons (ps_expr (pe_meth (pv 0) T.cl_Sides T.me_Sides_look_in GR_Sides__Sides_look_in (hr.mono (by decide)) T.b_Sides_look_in .nil (passes_call (takes_of rfl rfl rfl rfl) fun _ _ _ _ h => h) (pa_cons (pv 1) (pa_nil))))
      (pss_one (ps_expr (pe_dpop1 (pe_fld (pv 0) (by rfl)) (pv 1) ⟨rfl, rfl, rfl, rfl⟩)))
  · exact purer_sleave (X := (Exs.mk D.c_BadNumber D.c_NoHand D.c_NoCell D.c_NoMark D.c_IsIn D.c_NotIn D.c_NotHeld D.c_Gone D.c_BadPairs D.c_NotNow D.c_StoreError)) ⟨T.cl_Sides, T.na_Sides_hands, T.na_Sides_sides, T.na_Sides_open_side, T.na_Sides_where, T.na_Sides_under_way, T.na_Sides_far⟩ h
set_option maxHeartbeats 8000000 in
theorem ok_Sides__Sides_read (T : Txt K mg D) : FnOk P w K mg base CX0 4 D.f_Sides_read D.d_Sides_read ["self", "hand", "cell"] (sp_sread D.c_Sides) := by
  have G_Sides__Sides_look_in : FnOk P w K mg base CX0 3 D.f_Sides_look_in D.d_Sides_look_in ["self", "hand"] (sp_slook_in D.c_Sides) := ok_Sides__Sides_look_in T
  have G_is_whole : FnOk P w K mg base CX0 1 D.f_is_whole D.d_is_whole ["thing", "low", "high"] (sp_is_whole) := ok_is_whole T
  refine T.F_Sides_read.ok sc_Sides_read (fun vs H Q E h => ?_) (fun cdv A outer s H vs Q E hr h => ⟨t_Sides_read K D.c_Sides (sp_slook_in D.c_Sides) (sp_is_whole), ?_, ?_⟩)
  · first | (obtain ⟨_, rfl, _⟩ := h; rfl; done) | (obtain ⟨_, _, rfl, _⟩ := h; rfl; done) | (obtain ⟨_, _, _, rfl, _⟩ := h; rfl; done) | (obtain ⟨_, _, _, _, rfl, _⟩ := h; rfl; done) | (obtain ⟨_, _, _, _, _, rfl, _⟩ := h; rfl; done) | (obtain ⟨_, _, _, _, _, _, rfl, _⟩ := h; rfl; done) | (obtain ⟨_, _, _, _, _, _, _, rfl, _⟩ := h; rfl; done) | (obtain ⟨_, _, _, _, _, _, _, _, rfl, _⟩ := h; rfl; done) | (obtain ⟨_, _, _, _, _, _, _, _, _, rfl, _⟩ := h; rfl; done) | (obtain ⟨_, _, _, _, _, _, _, _, _, _, rfl, _⟩ := h; rfl; done) | (obtain ⟨_, _, _, _, _, _, _, _, _, _, _, rfl, _⟩ := h; rfl; done) | (obtain ⟨_, _, _, _, _, _, _, _, _, _, _, _, rfl, _⟩ := h; rfl; done) | (obtain ⟨_, _, _, _, _, _, _, _, _, _, _, _, _, rfl, _⟩ := h; rfl; done) | (obtain ⟨_, _, _, _, _, _, _, _, _, _, _, _, _, _, rfl, _⟩ := h; rfl; done) | (obtain ⟨_, _, _, _, _, _, _, _, _, _, _, _, _, _, _, rfl, _⟩ := h; rfl; done) | ((rcases h with h | h) <;> (first | (obtain ⟨_, rfl, _⟩ := h; rfl) | (obtain ⟨_, _, rfl, _⟩ := h; rfl) | (obtain ⟨_, _, _, rfl, _⟩ := h; rfl) | (obtain ⟨_, _, _, _, rfl, _⟩ := h; rfl) | (obtain ⟨_, _, _, _, _, rfl, _⟩ := h; rfl) | (obtain ⟨_, _, _, _, _, _, rfl, _⟩ := h; rfl) | (obtain ⟨_, _, _, _, _, _, _, rfl, _⟩ := h; rfl) | (obtain ⟨_, _, _, _, _, _, _, _, rfl, _⟩ := h; rfl) | (obtain ⟨_, _, _, _, _, _, _, _, _, rfl, _⟩ := h; rfl) | (obtain ⟨_, _, _, _, _, _, _, _, _, _, rfl, _⟩ := h; rfl) | (obtain ⟨_, _, _, _, _, _, _, _, _, _, _, rfl, _⟩ := h; rfl) | (obtain ⟨_, _, _, _, _, _, _, _, _, _, _, _, rfl, _⟩ := h; rfl) | (obtain ⟨_, _, _, _, _, _, _, _, _, _, _, _, _, rfl, _⟩ := h; rfl) | (obtain ⟨_, _, _, _, _, _, _, _, _, _, _, _, _, _, rfl, _⟩ := h; rfl) | (obtain ⟨_, _, _, _, _, _, _, _, _, _, _, _, _, _, _, rfl, _⟩ := h; rfl)))
  · have hu := hu_of hr
    exact pss_cons (ps_expr (pe_meth (pv 0) T.cl_Sides T.me_Sides_look_in G_Sides__Sides_look_in (hr.mono (by decide)) T.b_Sides_look_in .nil pass0 (pa_cons (pv 1) (pa_nil))))
      (pss_cons (ps_if (pt_not (pt_val (pe_call G_is_whole (hr.mono (by decide)) (by rfl) T.g_is_whole T.F_is_whole.kp T.b_is_whole .nil pass0 (pa_cons (pv 2) (pa_cons (pe_int) (pa_cons (pe_op op_subI (pe_callB call_lenQ (by rfl) T.m_len PySem.boot_len (pa_cons (pe_ix ix_list (pe_fld (pv 0) (by rfl)) (pe_int) (fun _ _ => rfl)) (pa_nil))) (pe_int)) (pa_nil))))))) (pss_one (ps_never)) (pss_nil))
      (pss_one (ps_ret (pe_ix ix_list (pe_ix ix_list (pe_fld (pv 0) (by rfl)) (pe_dget hu (pe_fld (pv 0) (by rfl)) (pv 1) (fun _ _ => rfl)) (fun _ _ => rfl)) (pv 2) (fun _ _ => rfl)))))
  · exact pure_sread ⟨T.cl_Sides, T.na_Sides_hands, T.na_Sides_sides, T.na_Sides_open_side, T.na_Sides_where, T.na_Sides_under_way, T.na_Sides_far⟩ h
set_option maxHeartbeats 8000000 in
theorem okr_Sides__Sides_read (T : Txt K mg D) : FnOk P w K mg base (L2.CX P w) 4 D.f_Sides_read D.d_Sides_read ["self", "hand", "cell"] (sr_sread D.c_Sides (Exs.mk D.c_BadNumber D.c_NoHand D.c_NoCell D.c_NoMark D.c_IsIn D.c_NotIn D.c_NotHeld D.c_Gone D.c_BadPairs D.c_NotNow D.c_StoreError)) := by
  have GR_Sides__Sides_look_in : FnOk P w K mg base (L2.CX P w) 3 D.f_Sides_look_in D.d_Sides_look_in ["self", "hand"] (spOr (sp_slook_in D.c_Sides) (sr_slook_in D.c_Sides (Exs.mk D.c_BadNumber D.c_NoHand D.c_NoCell D.c_NoMark D.c_IsIn D.c_NotIn D.c_NotHeld D.c_Gone D.c_BadPairs D.c_NotNow D.c_StoreError))) := fn_or (fn_up (ok_Sides__Sides_look_in T)) (okr_Sides__Sides_look_in T)
  have GR_is_whole : FnOk P w K mg base (L2.CX P w) 1 D.f_is_whole D.d_is_whole ["thing", "low", "high"] (spOr (sp_is_whole) (sr_is_whole)) := fn_or (fn_up (ok_is_whole T)) (okr_is_whole T)
  refine T.F_Sides_read.okX sc_Sides_read (fun vs H Q E h => ?_) (fun cdv A outer s H vs Q E hr h => ⟨tr_Sides_read K D.c_Sides D.c_NoCell (spOr (sp_slook_in D.c_Sides) (sr_slook_in D.c_Sides (Exs.mk D.c_BadNumber D.c_NoHand D.c_NoCell D.c_NoMark D.c_IsIn D.c_NotIn D.c_NotHeld D.c_Gone D.c_BadPairs D.c_NotNow D.c_StoreError))) (spOr (sp_is_whole) (sr_is_whole)) E, ?_, ?_⟩)
  · first | (obtain ⟨_, rfl, _⟩ := h; rfl; done) | (obtain ⟨_, _, rfl, _⟩ := h; rfl; done) | (obtain ⟨_, _, _, rfl, _⟩ := h; rfl; done) | (obtain ⟨_, _, _, _, rfl, _⟩ := h; rfl; done) | (obtain ⟨_, _, _, _, _, rfl, _⟩ := h; rfl; done) | (obtain ⟨_, _, _, _, _, _, rfl, _⟩ := h; rfl; done) | (obtain ⟨_, _, _, _, _, _, _, rfl, _⟩ := h; rfl; done) | (obtain ⟨_, _, _, _, _, _, _, _, rfl, _⟩ := h; rfl; done) | (obtain ⟨_, _, _, _, _, _, _, _, _, rfl, _⟩ := h; rfl; done) | (obtain ⟨_, _, _, _, _, _, _, _, _, _, rfl, _⟩ := h; rfl; done) | (obtain ⟨_, _, _, _, _, _, _, _, _, _, _, rfl, _⟩ := h; rfl; done) | (obtain ⟨_, _, _, _, _, _, _, _, _, _, _, _, rfl, _⟩ := h; rfl; done) | (obtain ⟨_, _, _, _, _, _, _, _, _, _, _, _, _, rfl, _⟩ := h; rfl; done) | (obtain ⟨_, _, _, _, _, _, _, _, _, _, _, _, _, _, rfl, _⟩ := h; rfl; done) | (obtain ⟨_, _, _, _, _, _, _, _, _, _, _, _, _, _, _, rfl, _⟩ := h; rfl; done) | ((rcases h with h | h) <;> (first | (obtain ⟨_, rfl, _⟩ := h; rfl) | (obtain ⟨_, _, rfl, _⟩ := h; rfl) | (obtain ⟨_, _, _, rfl, _⟩ := h; rfl) | (obtain ⟨_, _, _, _, rfl, _⟩ := h; rfl) | (obtain ⟨_, _, _, _, _, rfl, _⟩ := h; rfl) | (obtain ⟨_, _, _, _, _, _, rfl, _⟩ := h; rfl) | (obtain ⟨_, _, _, _, _, _, _, rfl, _⟩ := h; rfl) | (obtain ⟨_, _, _, _, _, _, _, _, rfl, _⟩ := h; rfl) | (obtain ⟨_, _, _, _, _, _, _, _, _, rfl, _⟩ := h; rfl) | (obtain ⟨_, _, _, _, _, _, _, _, _, _, rfl, _⟩ := h; rfl) | (obtain ⟨_, _, _, _, _, _, _, _, _, _, _, rfl, _⟩ := h; rfl) | (obtain ⟨_, _, _, _, _, _, _, _, _, _, _, _, rfl, _⟩ := h; rfl) | (obtain ⟨_, _, _, _, _, _, _, _, _, _, _, _, _, rfl, _⟩ := h; rfl) | (obtain ⟨_, _, _, _, _, _, _, _, _, _, _, _, _, _, rfl, _⟩ := h; rfl) | (obtain ⟨_, _, _, _, _, _, _, _, _, _, _, _, _, _, _, rfl, _⟩ := h; rfl)))
  · have hu := hu_of hr
    exact pss_cons (ps_expr (pe_meth (pv 0) T.cl_Sides T.me_Sides_look_in GR_Sides__Sides_look_in (hr.mono (by decide)) T.b_Sides_look_in .nil (passes_call (takes_of rfl rfl rfl rfl) fun _ _ _ _ h => h) (pa_cons (pv 1) (pa_nil))))
      (pss_cons (ps_if (pt_not (pt_val (pe_call GR_is_whole (hr.mono (by decide)) (by rfl) T.g_is_whole T.F_is_whole.kp T.b_is_whole .nil (passes_call (takes_of rfl rfl rfl rfl) fun _ _ _ _ h => h) (pa_cons (pv 2) (pa_cons (pe_int) (pa_cons (pe_op op_subI (pe_callB call_lenQ (by rfl) T.m_len PySem.boot_len (pa_cons (pe_ix ix_list (pe_fld (pv 0) (by rfl)) (pe_int) (fun _ _ => rfl)) (pa_nil))) (pe_int)) (pa_nil))))))) (pss_one (ps_raise rfl (takes_of rfl rfl rfl rfl) (pmk_own PySem.F.excBase_ValueError T.xi_NoCell T.g_NoCell T.kp_NoCell (raises_own T.sb_NoCell T.ty_NoCell) (by rfl)))) (pss_nil))
      (pss_one (ps_ret (pe_ix ix_list (pe_ix ix_list (pe_fld (pv 0) (by rfl)) (pe_dget hu (pe_fld (pv 0) (by rfl)) (pv 1) (fun _ _ => rfl)) (fun _ _ => rfl)) (pv 2) (fun _ _ => rfl)))))
  · exact purer_sread (X := (Exs.mk D.c_BadNumber D.c_NoHand D.c_NoCell D.c_NoMark D.c_IsIn D.c_NotIn D.c_NotHeld D.c_Gone D.c_BadPairs D.c_NotNow D.c_StoreError)) ⟨T.cl_Sides, T.na_Sides_hands, T.na_Sides_sides, T.na_Sides_open_side, T.na_Sides_where, T.na_Sides_under_way, T.na_Sides_far⟩ h
set_option maxHeartbeats 8000000 in
theorem ok_Sides__Sides_look_pairs (T : Txt K mg D) : FnOk P w K mg base CX0 2 D.f_Sides_look_pairs D.d_Sides_look_pairs ["self", "pairs"] (sp_slook_pairs D.c_Sides) := by
  have G_is_whole : FnOk P w K mg base CX0 1 D.f_is_whole D.d_is_whole ["thing", "low", "high"] (sp_is_whole) := ok_is_whole T
  refine T.F_Sides_look_pairs.ok sc_Sides_look_pairs (fun vs H Q E h => ?_) (fun cdv A outer s H vs Q E hr h => ⟨t_Sides_look_pairs K (sp_is_whole), ?_, ?_⟩)
  · first | (obtain ⟨_, rfl, _⟩ := h; rfl; done) | (obtain ⟨_, _, rfl, _⟩ := h; rfl; done) | (obtain ⟨_, _, _, rfl, _⟩ := h; rfl; done) | (obtain ⟨_, _, _, _, rfl, _⟩ := h; rfl; done) | (obtain ⟨_, _, _, _, _, rfl, _⟩ := h; rfl; done) | (obtain ⟨_, _, _, _, _, _, rfl, _⟩ := h; rfl; done) | (obtain ⟨_, _, _, _, _, _, _, rfl, _⟩ := h; rfl; done) | (obtain ⟨_, _, _, _, _, _, _, _, rfl, _⟩ := h; rfl; done) | (obtain ⟨_, _, _, _, _, _, _, _, _, rfl, _⟩ := h; rfl; done) | (obtain ⟨_, _, _, _, _, _, _, _, _, _, rfl, _⟩ := h; rfl; done) | (obtain ⟨_, _, _, _, _, _, _, _, _, _, _, rfl, _⟩ := h; rfl; done) | (obtain ⟨_, _, _, _, _, _, _, _, _, _, _, _, rfl, _⟩ := h; rfl; done) | (obtain ⟨_, _, _, _, _, _, _, _, _, _, _, _, _, rfl, _⟩ := h; rfl; done) | (obtain ⟨_, _, _, _, _, _, _, _, _, _, _, _, _, _, rfl, _⟩ := h; rfl; done) | (obtain ⟨_, _, _, _, _, _, _, _, _, _, _, _, _, _, _, rfl, _⟩ := h; rfl; done) | ((rcases h with h | h) <;> (first | (obtain ⟨_, rfl, _⟩ := h; rfl) | (obtain ⟨_, _, rfl, _⟩ := h; rfl) | (obtain ⟨_, _, _, rfl, _⟩ := h; rfl) | (obtain ⟨_, _, _, _, rfl, _⟩ := h; rfl) | (obtain ⟨_, _, _, _, _, rfl, _⟩ := h; rfl) | (obtain ⟨_, _, _, _, _, _, rfl, _⟩ := h; rfl) | (obtain ⟨_, _, _, _, _, _, _, rfl, _⟩ := h; rfl) | (obtain ⟨_, _, _, _, _, _, _, _, rfl, _⟩ := h; rfl) | (obtain ⟨_, _, _, _, _, _, _, _, _, rfl, _⟩ := h; rfl) | (obtain ⟨_, _, _, _, _, _, _, _, _, _, rfl, _⟩ := h; rfl) | (obtain ⟨_, _, _, _, _, _, _, _, _, _, _, rfl, _⟩ := h; rfl) | (obtain ⟨_, _, _, _, _, _, _, _, _, _, _, _, rfl, _⟩ := h; rfl) | (obtain ⟨_, _, _, _, _, _, _, _, _, _, _, _, _, rfl, _⟩ := h; rfl) | (obtain ⟨_, _, _, _, _, _, _, _, _, _, _, _, _, _, rfl, _⟩ := h; rfl) | (obtain ⟨_, _, _, _, _, _, _, _, _, _, _, _, _, _, _, rfl, _⟩ := h; rfl)))
  · have hu := hu_of hr
    exact pss_cons (ps_set (i := 2) sc_Sides_look_pairs.nd rfl (by first | exact Or.inl rfl | exact Or.inr rfl) (pe_and (pe_callB call_isi (by rfl) T.m_isinstance (by decide +kernel) (pa_cons (pv 1) (pa_cons (pe_bltn (v := .ty "list") (by rfl) T.m_list (by decide +kernel) rfl) (pa_nil)))) (pe_one (pe_cmpR (op_neD hr.units) (pv 1) (pe_lst (pa_nil)) (nomark _)))))
      (pss_cons (ps_if (PW.pt (pw_or (pt_not (pt_val (pv 2))) (pw_or1 (pt_not (pt_val (pe_callB (cr_all rfl) (by rfl) T.m_all (by decide +kernel) (pa_cons (pe_lc (own := [("one", 3)]) (by rfl) sc_Sides_look_pairs.nd (pi_list (pv 1)) (blkOk_by (own := [("one", 3)]) (N := ["self", "pairs", "fine", "one", "most"]) (sc := defScope s_Sides_look_pairs) (by decide +kernel)) (fun _ _ _ _ _ => pg_name (i := 3) sc_Sides_look_pairs.nd rfl (by first | exact Or.inl rfl | exact Or.inr rfl)) (fun _ _ _ _ _ => pts_nil) (fun _ _ _ _ _ => pe_and (pe_callB call_isi (by rfl) T.m_isinstance (by decide +kernel) (pa_cons (pv 3) (pa_cons (pe_bltn (v := .ty "tuple") (by rfl) T.m_tuple (by decide +kernel) rfl) (pa_nil)))) (pe_one (pe_cmpR op_eq (pe_callB call_lenQ (by rfl) T.m_len PySem.boot_len (pa_cons (pv 3) (pa_nil))) (pe_int) (nomark _))))) (pa_nil)))))))) (pss_one (ps_never)) (pss_nil))
      (pss_cons (ps_set (i := 4) sc_Sides_look_pairs.nd rfl (by first | exact Or.inl rfl | exact Or.inr rfl) (pe_op op_subI (pe_callB call_lenQ (by rfl) T.m_len PySem.boot_len (pa_cons (pe_ix ix_list (pe_fld (pv 0) (by rfl)) (pe_int) (fun _ _ => rfl)) (pa_nil))) (pe_int)))
      (pss_one (ps_if (pt_not (pt_val (pe_callB (cr_all rfl) (by rfl) T.m_all (by decide +kernel) (pa_cons (pe_lc (own := [("one", 3)]) (by rfl) sc_Sides_look_pairs.nd (pi_list (pv 1)) (blkOk_by (own := [("one", 3)]) (N := ["self", "pairs", "fine", "one", "most"]) (sc := defScope s_Sides_look_pairs) (by decide +kernel)) (fun _ _ _ _ _ => pg_name (i := 3) sc_Sides_look_pairs.nd rfl (by first | exact Or.inl rfl | exact Or.inr rfl)) (fun _ _ _ _ _ => pts_nil) (fun _ _ _ _ _ => pe_and (pe_call G_is_whole (hr.mono (by decide)) (by rfl) T.g_is_whole T.F_is_whole.kp T.b_is_whole .nil pass0 (pa_cons (pe_ix ix_tup (pv 3) (pe_int) (fun _ _ => rfl)) (pa_cons (pe_int) (pa_cons (pv 4) (pa_nil))))) (pe_one (pe_call G_is_whole (hr.mono (by decide)) (by rfl) T.g_is_whole T.F_is_whole.kp T.b_is_whole .nil pass0 (pa_cons (pe_ix ix_tup (pv 3) (pe_int) (fun _ _ => rfl)) (pa_cons (pe_int) (pa_cons (pe_glob (by rfl) T.k_MOST_VALUE ⟨_, rfl⟩) (pa_nil)))))))) (pa_nil))))) (pss_one (ps_never)) (pss_nil)))))
  · exact pure_slook_pairs ⟨T.cl_Sides, T.na_Sides_hands, T.na_Sides_sides, T.na_Sides_open_side, T.na_Sides_where, T.na_Sides_under_way, T.na_Sides_far⟩ h
set_option maxHeartbeats 8000000 in
theorem ok_Sides__Sides_put_all (T : Txt K mg D) : FnOk P w K mg base CX0 1 D.f_Sides_put_all D.d_Sides_put_all ["self", "side"] (sp_put_all D.c_Sides) := by
  refine T.F_Sides_put_all.ok sc_Sides_put_all (fun vs H Q E h => ?_) (fun cdv A outer s H vs Q E hr h => ⟨t_Sides_put_all K, ?_, ?_⟩)
  · first | (obtain ⟨_, rfl, _⟩ := h; rfl; done) | (obtain ⟨_, _, rfl, _⟩ := h; rfl; done) | (obtain ⟨_, _, _, rfl, _⟩ := h; rfl; done) | (obtain ⟨_, _, _, _, rfl, _⟩ := h; rfl; done) | (obtain ⟨_, _, _, _, _, rfl, _⟩ := h; rfl; done) | (obtain ⟨_, _, _, _, _, _, rfl, _⟩ := h; rfl; done) | (obtain ⟨_, _, _, _, _, _, _, rfl, _⟩ := h; rfl; done) | (obtain ⟨_, _, _, _, _, _, _, _, rfl, _⟩ := h; rfl; done) | (obtain ⟨_, _, _, _, _, _, _, _, _, rfl, _⟩ := h; rfl; done) | (obtain ⟨_, _, _, _, _, _, _, _, _, _, rfl, _⟩ := h; rfl; done) | (obtain ⟨_, _, _, _, _, _, _, _, _, _, _, rfl, _⟩ := h; rfl; done) | (obtain ⟨_, _, _, _, _, _, _, _, _, _, _, _, rfl, _⟩ := h; rfl; done) | (obtain ⟨_, _, _, _, _, _, _, _, _, _, _, _, _, rfl, _⟩ := h; rfl; done) | (obtain ⟨_, _, _, _, _, _, _, _, _, _, _, _, _, _, rfl, _⟩ := h; rfl; done) | (obtain ⟨_, _, _, _, _, _, _, _, _, _, _, _, _, _, _, rfl, _⟩ := h; rfl; done) | ((rcases h with h | h) <;> (first | (obtain ⟨_, rfl, _⟩ := h; rfl) | (obtain ⟨_, _, rfl, _⟩ := h; rfl) | (obtain ⟨_, _, _, rfl, _⟩ := h; rfl) | (obtain ⟨_, _, _, _, rfl, _⟩ := h; rfl) | (obtain ⟨_, _, _, _, _, rfl, _⟩ := h; rfl) | (obtain ⟨_, _, _, _, _, _, rfl, _⟩ := h; rfl) | (obtain ⟨_, _, _, _, _, _, _, rfl, _⟩ := h; rfl) | (obtain ⟨_, _, _, _, _, _, _, _, rfl, _⟩ := h; rfl) | (obtain ⟨_, _, _, _, _, _, _, _, _, rfl, _⟩ := h; rfl) | (obtain ⟨_, _, _, _, _, _, _, _, _, _, rfl, _⟩ := h; rfl) | (obtain ⟨_, _, _, _, _, _, _, _, _, _, _, rfl, _⟩ := h; rfl) | (obtain ⟨_, _, _, _, _, _, _, _, _, _, _, _, rfl, _⟩ := h; rfl) | (obtain ⟨_, _, _, _, _, _, _, _, _, _, _, _, _, rfl, _⟩ := h; rfl) | (obtain ⟨_, _, _, _, _, _, _, _, _, _, _, _, _, _, rfl, _⟩ := h; rfl) | (obtain ⟨_, _, _, _, _, _, _, _, _, _, _, _, _, _, _, rfl, _⟩ := h; rfl)))
  · have hu := hu_of hr
    exact pss_one (ps_for PassesOwn.never rfl (pi_list (pe_fld (pv 0) (by rfl))) (pg_tup rfl (pgs_cons (pg_name (i := 2) sc_Sides_put_all.nd rfl (by first | exact Or.inl rfl | exact Or.inr rfl)) (pgs_cons (pg_name (i := 3) sc_Sides_put_all.nd rfl (by first | exact Or.inl rfl | exact Or.inr rfl)) (pgs_nil)))) (pss_one (ps_asg (pv 3) (pg_sub (pe_ix ix_list (pe_fld (pv 0) (by rfl)) (pv 1) (fun _ _ => rfl)) (pv 2) set_list))))
  · exact pure_put_all ⟨T.cl_Sides, T.na_Sides_hands, T.na_Sides_sides, T.na_Sides_open_side, T.na_Sides_where, T.na_Sides_under_way, T.na_Sides_far⟩ h
set_option maxHeartbeats 8000000 in
theorem ok_Sides__Sides_begin (T : Txt K mg D) : FnOk P w K mg base CX0 3 D.f_Sides_begin D.d_Sides_begin ["self", "pairs"] (sp_sbegin D.c_Sides) := by
  have G_Sides__Sides_look_pairs : FnOk P w K mg base CX0 2 D.f_Sides_look_pairs D.d_Sides_look_pairs ["self", "pairs"] (sp_slook_pairs D.c_Sides) := ok_Sides__Sides_look_pairs T
  have G_Sides__Sides_put_all : FnOk P w K mg base CX0 1 D.f_Sides_put_all D.d_Sides_put_all ["self", "side"] (sp_put_all D.c_Sides) := ok_Sides__Sides_put_all T
  refine T.F_Sides_begin.ok sc_Sides_begin (fun vs H Q E h => ?_) (fun cdv A outer s H vs Q E hr h => ⟨t_Sides_begin K D.c_Sides (sp_slook_pairs D.c_Sides) (sp_put_all D.c_Sides), ?_, ?_⟩)
  · first | (obtain ⟨_, rfl, _⟩ := h; rfl; done) | (obtain ⟨_, _, rfl, _⟩ := h; rfl; done) | (obtain ⟨_, _, _, rfl, _⟩ := h; rfl; done) | (obtain ⟨_, _, _, _, rfl, _⟩ := h; rfl; done) | (obtain ⟨_, _, _, _, _, rfl, _⟩ := h; rfl; done) | (obtain ⟨_, _, _, _, _, _, rfl, _⟩ := h; rfl; done) | (obtain ⟨_, _, _, _, _, _, _, rfl, _⟩ := h; rfl; done) | (obtain ⟨_, _, _, _, _, _, _, _, rfl, _⟩ := h; rfl; done) | (obtain ⟨_, _, _, _, _, _, _, _, _, rfl, _⟩ := h; rfl; done) | (obtain ⟨_, _, _, _, _, _, _, _, _, _, rfl, _⟩ := h; rfl; done) | (obtain ⟨_, _, _, _, _, _, _, _, _, _, _, rfl, _⟩ := h; rfl; done) | (obtain ⟨_, _, _, _, _, _, _, _, _, _, _, _, rfl, _⟩ := h; rfl; done) | (obtain ⟨_, _, _, _, _, _, _, _, _, _, _, _, _, rfl, _⟩ := h; rfl; done) | (obtain ⟨_, _, _, _, _, _, _, _, _, _, _, _, _, _, rfl, _⟩ := h; rfl; done) | (obtain ⟨_, _, _, _, _, _, _, _, _, _, _, _, _, _, _, rfl, _⟩ := h; rfl; done) | ((rcases h with h | h) <;> (first | (obtain ⟨_, rfl, _⟩ := h; rfl) | (obtain ⟨_, _, rfl, _⟩ := h; rfl) | (obtain ⟨_, _, _, rfl, _⟩ := h; rfl) | (obtain ⟨_, _, _, _, rfl, _⟩ := h; rfl) | (obtain ⟨_, _, _, _, _, rfl, _⟩ := h; rfl) | (obtain ⟨_, _, _, _, _, _, rfl, _⟩ := h; rfl) | (obtain ⟨_, _, _, _, _, _, _, rfl, _⟩ := h; rfl) | (obtain ⟨_, _, _, _, _, _, _, _, rfl, _⟩ := h; rfl) | (obtain ⟨_, _, _, _, _, _, _, _, _, rfl, _⟩ := h; rfl) | (obtain ⟨_, _, _, _, _, _, _, _, _, _, rfl, _⟩ := h; rfl) | (obtain ⟨_, _, _, _, _, _, _, _, _, _, _, rfl, _⟩ := h; rfl) | (obtain ⟨_, _, _, _, _, _, _, _, _, _, _, _, rfl, _⟩ := h; rfl) | (obtain ⟨_, _, _, _, _, _, _, _, _, _, _, _, _, rfl, _⟩ := h; rfl) | (obtain ⟨_, _, _, _, _, _, _, _, _, _, _, _, _, _, rfl, _⟩ := h; rfl) | (obtain ⟨_, _, _, _, _, _, _, _, _, _, _, _, _, _, _, rfl, _⟩ := h; rfl)))
  · have hu := hu_of hr
    exact pss_cons (ps_expr (pe_meth (pv 0) T.cl_Sides T.me_Sides_look_pairs G_Sides__Sides_look_pairs (hr.mono (by decide)) T.b_Sides_look_pairs .nil pass0 (pa_cons (pv 1) (pa_nil))))
      (pss_cons (ps_if (pt_cmpR op_ne (pe_fld (pv 0) (by rfl)) (pe_str) (nomark _)) (pss_one (ps_never)) (pss_nil))
      (pss_cons (ps_fld (pv 0) (pe_callTy call_listOf (by rfl) T.m_list (by decide +kernel) (pa_cons (pv 1) (pa_nil))) (by rfl))
      (pss_cons (ps_expr (pe_meth (pv 0) T.cl_Sides T.me_Sides_put_all G_Sides__Sides_put_all (hr.mono (by decide)) T.b_Sides_put_all .nil pass0 (pa_cons (pe_op op_subI (pe_int) (pe_fld (pv 0) (by rfl))) (pa_nil))))
      (pss_one (ps_fld (pv 0) (pe_str) (by rfl))))))
  · exact pure_sbegin ⟨T.cl_Sides, T.na_Sides_hands, T.na_Sides_sides, T.na_Sides_open_side, T.na_Sides_where, T.na_Sides_under_way, T.na_Sides_far⟩ h
set_option maxHeartbeats 8000000 in
theorem okr_Sides__Sides_look_pairs (T : Txt K mg D) : FnOk P w K mg base (L2.CX P w) 2 D.f_Sides_look_pairs D.d_Sides_look_pairs ["self", "pairs"] (sr_slook_pairs D.c_Sides (Exs.mk D.c_BadNumber D.c_NoHand D.c_NoCell D.c_NoMark D.c_IsIn D.c_NotIn D.c_NotHeld D.c_Gone D.c_BadPairs D.c_NotNow D.c_StoreError)) := by
  have GR_is_whole : FnOk P w K mg base (L2.CX P w) 1 D.f_is_whole D.d_is_whole ["thing", "low", "high"] (spOr (sp_is_whole) (sr_is_whole)) := fn_or (fn_up (ok_is_whole T)) (okr_is_whole T)
  refine T.F_Sides_look_pairs.okX sc_Sides_look_pairs (fun vs H Q E h => ?_) (fun cdv A outer s H vs Q E hr h => ⟨tr_Sides_look_pairs K D.c_BadPairs (spOr (sp_is_whole) (sr_is_whole)) E, ?_, ?_⟩)
  · first | (obtain ⟨_, rfl, _⟩ := h; rfl; done) | (obtain ⟨_, _, rfl, _⟩ := h; rfl; done) | (obtain ⟨_, _, _, rfl, _⟩ := h; rfl; done) | (obtain ⟨_, _, _, _, rfl, _⟩ := h; rfl; done) | (obtain ⟨_, _, _, _, _, rfl, _⟩ := h; rfl; done) | (obtain ⟨_, _, _, _, _, _, rfl, _⟩ := h; rfl; done) | (obtain ⟨_, _, _, _, _, _, _, rfl, _⟩ := h; rfl; done) | (obtain ⟨_, _, _, _, _, _, _, _, rfl, _⟩ := h; rfl; done) | (obtain ⟨_, _, _, _, _, _, _, _, _, rfl, _⟩ := h; rfl; done) | (obtain ⟨_, _, _, _, _, _, _, _, _, _, rfl, _⟩ := h; rfl; done) | (obtain ⟨_, _, _, _, _, _, _, _, _, _, _, rfl, _⟩ := h; rfl; done) | (obtain ⟨_, _, _, _, _, _, _, _, _, _, _, _, rfl, _⟩ := h; rfl; done) | (obtain ⟨_, _, _, _, _, _, _, _, _, _, _, _, _, rfl, _⟩ := h; rfl; done) | (obtain ⟨_, _, _, _, _, _, _, _, _, _, _, _, _, _, rfl, _⟩ := h; rfl; done) | (obtain ⟨_, _, _, _, _, _, _, _, _, _, _, _, _, _, _, rfl, _⟩ := h; rfl; done) | ((rcases h with h | h) <;> (first | (obtain ⟨_, rfl, _⟩ := h; rfl) | (obtain ⟨_, _, rfl, _⟩ := h; rfl) | (obtain ⟨_, _, _, rfl, _⟩ := h; rfl) | (obtain ⟨_, _, _, _, rfl, _⟩ := h; rfl) | (obtain ⟨_, _, _, _, _, rfl, _⟩ := h; rfl) | (obtain ⟨_, _, _, _, _, _, rfl, _⟩ := h; rfl) | (obtain ⟨_, _, _, _, _, _, _, rfl, _⟩ := h; rfl) | (obtain ⟨_, _, _, _, _, _, _, _, rfl, _⟩ := h; rfl) | (obtain ⟨_, _, _, _, _, _, _, _, _, rfl, _⟩ := h; rfl) | (obtain ⟨_, _, _, _, _, _, _, _, _, _, rfl, _⟩ := h; rfl) | (obtain ⟨_, _, _, _, _, _, _, _, _, _, _, rfl, _⟩ := h; rfl) | (obtain ⟨_, _, _, _, _, _, _, _, _, _, _, _, rfl, _⟩ := h; rfl) | (obtain ⟨_, _, _, _, _, _, _, _, _, _, _, _, _, rfl, _⟩ := h; rfl) | (obtain ⟨_, _, _, _, _, _, _, _, _, _, _, _, _, _, rfl, _⟩ := h; rfl) | (obtain ⟨_, _, _, _, _, _, _, _, _, _, _, _, _, _, _, rfl, _⟩ := h; rfl)))
  · have hu := hu_of hr
    exact pss_cons (ps_set (i := 2) sc_Sides_look_pairs.nd rfl (by first | exact Or.inl rfl | exact Or.inr rfl) (pe_and (pe_callB call_isi (by rfl) T.m_isinstance (by decide +kernel) (pa_cons (pv 1) (pa_cons (pe_bltn (v := .ty "list") (by rfl) T.m_list (by decide +kernel) rfl) (pa_nil)))) (pe_one (pe_cmpR (op_neD hr.units) (pv 1) (pe_lst (pa_nil)) (nomark _)))))
      (pss_cons (ps_if (PW.pt (pw_or (pt_not (pt_val (pv 2))) (pw_or1 (pt_not (pt_val (pe_callB (cr_all rfl) (by rfl) T.m_all (by decide +kernel) (pa_cons (pe_lc (own := [("one", 3)]) (by rfl) sc_Sides_look_pairs.nd (pi_list (pv 1)) (blkOk_by (own := [("one", 3)]) (N := ["self", "pairs", "fine", "one", "most"]) (sc := defScope s_Sides_look_pairs) (by decide +kernel)) (fun _ _ _ _ _ => pg_name (i := 3) sc_Sides_look_pairs.nd rfl (by first | exact Or.inl rfl | exact Or.inr rfl)) (fun _ _ _ _ _ => pts_nil) (fun _ _ _ _ _ => pe_and (pe_callB call_isi (by rfl) T.m_isinstance (by decide +kernel) (pa_cons (pv 3) (pa_cons (pe_bltn (v := .ty "tuple") (by rfl) T.m_tuple (by decide +kernel) rfl) (pa_nil)))) (pe_one (pe_cmpR op_eq (pe_callB call_lenQ (by rfl) T.m_len PySem.boot_len (pa_cons (pv 3) (pa_nil))) (pe_int) (nomark _))))) (pa_nil)))))))) (pss_one (ps_raise rfl (takes_of rfl rfl rfl rfl) (pmk_own PySem.F.excBase_ValueError T.xi_BadPairs T.g_BadPairs T.kp_BadPairs (raises_own T.sb_BadPairs T.ty_BadPairs) (by rfl)))) (pss_nil))
      (pss_cons (ps_set (i := 4) sc_Sides_look_pairs.nd rfl (by first | exact Or.inl rfl | exact Or.inr rfl) (pe_op op_subI (pe_callB call_lenQ (by rfl) T.m_len PySem.boot_len (pa_cons (pe_ix ix_list (pe_fld (pv 0) (by rfl)) (pe_int) (fun _ _ => rfl)) (pa_nil))) (pe_int)))
      (pss_one (ps_if (pt_not (pt_val (pe_callB (cr_all rfl) (by rfl) T.m_all (by decide +kernel) (pa_cons (pe_lc (own := [("one", 3)]) (by rfl) sc_Sides_look_pairs.nd (pi_list (pv 1)) (blkOk_by (own := [("one", 3)]) (N := ["self", "pairs", "fine", "one", "most"]) (sc := defScope s_Sides_look_pairs) (by decide +kernel)) (fun _ _ _ _ _ => pg_name (i := 3) sc_Sides_look_pairs.nd rfl (by first | exact Or.inl rfl | exact Or.inr rfl)) (fun _ _ _ _ _ => pts_nil) (fun _ _ _ _ _ => pe_and (pe_call GR_is_whole (hr.mono (by decide)) (by rfl) T.g_is_whole T.F_is_whole.kp T.b_is_whole .nil passL (pa_cons (pe_ix ix_tup (pv 3) (pe_int) (fun _ _ => rfl)) (pa_cons (pe_int) (pa_cons (pv 4) (pa_nil))))) (pe_one (pe_call GR_is_whole (hr.mono (by decide)) (by rfl) T.g_is_whole T.F_is_whole.kp T.b_is_whole .nil passL (pa_cons (pe_ix ix_tup (pv 3) (pe_int) (fun _ _ => rfl)) (pa_cons (pe_int) (pa_cons (pe_glob (by rfl) T.k_MOST_VALUE ⟨_, rfl⟩) (pa_nil)))))))) (pa_nil))))) (pss_one (ps_raise rfl (takes_of rfl rfl rfl rfl) (pmk_own PySem.F.excBase_ValueError T.xi_BadPairs T.g_BadPairs T.kp_BadPairs (raises_own T.sb_BadPairs T.ty_BadPairs) (by rfl)))) (pss_nil)))))
  · exact purer_slook_pairs (X := (Exs.mk D.c_BadNumber D.c_NoHand D.c_NoCell D.c_NoMark D.c_IsIn D.c_NotIn D.c_NotHeld D.c_Gone D.c_BadPairs D.c_NotNow D.c_StoreError)) ⟨T.cl_Sides, T.na_Sides_hands, T.na_Sides_sides, T.na_Sides_open_side, T.na_Sides_where, T.na_Sides_under_way, T.na_Sides_far⟩ h
set_option maxHeartbeats 8000000 in
theorem okr_Sides__Sides_begin (T : Txt K mg D) : FnOk P w K mg base (L2.CX P w) 3 D.f_Sides_begin D.d_Sides_begin ["self", "pairs"] (sr_sbegin D.c_Sides (Exs.mk D.c_BadNumber D.c_NoHand D.c_NoCell D.c_NoMark D.c_IsIn D.c_NotIn D.c_NotHeld D.c_Gone D.c_BadPairs D.c_NotNow D.c_StoreError)) := by
  have GR_Sides__Sides_look_pairs : FnOk P w K mg base (L2.CX P w) 2 D.f_Sides_look_pairs D.d_Sides_look_pairs ["self", "pairs"] (spOr (sp_slook_pairs D.c_Sides) (sr_slook_pairs D.c_Sides (Exs.mk D.c_BadNumber D.c_NoHand D.c_NoCell D.c_NoMark D.c_IsIn D.c_NotIn D.c_NotHeld D.c_Gone D.c_BadPairs D.c_NotNow D.c_StoreError))) := fn_or (fn_up (ok_Sides__Sides_look_pairs T)) (okr_Sides__Sides_look_pairs T)
  have G_Sides__Sides_put_all : FnOk P w K mg base (L2.CX P w) 1 D.f_Sides_put_all D.d_Sides_put_all ["self", "side"] (sp_put_all D.c_Sides) := fn_up (ok_Sides__Sides_put_all T)
  refine T.F_Sides_begin.okX sc_Sides_begin (fun vs H Q E h => ?_) (fun cdv A outer s H vs Q E hr h => ⟨tr_Sides_begin K D.c_Sides D.c_NotNow (spOr (sp_slook_pairs D.c_Sides) (sr_slook_pairs D.c_Sides (Exs.mk D.c_BadNumber D.c_NoHand D.c_NoCell D.c_NoMark D.c_IsIn D.c_NotIn D.c_NotHeld D.c_Gone D.c_BadPairs D.c_NotNow D.c_StoreError))) (sp_put_all D.c_Sides) E, ?_, ?_⟩)
  · first | (obtain ⟨_, rfl, _⟩ := h; rfl; done) | (obtain ⟨_, _, rfl, _⟩ := h; rfl; done) | (obtain ⟨_, _, _, rfl, _⟩ := h; rfl; done) | (obtain ⟨_, _, _, _, rfl, _⟩ := h; rfl; done) | (obtain ⟨_, _, _, _, _, rfl, _⟩ := h; rfl; done) | (obtain ⟨_, _, _, _, _, _, rfl, _⟩ := h; rfl; done) | (obtain ⟨_, _, _, _, _, _, _, rfl, _⟩ := h; rfl; done) | (obtain ⟨_, _, _, _, _, _, _, _, rfl, _⟩ := h; rfl; done) | (obtain ⟨_, _, _, _, _, _, _, _, _, rfl, _⟩ := h; rfl; done) | (obtain ⟨_, _, _, _, _, _, _, _, _, _, rfl, _⟩ := h; rfl; done) | (obtain ⟨_, _, _, _, _, _, _, _, _, _, _, rfl, _⟩ := h; rfl; done) | (obtain ⟨_, _, _, _, _, _, _, _, _, _, _, _, rfl, _⟩ := h; rfl; done) | (obtain ⟨_, _, _, _, _, _, _, _, _, _, _, _, _, rfl, _⟩ := h; rfl; done) | (obtain ⟨_, _, _, _, _, _, _, _, _, _, _, _, _, _, rfl, _⟩ := h; rfl; done) | (obtain ⟨_, _, _, _, _, _, _, _, _, _, _, _, _, _, _, rfl, _⟩ := h; rfl; done) | ((rcases h with h | h) <;> (first | (obtain ⟨_, rfl, _⟩ := h; rfl) | (obtain ⟨_, _, rfl, _⟩ := h; rfl) | (obtain ⟨_, _, _, rfl, _⟩ := h; rfl) | (obtain ⟨_, _, _, _, rfl, _⟩ := h; rfl) | (obtain ⟨_, _, _, _, _, rfl, _⟩ := h; rfl) | (obtain ⟨_, _, _, _, _, _, rfl, _⟩ := h; rfl) | (obtain ⟨_, _, _, _, _, _, _, rfl, _⟩ := h; rfl) | (obtain ⟨_, _, _, _, _, _, _, _, rfl, _⟩ := h; rfl) | (obtain ⟨_, _, _, _, _, _, _, _, _, rfl, _⟩ := h; rfl) | (obtain ⟨_, _, _, _, _, _, _, _, _, _, rfl, _⟩ := h; rfl) | (obtain ⟨_, _, _, _, _, _, _, _, _, _, _, rfl, _⟩ := h; rfl) | (obtain ⟨_, _, _, _, _, _, _, _, _, _, _, _, rfl, _⟩ := h; rfl) | (obtain ⟨_, _, _, _, _, _, _, _, _, _, _, _, _, rfl, _⟩ := h; rfl) | (obtain ⟨_, _, _, _, _, _, _, _, _, _, _, _, _, _, rfl, _⟩ := h; rfl) | (obtain ⟨_, _, _, _, _, _, _, _, _, _, _, _, _, _, _, rfl, _⟩ := h; rfl)))
  · have hu := hu_of hr
    exact pss_cons (ps_expr (pe_meth (pv 0) T.cl_Sides T.me_Sides_look_pairs GR_Sides__Sides_look_pairs (hr.mono (by decide)) T.b_Sides_look_pairs .nil (passes_call (takes_of rfl rfl rfl rfl) fun _ _ _ _ h => h) (pa_cons (pv 1) (pa_nil))))
      (pss_cons (ps_if (pt_cmpR op_ne (pe_fld (pv 0) (by rfl)) (pe_str) (nomark _)) (pss_one (ps_raise rfl (takes_of rfl rfl rfl rfl) (pmk_own PySem.F.excBase_ValueError T.xi_NotNow T.g_NotNow T.kp_NotNow (raises_own T.sb_NotNow T.ty_NotNow) (by rfl)))) (pss_nil))
      (pss_cons (ps_fld (pv 0) (pe_callTy call_listOf (by rfl) T.m_list (by decide +kernel) (pa_cons (pv 1) (pa_nil))) (by rfl))
      (pss_cons (ps_expr (pe_meth (pv 0) T.cl_Sides T.me_Sides_put_all G_Sides__Sides_put_all (hr.mono (by decide)) T.b_Sides_put_all .nil passL (pa_cons (pe_op op_subI (pe_int) (pe_fld (pv 0) (by rfl))) (pa_nil))))
      (pss_one (ps_fld (pv 0) (pe_str) (by rfl))))))
  · exact purer_sbegin (X := (Exs.mk D.c_BadNumber D.c_NoHand D.c_NoCell D.c_NoMark D.c_IsIn D.c_NotIn D.c_NotHeld D.c_Gone D.c_BadPairs D.c_NotNow D.c_StoreError)) ⟨T.cl_Sides, T.na_Sides_hands, T.na_Sides_sides, T.na_Sides_open_side, T.na_Sides_where, T.na_Sides_under_way, T.na_Sides_far⟩ h
set_option maxHeartbeats 8000000 in
theorem ok_Sides__Sides_turn (T : Txt K mg D) : FnOk P w K mg base CX0 1 D.f_Sides_turn D.d_Sides_turn ["self"] (sp_sturn D.c_Sides) := by
  refine T.F_Sides_turn.ok sc_Sides_turn (fun vs H Q E h => ?_) (fun cdv A outer s H vs Q E hr h => ⟨t_Sides_turn K, ?_, ?_⟩)
  · first | (obtain ⟨_, rfl, _⟩ := h; rfl; done) | (obtain ⟨_, _, rfl, _⟩ := h; rfl; done) | (obtain ⟨_, _, _, rfl, _⟩ := h; rfl; done) | (obtain ⟨_, _, _, _, rfl, _⟩ := h; rfl; done) | (obtain ⟨_, _, _, _, _, rfl, _⟩ := h; rfl; done) | (obtain ⟨_, _, _, _, _, _, rfl, _⟩ := h; rfl; done) | (obtain ⟨_, _, _, _, _, _, _, rfl, _⟩ := h; rfl; done) | (obtain ⟨_, _, _, _, _, _, _, _, rfl, _⟩ := h; rfl; done) | (obtain ⟨_, _, _, _, _, _, _, _, _, rfl, _⟩ := h; rfl; done) | (obtain ⟨_, _, _, _, _, _, _, _, _, _, rfl, _⟩ := h; rfl; done) | (obtain ⟨_, _, _, _, _, _, _, _, _, _, _, rfl, _⟩ := h; rfl; done) | (obtain ⟨_, _, _, _, _, _, _, _, _, _, _, _, rfl, _⟩ := h; rfl; done) | (obtain ⟨_, _, _, _, _, _, _, _, _, _, _, _, _, rfl, _⟩ := h; rfl; done) | (obtain ⟨_, _, _, _, _, _, _, _, _, _, _, _, _, _, rfl, _⟩ := h; rfl; done) | (obtain ⟨_, _, _, _, _, _, _, _, _, _, _, _, _, _, _, rfl, _⟩ := h; rfl; done) | ((rcases h with h | h) <;> (first | (obtain ⟨_, rfl, _⟩ := h; rfl) | (obtain ⟨_, _, rfl, _⟩ := h; rfl) | (obtain ⟨_, _, _, rfl, _⟩ := h; rfl) | (obtain ⟨_, _, _, _, rfl, _⟩ := h; rfl) | (obtain ⟨_, _, _, _, _, rfl, _⟩ := h; rfl) | (obtain ⟨_, _, _, _, _, _, rfl, _⟩ := h; rfl) | (obtain ⟨_, _, _, _, _, _, _, rfl, _⟩ := h; rfl) | (obtain ⟨_, _, _, _, _, _, _, _, rfl, _⟩ := h; rfl) | (obtain ⟨_, _, _, _, _, _, _, _, _, rfl, _⟩ := h; rfl) | (obtain ⟨_, _, _, _, _, _, _, _, _, _, rfl, _⟩ := h; rfl) | (obtain ⟨_, _, _, _, _, _, _, _, _, _, _, rfl, _⟩ := h; rfl) | (obtain ⟨_, _, _, _, _, _, _, _, _, _, _, _, rfl, _⟩ := h; rfl) | (obtain ⟨_, _, _, _, _, _, _, _, _, _, _, _, _, rfl, _⟩ := h; rfl) | (obtain ⟨_, _, _, _, _, _, _, _, _, _, _, _, _, _, rfl, _⟩ := h; rfl) | (obtain ⟨_, _, _, _, _, _, _, _, _, _, _, _, _, _, _, rfl, _⟩ := h; rfl)))
  · have hu := hu_of hr
    exact pss_cons (ps_if (pt_cmpR op_ne (pe_fld (pv 0) (by rfl)) (pe_str) (nomark _)) (pss_one (ps_never)) (pss_nil))
      (pss_cons (ps_fld (pv 0) (pe_op op_subI (pe_int) (pe_fld (pv 0) (by rfl))) (by rfl))
      (pss_one (ps_fld (pv 0) (pe_str) (by rfl))))
  · exact pure_sturn ⟨T.cl_Sides, T.na_Sides_hands, T.na_Sides_sides, T.na_Sides_open_side, T.na_Sides_where, T.na_Sides_under_way, T.na_Sides_far⟩ h
set_option maxHeartbeats 8000000 in
theorem okr_Sides__Sides_turn (T : Txt K mg D) : FnOk P w K mg base (L2.CX P w) 1 D.f_Sides_turn D.d_Sides_turn ["self"] (sr_sturn D.c_Sides (Exs.mk D.c_BadNumber D.c_NoHand D.c_NoCell D.c_NoMark D.c_IsIn D.c_NotIn D.c_NotHeld D.c_Gone D.c_BadPairs D.c_NotNow D.c_StoreError)) := by
  refine T.F_Sides_turn.okX sc_Sides_turn (fun vs H Q E h => ?_) (fun cdv A outer s H vs Q E hr h => ⟨tr_Sides_turn K D.c_NotNow E, ?_, ?_⟩)
  · first | (obtain ⟨_, rfl, _⟩ := h; rfl; done) | (obtain ⟨_, _, rfl, _⟩ := h; rfl; done) | (obtain ⟨_, _, _, rfl, _⟩ := h; rfl; done) | (obtain ⟨_, _, _, _, rfl, _⟩ := h; rfl; done) | (obtain ⟨_, _, _, _, _, rfl, _⟩ := h; rfl; done) | (obtain ⟨_, _, _, _, _, _, rfl, _⟩ := h; rfl; done) | (obtain ⟨_, _, _, _, _, _, _, rfl, _⟩ := h; rfl; done) | (obtain ⟨_, _, _, _, _, _, _, _, rfl, _⟩ := h; rfl; done) | (obtain ⟨_, _, _, _, _, _, _, _, _, rfl, _⟩ := h; rfl; done) | (obtain ⟨_, _, _, _, _, _, _, _, _, _, rfl, _⟩ := h; rfl; done) | (obtain ⟨_, _, _, _, _, _, _, _, _, _, _, rfl, _⟩ := h; rfl; done) | (obtain ⟨_, _, _, _, _, _, _, _, _, _, _, _, rfl, _⟩ := h; rfl; done) | (obtain ⟨_, _, _, _, _, _, _, _, _, _, _, _, _, rfl, _⟩ := h; rfl; done) | (obtain ⟨_, _, _, _, _, _, _, _, _, _, _, _, _, _, rfl, _⟩ := h; rfl; done) | (obtain ⟨_, _, _, _, _, _, _, _, _, _, _, _, _, _, _, rfl, _⟩ := h; rfl; done) | ((rcases h with h | h) <;> (first | (obtain ⟨_, rfl, _⟩ := h; rfl) | (obtain ⟨_, _, rfl, _⟩ := h; rfl) | (obtain ⟨_, _, _, rfl, _⟩ := h; rfl) | (obtain ⟨_, _, _, _, rfl, _⟩ := h; rfl) | (obtain ⟨_, _, _, _, _, rfl, _⟩ := h; rfl) | (obtain ⟨_, _, _, _, _, _, rfl, _⟩ := h; rfl) | (obtain ⟨_, _, _, _, _, _, _, rfl, _⟩ := h; rfl) | (obtain ⟨_, _, _, _, _, _, _, _, rfl, _⟩ := h; rfl) | (obtain ⟨_, _, _, _, _, _, _, _, _, rfl, _⟩ := h; rfl) | (obtain ⟨_, _, _, _, _, _, _, _, _, _, rfl, _⟩ := h; rfl) | (obtain ⟨_, _, _, _, _, _, _, _, _, _, _, rfl, _⟩ := h; rfl) | (obtain ⟨_, _, _, _, _, _, _, _, _, _, _, _, rfl, _⟩ := h; rfl) | (obtain ⟨_, _, _, _, _, _, _, _, _, _, _, _, _, rfl, _⟩ := h; rfl) | (obtain ⟨_, _, _, _, _, _, _, _, _, _, _, _, _, _, rfl, _⟩ := h; rfl) | (obtain ⟨_, _, _, _, _, _, _, _, _, _, _, _, _, _, _, rfl, _⟩ := h; rfl)))
  · have hu := hu_of hr
    exact pss_cons (ps_if (pt_cmpR op_ne (pe_fld (pv 0) (by rfl)) (pe_str) (nomark _)) (pss_one (ps_raise rfl (takes_of rfl rfl rfl rfl) (pmk_own PySem.F.excBase_ValueError T.xi_NotNow T.g_NotNow T.kp_NotNow (raises_own T.sb_NotNow T.ty_NotNow) (by rfl)))) (pss_nil))
      (pss_cons (ps_fld (pv 0) (pe_op op_subI (pe_int) (pe_fld (pv 0) (by rfl))) (by rfl))
      (pss_one (ps_fld (pv 0) (pe_str) (by rfl))))
  · exact purer_sturn (X := (Exs.mk D.c_BadNumber D.c_NoHand D.c_NoCell D.c_NoMark D.c_IsIn D.c_NotIn D.c_NotHeld D.c_Gone D.c_BadPairs D.c_NotNow D.c_StoreError)) ⟨T.cl_Sides, T.na_Sides_hands, T.na_Sides_sides, T.na_Sides_open_side, T.na_Sides_where, T.na_Sides_under_way, T.na_Sides_far⟩ h
set_option maxHeartbeats 8000000 in
theorem ok_Sides__Sides_finish (T : Txt K mg D) : FnOk P w K mg base CX0 2 D.f_Sides_finish D.d_Sides_finish ["self"] (sp_sfinish D.c_Sides) := by
  have G_Sides__Sides_put_all : FnOk P w K mg base CX0 1 D.f_Sides_put_all D.d_Sides_put_all ["self", "side"] (sp_put_all D.c_Sides) := ok_Sides__Sides_put_all T
  refine T.F_Sides_finish.ok sc_Sides_finish (fun vs H Q E h => ?_) (fun cdv A outer s H vs Q E hr h => ⟨t_Sides_finish K D.c_Sides (sp_put_all D.c_Sides), ?_, ?_⟩)
  · first | (obtain ⟨_, rfl, _⟩ := h; rfl; done) | (obtain ⟨_, _, rfl, _⟩ := h; rfl; done) | (obtain ⟨_, _, _, rfl, _⟩ := h; rfl; done) | (obtain ⟨_, _, _, _, rfl, _⟩ := h; rfl; done) | (obtain ⟨_, _, _, _, _, rfl, _⟩ := h; rfl; done) | (obtain ⟨_, _, _, _, _, _, rfl, _⟩ := h; rfl; done) | (obtain ⟨_, _, _, _, _, _, _, rfl, _⟩ := h; rfl; done) | (obtain ⟨_, _, _, _, _, _, _, _, rfl, _⟩ := h; rfl; done) | (obtain ⟨_, _, _, _, _, _, _, _, _, rfl, _⟩ := h; rfl; done) | (obtain ⟨_, _, _, _, _, _, _, _, _, _, rfl, _⟩ := h; rfl; done) | (obtain ⟨_, _, _, _, _, _, _, _, _, _, _, rfl, _⟩ := h; rfl; done) | (obtain ⟨_, _, _, _, _, _, _, _, _, _, _, _, rfl, _⟩ := h; rfl; done) | (obtain ⟨_, _, _, _, _, _, _, _, _, _, _, _, _, rfl, _⟩ := h; rfl; done) | (obtain ⟨_, _, _, _, _, _, _, _, _, _, _, _, _, _, rfl, _⟩ := h; rfl; done) | (obtain ⟨_, _, _, _, _, _, _, _, _, _, _, _, _, _, _, rfl, _⟩ := h; rfl; done) | ((rcases h with h | h) <;> (first | (obtain ⟨_, rfl, _⟩ := h; rfl) | (obtain ⟨_, _, rfl, _⟩ := h; rfl) | (obtain ⟨_, _, _, rfl, _⟩ := h; rfl) | (obtain ⟨_, _, _, _, rfl, _⟩ := h; rfl) | (obtain ⟨_, _, _, _, _, rfl, _⟩ := h; rfl) | (obtain ⟨_, _, _, _, _, _, rfl, _⟩ := h; rfl) | (obtain ⟨_, _, _, _, _, _, _, rfl, _⟩ := h; rfl) | (obtain ⟨_, _, _, _, _, _, _, _, rfl, _⟩ := h; rfl) | (obtain ⟨_, _, _, _, _, _, _, _, _, rfl, _⟩ := h; rfl) | (obtain ⟨_, _, _, _, _, _, _, _, _, _, rfl, _⟩ := h; rfl) | (obtain ⟨_, _, _, _, _, _, _, _, _, _, _, rfl, _⟩ := h; rfl) | (obtain ⟨_, _, _, _, _, _, _, _, _, _, _, _, rfl, _⟩ := h; rfl) | (obtain ⟨_, _, _, _, _, _, _, _, _, _, _, _, _, rfl, _⟩ := h; rfl) | (obtain ⟨_, _, _, _, _, _, _, _, _, _, _, _, _, _, rfl, _⟩ := h; rfl) | (obtain ⟨_, _, _, _, _, _, _, _, _, _, _, _, _, _, _, rfl, _⟩ := h; rfl)))
  · have hu := hu_of hr
    exact pss_cons (ps_if (pt_cmpR op_ne (pe_fld (pv 0) (by rfl)) (pe_str) (nomark _)) (pss_one (ps_never)) (pss_nil))
      (pss_cons (ps_if (pt_cmpR op_in_seq (pe_op op_subI (pe_int) (pe_fld (pv 0) (by rfl))) (pe_listVals rfl (pe_fld (pv 0) (by rfl)) (by rfl) T.m_list (by decide +kernel)) (by rfl)) (pss_one (ps_ret (pe_bl))) (pss_nil))
      (pss_cons (ps_expr (pe_meth (pv 0) T.cl_Sides T.me_Sides_put_all G_Sides__Sides_put_all (hr.mono (by decide)) T.b_Sides_put_all .nil pass0 (pa_cons (pe_op op_subI (pe_int) (pe_fld (pv 0) (by rfl))) (pa_nil))))
      (pss_cons (ps_fld (pv 0) (pe_str) (by rfl))
      (pss_one (ps_ret (pe_bl))))))
  · exact pure_sfinish ⟨T.cl_Sides, T.na_Sides_hands, T.na_Sides_sides, T.na_Sides_open_side, T.na_Sides_where, T.na_Sides_under_way, T.na_Sides_far⟩ h
set_option maxHeartbeats 8000000 in
theorem okr_Sides__Sides_finish (T : Txt K mg D) : FnOk P w K mg base (L2.CX P w) 2 D.f_Sides_finish D.d_Sides_finish ["self"] (sr_sfinish D.c_Sides (Exs.mk D.c_BadNumber D.c_NoHand D.c_NoCell D.c_NoMark D.c_IsIn D.c_NotIn D.c_NotHeld D.c_Gone D.c_BadPairs D.c_NotNow D.c_StoreError)) := by
  have G_Sides__Sides_put_all : FnOk P w K mg base (L2.CX P w) 1 D.f_Sides_put_all D.d_Sides_put_all ["self", "side"] (sp_put_all D.c_Sides) := fn_up (ok_Sides__Sides_put_all T)
  refine T.F_Sides_finish.okX sc_Sides_finish (fun vs H Q E h => ?_) (fun cdv A outer s H vs Q E hr h => ⟨tr_Sides_finish K D.c_NotNow D.c_Sides (sp_put_all D.c_Sides) E, ?_, ?_⟩)
  · first | (obtain ⟨_, rfl, _⟩ := h; rfl; done) | (obtain ⟨_, _, rfl, _⟩ := h; rfl; done) | (obtain ⟨_, _, _, rfl, _⟩ := h; rfl; done) | (obtain ⟨_, _, _, _, rfl, _⟩ := h; rfl; done) | (obtain ⟨_, _, _, _, _, rfl, _⟩ := h; rfl; done) | (obtain ⟨_, _, _, _, _, _, rfl, _⟩ := h; rfl; done) | (obtain ⟨_, _, _, _, _, _, _, rfl, _⟩ := h; rfl; done) | (obtain ⟨_, _, _, _, _, _, _, _, rfl, _⟩ := h; rfl; done) | (obtain ⟨_, _, _, _, _, _, _, _, _, rfl, _⟩ := h; rfl; done) | (obtain ⟨_, _, _, _, _, _, _, _, _, _, rfl, _⟩ := h; rfl; done) | (obtain ⟨_, _, _, _, _, _, _, _, _, _, _, rfl, _⟩ := h; rfl; done) | (obtain ⟨_, _, _, _, _, _, _, _, _, _, _, _, rfl, _⟩ := h; rfl; done) | (obtain ⟨_, _, _, _, _, _, _, _, _, _, _, _, _, rfl, _⟩ := h; rfl; done) | (obtain ⟨_, _, _, _, _, _, _, _, _, _, _, _, _, _, rfl, _⟩ := h; rfl; done) | (obtain ⟨_, _, _, _, _, _, _, _, _, _, _, _, _, _, _, rfl, _⟩ := h; rfl; done) | ((rcases h with h | h) <;> (first | (obtain ⟨_, rfl, _⟩ := h; rfl) | (obtain ⟨_, _, rfl, _⟩ := h; rfl) | (obtain ⟨_, _, _, rfl, _⟩ := h; rfl) | (obtain ⟨_, _, _, _, rfl, _⟩ := h; rfl) | (obtain ⟨_, _, _, _, _, rfl, _⟩ := h; rfl) | (obtain ⟨_, _, _, _, _, _, rfl, _⟩ := h; rfl) | (obtain ⟨_, _, _, _, _, _, _, rfl, _⟩ := h; rfl) | (obtain ⟨_, _, _, _, _, _, _, _, rfl, _⟩ := h; rfl) | (obtain ⟨_, _, _, _, _, _, _, _, _, rfl, _⟩ := h; rfl) | (obtain ⟨_, _, _, _, _, _, _, _, _, _, rfl, _⟩ := h; rfl) | (obtain ⟨_, _, _, _, _, _, _, _, _, _, _, rfl, _⟩ := h; rfl) | (obtain ⟨_, _, _, _, _, _, _, _, _, _, _, _, rfl, _⟩ := h; rfl) | (obtain ⟨_, _, _, _, _, _, _, _, _, _, _, _, _, rfl, _⟩ := h; rfl) | (obtain ⟨_, _, _, _, _, _, _, _, _, _, _, _, _, _, rfl, _⟩ := h; rfl) | (obtain ⟨_, _, _, _, _, _, _, _, _, _, _, _, _, _, _, rfl, _⟩ := h; rfl)))
  · have hu := hu_of hr
    exact pss_cons (ps_if (pt_cmpR op_ne (pe_fld (pv 0) (by rfl)) (pe_str) (nomark _)) (pss_one (ps_raise rfl (takes_of rfl rfl rfl rfl) (pmk_own PySem.F.excBase_ValueError T.xi_NotNow T.g_NotNow T.kp_NotNow (raises_own T.sb_NotNow T.ty_NotNow) (by rfl)))) (pss_nil))
      (pss_cons (ps_if (pt_cmpR (op_inD (hu65 hr)) (pe_op op_subI (pe_int) (pe_fld (pv 0) (by rfl))) (pe_listVals rfl (pe_fld (pv 0) (by rfl)) (by rfl) T.m_list (by decide +kernel)) (by rfl)) (pss_one (ps_ret (pe_bl))) (pss_nil))
      (pss_cons (ps_expr (pe_meth (pv 0) T.cl_Sides T.me_Sides_put_all G_Sides__Sides_put_all (hr.mono (by decide)) T.b_Sides_put_all .nil passL (pa_cons (pe_op op_subI (pe_int) (pe_fld (pv 0) (by rfl))) (pa_nil))))
      (pss_cons (ps_fld (pv 0) (pe_str) (by rfl))
      (pss_one (ps_ret (pe_bl))))))
  · exact purer_sfinish (X := (Exs.mk D.c_BadNumber D.c_NoHand D.c_NoCell D.c_NoMark D.c_IsIn D.c_NotIn D.c_NotHeld D.c_Gone D.c_BadPairs D.c_NotNow D.c_StoreError)) ⟨T.cl_Sides, T.na_Sides_hands, T.na_Sides_sides, T.na_Sides_open_side, T.na_Sides_where, T.na_Sides_under_way, T.na_Sides_far⟩ h
set_option maxHeartbeats 8000000 in
theorem ok_Sides__Sides_hands_on (T : Txt K mg D) : FnOk P w K mg base CX0 3 D.f_Sides_hands_on D.d_Sides_hands_on ["self", "side"] (sp_hands_on D.c_Sides) := by
  have G_look_number : FnOk P w K mg base CX0 2 D.f_look_number D.d_look_number ["thing", "low", "high"] (sp_look_number) := ok_look_number T
  refine T.F_Sides_hands_on.ok sc_Sides_hands_on (fun vs H Q E h => ?_) (fun cdv A outer s H vs Q E hr h => ⟨t_Sides_hands_on K (sp_look_number), ?_, ?_⟩)
  · first | (obtain ⟨_, rfl, _⟩ := h; rfl; done) | (obtain ⟨_, _, rfl, _⟩ := h; rfl; done) | (obtain ⟨_, _, _, rfl, _⟩ := h; rfl; done) | (obtain ⟨_, _, _, _, rfl, _⟩ := h; rfl; done) | (obtain ⟨_, _, _, _, _, rfl, _⟩ := h; rfl; done) | (obtain ⟨_, _, _, _, _, _, rfl, _⟩ := h; rfl; done) | (obtain ⟨_, _, _, _, _, _, _, rfl, _⟩ := h; rfl; done) | (obtain ⟨_, _, _, _, _, _, _, _, rfl, _⟩ := h; rfl; done) | (obtain ⟨_, _, _, _, _, _, _, _, _, rfl, _⟩ := h; rfl; done) | (obtain ⟨_, _, _, _, _, _, _, _, _, _, rfl, _⟩ := h; rfl; done) | (obtain ⟨_, _, _, _, _, _, _, _, _, _, _, rfl, _⟩ := h; rfl; done) | (obtain ⟨_, _, _, _, _, _, _, _, _, _, _, _, rfl, _⟩ := h; rfl; done) | (obtain ⟨_, _, _, _, _, _, _, _, _, _, _, _, _, rfl, _⟩ := h; rfl; done) | (obtain ⟨_, _, _, _, _, _, _, _, _, _, _, _, _, _, rfl, _⟩ := h; rfl; done) | (obtain ⟨_, _, _, _, _, _, _, _, _, _, _, _, _, _, _, rfl, _⟩ := h; rfl; done) | ((rcases h with h | h) <;> (first | (obtain ⟨_, rfl, _⟩ := h; rfl) | (obtain ⟨_, _, rfl, _⟩ := h; rfl) | (obtain ⟨_, _, _, rfl, _⟩ := h; rfl) | (obtain ⟨_, _, _, _, rfl, _⟩ := h; rfl) | (obtain ⟨_, _, _, _, _, rfl, _⟩ := h; rfl) | (obtain ⟨_, _, _, _, _, _, rfl, _⟩ := h; rfl) | (obtain ⟨_, _, _, _, _, _, _, rfl, _⟩ := h; rfl) | (obtain ⟨_, _, _, _, _, _, _, _, rfl, _⟩ := h; rfl) | (obtain ⟨_, _, _, _, _, _, _, _, _, rfl, _⟩ := h; rfl) | (obtain ⟨_, _, _, _, _, _, _, _, _, _, rfl, _⟩ := h; rfl) | (obtain ⟨_, _, _, _, _, _, _, _, _, _, _, rfl, _⟩ := h; rfl) | (obtain ⟨_, _, _, _, _, _, _, _, _, _, _, _, rfl, _⟩ := h; rfl) | (obtain ⟨_, _, _, _, _, _, _, _, _, _, _, _, _, rfl, _⟩ := h; rfl) | (obtain ⟨_, _, _, _, _, _, _, _, _, _, _, _, _, _, rfl, _⟩ := h; rfl) | (obtain ⟨_, _, _, _, _, _, _, _, _, _, _, _, _, _, _, rfl, _⟩ := h; rfl)))
  · have hu := hu_of hr
    exact pss_cons (ps_expr (pe_call G_look_number (hr.mono (by decide)) (by rfl) T.g_look_number T.F_look_number.kp T.b_look_number .nil pass0 (pa_cons (pv 1) (pa_cons (pe_int) (pa_cons (pe_int) (pa_nil))))))
      (pss_one (ps_ret (pe_callB cr_sortedI (by rfl) T.m_sorted (by decide +kernel) (pa_cons (pe_lock (pe_lc (own := [("hand", 2)]) (by rfl) sc_Sides_hands_on.nd (pi_keys (pe_fld (pv 0) (by rfl))) (blkOk_by (own := [("hand", 2)]) (N := ["self", "side", "hand"]) (sc := defScope s_Sides_hands_on) (by decide +kernel)) (fun _ _ _ _ _ => pg_name (i := 2) sc_Sides_hands_on.nd rfl (by first | exact Or.inl rfl | exact Or.inr rfl)) (fun _ _ _ _ _ => pts_one (pt_cmpR op_eq (pe_dget hu (pe_fld (pv 0) (by rfl)) (pv 2) (fun _ _ => rfl)) (pv 1) (nomark _))) (fun _ _ _ _ _ => pv 2))) (pa_nil)))))
  · exact pure_hands_on ⟨T.cl_Sides, T.na_Sides_hands, T.na_Sides_sides, T.na_Sides_open_side, T.na_Sides_where, T.na_Sides_under_way, T.na_Sides_far⟩ h
set_option maxHeartbeats 8000000 in
theorem okr_look_number (T : Txt K mg D) : FnOk P w K mg base (L2.CX P w) 2 D.f_look_number D.d_look_number ["thing", "low", "high"] (sr_look_number D.c_BadNumber) := by
  have GR_is_whole : FnOk P w K mg base (L2.CX P w) 1 D.f_is_whole D.d_is_whole ["thing", "low", "high"] (spOr (sp_is_whole) (sr_is_whole)) := fn_or (fn_up (ok_is_whole T)) (okr_is_whole T)
  refine T.F_look_number.okX sc_look_number (fun vs H Q E h => ?_) (fun cdv A outer s H vs Q E hr h => ⟨tr_look_number K D.c_BadNumber (spOr (sp_is_whole) (sr_is_whole)) E, ?_, ?_⟩)
  · first | (obtain ⟨_, rfl, _⟩ := h; rfl; done) | (obtain ⟨_, _, rfl, _⟩ := h; rfl; done) | (obtain ⟨_, _, _, rfl, _⟩ := h; rfl; done) | (obtain ⟨_, _, _, _, rfl, _⟩ := h; rfl; done) | (obtain ⟨_, _, _, _, _, rfl, _⟩ := h; rfl; done) | (obtain ⟨_, _, _, _, _, _, rfl, _⟩ := h; rfl; done) | (obtain ⟨_, _, _, _, _, _, _, rfl, _⟩ := h; rfl; done) | (obtain ⟨_, _, _, _, _, _, _, _, rfl, _⟩ := h; rfl; done) | (obtain ⟨_, _, _, _, _, _, _, _, _, rfl, _⟩ := h; rfl; done) | (obtain ⟨_, _, _, _, _, _, _, _, _, _, rfl, _⟩ := h; rfl; done) | (obtain ⟨_, _, _, _, _, _, _, _, _, _, _, rfl, _⟩ := h; rfl; done) | (obtain ⟨_, _, _, _, _, _, _, _, _, _, _, _, rfl, _⟩ := h; rfl; done) | (obtain ⟨_, _, _, _, _, _, _, _, _, _, _, _, _, rfl, _⟩ := h; rfl; done) | (obtain ⟨_, _, _, _, _, _, _, _, _, _, _, _, _, _, rfl, _⟩ := h; rfl; done) | (obtain ⟨_, _, _, _, _, _, _, _, _, _, _, _, _, _, _, rfl, _⟩ := h; rfl; done) | ((rcases h with h | h) <;> (first | (obtain ⟨_, rfl, _⟩ := h; rfl) | (obtain ⟨_, _, rfl, _⟩ := h; rfl) | (obtain ⟨_, _, _, rfl, _⟩ := h; rfl) | (obtain ⟨_, _, _, _, rfl, _⟩ := h; rfl) | (obtain ⟨_, _, _, _, _, rfl, _⟩ := h; rfl) | (obtain ⟨_, _, _, _, _, _, rfl, _⟩ := h; rfl) | (obtain ⟨_, _, _, _, _, _, _, rfl, _⟩ := h; rfl) | (obtain ⟨_, _, _, _, _, _, _, _, rfl, _⟩ := h; rfl) | (obtain ⟨_, _, _, _, _, _, _, _, _, rfl, _⟩ := h; rfl) | (obtain ⟨_, _, _, _, _, _, _, _, _, _, rfl, _⟩ := h; rfl) | (obtain ⟨_, _, _, _, _, _, _, _, _, _, _, rfl, _⟩ := h; rfl) | (obtain ⟨_, _, _, _, _, _, _, _, _, _, _, _, rfl, _⟩ := h; rfl) | (obtain ⟨_, _, _, _, _, _, _, _, _, _, _, _, _, rfl, _⟩ := h; rfl) | (obtain ⟨_, _, _, _, _, _, _, _, _, _, _, _, _, _, rfl, _⟩ := h; rfl) | (obtain ⟨_, _, _, _, _, _, _, _, _, _, _, _, _, _, _, rfl, _⟩ := h; rfl)))
  · have hu := hu_of hr
    exact pss_one (ps_if (pt_not (pt_val (pe_call GR_is_whole (hr.mono (by decide)) (by rfl) T.g_is_whole T.F_is_whole.kp T.b_is_whole .nil (passes_call (takes_of rfl rfl rfl rfl) fun _ _ _ _ h => h) (pa_cons (pv 0) (pa_cons (pv 1) (pa_cons (pv 2) (pa_nil))))))) (pss_one (ps_raise rfl (takes_of rfl rfl rfl rfl) (pmk_own PySem.F.excBase_ValueError T.xi_BadNumber T.g_BadNumber T.kp_BadNumber (raises_own T.sb_BadNumber T.ty_BadNumber) (by rfl)))) (pss_nil))
  · exact purer_look_number h
set_option maxHeartbeats 8000000 in
theorem okr_Sides__Sides_hands_on (T : Txt K mg D) : FnOk P w K mg base (L2.CX P w) 3 D.f_Sides_hands_on D.d_Sides_hands_on ["self", "side"] (sr_hands_on D.c_Sides (Exs.mk D.c_BadNumber D.c_NoHand D.c_NoCell D.c_NoMark D.c_IsIn D.c_NotIn D.c_NotHeld D.c_Gone D.c_BadPairs D.c_NotNow D.c_StoreError)) := by
  have GR_look_number : FnOk P w K mg base (L2.CX P w) 2 D.f_look_number D.d_look_number ["thing", "low", "high"] (spOr (sp_look_number) (sr_look_number D.c_BadNumber)) := fn_or (fn_up (ok_look_number T)) (okr_look_number T)
  refine T.F_Sides_hands_on.okX sc_Sides_hands_on (fun vs H Q E h => ?_) (fun cdv A outer s H vs Q E hr h => ⟨tr_Sides_hands_on K (spOr (sp_look_number) (sr_look_number D.c_BadNumber)) E, ?_, ?_⟩)
  · first | (obtain ⟨_, rfl, _⟩ := h; rfl; done) | (obtain ⟨_, _, rfl, _⟩ := h; rfl; done) | (obtain ⟨_, _, _, rfl, _⟩ := h; rfl; done) | (obtain ⟨_, _, _, _, rfl, _⟩ := h; rfl; done) | (obtain ⟨_, _, _, _, _, rfl, _⟩ := h; rfl; done) | (obtain ⟨_, _, _, _, _, _, rfl, _⟩ := h; rfl; done) | (obtain ⟨_, _, _, _, _, _, _, rfl, _⟩ := h; rfl; done) | (obtain ⟨_, _, _, _, _, _, _, _, rfl, _⟩ := h; rfl; done) | (obtain ⟨_, _, _, _, _, _, _, _, _, rfl, _⟩ := h; rfl; done) | (obtain ⟨_, _, _, _, _, _, _, _, _, _, rfl, _⟩ := h; rfl; done) | (obtain ⟨_, _, _, _, _, _, _, _, _, _, _, rfl, _⟩ := h; rfl; done) | (obtain ⟨_, _, _, _, _, _, _, _, _, _, _, _, rfl, _⟩ := h; rfl; done) | (obtain ⟨_, _, _, _, _, _, _, _, _, _, _, _, _, rfl, _⟩ := h; rfl; done) | (obtain ⟨_, _, _, _, _, _, _, _, _, _, _, _, _, _, rfl, _⟩ := h; rfl; done) | (obtain ⟨_, _, _, _, _, _, _, _, _, _, _, _, _, _, _, rfl, _⟩ := h; rfl; done) | ((rcases h with h | h) <;> (first | (obtain ⟨_, rfl, _⟩ := h; rfl) | (obtain ⟨_, _, rfl, _⟩ := h; rfl) | (obtain ⟨_, _, _, rfl, _⟩ := h; rfl) | (obtain ⟨_, _, _, _, rfl, _⟩ := h; rfl) | (obtain ⟨_, _, _, _, _, rfl, _⟩ := h; rfl) | (obtain ⟨_, _, _, _, _, _, rfl, _⟩ := h; rfl) | (obtain ⟨_, _, _, _, _, _, _, rfl, _⟩ := h; rfl) | (obtain ⟨_, _, _, _, _, _, _, _, rfl, _⟩ := h; rfl) | (obtain ⟨_, _, _, _, _, _, _, _, _, rfl, _⟩ := h; rfl) | (obtain ⟨_, _, _, _, _, _, _, _, _, _, rfl, _⟩ := h; rfl) | (obtain ⟨_, _, _, _, _, _, _, _, _, _, _, rfl, _⟩ := h; rfl) | (obtain ⟨_, _, _, _, _, _, _, _, _, _, _, _, rfl, _⟩ := h; rfl) | (obtain ⟨_, _, _, _, _, _, _, _, _, _, _, _, _, rfl, _⟩ := h; rfl) | (obtain ⟨_, _, _, _, _, _, _, _, _, _, _, _, _, _, rfl, _⟩ := h; rfl) | (obtain ⟨_, _, _, _, _, _, _, _, _, _, _, _, _, _, _, rfl, _⟩ := h; rfl)))
  · have hu := hu_of hr
    exact pss_cons (ps_expr (pe_call GR_look_number (hr.mono (by decide)) (by rfl) T.g_look_number T.F_look_number.kp T.b_look_number .nil (passes_call (takes_of rfl rfl rfl rfl) fun _ _ _ _ h => h) (pa_cons (pv 1) (pa_cons (pe_int) (pa_cons (pe_int) (pa_nil))))))
      (pss_one (ps_ret (pe_callB cr_sortedI (by rfl) T.m_sorted (by decide +kernel) (pa_cons (pe_lock (pe_lc (own := [("hand", 2)]) (by rfl) sc_Sides_hands_on.nd (pi_keys (pe_fld (pv 0) (by rfl))) (blkOk_by (own := [("hand", 2)]) (N := ["self", "side", "hand"]) (sc := defScope s_Sides_hands_on) (by decide +kernel)) (fun _ _ _ _ _ => pg_name (i := 2) sc_Sides_hands_on.nd rfl (by first | exact Or.inl rfl | exact Or.inr rfl)) (fun _ _ _ _ _ => pts_one (pt_cmpR op_eq (pe_dget hu (pe_fld (pv 0) (by rfl)) (pv 2) (fun _ _ => rfl)) (pv 1) (nomark _))) (fun _ _ _ _ _ => pv 2))) (pa_nil)))))
  · exact purer_hands_on (X := (Exs.mk D.c_BadNumber D.c_NoHand D.c_NoCell D.c_NoMark D.c_IsIn D.c_NotIn D.c_NotHeld D.c_Gone D.c_BadPairs D.c_NotNow D.c_StoreError)) ⟨T.cl_Sides, T.na_Sides_hands, T.na_Sides_sides, T.na_Sides_open_side, T.na_Sides_where, T.na_Sides_under_way, T.na_Sides_far⟩ h
set_option maxHeartbeats 8000000 in
theorem okr__law_did (T : Txt K mg D) : FnOk P w K mg base (L2.CX P w) 5 D.f__law_did D.d__law_did ["some", "kind", "one", "other"] (sr__law_did D.c_Sides (Exs.mk D.c_BadNumber D.c_NoHand D.c_NoCell D.c_NoMark D.c_IsIn D.c_NotIn D.c_NotHeld D.c_Gone D.c_BadPairs D.c_NotNow D.c_StoreError)) := by
  have GR_Sides__Sides_enter : FnOk P w K mg base (L2.CX P w) 3 D.f_Sides_enter D.d_Sides_enter ["self", "hand"] (spOr (sp_senter D.c_Sides) (sr_senter D.c_Sides (Exs.mk D.c_BadNumber D.c_NoHand D.c_NoCell D.c_NoMark D.c_IsIn D.c_NotIn D.c_NotHeld D.c_Gone D.c_BadPairs D.c_NotNow D.c_StoreError))) := fn_or (fn_up (ok_Sides__Sides_enter T)) (okr_Sides__Sides_enter T)
  have GR_Sides__Sides_leave : FnOk P w K mg base (L2.CX P w) 4 D.f_Sides_leave D.d_Sides_leave ["self", "hand"] (spOr (sp_sleave D.c_Sides) (sr_sleave D.c_Sides (Exs.mk D.c_BadNumber D.c_NoHand D.c_NoCell D.c_NoMark D.c_IsIn D.c_NotIn D.c_NotHeld D.c_Gone D.c_BadPairs D.c_NotNow D.c_StoreError))) := fn_or (fn_up (ok_Sides__Sides_leave T)) (okr_Sides__Sides_leave T)
  have GR_Sides__Sides_read : FnOk P w K mg base (L2.CX P w) 4 D.f_Sides_read D.d_Sides_read ["self", "hand", "cell"] (spOr (sp_sread D.c_Sides) (sr_sread D.c_Sides (Exs.mk D.c_BadNumber D.c_NoHand D.c_NoCell D.c_NoMark D.c_IsIn D.c_NotIn D.c_NotHeld D.c_Gone D.c_BadPairs D.c_NotNow D.c_StoreError))) := fn_or (fn_up (ok_Sides__Sides_read T)) (okr_Sides__Sides_read T)
  have GR_Sides__Sides_begin : FnOk P w K mg base (L2.CX P w) 3 D.f_Sides_begin D.d_Sides_begin ["self", "pairs"] (spOr (sp_sbegin D.c_Sides) (sr_sbegin D.c_Sides (Exs.mk D.c_BadNumber D.c_NoHand D.c_NoCell D.c_NoMark D.c_IsIn D.c_NotIn D.c_NotHeld D.c_Gone D.c_BadPairs D.c_NotNow D.c_StoreError))) := fn_or (fn_up (ok_Sides__Sides_begin T)) (okr_Sides__Sides_begin T)
  have GR_Sides__Sides_turn : FnOk P w K mg base (L2.CX P w) 1 D.f_Sides_turn D.d_Sides_turn ["self"] (spOr (sp_sturn D.c_Sides) (sr_sturn D.c_Sides (Exs.mk D.c_BadNumber D.c_NoHand D.c_NoCell D.c_NoMark D.c_IsIn D.c_NotIn D.c_NotHeld D.c_Gone D.c_BadPairs D.c_NotNow D.c_StoreError))) := fn_or (fn_up (ok_Sides__Sides_turn T)) (okr_Sides__Sides_turn T)
  have GR_Sides__Sides_finish : FnOk P w K mg base (L2.CX P w) 2 D.f_Sides_finish D.d_Sides_finish ["self"] (spOr (sp_sfinish D.c_Sides) (sr_sfinish D.c_Sides (Exs.mk D.c_BadNumber D.c_NoHand D.c_NoCell D.c_NoMark D.c_IsIn D.c_NotIn D.c_NotHeld D.c_Gone D.c_BadPairs D.c_NotNow D.c_StoreError))) := fn_or (fn_up (ok_Sides__Sides_finish T)) (okr_Sides__Sides_finish T)
  have GR_Sides__Sides_hands_on : FnOk P w K mg base (L2.CX P w) 3 D.f_Sides_hands_on D.d_Sides_hands_on ["self", "side"] (spOr (sp_hands_on D.c_Sides) (sr_hands_on D.c_Sides (Exs.mk D.c_BadNumber D.c_NoHand D.c_NoCell D.c_NoMark D.c_IsIn D.c_NotIn D.c_NotHeld D.c_Gone D.c_BadPairs D.c_NotNow D.c_StoreError))) := fn_or (fn_up (ok_Sides__Sides_hands_on T)) (okr_Sides__Sides_hands_on T)
  refine T.F__law_did.okX sc__law_did (fun vs H Q E h => ?_) (fun cdv A outer s H vs Q E hr h => ⟨tr__law_did K D.c_Sides (spOr (sp_senter D.c_Sides) (sr_senter D.c_Sides (Exs.mk D.c_BadNumber D.c_NoHand D.c_NoCell D.c_NoMark D.c_IsIn D.c_NotIn D.c_NotHeld D.c_Gone D.c_BadPairs D.c_NotNow D.c_StoreError))) (spOr (sp_sleave D.c_Sides) (sr_sleave D.c_Sides (Exs.mk D.c_BadNumber D.c_NoHand D.c_NoCell D.c_NoMark D.c_IsIn D.c_NotIn D.c_NotHeld D.c_Gone D.c_BadPairs D.c_NotNow D.c_StoreError))) (spOr (sp_sread D.c_Sides) (sr_sread D.c_Sides (Exs.mk D.c_BadNumber D.c_NoHand D.c_NoCell D.c_NoMark D.c_IsIn D.c_NotIn D.c_NotHeld D.c_Gone D.c_BadPairs D.c_NotNow D.c_StoreError))) (spOr (sp_sbegin D.c_Sides) (sr_sbegin D.c_Sides (Exs.mk D.c_BadNumber D.c_NoHand D.c_NoCell D.c_NoMark D.c_IsIn D.c_NotIn D.c_NotHeld D.c_Gone D.c_BadPairs D.c_NotNow D.c_StoreError))) (spOr (sp_sturn D.c_Sides) (sr_sturn D.c_Sides (Exs.mk D.c_BadNumber D.c_NoHand D.c_NoCell D.c_NoMark D.c_IsIn D.c_NotIn D.c_NotHeld D.c_Gone D.c_BadPairs D.c_NotNow D.c_StoreError))) (spOr (sp_sfinish D.c_Sides) (sr_sfinish D.c_Sides (Exs.mk D.c_BadNumber D.c_NoHand D.c_NoCell D.c_NoMark D.c_IsIn D.c_NotIn D.c_NotHeld D.c_Gone D.c_BadPairs D.c_NotNow D.c_StoreError))) (spOr (sp_hands_on D.c_Sides) (sr_hands_on D.c_Sides (Exs.mk D.c_BadNumber D.c_NoHand D.c_NoCell D.c_NoMark D.c_IsIn D.c_NotIn D.c_NotHeld D.c_Gone D.c_BadPairs D.c_NotNow D.c_StoreError))) E, ?_, ?_⟩)
  · first | (obtain ⟨_, rfl, _⟩ := h; rfl; done) | (obtain ⟨_, _, rfl, _⟩ := h; rfl; done) | (obtain ⟨_, _, _, rfl, _⟩ := h; rfl; done) | (obtain ⟨_, _, _, _, rfl, _⟩ := h; rfl; done) | (obtain ⟨_, _, _, _, _, rfl, _⟩ := h; rfl; done) | (obtain ⟨_, _, _, _, _, _, rfl, _⟩ := h; rfl; done) | (obtain ⟨_, _, _, _, _, _, _, rfl, _⟩ := h; rfl; done) | (obtain ⟨_, _, _, _, _, _, _, _, rfl, _⟩ := h; rfl; done) | (obtain ⟨_, _, _, _, _, _, _, _, _, rfl, _⟩ := h; rfl; done) | (obtain ⟨_, _, _, _, _, _, _, _, _, _, rfl, _⟩ := h; rfl; done) | (obtain ⟨_, _, _, _, _, _, _, _, _, _, _, rfl, _⟩ := h; rfl; done) | (obtain ⟨_, _, _, _, _, _, _, _, _, _, _, _, rfl, _⟩ := h; rfl; done) | (obtain ⟨_, _, _, _, _, _, _, _, _, _, _, _, _, rfl, _⟩ := h; rfl; done) | (obtain ⟨_, _, _, _, _, _, _, _, _, _, _, _, _, _, rfl, _⟩ := h; rfl; done) | (obtain ⟨_, _, _, _, _, _, _, _, _, _, _, _, _, _, _, rfl, _⟩ := h; rfl; done) | ((rcases h with h | h) <;> (first | (obtain ⟨_, rfl, _⟩ := h; rfl) | (obtain ⟨_, _, rfl, _⟩ := h; rfl) | (obtain ⟨_, _, _, rfl, _⟩ := h; rfl) | (obtain ⟨_, _, _, _, rfl, _⟩ := h; rfl) | (obtain ⟨_, _, _, _, _, rfl, _⟩ := h; rfl) | (obtain ⟨_, _, _, _, _, _, rfl, _⟩ := h; rfl) | (obtain ⟨_, _, _, _, _, _, _, rfl, _⟩ := h; rfl) | (obtain ⟨_, _, _, _, _, _, _, _, rfl, _⟩ := h; rfl) | (obtain ⟨_, _, _, _, _, _, _, _, _, rfl, _⟩ := h; rfl) | (obtain ⟨_, _, _, _, _, _, _, _, _, _, rfl, _⟩ := h; rfl) | (obtain ⟨_, _, _, _, _, _, _, _, _, _, _, rfl, _⟩ := h; rfl) | (obtain ⟨_, _, _, _, _, _, _, _, _, _, _, _, rfl, _⟩ := h; rfl) | (obtain ⟨_, _, _, _, _, _, _, _, _, _, _, _, _, rfl, _⟩ := h; rfl) | (obtain ⟨_, _, _, _, _, _, _, _, _, _, _, _, _, _, rfl, _⟩ := h; rfl) | (obtain ⟨_, _, _, _, _, _, _, _, _, _, _, _, _, _, _, rfl, _⟩ := h; rfl)))
  · have hu := hu_of hr
    exact pss_cons (ps_if (pt_cmpR op_eq (pv 1) (pe_int) (nomark _)) (pss_one (ps_ret (pe_meth (pv 0) T.cl_Sides T.me_Sides_enter GR_Sides__Sides_enter (hr.mono (by decide)) T.b_Sides_enter .nil (passes_call (takes_of rfl rfl rfl rfl) fun _ _ _ _ h => h) (pa_cons (pv 2) (pa_nil))))) (pss_nil))
      (pss_cons (ps_if (pt_cmpR op_eq (pv 1) (pe_int) (nomark _)) (pss_one (ps_ret (pe_meth (pv 0) T.cl_Sides T.me_Sides_leave GR_Sides__Sides_leave (hr.mono (by decide)) T.b_Sides_leave .nil (passes_call (takes_of rfl rfl rfl rfl) fun _ _ _ _ h => h) (pa_cons (pv 2) (pa_nil))))) (pss_nil))
      (pss_cons (ps_if (pt_cmpR op_eq (pv 1) (pe_int) (nomark _)) (pss_one (ps_ret (pe_meth (pv 0) T.cl_Sides T.me_Sides_read GR_Sides__Sides_read (hr.mono (by decide)) T.b_Sides_read .nil (passes_call (takes_of rfl rfl rfl rfl) fun _ _ _ _ h => h) (pa_cons (pv 2) (pa_cons (pv 3) (pa_nil)))))) (pss_nil))
      (pss_cons (ps_if (pt_cmpR op_eq (pv 1) (pe_int) (nomark _)) (pss_one (ps_ret (pe_meth (pv 0) T.cl_Sides T.me_Sides_begin GR_Sides__Sides_begin (hr.mono (by decide)) T.b_Sides_begin .nil (passes_call (takes_of rfl rfl rfl rfl) fun _ _ _ _ h => h) (pa_cons (pv 2) (pa_nil))))) (pss_nil))
      (pss_cons (ps_if (pt_cmpR op_eq (pv 1) (pe_int) (nomark _)) (pss_one (ps_ret (pe_meth0 (pv 0) T.cl_Sides T.me_Sides_turn GR_Sides__Sides_turn (hr.mono (by decide)) T.b_Sides_turn .nil (passes_call (takes_of rfl rfl rfl rfl) fun _ _ _ _ h => h)))) (pss_nil))
      (pss_one (ps_ret (pe_ifExp (pt_cmpR op_eq (pv 1) (pe_int) (nomark _)) (pe_meth0 (pv 0) T.cl_Sides T.me_Sides_finish GR_Sides__Sides_finish (hr.mono (by decide)) T.b_Sides_finish .nil (passes_call (takes_of rfl rfl rfl rfl) fun _ _ _ _ h => h)) (pe_meth (pv 0) T.cl_Sides T.me_Sides_hands_on GR_Sides__Sides_hands_on (hr.mono (by decide)) T.b_Sides_hands_on .nil (passes_call (takes_of rfl rfl rfl rfl) fun _ _ _ _ h => h) (pa_cons (pv 2) (pa_nil))))))))))
  · exact purer__law_did (X := (Exs.mk D.c_BadNumber D.c_NoHand D.c_NoCell D.c_NoMark D.c_IsIn D.c_NotIn D.c_NotHeld D.c_Gone D.c_BadPairs D.c_NotNow D.c_StoreError)) h
set_option maxHeartbeats 8000000 in
theorem ok_Twice__Twice_look_hand (T : Txt K mg D) : FnOk P w K mg base CX0 2 D.f_Twice_look_hand D.d_Twice_look_hand ["self", "hand"] (sp_tlook_hand D.c_Twice) := by
  have G_is_whole : FnOk P w K mg base CX0 1 D.f_is_whole D.d_is_whole ["thing", "low", "high"] (sp_is_whole) := ok_is_whole T
  refine T.F_Twice_look_hand.ok sc_Twice_look_hand (fun vs H Q E h => ?_) (fun cdv A outer s H vs Q E hr h => ⟨t_Twice_look_hand K (sp_is_whole), ?_, ?_⟩)
  · first | (obtain ⟨_, rfl, _⟩ := h; rfl; done) | (obtain ⟨_, _, rfl, _⟩ := h; rfl; done) | (obtain ⟨_, _, _, rfl, _⟩ := h; rfl; done) | (obtain ⟨_, _, _, _, rfl, _⟩ := h; rfl; done) | (obtain ⟨_, _, _, _, _, rfl, _⟩ := h; rfl; done) | (obtain ⟨_, _, _, _, _, _, rfl, _⟩ := h; rfl; done) | (obtain ⟨_, _, _, _, _, _, _, rfl, _⟩ := h; rfl; done) | (obtain ⟨_, _, _, _, _, _, _, _, rfl, _⟩ := h; rfl; done) | (obtain ⟨_, _, _, _, _, _, _, _, _, rfl, _⟩ := h; rfl; done) | (obtain ⟨_, _, _, _, _, _, _, _, _, _, rfl, _⟩ := h; rfl; done) | (obtain ⟨_, _, _, _, _, _, _, _, _, _, _, rfl, _⟩ := h; rfl; done) | (obtain ⟨_, _, _, _, _, _, _, _, _, _, _, _, rfl, _⟩ := h; rfl; done) | (obtain ⟨_, _, _, _, _, _, _, _, _, _, _, _, _, rfl, _⟩ := h; rfl; done) | (obtain ⟨_, _, _, _, _, _, _, _, _, _, _, _, _, _, rfl, _⟩ := h; rfl; done) | (obtain ⟨_, _, _, _, _, _, _, _, _, _, _, _, _, _, _, rfl, _⟩ := h; rfl; done) | ((rcases h with h | h) <;> (first | (obtain ⟨_, rfl, _⟩ := h; rfl) | (obtain ⟨_, _, rfl, _⟩ := h; rfl) | (obtain ⟨_, _, _, rfl, _⟩ := h; rfl) | (obtain ⟨_, _, _, _, rfl, _⟩ := h; rfl) | (obtain ⟨_, _, _, _, _, rfl, _⟩ := h; rfl) | (obtain ⟨_, _, _, _, _, _, rfl, _⟩ := h; rfl) | (obtain ⟨_, _, _, _, _, _, _, rfl, _⟩ := h; rfl) | (obtain ⟨_, _, _, _, _, _, _, _, rfl, _⟩ := h; rfl) | (obtain ⟨_, _, _, _, _, _, _, _, _, rfl, _⟩ := h; rfl) | (obtain ⟨_, _, _, _, _, _, _, _, _, _, rfl, _⟩ := h; rfl) | (obtain ⟨_, _, _, _, _, _, _, _, _, _, _, rfl, _⟩ := h; rfl) | (obtain ⟨_, _, _, _, _, _, _, _, _, _, _, _, rfl, _⟩ := h; rfl) | (obtain ⟨_, _, _, _, _, _, _, _, _, _, _, _, _, rfl, _⟩ := h; rfl) | (obtain ⟨_, _, _, _, _, _, _, _, _, _, _, _, _, _, rfl, _⟩ := h; rfl) | (obtain ⟨_, _, _, _, _, _, _, _, _, _, _, _, _, _, _, rfl, _⟩ := h; rfl)))
  · have hu := hu_of hr
    exact pss_one (ps_if (pt_not (pt_val (pe_call G_is_whole (hr.mono (by decide)) (by rfl) T.g_is_whole T.F_is_whole.kp T.b_is_whole .nil pass0 (pa_cons (pv 1) (pa_cons (pe_int) (pa_cons (pe_op op_subI (pe_fld (pv 0) (by rfl)) (pe_int)) (pa_nil))))))) (pss_one (ps_never)) (pss_nil))
  · exact pure_tlook_hand ⟨T.cl_Twice, T.na_Twice_hands, T.na_Twice_cells, T.na_Twice_number, T.na_Twice_first⟩ h
set_option maxHeartbeats 8000000 in
theorem ok_Twice__Twice_begin_read (T : Txt K mg D) : FnOk P w K mg base CX0 3 D.f_Twice_begin_read D.d_Twice_begin_read ["self", "hand"] (sp_begin_read D.c_Twice) := by
  have G_Twice__Twice_look_hand : FnOk P w K mg base CX0 2 D.f_Twice_look_hand D.d_Twice_look_hand ["self", "hand"] (sp_tlook_hand D.c_Twice) := ok_Twice__Twice_look_hand T
  refine T.F_Twice_begin_read.ok sc_Twice_begin_read (fun vs H Q E h => ?_) (fun cdv A outer s H vs Q E hr h => ⟨t_Twice_begin_read K D.c_Twice (sp_tlook_hand D.c_Twice), ?_, ?_⟩)
  · first | (obtain ⟨_, rfl, _⟩ := h; rfl; done) | (obtain ⟨_, _, rfl, _⟩ := h; rfl; done) | (obtain ⟨_, _, _, rfl, _⟩ := h; rfl; done) | (obtain ⟨_, _, _, _, rfl, _⟩ := h; rfl; done) | (obtain ⟨_, _, _, _, _, rfl, _⟩ := h; rfl; done) | (obtain ⟨_, _, _, _, _, _, rfl, _⟩ := h; rfl; done) | (obtain ⟨_, _, _, _, _, _, _, rfl, _⟩ := h; rfl; done) | (obtain ⟨_, _, _, _, _, _, _, _, rfl, _⟩ := h; rfl; done) | (obtain ⟨_, _, _, _, _, _, _, _, _, rfl, _⟩ := h; rfl; done) | (obtain ⟨_, _, _, _, _, _, _, _, _, _, rfl, _⟩ := h; rfl; done) | (obtain ⟨_, _, _, _, _, _, _, _, _, _, _, rfl, _⟩ := h; rfl; done) | (obtain ⟨_, _, _, _, _, _, _, _, _, _, _, _, rfl, _⟩ := h; rfl; done) | (obtain ⟨_, _, _, _, _, _, _, _, _, _, _, _, _, rfl, _⟩ := h; rfl; done) | (obtain ⟨_, _, _, _, _, _, _, _, _, _, _, _, _, _, rfl, _⟩ := h; rfl; done) | (obtain ⟨_, _, _, _, _, _, _, _, _, _, _, _, _, _, _, rfl, _⟩ := h; rfl; done) | ((rcases h with h | h) <;> (first | (obtain ⟨_, rfl, _⟩ := h; rfl) | (obtain ⟨_, _, rfl, _⟩ := h; rfl) | (obtain ⟨_, _, _, rfl, _⟩ := h; rfl) | (obtain ⟨_, _, _, _, rfl, _⟩ := h; rfl) | (obtain ⟨_, _, _, _, _, rfl, _⟩ := h; rfl) | (obtain ⟨_, _, _, _, _, _, rfl, _⟩ := h; rfl) | (obtain ⟨_, _, _, _, _, _, _, rfl, _⟩ := h; rfl) | (obtain ⟨_, _, _, _, _, _, _, _, rfl, _⟩ := h; rfl) | (obtain ⟨_, _, _, _, _, _, _, _, _, rfl, _⟩ := h; rfl) | (obtain ⟨_, _, _, _, _, _, _, _, _, _, rfl, _⟩ := h; rfl) | (obtain ⟨_, _, _, _, _, _, _, _, _, _, _, rfl, _⟩ := h; rfl) | (obtain ⟨_, _, _, _, _, _, _, _, _, _, _, _, rfl, _⟩ := h; rfl) | (obtain ⟨_, _, _, _, _, _, _, _, _, _, _, _, _, rfl, _⟩ := h; rfl) | (obtain ⟨_, _, _, _, _, _, _, _, _, _, _, _, _, _, rfl, _⟩ := h; rfl) | (obtain ⟨_, _, _, _, _, _, _, _, _, _, _, _, _, _, _, rfl, _⟩ := h; rfl)))
  · have hu := hu_of hr
    exact pss_cons (ps_expr (pe_meth (pv 0) T.cl_Twice T.me_Twice_look_hand G_Twice__Twice_look_hand (hr.mono (by decide)) T.b_Twice_look_hand .nil pass0 (pa_cons (pv 1) (pa_nil))))
      (pss_cons (ps_dput hu (pe_fld (pv 0) (by rfl)) (pv 1) (pe_fld (pv 0) (by rfl)) (by rfl))
      (pss_one (ps_ret (pe_fld (pv 0) (by rfl)))))
  · exact pure_begin_read ⟨T.cl_Twice, T.na_Twice_hands, T.na_Twice_cells, T.na_Twice_number, T.na_Twice_first⟩ h
set_option maxHeartbeats 8000000 in
theorem okr_Twice__Twice_look_hand (T : Txt K mg D) : FnOk P w K mg base (L2.CX P w) 2 D.f_Twice_look_hand D.d_Twice_look_hand ["self", "hand"] (sr_tlook_hand D.c_Twice (Exs.mk D.c_BadNumber D.c_NoHand D.c_NoCell D.c_NoMark D.c_IsIn D.c_NotIn D.c_NotHeld D.c_Gone D.c_BadPairs D.c_NotNow D.c_StoreError)) := by
  have GR_is_whole : FnOk P w K mg base (L2.CX P w) 1 D.f_is_whole D.d_is_whole ["thing", "low", "high"] (spOr (sp_is_whole) (sr_is_whole)) := fn_or (fn_up (ok_is_whole T)) (okr_is_whole T)
  refine T.F_Twice_look_hand.okX sc_Twice_look_hand (fun vs H Q E h => ?_) (fun cdv A outer s H vs Q E hr h => ⟨tr_Twice_look_hand K D.c_NoHand (spOr (sp_is_whole) (sr_is_whole)) E, ?_, ?_⟩)
  · first | (obtain ⟨_, rfl, _⟩ := h; rfl; done) | (obtain ⟨_, _, rfl, _⟩ := h; rfl; done) | (obtain ⟨_, _, _, rfl, _⟩ := h; rfl; done) | (obtain ⟨_, _, _, _, rfl, _⟩ := h; rfl; done) | (obtain ⟨_, _, _, _, _, rfl, _⟩ := h; rfl; done) | (obtain ⟨_, _, _, _, _, _, rfl, _⟩ := h; rfl; done) | (obtain ⟨_, _, _, _, _, _, _, rfl, _⟩ := h; rfl; done) | (obtain ⟨_, _, _, _, _, _, _, _, rfl, _⟩ := h; rfl; done) | (obtain ⟨_, _, _, _, _, _, _, _, _, rfl, _⟩ := h; rfl; done) | (obtain ⟨_, _, _, _, _, _, _, _, _, _, rfl, _⟩ := h; rfl; done) | (obtain ⟨_, _, _, _, _, _, _, _, _, _, _, rfl, _⟩ := h; rfl; done) | (obtain ⟨_, _, _, _, _, _, _, _, _, _, _, _, rfl, _⟩ := h; rfl; done) | (obtain ⟨_, _, _, _, _, _, _, _, _, _, _, _, _, rfl, _⟩ := h; rfl; done) | (obtain ⟨_, _, _, _, _, _, _, _, _, _, _, _, _, _, rfl, _⟩ := h; rfl; done) | (obtain ⟨_, _, _, _, _, _, _, _, _, _, _, _, _, _, _, rfl, _⟩ := h; rfl; done) | ((rcases h with h | h) <;> (first | (obtain ⟨_, rfl, _⟩ := h; rfl) | (obtain ⟨_, _, rfl, _⟩ := h; rfl) | (obtain ⟨_, _, _, rfl, _⟩ := h; rfl) | (obtain ⟨_, _, _, _, rfl, _⟩ := h; rfl) | (obtain ⟨_, _, _, _, _, rfl, _⟩ := h; rfl) | (obtain ⟨_, _, _, _, _, _, rfl, _⟩ := h; rfl) | (obtain ⟨_, _, _, _, _, _, _, rfl, _⟩ := h; rfl) | (obtain ⟨_, _, _, _, _, _, _, _, rfl, _⟩ := h; rfl) | (obtain ⟨_, _, _, _, _, _, _, _, _, rfl, _⟩ := h; rfl) | (obtain ⟨_, _, _, _, _, _, _, _, _, _, rfl, _⟩ := h; rfl) | (obtain ⟨_, _, _, _, _, _, _, _, _, _, _, rfl, _⟩ := h; rfl) | (obtain ⟨_, _, _, _, _, _, _, _, _, _, _, _, rfl, _⟩ := h; rfl) | (obtain ⟨_, _, _, _, _, _, _, _, _, _, _, _, _, rfl, _⟩ := h; rfl) | (obtain ⟨_, _, _, _, _, _, _, _, _, _, _, _, _, _, rfl, _⟩ := h; rfl) | (obtain ⟨_, _, _, _, _, _, _, _, _, _, _, _, _, _, _, rfl, _⟩ := h; rfl)))
  · have hu := hu_of hr
    exact pss_one (ps_if (pt_not (pt_val (pe_call GR_is_whole (hr.mono (by decide)) (by rfl) T.g_is_whole T.F_is_whole.kp T.b_is_whole .nil (passes_call (takes_of rfl rfl rfl rfl) fun _ _ _ _ h => h) (pa_cons (pv 1) (pa_cons (pe_int) (pa_cons (pe_op op_subI (pe_fld (pv 0) (by rfl)) (pe_int)) (pa_nil))))))) (pss_one (ps_raise rfl (takes_of rfl rfl rfl rfl) (pmk_own PySem.F.excBase_ValueError T.xi_NoHand T.g_NoHand T.kp_NoHand (raises_own T.sb_NoHand T.ty_NoHand) (by rfl)))) (pss_nil))
  · exact purer_tlook_hand (X := (Exs.mk D.c_BadNumber D.c_NoHand D.c_NoCell D.c_NoMark D.c_IsIn D.c_NotIn D.c_NotHeld D.c_Gone D.c_BadPairs D.c_NotNow D.c_StoreError)) ⟨T.cl_Twice, T.na_Twice_hands, T.na_Twice_cells, T.na_Twice_number, T.na_Twice_first⟩ h
set_option maxHeartbeats 8000000 in
theorem okr_Twice__Twice_begin_read (T : Txt K mg D) : FnOk P w K mg base (L2.CX P w) 3 D.f_Twice_begin_read D.d_Twice_begin_read ["self", "hand"] (sr_begin_read D.c_Twice (Exs.mk D.c_BadNumber D.c_NoHand D.c_NoCell D.c_NoMark D.c_IsIn D.c_NotIn D.c_NotHeld D.c_Gone D.c_BadPairs D.c_NotNow D.c_StoreError)) := by
  have GR_Twice__Twice_look_hand : FnOk P w K mg base (L2.CX P w) 2 D.f_Twice_look_hand D.d_Twice_look_hand ["self", "hand"] (spOr (sp_tlook_hand D.c_Twice) (sr_tlook_hand D.c_Twice (Exs.mk D.c_BadNumber D.c_NoHand D.c_NoCell D.c_NoMark D.c_IsIn D.c_NotIn D.c_NotHeld D.c_Gone D.c_BadPairs D.c_NotNow D.c_StoreError))) := fn_or (fn_up (ok_Twice__Twice_look_hand T)) (okr_Twice__Twice_look_hand T)
  refine T.F_Twice_begin_read.okX sc_Twice_begin_read (fun vs H Q E h => ?_) (fun cdv A outer s H vs Q E hr h => ⟨tr_Twice_begin_read K D.c_Twice (spOr (sp_tlook_hand D.c_Twice) (sr_tlook_hand D.c_Twice (Exs.mk D.c_BadNumber D.c_NoHand D.c_NoCell D.c_NoMark D.c_IsIn D.c_NotIn D.c_NotHeld D.c_Gone D.c_BadPairs D.c_NotNow D.c_StoreError))) E, ?_, ?_⟩)
  · first | (obtain ⟨_, rfl, _⟩ := h; rfl; done) | (obtain ⟨_, _, rfl, _⟩ := h; rfl; done) | (obtain ⟨_, _, _, rfl, _⟩ := h; rfl; done) | (obtain ⟨_, _, _, _, rfl, _⟩ := h; rfl; done) | (obtain ⟨_, _, _, _, _, rfl, _⟩ := h; rfl; done) | (obtain ⟨_, _, _, _, _, _, rfl, _⟩ := h; rfl; done) | (obtain ⟨_, _, _, _, _, _, _, rfl, _⟩ := h; rfl; done) | (obtain ⟨_, _, _, _, _, _, _, _, rfl, _⟩ := h; rfl; done) | (obtain ⟨_, _, _, _, _, _, _, _, _, rfl, _⟩ := h; rfl; done) | (obtain ⟨_, _, _, _, _, _, _, _, _, _, rfl, _⟩ := h; rfl; done) | (obtain ⟨_, _, _, _, _, _, _, _, _, _, _, rfl, _⟩ := h; rfl; done) | (obtain ⟨_, _, _, _, _, _, _, _, _, _, _, _, rfl, _⟩ := h; rfl; done) | (obtain ⟨_, _, _, _, _, _, _, _, _, _, _, _, _, rfl, _⟩ := h; rfl; done) | (obtain ⟨_, _, _, _, _, _, _, _, _, _, _, _, _, _, rfl, _⟩ := h; rfl; done) | (obtain ⟨_, _, _, _, _, _, _, _, _, _, _, _, _, _, _, rfl, _⟩ := h; rfl; done) | ((rcases h with h | h) <;> (first | (obtain ⟨_, rfl, _⟩ := h; rfl) | (obtain ⟨_, _, rfl, _⟩ := h; rfl) | (obtain ⟨_, _, _, rfl, _⟩ := h; rfl) | (obtain ⟨_, _, _, _, rfl, _⟩ := h; rfl) | (obtain ⟨_, _, _, _, _, rfl, _⟩ := h; rfl) | (obtain ⟨_, _, _, _, _, _, rfl, _⟩ := h; rfl) | (obtain ⟨_, _, _, _, _, _, _, rfl, _⟩ := h; rfl) | (obtain ⟨_, _, _, _, _, _, _, _, rfl, _⟩ := h; rfl) | (obtain ⟨_, _, _, _, _, _, _, _, _, rfl, _⟩ := h; rfl) | (obtain ⟨_, _, _, _, _, _, _, _, _, _, rfl, _⟩ := h; rfl) | (obtain ⟨_, _, _, _, _, _, _, _, _, _, _, rfl, _⟩ := h; rfl) | (obtain ⟨_, _, _, _, _, _, _, _, _, _, _, _, rfl, _⟩ := h; rfl) | (obtain ⟨_, _, _, _, _, _, _, _, _, _, _, _, _, rfl, _⟩ := h; rfl) | (obtain ⟨_, _, _, _, _, _, _, _, _, _, _, _, _, _, rfl, _⟩ := h; rfl) | (obtain ⟨_, _, _, _, _, _, _, _, _, _, _, _, _, _, _, rfl, _⟩ := h; rfl)))
  · have hu := hu_of hr
    exact pss_cons (ps_expr (pe_meth (pv 0) T.cl_Twice T.me_Twice_look_hand GR_Twice__Twice_look_hand (hr.mono (by decide)) T.b_Twice_look_hand .nil (passes_call (takes_of rfl rfl rfl rfl) fun _ _ _ _ h => h) (pa_cons (pv 1) (pa_nil))))
      (pss_cons (ps_dput hu (pe_fld (pv 0) (by rfl)) (pv 1) (pe_fld (pv 0) (by rfl)) (by rfl))
      (pss_one (ps_ret (pe_fld (pv 0) (by rfl)))))
  · exact purer_begin_read (X := (Exs.mk D.c_BadNumber D.c_NoHand D.c_NoCell D.c_NoMark D.c_IsIn D.c_NotIn D.c_NotHeld D.c_Gone D.c_BadPairs D.c_NotNow D.c_StoreError)) ⟨T.cl_Twice, T.na_Twice_hands, T.na_Twice_cells, T.na_Twice_number, T.na_Twice_first⟩ h
set_option maxHeartbeats 8000000 in
theorem ok_Twice__Twice_look_cell (T : Txt K mg D) : FnOk P w K mg base CX0 2 D.f_Twice_look_cell D.d_Twice_look_cell ["self", "cell"] (sp_tlook_cell D.c_Twice) := by
  have G_is_whole : FnOk P w K mg base CX0 1 D.f_is_whole D.d_is_whole ["thing", "low", "high"] (sp_is_whole) := ok_is_whole T
  refine T.F_Twice_look_cell.ok sc_Twice_look_cell (fun vs H Q E h => ?_) (fun cdv A outer s H vs Q E hr h => ⟨t_Twice_look_cell K (sp_is_whole), ?_, ?_⟩)
  · first | (obtain ⟨_, rfl, _⟩ := h; rfl; done) | (obtain ⟨_, _, rfl, _⟩ := h; rfl; done) | (obtain ⟨_, _, _, rfl, _⟩ := h; rfl; done) | (obtain ⟨_, _, _, _, rfl, _⟩ := h; rfl; done) | (obtain ⟨_, _, _, _, _, rfl, _⟩ := h; rfl; done) | (obtain ⟨_, _, _, _, _, _, rfl, _⟩ := h; rfl; done) | (obtain ⟨_, _, _, _, _, _, _, rfl, _⟩ := h; rfl; done) | (obtain ⟨_, _, _, _, _, _, _, _, rfl, _⟩ := h; rfl; done) | (obtain ⟨_, _, _, _, _, _, _, _, _, rfl, _⟩ := h; rfl; done) | (obtain ⟨_, _, _, _, _, _, _, _, _, _, rfl, _⟩ := h; rfl; done) | (obtain ⟨_, _, _, _, _, _, _, _, _, _, _, rfl, _⟩ := h; rfl; done) | (obtain ⟨_, _, _, _, _, _, _, _, _, _, _, _, rfl, _⟩ := h; rfl; done) | (obtain ⟨_, _, _, _, _, _, _, _, _, _, _, _, _, rfl, _⟩ := h; rfl; done) | (obtain ⟨_, _, _, _, _, _, _, _, _, _, _, _, _, _, rfl, _⟩ := h; rfl; done) | (obtain ⟨_, _, _, _, _, _, _, _, _, _, _, _, _, _, _, rfl, _⟩ := h; rfl; done) | ((rcases h with h | h) <;> (first | (obtain ⟨_, rfl, _⟩ := h; rfl) | (obtain ⟨_, _, rfl, _⟩ := h; rfl) | (obtain ⟨_, _, _, rfl, _⟩ := h; rfl) | (obtain ⟨_, _, _, _, rfl, _⟩ := h; rfl) | (obtain ⟨_, _, _, _, _, rfl, _⟩ := h; rfl) | (obtain ⟨_, _, _, _, _, _, rfl, _⟩ := h; rfl) | (obtain ⟨_, _, _, _, _, _, _, rfl, _⟩ := h; rfl) | (obtain ⟨_, _, _, _, _, _, _, _, rfl, _⟩ := h; rfl) | (obtain ⟨_, _, _, _, _, _, _, _, _, rfl, _⟩ := h; rfl) | (obtain ⟨_, _, _, _, _, _, _, _, _, _, rfl, _⟩ := h; rfl) | (obtain ⟨_, _, _, _, _, _, _, _, _, _, _, rfl, _⟩ := h; rfl) | (obtain ⟨_, _, _, _, _, _, _, _, _, _, _, _, rfl, _⟩ := h; rfl) | (obtain ⟨_, _, _, _, _, _, _, _, _, _, _, _, _, rfl, _⟩ := h; rfl) | (obtain ⟨_, _, _, _, _, _, _, _, _, _, _, _, _, _, rfl, _⟩ := h; rfl) | (obtain ⟨_, _, _, _, _, _, _, _, _, _, _, _, _, _, _, rfl, _⟩ := h; rfl)))
  · have hu := hu_of hr
    exact pss_one (ps_if (pt_not (pt_val (pe_call G_is_whole (hr.mono (by decide)) (by rfl) T.g_is_whole T.F_is_whole.kp T.b_is_whole .nil pass0 (pa_cons (pv 1) (pa_cons (pe_int) (pa_cons (pe_op op_subI (pe_callB call_lenQ (by rfl) T.m_len PySem.boot_len (pa_cons (pe_fld (pv 0) (by rfl)) (pa_nil))) (pe_int)) (pa_nil))))))) (pss_one (ps_never)) (pss_nil))
  · exact pure_tlook_cell ⟨T.cl_Twice, T.na_Twice_hands, T.na_Twice_cells, T.na_Twice_number, T.na_Twice_first⟩ h
set_option maxHeartbeats 8000000 in
theorem ok_Twice__Twice_take (T : Txt K mg D) : FnOk P w K mg base CX0 3 D.f_Twice_take D.d_Twice_take ["self", "hand", "cell"] (sp_take D.c_Twice) := by
  have G_Twice__Twice_look_hand : FnOk P w K mg base CX0 2 D.f_Twice_look_hand D.d_Twice_look_hand ["self", "hand"] (sp_tlook_hand D.c_Twice) := ok_Twice__Twice_look_hand T
  have G_Twice__Twice_look_cell : FnOk P w K mg base CX0 2 D.f_Twice_look_cell D.d_Twice_look_cell ["self", "cell"] (sp_tlook_cell D.c_Twice) := ok_Twice__Twice_look_cell T
  refine T.F_Twice_take.ok sc_Twice_take (fun vs H Q E h => ?_) (fun cdv A outer s H vs Q E hr h => ⟨t_Twice_take K D.c_Twice (sp_tlook_hand D.c_Twice) (sp_tlook_cell D.c_Twice), ?_, ?_⟩)
  · first | (obtain ⟨_, rfl, _⟩ := h; rfl; done) | (obtain ⟨_, _, rfl, _⟩ := h; rfl; done) | (obtain ⟨_, _, _, rfl, _⟩ := h; rfl; done) | (obtain ⟨_, _, _, _, rfl, _⟩ := h; rfl; done) | (obtain ⟨_, _, _, _, _, rfl, _⟩ := h; rfl; done) | (obtain ⟨_, _, _, _, _, _, rfl, _⟩ := h; rfl; done) | (obtain ⟨_, _, _, _, _, _, _, rfl, _⟩ := h; rfl; done) | (obtain ⟨_, _, _, _, _, _, _, _, rfl, _⟩ := h; rfl; done) | (obtain ⟨_, _, _, _, _, _, _, _, _, rfl, _⟩ := h; rfl; done) | (obtain ⟨_, _, _, _, _, _, _, _, _, _, rfl, _⟩ := h; rfl; done) | (obtain ⟨_, _, _, _, _, _, _, _, _, _, _, rfl, _⟩ := h; rfl; done) | (obtain ⟨_, _, _, _, _, _, _, _, _, _, _, _, rfl, _⟩ := h; rfl; done) | (obtain ⟨_, _, _, _, _, _, _, _, _, _, _, _, _, rfl, _⟩ := h; rfl; done) | (obtain ⟨_, _, _, _, _, _, _, _, _, _, _, _, _, _, rfl, _⟩ := h; rfl; done) | (obtain ⟨_, _, _, _, _, _, _, _, _, _, _, _, _, _, _, rfl, _⟩ := h; rfl; done) | ((rcases h with h | h) <;> (first | (obtain ⟨_, rfl, _⟩ := h; rfl) | (obtain ⟨_, _, rfl, _⟩ := h; rfl) | (obtain ⟨_, _, _, rfl, _⟩ := h; rfl) | (obtain ⟨_, _, _, _, rfl, _⟩ := h; rfl) | (obtain ⟨_, _, _, _, _, rfl, _⟩ := h; rfl) | (obtain ⟨_, _, _, _, _, _, rfl, _⟩ := h; rfl) | (obtain ⟨_, _, _, _, _, _, _, rfl, _⟩ := h; rfl) | (obtain ⟨_, _, _, _, _, _, _, _, rfl, _⟩ := h; rfl) | (obtain ⟨_, _, _, _, _, _, _, _, _, rfl, _⟩ := h; rfl) | (obtain ⟨_, _, _, _, _, _, _, _, _, _, rfl, _⟩ := h; rfl) | (obtain ⟨_, _, _, _, _, _, _, _, _, _, _, rfl, _⟩ := h; rfl) | (obtain ⟨_, _, _, _, _, _, _, _, _, _, _, _, rfl, _⟩ := h; rfl) | (obtain ⟨_, _, _, _, _, _, _, _, _, _, _, _, _, rfl, _⟩ := h; rfl) | (obtain ⟨_, _, _, _, _, _, _, _, _, _, _, _, _, _, rfl, _⟩ := h; rfl) | (obtain ⟨_, _, _, _, _, _, _, _, _, _, _, _, _, _, _, rfl, _⟩ := h; rfl)))
  · have hu := hu_of hr
    exact pss_cons (ps_expr (pe_meth (pv 0) T.cl_Twice T.me_Twice_look_hand G_Twice__Twice_look_hand (hr.mono (by decide)) T.b_Twice_look_hand .nil pass0 (pa_cons (pv 1) (pa_nil))))
      (pss_cons (ps_if (pt_cmp (pc_dnotin hu (pv 1) (pe_fld (pv 0) (by rfl))) (by rfl)) (pss_one (ps_never)) (pss_nil))
      (pss_cons (ps_expr (pe_meth (pv 0) T.cl_Twice T.me_Twice_look_cell G_Twice__Twice_look_cell (hr.mono (by decide)) T.b_Twice_look_cell .nil pass0 (pa_cons (pv 2) (pa_nil))))
      (pss_one (ps_ret (pe_ix ix_list (pe_fld (pv 0) (by rfl)) (pv 2) (fun _ _ => rfl))))))
  · exact pure_take ⟨T.cl_Twice, T.na_Twice_hands, T.na_Twice_cells, T.na_Twice_number, T.na_Twice_first⟩ h
set_option maxHeartbeats 8000000 in
theorem okr_Twice__Twice_look_cell (T : Txt K mg D) : FnOk P w K mg base (L2.CX P w) 2 D.f_Twice_look_cell D.d_Twice_look_cell ["self", "cell"] (sr_tlook_cell D.c_Twice (Exs.mk D.c_BadNumber D.c_NoHand D.c_NoCell D.c_NoMark D.c_IsIn D.c_NotIn D.c_NotHeld D.c_Gone D.c_BadPairs D.c_NotNow D.c_StoreError)) := by
  have GR_is_whole : FnOk P w K mg base (L2.CX P w) 1 D.f_is_whole D.d_is_whole ["thing", "low", "high"] (spOr (sp_is_whole) (sr_is_whole)) := fn_or (fn_up (ok_is_whole T)) (okr_is_whole T)
  refine T.F_Twice_look_cell.okX sc_Twice_look_cell (fun vs H Q E h => ?_) (fun cdv A outer s H vs Q E hr h => ⟨tr_Twice_look_cell K D.c_NoCell (spOr (sp_is_whole) (sr_is_whole)) E, ?_, ?_⟩)
  · first | (obtain ⟨_, rfl, _⟩ := h; rfl; done) | (obtain ⟨_, _, rfl, _⟩ := h; rfl; done) | (obtain ⟨_, _, _, rfl, _⟩ := h; rfl; done) | (obtain ⟨_, _, _, _, rfl, _⟩ := h; rfl; done) | (obtain ⟨_, _, _, _, _, rfl, _⟩ := h; rfl; done) | (obtain ⟨_, _, _, _, _, _, rfl, _⟩ := h; rfl; done) | (obtain ⟨_, _, _, _, _, _, _, rfl, _⟩ := h; rfl; done) | (obtain ⟨_, _, _, _, _, _, _, _, rfl, _⟩ := h; rfl; done) | (obtain ⟨_, _, _, _, _, _, _, _, _, rfl, _⟩ := h; rfl; done) | (obtain ⟨_, _, _, _, _, _, _, _, _, _, rfl, _⟩ := h; rfl; done) | (obtain ⟨_, _, _, _, _, _, _, _, _, _, _, rfl, _⟩ := h; rfl; done) | (obtain ⟨_, _, _, _, _, _, _, _, _, _, _, _, rfl, _⟩ := h; rfl; done) | (obtain ⟨_, _, _, _, _, _, _, _, _, _, _, _, _, rfl, _⟩ := h; rfl; done) | (obtain ⟨_, _, _, _, _, _, _, _, _, _, _, _, _, _, rfl, _⟩ := h; rfl; done) | (obtain ⟨_, _, _, _, _, _, _, _, _, _, _, _, _, _, _, rfl, _⟩ := h; rfl; done) | ((rcases h with h | h) <;> (first | (obtain ⟨_, rfl, _⟩ := h; rfl) | (obtain ⟨_, _, rfl, _⟩ := h; rfl) | (obtain ⟨_, _, _, rfl, _⟩ := h; rfl) | (obtain ⟨_, _, _, _, rfl, _⟩ := h; rfl) | (obtain ⟨_, _, _, _, _, rfl, _⟩ := h; rfl) | (obtain ⟨_, _, _, _, _, _, rfl, _⟩ := h; rfl) | (obtain ⟨_, _, _, _, _, _, _, rfl, _⟩ := h; rfl) | (obtain ⟨_, _, _, _, _, _, _, _, rfl, _⟩ := h; rfl) | (obtain ⟨_, _, _, _, _, _, _, _, _, rfl, _⟩ := h; rfl) | (obtain ⟨_, _, _, _, _, _, _, _, _, _, rfl, _⟩ := h; rfl) | (obtain ⟨_, _, _, _, _, _, _, _, _, _, _, rfl, _⟩ := h; rfl) | (obtain ⟨_, _, _, _, _, _, _, _, _, _, _, _, rfl, _⟩ := h; rfl) | (obtain ⟨_, _, _, _, _, _, _, _, _, _, _, _, _, rfl, _⟩ := h; rfl) | (obtain ⟨_, _, _, _, _, _, _, _, _, _, _, _, _, _, rfl, _⟩ := h; rfl) | (obtain ⟨_, _, _, _, _, _, _, _, _, _, _, _, _, _, _, rfl, _⟩ := h; rfl)))
  · have hu := hu_of hr
    exact pss_one (ps_if (pt_not (pt_val (pe_call GR_is_whole (hr.mono (by decide)) (by rfl) T.g_is_whole T.F_is_whole.kp T.b_is_whole .nil (passes_call (takes_of rfl rfl rfl rfl) fun _ _ _ _ h => h) (pa_cons (pv 1) (pa_cons (pe_int) (pa_cons (pe_op op_subI (pe_callB call_lenQ (by rfl) T.m_len PySem.boot_len (pa_cons (pe_fld (pv 0) (by rfl)) (pa_nil))) (pe_int)) (pa_nil))))))) (pss_one (ps_raise rfl (takes_of rfl rfl rfl rfl) (pmk_own PySem.F.excBase_ValueError T.xi_NoCell T.g_NoCell T.kp_NoCell (raises_own T.sb_NoCell T.ty_NoCell) (by rfl)))) (pss_nil))
  · exact purer_tlook_cell (X := (Exs.mk D.c_BadNumber D.c_NoHand D.c_NoCell D.c_NoMark D.c_IsIn D.c_NotIn D.c_NotHeld D.c_Gone D.c_BadPairs D.c_NotNow D.c_StoreError)) ⟨T.cl_Twice, T.na_Twice_hands, T.na_Twice_cells, T.na_Twice_number, T.na_Twice_first⟩ h
set_option maxHeartbeats 8000000 in
theorem okr_Twice__Twice_take (T : Txt K mg D) : FnOk P w K mg base (L2.CX P w) 3 D.f_Twice_take D.d_Twice_take ["self", "hand", "cell"] (sr_take D.c_Twice (Exs.mk D.c_BadNumber D.c_NoHand D.c_NoCell D.c_NoMark D.c_IsIn D.c_NotIn D.c_NotHeld D.c_Gone D.c_BadPairs D.c_NotNow D.c_StoreError)) := by
  have GR_Twice__Twice_look_hand : FnOk P w K mg base (L2.CX P w) 2 D.f_Twice_look_hand D.d_Twice_look_hand ["self", "hand"] (spOr (sp_tlook_hand D.c_Twice) (sr_tlook_hand D.c_Twice (Exs.mk D.c_BadNumber D.c_NoHand D.c_NoCell D.c_NoMark D.c_IsIn D.c_NotIn D.c_NotHeld D.c_Gone D.c_BadPairs D.c_NotNow D.c_StoreError))) := fn_or (fn_up (ok_Twice__Twice_look_hand T)) (okr_Twice__Twice_look_hand T)
  have GR_Twice__Twice_look_cell : FnOk P w K mg base (L2.CX P w) 2 D.f_Twice_look_cell D.d_Twice_look_cell ["self", "cell"] (spOr (sp_tlook_cell D.c_Twice) (sr_tlook_cell D.c_Twice (Exs.mk D.c_BadNumber D.c_NoHand D.c_NoCell D.c_NoMark D.c_IsIn D.c_NotIn D.c_NotHeld D.c_Gone D.c_BadPairs D.c_NotNow D.c_StoreError))) := fn_or (fn_up (ok_Twice__Twice_look_cell T)) (okr_Twice__Twice_look_cell T)
  refine T.F_Twice_take.okX sc_Twice_take (fun vs H Q E h => ?_) (fun cdv A outer s H vs Q E hr h => ⟨tr_Twice_take K D.c_Twice D.c_NotIn (spOr (sp_tlook_hand D.c_Twice) (sr_tlook_hand D.c_Twice (Exs.mk D.c_BadNumber D.c_NoHand D.c_NoCell D.c_NoMark D.c_IsIn D.c_NotIn D.c_NotHeld D.c_Gone D.c_BadPairs D.c_NotNow D.c_StoreError))) (spOr (sp_tlook_cell D.c_Twice) (sr_tlook_cell D.c_Twice (Exs.mk D.c_BadNumber D.c_NoHand D.c_NoCell D.c_NoMark D.c_IsIn D.c_NotIn D.c_NotHeld D.c_Gone D.c_BadPairs D.c_NotNow D.c_StoreError))) E, ?_, ?_⟩)
  · first | (obtain ⟨_, rfl, _⟩ := h; rfl; done) | (obtain ⟨_, _, rfl, _⟩ := h; rfl; done) | (obtain ⟨_, _, _, rfl, _⟩ := h; rfl; done) | (obtain ⟨_, _, _, _, rfl, _⟩ := h; rfl; done) | (obtain ⟨_, _, _, _, _, rfl, _⟩ := h; rfl; done) | (obtain ⟨_, _, _, _, _, _, rfl, _⟩ := h; rfl; done) | (obtain ⟨_, _, _, _, _, _, _, rfl, _⟩ := h; rfl; done) | (obtain ⟨_, _, _, _, _, _, _, _, rfl, _⟩ := h; rfl; done) | (obtain ⟨_, _, _, _, _, _, _, _, _, rfl, _⟩ := h; rfl; done) | (obtain ⟨_, _, _, _, _, _, _, _, _, _, rfl, _⟩ := h; rfl; done) | (obtain ⟨_, _, _, _, _, _, _, _, _, _, _, rfl, _⟩ := h; rfl; done) | (obtain ⟨_, _, _, _, _, _, _, _, _, _, _, _, rfl, _⟩ := h; rfl; done) | (obtain ⟨_, _, _, _, _, _, _, _, _, _, _, _, _, rfl, _⟩ := h; rfl; done) | (obtain ⟨_, _, _, _, _, _, _, _, _, _, _, _, _, _, rfl, _⟩ := h; rfl; done) | (obtain ⟨_, _, _, _, _, _, _, _, _, _, _, _, _, _, _, rfl, _⟩ := h; rfl; done) | ((rcases h with h | h) <;> (first | (obtain ⟨_, rfl, _⟩ := h; rfl) | (obtain ⟨_, _, rfl, _⟩ := h; rfl) | (obtain ⟨_, _, _, rfl, _⟩ := h; rfl) | (obtain ⟨_, _, _, _, rfl, _⟩ := h; rfl) | (obtain ⟨_, _, _, _, _, rfl, _⟩ := h; rfl) | (obtain ⟨_, _, _, _, _, _, rfl, _⟩ := h; rfl) | (obtain ⟨_, _, _, _, _, _, _, rfl, _⟩ := h; rfl) | (obtain ⟨_, _, _, _, _, _, _, _, rfl, _⟩ := h; rfl) | (obtain ⟨_, _, _, _, _, _, _, _, _, rfl, _⟩ := h; rfl) | (obtain ⟨_, _, _, _, _, _, _, _, _, _, rfl, _⟩ := h; rfl) | (obtain ⟨_, _, _, _, _, _, _, _, _, _, _, rfl, _⟩ := h; rfl) | (obtain ⟨_, _, _, _, _, _, _, _, _, _, _, _, rfl, _⟩ := h; rfl) | (obtain ⟨_, _, _, _, _, _, _, _, _, _, _, _, _, rfl, _⟩ := h; rfl) | (obtain ⟨_, _, _, _, _, _, _, _, _, _, _, _, _, _, rfl, _⟩ := h; rfl) | (obtain ⟨_, _, _, _, _, _, _, _, _, _, _, _, _, _, _, rfl, _⟩ := h; rfl)))
  · have hu := hu_of hr
    exact pss_cons (ps_expr (pe_meth (pv 0) T.cl_Twice T.me_Twice_look_hand GR_Twice__Twice_look_hand (hr.mono (by decide)) T.b_Twice_look_hand .nil (passes_call (takes_of rfl rfl rfl rfl) fun _ _ _ _ h => h) (pa_cons (pv 1) (pa_nil))))
      (pss_cons (ps_if (pt_cmp (pc_dnotin hu (pv 1) (pe_fld (pv 0) (by rfl))) (by rfl)) (pss_one (ps_raise rfl (takes_of rfl rfl rfl rfl) (pmk_own PySem.F.excBase_ValueError T.xi_NotIn T.g_NotIn T.kp_NotIn (raises_own T.sb_NotIn T.ty_NotIn) (by rfl)))) (pss_nil))
      (pss_cons (ps_expr (pe_meth (pv 0) T.cl_Twice T.me_Twice_look_cell GR_Twice__Twice_look_cell (hr.mono (by decide)) T.b_Twice_look_cell .nil (passes_call (takes_of rfl rfl rfl rfl) fun _ _ _ _ h => h) (pa_cons (pv 2) (pa_nil))))
      (pss_one (ps_ret (pe_ix ix_list (pe_fld (pv 0) (by rfl)) (pv 2) (fun _ _ => rfl))))))
  · exact purer_take (X := (Exs.mk D.c_BadNumber D.c_NoHand D.c_NoCell D.c_NoMark D.c_IsIn D.c_NotIn D.c_NotHeld D.c_Gone D.c_BadPairs D.c_NotNow D.c_StoreError)) ⟨T.cl_Twice, T.na_Twice_hands, T.na_Twice_cells, T.na_Twice_number, T.na_Twice_first⟩ h
set_option maxHeartbeats 8000000 in
theorem ok_Twice__Twice_sure (T : Txt K mg D) : FnOk P w K mg base CX0 3 D.f_Twice_sure D.d_Twice_sure ["self", "hand"] (sp_tsure D.c_Twice) := by
  have G_Twice__Twice_look_hand : FnOk P w K mg base CX0 2 D.f_Twice_look_hand D.d_Twice_look_hand ["self", "hand"] (sp_tlook_hand D.c_Twice) := ok_Twice__Twice_look_hand T
  refine T.F_Twice_sure.ok sc_Twice_sure (fun vs H Q E h => ?_) (fun cdv A outer s H vs Q E hr h => ⟨t_Twice_sure K D.c_Twice (sp_tlook_hand D.c_Twice), ?_, ?_⟩)
  · first | (obtain ⟨_, rfl, _⟩ := h; rfl; done) | (obtain ⟨_, _, rfl, _⟩ := h; rfl; done) | (obtain ⟨_, _, _, rfl, _⟩ := h; rfl; done) | (obtain ⟨_, _, _, _, rfl, _⟩ := h; rfl; done) | (obtain ⟨_, _, _, _, _, rfl, _⟩ := h; rfl; done) | (obtain ⟨_, _, _, _, _, _, rfl, _⟩ := h; rfl; done) | (obtain ⟨_, _, _, _, _, _, _, rfl, _⟩ := h; rfl; done) | (obtain ⟨_, _, _, _, _, _, _, _, rfl, _⟩ := h; rfl; done) | (obtain ⟨_, _, _, _, _, _, _, _, _, rfl, _⟩ := h; rfl; done) | (obtain ⟨_, _, _, _, _, _, _, _, _, _, rfl, _⟩ := h; rfl; done) | (obtain ⟨_, _, _, _, _, _, _, _, _, _, _, rfl, _⟩ := h; rfl; done) | (obtain ⟨_, _, _, _, _, _, _, _, _, _, _, _, rfl, _⟩ := h; rfl; done) | (obtain ⟨_, _, _, _, _, _, _, _, _, _, _, _, _, rfl, _⟩ := h; rfl; done) | (obtain ⟨_, _, _, _, _, _, _, _, _, _, _, _, _, _, rfl, _⟩ := h; rfl; done) | (obtain ⟨_, _, _, _, _, _, _, _, _, _, _, _, _, _, _, rfl, _⟩ := h; rfl; done) | ((rcases h with h | h) <;> (first | (obtain ⟨_, rfl, _⟩ := h; rfl) | (obtain ⟨_, _, rfl, _⟩ := h; rfl) | (obtain ⟨_, _, _, rfl, _⟩ := h; rfl) | (obtain ⟨_, _, _, _, rfl, _⟩ := h; rfl) | (obtain ⟨_, _, _, _, _, rfl, _⟩ := h; rfl) | (obtain ⟨_, _, _, _, _, _, rfl, _⟩ := h; rfl) | (obtain ⟨_, _, _, _, _, _, _, rfl, _⟩ := h; rfl) | (obtain ⟨_, _, _, _, _, _, _, _, rfl, _⟩ := h; rfl) | (obtain ⟨_, _, _, _, _, _, _, _, _, rfl, _⟩ := h; rfl) | (obtain ⟨_, _, _, _, _, _, _, _, _, _, rfl, _⟩ := h; rfl) | (obtain ⟨_, _, _, _, _, _, _, _, _, _, _, rfl, _⟩ := h; rfl) | (obtain ⟨_, _, _, _, _, _, _, _, _, _, _, _, rfl, _⟩ := h; rfl) | (obtain ⟨_, _, _, _, _, _, _, _, _, _, _, _, _, rfl, _⟩ := h; rfl) | (obtain ⟨_, _, _, _, _, _, _, _, _, _, _, _, _, _, rfl, _⟩ := h; rfl) | (obtain ⟨_, _, _, _, _, _, _, _, _, _, _, _, _, _, _, rfl, _⟩ := h; rfl)))
  · have hu := hu_of hr
    exact pss_cons (ps_expr (pe_meth (pv 0) T.cl_Twice T.me_Twice_look_hand G_Twice__Twice_look_hand (hr.mono (by decide)) T.b_Twice_look_hand .nil pass0 (pa_cons (pv 1) (pa_nil))))
      (pss_cons (ps_if (pt_cmp (pc_dnotin hu (pv 1) (pe_fld (pv 0) (by rfl))) (by rfl)) (pss_one (ps_never)) (pss_nil))
      (pss_cons (ps_set (i := 2) sc_Twice_sure.nd rfl (by first | exact Or.inl rfl | exact Or.inr rfl) (pe_dpop1 (pe_fld (pv 0) (by rfl)) (pv 1) ⟨rfl, rfl, rfl, rfl⟩))
      (pss_one (ps_ret (pe_and (pe_cmpR op_eq (pe_op op_modI (pv 2) (pe_int)) (pe_int) (nomark _)) (pe_one (pe_cmpR op_eq (pv 2) (pe_fld (pv 0) (by rfl)) (nomark _))))))))
  · exact pure_tsure ⟨T.cl_Twice, T.na_Twice_hands, T.na_Twice_cells, T.na_Twice_number, T.na_Twice_first⟩ h
set_option maxHeartbeats 8000000 in
theorem okr_Twice__Twice_sure (T : Txt K mg D) : FnOk P w K mg base (L2.CX P w) 3 D.f_Twice_sure D.d_Twice_sure ["self", "hand"] (sr_tsure D.c_Twice (Exs.mk D.c_BadNumber D.c_NoHand D.c_NoCell D.c_NoMark D.c_IsIn D.c_NotIn D.c_NotHeld D.c_Gone D.c_BadPairs D.c_NotNow D.c_StoreError)) := by
  have GR_Twice__Twice_look_hand : FnOk P w K mg base (L2.CX P w) 2 D.f_Twice_look_hand D.d_Twice_look_hand ["self", "hand"] (spOr (sp_tlook_hand D.c_Twice) (sr_tlook_hand D.c_Twice (Exs.mk D.c_BadNumber D.c_NoHand D.c_NoCell D.c_NoMark D.c_IsIn D.c_NotIn D.c_NotHeld D.c_Gone D.c_BadPairs D.c_NotNow D.c_StoreError))) := fn_or (fn_up (ok_Twice__Twice_look_hand T)) (okr_Twice__Twice_look_hand T)
  refine T.F_Twice_sure.okX sc_Twice_sure (fun vs H Q E h => ?_) (fun cdv A outer s H vs Q E hr h => ⟨tr_Twice_sure K D.c_Twice D.c_NotIn (spOr (sp_tlook_hand D.c_Twice) (sr_tlook_hand D.c_Twice (Exs.mk D.c_BadNumber D.c_NoHand D.c_NoCell D.c_NoMark D.c_IsIn D.c_NotIn D.c_NotHeld D.c_Gone D.c_BadPairs D.c_NotNow D.c_StoreError))) E, ?_, ?_⟩)
  · first | (obtain ⟨_, rfl, _⟩ := h; rfl; done) | (obtain ⟨_, _, rfl, _⟩ := h; rfl; done) | (obtain ⟨_, _, _, rfl, _⟩ := h; rfl; done) | (obtain ⟨_, _, _, _, rfl, _⟩ := h; rfl; done) | (obtain ⟨_, _, _, _, _, rfl, _⟩ := h; rfl; done) | (obtain ⟨_, _, _, _, _, _, rfl, _⟩ := h; rfl; done) | (obtain ⟨_, _, _, _, _, _, _, rfl, _⟩ := h; rfl; done) | (obtain ⟨_, _, _, _, _, _, _, _, rfl, _⟩ := h; rfl; done) | (obtain ⟨_, _, _, _, _, _, _, _, _, rfl, _⟩ := h; rfl; done) | (obtain ⟨_, _, _, _, _, _, _, _, _, _, rfl, _⟩ := h; rfl; done) | (obtain ⟨_, _, _, _, _, _, _, _, _, _, _, rfl, _⟩ := h; rfl; done) | (obtain ⟨_, _, _, _, _, _, _, _, _, _, _, _, rfl, _⟩ := h; rfl; done) | (obtain ⟨_, _, _, _, _, _, _, _, _, _, _, _, _, rfl, _⟩ := h; rfl; done) | (obtain ⟨_, _, _, _, _, _, _, _, _, _, _, _, _, _, rfl, _⟩ := h; rfl; done) | (obtain ⟨_, _, _, _, _, _, _, _, _, _, _, _, _, _, _, rfl, _⟩ := h; rfl; done) | ((rcases h with h | h) <;> (first | (obtain ⟨_, rfl, _⟩ := h; rfl) | (obtain ⟨_, _, rfl, _⟩ := h; rfl) | (obtain ⟨_, _, _, rfl, _⟩ := h; rfl) | (obtain ⟨_, _, _, _, rfl, _⟩ := h; rfl) | (obtain ⟨_, _, _, _, _, rfl, _⟩ := h; rfl) | (obtain ⟨_, _, _, _, _, _, rfl, _⟩ := h; rfl) | (obtain ⟨_, _, _, _, _, _, _, rfl, _⟩ := h; rfl) | (obtain ⟨_, _, _, _, _, _, _, _, rfl, _⟩ := h; rfl) | (obtain ⟨_, _, _, _, _, _, _, _, _, rfl, _⟩ := h; rfl) | (obtain ⟨_, _, _, _, _, _, _, _, _, _, rfl, _⟩ := h; rfl) | (obtain ⟨_, _, _, _, _, _, _, _, _, _, _, rfl, _⟩ := h; rfl) | (obtain ⟨_, _, _, _, _, _, _, _, _, _, _, _, rfl, _⟩ := h; rfl) | (obtain ⟨_, _, _, _, _, _, _, _, _, _, _, _, _, rfl, _⟩ := h; rfl) | (obtain ⟨_, _, _, _, _, _, _, _, _, _, _, _, _, _, rfl, _⟩ := h; rfl) | (obtain ⟨_, _, _, _, _, _, _, _, _, _, _, _, _, _, _, rfl, _⟩ := h; rfl)))
  · have hu := hu_of hr
    exact pss_cons (ps_expr (pe_meth (pv 0) T.cl_Twice T.me_Twice_look_hand GR_Twice__Twice_look_hand (hr.mono (by decide)) T.b_Twice_look_hand .nil (passes_call (takes_of rfl rfl rfl rfl) fun _ _ _ _ h => h) (pa_cons (pv 1) (pa_nil))))
      (pss_cons (ps_if (pt_cmp (pc_dnotin hu (pv 1) (pe_fld (pv 0) (by rfl))) (by rfl)) (pss_one (ps_raise rfl (takes_of rfl rfl rfl rfl) (pmk_own PySem.F.excBase_ValueError T.xi_NotIn T.g_NotIn T.kp_NotIn (raises_own T.sb_NotIn T.ty_NotIn) (by rfl)))) (pss_nil))
      (pss_cons (ps_set (i := 2) sc_Twice_sure.nd rfl (by first | exact Or.inl rfl | exact Or.inr rfl) (pe_dpop1 (pe_fld (pv 0) (by rfl)) (pv 1) ⟨rfl, rfl, rfl, rfl⟩))
      (pss_one (ps_ret (pe_and (pe_cmpR op_eq (pe_op op_modI (pv 2) (pe_int)) (pe_int) (nomark _)) (pe_one (pe_cmpR op_eq (pv 2) (pe_fld (pv 0) (by rfl)) (nomark _))))))))
  · exact purer_tsure (X := (Exs.mk D.c_BadNumber D.c_NoHand D.c_NoCell D.c_NoMark D.c_IsIn D.c_NotIn D.c_NotHeld D.c_Gone D.c_BadPairs D.c_NotNow D.c_StoreError)) ⟨T.cl_Twice, T.na_Twice_hands, T.na_Twice_cells, T.na_Twice_number, T.na_Twice_first⟩ h
set_option maxHeartbeats 8000000 in
theorem ok_Twice__Twice_put (T : Txt K mg D) : FnOk P w K mg base CX0 3 D.f_Twice_put D.d_Twice_put ["self", "cell", "value"] (sp_tput D.c_Twice) := by
  have G_Twice__Twice_look_cell : FnOk P w K mg base CX0 2 D.f_Twice_look_cell D.d_Twice_look_cell ["self", "cell"] (sp_tlook_cell D.c_Twice) := ok_Twice__Twice_look_cell T
  have G_look_number : FnOk P w K mg base CX0 2 D.f_look_number D.d_look_number ["thing", "low", "high"] (sp_look_number) := ok_look_number T
  refine T.F_Twice_put.ok sc_Twice_put (fun vs H Q E h => ?_) (fun cdv A outer s H vs Q E hr h => ⟨t_Twice_put K D.c_Twice (sp_tlook_cell D.c_Twice) (sp_look_number), ?_, ?_⟩)
  · first | (obtain ⟨_, rfl, _⟩ := h; rfl; done) | (obtain ⟨_, _, rfl, _⟩ := h; rfl; done) | (obtain ⟨_, _, _, rfl, _⟩ := h; rfl; done) | (obtain ⟨_, _, _, _, rfl, _⟩ := h; rfl; done) | (obtain ⟨_, _, _, _, _, rfl, _⟩ := h; rfl; done) | (obtain ⟨_, _, _, _, _, _, rfl, _⟩ := h; rfl; done) | (obtain ⟨_, _, _, _, _, _, _, rfl, _⟩ := h; rfl; done) | (obtain ⟨_, _, _, _, _, _, _, _, rfl, _⟩ := h; rfl; done) | (obtain ⟨_, _, _, _, _, _, _, _, _, rfl, _⟩ := h; rfl; done) | (obtain ⟨_, _, _, _, _, _, _, _, _, _, rfl, _⟩ := h; rfl; done) | (obtain ⟨_, _, _, _, _, _, _, _, _, _, _, rfl, _⟩ := h; rfl; done) | (obtain ⟨_, _, _, _, _, _, _, _, _, _, _, _, rfl, _⟩ := h; rfl; done) | (obtain ⟨_, _, _, _, _, _, _, _, _, _, _, _, _, rfl, _⟩ := h; rfl; done) | (obtain ⟨_, _, _, _, _, _, _, _, _, _, _, _, _, _, rfl, _⟩ := h; rfl; done) | (obtain ⟨_, _, _, _, _, _, _, _, _, _, _, _, _, _, _, rfl, _⟩ := h; rfl; done) | ((rcases h with h | h) <;> (first | (obtain ⟨_, rfl, _⟩ := h; rfl) | (obtain ⟨_, _, rfl, _⟩ := h; rfl) | (obtain ⟨_, _, _, rfl, _⟩ := h; rfl) | (obtain ⟨_, _, _, _, rfl, _⟩ := h; rfl) | (obtain ⟨_, _, _, _, _, rfl, _⟩ := h; rfl) | (obtain ⟨_, _, _, _, _, _, rfl, _⟩ := h; rfl) | (obtain ⟨_, _, _, _, _, _, _, rfl, _⟩ := h; rfl) | (obtain ⟨_, _, _, _, _, _, _, _, rfl, _⟩ := h; rfl) | (obtain ⟨_, _, _, _, _, _, _, _, _, rfl, _⟩ := h; rfl) | (obtain ⟨_, _, _, _, _, _, _, _, _, _, rfl, _⟩ := h; rfl) | (obtain ⟨_, _, _, _, _, _, _, _, _, _, _, rfl, _⟩ := h; rfl) | (obtain ⟨_, _, _, _, _, _, _, _, _, _, _, _, rfl, _⟩ := h; rfl) | (obtain ⟨_, _, _, _, _, _, _, _, _, _, _, _, _, rfl, _⟩ := h; rfl) | (obtain ⟨_, _, _, _, _, _, _, _, _, _, _, _, _, _, rfl, _⟩ := h; rfl) | (obtain ⟨_, _, _, _, _, _, _, _, _, _, _, _, _, _, _, rfl, _⟩ := h; rfl)))
  · have hu := hu_of hr
    exact pss_cons (ps_expr (pe_meth (pv 0) T.cl_Twice T.me_Twice_look_cell G_Twice__Twice_look_cell (hr.mono (by decide)) T.b_Twice_look_cell .nil pass0 (pa_cons (pv 1) (pa_nil))))
      (pss_cons (ps_expr (pe_call G_look_number (hr.mono (by decide)) (by rfl) T.g_look_number T.F_look_number.kp T.b_look_number .nil pass0 (pa_cons (pv 2) (pa_cons (pe_int) (pa_cons (pe_glob (by rfl) T.k_MOST_VALUE ⟨_, rfl⟩) (pa_nil))))))
      (pss_cons (ps_if (pt_cmpR op_eq (pe_op op_modI (pe_fld (pv 0) (by rfl)) (pe_int)) (pe_int) (nomark _)) (pss_one (ps_never)) (pss_nil))
      (pss_one (ps_asg (pv 2) (pg_sub (pe_fld (pv 0) (by rfl)) (pv 1) set_list)))))
  · exact pure_tput ⟨T.cl_Twice, T.na_Twice_hands, T.na_Twice_cells, T.na_Twice_number, T.na_Twice_first⟩ h
set_option maxHeartbeats 8000000 in
theorem okr_Twice__Twice_put (T : Txt K mg D) : FnOk P w K mg base (L2.CX P w) 3 D.f_Twice_put D.d_Twice_put ["self", "cell", "value"] (sr_tput D.c_Twice (Exs.mk D.c_BadNumber D.c_NoHand D.c_NoCell D.c_NoMark D.c_IsIn D.c_NotIn D.c_NotHeld D.c_Gone D.c_BadPairs D.c_NotNow D.c_StoreError)) := by
  have GR_Twice__Twice_look_cell : FnOk P w K mg base (L2.CX P w) 2 D.f_Twice_look_cell D.d_Twice_look_cell ["self", "cell"] (spOr (sp_tlook_cell D.c_Twice) (sr_tlook_cell D.c_Twice (Exs.mk D.c_BadNumber D.c_NoHand D.c_NoCell D.c_NoMark D.c_IsIn D.c_NotIn D.c_NotHeld D.c_Gone D.c_BadPairs D.c_NotNow D.c_StoreError))) := fn_or (fn_up (ok_Twice__Twice_look_cell T)) (okr_Twice__Twice_look_cell T)
  have GR_look_number : FnOk P w K mg base (L2.CX P w) 2 D.f_look_number D.d_look_number ["thing", "low", "high"] (spOr (sp_look_number) (sr_look_number D.c_BadNumber)) := fn_or (fn_up (ok_look_number T)) (okr_look_number T)
  refine T.F_Twice_put.okX sc_Twice_put (fun vs H Q E h => ?_) (fun cdv A outer s H vs Q E hr h => ⟨tr_Twice_put K D.c_Twice D.c_NotNow (spOr (sp_tlook_cell D.c_Twice) (sr_tlook_cell D.c_Twice (Exs.mk D.c_BadNumber D.c_NoHand D.c_NoCell D.c_NoMark D.c_IsIn D.c_NotIn D.c_NotHeld D.c_Gone D.c_BadPairs D.c_NotNow D.c_StoreError))) (spOr (sp_look_number) (sr_look_number D.c_BadNumber)) E, ?_, ?_⟩)
  · first | (obtain ⟨_, rfl, _⟩ := h; rfl; done) | (obtain ⟨_, _, rfl, _⟩ := h; rfl; done) | (obtain ⟨_, _, _, rfl, _⟩ := h; rfl; done) | (obtain ⟨_, _, _, _, rfl, _⟩ := h; rfl; done) | (obtain ⟨_, _, _, _, _, rfl, _⟩ := h; rfl; done) | (obtain ⟨_, _, _, _, _, _, rfl, _⟩ := h; rfl; done) | (obtain ⟨_, _, _, _, _, _, _, rfl, _⟩ := h; rfl; done) | (obtain ⟨_, _, _, _, _, _, _, _, rfl, _⟩ := h; rfl; done) | (obtain ⟨_, _, _, _, _, _, _, _, _, rfl, _⟩ := h; rfl; done) | (obtain ⟨_, _, _, _, _, _, _, _, _, _, rfl, _⟩ := h; rfl; done) | (obtain ⟨_, _, _, _, _, _, _, _, _, _, _, rfl, _⟩ := h; rfl; done) | (obtain ⟨_, _, _, _, _, _, _, _, _, _, _, _, rfl, _⟩ := h; rfl; done) | (obtain ⟨_, _, _, _, _, _, _, _, _, _, _, _, _, rfl, _⟩ := h; rfl; done) | (obtain ⟨_, _, _, _, _, _, _, _, _, _, _, _, _, _, rfl, _⟩ := h; rfl; done) | (obtain ⟨_, _, _, _, _, _, _, _, _, _, _, _, _, _, _, rfl, _⟩ := h; rfl; done) | ((rcases h with h | h) <;> (first | (obtain ⟨_, rfl, _⟩ := h; rfl) | (obtain ⟨_, _, rfl, _⟩ := h; rfl) | (obtain ⟨_, _, _, rfl, _⟩ := h; rfl) | (obtain ⟨_, _, _, _, rfl, _⟩ := h; rfl) | (obtain ⟨_, _, _, _, _, rfl, _⟩ := h; rfl) | (obtain ⟨_, _, _, _, _, _, rfl, _⟩ := h; rfl) | (obtain ⟨_, _, _, _, _, _, _, rfl, _⟩ := h; rfl) | (obtain ⟨_, _, _, _, _, _, _, _, rfl, _⟩ := h; rfl) | (obtain ⟨_, _, _, _, _, _, _, _, _, rfl, _⟩ := h; rfl) | (obtain ⟨_, _, _, _, _, _, _, _, _, _, rfl, _⟩ := h; rfl) | (obtain ⟨_, _, _, _, _, _, _, _, _, _, _, rfl, _⟩ := h; rfl) | (obtain ⟨_, _, _, _, _, _, _, _, _, _, _, _, rfl, _⟩ := h; rfl) | (obtain ⟨_, _, _, _, _, _, _, _, _, _, _, _, _, rfl, _⟩ := h; rfl) | (obtain ⟨_, _, _, _, _, _, _, _, _, _, _, _, _, _, rfl, _⟩ := h; rfl) | (obtain ⟨_, _, _, _, _, _, _, _, _, _, _, _, _, _, _, rfl, _⟩ := h; rfl)))
  · have hu := hu_of hr
    exact pss_cons (ps_expr (pe_meth (pv 0) T.cl_Twice T.me_Twice_look_cell GR_Twice__Twice_look_cell (hr.mono (by decide)) T.b_Twice_look_cell .nil (passes_call (takes_of rfl rfl rfl rfl) fun _ _ _ _ h => h) (pa_cons (pv 1) (pa_nil))))
      (pss_cons (ps_expr (pe_call GR_look_number (hr.mono (by decide)) (by rfl) T.g_look_number T.F_look_number.kp T.b_look_number .nil (passes_call (takes_of rfl rfl rfl rfl) fun _ _ _ _ h => h) (pa_cons (pv 2) (pa_cons (pe_int) (pa_cons (pe_glob (by rfl) T.k_MOST_VALUE ⟨_, rfl⟩) (pa_nil))))))
      (pss_cons (ps_if (pt_cmpR op_eq (pe_op op_modI (pe_fld (pv 0) (by rfl)) (pe_int)) (pe_int) (nomark _)) (pss_one (ps_raise rfl (takes_of rfl rfl rfl rfl) (pmk_own PySem.F.excBase_ValueError T.xi_NotNow T.g_NotNow T.kp_NotNow (raises_own T.sb_NotNow T.ty_NotNow) (by rfl)))) (pss_nil))
      (pss_one (ps_asg (pv 2) (pg_sub (pe_fld (pv 0) (by rfl)) (pv 1) set_list)))))
  · exact purer_tput (X := (Exs.mk D.c_BadNumber D.c_NoHand D.c_NoCell D.c_NoMark D.c_IsIn D.c_NotIn D.c_NotHeld D.c_Gone D.c_BadPairs D.c_NotNow D.c_StoreError)) ⟨T.cl_Twice, T.na_Twice_hands, T.na_Twice_cells, T.na_Twice_number, T.na_Twice_first⟩ h
set_option maxHeartbeats 8000000 in
theorem ok_Twice__Twice_begin_write (T : Txt K mg D) : FnOk P w K mg base CX0 1 D.f_Twice_begin_write D.d_Twice_begin_write ["self"] (sp_begin_write D.c_Twice) := by
  refine T.F_Twice_begin_write.ok sc_Twice_begin_write (fun vs H Q E h => ?_) (fun cdv A outer s H vs Q E hr h => ⟨t_Twice_begin_write K, ?_, ?_⟩)
  · first | (obtain ⟨_, rfl, _⟩ := h; rfl; done) | (obtain ⟨_, _, rfl, _⟩ := h; rfl; done) | (obtain ⟨_, _, _, rfl, _⟩ := h; rfl; done) | (obtain ⟨_, _, _, _, rfl, _⟩ := h; rfl; done) | (obtain ⟨_, _, _, _, _, rfl, _⟩ := h; rfl; done) | (obtain ⟨_, _, _, _, _, _, rfl, _⟩ := h; rfl; done) | (obtain ⟨_, _, _, _, _, _, _, rfl, _⟩ := h; rfl; done) | (obtain ⟨_, _, _, _, _, _, _, _, rfl, _⟩ := h; rfl; done) | (obtain ⟨_, _, _, _, _, _, _, _, _, rfl, _⟩ := h; rfl; done) | (obtain ⟨_, _, _, _, _, _, _, _, _, _, rfl, _⟩ := h; rfl; done) | (obtain ⟨_, _, _, _, _, _, _, _, _, _, _, rfl, _⟩ := h; rfl; done) | (obtain ⟨_, _, _, _, _, _, _, _, _, _, _, _, rfl, _⟩ := h; rfl; done) | (obtain ⟨_, _, _, _, _, _, _, _, _, _, _, _, _, rfl, _⟩ := h; rfl; done) | (obtain ⟨_, _, _, _, _, _, _, _, _, _, _, _, _, _, rfl, _⟩ := h; rfl; done) | (obtain ⟨_, _, _, _, _, _, _, _, _, _, _, _, _, _, _, rfl, _⟩ := h; rfl; done) | ((rcases h with h | h) <;> (first | (obtain ⟨_, rfl, _⟩ := h; rfl) | (obtain ⟨_, _, rfl, _⟩ := h; rfl) | (obtain ⟨_, _, _, rfl, _⟩ := h; rfl) | (obtain ⟨_, _, _, _, rfl, _⟩ := h; rfl) | (obtain ⟨_, _, _, _, _, rfl, _⟩ := h; rfl) | (obtain ⟨_, _, _, _, _, _, rfl, _⟩ := h; rfl) | (obtain ⟨_, _, _, _, _, _, _, rfl, _⟩ := h; rfl) | (obtain ⟨_, _, _, _, _, _, _, _, rfl, _⟩ := h; rfl) | (obtain ⟨_, _, _, _, _, _, _, _, _, rfl, _⟩ := h; rfl) | (obtain ⟨_, _, _, _, _, _, _, _, _, _, rfl, _⟩ := h; rfl) | (obtain ⟨_, _, _, _, _, _, _, _, _, _, _, rfl, _⟩ := h; rfl) | (obtain ⟨_, _, _, _, _, _, _, _, _, _, _, _, rfl, _⟩ := h; rfl) | (obtain ⟨_, _, _, _, _, _, _, _, _, _, _, _, _, rfl, _⟩ := h; rfl) | (obtain ⟨_, _, _, _, _, _, _, _, _, _, _, _, _, _, rfl, _⟩ := h; rfl) | (obtain ⟨_, _, _, _, _, _, _, _, _, _, _, _, _, _, _, rfl, _⟩ := h; rfl)))
  · have hu := hu_of hr
    exact pss_cons (ps_if (pt_cmpR op_eq (pe_op op_modI (pe_fld (pv 0) (by rfl)) (pe_int)) (pe_int) (nomark _)) (pss_one (ps_never)) (pss_nil))
      (pss_one (ps_fld (pv 0) (pe_op op_addI (pe_fld (pv 0) (by rfl)) (pe_int)) (by rfl)))
  · exact pure_begin_write ⟨T.cl_Twice, T.na_Twice_hands, T.na_Twice_cells, T.na_Twice_number, T.na_Twice_first⟩ h
set_option maxHeartbeats 8000000 in
theorem okr_Twice__Twice_begin_write (T : Txt K mg D) : FnOk P w K mg base (L2.CX P w) 1 D.f_Twice_begin_write D.d_Twice_begin_write ["self"] (sr_begin_write D.c_Twice (Exs.mk D.c_BadNumber D.c_NoHand D.c_NoCell D.c_NoMark D.c_IsIn D.c_NotIn D.c_NotHeld D.c_Gone D.c_BadPairs D.c_NotNow D.c_StoreError)) := by
  refine T.F_Twice_begin_write.okX sc_Twice_begin_write (fun vs H Q E h => ?_) (fun cdv A outer s H vs Q E hr h => ⟨tr_Twice_begin_write K D.c_NotNow E, ?_, ?_⟩)
  · first | (obtain ⟨_, rfl, _⟩ := h; rfl; done) | (obtain ⟨_, _, rfl, _⟩ := h; rfl; done) | (obtain ⟨_, _, _, rfl, _⟩ := h; rfl; done) | (obtain ⟨_, _, _, _, rfl, _⟩ := h; rfl; done) | (obtain ⟨_, _, _, _, _, rfl, _⟩ := h; rfl; done) | (obtain ⟨_, _, _, _, _, _, rfl, _⟩ := h; rfl; done) | (obtain ⟨_, _, _, _, _, _, _, rfl, _⟩ := h; rfl; done) | (obtain ⟨_, _, _, _, _, _, _, _, rfl, _⟩ := h; rfl; done) | (obtain ⟨_, _, _, _, _, _, _, _, _, rfl, _⟩ := h; rfl; done) | (obtain ⟨_, _, _, _, _, _, _, _, _, _, rfl, _⟩ := h; rfl; done) | (obtain ⟨_, _, _, _, _, _, _, _, _, _, _, rfl, _⟩ := h; rfl; done) | (obtain ⟨_, _, _, _, _, _, _, _, _, _, _, _, rfl, _⟩ := h; rfl; done) | (obtain ⟨_, _, _, _, _, _, _, _, _, _, _, _, _, rfl, _⟩ := h; rfl; done) | (obtain ⟨_, _, _, _, _, _, _, _, _, _, _, _, _, _, rfl, _⟩ := h; rfl; done) | (obtain ⟨_, _, _, _, _, _, _, _, _, _, _, _, _, _, _, rfl, _⟩ := h; rfl; done) | ((rcases h with h | h) <;> (first | (obtain ⟨_, rfl, _⟩ := h; rfl) | (obtain ⟨_, _, rfl, _⟩ := h; rfl) | (obtain ⟨_, _, _, rfl, _⟩ := h; rfl) | (obtain ⟨_, _, _, _, rfl, _⟩ := h; rfl) | (obtain ⟨_, _, _, _, _, rfl, _⟩ := h; rfl) | (obtain ⟨_, _, _, _, _, _, rfl, _⟩ := h; rfl) | (obtain ⟨_, _, _, _, _, _, _, rfl, _⟩ := h; rfl) | (obtain ⟨_, _, _, _, _, _, _, _, rfl, _⟩ := h; rfl) | (obtain ⟨_, _, _, _, _, _, _, _, _, rfl, _⟩ := h; rfl) | (obtain ⟨_, _, _, _, _, _, _, _, _, _, rfl, _⟩ := h; rfl) | (obtain ⟨_, _, _, _, _, _, _, _, _, _, _, rfl, _⟩ := h; rfl) | (obtain ⟨_, _, _, _, _, _, _, _, _, _, _, _, rfl, _⟩ := h; rfl) | (obtain ⟨_, _, _, _, _, _, _, _, _, _, _, _, _, rfl, _⟩ := h; rfl) | (obtain ⟨_, _, _, _, _, _, _, _, _, _, _, _, _, _, rfl, _⟩ := h; rfl) | (obtain ⟨_, _, _, _, _, _, _, _, _, _, _, _, _, _, _, rfl, _⟩ := h; rfl)))
  · have hu := hu_of hr
    exact pss_cons (ps_if (pt_cmpR op_eq (pe_op op_modI (pe_fld (pv 0) (by rfl)) (pe_int)) (pe_int) (nomark _)) (pss_one (ps_raise rfl (takes_of rfl rfl rfl rfl) (pmk_own PySem.F.excBase_ValueError T.xi_NotNow T.g_NotNow T.kp_NotNow (raises_own T.sb_NotNow T.ty_NotNow) (by rfl)))) (pss_nil))
      (pss_one (ps_fld (pv 0) (pe_op op_addI (pe_fld (pv 0) (by rfl)) (pe_int)) (by rfl)))
  · exact purer_begin_write (X := (Exs.mk D.c_BadNumber D.c_NoHand D.c_NoCell D.c_NoMark D.c_IsIn D.c_NotIn D.c_NotHeld D.c_Gone D.c_BadPairs D.c_NotNow D.c_StoreError)) ⟨T.cl_Twice, T.na_Twice_hands, T.na_Twice_cells, T.na_Twice_number, T.na_Twice_first⟩ h
set_option maxHeartbeats 8000000 in
theorem ok_Twice__Twice_end_write (T : Txt K mg D) : FnOk P w K mg base CX0 1 D.f_Twice_end_write D.d_Twice_end_write ["self"] (sp_end_write D.c_Twice) := by
  refine T.F_Twice_end_write.ok sc_Twice_end_write (fun vs H Q E h => ?_) (fun cdv A outer s H vs Q E hr h => ⟨t_Twice_end_write K, ?_, ?_⟩)
  · first | (obtain ⟨_, rfl, _⟩ := h; rfl; done) | (obtain ⟨_, _, rfl, _⟩ := h; rfl; done) | (obtain ⟨_, _, _, rfl, _⟩ := h; rfl; done) | (obtain ⟨_, _, _, _, rfl, _⟩ := h; rfl; done) | (obtain ⟨_, _, _, _, _, rfl, _⟩ := h; rfl; done) | (obtain ⟨_, _, _, _, _, _, rfl, _⟩ := h; rfl; done) | (obtain ⟨_, _, _, _, _, _, _, rfl, _⟩ := h; rfl; done) | (obtain ⟨_, _, _, _, _, _, _, _, rfl, _⟩ := h; rfl; done) | (obtain ⟨_, _, _, _, _, _, _, _, _, rfl, _⟩ := h; rfl; done) | (obtain ⟨_, _, _, _, _, _, _, _, _, _, rfl, _⟩ := h; rfl; done) | (obtain ⟨_, _, _, _, _, _, _, _, _, _, _, rfl, _⟩ := h; rfl; done) | (obtain ⟨_, _, _, _, _, _, _, _, _, _, _, _, rfl, _⟩ := h; rfl; done) | (obtain ⟨_, _, _, _, _, _, _, _, _, _, _, _, _, rfl, _⟩ := h; rfl; done) | (obtain ⟨_, _, _, _, _, _, _, _, _, _, _, _, _, _, rfl, _⟩ := h; rfl; done) | (obtain ⟨_, _, _, _, _, _, _, _, _, _, _, _, _, _, _, rfl, _⟩ := h; rfl; done) | ((rcases h with h | h) <;> (first | (obtain ⟨_, rfl, _⟩ := h; rfl) | (obtain ⟨_, _, rfl, _⟩ := h; rfl) | (obtain ⟨_, _, _, rfl, _⟩ := h; rfl) | (obtain ⟨_, _, _, _, rfl, _⟩ := h; rfl) | (obtain ⟨_, _, _, _, _, rfl, _⟩ := h; rfl) | (obtain ⟨_, _, _, _, _, _, rfl, _⟩ := h; rfl) | (obtain ⟨_, _, _, _, _, _, _, rfl, _⟩ := h; rfl) | (obtain ⟨_, _, _, _, _, _, _, _, rfl, _⟩ := h; rfl) | (obtain ⟨_, _, _, _, _, _, _, _, _, rfl, _⟩ := h; rfl) | (obtain ⟨_, _, _, _, _, _, _, _, _, _, rfl, _⟩ := h; rfl) | (obtain ⟨_, _, _, _, _, _, _, _, _, _, _, rfl, _⟩ := h; rfl) | (obtain ⟨_, _, _, _, _, _, _, _, _, _, _, _, rfl, _⟩ := h; rfl) | (obtain ⟨_, _, _, _, _, _, _, _, _, _, _, _, _, rfl, _⟩ := h; rfl) | (obtain ⟨_, _, _, _, _, _, _, _, _, _, _, _, _, _, rfl, _⟩ := h; rfl) | (obtain ⟨_, _, _, _, _, _, _, _, _, _, _, _, _, _, _, rfl, _⟩ := h; rfl)))
  · have hu := hu_of hr
    exact pss_cons (ps_if (pt_cmpR op_eq (pe_op op_modI (pe_fld (pv 0) (by rfl)) (pe_int)) (pe_int) (nomark _)) (pss_one (ps_never)) (pss_nil))
      (pss_one (ps_fld (pv 0) (pe_op op_addI (pe_fld (pv 0) (by rfl)) (pe_int)) (by rfl)))
  · exact pure_end_write ⟨T.cl_Twice, T.na_Twice_hands, T.na_Twice_cells, T.na_Twice_number, T.na_Twice_first⟩ h
set_option maxHeartbeats 8000000 in
theorem okr_Twice__Twice_end_write (T : Txt K mg D) : FnOk P w K mg base (L2.CX P w) 1 D.f_Twice_end_write D.d_Twice_end_write ["self"] (sr_end_write D.c_Twice (Exs.mk D.c_BadNumber D.c_NoHand D.c_NoCell D.c_NoMark D.c_IsIn D.c_NotIn D.c_NotHeld D.c_Gone D.c_BadPairs D.c_NotNow D.c_StoreError)) := by
  refine T.F_Twice_end_write.okX sc_Twice_end_write (fun vs H Q E h => ?_) (fun cdv A outer s H vs Q E hr h => ⟨tr_Twice_end_write K D.c_NotNow E, ?_, ?_⟩)
  · first | (obtain ⟨_, rfl, _⟩ := h; rfl; done) | (obtain ⟨_, _, rfl, _⟩ := h; rfl; done) | (obtain ⟨_, _, _, rfl, _⟩ := h; rfl; done) | (obtain ⟨_, _, _, _, rfl, _⟩ := h; rfl; done) | (obtain ⟨_, _, _, _, _, rfl, _⟩ := h; rfl; done) | (obtain ⟨_, _, _, _, _, _, rfl, _⟩ := h; rfl; done) | (obtain ⟨_, _, _, _, _, _, _, rfl, _⟩ := h; rfl; done) | (obtain ⟨_, _, _, _, _, _, _, _, rfl, _⟩ := h; rfl; done) | (obtain ⟨_, _, _, _, _, _, _, _, _, rfl, _⟩ := h; rfl; done) | (obtain ⟨_, _, _, _, _, _, _, _, _, _, rfl, _⟩ := h; rfl; done) | (obtain ⟨_, _, _, _, _, _, _, _, _, _, _, rfl, _⟩ := h; rfl; done) | (obtain ⟨_, _, _, _, _, _, _, _, _, _, _, _, rfl, _⟩ := h; rfl; done) | (obtain ⟨_, _, _, _, _, _, _, _, _, _, _, _, _, rfl, _⟩ := h; rfl; done) | (obtain ⟨_, _, _, _, _, _, _, _, _, _, _, _, _, _, rfl, _⟩ := h; rfl; done) | (obtain ⟨_, _, _, _, _, _, _, _, _, _, _, _, _, _, _, rfl, _⟩ := h; rfl; done) | ((rcases h with h | h) <;> (first | (obtain ⟨_, rfl, _⟩ := h; rfl) | (obtain ⟨_, _, rfl, _⟩ := h; rfl) | (obtain ⟨_, _, _, rfl, _⟩ := h; rfl) | (obtain ⟨_, _, _, _, rfl, _⟩ := h; rfl) | (obtain ⟨_, _, _, _, _, rfl, _⟩ := h; rfl) | (obtain ⟨_, _, _, _, _, _, rfl, _⟩ := h; rfl) | (obtain ⟨_, _, _, _, _, _, _, rfl, _⟩ := h; rfl) | (obtain ⟨_, _, _, _, _, _, _, _, rfl, _⟩ := h; rfl) | (obtain ⟨_, _, _, _, _, _, _, _, _, rfl, _⟩ := h; rfl) | (obtain ⟨_, _, _, _, _, _, _, _, _, _, rfl, _⟩ := h; rfl) | (obtain ⟨_, _, _, _, _, _, _, _, _, _, _, rfl, _⟩ := h; rfl) | (obtain ⟨_, _, _, _, _, _, _, _, _, _, _, _, rfl, _⟩ := h; rfl) | (obtain ⟨_, _, _, _, _, _, _, _, _, _, _, _, _, rfl, _⟩ := h; rfl) | (obtain ⟨_, _, _, _, _, _, _, _, _, _, _, _, _, _, rfl, _⟩ := h; rfl) | (obtain ⟨_, _, _, _, _, _, _, _, _, _, _, _, _, _, _, rfl, _⟩ := h; rfl)))
  · have hu := hu_of hr
    exact pss_cons (ps_if (pt_cmpR op_eq (pe_op op_modI (pe_fld (pv 0) (by rfl)) (pe_int)) (pe_int) (nomark _)) (pss_one (ps_raise rfl (takes_of rfl rfl rfl rfl) (pmk_own PySem.F.excBase_ValueError T.xi_NotNow T.g_NotNow T.kp_NotNow (raises_own T.sb_NotNow T.ty_NotNow) (by rfl)))) (pss_nil))
      (pss_one (ps_fld (pv 0) (pe_op op_addI (pe_fld (pv 0) (by rfl)) (pe_int)) (by rfl)))
  · exact purer_end_write (X := (Exs.mk D.c_BadNumber D.c_NoHand D.c_NoCell D.c_NoMark D.c_IsIn D.c_NotIn D.c_NotHeld D.c_Gone D.c_BadPairs D.c_NotNow D.c_StoreError)) ⟨T.cl_Twice, T.na_Twice_hands, T.na_Twice_cells, T.na_Twice_number, T.na_Twice_first⟩ h
set_option maxHeartbeats 8000000 in
theorem okr__law_does (T : Txt K mg D) : FnOk P w K mg base (L2.CX P w) 4 D.f__law_does D.d__law_does ["some", "kind", "one", "other"] (sr__law_does D.c_Twice (Exs.mk D.c_BadNumber D.c_NoHand D.c_NoCell D.c_NoMark D.c_IsIn D.c_NotIn D.c_NotHeld D.c_Gone D.c_BadPairs D.c_NotNow D.c_StoreError)) := by
  have GR_Twice__Twice_begin_read : FnOk P w K mg base (L2.CX P w) 3 D.f_Twice_begin_read D.d_Twice_begin_read ["self", "hand"] (spOr (sp_begin_read D.c_Twice) (sr_begin_read D.c_Twice (Exs.mk D.c_BadNumber D.c_NoHand D.c_NoCell D.c_NoMark D.c_IsIn D.c_NotIn D.c_NotHeld D.c_Gone D.c_BadPairs D.c_NotNow D.c_StoreError))) := fn_or (fn_up (ok_Twice__Twice_begin_read T)) (okr_Twice__Twice_begin_read T)
  have GR_Twice__Twice_take : FnOk P w K mg base (L2.CX P w) 3 D.f_Twice_take D.d_Twice_take ["self", "hand", "cell"] (spOr (sp_take D.c_Twice) (sr_take D.c_Twice (Exs.mk D.c_BadNumber D.c_NoHand D.c_NoCell D.c_NoMark D.c_IsIn D.c_NotIn D.c_NotHeld D.c_Gone D.c_BadPairs D.c_NotNow D.c_StoreError))) := fn_or (fn_up (ok_Twice__Twice_take T)) (okr_Twice__Twice_take T)
  have GR_Twice__Twice_sure : FnOk P w K mg base (L2.CX P w) 3 D.f_Twice_sure D.d_Twice_sure ["self", "hand"] (spOr (sp_tsure D.c_Twice) (sr_tsure D.c_Twice (Exs.mk D.c_BadNumber D.c_NoHand D.c_NoCell D.c_NoMark D.c_IsIn D.c_NotIn D.c_NotHeld D.c_Gone D.c_BadPairs D.c_NotNow D.c_StoreError))) := fn_or (fn_up (ok_Twice__Twice_sure T)) (okr_Twice__Twice_sure T)
  have GR_Twice__Twice_put : FnOk P w K mg base (L2.CX P w) 3 D.f_Twice_put D.d_Twice_put ["self", "cell", "value"] (spOr (sp_tput D.c_Twice) (sr_tput D.c_Twice (Exs.mk D.c_BadNumber D.c_NoHand D.c_NoCell D.c_NoMark D.c_IsIn D.c_NotIn D.c_NotHeld D.c_Gone D.c_BadPairs D.c_NotNow D.c_StoreError))) := fn_or (fn_up (ok_Twice__Twice_put T)) (okr_Twice__Twice_put T)
  have GR_Twice__Twice_begin_write : FnOk P w K mg base (L2.CX P w) 1 D.f_Twice_begin_write D.d_Twice_begin_write ["self"] (spOr (sp_begin_write D.c_Twice) (sr_begin_write D.c_Twice (Exs.mk D.c_BadNumber D.c_NoHand D.c_NoCell D.c_NoMark D.c_IsIn D.c_NotIn D.c_NotHeld D.c_Gone D.c_BadPairs D.c_NotNow D.c_StoreError))) := fn_or (fn_up (ok_Twice__Twice_begin_write T)) (okr_Twice__Twice_begin_write T)
  have GR_Twice__Twice_end_write : FnOk P w K mg base (L2.CX P w) 1 D.f_Twice_end_write D.d_Twice_end_write ["self"] (spOr (sp_end_write D.c_Twice) (sr_end_write D.c_Twice (Exs.mk D.c_BadNumber D.c_NoHand D.c_NoCell D.c_NoMark D.c_IsIn D.c_NotIn D.c_NotHeld D.c_Gone D.c_BadPairs D.c_NotNow D.c_StoreError))) := fn_or (fn_up (ok_Twice__Twice_end_write T)) (okr_Twice__Twice_end_write T)
  refine T.F__law_does.okX sc__law_does (fun vs H Q E h => ?_) (fun cdv A outer s H vs Q E hr h => ⟨tr__law_does K D.c_Twice (spOr (sp_begin_read D.c_Twice) (sr_begin_read D.c_Twice (Exs.mk D.c_BadNumber D.c_NoHand D.c_NoCell D.c_NoMark D.c_IsIn D.c_NotIn D.c_NotHeld D.c_Gone D.c_BadPairs D.c_NotNow D.c_StoreError))) (spOr (sp_take D.c_Twice) (sr_take D.c_Twice (Exs.mk D.c_BadNumber D.c_NoHand D.c_NoCell D.c_NoMark D.c_IsIn D.c_NotIn D.c_NotHeld D.c_Gone D.c_BadPairs D.c_NotNow D.c_StoreError))) (spOr (sp_tsure D.c_Twice) (sr_tsure D.c_Twice (Exs.mk D.c_BadNumber D.c_NoHand D.c_NoCell D.c_NoMark D.c_IsIn D.c_NotIn D.c_NotHeld D.c_Gone D.c_BadPairs D.c_NotNow D.c_StoreError))) (spOr (sp_tput D.c_Twice) (sr_tput D.c_Twice (Exs.mk D.c_BadNumber D.c_NoHand D.c_NoCell D.c_NoMark D.c_IsIn D.c_NotIn D.c_NotHeld D.c_Gone D.c_BadPairs D.c_NotNow D.c_StoreError))) (spOr (sp_begin_write D.c_Twice) (sr_begin_write D.c_Twice (Exs.mk D.c_BadNumber D.c_NoHand D.c_NoCell D.c_NoMark D.c_IsIn D.c_NotIn D.c_NotHeld D.c_Gone D.c_BadPairs D.c_NotNow D.c_StoreError))) (spOr (sp_end_write D.c_Twice) (sr_end_write D.c_Twice (Exs.mk D.c_BadNumber D.c_NoHand D.c_NoCell D.c_NoMark D.c_IsIn D.c_NotIn D.c_NotHeld D.c_Gone D.c_BadPairs D.c_NotNow D.c_StoreError))) E, ?_, ?_⟩)
  · first | (obtain ⟨_, rfl, _⟩ := h; rfl; done) | (obtain ⟨_, _, rfl, _⟩ := h; rfl; done) | (obtain ⟨_, _, _, rfl, _⟩ := h; rfl; done) | (obtain ⟨_, _, _, _, rfl, _⟩ := h; rfl; done) | (obtain ⟨_, _, _, _, _, rfl, _⟩ := h; rfl; done) | (obtain ⟨_, _, _, _, _, _, rfl, _⟩ := h; rfl; done) | (obtain ⟨_, _, _, _, _, _, _, rfl, _⟩ := h; rfl; done) | (obtain ⟨_, _, _, _, _, _, _, _, rfl, _⟩ := h; rfl; done) | (obtain ⟨_, _, _, _, _, _, _, _, _, rfl, _⟩ := h; rfl; done) | (obtain ⟨_, _, _, _, _, _, _, _, _, _, rfl, _⟩ := h; rfl; done) | (obtain ⟨_, _, _, _, _, _, _, _, _, _, _, rfl, _⟩ := h; rfl; done) | (obtain ⟨_, _, _, _, _, _, _, _, _, _, _, _, rfl, _⟩ := h; rfl; done) | (obtain ⟨_, _, _, _, _, _, _, _, _, _, _, _, _, rfl, _⟩ := h; rfl; done) | (obtain ⟨_, _, _, _, _, _, _, _, _, _, _, _, _, _, rfl, _⟩ := h; rfl; done) | (obtain ⟨_, _, _, _, _, _, _, _, _, _, _, _, _, _, _, rfl, _⟩ := h; rfl; done) | ((rcases h with h | h) <;> (first | (obtain ⟨_, rfl, _⟩ := h; rfl) | (obtain ⟨_, _, rfl, _⟩ := h; rfl) | (obtain ⟨_, _, _, rfl, _⟩ := h; rfl) | (obtain ⟨_, _, _, _, rfl, _⟩ := h; rfl) | (obtain ⟨_, _, _, _, _, rfl, _⟩ := h; rfl) | (obtain ⟨_, _, _, _, _, _, rfl, _⟩ := h; rfl) | (obtain ⟨_, _, _, _, _, _, _, rfl, _⟩ := h; rfl) | (obtain ⟨_, _, _, _, _, _, _, _, rfl, _⟩ := h; rfl) | (obtain ⟨_, _, _, _, _, _, _, _, _, rfl, _⟩ := h; rfl) | (obtain ⟨_, _, _, _, _, _, _, _, _, _, rfl, _⟩ := h; rfl) | (obtain ⟨_, _, _, _, _, _, _, _, _, _, _, rfl, _⟩ := h; rfl) | (obtain ⟨_, _, _, _, _, _, _, _, _, _, _, _, rfl, _⟩ := h; rfl) | (obtain ⟨_, _, _, _, _, _, _, _, _, _, _, _, _, rfl, _⟩ := h; rfl) | (obtain ⟨_, _, _, _, _, _, _, _, _, _, _, _, _, _, rfl, _⟩ := h; rfl) | (obtain ⟨_, _, _, _, _, _, _, _, _, _, _, _, _, _, _, rfl, _⟩ := h; rfl)))
  · have hu := hu_of hr
    exact pss_cons (ps_if (pt_cmpR op_eq (pv 1) (pe_int) (nomark _)) (pss_one (ps_ret (pe_meth (pv 0) T.cl_Twice T.me_Twice_begin_read GR_Twice__Twice_begin_read (hr.mono (by decide)) T.b_Twice_begin_read .nil (passes_call (takes_of rfl rfl rfl rfl) fun _ _ _ _ h => h) (pa_cons (pv 2) (pa_nil))))) (pss_nil))
      (pss_cons (ps_if (pt_cmpR op_eq (pv 1) (pe_int) (nomark _)) (pss_one (ps_ret (pe_meth (pv 0) T.cl_Twice T.me_Twice_take GR_Twice__Twice_take (hr.mono (by decide)) T.b_Twice_take .nil (passes_call (takes_of rfl rfl rfl rfl) fun _ _ _ _ h => h) (pa_cons (pv 2) (pa_cons (pv 3) (pa_nil)))))) (pss_nil))
      (pss_cons (ps_if (pt_cmpR op_eq (pv 1) (pe_int) (nomark _)) (pss_one (ps_ret (pe_meth (pv 0) T.cl_Twice T.me_Twice_sure GR_Twice__Twice_sure (hr.mono (by decide)) T.b_Twice_sure .nil (passes_call (takes_of rfl rfl rfl rfl) fun _ _ _ _ h => h) (pa_cons (pv 2) (pa_nil))))) (pss_nil))
      (pss_cons (ps_if (pt_cmpR op_eq (pv 1) (pe_int) (nomark _)) (pss_one (ps_ret (pe_meth (pv 0) T.cl_Twice T.me_Twice_put GR_Twice__Twice_put (hr.mono (by decide)) T.b_Twice_put .nil (passes_call (takes_of rfl rfl rfl rfl) fun _ _ _ _ h => h) (pa_cons (pv 2) (pa_cons (pv 3) (pa_nil)))))) (pss_nil))
      (pss_one (ps_ret (pe_ifExp (pt_cmpR op_eq (pv 1) (pe_int) (nomark _)) (pe_meth0 (pv 0) T.cl_Twice T.me_Twice_begin_write GR_Twice__Twice_begin_write (hr.mono (by decide)) T.b_Twice_begin_write .nil (passes_call (takes_of rfl rfl rfl rfl) fun _ _ _ _ h => h)) (pe_meth0 (pv 0) T.cl_Twice T.me_Twice_end_write GR_Twice__Twice_end_write (hr.mono (by decide)) T.b_Twice_end_write .nil (passes_call (takes_of rfl rfl rfl rfl) fun _ _ _ _ h => h))))))))
  · exact purer__law_does (X := (Exs.mk D.c_BadNumber D.c_NoHand D.c_NoCell D.c_NoMark D.c_IsIn D.c_NotIn D.c_NotHeld D.c_Gone D.c_BadPairs D.c_NotNow D.c_StoreError)) h
set_option maxHeartbeats 8000000 in
theorem ok__law_refusal (T : Txt K mg D) : FnOk P w K mg base CX0 1 D.f__law_refusal D.d__law_refusal ["caught"] (sp__law_refusal (Exs.mk D.c_BadNumber D.c_NoHand D.c_NoCell D.c_NoMark D.c_IsIn D.c_NotIn D.c_NotHeld D.c_Gone D.c_BadPairs D.c_NotNow D.c_StoreError) [0, 1, 2, 4, 5, 8, 9]) := by
  refine T.F__law_refusal.ok sc__law_refusal (fun vs H Q E h => ?_) (fun cdv A outer s H vs Q E hr h => ⟨t__law_refusal K D.c_NoCell D.c_NoHand D.c_BadNumber D.c_NotIn D.c_IsIn D.c_NoMark D.c_BadPairs D.c_Gone D.c_NotHeld D.c_NotNow D.c_StoreError, ?_, ?_⟩)
  · first | (obtain ⟨_, rfl, _⟩ := h; rfl; done) | (obtain ⟨_, _, rfl, _⟩ := h; rfl; done) | (obtain ⟨_, _, _, rfl, _⟩ := h; rfl; done) | (obtain ⟨_, _, _, _, rfl, _⟩ := h; rfl; done) | (obtain ⟨_, _, _, _, _, rfl, _⟩ := h; rfl; done) | (obtain ⟨_, _, _, _, _, _, rfl, _⟩ := h; rfl; done) | (obtain ⟨_, _, _, _, _, _, _, rfl, _⟩ := h; rfl; done) | (obtain ⟨_, _, _, _, _, _, _, _, rfl, _⟩ := h; rfl; done) | (obtain ⟨_, _, _, _, _, _, _, _, _, rfl, _⟩ := h; rfl; done) | (obtain ⟨_, _, _, _, _, _, _, _, _, _, rfl, _⟩ := h; rfl; done) | (obtain ⟨_, _, _, _, _, _, _, _, _, _, _, rfl, _⟩ := h; rfl; done) | (obtain ⟨_, _, _, _, _, _, _, _, _, _, _, _, rfl, _⟩ := h; rfl; done) | (obtain ⟨_, _, _, _, _, _, _, _, _, _, _, _, _, rfl, _⟩ := h; rfl; done) | (obtain ⟨_, _, _, _, _, _, _, _, _, _, _, _, _, _, rfl, _⟩ := h; rfl; done) | (obtain ⟨_, _, _, _, _, _, _, _, _, _, _, _, _, _, _, rfl, _⟩ := h; rfl; done) | ((rcases h with h | h) <;> (first | (obtain ⟨_, rfl, _⟩ := h; rfl) | (obtain ⟨_, _, rfl, _⟩ := h; rfl) | (obtain ⟨_, _, _, rfl, _⟩ := h; rfl) | (obtain ⟨_, _, _, _, rfl, _⟩ := h; rfl) | (obtain ⟨_, _, _, _, _, rfl, _⟩ := h; rfl) | (obtain ⟨_, _, _, _, _, _, rfl, _⟩ := h; rfl) | (obtain ⟨_, _, _, _, _, _, _, rfl, _⟩ := h; rfl) | (obtain ⟨_, _, _, _, _, _, _, _, rfl, _⟩ := h; rfl) | (obtain ⟨_, _, _, _, _, _, _, _, _, rfl, _⟩ := h; rfl) | (obtain ⟨_, _, _, _, _, _, _, _, _, _, rfl, _⟩ := h; rfl) | (obtain ⟨_, _, _, _, _, _, _, _, _, _, _, rfl, _⟩ := h; rfl) | (obtain ⟨_, _, _, _, _, _, _, _, _, _, _, _, rfl, _⟩ := h; rfl) | (obtain ⟨_, _, _, _, _, _, _, _, _, _, _, _, _, rfl, _⟩ := h; rfl) | (obtain ⟨_, _, _, _, _, _, _, _, _, _, _, _, _, _, rfl, _⟩ := h; rfl) | (obtain ⟨_, _, _, _, _, _, _, _, _, _, _, _, _, _, _, rfl, _⟩ := h; rfl)))
  · have hu := hu_of hr
    exact pss_cons (ps_set (i := 1) sc__law_refusal.nd rfl (by first | exact Or.inl rfl | exact Or.inr rfl) (pe_lst (pa_cons (pe_callB call_isK (by rfl) T.m_isinstance (by decide +kernel) (pa_cons (pv 0) (pa_cons (pe_glob (v := .ref D.c_BadNumber) (by rfl) T.g_BadNumber rfl) (pa_nil)))) (pa_cons (pe_callB call_isK (by rfl) T.m_isinstance (by decide +kernel) (pa_cons (pv 0) (pa_cons (pe_glob (v := .ref D.c_NoHand) (by rfl) T.g_NoHand rfl) (pa_nil)))) (pa_cons (pe_callB call_isK (by rfl) T.m_isinstance (by decide +kernel) (pa_cons (pv 0) (pa_cons (pe_glob (v := .ref D.c_NoCell) (by rfl) T.g_NoCell rfl) (pa_nil)))) (pa_nil))))))
      (pss_cons (ps_set (i := 1) sc__law_refusal.nd rfl (by first | exact Or.inl rfl | exact Or.inr rfl) (pe_op op_cat (pv 1) (pe_lst (pa_cons (pe_callB call_isK (by rfl) T.m_isinstance (by decide +kernel) (pa_cons (pv 0) (pa_cons (pe_glob (v := .ref D.c_NoMark) (by rfl) T.g_NoMark rfl) (pa_nil)))) (pa_cons (pe_callB call_isK (by rfl) T.m_isinstance (by decide +kernel) (pa_cons (pv 0) (pa_cons (pe_glob (v := .ref D.c_IsIn) (by rfl) T.g_IsIn rfl) (pa_nil)))) (pa_cons (pe_callB call_isK (by rfl) T.m_isinstance (by decide +kernel) (pa_cons (pv 0) (pa_cons (pe_glob (v := .ref D.c_NotIn) (by rfl) T.g_NotIn rfl) (pa_nil)))) (pa_nil)))))))
      (pss_cons (ps_set (i := 1) sc__law_refusal.nd rfl (by first | exact Or.inl rfl | exact Or.inr rfl) (pe_op op_cat (pv 1) (pe_lst (pa_cons (pe_callB call_isK (by rfl) T.m_isinstance (by decide +kernel) (pa_cons (pv 0) (pa_cons (pe_glob (v := .ref D.c_NotHeld) (by rfl) T.g_NotHeld rfl) (pa_nil)))) (pa_cons (pe_callB call_isK (by rfl) T.m_isinstance (by decide +kernel) (pa_cons (pv 0) (pa_cons (pe_glob (v := .ref D.c_Gone) (by rfl) T.g_Gone rfl) (pa_nil)))) (pa_cons (pe_callB call_isK (by rfl) T.m_isinstance (by decide +kernel) (pa_cons (pv 0) (pa_cons (pe_glob (v := .ref D.c_BadPairs) (by rfl) T.g_BadPairs rfl) (pa_nil)))) (pa_nil)))))))
      (pss_cons (ps_set (i := 1) sc__law_refusal.nd rfl (by first | exact Or.inl rfl | exact Or.inr rfl) (pe_op op_cat (pv 1) (pe_lst (pa_cons (pe_callB call_isK (by rfl) T.m_isinstance (by decide +kernel) (pa_cons (pv 0) (pa_cons (pe_glob (v := .ref D.c_NotNow) (by rfl) T.g_NotNow rfl) (pa_nil)))) (pa_nil)))))
      (pss_cons (ps_if (PW.pt (pw_or (pt_cmpR op_ne (pe_bm PySem.F.plainAttrs_list PySem.F.slot_list_count PySem.F.type_list_count mt_countV (pv 1) (pa_cons (pe_bl) (pa_nil))) (pe_int) (nomark _)) (pw_or (pt_not (pt_val (pe_callB call_isK (by rfl) T.m_isinstance (by decide +kernel) (pa_cons (pv 0) (pa_cons (pe_glob (v := .ref D.c_StoreError) (by rfl) T.g_StoreError rfl) (pa_nil)))))) (pw_or1 (pt_not (pt_val (pe_callB call_isK (by rfl) T.m_isinstance (by decide +kernel) (pa_cons (pv 0) (pa_cons (pe_bltn (v := .ty "ValueError") (by rfl) T.m_ValueError (by decide +kernel) rfl) pa_nil))))))))) (pss_one (ps_ret (pe_str))) (pss_nil))
      (pss_cons (ps_set (i := 2) sc__law_refusal.nd rfl (by first | exact Or.inl rfl | exact Or.inr rfl) (pe_lst (pa_cons (pe_str) (pa_cons (pe_str) (pa_cons (pe_str) (pa_cons (pe_str) (pa_cons (pe_str) (pa_cons (pe_str) (pa_cons (pe_str) (pa_cons (pe_str) (pa_cons (pe_str) (pa_cons (pe_str) (pa_nil)))))))))))))
      (pss_one (ps_ret (pe_ix ix_list (pv 2) (pe_bm PySem.F.plainAttrs_list PySem.F.slot_list_index PySem.F.type_list_index mt_index (pv 1) (pa_cons (pe_bl) (pa_nil))) (fun _ _ => rfl)))))))))
  · exact pure__law_refusal (X := (Exs.mk D.c_BadNumber D.c_NoHand D.c_NoCell D.c_NoMark D.c_IsIn D.c_NotIn D.c_NotHeld D.c_Gone D.c_BadPairs D.c_NotNow D.c_StoreError)) (fun i hi => by rcases (by simpa using hi : i = 0 ∨ i = 1 ∨ i = 2 ∨ i = 4 ∨ i = 5 ∨ i = 8 ∨ i = 9) with rfl | rfl | rfl | rfl | rfl | rfl | rfl <;> first | exact (⟨by decide, T.ec_BadNumber, T.ki_BadNumber_BadNumber, T.ki_BadNumber_NoHand, T.ki_BadNumber_NoCell, T.ki_BadNumber_NoMark, T.ki_BadNumber_IsIn, T.ki_BadNumber_NotIn, T.ki_BadNumber_NotHeld, T.ki_BadNumber_Gone, T.ki_BadNumber_BadPairs, T.ki_BadNumber_NotNow, T.ki_BadNumber_StoreError, T.kv_BadNumber, T.em_BadNumber⟩ : RefK K (Exs.mk D.c_BadNumber D.c_NoHand D.c_NoCell D.c_NoMark D.c_IsIn D.c_NotIn D.c_NotHeld D.c_Gone D.c_BadPairs D.c_NotNow D.c_StoreError) 0) | exact (⟨by decide, T.ec_NoHand, T.ki_NoHand_BadNumber, T.ki_NoHand_NoHand, T.ki_NoHand_NoCell, T.ki_NoHand_NoMark, T.ki_NoHand_IsIn, T.ki_NoHand_NotIn, T.ki_NoHand_NotHeld, T.ki_NoHand_Gone, T.ki_NoHand_BadPairs, T.ki_NoHand_NotNow, T.ki_NoHand_StoreError, T.kv_NoHand, T.em_NoHand⟩ : RefK K (Exs.mk D.c_BadNumber D.c_NoHand D.c_NoCell D.c_NoMark D.c_IsIn D.c_NotIn D.c_NotHeld D.c_Gone D.c_BadPairs D.c_NotNow D.c_StoreError) 1) | exact (⟨by decide, T.ec_NoCell, T.ki_NoCell_BadNumber, T.ki_NoCell_NoHand, T.ki_NoCell_NoCell, T.ki_NoCell_NoMark, T.ki_NoCell_IsIn, T.ki_NoCell_NotIn, T.ki_NoCell_NotHeld, T.ki_NoCell_Gone, T.ki_NoCell_BadPairs, T.ki_NoCell_NotNow, T.ki_NoCell_StoreError, T.kv_NoCell, T.em_NoCell⟩ : RefK K (Exs.mk D.c_BadNumber D.c_NoHand D.c_NoCell D.c_NoMark D.c_IsIn D.c_NotIn D.c_NotHeld D.c_Gone D.c_BadPairs D.c_NotNow D.c_StoreError) 2) | exact (⟨by decide, T.ec_IsIn, T.ki_IsIn_BadNumber, T.ki_IsIn_NoHand, T.ki_IsIn_NoCell, T.ki_IsIn_NoMark, T.ki_IsIn_IsIn, T.ki_IsIn_NotIn, T.ki_IsIn_NotHeld, T.ki_IsIn_Gone, T.ki_IsIn_BadPairs, T.ki_IsIn_NotNow, T.ki_IsIn_StoreError, T.kv_IsIn, T.em_IsIn⟩ : RefK K (Exs.mk D.c_BadNumber D.c_NoHand D.c_NoCell D.c_NoMark D.c_IsIn D.c_NotIn D.c_NotHeld D.c_Gone D.c_BadPairs D.c_NotNow D.c_StoreError) 4) | exact (⟨by decide, T.ec_NotIn, T.ki_NotIn_BadNumber, T.ki_NotIn_NoHand, T.ki_NotIn_NoCell, T.ki_NotIn_NoMark, T.ki_NotIn_IsIn, T.ki_NotIn_NotIn, T.ki_NotIn_NotHeld, T.ki_NotIn_Gone, T.ki_NotIn_BadPairs, T.ki_NotIn_NotNow, T.ki_NotIn_StoreError, T.kv_NotIn, T.em_NotIn⟩ : RefK K (Exs.mk D.c_BadNumber D.c_NoHand D.c_NoCell D.c_NoMark D.c_IsIn D.c_NotIn D.c_NotHeld D.c_Gone D.c_BadPairs D.c_NotNow D.c_StoreError) 5) | exact (⟨by decide, T.ec_BadPairs, T.ki_BadPairs_BadNumber, T.ki_BadPairs_NoHand, T.ki_BadPairs_NoCell, T.ki_BadPairs_NoMark, T.ki_BadPairs_IsIn, T.ki_BadPairs_NotIn, T.ki_BadPairs_NotHeld, T.ki_BadPairs_Gone, T.ki_BadPairs_BadPairs, T.ki_BadPairs_NotNow, T.ki_BadPairs_StoreError, T.kv_BadPairs, T.em_BadPairs⟩ : RefK K (Exs.mk D.c_BadNumber D.c_NoHand D.c_NoCell D.c_NoMark D.c_IsIn D.c_NotIn D.c_NotHeld D.c_Gone D.c_BadPairs D.c_NotNow D.c_StoreError) 8) | exact (⟨by decide, T.ec_NotNow, T.ki_NotNow_BadNumber, T.ki_NotNow_NoHand, T.ki_NotNow_NoCell, T.ki_NotNow_NoMark, T.ki_NotNow_IsIn, T.ki_NotNow_NotIn, T.ki_NotNow_NotHeld, T.ki_NotNow_Gone, T.ki_NotNow_BadPairs, T.ki_NotNow_NotNow, T.ki_NotNow_StoreError, T.kv_NotNow, T.em_NotNow⟩ : RefK K (Exs.mk D.c_BadNumber D.c_NoHand D.c_NoCell D.c_NoMark D.c_IsIn D.c_NotIn D.c_NotHeld D.c_Gone D.c_BadPairs D.c_NotNow D.c_StoreError) 9)) h
set_option maxHeartbeats 8000000 in
theorem ok__law_asked (T : Txt K mg D) : FnOk P w K mg base CX0 6 D.f__law_asked D.d__law_asked ["some", "kind", "one", "other"] (sp__law_asked D.c_Sides D.c_Twice (Exs.mk D.c_BadNumber D.c_NoHand D.c_NoCell D.c_NoMark D.c_IsIn D.c_NotIn D.c_NotHeld D.c_Gone D.c_BadPairs D.c_NotNow D.c_StoreError)) := by
  have GR__law_did : FnOk P w K mg base (L2.CX P w) 5 D.f__law_did D.d__law_did ["some", "kind", "one", "other"] (sr__law_did D.c_Sides (Exs.mk D.c_BadNumber D.c_NoHand D.c_NoCell D.c_NoMark D.c_IsIn D.c_NotIn D.c_NotHeld D.c_Gone D.c_BadPairs D.c_NotNow D.c_StoreError)) := okr__law_did T
  have GR__law_does : FnOk P w K mg base (L2.CX P w) 4 D.f__law_does D.d__law_does ["some", "kind", "one", "other"] (sr__law_does D.c_Twice (Exs.mk D.c_BadNumber D.c_NoHand D.c_NoCell D.c_NoMark D.c_IsIn D.c_NotIn D.c_NotHeld D.c_Gone D.c_BadPairs D.c_NotNow D.c_StoreError)) := okr__law_does T
  have G__law_refusal : FnOk P w K mg base CX0 1 D.f__law_refusal D.d__law_refusal ["caught"] (sp__law_refusal (Exs.mk D.c_BadNumber D.c_NoHand D.c_NoCell D.c_NoMark D.c_IsIn D.c_NotIn D.c_NotHeld D.c_Gone D.c_BadPairs D.c_NotNow D.c_StoreError) [0, 1, 2, 4, 5, 8, 9]) := ok__law_refusal T
  refine T.F__law_asked.ok sc__law_asked (fun vs H Q E h => ?_) (fun cdv A outer s H vs Q E hr h => ⟨t__law_asked K D.c_StoreError D.c_Sides (sr__law_did D.c_Sides (Exs.mk D.c_BadNumber D.c_NoHand D.c_NoCell D.c_NoMark D.c_IsIn D.c_NotIn D.c_NotHeld D.c_Gone D.c_BadPairs D.c_NotNow D.c_StoreError)) (sr__law_does D.c_Twice (Exs.mk D.c_BadNumber D.c_NoHand D.c_NoCell D.c_NoMark D.c_IsIn D.c_NotIn D.c_NotHeld D.c_Gone D.c_BadPairs D.c_NotNow D.c_StoreError)) (sp__law_refusal (Exs.mk D.c_BadNumber D.c_NoHand D.c_NoCell D.c_NoMark D.c_IsIn D.c_NotIn D.c_NotHeld D.c_Gone D.c_BadPairs D.c_NotNow D.c_StoreError) [0, 1, 2, 4, 5, 8, 9]), ?_, ?_⟩)
  · first | (obtain ⟨_, rfl, _⟩ := h; rfl; done) | (obtain ⟨_, _, rfl, _⟩ := h; rfl; done) | (obtain ⟨_, _, _, rfl, _⟩ := h; rfl; done) | (obtain ⟨_, _, _, _, rfl, _⟩ := h; rfl; done) | (obtain ⟨_, _, _, _, _, rfl, _⟩ := h; rfl; done) | (obtain ⟨_, _, _, _, _, _, rfl, _⟩ := h; rfl; done) | (obtain ⟨_, _, _, _, _, _, _, rfl, _⟩ := h; rfl; done) | (obtain ⟨_, _, _, _, _, _, _, _, rfl, _⟩ := h; rfl; done) | (obtain ⟨_, _, _, _, _, _, _, _, _, rfl, _⟩ := h; rfl; done) | (obtain ⟨_, _, _, _, _, _, _, _, _, _, rfl, _⟩ := h; rfl; done) | (obtain ⟨_, _, _, _, _, _, _, _, _, _, _, rfl, _⟩ := h; rfl; done) | (obtain ⟨_, _, _, _, _, _, _, _, _, _, _, _, rfl, _⟩ := h; rfl; done) | (obtain ⟨_, _, _, _, _, _, _, _, _, _, _, _, _, rfl, _⟩ := h; rfl; done) | (obtain ⟨_, _, _, _, _, _, _, _, _, _, _, _, _, _, rfl, _⟩ := h; rfl; done) | (obtain ⟨_, _, _, _, _, _, _, _, _, _, _, _, _, _, _, rfl, _⟩ := h; rfl; done) | ((rcases h with h | h) <;> (first | (obtain ⟨_, rfl, _⟩ := h; rfl) | (obtain ⟨_, _, rfl, _⟩ := h; rfl) | (obtain ⟨_, _, _, rfl, _⟩ := h; rfl) | (obtain ⟨_, _, _, _, rfl, _⟩ := h; rfl) | (obtain ⟨_, _, _, _, _, rfl, _⟩ := h; rfl) | (obtain ⟨_, _, _, _, _, _, rfl, _⟩ := h; rfl) | (obtain ⟨_, _, _, _, _, _, _, rfl, _⟩ := h; rfl) | (obtain ⟨_, _, _, _, _, _, _, _, rfl, _⟩ := h; rfl) | (obtain ⟨_, _, _, _, _, _, _, _, _, rfl, _⟩ := h; rfl) | (obtain ⟨_, _, _, _, _, _, _, _, _, _, rfl, _⟩ := h; rfl) | (obtain ⟨_, _, _, _, _, _, _, _, _, _, _, rfl, _⟩ := h; rfl) | (obtain ⟨_, _, _, _, _, _, _, _, _, _, _, _, rfl, _⟩ := h; rfl) | (obtain ⟨_, _, _, _, _, _, _, _, _, _, _, _, _, rfl, _⟩ := h; rfl) | (obtain ⟨_, _, _, _, _, _, _, _, _, _, _, _, _, _, rfl, _⟩ := h; rfl) | (obtain ⟨_, _, _, _, _, _, _, _, _, _, _, _, _, _, _, rfl, _⟩ := h; rfl)))
  · have hu := hu_of hr
    exact pss_cons (ps_set (i := 4) sc__law_asked.nd rfl (by first | exact Or.inl rfl | exact Or.inr rfl) (pe_non))
      (pss_cons (ps_try_keep (i := 5) rfl rfl rfl sc__law_asked.nd rfl rfl ⟨by rfl, by decide, .inl T.g_StoreError⟩ takes0 (fun W pn xe tk _ => pss_one (ps_if (pt_val (pe_callB call_isi (by rfl) T.m_isinstance (by decide +kernel) (pa_cons (pv 0) (pa_cons (pe_glob (v := .ref D.c_Sides) (by rfl) T.g_Sides rfl) (pa_nil))))) (pss_one (ps_expr (pe_callS GR__law_did (hr.mono (by decide)) (by rfl) T.g__law_did T.F__law_did.kp T.b__law_did (fun σ => passAt tk σ) (pa_cons (pv 0) (pa_cons (pv 1) (pa_cons (pv 2) (pa_cons (pv 3) (pa_nil)))))))) (pss_one (ps_expr (pe_callS GR__law_does (hr.mono (by decide)) (by rfl) T.g__law_does T.F__law_does.kp T.b__law_does (fun σ => passAt tk σ) (pa_cons (pv 0) (pa_cons (pv 1) (pa_cons (pv 2) (pa_cons (pv 3) (pa_nil)))))))))) (fun a oe cls d pn hz hf => pss_one (ps_set (i := 4) sc__law_asked.nd rfl (by first | exact Or.inl rfl | exact Or.inr rfl) (pv 5))))
      (pss_one (ps_ret (pe_ifExp (pt_cmpR op_isNo (pv 4) (pe_non) (nomark _)) (pe_str) (pe_call G__law_refusal (hr.mono (by decide)) (by rfl) T.g__law_refusal T.F__law_refusal.kp T.b__law_refusal .nil pass0 (pa_cons (pv 4) (pa_nil)))))))
  · exact pure__law_asked (X := (Exs.mk D.c_BadNumber D.c_NoHand D.c_NoCell D.c_NoMark D.c_IsIn D.c_NotIn D.c_NotHeld D.c_Gone D.c_BadPairs D.c_NotNow D.c_StoreError)) ⟨T.cl_Sides, T.ih_Sides, T.ig_get, T.ig_tk, T.io_Sides⟩ ⟨T.cl_Twice, T.ih_Twice, T.ig_get, T.ig_tk, T.io_Twice⟩ T.ko_Sides_Sides T.ko_Twice_Sides (fun i hi => by rcases (by simpa using hi : i = 0 ∨ i = 1 ∨ i = 2 ∨ i = 4 ∨ i = 5 ∨ i = 8 ∨ i = 9) with rfl | rfl | rfl | rfl | rfl | rfl | rfl <;> first | exact (⟨by decide, T.ec_BadNumber, T.ki_BadNumber_BadNumber, T.ki_BadNumber_NoHand, T.ki_BadNumber_NoCell, T.ki_BadNumber_NoMark, T.ki_BadNumber_IsIn, T.ki_BadNumber_NotIn, T.ki_BadNumber_NotHeld, T.ki_BadNumber_Gone, T.ki_BadNumber_BadPairs, T.ki_BadNumber_NotNow, T.ki_BadNumber_StoreError, T.kv_BadNumber, T.em_BadNumber⟩ : RefK K (Exs.mk D.c_BadNumber D.c_NoHand D.c_NoCell D.c_NoMark D.c_IsIn D.c_NotIn D.c_NotHeld D.c_Gone D.c_BadPairs D.c_NotNow D.c_StoreError) 0) | exact (⟨by decide, T.ec_NoHand, T.ki_NoHand_BadNumber, T.ki_NoHand_NoHand, T.ki_NoHand_NoCell, T.ki_NoHand_NoMark, T.ki_NoHand_IsIn, T.ki_NoHand_NotIn, T.ki_NoHand_NotHeld, T.ki_NoHand_Gone, T.ki_NoHand_BadPairs, T.ki_NoHand_NotNow, T.ki_NoHand_StoreError, T.kv_NoHand, T.em_NoHand⟩ : RefK K (Exs.mk D.c_BadNumber D.c_NoHand D.c_NoCell D.c_NoMark D.c_IsIn D.c_NotIn D.c_NotHeld D.c_Gone D.c_BadPairs D.c_NotNow D.c_StoreError) 1) | exact (⟨by decide, T.ec_NoCell, T.ki_NoCell_BadNumber, T.ki_NoCell_NoHand, T.ki_NoCell_NoCell, T.ki_NoCell_NoMark, T.ki_NoCell_IsIn, T.ki_NoCell_NotIn, T.ki_NoCell_NotHeld, T.ki_NoCell_Gone, T.ki_NoCell_BadPairs, T.ki_NoCell_NotNow, T.ki_NoCell_StoreError, T.kv_NoCell, T.em_NoCell⟩ : RefK K (Exs.mk D.c_BadNumber D.c_NoHand D.c_NoCell D.c_NoMark D.c_IsIn D.c_NotIn D.c_NotHeld D.c_Gone D.c_BadPairs D.c_NotNow D.c_StoreError) 2) | exact (⟨by decide, T.ec_IsIn, T.ki_IsIn_BadNumber, T.ki_IsIn_NoHand, T.ki_IsIn_NoCell, T.ki_IsIn_NoMark, T.ki_IsIn_IsIn, T.ki_IsIn_NotIn, T.ki_IsIn_NotHeld, T.ki_IsIn_Gone, T.ki_IsIn_BadPairs, T.ki_IsIn_NotNow, T.ki_IsIn_StoreError, T.kv_IsIn, T.em_IsIn⟩ : RefK K (Exs.mk D.c_BadNumber D.c_NoHand D.c_NoCell D.c_NoMark D.c_IsIn D.c_NotIn D.c_NotHeld D.c_Gone D.c_BadPairs D.c_NotNow D.c_StoreError) 4) | exact (⟨by decide, T.ec_NotIn, T.ki_NotIn_BadNumber, T.ki_NotIn_NoHand, T.ki_NotIn_NoCell, T.ki_NotIn_NoMark, T.ki_NotIn_IsIn, T.ki_NotIn_NotIn, T.ki_NotIn_NotHeld, T.ki_NotIn_Gone, T.ki_NotIn_BadPairs, T.ki_NotIn_NotNow, T.ki_NotIn_StoreError, T.kv_NotIn, T.em_NotIn⟩ : RefK K (Exs.mk D.c_BadNumber D.c_NoHand D.c_NoCell D.c_NoMark D.c_IsIn D.c_NotIn D.c_NotHeld D.c_Gone D.c_BadPairs D.c_NotNow D.c_StoreError) 5) | exact (⟨by decide, T.ec_BadPairs, T.ki_BadPairs_BadNumber, T.ki_BadPairs_NoHand, T.ki_BadPairs_NoCell, T.ki_BadPairs_NoMark, T.ki_BadPairs_IsIn, T.ki_BadPairs_NotIn, T.ki_BadPairs_NotHeld, T.ki_BadPairs_Gone, T.ki_BadPairs_BadPairs, T.ki_BadPairs_NotNow, T.ki_BadPairs_StoreError, T.kv_BadPairs, T.em_BadPairs⟩ : RefK K (Exs.mk D.c_BadNumber D.c_NoHand D.c_NoCell D.c_NoMark D.c_IsIn D.c_NotIn D.c_NotHeld D.c_Gone D.c_BadPairs D.c_NotNow D.c_StoreError) 8) | exact (⟨by decide, T.ec_NotNow, T.ki_NotNow_BadNumber, T.ki_NotNow_NoHand, T.ki_NotNow_NoCell, T.ki_NotNow_NoMark, T.ki_NotNow_IsIn, T.ki_NotNow_NotIn, T.ki_NotNow_NotHeld, T.ki_NotNow_Gone, T.ki_NotNow_BadPairs, T.ki_NotNow_NotNow, T.ki_NotNow_StoreError, T.kv_NotNow, T.em_NotNow⟩ : RefK K (Exs.mk D.c_BadNumber D.c_NoHand D.c_NoCell D.c_NoMark D.c_IsIn D.c_NotIn D.c_NotHeld D.c_Gone D.c_BadPairs D.c_NotNow D.c_StoreError) 9)) h
set_option maxHeartbeats 8000000 in
theorem ok_Twice__Twice_number_now (T : Txt K mg D) : FnOk P w K mg base CX0 1 D.f_Twice_number_now D.d_Twice_number_now ["self"] (sp_number_now D.c_Twice) := by
  refine T.F_Twice_number_now.ok sc_Twice_number_now (fun vs H Q E h => ?_) (fun cdv A outer s H vs Q E hr h => ⟨t_Twice_number_now K, ?_, ?_⟩)
  · first | (obtain ⟨_, rfl, _⟩ := h; rfl; done) | (obtain ⟨_, _, rfl, _⟩ := h; rfl; done) | (obtain ⟨_, _, _, rfl, _⟩ := h; rfl; done) | (obtain ⟨_, _, _, _, rfl, _⟩ := h; rfl; done) | (obtain ⟨_, _, _, _, _, rfl, _⟩ := h; rfl; done) | (obtain ⟨_, _, _, _, _, _, rfl, _⟩ := h; rfl; done) | (obtain ⟨_, _, _, _, _, _, _, rfl, _⟩ := h; rfl; done) | (obtain ⟨_, _, _, _, _, _, _, _, rfl, _⟩ := h; rfl; done) | (obtain ⟨_, _, _, _, _, _, _, _, _, rfl, _⟩ := h; rfl; done) | (obtain ⟨_, _, _, _, _, _, _, _, _, _, rfl, _⟩ := h; rfl; done) | (obtain ⟨_, _, _, _, _, _, _, _, _, _, _, rfl, _⟩ := h; rfl; done) | (obtain ⟨_, _, _, _, _, _, _, _, _, _, _, _, rfl, _⟩ := h; rfl; done) | (obtain ⟨_, _, _, _, _, _, _, _, _, _, _, _, _, rfl, _⟩ := h; rfl; done) | (obtain ⟨_, _, _, _, _, _, _, _, _, _, _, _, _, _, rfl, _⟩ := h; rfl; done) | (obtain ⟨_, _, _, _, _, _, _, _, _, _, _, _, _, _, _, rfl, _⟩ := h; rfl; done) | ((rcases h with h | h) <;> (first | (obtain ⟨_, rfl, _⟩ := h; rfl) | (obtain ⟨_, _, rfl, _⟩ := h; rfl) | (obtain ⟨_, _, _, rfl, _⟩ := h; rfl) | (obtain ⟨_, _, _, _, rfl, _⟩ := h; rfl) | (obtain ⟨_, _, _, _, _, rfl, _⟩ := h; rfl) | (obtain ⟨_, _, _, _, _, _, rfl, _⟩ := h; rfl) | (obtain ⟨_, _, _, _, _, _, _, rfl, _⟩ := h; rfl) | (obtain ⟨_, _, _, _, _, _, _, _, rfl, _⟩ := h; rfl) | (obtain ⟨_, _, _, _, _, _, _, _, _, rfl, _⟩ := h; rfl) | (obtain ⟨_, _, _, _, _, _, _, _, _, _, rfl, _⟩ := h; rfl) | (obtain ⟨_, _, _, _, _, _, _, _, _, _, _, rfl, _⟩ := h; rfl) | (obtain ⟨_, _, _, _, _, _, _, _, _, _, _, _, rfl, _⟩ := h; rfl) | (obtain ⟨_, _, _, _, _, _, _, _, _, _, _, _, _, rfl, _⟩ := h; rfl) | (obtain ⟨_, _, _, _, _, _, _, _, _, _, _, _, _, _, rfl, _⟩ := h; rfl) | (obtain ⟨_, _, _, _, _, _, _, _, _, _, _, _, _, _, _, rfl, _⟩ := h; rfl)))
  · have hu := hu_of hr
    exact pss_one (ps_ret (pe_fld (pv 0) (by rfl)))
  · exact pure_number_now ⟨T.cl_Twice, T.na_Twice_hands, T.na_Twice_cells, T.na_Twice_number, T.na_Twice_first⟩ h
set_option maxHeartbeats 8000000 in
theorem ok_law (T : Txt K mg D) : FnOk P w K mg base CX0 7 D.f_law D.d_law ["script"] (sp_law K) := by
  have G__law_town : FnOk P w K mg base CX0 1 D.f__law_town D.d__law_town ["script"] (sp__law_town K) := ok__law_town T
  have G_mk_Twice : FnOk P w K mg base CX0 3 D.f_Twice_init D.d_Twice_init ["self", "hands", "cells"] (sp_tinit D.c_Twice) := ok_mk_Twice T
  have G_mk_Sides : FnOk P w K mg base CX0 3 D.f_Sides_init D.d_Sides_init ["self", "hands", "cells"] (sp_sinit D.c_Sides) := ok_mk_Sides T
  have G__law_pick : FnOk P w K mg base CX0 2 D.f__law_pick D.d__law_pick ["town", "some"] (sp__law_pick) := ok__law_pick T
  have G_Sides__Sides_enter : FnOk P w K mg base CX0 3 D.f_Sides_enter D.d_Sides_enter ["self", "hand"] (sp_senter D.c_Sides) := ok_Sides__Sides_enter T
  have G__law_odd : FnOk P w K mg base CX0 3 D.f__law_odd D.d__law_odd ["town", "most"] (sp__law_odd) := ok__law_odd T
  have G__law_asked : FnOk P w K mg base CX0 6 D.f__law_asked D.d__law_asked ["some", "kind", "one", "other"] (sp__law_asked D.c_Sides D.c_Twice (Exs.mk D.c_BadNumber D.c_NoHand D.c_NoCell D.c_NoMark D.c_IsIn D.c_NotIn D.c_NotHeld D.c_Gone D.c_BadPairs D.c_NotNow D.c_StoreError)) := ok__law_asked T
  have G_Twice__Twice_number_now : FnOk P w K mg base CX0 1 D.f_Twice_number_now D.d_Twice_number_now ["self"] (sp_number_now D.c_Twice) := ok_Twice__Twice_number_now T
  have G_Twice__Twice_begin_read : FnOk P w K mg base CX0 3 D.f_Twice_begin_read D.d_Twice_begin_read ["self", "hand"] (sp_begin_read D.c_Twice) := ok_Twice__Twice_begin_read T
  have G_Sides__Sides_finish : FnOk P w K mg base CX0 2 D.f_Sides_finish D.d_Sides_finish ["self"] (sp_sfinish D.c_Sides) := ok_Sides__Sides_finish T
  have G_Sides__Sides_read : FnOk P w K mg base CX0 4 D.f_Sides_read D.d_Sides_read ["self", "hand", "cell"] (sp_sread D.c_Sides) := ok_Sides__Sides_read T
  refine T.F_law.ok sc_law (fun vs H Q E h => ?_) (fun cdv A outer s H vs Q E hr h => ⟨t_law K D.c_Twice D.c_Sides (sp__law_town K) (sp_tinit D.c_Twice) (sp_sinit D.c_Sides) (sp__law_pick) (sp_senter D.c_Sides) (sp__law_odd) (sp__law_asked D.c_Sides D.c_Twice (Exs.mk D.c_BadNumber D.c_NoHand D.c_NoCell D.c_NoMark D.c_IsIn D.c_NotIn D.c_NotHeld D.c_Gone D.c_BadPairs D.c_NotNow D.c_StoreError)) (sp_number_now D.c_Twice) (sp_begin_read D.c_Twice) (sp_sfinish D.c_Sides) (sp_sread D.c_Sides), ?_, ?_⟩)
  · first | (obtain ⟨_, rfl, _⟩ := h; rfl; done) | (obtain ⟨_, _, rfl, _⟩ := h; rfl; done) | (obtain ⟨_, _, _, rfl, _⟩ := h; rfl; done) | (obtain ⟨_, _, _, _, rfl, _⟩ := h; rfl; done) | (obtain ⟨_, _, _, _, _, rfl, _⟩ := h; rfl; done) | (obtain ⟨_, _, _, _, _, _, rfl, _⟩ := h; rfl; done) | (obtain ⟨_, _, _, _, _, _, _, rfl, _⟩ := h; rfl; done) | (obtain ⟨_, _, _, _, _, _, _, _, rfl, _⟩ := h; rfl; done) | (obtain ⟨_, _, _, _, _, _, _, _, _, rfl, _⟩ := h; rfl; done) | (obtain ⟨_, _, _, _, _, _, _, _, _, _, rfl, _⟩ := h; rfl; done) | (obtain ⟨_, _, _, _, _, _, _, _, _, _, _, rfl, _⟩ := h; rfl; done) | (obtain ⟨_, _, _, _, _, _, _, _, _, _, _, _, rfl, _⟩ := h; rfl; done) | (obtain ⟨_, _, _, _, _, _, _, _, _, _, _, _, _, rfl, _⟩ := h; rfl; done) | (obtain ⟨_, _, _, _, _, _, _, _, _, _, _, _, _, _, rfl, _⟩ := h; rfl; done) | (obtain ⟨_, _, _, _, _, _, _, _, _, _, _, _, _, _, _, rfl, _⟩ := h; rfl; done) | ((rcases h with h | h) <;> (first | (obtain ⟨_, rfl, _⟩ := h; rfl) | (obtain ⟨_, _, rfl, _⟩ := h; rfl) | (obtain ⟨_, _, _, rfl, _⟩ := h; rfl) | (obtain ⟨_, _, _, _, rfl, _⟩ := h; rfl) | (obtain ⟨_, _, _, _, _, rfl, _⟩ := h; rfl) | (obtain ⟨_, _, _, _, _, _, rfl, _⟩ := h; rfl) | (obtain ⟨_, _, _, _, _, _, _, rfl, _⟩ := h; rfl) | (obtain ⟨_, _, _, _, _, _, _, _, rfl, _⟩ := h; rfl) | (obtain ⟨_, _, _, _, _, _, _, _, _, rfl, _⟩ := h; rfl) | (obtain ⟨_, _, _, _, _, _, _, _, _, _, rfl, _⟩ := h; rfl) | (obtain ⟨_, _, _, _, _, _, _, _, _, _, _, rfl, _⟩ := h; rfl) | (obtain ⟨_, _, _, _, _, _, _, _, _, _, _, _, rfl, _⟩ := h; rfl) | (obtain ⟨_, _, _, _, _, _, _, _, _, _, _, _, _, rfl, _⟩ := h; rfl) | (obtain ⟨_, _, _, _, _, _, _, _, _, _, _, _, _, _, rfl, _⟩ := h; rfl) | (obtain ⟨_, _, _, _, _, _, _, _, _, _, _, _, _, _, _, rfl, _⟩ := h; rfl)))
  · have hu := hu_of hr
    exact pss_cons (ps_set (i := 1) sc_law.nd rfl (by first | exact Or.inl rfl | exact Or.inr rfl) (pe_call G__law_town (hr.mono (by decide)) (by rfl) T.g__law_town T.F__law_town.kp T.b__law_town .nil pass0 (pa_cons (pv 0) (pa_nil))))
      (pss_cons (ps_par (by rfl) sc_law.nd rfl rfl (by decide) rfl rfl (pa_cons (pe_make T.mk_Sides G_mk_Sides (hr.mono (by decide)) (by rfl) T.g_Sides T.b_Sides_init .nil pass0 (pa_cons (pe_int) (pa_cons (pe_int) (pa_nil)))) (pa_cons (pe_make T.mk_Twice G_mk_Twice (hr.mono (by decide)) (by rfl) T.g_Twice T.b_Twice_init .nil pass0 (pa_cons (pe_int) (pa_cons (pe_int) (pa_nil)))) (pa_nil))) (by rfl))
      (pss_cons (ps_set (i := 4) sc_law.nd rfl (by first | exact Or.inl rfl | exact Or.inr rfl) (pe_call G__law_pick (hr.mono (by decide)) (by rfl) T.g__law_pick T.F__law_pick.kp T.b__law_pick .nil pass0 (pa_cons (pv 1) (pa_cons (pe_lst (pa_cons (pe_lst (pa_nil)) (pa_cons (pe_lst (pa_cons (pe_tup (pa_cons (pe_int) (pa_cons (pe_int) (pa_nil)))) (pa_nil))) (pa_cons (pe_lst (pa_cons (pe_tup (pa_cons (pe_int) (pa_cons (pe_int) (pa_nil)))) (pa_nil))) (pa_cons (pe_lst (pa_cons (pe_lst (pa_cons (pe_int) (pa_cons (pe_int) (pa_nil)))) (pa_nil))) (pa_cons (pe_lst (pa_cons (pe_tup (pa_cons (pe_int) (pa_nil))) (pa_nil))) (pa_cons (pe_non) (pa_cons (pe_tup (pa_cons (pe_tup (pa_cons (pe_int) (pa_cons (pe_int) (pa_nil)))) (pa_nil))) (pa_cons (pe_lst (pa_cons (pe_tup (pa_cons (pe_int) (pa_cons (pe_bl) (pa_nil)))) (pa_nil))) (pa_cons (pe_int) (pa_cons (pe_dnewK) (pa_nil)))))))))))) (pa_nil)))))
      (pss_cons (ps_set (i := 5) sc_law.nd rfl (by first | exact Or.inl rfl | exact Or.inr rfl) (pe_call G__law_pick (hr.mono (by decide)) (by rfl) T.g__law_pick T.F__law_pick.kp T.b__law_pick .nil pass0 (pa_cons (pv 1) (pa_cons (pe_lst (pa_cons (pe_int) (pa_cons (pe_op op_subI (pe_int) (pe_int)) (pa_cons (pe_bl) (pa_cons (pe_non) (pa_cons (pe_str) (pa_nil))))))) (pa_nil)))))
      (pss_cons (ps_expr (pe_meth (pv 2) T.cl_Sides T.me_Sides_enter G_Sides__Sides_enter (hr.mono (by decide)) T.b_Sides_enter .nil pass0 (pa_cons (pe_int) (pa_nil))))
      (pss_cons (ps_for PassesOwn.never rfl (pi_range1 (by rfl) T.m_range (pa_cons (pe_int) (pa_nil))) (pg_name (i := 6) sc_law.nd rfl (by first | exact Or.inl rfl | exact Or.inr rfl)) (pss_cons (ps_set (i := 7) sc_law.nd rfl (by first | exact Or.inl rfl | exact Or.inr rfl) (pe_call G__law_odd (hr.mono (by decide)) (by rfl) T.g__law_odd T.F__law_odd.kp T.b__law_odd .nil pass0 (pa_cons (pv 1) (pa_cons (pe_int) (pa_nil)))))
      (pss_cons (ps_for PassesOwn.never rfl (pi_range1 (by rfl) T.m_range (pa_cons (pe_int) (pa_nil))) (pg_name (i := 8) sc_law.nd rfl (by first | exact Or.inl rfl | exact Or.inr rfl)) (pss_one (ps_if (PW.pt (pw_or (pt_cmpR op_ne (pe_call G__law_asked (hr.mono (by decide)) (by rfl) T.g__law_asked T.F__law_asked.kp T.b__law_asked .nil pass0 (pa_cons (pv 2) (pa_cons (pv 8) (pa_cons (pe_call G__law_odd (hr.mono (by decide)) (by rfl) T.g__law_odd T.F__law_odd.kp T.b__law_odd .nil pass0 (pa_cons (pv 1) (pa_cons (pe_int) (pa_nil)))) (pa_cons (pv 7) (pa_nil)))))) (pe_str) (nomark _)) (pw_or1 (pt_cmpR op_ne (pe_call G__law_asked (hr.mono (by decide)) (by rfl) T.g__law_asked T.F__law_asked.kp T.b__law_asked .nil pass0 (pa_cons (pv 3) (pa_cons (pv 8) (pa_cons (pe_int) (pa_cons (pv 7) (pa_nil)))))) (pe_str) (nomark _))))) (pss_one (ps_ret (pe_bl))) (pss_nil))))
      (pss_cons (ps_set (i := 9) sc_law.nd rfl (by first | exact Or.inl rfl | exact Or.inr rfl) (pe_lst (pa_cons (pe_call G__law_asked (hr.mono (by decide)) (by rfl) T.g__law_asked T.F__law_asked.kp T.b__law_asked .nil pass0 (pa_cons (pv 2) (pa_cons (pe_int) (pa_cons (pe_int) (pa_cons (pe_int) (pa_nil)))))) (pa_cons (pe_call G__law_asked (hr.mono (by decide)) (by rfl) T.g__law_asked T.F__law_asked.kp T.b__law_asked .nil pass0 (pa_cons (pv 2) (pa_cons (pe_int) (pa_cons (pe_int) (pa_cons (pe_int) (pa_nil)))))) (pa_cons (pe_call G__law_asked (hr.mono (by decide)) (by rfl) T.g__law_asked T.F__law_asked.kp T.b__law_asked .nil pass0 (pa_cons (pv 2) (pa_cons (pe_int) (pa_cons (pe_int) (pa_cons (pv 7) (pa_nil)))))) (pa_nil))))))
      (pss_cons (ps_if (pt_cmpR (op_neD hr.units) (pv 9) (pe_lst (pa_cons (pe_str) (pa_cons (pe_str) (pa_cons (pe_str) (pa_nil))))) (nomark _)) (pss_one (ps_ret (pe_bl))) (pss_nil))
      (pss_cons (ps_if (PW.pt (pw_or (pt_cmpR op_ne (pe_call G__law_asked (hr.mono (by decide)) (by rfl) T.g__law_asked T.F__law_asked.kp T.b__law_asked .nil pass0 (pa_cons (pv 2) (pa_cons (pe_int) (pa_cons (pe_int) (pa_cons (pv 7) (pa_nil)))))) (pe_str) (nomark _)) (pw_or1 (pt_cmpR op_ne (pe_call G__law_asked (hr.mono (by decide)) (by rfl) T.g__law_asked T.F__law_asked.kp T.b__law_asked .nil pass0 (pa_cons (pv 2) (pa_cons (pe_int) (pa_cons (pe_call G__law_odd (hr.mono (by decide)) (by rfl) T.g__law_odd T.F__law_odd.kp T.b__law_odd .nil pass0 (pa_cons (pv 1) (pa_cons (pe_int) (pa_nil)))) (pa_cons (pe_int) (pa_nil)))))) (pe_str) (nomark _))))) (pss_one (ps_ret (pe_bl))) (pss_nil))
      (pss_cons (ps_if (PW.pt (pw_or (pt_cmpR op_ne (pe_call G__law_asked (hr.mono (by decide)) (by rfl) T.g__law_asked T.F__law_asked.kp T.b__law_asked .nil pass0 (pa_cons (pv 2) (pa_cons (pe_int) (pa_cons (pv 4) (pa_cons (pe_int) (pa_nil)))))) (pe_str) (nomark _)) (pw_or1 (PW.pt (pw_and (pt_cmpR op_gtI (pv 6) (pe_int) (nomark _)) (pw_and1 (pt_cmpR op_ne (pe_call G__law_asked (hr.mono (by decide)) (by rfl) T.g__law_asked T.F__law_asked.kp T.b__law_asked .nil pass0 (pa_cons (pv 2) (pa_cons (pe_int) (pa_cons (pe_lst (pa_cons (pe_tup (pa_cons (pe_int) (pa_cons (pe_int) (pa_nil)))) (pa_nil))) (pa_cons (pe_int) (pa_nil)))))) (pe_str) (nomark _)))))))) (pss_one (ps_ret (pe_bl))) (pss_nil))
      (pss_cons (ps_if (PW.pt (pw_or (PW.pt (pw_and (pt_cmpR op_ne (pv 6) (pe_int) (nomark _)) (pw_and1 (pt_cmpR op_ne (pe_call G__law_asked (hr.mono (by decide)) (by rfl) T.g__law_asked T.F__law_asked.kp T.b__law_asked .nil pass0 (pa_cons (pv 2) (pa_cons (pe_int) (pa_cons (pe_int) (pa_cons (pe_int) (pa_nil)))))) (pe_str) (nomark _))))) (pw_or1 (PW.pt (pw_and (pt_cmpR op_ne (pv 6) (pe_int) (nomark _)) (pw_and1 (pt_cmpR op_ne (pe_call G__law_asked (hr.mono (by decide)) (by rfl) T.g__law_asked T.F__law_asked.kp T.b__law_asked .nil pass0 (pa_cons (pv 2) (pa_cons (pe_int) (pa_cons (pe_int) (pa_cons (pe_int) (pa_nil)))))) (pe_str) (nomark _)))))))) (pss_one (ps_ret (pe_bl))) (pss_nil))
      (pss_cons (ps_set (i := 9) sc_law.nd rfl (by first | exact Or.inl rfl | exact Or.inr rfl) (pe_lst (pa_cons (pe_call G__law_asked (hr.mono (by decide)) (by rfl) T.g__law_asked T.F__law_asked.kp T.b__law_asked .nil pass0 (pa_cons (pv 3) (pa_cons (pe_int) (pa_cons (pe_int) (pa_cons (pv 7) (pa_nil)))))) (pa_cons (pe_call G__law_asked (hr.mono (by decide)) (by rfl) T.g__law_asked T.F__law_asked.kp T.b__law_asked .nil pass0 (pa_cons (pv 3) (pa_cons (pe_int) (pa_cons (pe_int) (pa_cons (pe_int) (pa_nil)))))) (pa_cons (pe_call G__law_asked (hr.mono (by decide)) (by rfl) T.g__law_asked T.F__law_asked.kp T.b__law_asked .nil pass0 (pa_cons (pv 3) (pa_cons (pe_int) (pa_cons (pv 7) (pa_cons (pv 5) (pa_nil)))))) (pa_nil))))))
      (pss_cons (ps_if (PW.pt (pw_or (pt_cmpR (op_neD hr.units) (pv 9) (pe_lst (pa_cons (pe_str) (pa_cons (pe_str) (pa_cons (pe_str) (pa_nil))))) (nomark _)) (pw_or1 (pt_cmpR op_ne (pe_call G__law_asked (hr.mono (by decide)) (by rfl) T.g__law_asked T.F__law_asked.kp T.b__law_asked .nil pass0 (pa_cons (pv 3) (pa_cons (pe_int) (pa_cons (pe_int) (pa_cons (pv 5) (pa_nil)))))) (pe_str) (nomark _))))) (pss_one (ps_ret (pe_bl))) (pss_nil))
      (pss_cons (ps_if (PW.pt (pw_and (pt_cmpR op_ne (pv 6) (pe_int) (nomark _)) (pw_and1 (pt_cmpR (op_neD hr.units) (pe_lst (pa_cons (pe_call G__law_asked (hr.mono (by decide)) (by rfl) T.g__law_asked T.F__law_asked.kp T.b__law_asked .nil pass0 (pa_cons (pv 3) (pa_cons (pe_int) (pa_cons (pe_int) (pa_cons (pe_int) (pa_nil)))))) (pa_cons (pe_call G__law_asked (hr.mono (by decide)) (by rfl) T.g__law_asked T.F__law_asked.kp T.b__law_asked .nil pass0 (pa_cons (pv 3) (pa_cons (pe_int) (pa_cons (pe_int) (pa_cons (pe_int) (pa_nil)))))) (pa_nil)))) (pe_lst (pa_cons (pe_str) (pa_cons (pe_str) (pa_nil)))) (nomark _))))) (pss_one (ps_ret (pe_bl))) (pss_nil))
      (pss_cons (ps_if (PW.pt (pw_or (PW.pt (pw_and (pt_cmpR op_eq (pv 6) (pe_int) (nomark _)) (pw_and1 (pt_cmpR op_ne (pe_call G__law_asked (hr.mono (by decide)) (by rfl) T.g__law_asked T.F__law_asked.kp T.b__law_asked .nil pass0 (pa_cons (pv 3) (pa_cons (pe_int) (pa_cons (pe_int) (pa_cons (pe_int) (pa_nil)))))) (pe_str) (nomark _))))) (pw_or1 (pt_cmpR op_ne (pe_meth0 (pv 3) T.cl_Twice T.me_Twice_number_now G_Twice__Twice_number_now (hr.mono (by decide)) T.b_Twice_number_now .nil pass0) (pv 6) (nomark _))))) (pss_one (ps_ret (pe_bl))) (pss_nil))
      (pss_cons (ps_set (i := 8) sc_law.nd rfl (by first | exact Or.inl rfl | exact Or.inr rfl) (pe_ifExp (pt_cmpR op_eq (pv 6) (pe_int) (nomark _)) (pe_int) (pe_int)))
      (pss_cons (ps_set (i := 9) sc_law.nd rfl (by first | exact Or.inl rfl | exact Or.inr rfl) (pe_lst (pa_cons (pe_call G__law_asked (hr.mono (by decide)) (by rfl) T.g__law_asked T.F__law_asked.kp T.b__law_asked .nil pass0 (pa_cons (pv 2) (pa_cons (pv 8) (pa_cons (pe_lst (pa_cons (pe_tup (pa_cons (pe_int) (pa_cons (pe_int) (pa_nil)))) (pa_nil))) (pa_cons (pe_int) (pa_nil)))))) (pa_cons (pe_call G__law_asked (hr.mono (by decide)) (by rfl) T.g__law_asked T.F__law_asked.kp T.b__law_asked .nil pass0 (pa_cons (pv 3) (pa_cons (pe_op op_addI (pv 8) (pe_int)) (pa_cons (pe_int) (pa_cons (pe_int) (pa_nil)))))) (pa_nil)))))
      (pss_one (ps_if (pt_cmpR (op_neD hr.units) (pv 9) (pe_op op_rep (pe_lst (pa_cons (pe_ifExp (pt_cmpR op_ltI (pv 6) (pe_int) (nomark _)) (pe_str) (pe_str)) (pa_nil))) (pe_int)) (nomark _)) (pss_one (ps_ret (pe_bl))) (pss_nil)))))))))))))))))
      (pss_cons (ps_expr (pe_meth (pv 3) T.cl_Twice T.me_Twice_begin_read G_Twice__Twice_begin_read (hr.mono (by decide)) T.b_Twice_begin_read .nil pass0 (pa_cons (pe_int) (pa_nil))))
      (pss_one (ps_ret (pe_and (pe_cmpR op_isBl (pe_meth0 (pv 2) T.cl_Sides T.me_Sides_finish G_Sides__Sides_finish (hr.mono (by decide)) T.b_Sides_finish .nil pass0) (pe_bl) (nomark _)) (pe_and (pe_cmpR op_eq (pe_call G__law_asked (hr.mono (by decide)) (by rfl) T.g__law_asked T.F__law_asked.kp T.b__law_asked .nil pass0 (pa_cons (pv 3) (pa_cons (pe_int) (pa_cons (pe_int) (pa_cons (pv 7) (pa_nil)))))) (pe_str) (nomark _)) (pe_one (pe_cmpR op_eq (pe_meth (pv 2) T.cl_Sides T.me_Sides_read G_Sides__Sides_read (hr.mono (by decide)) T.b_Sides_read .nil pass0 (pa_cons (pe_int) (pa_cons (pe_int) (pa_nil)))) (pe_int) (nomark _)))))))))))))
  · exact pure_law h
end
theorem all_mk {l : PySem.W.OpenLaw} {w : World} {K : PySem.W.Frag} {h : Heap} {mg : Str → Option Value} {fa c_Twice c_Sides c_NoHand c_IsIn c_NotIn c_NoCell c_BadPairs c_NotNow c_BadNumber c_NoMark c_Gone c_NotHeld c_StoreError f__law_town f_is_whole f_look_number f_Twice_init f_Sides_init f__law_draw f__law_pick f_Sides_look_hand f_Sides_enter f__law_odd f_Sides_look_in f_Sides_leave f_Sides_read f_Sides_look_pairs f_Sides_put_all f_Sides_begin f_Sides_turn f_Sides_finish f_Sides_hands_on f__law_did f_Twice_look_hand f_Twice_begin_read f_Twice_look_cell f_Twice_take f_Twice_sure f_Twice_put f_Twice_begin_write f_Twice_end_write f__law_does f__law_refusal f__law_asked f_Twice_number_now f_law : Addr} (X : K.In h) (G : h.Ns mainGlobals mg) (hfa : mg "law" = some (.ref fa))
    {od__law_town an__law_town od_is_whole an_is_whole od_look_number an_look_number od_Twice_init an_Twice_init od_Sides_init an_Sides_init od__law_draw an__law_draw od__law_pick an__law_pick od_Sides_look_hand an_Sides_look_hand od_Sides_enter an_Sides_enter od__law_odd an__law_odd od_Sides_look_in an_Sides_look_in od_Sides_leave an_Sides_leave od_Sides_read an_Sides_read od_Sides_look_pairs an_Sides_look_pairs od_Sides_put_all an_Sides_put_all od_Sides_begin an_Sides_begin od_Sides_turn an_Sides_turn od_Sides_finish an_Sides_finish od_Sides_hands_on an_Sides_hands_on od__law_did an__law_did od_Twice_look_hand an_Twice_look_hand od_Twice_begin_read an_Twice_begin_read od_Twice_look_cell an_Twice_look_cell od_Twice_take an_Twice_take od_Twice_sure an_Twice_sure od_Twice_put an_Twice_put od_Twice_begin_write an_Twice_begin_write od_Twice_end_write an_Twice_end_write od__law_does an__law_does od__law_refusal an__law_refusal od__law_asked an__law_asked od_Twice_number_now an_Twice_number_now od_law an_law : Option Addr} {sl__law_town sl_is_whole sl_look_number sl_Twice_init sl_Sides_init sl__law_draw sl__law_pick sl_Sides_look_hand sl_Sides_enter sl__law_odd sl_Sides_look_in sl_Sides_leave sl_Sides_read sl_Sides_look_pairs sl_Sides_put_all sl_Sides_begin sl_Sides_turn sl_Sides_finish sl_Sides_hands_on sl__law_did sl_Twice_look_hand sl_Twice_begin_read sl_Twice_look_cell sl_Twice_take sl_Twice_sure sl_Twice_put sl_Twice_begin_write sl_Twice_end_write sl__law_does sl__law_refusal sl__law_asked sl_Twice_number_now sl_law : Array (Option Value)} {oc__law_town kV__law_town dc__law_town pm__law_town cd__law_town ct__law_town oc_is_whole kV_is_whole dc_is_whole pm_is_whole cd_is_whole ct_is_whole oc_look_number kV_look_number dc_look_number pm_look_number cd_look_number ct_look_number oc_Twice_init kV_Twice_init dc_Twice_init pm_Twice_init cd_Twice_init ct_Twice_init oc_Sides_init kV_Sides_init dc_Sides_init pm_Sides_init cd_Sides_init ct_Sides_init oc__law_draw kV__law_draw dc__law_draw pm__law_draw cd__law_draw ct__law_draw oc__law_pick kV__law_pick dc__law_pick pm__law_pick cd__law_pick ct__law_pick oc_Sides_look_hand kV_Sides_look_hand dc_Sides_look_hand pm_Sides_look_hand cd_Sides_look_hand ct_Sides_look_hand oc_Sides_enter kV_Sides_enter dc_Sides_enter pm_Sides_enter cd_Sides_enter ct_Sides_enter oc__law_odd kV__law_odd dc__law_odd pm__law_odd cd__law_odd ct__law_odd oc_Sides_look_in kV_Sides_look_in dc_Sides_look_in pm_Sides_look_in cd_Sides_look_in ct_Sides_look_in oc_Sides_leave kV_Sides_leave dc_Sides_leave pm_Sides_leave cd_Sides_leave ct_Sides_leave oc_Sides_read kV_Sides_read dc_Sides_read pm_Sides_read cd_Sides_read ct_Sides_read oc_Sides_look_pairs kV_Sides_look_pairs dc_Sides_look_pairs pm_Sides_look_pairs cd_Sides_look_pairs ct_Sides_look_pairs oc_Sides_put_all kV_Sides_put_all dc_Sides_put_all pm_Sides_put_all cd_Sides_put_all ct_Sides_put_all oc_Sides_begin kV_Sides_begin dc_Sides_begin pm_Sides_begin cd_Sides_begin ct_Sides_begin oc_Sides_turn kV_Sides_turn dc_Sides_turn pm_Sides_turn cd_Sides_turn ct_Sides_turn oc_Sides_finish kV_Sides_finish dc_Sides_finish pm_Sides_finish cd_Sides_finish ct_Sides_finish oc_Sides_hands_on kV_Sides_hands_on dc_Sides_hands_on pm_Sides_hands_on cd_Sides_hands_on ct_Sides_hands_on oc__law_did kV__law_did dc__law_did pm__law_did cd__law_did ct__law_did oc_Twice_look_hand kV_Twice_look_hand dc_Twice_look_hand pm_Twice_look_hand cd_Twice_look_hand ct_Twice_look_hand oc_Twice_begin_read kV_Twice_begin_read dc_Twice_begin_read pm_Twice_begin_read cd_Twice_begin_read ct_Twice_begin_read oc_Twice_look_cell kV_Twice_look_cell dc_Twice_look_cell pm_Twice_look_cell cd_Twice_look_cell ct_Twice_look_cell oc_Twice_take kV_Twice_take dc_Twice_take pm_Twice_take cd_Twice_take ct_Twice_take oc_Twice_sure kV_Twice_sure dc_Twice_sure pm_Twice_sure cd_Twice_sure ct_Twice_sure oc_Twice_put kV_Twice_put dc_Twice_put pm_Twice_put cd_Twice_put ct_Twice_put oc_Twice_begin_write kV_Twice_begin_write dc_Twice_begin_write pm_Twice_begin_write cd_Twice_begin_write ct_Twice_begin_write oc_Twice_end_write kV_Twice_end_write dc_Twice_end_write pm_Twice_end_write cd_Twice_end_write ct_Twice_end_write oc__law_does kV__law_does dc__law_does pm__law_does cd__law_does ct__law_does oc__law_refusal kV__law_refusal dc__law_refusal pm__law_refusal cd__law_refusal ct__law_refusal oc__law_asked kV__law_asked dc__law_asked pm__law_asked cd__law_asked ct__law_asked oc_Twice_number_now kV_Twice_number_now dc_Twice_number_now pm_Twice_number_now cd_Twice_number_now ct_Twice_number_now oc_law kV_law dc_law pm_law cd_law ct_law : Value}
    {t_MOST_CELLS t_MOST_HANDS t_MOST_VALUE : Tok}
    {td_Twice_init : Addr} {toc_Twice_init : Value} {tod_Twice_init : Option Addr} {tn_Twice_init : Nat} {tsl_Twice_init : Array (Option Value)} {tt_Twice_init_0 : Tok}
    {td_Sides_init : Addr} {toc_Sides_init : Value} {tod_Sides_init : Option Addr} {tn_Sides_init : Nat} {tsl_Sides_init : Array (Option Value)} {tt_Sides_init_0 : Tok}
    (aC_Twice : PySem.W.nsIn K mainGlobals "Twice" = some (some (.ref c_Twice)))
    (aC_Sides : PySem.W.nsIn K mainGlobals "Sides" = some (some (.ref c_Sides)))
    (aC_NoHand : PySem.W.nsIn K mainGlobals "NoHand" = some (some (.ref c_NoHand)))
    (aC_IsIn : PySem.W.nsIn K mainGlobals "IsIn" = some (some (.ref c_IsIn)))
    (aC_NotIn : PySem.W.nsIn K mainGlobals "NotIn" = some (some (.ref c_NotIn)))
    (aC_NoCell : PySem.W.nsIn K mainGlobals "NoCell" = some (some (.ref c_NoCell)))
    (aC_BadPairs : PySem.W.nsIn K mainGlobals "BadPairs" = some (some (.ref c_BadPairs)))
    (aC_NotNow : PySem.W.nsIn K mainGlobals "NotNow" = some (some (.ref c_NotNow)))
    (aC_BadNumber : PySem.W.nsIn K mainGlobals "BadNumber" = some (some (.ref c_BadNumber)))
    (aC_NoMark : PySem.W.nsIn K mainGlobals "NoMark" = some (some (.ref c_NoMark)))
    (aC_Gone : PySem.W.nsIn K mainGlobals "Gone" = some (some (.ref c_Gone)))
    (aC_NotHeld : PySem.W.nsIn K mainGlobals "NotHeld" = some (some (.ref c_NotHeld)))
    (aC_StoreError : PySem.W.nsIn K mainGlobals "StoreError" = some (some (.ref c_StoreError)))
    (pg_Twice : PySem.W.plainGet K c_Twice Str.empty = true)
    (hd_Twice : PySem.W.hasDictIn K c_Twice = true)
    (po_Twice : PySem.W.plainOver K c_Twice = true)
    (sa_Twice : PySem.W.findIn K (.ref c_Twice) "__setattr__" = some (some (.builtin "object.__setattr__")))
    (mk_Twice : PySem.W.makesIn K c_Twice = true)
    (kc_Twice : PySem.W.keepIn K (.ref c_Twice) = true)
    (ai_Twice : PySem.W.findIn K (.ref c_Twice) "__init__" = some (some (.ref f_Twice_init)))
    (ii_Twice : PySem.W.isFn K (.ref f_Twice_init) = true)
    (na_Twice_hands : PySem.W.findIn K (.ref c_Twice) "hands" = some none)
    (na_Twice_cells : PySem.W.findIn K (.ref c_Twice) "cells" = some none)
    (na_Twice_number : PySem.W.findIn K (.ref c_Twice) "number" = some none)
    (na_Twice_first : PySem.W.findIn K (.ref c_Twice) "first" = some none)
    (pg_Sides : PySem.W.plainGet K c_Sides Str.empty = true)
    (hd_Sides : PySem.W.hasDictIn K c_Sides = true)
    (po_Sides : PySem.W.plainOver K c_Sides = true)
    (sa_Sides : PySem.W.findIn K (.ref c_Sides) "__setattr__" = some (some (.builtin "object.__setattr__")))
    (mk_Sides : PySem.W.makesIn K c_Sides = true)
    (kc_Sides : PySem.W.keepIn K (.ref c_Sides) = true)
    (ai_Sides : PySem.W.findIn K (.ref c_Sides) "__init__" = some (some (.ref f_Sides_init)))
    (ii_Sides : PySem.W.isFn K (.ref f_Sides_init) = true)
    (na_Sides_hands : PySem.W.findIn K (.ref c_Sides) "hands" = some none)
    (na_Sides_sides : PySem.W.findIn K (.ref c_Sides) "sides" = some none)
    (na_Sides_open_side : PySem.W.findIn K (.ref c_Sides) "open_side" = some none)
    (na_Sides_where : PySem.W.findIn K (.ref c_Sides) "where" = some none)
    (na_Sides_under_way : PySem.W.findIn K (.ref c_Sides) "under_way" = some none)
    (na_Sides_far : PySem.W.findIn K (.ref c_Sides) "far" = some none)
    (xi_NoHand : PySem.W.excIn K c_NoHand [.type "ValueError", .type "Exception", .type "BaseException", .type "object"] "ValueError.__new__" = true)
    (kp_NoHand : PySem.W.keepIn K (.ref c_NoHand) = true)
    (sb_NoHand : PySem.W.subIn K (.ref c_NoHand) (.type "BaseException") = some true)
    (ty_NoHand : PySem.W.typeIn K (.ref c_NoHand) = some (.type "type"))
    (em_NoHand : PySem.W.exmOne K (.ref c_NoHand) (.ref c_StoreError) = some true)
    (e1_NoHand : PySem.W.findIn K (.ref c_NoHand) "__getattribute__" = some (some (.builtin "BaseException.__getattribute__")))
    (e2_NoHand : PySem.W.findIn K (.ref c_NoHand) "__getattr__" = some none)
    (e4_NoHand : PySem.W.hasDictIn K c_NoHand = true)
    (e5_NoHand : PySem.W.findIn K (.ref c_NoHand) "__class__" = some (some (.builtin "object.__class__")))
    (e6_NoHand : PySem.W.specialIn K (.builtin "object.__class__") "__get__" = some (some (.builtin "getset_descriptor.__get__")))
    (e7_NoHand : PySem.W.takesIn K (.builtin "object.__class__") = some true)
    (e8_NoHand : PySem.W.mroIn K c_NoHand (.type "object") = some true)
    (ki_NoHand_BadNumber : PySem.W.kitOne K (.ref c_NoHand) (.ref c_BadNumber) = some false)
    (ki_NoHand_NoHand : PySem.W.kitOne K (.ref c_NoHand) (.ref c_NoHand) = some true)
    (ki_NoHand_NoCell : PySem.W.kitOne K (.ref c_NoHand) (.ref c_NoCell) = some false)
    (ki_NoHand_NoMark : PySem.W.kitOne K (.ref c_NoHand) (.ref c_NoMark) = some false)
    (ki_NoHand_IsIn : PySem.W.kitOne K (.ref c_NoHand) (.ref c_IsIn) = some false)
    (ki_NoHand_NotIn : PySem.W.kitOne K (.ref c_NoHand) (.ref c_NotIn) = some false)
    (ki_NoHand_NotHeld : PySem.W.kitOne K (.ref c_NoHand) (.ref c_NotHeld) = some false)
    (ki_NoHand_Gone : PySem.W.kitOne K (.ref c_NoHand) (.ref c_Gone) = some false)
    (ki_NoHand_BadPairs : PySem.W.kitOne K (.ref c_NoHand) (.ref c_BadPairs) = some false)
    (ki_NoHand_NotNow : PySem.W.kitOne K (.ref c_NoHand) (.ref c_NotNow) = some false)
    (ki_NoHand_StoreError : PySem.W.kitOne K (.ref c_NoHand) (.ref c_StoreError) = some true)
    (kv_NoHand : PySem.W.kitOne K (.ref c_NoHand) (.type "ValueError") = some true)
    (xi_IsIn : PySem.W.excIn K c_IsIn [.type "ValueError", .type "Exception", .type "BaseException", .type "object"] "ValueError.__new__" = true)
    (kp_IsIn : PySem.W.keepIn K (.ref c_IsIn) = true)
    (sb_IsIn : PySem.W.subIn K (.ref c_IsIn) (.type "BaseException") = some true)
    (ty_IsIn : PySem.W.typeIn K (.ref c_IsIn) = some (.type "type"))
    (em_IsIn : PySem.W.exmOne K (.ref c_IsIn) (.ref c_StoreError) = some true)
    (e1_IsIn : PySem.W.findIn K (.ref c_IsIn) "__getattribute__" = some (some (.builtin "BaseException.__getattribute__")))
    (e2_IsIn : PySem.W.findIn K (.ref c_IsIn) "__getattr__" = some none)
    (e4_IsIn : PySem.W.hasDictIn K c_IsIn = true)
    (e5_IsIn : PySem.W.findIn K (.ref c_IsIn) "__class__" = some (some (.builtin "object.__class__")))
    (e6_IsIn : PySem.W.specialIn K (.builtin "object.__class__") "__get__" = some (some (.builtin "getset_descriptor.__get__")))
    (e7_IsIn : PySem.W.takesIn K (.builtin "object.__class__") = some true)
    (e8_IsIn : PySem.W.mroIn K c_IsIn (.type "object") = some true)
    (ki_IsIn_BadNumber : PySem.W.kitOne K (.ref c_IsIn) (.ref c_BadNumber) = some false)
    (ki_IsIn_NoHand : PySem.W.kitOne K (.ref c_IsIn) (.ref c_NoHand) = some false)
    (ki_IsIn_NoCell : PySem.W.kitOne K (.ref c_IsIn) (.ref c_NoCell) = some false)
    (ki_IsIn_NoMark : PySem.W.kitOne K (.ref c_IsIn) (.ref c_NoMark) = some false)
    (ki_IsIn_IsIn : PySem.W.kitOne K (.ref c_IsIn) (.ref c_IsIn) = some true)
    (ki_IsIn_NotIn : PySem.W.kitOne K (.ref c_IsIn) (.ref c_NotIn) = some false)
    (ki_IsIn_NotHeld : PySem.W.kitOne K (.ref c_IsIn) (.ref c_NotHeld) = some false)
    (ki_IsIn_Gone : PySem.W.kitOne K (.ref c_IsIn) (.ref c_Gone) = some false)
    (ki_IsIn_BadPairs : PySem.W.kitOne K (.ref c_IsIn) (.ref c_BadPairs) = some false)
    (ki_IsIn_NotNow : PySem.W.kitOne K (.ref c_IsIn) (.ref c_NotNow) = some false)
    (ki_IsIn_StoreError : PySem.W.kitOne K (.ref c_IsIn) (.ref c_StoreError) = some true)
    (kv_IsIn : PySem.W.kitOne K (.ref c_IsIn) (.type "ValueError") = some true)
    (xi_NotIn : PySem.W.excIn K c_NotIn [.type "ValueError", .type "Exception", .type "BaseException", .type "object"] "ValueError.__new__" = true)
    (kp_NotIn : PySem.W.keepIn K (.ref c_NotIn) = true)
    (sb_NotIn : PySem.W.subIn K (.ref c_NotIn) (.type "BaseException") = some true)
    (ty_NotIn : PySem.W.typeIn K (.ref c_NotIn) = some (.type "type"))
    (em_NotIn : PySem.W.exmOne K (.ref c_NotIn) (.ref c_StoreError) = some true)
    (e1_NotIn : PySem.W.findIn K (.ref c_NotIn) "__getattribute__" = some (some (.builtin "BaseException.__getattribute__")))
    (e2_NotIn : PySem.W.findIn K (.ref c_NotIn) "__getattr__" = some none)
    (e4_NotIn : PySem.W.hasDictIn K c_NotIn = true)
    (e5_NotIn : PySem.W.findIn K (.ref c_NotIn) "__class__" = some (some (.builtin "object.__class__")))
    (e6_NotIn : PySem.W.specialIn K (.builtin "object.__class__") "__get__" = some (some (.builtin "getset_descriptor.__get__")))
    (e7_NotIn : PySem.W.takesIn K (.builtin "object.__class__") = some true)
    (e8_NotIn : PySem.W.mroIn K c_NotIn (.type "object") = some true)
    (ki_NotIn_BadNumber : PySem.W.kitOne K (.ref c_NotIn) (.ref c_BadNumber) = some false)
    (ki_NotIn_NoHand : PySem.W.kitOne K (.ref c_NotIn) (.ref c_NoHand) = some false)
    (ki_NotIn_NoCell : PySem.W.kitOne K (.ref c_NotIn) (.ref c_NoCell) = some false)
    (ki_NotIn_NoMark : PySem.W.kitOne K (.ref c_NotIn) (.ref c_NoMark) = some false)
    (ki_NotIn_IsIn : PySem.W.kitOne K (.ref c_NotIn) (.ref c_IsIn) = some false)
    (ki_NotIn_NotIn : PySem.W.kitOne K (.ref c_NotIn) (.ref c_NotIn) = some true)
    (ki_NotIn_NotHeld : PySem.W.kitOne K (.ref c_NotIn) (.ref c_NotHeld) = some false)
    (ki_NotIn_Gone : PySem.W.kitOne K (.ref c_NotIn) (.ref c_Gone) = some false)
    (ki_NotIn_BadPairs : PySem.W.kitOne K (.ref c_NotIn) (.ref c_BadPairs) = some false)
    (ki_NotIn_NotNow : PySem.W.kitOne K (.ref c_NotIn) (.ref c_NotNow) = some false)
    (ki_NotIn_StoreError : PySem.W.kitOne K (.ref c_NotIn) (.ref c_StoreError) = some true)
    (kv_NotIn : PySem.W.kitOne K (.ref c_NotIn) (.type "ValueError") = some true)
    (xi_NoCell : PySem.W.excIn K c_NoCell [.type "ValueError", .type "Exception", .type "BaseException", .type "object"] "ValueError.__new__" = true)
    (kp_NoCell : PySem.W.keepIn K (.ref c_NoCell) = true)
    (sb_NoCell : PySem.W.subIn K (.ref c_NoCell) (.type "BaseException") = some true)
    (ty_NoCell : PySem.W.typeIn K (.ref c_NoCell) = some (.type "type"))
    (em_NoCell : PySem.W.exmOne K (.ref c_NoCell) (.ref c_StoreError) = some true)
    (e1_NoCell : PySem.W.findIn K (.ref c_NoCell) "__getattribute__" = some (some (.builtin "BaseException.__getattribute__")))
    (e2_NoCell : PySem.W.findIn K (.ref c_NoCell) "__getattr__" = some none)
    (e4_NoCell : PySem.W.hasDictIn K c_NoCell = true)
    (e5_NoCell : PySem.W.findIn K (.ref c_NoCell) "__class__" = some (some (.builtin "object.__class__")))
    (e6_NoCell : PySem.W.specialIn K (.builtin "object.__class__") "__get__" = some (some (.builtin "getset_descriptor.__get__")))
    (e7_NoCell : PySem.W.takesIn K (.builtin "object.__class__") = some true)
    (e8_NoCell : PySem.W.mroIn K c_NoCell (.type "object") = some true)
    (ki_NoCell_BadNumber : PySem.W.kitOne K (.ref c_NoCell) (.ref c_BadNumber) = some false)
    (ki_NoCell_NoHand : PySem.W.kitOne K (.ref c_NoCell) (.ref c_NoHand) = some false)
    (ki_NoCell_NoCell : PySem.W.kitOne K (.ref c_NoCell) (.ref c_NoCell) = some true)
    (ki_NoCell_NoMark : PySem.W.kitOne K (.ref c_NoCell) (.ref c_NoMark) = some false)
    (ki_NoCell_IsIn : PySem.W.kitOne K (.ref c_NoCell) (.ref c_IsIn) = some false)
    (ki_NoCell_NotIn : PySem.W.kitOne K (.ref c_NoCell) (.ref c_NotIn) = some false)
    (ki_NoCell_NotHeld : PySem.W.kitOne K (.ref c_NoCell) (.ref c_NotHeld) = some false)
    (ki_NoCell_Gone : PySem.W.kitOne K (.ref c_NoCell) (.ref c_Gone) = some false)
    (ki_NoCell_BadPairs : PySem.W.kitOne K (.ref c_NoCell) (.ref c_BadPairs) = some false)
    (ki_NoCell_NotNow : PySem.W.kitOne K (.ref c_NoCell) (.ref c_NotNow) = some false)
    (ki_NoCell_StoreError : PySem.W.kitOne K (.ref c_NoCell) (.ref c_StoreError) = some true)
    (kv_NoCell : PySem.W.kitOne K (.ref c_NoCell) (.type "ValueError") = some true)
    (xi_BadPairs : PySem.W.excIn K c_BadPairs [.type "ValueError", .type "Exception", .type "BaseException", .type "object"] "ValueError.__new__" = true)
    (kp_BadPairs : PySem.W.keepIn K (.ref c_BadPairs) = true)
    (sb_BadPairs : PySem.W.subIn K (.ref c_BadPairs) (.type "BaseException") = some true)
    (ty_BadPairs : PySem.W.typeIn K (.ref c_BadPairs) = some (.type "type"))
    (em_BadPairs : PySem.W.exmOne K (.ref c_BadPairs) (.ref c_StoreError) = some true)
    (e1_BadPairs : PySem.W.findIn K (.ref c_BadPairs) "__getattribute__" = some (some (.builtin "BaseException.__getattribute__")))
    (e2_BadPairs : PySem.W.findIn K (.ref c_BadPairs) "__getattr__" = some none)
    (e4_BadPairs : PySem.W.hasDictIn K c_BadPairs = true)
    (e5_BadPairs : PySem.W.findIn K (.ref c_BadPairs) "__class__" = some (some (.builtin "object.__class__")))
    (e6_BadPairs : PySem.W.specialIn K (.builtin "object.__class__") "__get__" = some (some (.builtin "getset_descriptor.__get__")))
    (e7_BadPairs : PySem.W.takesIn K (.builtin "object.__class__") = some true)
    (e8_BadPairs : PySem.W.mroIn K c_BadPairs (.type "object") = some true)
    (ki_BadPairs_BadNumber : PySem.W.kitOne K (.ref c_BadPairs) (.ref c_BadNumber) = some false)
    (ki_BadPairs_NoHand : PySem.W.kitOne K (.ref c_BadPairs) (.ref c_NoHand) = some false)
    (ki_BadPairs_NoCell : PySem.W.kitOne K (.ref c_BadPairs) (.ref c_NoCell) = some false)
    (ki_BadPairs_NoMark : PySem.W.kitOne K (.ref c_BadPairs) (.ref c_NoMark) = some false)
    (ki_BadPairs_IsIn : PySem.W.kitOne K (.ref c_BadPairs) (.ref c_IsIn) = some false)
    (ki_BadPairs_NotIn : PySem.W.kitOne K (.ref c_BadPairs) (.ref c_NotIn) = some false)
    (ki_BadPairs_NotHeld : PySem.W.kitOne K (.ref c_BadPairs) (.ref c_NotHeld) = some false)
    (ki_BadPairs_Gone : PySem.W.kitOne K (.ref c_BadPairs) (.ref c_Gone) = some false)
    (ki_BadPairs_BadPairs : PySem.W.kitOne K (.ref c_BadPairs) (.ref c_BadPairs) = some true)
    (ki_BadPairs_NotNow : PySem.W.kitOne K (.ref c_BadPairs) (.ref c_NotNow) = some false)
    (ki_BadPairs_StoreError : PySem.W.kitOne K (.ref c_BadPairs) (.ref c_StoreError) = some true)
    (kv_BadPairs : PySem.W.kitOne K (.ref c_BadPairs) (.type "ValueError") = some true)
    (xi_NotNow : PySem.W.excIn K c_NotNow [.type "ValueError", .type "Exception", .type "BaseException", .type "object"] "ValueError.__new__" = true)
    (kp_NotNow : PySem.W.keepIn K (.ref c_NotNow) = true)
    (sb_NotNow : PySem.W.subIn K (.ref c_NotNow) (.type "BaseException") = some true)
    (ty_NotNow : PySem.W.typeIn K (.ref c_NotNow) = some (.type "type"))
    (em_NotNow : PySem.W.exmOne K (.ref c_NotNow) (.ref c_StoreError) = some true)
    (e1_NotNow : PySem.W.findIn K (.ref c_NotNow) "__getattribute__" = some (some (.builtin "BaseException.__getattribute__")))
    (e2_NotNow : PySem.W.findIn K (.ref c_NotNow) "__getattr__" = some none)
    (e4_NotNow : PySem.W.hasDictIn K c_NotNow = true)
    (e5_NotNow : PySem.W.findIn K (.ref c_NotNow) "__class__" = some (some (.builtin "object.__class__")))
    (e6_NotNow : PySem.W.specialIn K (.builtin "object.__class__") "__get__" = some (some (.builtin "getset_descriptor.__get__")))
    (e7_NotNow : PySem.W.takesIn K (.builtin "object.__class__") = some true)
    (e8_NotNow : PySem.W.mroIn K c_NotNow (.type "object") = some true)
    (ki_NotNow_BadNumber : PySem.W.kitOne K (.ref c_NotNow) (.ref c_BadNumber) = some false)
    (ki_NotNow_NoHand : PySem.W.kitOne K (.ref c_NotNow) (.ref c_NoHand) = some false)
    (ki_NotNow_NoCell : PySem.W.kitOne K (.ref c_NotNow) (.ref c_NoCell) = some false)
    (ki_NotNow_NoMark : PySem.W.kitOne K (.ref c_NotNow) (.ref c_NoMark) = some false)
    (ki_NotNow_IsIn : PySem.W.kitOne K (.ref c_NotNow) (.ref c_IsIn) = some false)
    (ki_NotNow_NotIn : PySem.W.kitOne K (.ref c_NotNow) (.ref c_NotIn) = some false)
    (ki_NotNow_NotHeld : PySem.W.kitOne K (.ref c_NotNow) (.ref c_NotHeld) = some false)
    (ki_NotNow_Gone : PySem.W.kitOne K (.ref c_NotNow) (.ref c_Gone) = some false)
    (ki_NotNow_BadPairs : PySem.W.kitOne K (.ref c_NotNow) (.ref c_BadPairs) = some false)
    (ki_NotNow_NotNow : PySem.W.kitOne K (.ref c_NotNow) (.ref c_NotNow) = some true)
    (ki_NotNow_StoreError : PySem.W.kitOne K (.ref c_NotNow) (.ref c_StoreError) = some true)
    (kv_NotNow : PySem.W.kitOne K (.ref c_NotNow) (.type "ValueError") = some true)
    (xi_BadNumber : PySem.W.excIn K c_BadNumber [.type "ValueError", .type "Exception", .type "BaseException", .type "object"] "ValueError.__new__" = true)
    (kp_BadNumber : PySem.W.keepIn K (.ref c_BadNumber) = true)
    (sb_BadNumber : PySem.W.subIn K (.ref c_BadNumber) (.type "BaseException") = some true)
    (ty_BadNumber : PySem.W.typeIn K (.ref c_BadNumber) = some (.type "type"))
    (em_BadNumber : PySem.W.exmOne K (.ref c_BadNumber) (.ref c_StoreError) = some true)
    (e1_BadNumber : PySem.W.findIn K (.ref c_BadNumber) "__getattribute__" = some (some (.builtin "BaseException.__getattribute__")))
    (e2_BadNumber : PySem.W.findIn K (.ref c_BadNumber) "__getattr__" = some none)
    (e4_BadNumber : PySem.W.hasDictIn K c_BadNumber = true)
    (e5_BadNumber : PySem.W.findIn K (.ref c_BadNumber) "__class__" = some (some (.builtin "object.__class__")))
    (e6_BadNumber : PySem.W.specialIn K (.builtin "object.__class__") "__get__" = some (some (.builtin "getset_descriptor.__get__")))
    (e7_BadNumber : PySem.W.takesIn K (.builtin "object.__class__") = some true)
    (e8_BadNumber : PySem.W.mroIn K c_BadNumber (.type "object") = some true)
    (ki_BadNumber_BadNumber : PySem.W.kitOne K (.ref c_BadNumber) (.ref c_BadNumber) = some true)
    (ki_BadNumber_NoHand : PySem.W.kitOne K (.ref c_BadNumber) (.ref c_NoHand) = some false)
    (ki_BadNumber_NoCell : PySem.W.kitOne K (.ref c_BadNumber) (.ref c_NoCell) = some false)
    (ki_BadNumber_NoMark : PySem.W.kitOne K (.ref c_BadNumber) (.ref c_NoMark) = some false)
    (ki_BadNumber_IsIn : PySem.W.kitOne K (.ref c_BadNumber) (.ref c_IsIn) = some false)
    (ki_BadNumber_NotIn : PySem.W.kitOne K (.ref c_BadNumber) (.ref c_NotIn) = some false)
    (ki_BadNumber_NotHeld : PySem.W.kitOne K (.ref c_BadNumber) (.ref c_NotHeld) = some false)
    (ki_BadNumber_Gone : PySem.W.kitOne K (.ref c_BadNumber) (.ref c_Gone) = some false)
    (ki_BadNumber_BadPairs : PySem.W.kitOne K (.ref c_BadNumber) (.ref c_BadPairs) = some false)
    (ki_BadNumber_NotNow : PySem.W.kitOne K (.ref c_BadNumber) (.ref c_NotNow) = some false)
    (ki_BadNumber_StoreError : PySem.W.kitOne K (.ref c_BadNumber) (.ref c_StoreError) = some true)
    (kv_BadNumber : PySem.W.kitOne K (.ref c_BadNumber) (.type "ValueError") = some true)
    (ko_Sides_Sides : PySem.W.kitOne K (.ref c_Sides) (.ref c_Sides) = some true)
    (ko_Twice_Sides : PySem.W.kitOne K (.ref c_Twice) (.ref c_Sides) = some false)
    (ih_Sides : PySem.W.findIn K (.ref c_Sides) "__class__" = some (some (.builtin "object.__class__")))
    (io_Sides : PySem.W.mroIn K c_Sides (.type "object") = some true)
    (ih_Twice : PySem.W.findIn K (.ref c_Twice) "__class__" = some (some (.builtin "object.__class__")))
    (io_Twice : PySem.W.mroIn K c_Twice (.type "object") = some true)
    (ig_get : PySem.W.specialIn K (.builtin "object.__class__") "__get__" = some (some (.builtin "getset_descriptor.__get__")))
    (ig_tk : PySem.W.takesIn K (.builtin "object.__class__") = some true)
    (am_Sides_look_hand : PySem.W.findIn K (.ref c_Sides) "look_hand" = some (some (.ref f_Sides_look_hand)))
    (am_Sides_enter : PySem.W.findIn K (.ref c_Sides) "enter" = some (some (.ref f_Sides_enter)))
    (am_Sides_look_in : PySem.W.findIn K (.ref c_Sides) "look_in" = some (some (.ref f_Sides_look_in)))
    (am_Sides_leave : PySem.W.findIn K (.ref c_Sides) "leave" = some (some (.ref f_Sides_leave)))
    (am_Sides_read : PySem.W.findIn K (.ref c_Sides) "read" = some (some (.ref f_Sides_read)))
    (am_Sides_look_pairs : PySem.W.findIn K (.ref c_Sides) "look_pairs" = some (some (.ref f_Sides_look_pairs)))
    (am_Sides_put_all : PySem.W.findIn K (.ref c_Sides) "put_all" = some (some (.ref f_Sides_put_all)))
    (am_Sides_begin : PySem.W.findIn K (.ref c_Sides) "begin" = some (some (.ref f_Sides_begin)))
    (am_Sides_turn : PySem.W.findIn K (.ref c_Sides) "turn" = some (some (.ref f_Sides_turn)))
    (am_Sides_finish : PySem.W.findIn K (.ref c_Sides) "finish" = some (some (.ref f_Sides_finish)))
    (am_Sides_hands_on : PySem.W.findIn K (.ref c_Sides) "hands_on" = some (some (.ref f_Sides_hands_on)))
    (am_Twice_look_hand : PySem.W.findIn K (.ref c_Twice) "look_hand" = some (some (.ref f_Twice_look_hand)))
    (am_Twice_begin_read : PySem.W.findIn K (.ref c_Twice) "begin_read" = some (some (.ref f_Twice_begin_read)))
    (am_Twice_look_cell : PySem.W.findIn K (.ref c_Twice) "look_cell" = some (some (.ref f_Twice_look_cell)))
    (am_Twice_take : PySem.W.findIn K (.ref c_Twice) "take" = some (some (.ref f_Twice_take)))
    (am_Twice_sure : PySem.W.findIn K (.ref c_Twice) "sure" = some (some (.ref f_Twice_sure)))
    (am_Twice_put : PySem.W.findIn K (.ref c_Twice) "put" = some (some (.ref f_Twice_put)))
    (am_Twice_begin_write : PySem.W.findIn K (.ref c_Twice) "begin_write" = some (some (.ref f_Twice_begin_write)))
    (am_Twice_end_write : PySem.W.findIn K (.ref c_Twice) "end_write" = some (some (.ref f_Twice_end_write)))
    (am_Twice_number_now : PySem.W.findIn K (.ref c_Twice) "number_now" = some (some (.ref f_Twice_number_now)))
    (im_Sides_look_hand : PySem.W.isFn K (.ref f_Sides_look_hand) = true)
    (im_Sides_enter : PySem.W.isFn K (.ref f_Sides_enter) = true)
    (im_Sides_look_in : PySem.W.isFn K (.ref f_Sides_look_in) = true)
    (im_Sides_leave : PySem.W.isFn K (.ref f_Sides_leave) = true)
    (im_Sides_read : PySem.W.isFn K (.ref f_Sides_read) = true)
    (im_Sides_look_pairs : PySem.W.isFn K (.ref f_Sides_look_pairs) = true)
    (im_Sides_put_all : PySem.W.isFn K (.ref f_Sides_put_all) = true)
    (im_Sides_begin : PySem.W.isFn K (.ref f_Sides_begin) = true)
    (im_Sides_turn : PySem.W.isFn K (.ref f_Sides_turn) = true)
    (im_Sides_finish : PySem.W.isFn K (.ref f_Sides_finish) = true)
    (im_Sides_hands_on : PySem.W.isFn K (.ref f_Sides_hands_on) = true)
    (im_Twice_look_hand : PySem.W.isFn K (.ref f_Twice_look_hand) = true)
    (im_Twice_begin_read : PySem.W.isFn K (.ref f_Twice_begin_read) = true)
    (im_Twice_look_cell : PySem.W.isFn K (.ref f_Twice_look_cell) = true)
    (im_Twice_take : PySem.W.isFn K (.ref f_Twice_take) = true)
    (im_Twice_sure : PySem.W.isFn K (.ref f_Twice_sure) = true)
    (im_Twice_put : PySem.W.isFn K (.ref f_Twice_put) = true)
    (im_Twice_begin_write : PySem.W.isFn K (.ref f_Twice_begin_write) = true)
    (im_Twice_end_write : PySem.W.isFn K (.ref f_Twice_end_write) = true)
    (im_Twice_number_now : PySem.W.isFn K (.ref f_Twice_number_now) = true)
    (a__law_town : PySem.W.nsIn K mainGlobals "_law_town" = some (some (.ref f__law_town)))
    (l__law_town : K.lookup f__law_town = some ⟨oc__law_town, od__law_town, .func (PySem.W.fnOf "_law_town" "_law_town" (defArgs s__law_town) (defBody s__law_town) (defScope s__law_town) .none kV__law_town dc__law_town pm__law_town an__law_town cd__law_town ct__law_town), sl__law_town⟩)
    (c__law_town : PySem.W.codeIn K cd__law_town "_law_town" = true)
    (k__law_town : PySem.W.keepIn K (.ref f__law_town) = true)
    (a_is_whole : PySem.W.nsIn K mainGlobals "is_whole" = some (some (.ref f_is_whole)))
    (l_is_whole : K.lookup f_is_whole = some ⟨oc_is_whole, od_is_whole, .func (PySem.W.fnOf "is_whole" "is_whole" (defArgs s_is_whole) (defBody s_is_whole) (defScope s_is_whole) .none kV_is_whole dc_is_whole pm_is_whole an_is_whole cd_is_whole ct_is_whole), sl_is_whole⟩)
    (c_is_whole : PySem.W.codeIn K cd_is_whole "is_whole" = true)
    (k_is_whole : PySem.W.keepIn K (.ref f_is_whole) = true)
    (a_look_number : PySem.W.nsIn K mainGlobals "look_number" = some (some (.ref f_look_number)))
    (l_look_number : K.lookup f_look_number = some ⟨oc_look_number, od_look_number, .func (PySem.W.fnOf "look_number" "look_number" (defArgs s_look_number) (defBody s_look_number) (defScope s_look_number) .none kV_look_number dc_look_number pm_look_number an_look_number cd_look_number ct_look_number), sl_look_number⟩)
    (c_look_number : PySem.W.codeIn K cd_look_number "look_number" = true)
    (k_look_number : PySem.W.keepIn K (.ref f_look_number) = true)
    (l_Twice_init : K.lookup f_Twice_init = some ⟨oc_Twice_init, od_Twice_init, .func (PySem.W.fnOf "__init__" "Twice.__init__" (defArgs s_Twice_init) (defBody s_Twice_init) (defScope s_Twice_init) (.ref td_Twice_init) kV_Twice_init dc_Twice_init pm_Twice_init an_Twice_init cd_Twice_init ct_Twice_init), sl_Twice_init⟩)
    (lt_Twice_init : K.lookup td_Twice_init = some ⟨toc_Twice_init, tod_Twice_init, .seq #[.int 3 tt_Twice_init_0] tn_Twice_init, tsl_Twice_init⟩)
    (c_Twice_init : PySem.W.codeIn K cd_Twice_init "Twice.__init__" = true)
    (k_Twice_init : PySem.W.keepIn K (.ref f_Twice_init) = true)
    (l_Sides_init : K.lookup f_Sides_init = some ⟨oc_Sides_init, od_Sides_init, .func (PySem.W.fnOf "__init__" "Sides.__init__" (defArgs s_Sides_init) (defBody s_Sides_init) (defScope s_Sides_init) (.ref td_Sides_init) kV_Sides_init dc_Sides_init pm_Sides_init an_Sides_init cd_Sides_init ct_Sides_init), sl_Sides_init⟩)
    (lt_Sides_init : K.lookup td_Sides_init = some ⟨toc_Sides_init, tod_Sides_init, .seq #[.int 3 tt_Sides_init_0] tn_Sides_init, tsl_Sides_init⟩)
    (c_Sides_init : PySem.W.codeIn K cd_Sides_init "Sides.__init__" = true)
    (k_Sides_init : PySem.W.keepIn K (.ref f_Sides_init) = true)
    (a__law_draw : PySem.W.nsIn K mainGlobals "_law_draw" = some (some (.ref f__law_draw)))
    (l__law_draw : K.lookup f__law_draw = some ⟨oc__law_draw, od__law_draw, .func (PySem.W.fnOf "_law_draw" "_law_draw" (defArgs s__law_draw) (defBody s__law_draw) (defScope s__law_draw) .none kV__law_draw dc__law_draw pm__law_draw an__law_draw cd__law_draw ct__law_draw), sl__law_draw⟩)
    (c__law_draw : PySem.W.codeIn K cd__law_draw "_law_draw" = true)
    (k__law_draw : PySem.W.keepIn K (.ref f__law_draw) = true)
    (a__law_pick : PySem.W.nsIn K mainGlobals "_law_pick" = some (some (.ref f__law_pick)))
    (l__law_pick : K.lookup f__law_pick = some ⟨oc__law_pick, od__law_pick, .func (PySem.W.fnOf "_law_pick" "_law_pick" (defArgs s__law_pick) (defBody s__law_pick) (defScope s__law_pick) .none kV__law_pick dc__law_pick pm__law_pick an__law_pick cd__law_pick ct__law_pick), sl__law_pick⟩)
    (c__law_pick : PySem.W.codeIn K cd__law_pick "_law_pick" = true)
    (k__law_pick : PySem.W.keepIn K (.ref f__law_pick) = true)
    (l_Sides_look_hand : K.lookup f_Sides_look_hand = some ⟨oc_Sides_look_hand, od_Sides_look_hand, .func (PySem.W.fnOf "look_hand" "Sides.look_hand" (defArgs s_Sides_look_hand) (defBody s_Sides_look_hand) (defScope s_Sides_look_hand) .none kV_Sides_look_hand dc_Sides_look_hand pm_Sides_look_hand an_Sides_look_hand cd_Sides_look_hand ct_Sides_look_hand), sl_Sides_look_hand⟩)
    (c_Sides_look_hand : PySem.W.codeIn K cd_Sides_look_hand "Sides.look_hand" = true)
    (k_Sides_look_hand : PySem.W.keepIn K (.ref f_Sides_look_hand) = true)
    (l_Sides_enter : K.lookup f_Sides_enter = some ⟨oc_Sides_enter, od_Sides_enter, .func (PySem.W.fnOf "enter" "Sides.enter" (defArgs s_Sides_enter) (defBody s_Sides_enter) (defScope s_Sides_enter) .none kV_Sides_enter dc_Sides_enter pm_Sides_enter an_Sides_enter cd_Sides_enter ct_Sides_enter), sl_Sides_enter⟩)
    (c_Sides_enter : PySem.W.codeIn K cd_Sides_enter "Sides.enter" = true)
    (k_Sides_enter : PySem.W.keepIn K (.ref f_Sides_enter) = true)
    (a__law_odd : PySem.W.nsIn K mainGlobals "_law_odd" = some (some (.ref f__law_odd)))
    (l__law_odd : K.lookup f__law_odd = some ⟨oc__law_odd, od__law_odd, .func (PySem.W.fnOf "_law_odd" "_law_odd" (defArgs s__law_odd) (defBody s__law_odd) (defScope s__law_odd) .none kV__law_odd dc__law_odd pm__law_odd an__law_odd cd__law_odd ct__law_odd), sl__law_odd⟩)
    (c__law_odd : PySem.W.codeIn K cd__law_odd "_law_odd" = true)
    (k__law_odd : PySem.W.keepIn K (.ref f__law_odd) = true)
    (l_Sides_look_in : K.lookup f_Sides_look_in = some ⟨oc_Sides_look_in, od_Sides_look_in, .func (PySem.W.fnOf "look_in" "Sides.look_in" (defArgs s_Sides_look_in) (defBody s_Sides_look_in) (defScope s_Sides_look_in) .none kV_Sides_look_in dc_Sides_look_in pm_Sides_look_in an_Sides_look_in cd_Sides_look_in ct_Sides_look_in), sl_Sides_look_in⟩)
    (c_Sides_look_in : PySem.W.codeIn K cd_Sides_look_in "Sides.look_in" = true)
    (k_Sides_look_in : PySem.W.keepIn K (.ref f_Sides_look_in) = true)
    (l_Sides_leave : K.lookup f_Sides_leave = some ⟨oc_Sides_leave, od_Sides_leave, .func (PySem.W.fnOf "leave" "Sides.leave" (defArgs s_Sides_leave) (defBody s_Sides_leave) (defScope s_Sides_leave) .none kV_Sides_leave dc_Sides_leave pm_Sides_leave an_Sides_leave cd_Sides_leave ct_Sides_leave), sl_Sides_leave⟩)
    (c_Sides_leave : PySem.W.codeIn K cd_Sides_leave "Sides.leave" = true)
    (k_Sides_leave : PySem.W.keepIn K (.ref f_Sides_leave) = true)
    (l_Sides_read : K.lookup f_Sides_read = some ⟨oc_Sides_read, od_Sides_read, .func (PySem.W.fnOf "read" "Sides.read" (defArgs s_Sides_read) (defBody s_Sides_read) (defScope s_Sides_read) .none kV_Sides_read dc_Sides_read pm_Sides_read an_Sides_read cd_Sides_read ct_Sides_read), sl_Sides_read⟩)
    (c_Sides_read : PySem.W.codeIn K cd_Sides_read "Sides.read" = true)
    (k_Sides_read : PySem.W.keepIn K (.ref f_Sides_read) = true)
    (l_Sides_look_pairs : K.lookup f_Sides_look_pairs = some ⟨oc_Sides_look_pairs, od_Sides_look_pairs, .func (PySem.W.fnOf "look_pairs" "Sides.look_pairs" (defArgs s_Sides_look_pairs) (defBody s_Sides_look_pairs) (defScope s_Sides_look_pairs) .none kV_Sides_look_pairs dc_Sides_look_pairs pm_Sides_look_pairs an_Sides_look_pairs cd_Sides_look_pairs ct_Sides_look_pairs), sl_Sides_look_pairs⟩)
    (c_Sides_look_pairs : PySem.W.codeIn K cd_Sides_look_pairs "Sides.look_pairs" = true)
    (k_Sides_look_pairs : PySem.W.keepIn K (.ref f_Sides_look_pairs) = true)
    (l_Sides_put_all : K.lookup f_Sides_put_all = some ⟨oc_Sides_put_all, od_Sides_put_all, .func (PySem.W.fnOf "put_all" "Sides.put_all" (defArgs s_Sides_put_all) (defBody s_Sides_put_all) (defScope s_Sides_put_all) .none kV_Sides_put_all dc_Sides_put_all pm_Sides_put_all an_Sides_put_all cd_Sides_put_all ct_Sides_put_all), sl_Sides_put_all⟩)
    (c_Sides_put_all : PySem.W.codeIn K cd_Sides_put_all "Sides.put_all" = true)
    (k_Sides_put_all : PySem.W.keepIn K (.ref f_Sides_put_all) = true)
    (l_Sides_begin : K.lookup f_Sides_begin = some ⟨oc_Sides_begin, od_Sides_begin, .func (PySem.W.fnOf "begin" "Sides.begin" (defArgs s_Sides_begin) (defBody s_Sides_begin) (defScope s_Sides_begin) .none kV_Sides_begin dc_Sides_begin pm_Sides_begin an_Sides_begin cd_Sides_begin ct_Sides_begin), sl_Sides_begin⟩)
    (c_Sides_begin : PySem.W.codeIn K cd_Sides_begin "Sides.begin" = true)
    (k_Sides_begin : PySem.W.keepIn K (.ref f_Sides_begin) = true)
    (l_Sides_turn : K.lookup f_Sides_turn = some ⟨oc_Sides_turn, od_Sides_turn, .func (PySem.W.fnOf "turn" "Sides.turn" (defArgs s_Sides_turn) (defBody s_Sides_turn) (defScope s_Sides_turn) .none kV_Sides_turn dc_Sides_turn pm_Sides_turn an_Sides_turn cd_Sides_turn ct_Sides_turn), sl_Sides_turn⟩)
    (c_Sides_turn : PySem.W.codeIn K cd_Sides_turn "Sides.turn" = true)
    (k_Sides_turn : PySem.W.keepIn K (.ref f_Sides_turn) = true)
    (l_Sides_finish : K.lookup f_Sides_finish = some ⟨oc_Sides_finish, od_Sides_finish, .func (PySem.W.fnOf "finish" "Sides.finish" (defArgs s_Sides_finish) (defBody s_Sides_finish) (defScope s_Sides_finish) .none kV_Sides_finish dc_Sides_finish pm_Sides_finish an_Sides_finish cd_Sides_finish ct_Sides_finish), sl_Sides_finish⟩)
    (c_Sides_finish : PySem.W.codeIn K cd_Sides_finish "Sides.finish" = true)
    (k_Sides_finish : PySem.W.keepIn K (.ref f_Sides_finish) = true)
    (l_Sides_hands_on : K.lookup f_Sides_hands_on = some ⟨oc_Sides_hands_on, od_Sides_hands_on, .func (PySem.W.fnOf "hands_on" "Sides.hands_on" (defArgs s_Sides_hands_on) (defBody s_Sides_hands_on) (defScope s_Sides_hands_on) .none kV_Sides_hands_on dc_Sides_hands_on pm_Sides_hands_on an_Sides_hands_on cd_Sides_hands_on ct_Sides_hands_on), sl_Sides_hands_on⟩)
    (c_Sides_hands_on : PySem.W.codeIn K cd_Sides_hands_on "Sides.hands_on" = true)
    (k_Sides_hands_on : PySem.W.keepIn K (.ref f_Sides_hands_on) = true)
    (a__law_did : PySem.W.nsIn K mainGlobals "_law_did" = some (some (.ref f__law_did)))
    (l__law_did : K.lookup f__law_did = some ⟨oc__law_did, od__law_did, .func (PySem.W.fnOf "_law_did" "_law_did" (defArgs s__law_did) (defBody s__law_did) (defScope s__law_did) .none kV__law_did dc__law_did pm__law_did an__law_did cd__law_did ct__law_did), sl__law_did⟩)
    (c__law_did : PySem.W.codeIn K cd__law_did "_law_did" = true)
    (k__law_did : PySem.W.keepIn K (.ref f__law_did) = true)
    (l_Twice_look_hand : K.lookup f_Twice_look_hand = some ⟨oc_Twice_look_hand, od_Twice_look_hand, .func (PySem.W.fnOf "look_hand" "Twice.look_hand" (defArgs s_Twice_look_hand) (defBody s_Twice_look_hand) (defScope s_Twice_look_hand) .none kV_Twice_look_hand dc_Twice_look_hand pm_Twice_look_hand an_Twice_look_hand cd_Twice_look_hand ct_Twice_look_hand), sl_Twice_look_hand⟩)
    (c_Twice_look_hand : PySem.W.codeIn K cd_Twice_look_hand "Twice.look_hand" = true)
    (k_Twice_look_hand : PySem.W.keepIn K (.ref f_Twice_look_hand) = true)
    (l_Twice_begin_read : K.lookup f_Twice_begin_read = some ⟨oc_Twice_begin_read, od_Twice_begin_read, .func (PySem.W.fnOf "begin_read" "Twice.begin_read" (defArgs s_Twice_begin_read) (defBody s_Twice_begin_read) (defScope s_Twice_begin_read) .none kV_Twice_begin_read dc_Twice_begin_read pm_Twice_begin_read an_Twice_begin_read cd_Twice_begin_read ct_Twice_begin_read), sl_Twice_begin_read⟩)
    (c_Twice_begin_read : PySem.W.codeIn K cd_Twice_begin_read "Twice.begin_read" = true)
    (k_Twice_begin_read : PySem.W.keepIn K (.ref f_Twice_begin_read) = true)
    (l_Twice_look_cell : K.lookup f_Twice_look_cell = some ⟨oc_Twice_look_cell, od_Twice_look_cell, .func (PySem.W.fnOf "look_cell" "Twice.look_cell" (defArgs s_Twice_look_cell) (defBody s_Twice_look_cell) (defScope s_Twice_look_cell) .none kV_Twice_look_cell dc_Twice_look_cell pm_Twice_look_cell an_Twice_look_cell cd_Twice_look_cell ct_Twice_look_cell), sl_Twice_look_cell⟩)
    (c_Twice_look_cell : PySem.W.codeIn K cd_Twice_look_cell "Twice.look_cell" = true)
    (k_Twice_look_cell : PySem.W.keepIn K (.ref f_Twice_look_cell) = true)
    (l_Twice_take : K.lookup f_Twice_take = some ⟨oc_Twice_take, od_Twice_take, .func (PySem.W.fnOf "take" "Twice.take" (defArgs s_Twice_take) (defBody s_Twice_take) (defScope s_Twice_take) .none kV_Twice_take dc_Twice_take pm_Twice_take an_Twice_take cd_Twice_take ct_Twice_take), sl_Twice_take⟩)
    (c_Twice_take : PySem.W.codeIn K cd_Twice_take "Twice.take" = true)
    (k_Twice_take : PySem.W.keepIn K (.ref f_Twice_take) = true)
    (l_Twice_sure : K.lookup f_Twice_sure = some ⟨oc_Twice_sure, od_Twice_sure, .func (PySem.W.fnOf "sure" "Twice.sure" (defArgs s_Twice_sure) (defBody s_Twice_sure) (defScope s_Twice_sure) .none kV_Twice_sure dc_Twice_sure pm_Twice_sure an_Twice_sure cd_Twice_sure ct_Twice_sure), sl_Twice_sure⟩)
    (c_Twice_sure : PySem.W.codeIn K cd_Twice_sure "Twice.sure" = true)
    (k_Twice_sure : PySem.W.keepIn K (.ref f_Twice_sure) = true)
    (l_Twice_put : K.lookup f_Twice_put = some ⟨oc_Twice_put, od_Twice_put, .func (PySem.W.fnOf "put" "Twice.put" (defArgs s_Twice_put) (defBody s_Twice_put) (defScope s_Twice_put) .none kV_Twice_put dc_Twice_put pm_Twice_put an_Twice_put cd_Twice_put ct_Twice_put), sl_Twice_put⟩)
    (c_Twice_put : PySem.W.codeIn K cd_Twice_put "Twice.put" = true)
    (k_Twice_put : PySem.W.keepIn K (.ref f_Twice_put) = true)
    (l_Twice_begin_write : K.lookup f_Twice_begin_write = some ⟨oc_Twice_begin_write, od_Twice_begin_write, .func (PySem.W.fnOf "begin_write" "Twice.begin_write" (defArgs s_Twice_begin_write) (defBody s_Twice_begin_write) (defScope s_Twice_begin_write) .none kV_Twice_begin_write dc_Twice_begin_write pm_Twice_begin_write an_Twice_begin_write cd_Twice_begin_write ct_Twice_begin_write), sl_Twice_begin_write⟩)
    (c_Twice_begin_write : PySem.W.codeIn K cd_Twice_begin_write "Twice.begin_write" = true)
    (k_Twice_begin_write : PySem.W.keepIn K (.ref f_Twice_begin_write) = true)
    (l_Twice_end_write : K.lookup f_Twice_end_write = some ⟨oc_Twice_end_write, od_Twice_end_write, .func (PySem.W.fnOf "end_write" "Twice.end_write" (defArgs s_Twice_end_write) (defBody s_Twice_end_write) (defScope s_Twice_end_write) .none kV_Twice_end_write dc_Twice_end_write pm_Twice_end_write an_Twice_end_write cd_Twice_end_write ct_Twice_end_write), sl_Twice_end_write⟩)
    (c_Twice_end_write : PySem.W.codeIn K cd_Twice_end_write "Twice.end_write" = true)
    (k_Twice_end_write : PySem.W.keepIn K (.ref f_Twice_end_write) = true)
    (a__law_does : PySem.W.nsIn K mainGlobals "_law_does" = some (some (.ref f__law_does)))
    (l__law_does : K.lookup f__law_does = some ⟨oc__law_does, od__law_does, .func (PySem.W.fnOf "_law_does" "_law_does" (defArgs s__law_does) (defBody s__law_does) (defScope s__law_does) .none kV__law_does dc__law_does pm__law_does an__law_does cd__law_does ct__law_does), sl__law_does⟩)
    (c__law_does : PySem.W.codeIn K cd__law_does "_law_does" = true)
    (k__law_does : PySem.W.keepIn K (.ref f__law_does) = true)
    (a__law_refusal : PySem.W.nsIn K mainGlobals "_law_refusal" = some (some (.ref f__law_refusal)))
    (l__law_refusal : K.lookup f__law_refusal = some ⟨oc__law_refusal, od__law_refusal, .func (PySem.W.fnOf "_law_refusal" "_law_refusal" (defArgs s__law_refusal) (defBody s__law_refusal) (defScope s__law_refusal) .none kV__law_refusal dc__law_refusal pm__law_refusal an__law_refusal cd__law_refusal ct__law_refusal), sl__law_refusal⟩)
    (c__law_refusal : PySem.W.codeIn K cd__law_refusal "_law_refusal" = true)
    (k__law_refusal : PySem.W.keepIn K (.ref f__law_refusal) = true)
    (a__law_asked : PySem.W.nsIn K mainGlobals "_law_asked" = some (some (.ref f__law_asked)))
    (l__law_asked : K.lookup f__law_asked = some ⟨oc__law_asked, od__law_asked, .func (PySem.W.fnOf "_law_asked" "_law_asked" (defArgs s__law_asked) (defBody s__law_asked) (defScope s__law_asked) .none kV__law_asked dc__law_asked pm__law_asked an__law_asked cd__law_asked ct__law_asked), sl__law_asked⟩)
    (c__law_asked : PySem.W.codeIn K cd__law_asked "_law_asked" = true)
    (k__law_asked : PySem.W.keepIn K (.ref f__law_asked) = true)
    (l_Twice_number_now : K.lookup f_Twice_number_now = some ⟨oc_Twice_number_now, od_Twice_number_now, .func (PySem.W.fnOf "number_now" "Twice.number_now" (defArgs s_Twice_number_now) (defBody s_Twice_number_now) (defScope s_Twice_number_now) .none kV_Twice_number_now dc_Twice_number_now pm_Twice_number_now an_Twice_number_now cd_Twice_number_now ct_Twice_number_now), sl_Twice_number_now⟩)
    (c_Twice_number_now : PySem.W.codeIn K cd_Twice_number_now "Twice.number_now" = true)
    (k_Twice_number_now : PySem.W.keepIn K (.ref f_Twice_number_now) = true)
    (a_law : PySem.W.nsIn K mainGlobals "law" = some (some (.ref f_law)))
    (l_law : K.lookup f_law = some ⟨oc_law, od_law, .func (PySem.W.fnOf "law" "law" (defArgs s_law) (defBody s_law) (defScope s_law) .none kV_law dc_law pm_law an_law cd_law ct_law), sl_law⟩)
    (c_law : PySem.W.codeIn K cd_law "law" = true)
    (k_law : PySem.W.keepIn K (.ref f_law) = true)
    (z_ValueError : PySem.W.nsIn K mainGlobals "ValueError" = some none)
    (z_all : PySem.W.nsIn K mainGlobals "all" = some none)
    (z_bool : PySem.W.nsIn K mainGlobals "bool" = some none)
    (z_int : PySem.W.nsIn K mainGlobals "int" = some none)
    (z_isinstance : PySem.W.nsIn K mainGlobals "isinstance" = some none)
    (z_len : PySem.W.nsIn K mainGlobals "len" = some none)
    (z_list : PySem.W.nsIn K mainGlobals "list" = some none)
    (z_range : PySem.W.nsIn K mainGlobals "range" = some none)
    (z_sorted : PySem.W.nsIn K mainGlobals "sorted" = some none)
    (z_tuple : PySem.W.nsIn K mainGlobals "tuple" = some none)
    (zk_MOST_CELLS : PySem.W.nsIn K mainGlobals "MOST_CELLS" = some (some (.int (5) t_MOST_CELLS)))
    (zk_MOST_HANDS : PySem.W.nsIn K mainGlobals "MOST_HANDS" = some (some (.int (6) t_MOST_HANDS)))
    (zk_MOST_VALUE : PySem.W.nsIn K mainGlobals "MOST_VALUE" = some (some (.int (999) t_MOST_VALUE))) :
    ∃ fd : FuncData, (∀ (s : Shared) (v : Value), BindsTo s fd ⟨[v], []⟩ [("script", v)]) ∧ ∀ base : Heap, K.In base → base.Ns mainGlobals mg → FnOk l.prog w K mg base CX0 7 fa fd ["script"] (sp_law K) := by
  have e := hfa.symm.trans (PySem.W.mg_of X G a_law)
  cases e
  have F__law_town := fun_mk (st := s__law_town) l__law_town c__law_town k__law_town
  have F_is_whole := fun_mk (st := s_is_whole) l_is_whole c_is_whole k_is_whole
  have F_look_number := fun_mk (st := s_look_number) l_look_number c_look_number k_look_number
  have F__law_draw := fun_mk (st := s__law_draw) l__law_draw c__law_draw k__law_draw
  have F__law_pick := fun_mk (st := s__law_pick) l__law_pick c__law_pick k__law_pick
  have F_Sides_look_hand := fun_mk (st := s_Sides_look_hand) l_Sides_look_hand c_Sides_look_hand k_Sides_look_hand
  have F_Sides_enter := fun_mk (st := s_Sides_enter) l_Sides_enter c_Sides_enter k_Sides_enter
  have F__law_odd := fun_mk (st := s__law_odd) l__law_odd c__law_odd k__law_odd
  have F_Sides_look_in := fun_mk (st := s_Sides_look_in) l_Sides_look_in c_Sides_look_in k_Sides_look_in
  have F_Sides_leave := fun_mk (st := s_Sides_leave) l_Sides_leave c_Sides_leave k_Sides_leave
  have F_Sides_read := fun_mk (st := s_Sides_read) l_Sides_read c_Sides_read k_Sides_read
  have F_Sides_look_pairs := fun_mk (st := s_Sides_look_pairs) l_Sides_look_pairs c_Sides_look_pairs k_Sides_look_pairs
  have F_Sides_put_all := fun_mk (st := s_Sides_put_all) l_Sides_put_all c_Sides_put_all k_Sides_put_all
  have F_Sides_begin := fun_mk (st := s_Sides_begin) l_Sides_begin c_Sides_begin k_Sides_begin
  have F_Sides_turn := fun_mk (st := s_Sides_turn) l_Sides_turn c_Sides_turn k_Sides_turn
  have F_Sides_finish := fun_mk (st := s_Sides_finish) l_Sides_finish c_Sides_finish k_Sides_finish
  have F_Sides_hands_on := fun_mk (st := s_Sides_hands_on) l_Sides_hands_on c_Sides_hands_on k_Sides_hands_on
  have F__law_did := fun_mk (st := s__law_did) l__law_did c__law_did k__law_did
  have F_Twice_look_hand := fun_mk (st := s_Twice_look_hand) l_Twice_look_hand c_Twice_look_hand k_Twice_look_hand
  have F_Twice_begin_read := fun_mk (st := s_Twice_begin_read) l_Twice_begin_read c_Twice_begin_read k_Twice_begin_read
  have F_Twice_look_cell := fun_mk (st := s_Twice_look_cell) l_Twice_look_cell c_Twice_look_cell k_Twice_look_cell
  have F_Twice_take := fun_mk (st := s_Twice_take) l_Twice_take c_Twice_take k_Twice_take
  have F_Twice_sure := fun_mk (st := s_Twice_sure) l_Twice_sure c_Twice_sure k_Twice_sure
  have F_Twice_put := fun_mk (st := s_Twice_put) l_Twice_put c_Twice_put k_Twice_put
  have F_Twice_begin_write := fun_mk (st := s_Twice_begin_write) l_Twice_begin_write c_Twice_begin_write k_Twice_begin_write
  have F_Twice_end_write := fun_mk (st := s_Twice_end_write) l_Twice_end_write c_Twice_end_write k_Twice_end_write
  have F__law_does := fun_mk (st := s__law_does) l__law_does c__law_does k__law_does
  have F__law_refusal := fun_mk (st := s__law_refusal) l__law_refusal c__law_refusal k__law_refusal
  have F__law_asked := fun_mk (st := s__law_asked) l__law_asked c__law_asked k__law_asked
  have F_Twice_number_now := fun_mk (st := s_Twice_number_now) l_Twice_number_now c_Twice_number_now k_Twice_number_now
  have F_law := fun_mk (st := s_law) l_law c_law k_law
  have b__law_town := F__law_town.binds (ps := ["script"]) fun _ _ _ _ _ _ us hl => match us, hl with | [_], _ => rfl
  have b_is_whole := F_is_whole.binds (ps := ["thing", "low", "high"]) fun _ _ _ _ _ _ us hl => match us, hl with | [_, _, _], _ => rfl
  have b_look_number := F_look_number.binds (ps := ["thing", "low", "high"]) fun _ _ _ _ _ _ us hl => match us, hl with | [_, _, _], _ => rfl
  have F_Twice_init : FunD K "__init__" "Twice.__init__" (defArgs s_Twice_init) (defBody s_Twice_init) (defScope s_Twice_init) [.int 3] [] f_Twice_init (PySem.W.fnOf "__init__" "Twice.__init__" (defArgs s_Twice_init) (defBody s_Twice_init) (defScope s_Twice_init) (.ref td_Twice_init) kV_Twice_init dc_Twice_init pm_Twice_init an_Twice_init cd_Twice_init ct_Twice_init) := ⟨⟨_, _, _, _, _, _, _, _, _, _, rfl, l_Twice_init, c_Twice_init, .inr ⟨List.cons_ne_nil _ _, td_Twice_init, _, [.int 3 tt_Twice_init_0], _, rfl, lt_Twice_init, rfl, (.cons ⟨_, rfl⟩ .nil)⟩, .inl rfl⟩, k_Twice_init⟩
  obtain ⟨ds_Twice_init, vd_Twice_init, bd_Twice_init⟩ := F_Twice_init.binds1 (ps := ["self", "hands", "cells"]) 2 0 (List.cons_ne_nil _ _) rfl fun T kV doc pm an cdv ct us its l1 l2 => match us, its, l1, l2 with | [_, _], [_], _, _ => ⟨_, rfl, rfl⟩
  have b_Twice_init : Binds K (PySem.W.fnOf "__init__" "Twice.__init__" (defArgs s_Twice_init) (defBody s_Twice_init) (defScope s_Twice_init) (.ref td_Twice_init) kV_Twice_init dc_Twice_init pm_Twice_init an_Twice_init cd_Twice_init ct_Twice_init) ["self", "hands", "cells"] [] := by
    obtain ⟨ds, vd, bd⟩ := F_Twice_init.binds1 (ps := ["self", "hands", "cells"]) 3 1 (List.cons_ne_nil _ _) rfl fun T kV doc pm an cdv ct us its l1 l2 => match us, its, l1, l2 with | [_, _, _], [_], _, _ => ⟨_, rfl, rfl⟩
    cases vd
    exact bd
  obtain ⟨its_Twice_init, kb_Twice_init⟩ := F_Twice_init.kbindsD (ps := ["self", "hands", "cells"]) 2 ["cells"] (fun us _ ws => us ++ ws) (List.cons_ne_nil _ _) (fun r1 _ r2 => r1.append r2) fun T kV doc pm an cdv ct us its ws l1 l2 l3 => match us, its, ws, l1, l2, l3 with | [_, _], [_], [_], _, _, _ => ⟨_, rfl, rfl⟩
  have F_Sides_init : FunD K "__init__" "Sides.__init__" (defArgs s_Sides_init) (defBody s_Sides_init) (defScope s_Sides_init) [.int 3] [] f_Sides_init (PySem.W.fnOf "__init__" "Sides.__init__" (defArgs s_Sides_init) (defBody s_Sides_init) (defScope s_Sides_init) (.ref td_Sides_init) kV_Sides_init dc_Sides_init pm_Sides_init an_Sides_init cd_Sides_init ct_Sides_init) := ⟨⟨_, _, _, _, _, _, _, _, _, _, rfl, l_Sides_init, c_Sides_init, .inr ⟨List.cons_ne_nil _ _, td_Sides_init, _, [.int 3 tt_Sides_init_0], _, rfl, lt_Sides_init, rfl, (.cons ⟨_, rfl⟩ .nil)⟩, .inl rfl⟩, k_Sides_init⟩
  obtain ⟨ds_Sides_init, vd_Sides_init, bd_Sides_init⟩ := F_Sides_init.binds1 (ps := ["self", "hands", "cells"]) 2 0 (List.cons_ne_nil _ _) rfl fun T kV doc pm an cdv ct us its l1 l2 => match us, its, l1, l2 with | [_, _], [_], _, _ => ⟨_, rfl, rfl⟩
  have b_Sides_init : Binds K (PySem.W.fnOf "__init__" "Sides.__init__" (defArgs s_Sides_init) (defBody s_Sides_init) (defScope s_Sides_init) (.ref td_Sides_init) kV_Sides_init dc_Sides_init pm_Sides_init an_Sides_init cd_Sides_init ct_Sides_init) ["self", "hands", "cells"] [] := by
    obtain ⟨ds, vd, bd⟩ := F_Sides_init.binds1 (ps := ["self", "hands", "cells"]) 3 1 (List.cons_ne_nil _ _) rfl fun T kV doc pm an cdv ct us its l1 l2 => match us, its, l1, l2 with | [_, _, _], [_], _, _ => ⟨_, rfl, rfl⟩
    cases vd
    exact bd
  obtain ⟨its_Sides_init, kb_Sides_init⟩ := F_Sides_init.kbindsD (ps := ["self", "hands", "cells"]) 2 ["cells"] (fun us _ ws => us ++ ws) (List.cons_ne_nil _ _) (fun r1 _ r2 => r1.append r2) fun T kV doc pm an cdv ct us its ws l1 l2 l3 => match us, its, ws, l1, l2, l3 with | [_, _], [_], [_], _, _, _ => ⟨_, rfl, rfl⟩
  have b__law_draw := F__law_draw.binds (ps := ["town", "many"]) fun _ _ _ _ _ _ us hl => match us, hl with | [_, _], _ => rfl
  have b__law_pick := F__law_pick.binds (ps := ["town", "some"]) fun _ _ _ _ _ _ us hl => match us, hl with | [_, _], _ => rfl
  have b_Sides_look_hand := F_Sides_look_hand.binds (ps := ["self", "hand"]) fun _ _ _ _ _ _ us hl => match us, hl with | [_, _], _ => rfl
  have b_Sides_enter := F_Sides_enter.binds (ps := ["self", "hand"]) fun _ _ _ _ _ _ us hl => match us, hl with | [_, _], _ => rfl
  have b__law_odd := F__law_odd.binds (ps := ["town", "most"]) fun _ _ _ _ _ _ us hl => match us, hl with | [_, _], _ => rfl
  have b_Sides_look_in := F_Sides_look_in.binds (ps := ["self", "hand"]) fun _ _ _ _ _ _ us hl => match us, hl with | [_, _], _ => rfl
  have b_Sides_leave := F_Sides_leave.binds (ps := ["self", "hand"]) fun _ _ _ _ _ _ us hl => match us, hl with | [_, _], _ => rfl
  have b_Sides_read := F_Sides_read.binds (ps := ["self", "hand", "cell"]) fun _ _ _ _ _ _ us hl => match us, hl with | [_, _, _], _ => rfl
  have b_Sides_look_pairs := F_Sides_look_pairs.binds (ps := ["self", "pairs"]) fun _ _ _ _ _ _ us hl => match us, hl with | [_, _], _ => rfl
  have b_Sides_put_all := F_Sides_put_all.binds (ps := ["self", "side"]) fun _ _ _ _ _ _ us hl => match us, hl with | [_, _], _ => rfl
  have b_Sides_begin := F_Sides_begin.binds (ps := ["self", "pairs"]) fun _ _ _ _ _ _ us hl => match us, hl with | [_, _], _ => rfl
  have b_Sides_turn := F_Sides_turn.binds (ps := ["self"]) fun _ _ _ _ _ _ us hl => match us, hl with | [_], _ => rfl
  have b_Sides_finish := F_Sides_finish.binds (ps := ["self"]) fun _ _ _ _ _ _ us hl => match us, hl with | [_], _ => rfl
  have b_Sides_hands_on := F_Sides_hands_on.binds (ps := ["self", "side"]) fun _ _ _ _ _ _ us hl => match us, hl with | [_, _], _ => rfl
  have b__law_did := F__law_did.binds (ps := ["some", "kind", "one", "other"]) fun _ _ _ _ _ _ us hl => match us, hl with | [_, _, _, _], _ => rfl
  have b_Twice_look_hand := F_Twice_look_hand.binds (ps := ["self", "hand"]) fun _ _ _ _ _ _ us hl => match us, hl with | [_, _], _ => rfl
  have b_Twice_begin_read := F_Twice_begin_read.binds (ps := ["self", "hand"]) fun _ _ _ _ _ _ us hl => match us, hl with | [_, _], _ => rfl
  have b_Twice_look_cell := F_Twice_look_cell.binds (ps := ["self", "cell"]) fun _ _ _ _ _ _ us hl => match us, hl with | [_, _], _ => rfl
  have b_Twice_take := F_Twice_take.binds (ps := ["self", "hand", "cell"]) fun _ _ _ _ _ _ us hl => match us, hl with | [_, _, _], _ => rfl
  have b_Twice_sure := F_Twice_sure.binds (ps := ["self", "hand"]) fun _ _ _ _ _ _ us hl => match us, hl with | [_, _], _ => rfl
  have b_Twice_put := F_Twice_put.binds (ps := ["self", "cell", "value"]) fun _ _ _ _ _ _ us hl => match us, hl with | [_, _, _], _ => rfl
  have b_Twice_begin_write := F_Twice_begin_write.binds (ps := ["self"]) fun _ _ _ _ _ _ us hl => match us, hl with | [_], _ => rfl
  have b_Twice_end_write := F_Twice_end_write.binds (ps := ["self"]) fun _ _ _ _ _ _ us hl => match us, hl with | [_], _ => rfl
  have b__law_does := F__law_does.binds (ps := ["some", "kind", "one", "other"]) fun _ _ _ _ _ _ us hl => match us, hl with | [_, _, _, _], _ => rfl
  have b__law_refusal := F__law_refusal.binds (ps := ["caught"]) fun _ _ _ _ _ _ us hl => match us, hl with | [_], _ => rfl
  have b__law_asked := F__law_asked.binds (ps := ["some", "kind", "one", "other"]) fun _ _ _ _ _ _ us hl => match us, hl with | [_, _, _, _], _ => rfl
  have b_Twice_number_now := F_Twice_number_now.binds (ps := ["self"]) fun _ _ _ _ _ _ us hl => match us, hl with | [_], _ => rfl
  have b_law := F_law.binds (ps := ["script"]) fun _ _ _ _ _ _ us hl => match us, hl with | [_], _ => rfl
  let D : Adr := { c_Twice := c_Twice, c_Sides := c_Sides, c_NoHand := c_NoHand, c_IsIn := c_IsIn, c_NotIn := c_NotIn, c_NoCell := c_NoCell, c_BadPairs := c_BadPairs, c_NotNow := c_NotNow, c_BadNumber := c_BadNumber, c_NoMark := c_NoMark, c_Gone := c_Gone, c_NotHeld := c_NotHeld, c_StoreError := c_StoreError, f__law_town := f__law_town, d__law_town := PySem.W.fnOf "_law_town" "_law_town" (defArgs s__law_town) (defBody s__law_town) (defScope s__law_town) .none kV__law_town dc__law_town pm__law_town an__law_town cd__law_town ct__law_town, f_is_whole := f_is_whole, d_is_whole := PySem.W.fnOf "is_whole" "is_whole" (defArgs s_is_whole) (defBody s_is_whole) (defScope s_is_whole) .none kV_is_whole dc_is_whole pm_is_whole an_is_whole cd_is_whole ct_is_whole, f_look_number := f_look_number, d_look_number := PySem.W.fnOf "look_number" "look_number" (defArgs s_look_number) (defBody s_look_number) (defScope s_look_number) .none kV_look_number dc_look_number pm_look_number an_look_number cd_look_number ct_look_number, f_Twice_init := f_Twice_init, d_Twice_init := PySem.W.fnOf "__init__" "Twice.__init__" (defArgs s_Twice_init) (defBody s_Twice_init) (defScope s_Twice_init) (.ref td_Twice_init) kV_Twice_init dc_Twice_init pm_Twice_init an_Twice_init cd_Twice_init ct_Twice_init, f_Sides_init := f_Sides_init, d_Sides_init := PySem.W.fnOf "__init__" "Sides.__init__" (defArgs s_Sides_init) (defBody s_Sides_init) (defScope s_Sides_init) (.ref td_Sides_init) kV_Sides_init dc_Sides_init pm_Sides_init an_Sides_init cd_Sides_init ct_Sides_init, f__law_draw := f__law_draw, d__law_draw := PySem.W.fnOf "_law_draw" "_law_draw" (defArgs s__law_draw) (defBody s__law_draw) (defScope s__law_draw) .none kV__law_draw dc__law_draw pm__law_draw an__law_draw cd__law_draw ct__law_draw, f__law_pick := f__law_pick, d__law_pick := PySem.W.fnOf "_law_pick" "_law_pick" (defArgs s__law_pick) (defBody s__law_pick) (defScope s__law_pick) .none kV__law_pick dc__law_pick pm__law_pick an__law_pick cd__law_pick ct__law_pick, f_Sides_look_hand := f_Sides_look_hand, d_Sides_look_hand := PySem.W.fnOf "look_hand" "Sides.look_hand" (defArgs s_Sides_look_hand) (defBody s_Sides_look_hand) (defScope s_Sides_look_hand) .none kV_Sides_look_hand dc_Sides_look_hand pm_Sides_look_hand an_Sides_look_hand cd_Sides_look_hand ct_Sides_look_hand, f_Sides_enter := f_Sides_enter, d_Sides_enter := PySem.W.fnOf "enter" "Sides.enter" (defArgs s_Sides_enter) (defBody s_Sides_enter) (defScope s_Sides_enter) .none kV_Sides_enter dc_Sides_enter pm_Sides_enter an_Sides_enter cd_Sides_enter ct_Sides_enter, f__law_odd := f__law_odd, d__law_odd := PySem.W.fnOf "_law_odd" "_law_odd" (defArgs s__law_odd) (defBody s__law_odd) (defScope s__law_odd) .none kV__law_odd dc__law_odd pm__law_odd an__law_odd cd__law_odd ct__law_odd, f_Sides_look_in := f_Sides_look_in, d_Sides_look_in := PySem.W.fnOf "look_in" "Sides.look_in" (defArgs s_Sides_look_in) (defBody s_Sides_look_in) (defScope s_Sides_look_in) .none kV_Sides_look_in dc_Sides_look_in pm_Sides_look_in an_Sides_look_in cd_Sides_look_in ct_Sides_look_in, f_Sides_leave := f_Sides_leave, d_Sides_leave := PySem.W.fnOf "leave" "Sides.leave" (defArgs s_Sides_leave) (defBody s_Sides_leave) (defScope s_Sides_leave) .none kV_Sides_leave dc_Sides_leave pm_Sides_leave an_Sides_leave cd_Sides_leave ct_Sides_leave, f_Sides_read := f_Sides_read, d_Sides_read := PySem.W.fnOf "read" "Sides.read" (defArgs s_Sides_read) (defBody s_Sides_read) (defScope s_Sides_read) .none kV_Sides_read dc_Sides_read pm_Sides_read an_Sides_read cd_Sides_read ct_Sides_read, f_Sides_look_pairs := f_Sides_look_pairs, d_Sides_look_pairs := PySem.W.fnOf "look_pairs" "Sides.look_pairs" (defArgs s_Sides_look_pairs) (defBody s_Sides_look_pairs) (defScope s_Sides_look_pairs) .none kV_Sides_look_pairs dc_Sides_look_pairs pm_Sides_look_pairs an_Sides_look_pairs cd_Sides_look_pairs ct_Sides_look_pairs, f_Sides_put_all := f_Sides_put_all, d_Sides_put_all := PySem.W.fnOf "put_all" "Sides.put_all" (defArgs s_Sides_put_all) (defBody s_Sides_put_all) (defScope s_Sides_put_all) .none kV_Sides_put_all dc_Sides_put_all pm_Sides_put_all an_Sides_put_all cd_Sides_put_all ct_Sides_put_all, f_Sides_begin := f_Sides_begin, d_Sides_begin := PySem.W.fnOf "begin" "Sides.begin" (defArgs s_Sides_begin) (defBody s_Sides_begin) (defScope s_Sides_begin) .none kV_Sides_begin dc_Sides_begin pm_Sides_begin an_Sides_begin cd_Sides_begin ct_Sides_begin, f_Sides_turn := f_Sides_turn, d_Sides_turn := PySem.W.fnOf "turn" "Sides.turn" (defArgs s_Sides_turn) (defBody s_Sides_turn) (defScope s_Sides_turn) .none kV_Sides_turn dc_Sides_turn pm_Sides_turn an_Sides_turn cd_Sides_turn ct_Sides_turn, f_Sides_finish := f_Sides_finish, d_Sides_finish := PySem.W.fnOf "finish" "Sides.finish" (defArgs s_Sides_finish) (defBody s_Sides_finish) (defScope s_Sides_finish) .none kV_Sides_finish dc_Sides_finish pm_Sides_finish an_Sides_finish cd_Sides_finish ct_Sides_finish, f_Sides_hands_on := f_Sides_hands_on, d_Sides_hands_on := PySem.W.fnOf "hands_on" "Sides.hands_on" (defArgs s_Sides_hands_on) (defBody s_Sides_hands_on) (defScope s_Sides_hands_on) .none kV_Sides_hands_on dc_Sides_hands_on pm_Sides_hands_on an_Sides_hands_on cd_Sides_hands_on ct_Sides_hands_on, f__law_did := f__law_did, d__law_did := PySem.W.fnOf "_law_did" "_law_did" (defArgs s__law_did) (defBody s__law_did) (defScope s__law_did) .none kV__law_did dc__law_did pm__law_did an__law_did cd__law_did ct__law_did, f_Twice_look_hand := f_Twice_look_hand, d_Twice_look_hand := PySem.W.fnOf "look_hand" "Twice.look_hand" (defArgs s_Twice_look_hand) (defBody s_Twice_look_hand) (defScope s_Twice_look_hand) .none kV_Twice_look_hand dc_Twice_look_hand pm_Twice_look_hand an_Twice_look_hand cd_Twice_look_hand ct_Twice_look_hand, f_Twice_begin_read := f_Twice_begin_read, d_Twice_begin_read := PySem.W.fnOf "begin_read" "Twice.begin_read" (defArgs s_Twice_begin_read) (defBody s_Twice_begin_read) (defScope s_Twice_begin_read) .none kV_Twice_begin_read dc_Twice_begin_read pm_Twice_begin_read an_Twice_begin_read cd_Twice_begin_read ct_Twice_begin_read, f_Twice_look_cell := f_Twice_look_cell, d_Twice_look_cell := PySem.W.fnOf "look_cell" "Twice.look_cell" (defArgs s_Twice_look_cell) (defBody s_Twice_look_cell) (defScope s_Twice_look_cell) .none kV_Twice_look_cell dc_Twice_look_cell pm_Twice_look_cell an_Twice_look_cell cd_Twice_look_cell ct_Twice_look_cell, f_Twice_take := f_Twice_take, d_Twice_take := PySem.W.fnOf "take" "Twice.take" (defArgs s_Twice_take) (defBody s_Twice_take) (defScope s_Twice_take) .none kV_Twice_take dc_Twice_take pm_Twice_take an_Twice_take cd_Twice_take ct_Twice_take, f_Twice_sure := f_Twice_sure, d_Twice_sure := PySem.W.fnOf "sure" "Twice.sure" (defArgs s_Twice_sure) (defBody s_Twice_sure) (defScope s_Twice_sure) .none kV_Twice_sure dc_Twice_sure pm_Twice_sure an_Twice_sure cd_Twice_sure ct_Twice_sure, f_Twice_put := f_Twice_put, d_Twice_put := PySem.W.fnOf "put" "Twice.put" (defArgs s_Twice_put) (defBody s_Twice_put) (defScope s_Twice_put) .none kV_Twice_put dc_Twice_put pm_Twice_put an_Twice_put cd_Twice_put ct_Twice_put, f_Twice_begin_write := f_Twice_begin_write, d_Twice_begin_write := PySem.W.fnOf "begin_write" "Twice.begin_write" (defArgs s_Twice_begin_write) (defBody s_Twice_begin_write) (defScope s_Twice_begin_write) .none kV_Twice_begin_write dc_Twice_begin_write pm_Twice_begin_write an_Twice_begin_write cd_Twice_begin_write ct_Twice_begin_write, f_Twice_end_write := f_Twice_end_write, d_Twice_end_write := PySem.W.fnOf "end_write" "Twice.end_write" (defArgs s_Twice_end_write) (defBody s_Twice_end_write) (defScope s_Twice_end_write) .none kV_Twice_end_write dc_Twice_end_write pm_Twice_end_write an_Twice_end_write cd_Twice_end_write ct_Twice_end_write, f__law_does := f__law_does, d__law_does := PySem.W.fnOf "_law_does" "_law_does" (defArgs s__law_does) (defBody s__law_does) (defScope s__law_does) .none kV__law_does dc__law_does pm__law_does an__law_does cd__law_does ct__law_does, f__law_refusal := f__law_refusal, d__law_refusal := PySem.W.fnOf "_law_refusal" "_law_refusal" (defArgs s__law_refusal) (defBody s__law_refusal) (defScope s__law_refusal) .none kV__law_refusal dc__law_refusal pm__law_refusal an__law_refusal cd__law_refusal ct__law_refusal, f__law_asked := f__law_asked, d__law_asked := PySem.W.fnOf "_law_asked" "_law_asked" (defArgs s__law_asked) (defBody s__law_asked) (defScope s__law_asked) .none kV__law_asked dc__law_asked pm__law_asked an__law_asked cd__law_asked ct__law_asked, f_Twice_number_now := f_Twice_number_now, d_Twice_number_now := PySem.W.fnOf "number_now" "Twice.number_now" (defArgs s_Twice_number_now) (defBody s_Twice_number_now) (defScope s_Twice_number_now) .none kV_Twice_number_now dc_Twice_number_now pm_Twice_number_now an_Twice_number_now cd_Twice_number_now ct_Twice_number_now, f_law := fa, d_law := PySem.W.fnOf "law" "law" (defArgs s_law) (defBody s_law) (defScope s_law) .none kV_law dc_law pm_law an_law cd_law ct_law, ds_Twice_init := ds_Twice_init, ds_Sides_init := ds_Sides_init, t_MOST_CELLS := t_MOST_CELLS, t_MOST_HANDS := t_MOST_HANDS, t_MOST_VALUE := t_MOST_VALUE }
  have T : Txt K mg D :=
    { F__law_town := F__law_town, b__law_town := b__law_town,
      g__law_town := PySem.W.mg_of X G a__law_town,
      F_is_whole := F_is_whole, b_is_whole := b_is_whole,
      g_is_whole := PySem.W.mg_of X G a_is_whole,
      F_look_number := F_look_number, b_look_number := b_look_number,
      g_look_number := PySem.W.mg_of X G a_look_number,
      F_Twice_init := F_Twice_init, b_Twice_init := b_Twice_init,
      bd_Twice_init := bd_Twice_init, vd_Twice_init := vd_Twice_init, kb_Twice_init := kb_Twice_init,
      F_Sides_init := F_Sides_init, b_Sides_init := b_Sides_init,
      bd_Sides_init := bd_Sides_init, vd_Sides_init := vd_Sides_init, kb_Sides_init := kb_Sides_init,
      F__law_draw := F__law_draw, b__law_draw := b__law_draw,
      g__law_draw := PySem.W.mg_of X G a__law_draw,
      F__law_pick := F__law_pick, b__law_pick := b__law_pick,
      g__law_pick := PySem.W.mg_of X G a__law_pick,
      F_Sides_look_hand := F_Sides_look_hand, b_Sides_look_hand := b_Sides_look_hand,
      F_Sides_enter := F_Sides_enter, b_Sides_enter := b_Sides_enter,
      F__law_odd := F__law_odd, b__law_odd := b__law_odd,
      g__law_odd := PySem.W.mg_of X G a__law_odd,
      F_Sides_look_in := F_Sides_look_in, b_Sides_look_in := b_Sides_look_in,
      F_Sides_leave := F_Sides_leave, b_Sides_leave := b_Sides_leave,
      F_Sides_read := F_Sides_read, b_Sides_read := b_Sides_read,
      F_Sides_look_pairs := F_Sides_look_pairs, b_Sides_look_pairs := b_Sides_look_pairs,
      F_Sides_put_all := F_Sides_put_all, b_Sides_put_all := b_Sides_put_all,
      F_Sides_begin := F_Sides_begin, b_Sides_begin := b_Sides_begin,
      F_Sides_turn := F_Sides_turn, b_Sides_turn := b_Sides_turn,
      F_Sides_finish := F_Sides_finish, b_Sides_finish := b_Sides_finish,
      F_Sides_hands_on := F_Sides_hands_on, b_Sides_hands_on := b_Sides_hands_on,
      F__law_did := F__law_did, b__law_did := b__law_did,
      g__law_did := PySem.W.mg_of X G a__law_did,
      F_Twice_look_hand := F_Twice_look_hand, b_Twice_look_hand := b_Twice_look_hand,
      F_Twice_begin_read := F_Twice_begin_read, b_Twice_begin_read := b_Twice_begin_read,
      F_Twice_look_cell := F_Twice_look_cell, b_Twice_look_cell := b_Twice_look_cell,
      F_Twice_take := F_Twice_take, b_Twice_take := b_Twice_take,
      F_Twice_sure := F_Twice_sure, b_Twice_sure := b_Twice_sure,
      F_Twice_put := F_Twice_put, b_Twice_put := b_Twice_put,
      F_Twice_begin_write := F_Twice_begin_write, b_Twice_begin_write := b_Twice_begin_write,
      F_Twice_end_write := F_Twice_end_write, b_Twice_end_write := b_Twice_end_write,
      F__law_does := F__law_does, b__law_does := b__law_does,
      g__law_does := PySem.W.mg_of X G a__law_does,
      F__law_refusal := F__law_refusal, b__law_refusal := b__law_refusal,
      g__law_refusal := PySem.W.mg_of X G a__law_refusal,
      F__law_asked := F__law_asked, b__law_asked := b__law_asked,
      g__law_asked := PySem.W.mg_of X G a__law_asked,
      F_Twice_number_now := F_Twice_number_now, b_Twice_number_now := b_Twice_number_now,
      F_law := F_law, b_law := b_law,
      g_law := PySem.W.mg_of X G a_law,
      cl_Twice := ⟨pg_Twice, hd_Twice, po_Twice, sa_Twice⟩, g_Twice := PySem.W.mg_of X G aC_Twice,
      na_Twice_hands := na_Twice_hands,
      na_Twice_cells := na_Twice_cells,
      na_Twice_number := na_Twice_number,
      na_Twice_first := na_Twice_first,
      mk_Twice := ⟨mk_Twice, ai_Twice, ii_Twice, kc_Twice⟩,
      cl_Sides := ⟨pg_Sides, hd_Sides, po_Sides, sa_Sides⟩, g_Sides := PySem.W.mg_of X G aC_Sides,
      na_Sides_hands := na_Sides_hands,
      na_Sides_sides := na_Sides_sides,
      na_Sides_open_side := na_Sides_open_side,
      na_Sides_where := na_Sides_where,
      na_Sides_under_way := na_Sides_under_way,
      na_Sides_far := na_Sides_far,
      mk_Sides := ⟨mk_Sides, ai_Sides, ii_Sides, kc_Sides⟩,
      g_NoHand := PySem.W.mg_of X G aC_NoHand,
      xi_NoHand := xi_NoHand, kp_NoHand := kp_NoHand, sb_NoHand := sb_NoHand, ty_NoHand := ty_NoHand, em_NoHand := em_NoHand, kv_NoHand := kv_NoHand,
      ec_NoHand := ⟨e1_NoHand, e2_NoHand, sb_NoHand, e4_NoHand, e5_NoHand, e6_NoHand, e7_NoHand, e8_NoHand⟩,
      ki_NoHand_BadNumber := ki_NoHand_BadNumber,
      ki_NoHand_NoHand := ki_NoHand_NoHand,
      ki_NoHand_NoCell := ki_NoHand_NoCell,
      ki_NoHand_NoMark := ki_NoHand_NoMark,
      ki_NoHand_IsIn := ki_NoHand_IsIn,
      ki_NoHand_NotIn := ki_NoHand_NotIn,
      ki_NoHand_NotHeld := ki_NoHand_NotHeld,
      ki_NoHand_Gone := ki_NoHand_Gone,
      ki_NoHand_BadPairs := ki_NoHand_BadPairs,
      ki_NoHand_NotNow := ki_NoHand_NotNow,
      ki_NoHand_StoreError := ki_NoHand_StoreError,
      g_IsIn := PySem.W.mg_of X G aC_IsIn,
      xi_IsIn := xi_IsIn, kp_IsIn := kp_IsIn, sb_IsIn := sb_IsIn, ty_IsIn := ty_IsIn, em_IsIn := em_IsIn, kv_IsIn := kv_IsIn,
      ec_IsIn := ⟨e1_IsIn, e2_IsIn, sb_IsIn, e4_IsIn, e5_IsIn, e6_IsIn, e7_IsIn, e8_IsIn⟩,
      ki_IsIn_BadNumber := ki_IsIn_BadNumber,
      ki_IsIn_NoHand := ki_IsIn_NoHand,
      ki_IsIn_NoCell := ki_IsIn_NoCell,
      ki_IsIn_NoMark := ki_IsIn_NoMark,
      ki_IsIn_IsIn := ki_IsIn_IsIn,
      ki_IsIn_NotIn := ki_IsIn_NotIn,
      ki_IsIn_NotHeld := ki_IsIn_NotHeld,
      ki_IsIn_Gone := ki_IsIn_Gone,
      ki_IsIn_BadPairs := ki_IsIn_BadPairs,
      ki_IsIn_NotNow := ki_IsIn_NotNow,
      ki_IsIn_StoreError := ki_IsIn_StoreError,
      g_NotIn := PySem.W.mg_of X G aC_NotIn,
      xi_NotIn := xi_NotIn, kp_NotIn := kp_NotIn, sb_NotIn := sb_NotIn, ty_NotIn := ty_NotIn, em_NotIn := em_NotIn, kv_NotIn := kv_NotIn,
      ec_NotIn := ⟨e1_NotIn, e2_NotIn, sb_NotIn, e4_NotIn, e5_NotIn, e6_NotIn, e7_NotIn, e8_NotIn⟩,
      ki_NotIn_BadNumber := ki_NotIn_BadNumber,
      ki_NotIn_NoHand := ki_NotIn_NoHand,
      ki_NotIn_NoCell := ki_NotIn_NoCell,
      ki_NotIn_NoMark := ki_NotIn_NoMark,
      ki_NotIn_IsIn := ki_NotIn_IsIn,
      ki_NotIn_NotIn := ki_NotIn_NotIn,
      ki_NotIn_NotHeld := ki_NotIn_NotHeld,
      ki_NotIn_Gone := ki_NotIn_Gone,
      ki_NotIn_BadPairs := ki_NotIn_BadPairs,
      ki_NotIn_NotNow := ki_NotIn_NotNow,
      ki_NotIn_StoreError := ki_NotIn_StoreError,
      g_NoCell := PySem.W.mg_of X G aC_NoCell,
      xi_NoCell := xi_NoCell, kp_NoCell := kp_NoCell, sb_NoCell := sb_NoCell, ty_NoCell := ty_NoCell, em_NoCell := em_NoCell, kv_NoCell := kv_NoCell,
      ec_NoCell := ⟨e1_NoCell, e2_NoCell, sb_NoCell, e4_NoCell, e5_NoCell, e6_NoCell, e7_NoCell, e8_NoCell⟩,
      ki_NoCell_BadNumber := ki_NoCell_BadNumber,
      ki_NoCell_NoHand := ki_NoCell_NoHand,
      ki_NoCell_NoCell := ki_NoCell_NoCell,
      ki_NoCell_NoMark := ki_NoCell_NoMark,
      ki_NoCell_IsIn := ki_NoCell_IsIn,
      ki_NoCell_NotIn := ki_NoCell_NotIn,
      ki_NoCell_NotHeld := ki_NoCell_NotHeld,
      ki_NoCell_Gone := ki_NoCell_Gone,
      ki_NoCell_BadPairs := ki_NoCell_BadPairs,
      ki_NoCell_NotNow := ki_NoCell_NotNow,
      ki_NoCell_StoreError := ki_NoCell_StoreError,
      g_BadPairs := PySem.W.mg_of X G aC_BadPairs,
      xi_BadPairs := xi_BadPairs, kp_BadPairs := kp_BadPairs, sb_BadPairs := sb_BadPairs, ty_BadPairs := ty_BadPairs, em_BadPairs := em_BadPairs, kv_BadPairs := kv_BadPairs,
      ec_BadPairs := ⟨e1_BadPairs, e2_BadPairs, sb_BadPairs, e4_BadPairs, e5_BadPairs, e6_BadPairs, e7_BadPairs, e8_BadPairs⟩,
      ki_BadPairs_BadNumber := ki_BadPairs_BadNumber,
      ki_BadPairs_NoHand := ki_BadPairs_NoHand,
      ki_BadPairs_NoCell := ki_BadPairs_NoCell,
      ki_BadPairs_NoMark := ki_BadPairs_NoMark,
      ki_BadPairs_IsIn := ki_BadPairs_IsIn,
      ki_BadPairs_NotIn := ki_BadPairs_NotIn,
      ki_BadPairs_NotHeld := ki_BadPairs_NotHeld,
      ki_BadPairs_Gone := ki_BadPairs_Gone,
      ki_BadPairs_BadPairs := ki_BadPairs_BadPairs,
      ki_BadPairs_NotNow := ki_BadPairs_NotNow,
      ki_BadPairs_StoreError := ki_BadPairs_StoreError,
      g_NotNow := PySem.W.mg_of X G aC_NotNow,
      xi_NotNow := xi_NotNow, kp_NotNow := kp_NotNow, sb_NotNow := sb_NotNow, ty_NotNow := ty_NotNow, em_NotNow := em_NotNow, kv_NotNow := kv_NotNow,
      ec_NotNow := ⟨e1_NotNow, e2_NotNow, sb_NotNow, e4_NotNow, e5_NotNow, e6_NotNow, e7_NotNow, e8_NotNow⟩,
      ki_NotNow_BadNumber := ki_NotNow_BadNumber,
      ki_NotNow_NoHand := ki_NotNow_NoHand,
      ki_NotNow_NoCell := ki_NotNow_NoCell,
      ki_NotNow_NoMark := ki_NotNow_NoMark,
      ki_NotNow_IsIn := ki_NotNow_IsIn,
      ki_NotNow_NotIn := ki_NotNow_NotIn,
      ki_NotNow_NotHeld := ki_NotNow_NotHeld,
      ki_NotNow_Gone := ki_NotNow_Gone,
      ki_NotNow_BadPairs := ki_NotNow_BadPairs,
      ki_NotNow_NotNow := ki_NotNow_NotNow,
      ki_NotNow_StoreError := ki_NotNow_StoreError,
      g_BadNumber := PySem.W.mg_of X G aC_BadNumber,
      xi_BadNumber := xi_BadNumber, kp_BadNumber := kp_BadNumber, sb_BadNumber := sb_BadNumber, ty_BadNumber := ty_BadNumber, em_BadNumber := em_BadNumber, kv_BadNumber := kv_BadNumber,
      ec_BadNumber := ⟨e1_BadNumber, e2_BadNumber, sb_BadNumber, e4_BadNumber, e5_BadNumber, e6_BadNumber, e7_BadNumber, e8_BadNumber⟩,
      ki_BadNumber_BadNumber := ki_BadNumber_BadNumber,
      ki_BadNumber_NoHand := ki_BadNumber_NoHand,
      ki_BadNumber_NoCell := ki_BadNumber_NoCell,
      ki_BadNumber_NoMark := ki_BadNumber_NoMark,
      ki_BadNumber_IsIn := ki_BadNumber_IsIn,
      ki_BadNumber_NotIn := ki_BadNumber_NotIn,
      ki_BadNumber_NotHeld := ki_BadNumber_NotHeld,
      ki_BadNumber_Gone := ki_BadNumber_Gone,
      ki_BadNumber_BadPairs := ki_BadNumber_BadPairs,
      ki_BadNumber_NotNow := ki_BadNumber_NotNow,
      ki_BadNumber_StoreError := ki_BadNumber_StoreError,
      g_NoMark := PySem.W.mg_of X G aC_NoMark,
      g_Gone := PySem.W.mg_of X G aC_Gone,
      g_NotHeld := PySem.W.mg_of X G aC_NotHeld,
      g_StoreError := PySem.W.mg_of X G aC_StoreError,
      ko_Sides_Sides := ko_Sides_Sides,
      ko_Twice_Sides := ko_Twice_Sides,
      ih_Sides := ih_Sides, io_Sides := io_Sides,
      ih_Twice := ih_Twice, io_Twice := io_Twice,
      ig_get := ig_get, ig_tk := ig_tk,
      me_Sides_look_hand := ⟨am_Sides_look_hand, im_Sides_look_hand, k_Sides_look_hand⟩,
      me_Sides_enter := ⟨am_Sides_enter, im_Sides_enter, k_Sides_enter⟩,
      me_Sides_look_in := ⟨am_Sides_look_in, im_Sides_look_in, k_Sides_look_in⟩,
      me_Sides_leave := ⟨am_Sides_leave, im_Sides_leave, k_Sides_leave⟩,
      me_Sides_read := ⟨am_Sides_read, im_Sides_read, k_Sides_read⟩,
      me_Sides_look_pairs := ⟨am_Sides_look_pairs, im_Sides_look_pairs, k_Sides_look_pairs⟩,
      me_Sides_put_all := ⟨am_Sides_put_all, im_Sides_put_all, k_Sides_put_all⟩,
      me_Sides_begin := ⟨am_Sides_begin, im_Sides_begin, k_Sides_begin⟩,
      me_Sides_turn := ⟨am_Sides_turn, im_Sides_turn, k_Sides_turn⟩,
      me_Sides_finish := ⟨am_Sides_finish, im_Sides_finish, k_Sides_finish⟩,
      me_Sides_hands_on := ⟨am_Sides_hands_on, im_Sides_hands_on, k_Sides_hands_on⟩,
      me_Twice_look_hand := ⟨am_Twice_look_hand, im_Twice_look_hand, k_Twice_look_hand⟩,
      me_Twice_begin_read := ⟨am_Twice_begin_read, im_Twice_begin_read, k_Twice_begin_read⟩,
      me_Twice_look_cell := ⟨am_Twice_look_cell, im_Twice_look_cell, k_Twice_look_cell⟩,
      me_Twice_take := ⟨am_Twice_take, im_Twice_take, k_Twice_take⟩,
      me_Twice_sure := ⟨am_Twice_sure, im_Twice_sure, k_Twice_sure⟩,
      me_Twice_put := ⟨am_Twice_put, im_Twice_put, k_Twice_put⟩,
      me_Twice_begin_write := ⟨am_Twice_begin_write, im_Twice_begin_write, k_Twice_begin_write⟩,
      me_Twice_end_write := ⟨am_Twice_end_write, im_Twice_end_write, k_Twice_end_write⟩,
      me_Twice_number_now := ⟨am_Twice_number_now, im_Twice_number_now, k_Twice_number_now⟩,
      m_ValueError := PySem.W.mg_none_of X G z_ValueError,
      m_all := PySem.W.mg_none_of X G z_all,
      m_bool := PySem.W.mg_none_of X G z_bool,
      m_int := PySem.W.mg_none_of X G z_int,
      m_isinstance := PySem.W.mg_none_of X G z_isinstance,
      m_len := PySem.W.mg_none_of X G z_len,
      m_list := PySem.W.mg_none_of X G z_list,
      m_range := PySem.W.mg_none_of X G z_range,
      m_sorted := PySem.W.mg_none_of X G z_sorted,
      m_tuple := PySem.W.mg_none_of X G z_tuple,
      k_MOST_CELLS := PySem.W.mg_of X G zk_MOST_CELLS,
      k_MOST_HANDS := PySem.W.mg_of X G zk_MOST_HANDS,
      k_MOST_VALUE := PySem.W.mg_of X G zk_MOST_VALUE }
  exact ⟨_, fun s v => .of_eq rfl, fun base _ _ => ok_law T⟩
theorem walk {l : PySem.W.OpenLaw} {q : Program} {loose : List Str} {XP : (Str → Option Value) → Heap → Prop} {YP : World → Heap → Prop} {d : DefRec} {K : Params → PySem.W.Frag} (hn : l.most = some 63) (hdf : d.params.defaults = [])
    (hY : ∀ (w : World) (h : Heap), YP w h → (K w.params).In h)
    (F : ∀ (w : World) (mg : Str → Option Value) (fa : Addr) (h : Heap), (K w.params).In h → h.Ns mainGlobals mg → mg d.name = some (.ref fa) →
      ∃ fd : FuncData, (∀ (s : Shared) (u : Value), BindsTo s fd ⟨[u], []⟩ [("script", u)]) ∧ ∀ base : Heap, (K w.params).In base → base.Ns mainGlobals mg → FnOk l.prog w (K w.params) mg base CX0 7 fa fd ["script"] (sp_law (K w.params))) :
    PySem.W.WalkO q loose XP YP l.row.toRowW d [] (fun f vs => PySem.call f vs) :=
  L2.walk_of (n := 63) (k := 7) (x := "script") (CX := fun _ => CX0) (sp := fun w => sp_law (K w.params)) hn (by decide) hdf ⟨rfl, by decide, by decide⟩ hY F (fun _ _ a ns hl _ hS => ⟨a, ns, rfl, hS, hl, fun _ => rfl⟩) fun _ _ _ _ _ z => z
end La
open PySem PySem.W PyProof.Rows in
set_option maxRecDepth 100000 in
set_option maxHeartbeats 0 in
theorem PySem.Challenge.cw_lastreader_k25_sides_refused_holds : PySem.Challenge.rw_lastreader_k25_sides_refused.Holds := by
  w_on; o_law; k_head; (case hw => w_witness2)
  k_fill
  refine La.walk (l := PySem.Challenge.rw_lastreader_k25_sides_refused) rfl rfl (fun w h Y => PySem.W.kIn_of Y) ?F
  case F =>
    intro w mg fa h KX G hmg
    refine' La.all_mk KX G hmg ?aC_Twice ?aC_Sides ?aC_NoHand ?aC_IsIn ?aC_NotIn ?aC_NoCell ?aC_BadPairs ?aC_NotNow ?aC_BadNumber ?aC_NoMark ?aC_Gone ?aC_NotHeld ?aC_StoreError ?pg_Twice ?hd_Twice ?po_Twice ?sa_Twice ?mk_Twice ?kc_Twice ?ai_Twice ?ii_Twice ?na_Twice_hands ?na_Twice_cells ?na_Twice_number ?na_Twice_first ?pg_Sides ?hd_Sides ?po_Sides ?sa_Sides ?mk_Sides ?kc_Sides ?ai_Sides ?ii_Sides ?na_Sides_hands ?na_Sides_sides ?na_Sides_open_side ?na_Sides_where ?na_Sides_under_way ?na_Sides_far ?xi_NoHand ?kp_NoHand ?sb_NoHand ?ty_NoHand ?em_NoHand ?e1_NoHand ?e2_NoHand ?e4_NoHand ?e5_NoHand ?e6_NoHand ?e7_NoHand ?e8_NoHand ?ki_NoHand_BadNumber ?ki_NoHand_NoHand ?ki_NoHand_NoCell ?ki_NoHand_NoMark ?ki_NoHand_IsIn ?ki_NoHand_NotIn ?ki_NoHand_NotHeld ?ki_NoHand_Gone ?ki_NoHand_BadPairs ?ki_NoHand_NotNow ?ki_NoHand_StoreError ?kv_NoHand ?xi_IsIn ?kp_IsIn ?sb_IsIn ?ty_IsIn ?em_IsIn ?e1_IsIn ?e2_IsIn ?e4_IsIn ?e5_IsIn ?e6_IsIn ?e7_IsIn ?e8_IsIn ?ki_IsIn_BadNumber ?ki_IsIn_NoHand ?ki_IsIn_NoCell ?ki_IsIn_NoMark ?ki_IsIn_IsIn ?ki_IsIn_NotIn ?ki_IsIn_NotHeld ?ki_IsIn_Gone ?ki_IsIn_BadPairs ?ki_IsIn_NotNow ?ki_IsIn_StoreError ?kv_IsIn ?xi_NotIn ?kp_NotIn ?sb_NotIn ?ty_NotIn ?em_NotIn ?e1_NotIn ?e2_NotIn ?e4_NotIn ?e5_NotIn ?e6_NotIn ?e7_NotIn ?e8_NotIn ?ki_NotIn_BadNumber ?ki_NotIn_NoHand ?ki_NotIn_NoCell ?ki_NotIn_NoMark ?ki_NotIn_IsIn ?ki_NotIn_NotIn ?ki_NotIn_NotHeld ?ki_NotIn_Gone ?ki_NotIn_BadPairs ?ki_NotIn_NotNow ?ki_NotIn_StoreError ?kv_NotIn ?xi_NoCell ?kp_NoCell ?sb_NoCell ?ty_NoCell ?em_NoCell ?e1_NoCell ?e2_NoCell ?e4_NoCell ?e5_NoCell ?e6_NoCell ?e7_NoCell ?e8_NoCell ?ki_NoCell_BadNumber ?ki_NoCell_NoHand ?ki_NoCell_NoCell ?ki_NoCell_NoMark ?ki_NoCell_IsIn ?ki_NoCell_NotIn ?ki_NoCell_NotHeld ?ki_NoCell_Gone ?ki_NoCell_BadPairs ?ki_NoCell_NotNow ?ki_NoCell_StoreError ?kv_NoCell ?xi_BadPairs ?kp_BadPairs ?sb_BadPairs ?ty_BadPairs ?em_BadPairs ?e1_BadPairs ?e2_BadPairs ?e4_BadPairs ?e5_BadPairs ?e6_BadPairs ?e7_BadPairs ?e8_BadPairs ?ki_BadPairs_BadNumber ?ki_BadPairs_NoHand ?ki_BadPairs_NoCell ?ki_BadPairs_NoMark ?ki_BadPairs_IsIn ?ki_BadPairs_NotIn ?ki_BadPairs_NotHeld ?ki_BadPairs_Gone ?ki_BadPairs_BadPairs ?ki_BadPairs_NotNow ?ki_BadPairs_StoreError ?kv_BadPairs ?xi_NotNow ?kp_NotNow ?sb_NotNow ?ty_NotNow ?em_NotNow ?e1_NotNow ?e2_NotNow ?e4_NotNow ?e5_NotNow ?e6_NotNow ?e7_NotNow ?e8_NotNow ?ki_NotNow_BadNumber ?ki_NotNow_NoHand ?ki_NotNow_NoCell ?ki_NotNow_NoMark ?ki_NotNow_IsIn ?ki_NotNow_NotIn ?ki_NotNow_NotHeld ?ki_NotNow_Gone ?ki_NotNow_BadPairs ?ki_NotNow_NotNow ?ki_NotNow_StoreError ?kv_NotNow ?xi_BadNumber ?kp_BadNumber ?sb_BadNumber ?ty_BadNumber ?em_BadNumber ?e1_BadNumber ?e2_BadNumber ?e4_BadNumber ?e5_BadNumber ?e6_BadNumber ?e7_BadNumber ?e8_BadNumber ?ki_BadNumber_BadNumber ?ki_BadNumber_NoHand ?ki_BadNumber_NoCell ?ki_BadNumber_NoMark ?ki_BadNumber_IsIn ?ki_BadNumber_NotIn ?ki_BadNumber_NotHeld ?ki_BadNumber_Gone ?ki_BadNumber_BadPairs ?ki_BadNumber_NotNow ?ki_BadNumber_StoreError ?kv_BadNumber ?ko_Sides_Sides ?ko_Twice_Sides ?ih_Sides ?io_Sides ?ih_Twice ?io_Twice ?ig_get ?ig_tk ?am_Sides_look_hand ?am_Sides_enter ?am_Sides_look_in ?am_Sides_leave ?am_Sides_read ?am_Sides_look_pairs ?am_Sides_put_all ?am_Sides_begin ?am_Sides_turn ?am_Sides_finish ?am_Sides_hands_on ?am_Twice_look_hand ?am_Twice_begin_read ?am_Twice_look_cell ?am_Twice_take ?am_Twice_sure ?am_Twice_put ?am_Twice_begin_write ?am_Twice_end_write ?am_Twice_number_now ?im_Sides_look_hand ?im_Sides_enter ?im_Sides_look_in ?im_Sides_leave ?im_Sides_read ?im_Sides_look_pairs ?im_Sides_put_all ?im_Sides_begin ?im_Sides_turn ?im_Sides_finish ?im_Sides_hands_on ?im_Twice_look_hand ?im_Twice_begin_read ?im_Twice_look_cell ?im_Twice_take ?im_Twice_sure ?im_Twice_put ?im_Twice_begin_write ?im_Twice_end_write ?im_Twice_number_now ?a__law_town ?l__law_town ?c__law_town ?k__law_town ?a_is_whole ?l_is_whole ?c_is_whole ?k_is_whole ?a_look_number ?l_look_number ?c_look_number ?k_look_number ?l_Twice_init ?lt_Twice_init ?c_Twice_init ?k_Twice_init ?l_Sides_init ?lt_Sides_init ?c_Sides_init ?k_Sides_init ?a__law_draw ?l__law_draw ?c__law_draw ?k__law_draw ?a__law_pick ?l__law_pick ?c__law_pick ?k__law_pick ?l_Sides_look_hand ?c_Sides_look_hand ?k_Sides_look_hand ?l_Sides_enter ?c_Sides_enter ?k_Sides_enter ?a__law_odd ?l__law_odd ?c__law_odd ?k__law_odd ?l_Sides_look_in ?c_Sides_look_in ?k_Sides_look_in ?l_Sides_leave ?c_Sides_leave ?k_Sides_leave ?l_Sides_read ?c_Sides_read ?k_Sides_read ?l_Sides_look_pairs ?c_Sides_look_pairs ?k_Sides_look_pairs ?l_Sides_put_all ?c_Sides_put_all ?k_Sides_put_all ?l_Sides_begin ?c_Sides_begin ?k_Sides_begin ?l_Sides_turn ?c_Sides_turn ?k_Sides_turn ?l_Sides_finish ?c_Sides_finish ?k_Sides_finish ?l_Sides_hands_on ?c_Sides_hands_on ?k_Sides_hands_on ?a__law_did ?l__law_did ?c__law_did ?k__law_did ?l_Twice_look_hand ?c_Twice_look_hand ?k_Twice_look_hand ?l_Twice_begin_read ?c_Twice_begin_read ?k_Twice_begin_read ?l_Twice_look_cell ?c_Twice_look_cell ?k_Twice_look_cell ?l_Twice_take ?c_Twice_take ?k_Twice_take ?l_Twice_sure ?c_Twice_sure ?k_Twice_sure ?l_Twice_put ?c_Twice_put ?k_Twice_put ?l_Twice_begin_write ?c_Twice_begin_write ?k_Twice_begin_write ?l_Twice_end_write ?c_Twice_end_write ?k_Twice_end_write ?a__law_does ?l__law_does ?c__law_does ?k__law_does ?a__law_refusal ?l__law_refusal ?c__law_refusal ?k__law_refusal ?a__law_asked ?l__law_asked ?c__law_asked ?k__law_asked ?l_Twice_number_now ?c_Twice_number_now ?k_Twice_number_now ?a_law ?l_law ?c_law ?k_law ?z_ValueError ?z_all ?z_bool ?z_int ?z_isinstance ?z_len ?z_list ?z_range ?z_sorted ?z_tuple ?zk_MOST_CELLS ?zk_MOST_HANDS ?zk_MOST_VALUE
    (case aC_Twice => k_is)
    (case aC_Sides => k_is)
    (case aC_NoHand => k_is)
    (case aC_IsIn => k_is)
    (case aC_NotIn => k_is)
    (case aC_NoCell => k_is)
    (case aC_BadPairs => k_is)
    (case aC_NotNow => k_is)
    (case aC_BadNumber => k_is)
    (case aC_NoMark => k_is)
    (case aC_Gone => k_is)
    (case aC_NotHeld => k_is)
    (case aC_StoreError => k_is)
    (case pg_Twice => k_is)
    (case hd_Twice => k_is)
    (case po_Twice => k_is)
    (case sa_Twice => k_is)
    (case mk_Twice => k_is)
    (case kc_Twice => k_is)
    (case ai_Twice => k_is)
    (case ii_Twice => k_is)
    (case na_Twice_hands => k_is)
    (case na_Twice_cells => k_is)
    (case na_Twice_number => k_is)
    (case na_Twice_first => k_is)
    (case pg_Sides => k_is)
    (case hd_Sides => k_is)
    (case po_Sides => k_is)
    (case sa_Sides => k_is)
    (case mk_Sides => k_is)
    (case kc_Sides => k_is)
    (case ai_Sides => k_is)
    (case ii_Sides => k_is)
    (case na_Sides_hands => k_is)
    (case na_Sides_sides => k_is)
    (case na_Sides_open_side => k_is)
    (case na_Sides_where => k_is)
    (case na_Sides_under_way => k_is)
    (case na_Sides_far => k_is)
    (case xi_NoHand => k_exc)
    (case kp_NoHand => k_is)
    (case sb_NoHand => k_is)
    (case ty_NoHand => k_is)
    (case em_NoHand => kts_exm)
    (case e1_NoHand => k_is)
    (case e2_NoHand => k_is)
    (case e4_NoHand => k_is)
    (case e5_NoHand => k_is)
    (case e6_NoHand => k_is)
    (case e7_NoHand => k_is)
    (case e8_NoHand => k_is)
    (case ki_NoHand_BadNumber => kit_is)
    (case ki_NoHand_NoHand => kit_is)
    (case ki_NoHand_NoCell => kit_is)
    (case ki_NoHand_NoMark => kit_is)
    (case ki_NoHand_IsIn => kit_is)
    (case ki_NoHand_NotIn => kit_is)
    (case ki_NoHand_NotHeld => kit_is)
    (case ki_NoHand_Gone => kit_is)
    (case ki_NoHand_BadPairs => kit_is)
    (case ki_NoHand_NotNow => kit_is)
    (case ki_NoHand_StoreError => kit_is)
    (case kv_NoHand => kit_is)
    (case xi_IsIn => k_exc)
    (case kp_IsIn => k_is)
    (case sb_IsIn => k_is)
    (case ty_IsIn => k_is)
    (case em_IsIn => kts_exm)
    (case e1_IsIn => k_is)
    (case e2_IsIn => k_is)
    (case e4_IsIn => k_is)
    (case e5_IsIn => k_is)
    (case e6_IsIn => k_is)
    (case e7_IsIn => k_is)
    (case e8_IsIn => k_is)
    (case ki_IsIn_BadNumber => kit_is)
    (case ki_IsIn_NoHand => kit_is)
    (case ki_IsIn_NoCell => kit_is)
    (case ki_IsIn_NoMark => kit_is)
    (case ki_IsIn_IsIn => kit_is)
    (case ki_IsIn_NotIn => kit_is)
    (case ki_IsIn_NotHeld => kit_is)
    (case ki_IsIn_Gone => kit_is)
    (case ki_IsIn_BadPairs => kit_is)
    (case ki_IsIn_NotNow => kit_is)
    (case ki_IsIn_StoreError => kit_is)
    (case kv_IsIn => kit_is)
    (case xi_NotIn => k_exc)
    (case kp_NotIn => k_is)
    (case sb_NotIn => k_is)
    (case ty_NotIn => k_is)
    (case em_NotIn => kts_exm)
    (case e1_NotIn => k_is)
    (case e2_NotIn => k_is)
    (case e4_NotIn => k_is)
    (case e5_NotIn => k_is)
    (case e6_NotIn => k_is)
    (case e7_NotIn => k_is)
    (case e8_NotIn => k_is)
    (case ki_NotIn_BadNumber => kit_is)
    (case ki_NotIn_NoHand => kit_is)
    (case ki_NotIn_NoCell => kit_is)
    (case ki_NotIn_NoMark => kit_is)
    (case ki_NotIn_IsIn => kit_is)
    (case ki_NotIn_NotIn => kit_is)
    (case ki_NotIn_NotHeld => kit_is)
    (case ki_NotIn_Gone => kit_is)
    (case ki_NotIn_BadPairs => kit_is)
    (case ki_NotIn_NotNow => kit_is)
    (case ki_NotIn_StoreError => kit_is)
    (case kv_NotIn => kit_is)
    (case xi_NoCell => k_exc)
    (case kp_NoCell => k_is)
    (case sb_NoCell => k_is)
    (case ty_NoCell => k_is)
    (case em_NoCell => kts_exm)
    (case e1_NoCell => k_is)
    (case e2_NoCell => k_is)
    (case e4_NoCell => k_is)
    (case e5_NoCell => k_is)
    (case e6_NoCell => k_is)
    (case e7_NoCell => k_is)
    (case e8_NoCell => k_is)
    (case ki_NoCell_BadNumber => kit_is)
    (case ki_NoCell_NoHand => kit_is)
    (case ki_NoCell_NoCell => kit_is)
    (case ki_NoCell_NoMark => kit_is)
    (case ki_NoCell_IsIn => kit_is)
    (case ki_NoCell_NotIn => kit_is)
    (case ki_NoCell_NotHeld => kit_is)
    (case ki_NoCell_Gone => kit_is)
    (case ki_NoCell_BadPairs => kit_is)
    (case ki_NoCell_NotNow => kit_is)
    (case ki_NoCell_StoreError => kit_is)
    (case kv_NoCell => kit_is)
    (case xi_BadPairs => k_exc)
    (case kp_BadPairs => k_is)
    (case sb_BadPairs => k_is)
    (case ty_BadPairs => k_is)
    (case em_BadPairs => kts_exm)
    (case e1_BadPairs => k_is)
    (case e2_BadPairs => k_is)
    (case e4_BadPairs => k_is)
    (case e5_BadPairs => k_is)
    (case e6_BadPairs => k_is)
    (case e7_BadPairs => k_is)
    (case e8_BadPairs => k_is)
    (case ki_BadPairs_BadNumber => kit_is)
    (case ki_BadPairs_NoHand => kit_is)
    (case ki_BadPairs_NoCell => kit_is)
    (case ki_BadPairs_NoMark => kit_is)
    (case ki_BadPairs_IsIn => kit_is)
    (case ki_BadPairs_NotIn => kit_is)
    (case ki_BadPairs_NotHeld => kit_is)
    (case ki_BadPairs_Gone => kit_is)
    (case ki_BadPairs_BadPairs => kit_is)
    (case ki_BadPairs_NotNow => kit_is)
    (case ki_BadPairs_StoreError => kit_is)
    (case kv_BadPairs => kit_is)
    (case xi_NotNow => k_exc)
    (case kp_NotNow => k_is)
    (case sb_NotNow => k_is)
    (case ty_NotNow => k_is)
    (case em_NotNow => kts_exm)
    (case e1_NotNow => k_is)
    (case e2_NotNow => k_is)
    (case e4_NotNow => k_is)
    (case e5_NotNow => k_is)
    (case e6_NotNow => k_is)
    (case e7_NotNow => k_is)
    (case e8_NotNow => k_is)
    (case ki_NotNow_BadNumber => kit_is)
    (case ki_NotNow_NoHand => kit_is)
    (case ki_NotNow_NoCell => kit_is)
    (case ki_NotNow_NoMark => kit_is)
    (case ki_NotNow_IsIn => kit_is)
    (case ki_NotNow_NotIn => kit_is)
    (case ki_NotNow_NotHeld => kit_is)
    (case ki_NotNow_Gone => kit_is)
    (case ki_NotNow_BadPairs => kit_is)
    (case ki_NotNow_NotNow => kit_is)
    (case ki_NotNow_StoreError => kit_is)
    (case kv_NotNow => kit_is)
    (case xi_BadNumber => k_exc)
    (case kp_BadNumber => k_is)
    (case sb_BadNumber => k_is)
    (case ty_BadNumber => k_is)
    (case em_BadNumber => kts_exm)
    (case e1_BadNumber => k_is)
    (case e2_BadNumber => k_is)
    (case e4_BadNumber => k_is)
    (case e5_BadNumber => k_is)
    (case e6_BadNumber => k_is)
    (case e7_BadNumber => k_is)
    (case e8_BadNumber => k_is)
    (case ki_BadNumber_BadNumber => kit_is)
    (case ki_BadNumber_NoHand => kit_is)
    (case ki_BadNumber_NoCell => kit_is)
    (case ki_BadNumber_NoMark => kit_is)
    (case ki_BadNumber_IsIn => kit_is)
    (case ki_BadNumber_NotIn => kit_is)
    (case ki_BadNumber_NotHeld => kit_is)
    (case ki_BadNumber_Gone => kit_is)
    (case ki_BadNumber_BadPairs => kit_is)
    (case ki_BadNumber_NotNow => kit_is)
    (case ki_BadNumber_StoreError => kit_is)
    (case kv_BadNumber => kit_is)
    (case ko_Sides_Sides => kit_is)
    (case ko_Twice_Sides => kit_is)
    (case ih_Sides => k_is)
    (case io_Sides => k_is)
    (case ih_Twice => k_is)
    (case io_Twice => k_is)
    (case ig_get => k_is)
    (case ig_tk => k_is)
    (case am_Sides_look_hand => k_is)
    (case am_Sides_enter => k_is)
    (case am_Sides_look_in => k_is)
    (case am_Sides_leave => k_is)
    (case am_Sides_read => k_is)
    (case am_Sides_look_pairs => k_is)
    (case am_Sides_put_all => k_is)
    (case am_Sides_begin => k_is)
    (case am_Sides_turn => k_is)
    (case am_Sides_finish => k_is)
    (case am_Sides_hands_on => k_is)
    (case am_Twice_look_hand => k_is)
    (case am_Twice_begin_read => k_is)
    (case am_Twice_look_cell => k_is)
    (case am_Twice_take => k_is)
    (case am_Twice_sure => k_is)
    (case am_Twice_put => k_is)
    (case am_Twice_begin_write => k_is)
    (case am_Twice_end_write => k_is)
    (case am_Twice_number_now => k_is)
    (case im_Sides_look_hand => k_is)
    (case im_Sides_enter => k_is)
    (case im_Sides_look_in => k_is)
    (case im_Sides_leave => k_is)
    (case im_Sides_read => k_is)
    (case im_Sides_look_pairs => k_is)
    (case im_Sides_put_all => k_is)
    (case im_Sides_begin => k_is)
    (case im_Sides_turn => k_is)
    (case im_Sides_finish => k_is)
    (case im_Sides_hands_on => k_is)
    (case im_Twice_look_hand => k_is)
    (case im_Twice_begin_read => k_is)
    (case im_Twice_look_cell => k_is)
    (case im_Twice_take => k_is)
    (case im_Twice_sure => k_is)
    (case im_Twice_put => k_is)
    (case im_Twice_begin_write => k_is)
    (case im_Twice_end_write => k_is)
    (case im_Twice_number_now => k_is)
    (case a__law_town => k_is)
    (case l__law_town => k_is)
    (case c__law_town => k_is)
    (case k__law_town => k_is)
    (case a_is_whole => k_is)
    (case l_is_whole => k_is)
    (case c_is_whole => k_is)
    (case k_is_whole => k_is)
    (case a_look_number => k_is)
    (case l_look_number => k_is)
    (case c_look_number => k_is)
    (case k_look_number => k_is)
    (case l_Twice_init => k_is)
    (case lt_Twice_init => k_is)
    (case c_Twice_init => k_is)
    (case k_Twice_init => k_is)
    (case l_Sides_init => k_is)
    (case lt_Sides_init => k_is)
    (case c_Sides_init => k_is)
    (case k_Sides_init => k_is)
    (case a__law_draw => k_is)
    (case l__law_draw => k_is)
    (case c__law_draw => k_is)
    (case k__law_draw => k_is)
    (case a__law_pick => k_is)
    (case l__law_pick => k_is)
    (case c__law_pick => k_is)
    (case k__law_pick => k_is)
    (case l_Sides_look_hand => k_is)
    (case c_Sides_look_hand => k_is)
    (case k_Sides_look_hand => k_is)
    (case l_Sides_enter => k_is)
    (case c_Sides_enter => k_is)
    (case k_Sides_enter => k_is)
    (case a__law_odd => k_is)
    (case l__law_odd => k_is)
    (case c__law_odd => k_is)
    (case k__law_odd => k_is)
    (case l_Sides_look_in => k_is)
    (case c_Sides_look_in => k_is)
    (case k_Sides_look_in => k_is)
    (case l_Sides_leave => k_is)
    (case c_Sides_leave => k_is)
    (case k_Sides_leave => k_is)
    (case l_Sides_read => k_is)
    (case c_Sides_read => k_is)
    (case k_Sides_read => k_is)
    (case l_Sides_look_pairs => k_is)
    (case c_Sides_look_pairs => k_is)
    (case k_Sides_look_pairs => k_is)
    (case l_Sides_put_all => k_is)
    (case c_Sides_put_all => k_is)
    (case k_Sides_put_all => k_is)
    (case l_Sides_begin => k_is)
    (case c_Sides_begin => k_is)
    (case k_Sides_begin => k_is)
    (case l_Sides_turn => k_is)
    (case c_Sides_turn => k_is)
    (case k_Sides_turn => k_is)
    (case l_Sides_finish => k_is)
    (case c_Sides_finish => k_is)
    (case k_Sides_finish => k_is)
    (case l_Sides_hands_on => k_is)
    (case c_Sides_hands_on => k_is)
    (case k_Sides_hands_on => k_is)
    (case a__law_did => k_is)
    (case l__law_did => k_is)
    (case c__law_did => k_is)
    (case k__law_did => k_is)
    (case l_Twice_look_hand => k_is)
    (case c_Twice_look_hand => k_is)
    (case k_Twice_look_hand => k_is)
    (case l_Twice_begin_read => k_is)
    (case c_Twice_begin_read => k_is)
    (case k_Twice_begin_read => k_is)
    (case l_Twice_look_cell => k_is)
    (case c_Twice_look_cell => k_is)
    (case k_Twice_look_cell => k_is)
    (case l_Twice_take => k_is)
    (case c_Twice_take => k_is)
    (case k_Twice_take => k_is)
    (case l_Twice_sure => k_is)
    (case c_Twice_sure => k_is)
    (case k_Twice_sure => k_is)
    (case l_Twice_put => k_is)
    (case c_Twice_put => k_is)
    (case k_Twice_put => k_is)
    (case l_Twice_begin_write => k_is)
    (case c_Twice_begin_write => k_is)
    (case k_Twice_begin_write => k_is)
    (case l_Twice_end_write => k_is)
    (case c_Twice_end_write => k_is)
    (case k_Twice_end_write => k_is)
    (case a__law_does => k_is)
    (case l__law_does => k_is)
    (case c__law_does => k_is)
    (case k__law_does => k_is)
    (case a__law_refusal => k_is)
    (case l__law_refusal => k_is)
    (case c__law_refusal => k_is)
    (case k__law_refusal => k_is)
    (case a__law_asked => k_is)
    (case l__law_asked => k_is)
    (case c__law_asked => k_is)
    (case k__law_asked => k_is)
    (case l_Twice_number_now => k_is)
    (case c_Twice_number_now => k_is)
    (case k_Twice_number_now => k_is)
    (case a_law => k_is)
    (case l_law => k_is)
    (case c_law => k_is)
    (case k_law => k_is)
    (case z_ValueError => k_is)
    (case z_all => k_is)
    (case z_bool => k_is)
    (case z_int => k_is)
    (case z_isinstance => k_is)
    (case z_len => k_is)
    (case z_list => k_is)
    (case z_range => k_is)
    (case z_sorted => k_is)
    (case z_tuple => k_is)
    (case zk_MOST_CELLS => k_is)
    (case zk_MOST_HANDS => k_is)
    (case zk_MOST_VALUE => k_is)
