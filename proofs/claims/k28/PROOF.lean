import PyProof.Rows.All
import Wide.All
import OpenK.AllK
import Wide.FinOn
import HandS.ForMost
import HandS.IsInst
import HandS.SortInts
import HandS.Conv
import HandS.More
import HandS.ClsMeth
import HandS.Exc
import HandS.DictComp
import HandS.DictTup
import HandS.Strs
import HandS.SetFor
import HandS.SortRule
import HandS.MakeKw
import HandS.TryOnly
import HandS.Style
import KE.KDictList
import HandS.Small
import HandS.WordsExc
import HandS.ExcValue
import HandS.ExcIs
import PySem.Challenge.RW_lastreader_k28_whole_shared
set_option Elab.async false
set_option linter.all false
set_option maxRecDepth 100000
set_option maxHeartbeats 4000000
/-! The symbolic heap: what stands in H, unit by unit. -/
namespace Sy
open PySem L2
abbrev U := List (Addr × HO)
structure Has (H : Hp) (L : List U) : Prop where
  nd : (L.flatten.map (·.1)).Nodup
  at' : ∀ p ∈ L.flatten, H p.1 = some p.2
theorem Has.all {H : Hp} {L : List U} (h : Has H L) : ∀ p ∈ L.flatten, H p.1 = some p.2 := h.at'
theorem Has.set_at {H : Hp} {A : List U} {a : Addr} {o o2 : HO} {us : U} {L : List U} (h : Has H (A ++ ((a, o) :: us) :: L)) : Has (upd H a o2) (A ++ ((a, o2) :: us) :: L) := by
  have e1 : (A ++ ((a, o) :: us) :: L).flatten = A.flatten ++ (a, o) :: (us ++ L.flatten) := by simp
  have e2 : (A ++ ((a, o2) :: us) :: L).flatten = A.flatten ++ (a, o2) :: (us ++ L.flatten) := by simp
  have hn := h.nd
  have ha := h.at'
  rw [e1] at hn ha
  refine ⟨?_, ?_⟩
  · rw [e2]
    simpa using hn
  · rw [e2]
    rw [List.map_append, List.map_cons, List.nodup_append] at hn
    obtain ⟨n1, n2, n3⟩ := hn
    obtain ⟨n4, n5⟩ := List.nodup_cons.mp n2
    intro p hp
    rcases List.mem_append.mp hp with q | q
    · have ne : p.1 ≠ a := n3 p.1 (List.mem_map.mpr ⟨p, q, rfl⟩) a (List.mem_cons.mpr (.inl rfl))
      rw [upd_ne ne]
      exact ha p (List.mem_append.mpr (.inl q))
    · rcases List.mem_cons.mp q with e | q
      · subst e
        exact upd_same
      · have ne : p.1 ≠ a := fun z => n4 (List.mem_map.mpr ⟨p, q, z⟩)
        rw [upd_ne ne]
        exact ha p (List.mem_append.mpr (.inr (List.mem_cons.mpr (.inr q))))
theorem Has.nw {H : Hp} {L : List U} (h : Has H L) {p : Addr} {o : HO} (hp : H p = none) : Has (upd H p o) ([(p, o)] :: L) := by
  have np : ∀ q ∈ L.flatten, q.1 ≠ p := fun q hq => ne_of_none (h.at' q hq) hp
  refine ⟨?_, ?_⟩
  · show ((p :: L.flatten.map (·.1))).Nodup
    exact List.nodup_cons.mpr ⟨fun m => by obtain ⟨q, hq, e⟩ := List.mem_map.mp m; exact np q hq e, h.nd⟩
  · intro q hq
    have hq : q ∈ (p, o) :: L.flatten := hq
    rcases List.mem_cons.mp hq with e | hq
    · subst e
      exact upd_same
    · rw [upd_ne (np q hq)]
      exact h.at' q hq
theorem Has.nil {H : Hp} : Has H [] := ⟨List.nodup_nil, fun _ h => by cases h⟩
def Sub (T L : List U) : Prop := ∃ G, L.Perm (T ++ G)
theorem Sub.rf {L : List U} : Sub L L := ⟨[], by rw [List.append_nil]⟩
theorem Sub.skip {T L : List U} {u : U} (h : Sub T L) : Sub T (u :: L) := by
  obtain ⟨G, p⟩ := h
  exact ⟨u :: G, ((List.Perm.cons u p).trans List.perm_middle.symm)⟩
theorem Sub.pull {A : List U} {u : U} {T L : List U} (h : Sub T (A ++ L)) : Sub (u :: T) (A ++ u :: L) := by
  obtain ⟨G, p⟩ := h
  exact ⟨G, List.perm_middle.trans (List.Perm.cons u p)⟩
theorem Sub.trans {A B C : List U} (h : Sub A B) (k : Sub B C) : Sub A C := by
  obtain ⟨G, p⟩ := h
  obtain ⟨F, q⟩ := k
  refine ⟨G ++ F, q.trans ?_⟩
  rw [← List.append_assoc]
  exact p.append_right F
theorem flatten_perm {L M : List U} (p : L.Perm M) : L.flatten.Perm M.flatten := by
  induction p with
  | nil => exact List.Perm.refl _
  | cons x _ ih =>
    show (x ++ _).Perm (x ++ _)
    exact ih.append_left x
  | swap x y l =>
    show (y ++ (x ++ l.flatten)).Perm (x ++ (y ++ l.flatten))
    rw [← List.append_assoc, ← List.append_assoc]
    exact List.perm_append_comm.append_right _
  | trans _ _ a b => exact a.trans b
theorem Has.perm {H : Hp} {L M : List U} (h : Has H L) (p : L.Perm M) : Has H M :=
  ⟨((flatten_perm p).map (·.1)).nodup_iff.mp h.nd, fun q hq => h.at' q ((flatten_perm p).mem_iff.mpr hq)⟩
theorem Has.left {H : Hp} {L M : List U} (h : Has H (L ++ M)) : Has H L := by
  obtain ⟨n, a⟩ := h
  rw [List.flatten_append] at n a
  rw [List.map_append] at n
  exact ⟨(List.nodup_append.mp n).1, fun p hp => a p (List.mem_append.mpr (.inl hp))⟩
theorem Has.sub {H : Hp} {T L : List U} (h : Has H L) (s : Sub T L) : Has H T := by
  obtain ⟨G, p⟩ := s
  exact (h.perm p).left
/-- a unit is opened, closed -/
theorem Has.op {H : Hp} {A B : U} {L : List U} : Has H ((A ++ B) :: L) ↔ Has H (A :: B :: L) := by
  constructor
  · rintro ⟨n, a⟩
    exact ⟨by simpa using n, fun p hp => a p (by simpa [or_assoc] using hp)⟩
  · rintro ⟨n, a⟩
    exact ⟨by simpa using n, fun p hp => a p (by simpa [or_assoc] using hp)⟩
theorem Has.cut {H : Hp} {p : Addr × HO} {B : U} {L : List U} (h : Has H ((p :: B) :: L)) : Has H ([p] :: B :: L) := Has.op.mp h
theorem Has.glue {H : Hp} {p : Addr × HO} {B : U} {L : List U} (h : Has H ([p] :: B :: L)) : Has H ((p :: B) :: L) := Has.op.mpr h
theorem Has.nilU {H : Hp} {L : List U} : Has H ([] :: L) ↔ Has H L := ⟨fun ⟨n, a⟩ => ⟨n, a⟩, fun ⟨n, a⟩ => ⟨n, a⟩⟩
theorem Has.cut2 {H : Hp} {p q : Addr × HO} {B : U} {L : List U} (h : Has H ((p :: q :: B) :: L)) : Has H ([p] :: [q] :: B :: L) := Has.perm (Has.cut (Has.perm h.cut (List.Perm.swap _ _ _))) ((List.Perm.cons _ (List.Perm.swap _ _ _)).trans ((List.Perm.swap _ _ _)))
theorem Has.glue2 {H : Hp} {p q : Addr × HO} {B : U} {L : List U} (h : Has H ([p] :: [q] :: B :: L)) : Has H ((p :: q :: B) :: L) := Has.glue (Has.perm (Has.glue (Has.perm h ((List.Perm.swap _ _ _).trans (List.Perm.cons _ (List.Perm.swap _ _ _))))) (List.Perm.swap _ _ _))
theorem Has.g0 {H : Hp} {a : Addr} {o : HO} {us : U} {L : List U} (h : Has H (((a, o) :: us) :: L)) : H a = some o := h.2 (a, o) (by simp)
theorem Has.g1 {H : Hp} {u0 : U} {a : Addr} {o : HO} {us : U} {L : List U} (h : Has H (u0 :: ((a, o) :: us) :: L)) : H a = some o := h.2 (a, o) (by simp)
theorem Has.g2 {H : Hp} {u0 u1 : U} {a : Addr} {o : HO} {us : U} {L : List U} (h : Has H (u0 :: u1 :: ((a, o) :: us) :: L)) : H a = some o := h.2 (a, o) (by simp)
theorem Has.g3 {H : Hp} {u0 u1 u2 : U} {a : Addr} {o : HO} {us : U} {L : List U} (h : Has H (u0 :: u1 :: u2 :: ((a, o) :: us) :: L)) : H a = some o := h.2 (a, o) (by simp)
theorem Has.g4 {H : Hp} {u0 u1 u2 u3 : U} {a : Addr} {o : HO} {us : U} {L : List U} (h : Has H (u0 :: u1 :: u2 :: u3 :: ((a, o) :: us) :: L)) : H a = some o := h.2 (a, o) (by simp)
theorem Has.g5 {H : Hp} {u0 u1 u2 u3 u4 : U} {a : Addr} {o : HO} {us : U} {L : List U} (h : Has H (u0 :: u1 :: u2 :: u3 :: u4 :: ((a, o) :: us) :: L)) : H a = some o := h.2 (a, o) (by simp)
theorem Has.g6 {H : Hp} {u0 u1 u2 u3 u4 u5 : U} {a : Addr} {o : HO} {us : U} {L : List U} (h : Has H (u0 :: u1 :: u2 :: u3 :: u4 :: u5 :: ((a, o) :: us) :: L)) : H a = some o := h.2 (a, o) (by simp)
theorem Has.g7 {H : Hp} {u0 u1 u2 u3 u4 u5 u6 : U} {a : Addr} {o : HO} {us : U} {L : List U} (h : Has H (u0 :: u1 :: u2 :: u3 :: u4 :: u5 :: u6 :: ((a, o) :: us) :: L)) : H a = some o := h.2 (a, o) (by simp)
theorem Has.g8 {H : Hp} {u0 u1 u2 u3 u4 u5 u6 u7 : U} {a : Addr} {o : HO} {us : U} {L : List U} (h : Has H (u0 :: u1 :: u2 :: u3 :: u4 :: u5 :: u6 :: u7 :: ((a, o) :: us) :: L)) : H a = some o := h.2 (a, o) (by simp)
theorem Has.g9 {H : Hp} {u0 u1 u2 u3 u4 u5 u6 u7 u8 : U} {a : Addr} {o : HO} {us : U} {L : List U} (h : Has H (u0 :: u1 :: u2 :: u3 :: u4 :: u5 :: u6 :: u7 :: u8 :: ((a, o) :: us) :: L)) : H a = some o := h.2 (a, o) (by simp)
theorem Has.g10 {H : Hp} {u0 u1 u2 u3 u4 u5 u6 u7 u8 u9 : U} {a : Addr} {o : HO} {us : U} {L : List U} (h : Has H (u0 :: u1 :: u2 :: u3 :: u4 :: u5 :: u6 :: u7 :: u8 :: u9 :: ((a, o) :: us) :: L)) : H a = some o := h.2 (a, o) (by simp)
theorem Has.g11 {H : Hp} {u0 u1 u2 u3 u4 u5 u6 u7 u8 u9 u10 : U} {a : Addr} {o : HO} {us : U} {L : List U} (h : Has H (u0 :: u1 :: u2 :: u3 :: u4 :: u5 :: u6 :: u7 :: u8 :: u9 :: u10 :: ((a, o) :: us) :: L)) : H a = some o := h.2 (a, o) (by simp)
theorem Has.g12 {H : Hp} {u0 u1 u2 u3 u4 u5 u6 u7 u8 u9 u10 u11 : U} {a : Addr} {o : HO} {us : U} {L : List U} (h : Has H (u0 :: u1 :: u2 :: u3 :: u4 :: u5 :: u6 :: u7 :: u8 :: u9 :: u10 :: u11 :: ((a, o) :: us) :: L)) : H a = some o := h.2 (a, o) (by simp)
theorem Has.g13 {H : Hp} {u0 u1 u2 u3 u4 u5 u6 u7 u8 u9 u10 u11 u12 : U} {a : Addr} {o : HO} {us : U} {L : List U} (h : Has H (u0 :: u1 :: u2 :: u3 :: u4 :: u5 :: u6 :: u7 :: u8 :: u9 :: u10 :: u11 :: u12 :: ((a, o) :: us) :: L)) : H a = some o := h.2 (a, o) (by simp)
theorem Has.g14 {H : Hp} {u0 u1 u2 u3 u4 u5 u6 u7 u8 u9 u10 u11 u12 u13 : U} {a : Addr} {o : HO} {us : U} {L : List U} (h : Has H (u0 :: u1 :: u2 :: u3 :: u4 :: u5 :: u6 :: u7 :: u8 :: u9 :: u10 :: u11 :: u12 :: u13 :: ((a, o) :: us) :: L)) : H a = some o := h.2 (a, o) (by simp)
theorem Has.g15 {H : Hp} {u0 u1 u2 u3 u4 u5 u6 u7 u8 u9 u10 u11 u12 u13 u14 : U} {a : Addr} {o : HO} {us : U} {L : List U} (h : Has H (u0 :: u1 :: u2 :: u3 :: u4 :: u5 :: u6 :: u7 :: u8 :: u9 :: u10 :: u11 :: u12 :: u13 :: u14 :: ((a, o) :: us) :: L)) : H a = some o := h.2 (a, o) (by simp)
theorem Has.s0 {H : Hp} {a : Addr} {o o2 : HO} {us : U} {L : List U} (h : Has H (((a, o) :: us) :: L)) : Has (upd H a o2) (((a, o2) :: us) :: L) := Has.set_at (A := []) h
theorem Has.s1 {H : Hp} {u0 : U} {a : Addr} {o o2 : HO} {us : U} {L : List U} (h : Has H (u0 :: ((a, o) :: us) :: L)) : Has (upd H a o2) (u0 :: ((a, o2) :: us) :: L) := Has.set_at (A := [u0]) h
theorem Has.s2 {H : Hp} {u0 u1 : U} {a : Addr} {o o2 : HO} {us : U} {L : List U} (h : Has H (u0 :: u1 :: ((a, o) :: us) :: L)) : Has (upd H a o2) (u0 :: u1 :: ((a, o2) :: us) :: L) := Has.set_at (A := [u0, u1]) h
theorem Has.s3 {H : Hp} {u0 u1 u2 : U} {a : Addr} {o o2 : HO} {us : U} {L : List U} (h : Has H (u0 :: u1 :: u2 :: ((a, o) :: us) :: L)) : Has (upd H a o2) (u0 :: u1 :: u2 :: ((a, o2) :: us) :: L) := Has.set_at (A := [u0, u1, u2]) h
theorem Has.s4 {H : Hp} {u0 u1 u2 u3 : U} {a : Addr} {o o2 : HO} {us : U} {L : List U} (h : Has H (u0 :: u1 :: u2 :: u3 :: ((a, o) :: us) :: L)) : Has (upd H a o2) (u0 :: u1 :: u2 :: u3 :: ((a, o2) :: us) :: L) := Has.set_at (A := [u0, u1, u2, u3]) h
theorem Has.s5 {H : Hp} {u0 u1 u2 u3 u4 : U} {a : Addr} {o o2 : HO} {us : U} {L : List U} (h : Has H (u0 :: u1 :: u2 :: u3 :: u4 :: ((a, o) :: us) :: L)) : Has (upd H a o2) (u0 :: u1 :: u2 :: u3 :: u4 :: ((a, o2) :: us) :: L) := Has.set_at (A := [u0, u1, u2, u3, u4]) h
theorem Has.s6 {H : Hp} {u0 u1 u2 u3 u4 u5 : U} {a : Addr} {o o2 : HO} {us : U} {L : List U} (h : Has H (u0 :: u1 :: u2 :: u3 :: u4 :: u5 :: ((a, o) :: us) :: L)) : Has (upd H a o2) (u0 :: u1 :: u2 :: u3 :: u4 :: u5 :: ((a, o2) :: us) :: L) := Has.set_at (A := [u0, u1, u2, u3, u4, u5]) h
theorem Has.s7 {H : Hp} {u0 u1 u2 u3 u4 u5 u6 : U} {a : Addr} {o o2 : HO} {us : U} {L : List U} (h : Has H (u0 :: u1 :: u2 :: u3 :: u4 :: u5 :: u6 :: ((a, o) :: us) :: L)) : Has (upd H a o2) (u0 :: u1 :: u2 :: u3 :: u4 :: u5 :: u6 :: ((a, o2) :: us) :: L) := Has.set_at (A := [u0, u1, u2, u3, u4, u5, u6]) h
theorem Has.s8 {H : Hp} {u0 u1 u2 u3 u4 u5 u6 u7 : U} {a : Addr} {o o2 : HO} {us : U} {L : List U} (h : Has H (u0 :: u1 :: u2 :: u3 :: u4 :: u5 :: u6 :: u7 :: ((a, o) :: us) :: L)) : Has (upd H a o2) (u0 :: u1 :: u2 :: u3 :: u4 :: u5 :: u6 :: u7 :: ((a, o2) :: us) :: L) := Has.set_at (A := [u0, u1, u2, u3, u4, u5, u6, u7]) h
theorem Has.s9 {H : Hp} {u0 u1 u2 u3 u4 u5 u6 u7 u8 : U} {a : Addr} {o o2 : HO} {us : U} {L : List U} (h : Has H (u0 :: u1 :: u2 :: u3 :: u4 :: u5 :: u6 :: u7 :: u8 :: ((a, o) :: us) :: L)) : Has (upd H a o2) (u0 :: u1 :: u2 :: u3 :: u4 :: u5 :: u6 :: u7 :: u8 :: ((a, o2) :: us) :: L) := Has.set_at (A := [u0, u1, u2, u3, u4, u5, u6, u7, u8]) h
theorem Has.s10 {H : Hp} {u0 u1 u2 u3 u4 u5 u6 u7 u8 u9 : U} {a : Addr} {o o2 : HO} {us : U} {L : List U} (h : Has H (u0 :: u1 :: u2 :: u3 :: u4 :: u5 :: u6 :: u7 :: u8 :: u9 :: ((a, o) :: us) :: L)) : Has (upd H a o2) (u0 :: u1 :: u2 :: u3 :: u4 :: u5 :: u6 :: u7 :: u8 :: u9 :: ((a, o2) :: us) :: L) := Has.set_at (A := [u0, u1, u2, u3, u4, u5, u6, u7, u8, u9]) h
theorem Has.s11 {H : Hp} {u0 u1 u2 u3 u4 u5 u6 u7 u8 u9 u10 : U} {a : Addr} {o o2 : HO} {us : U} {L : List U} (h : Has H (u0 :: u1 :: u2 :: u3 :: u4 :: u5 :: u6 :: u7 :: u8 :: u9 :: u10 :: ((a, o) :: us) :: L)) : Has (upd H a o2) (u0 :: u1 :: u2 :: u3 :: u4 :: u5 :: u6 :: u7 :: u8 :: u9 :: u10 :: ((a, o2) :: us) :: L) := Has.set_at (A := [u0, u1, u2, u3, u4, u5, u6, u7, u8, u9, u10]) h
theorem Has.s12 {H : Hp} {u0 u1 u2 u3 u4 u5 u6 u7 u8 u9 u10 u11 : U} {a : Addr} {o o2 : HO} {us : U} {L : List U} (h : Has H (u0 :: u1 :: u2 :: u3 :: u4 :: u5 :: u6 :: u7 :: u8 :: u9 :: u10 :: u11 :: ((a, o) :: us) :: L)) : Has (upd H a o2) (u0 :: u1 :: u2 :: u3 :: u4 :: u5 :: u6 :: u7 :: u8 :: u9 :: u10 :: u11 :: ((a, o2) :: us) :: L) := Has.set_at (A := [u0, u1, u2, u3, u4, u5, u6, u7, u8, u9, u10, u11]) h
theorem Has.s13 {H : Hp} {u0 u1 u2 u3 u4 u5 u6 u7 u8 u9 u10 u11 u12 : U} {a : Addr} {o o2 : HO} {us : U} {L : List U} (h : Has H (u0 :: u1 :: u2 :: u3 :: u4 :: u5 :: u6 :: u7 :: u8 :: u9 :: u10 :: u11 :: u12 :: ((a, o) :: us) :: L)) : Has (upd H a o2) (u0 :: u1 :: u2 :: u3 :: u4 :: u5 :: u6 :: u7 :: u8 :: u9 :: u10 :: u11 :: u12 :: ((a, o2) :: us) :: L) := Has.set_at (A := [u0, u1, u2, u3, u4, u5, u6, u7, u8, u9, u10, u11, u12]) h
theorem Has.s14 {H : Hp} {u0 u1 u2 u3 u4 u5 u6 u7 u8 u9 u10 u11 u12 u13 : U} {a : Addr} {o o2 : HO} {us : U} {L : List U} (h : Has H (u0 :: u1 :: u2 :: u3 :: u4 :: u5 :: u6 :: u7 :: u8 :: u9 :: u10 :: u11 :: u12 :: u13 :: ((a, o) :: us) :: L)) : Has (upd H a o2) (u0 :: u1 :: u2 :: u3 :: u4 :: u5 :: u6 :: u7 :: u8 :: u9 :: u10 :: u11 :: u12 :: u13 :: ((a, o2) :: us) :: L) := Has.set_at (A := [u0, u1, u2, u3, u4, u5, u6, u7, u8, u9, u10, u11, u12, u13]) h
theorem Has.s15 {H : Hp} {u0 u1 u2 u3 u4 u5 u6 u7 u8 u9 u10 u11 u12 u13 u14 : U} {a : Addr} {o o2 : HO} {us : U} {L : List U} (h : Has H (u0 :: u1 :: u2 :: u3 :: u4 :: u5 :: u6 :: u7 :: u8 :: u9 :: u10 :: u11 :: u12 :: u13 :: u14 :: ((a, o) :: us) :: L)) : Has (upd H a o2) (u0 :: u1 :: u2 :: u3 :: u4 :: u5 :: u6 :: u7 :: u8 :: u9 :: u10 :: u11 :: u12 :: u13 :: u14 :: ((a, o2) :: us) :: L) := Has.set_at (A := [u0, u1, u2, u3, u4, u5, u6, u7, u8, u9, u10, u11, u12, u13, u14]) h
theorem Sub.p0 {u : U} {T L : List U} (h : Sub T L) : Sub (u :: T) (u :: L) := Sub.pull (A := []) h
theorem Sub.p1 {u0 u : U} {T L : List U} (h : Sub T (u0 :: L)) : Sub (u :: T) (u0 :: u :: L) := Sub.pull (A := [u0]) h
theorem Sub.p2 {u0 u1 u : U} {T L : List U} (h : Sub T (u0 :: u1 :: L)) : Sub (u :: T) (u0 :: u1 :: u :: L) := Sub.pull (A := [u0, u1]) h
theorem Sub.p3 {u0 u1 u2 u : U} {T L : List U} (h : Sub T (u0 :: u1 :: u2 :: L)) : Sub (u :: T) (u0 :: u1 :: u2 :: u :: L) := Sub.pull (A := [u0, u1, u2]) h
theorem Sub.p4 {u0 u1 u2 u3 u : U} {T L : List U} (h : Sub T (u0 :: u1 :: u2 :: u3 :: L)) : Sub (u :: T) (u0 :: u1 :: u2 :: u3 :: u :: L) := Sub.pull (A := [u0, u1, u2, u3]) h
theorem Sub.p5 {u0 u1 u2 u3 u4 u : U} {T L : List U} (h : Sub T (u0 :: u1 :: u2 :: u3 :: u4 :: L)) : Sub (u :: T) (u0 :: u1 :: u2 :: u3 :: u4 :: u :: L) := Sub.pull (A := [u0, u1, u2, u3, u4]) h
theorem Sub.p6 {u0 u1 u2 u3 u4 u5 u : U} {T L : List U} (h : Sub T (u0 :: u1 :: u2 :: u3 :: u4 :: u5 :: L)) : Sub (u :: T) (u0 :: u1 :: u2 :: u3 :: u4 :: u5 :: u :: L) := Sub.pull (A := [u0, u1, u2, u3, u4, u5]) h
theorem Sub.p7 {u0 u1 u2 u3 u4 u5 u6 u : U} {T L : List U} (h : Sub T (u0 :: u1 :: u2 :: u3 :: u4 :: u5 :: u6 :: L)) : Sub (u :: T) (u0 :: u1 :: u2 :: u3 :: u4 :: u5 :: u6 :: u :: L) := Sub.pull (A := [u0, u1, u2, u3, u4, u5, u6]) h
theorem Sub.p8 {u0 u1 u2 u3 u4 u5 u6 u7 u : U} {T L : List U} (h : Sub T (u0 :: u1 :: u2 :: u3 :: u4 :: u5 :: u6 :: u7 :: L)) : Sub (u :: T) (u0 :: u1 :: u2 :: u3 :: u4 :: u5 :: u6 :: u7 :: u :: L) := Sub.pull (A := [u0, u1, u2, u3, u4, u5, u6, u7]) h
theorem Sub.p9 {u0 u1 u2 u3 u4 u5 u6 u7 u8 u : U} {T L : List U} (h : Sub T (u0 :: u1 :: u2 :: u3 :: u4 :: u5 :: u6 :: u7 :: u8 :: L)) : Sub (u :: T) (u0 :: u1 :: u2 :: u3 :: u4 :: u5 :: u6 :: u7 :: u8 :: u :: L) := Sub.pull (A := [u0, u1, u2, u3, u4, u5, u6, u7, u8]) h
theorem Sub.p10 {u0 u1 u2 u3 u4 u5 u6 u7 u8 u9 u : U} {T L : List U} (h : Sub T (u0 :: u1 :: u2 :: u3 :: u4 :: u5 :: u6 :: u7 :: u8 :: u9 :: L)) : Sub (u :: T) (u0 :: u1 :: u2 :: u3 :: u4 :: u5 :: u6 :: u7 :: u8 :: u9 :: u :: L) := Sub.pull (A := [u0, u1, u2, u3, u4, u5, u6, u7, u8, u9]) h
theorem Sub.p11 {u0 u1 u2 u3 u4 u5 u6 u7 u8 u9 u10 u : U} {T L : List U} (h : Sub T (u0 :: u1 :: u2 :: u3 :: u4 :: u5 :: u6 :: u7 :: u8 :: u9 :: u10 :: L)) : Sub (u :: T) (u0 :: u1 :: u2 :: u3 :: u4 :: u5 :: u6 :: u7 :: u8 :: u9 :: u10 :: u :: L) := Sub.pull (A := [u0, u1, u2, u3, u4, u5, u6, u7, u8, u9, u10]) h
theorem Sub.p12 {u0 u1 u2 u3 u4 u5 u6 u7 u8 u9 u10 u11 u : U} {T L : List U} (h : Sub T (u0 :: u1 :: u2 :: u3 :: u4 :: u5 :: u6 :: u7 :: u8 :: u9 :: u10 :: u11 :: L)) : Sub (u :: T) (u0 :: u1 :: u2 :: u3 :: u4 :: u5 :: u6 :: u7 :: u8 :: u9 :: u10 :: u11 :: u :: L) := Sub.pull (A := [u0, u1, u2, u3, u4, u5, u6, u7, u8, u9, u10, u11]) h
theorem Sub.p13 {u0 u1 u2 u3 u4 u5 u6 u7 u8 u9 u10 u11 u12 u : U} {T L : List U} (h : Sub T (u0 :: u1 :: u2 :: u3 :: u4 :: u5 :: u6 :: u7 :: u8 :: u9 :: u10 :: u11 :: u12 :: L)) : Sub (u :: T) (u0 :: u1 :: u2 :: u3 :: u4 :: u5 :: u6 :: u7 :: u8 :: u9 :: u10 :: u11 :: u12 :: u :: L) := Sub.pull (A := [u0, u1, u2, u3, u4, u5, u6, u7, u8, u9, u10, u11, u12]) h
theorem Sub.p14 {u0 u1 u2 u3 u4 u5 u6 u7 u8 u9 u10 u11 u12 u13 u : U} {T L : List U} (h : Sub T (u0 :: u1 :: u2 :: u3 :: u4 :: u5 :: u6 :: u7 :: u8 :: u9 :: u10 :: u11 :: u12 :: u13 :: L)) : Sub (u :: T) (u0 :: u1 :: u2 :: u3 :: u4 :: u5 :: u6 :: u7 :: u8 :: u9 :: u10 :: u11 :: u12 :: u13 :: u :: L) := Sub.pull (A := [u0, u1, u2, u3, u4, u5, u6, u7, u8, u9, u10, u11, u12, u13]) h
theorem Sub.p15 {u0 u1 u2 u3 u4 u5 u6 u7 u8 u9 u10 u11 u12 u13 u14 u : U} {T L : List U} (h : Sub T (u0 :: u1 :: u2 :: u3 :: u4 :: u5 :: u6 :: u7 :: u8 :: u9 :: u10 :: u11 :: u12 :: u13 :: u14 :: L)) : Sub (u :: T) (u0 :: u1 :: u2 :: u3 :: u4 :: u5 :: u6 :: u7 :: u8 :: u9 :: u10 :: u11 :: u12 :: u13 :: u14 :: u :: L) := Sub.pull (A := [u0, u1, u2, u3, u4, u5, u6, u7, u8, u9, u10, u11, u12, u13, u14]) h
/-! Steps: a reading, rule by rule, over the symbolic heap. -/
theorem Has.cut3 {H : Hp} {p q r : Addr × HO} {B : U} {L : List U} (h : Has H ((p :: q :: r :: B) :: L)) : Has H ([p] :: [q] :: [r] :: B :: L) := (Has.cut (h.cut2.sub (Sub.p2 Sub.rf))).sub (Sub.p2 (Sub.p2 (Sub.p0 (Sub.p0 Sub.rf))))
theorem Has.glue3 {H : Hp} {p q r : Addr × HO} {B : U} {L : List U} (h : Has H ([p] :: [q] :: [r] :: B :: L)) : Has H ((p :: q :: r :: B) :: L) := Has.glue2 ((Has.glue (h.sub (Sub.p2 (Sub.p2 Sub.rf)))).sub (Sub.p1 (Sub.p1 (Sub.p0 Sub.rf))))
section
variable {K : PySem.W.Frag} {σ : St} {H H1 : Hp} {L : List U} {Q : VK} {QT : Bool → Hp → Prop} {QA : List V → Hp → Prop} {QS : St → Hp → Prop} {ta tb tc te tv td ty tx : TE} {t u c : TT} {tr : TA} {v w x y z : V} {xs ys : List V} {i j n m : Int} {a b p : Addr} {f : Str} {C dx : Addr} {fs : List (Str × V)} {nx bk ct : St → Hp → Prop} {rt : VK} {s1 s2 : TS} {A B : Prop} {k : Nat} {D : Ends}
/-! ### names, constants, operators -/
theorem x_var {k : Nat} (h : σ[k]? = some (some v)) (q : Q v H) : tVar k σ H Q := ⟨v, h, q⟩
theorem x_c (q : Q v H) : tC v σ H Q := q
theorem x_op {r : R2} (q : ta σ H fun x H1 => tb σ H1 fun y H2 => r x y H2 Q) : tOp r ta tb σ H Q := q
theorem x_un {r : V → Hp → VK → Prop} (q : ta σ H fun x H1 => r x H1 Q) : tUn r ta σ H Q := q
def rAddI : R2 := rI0 fun i j => .int (i + j)
def rSubI : R2 := rI0 fun i j => .int (i - j)
def rMulI : R2 := rI CMul fun i j => .int (i * j)
def rDivI : R2 := rI CDiv fun i j => .int (i / j)
def rModI : R2 := rI (fun _ j => 0 < j) fun i j => .int (i % j)
def rPowI : R2 := rI CPow fun i j => .int (i ^ j.toNat)
def rLtI : R2 := rI0 fun i j => .bl (decide (i < j))
def rLeI : R2 := rI0 fun i j => .bl (decide (i ≤ j))
def rGtI : R2 := rI0 fun i j => .bl (decide (j < i))
def rGeI : R2 := rI0 fun i j => .bl (decide (j ≤ i))
def rIsNo : R2 := fun x y H Q => y = .non ∧ Q (.bl (decide (x = .non))) H
def rNotNo : R2 := fun x y H Q => y = .non ∧ Q (.bl (!decide (x = .non))) H
theorem op_addI {X : Cx} : OpR X (binaryOp .Add) rAddI := op_add
theorem op_subI {X : Cx} : OpR X (binaryOp .Sub) rSubI := op_sub
theorem op_mulI {X : Cx} : OpR X (binaryOp .Mult) rMulI := op_mul
theorem op_divI {X : Cx} : OpR X (binaryOp .FloorDiv) rDivI := op_fdiv
theorem op_modI {X : Cx} : OpR X (binaryOp .Mod) rModI := op_mod
theorem op_powI {X : Cx} : OpR X (binaryOp .Pow) rPowI := op_pow
theorem op_ltI {X : Cx} : OpR X (compareOp .Lt) rLtI := op_lt
theorem op_leI {X : Cx} : OpR X (compareOp .LtE) rLeI := op_le
theorem op_gtI {X : Cx} : OpR X (compareOp .Gt) rGtI := op_gt
theorem op_geI {X : Cx} : OpR X (compareOp .GtE) rGeI := op_ge
theorem op_isNo {X : Cx} : OpR X (compareOp .Is) rIsNo := op_isN
theorem op_notNo {X : Cx} : OpR X (compareOp .IsNot) rNotNo := op_notN
theorem k_addI (q : Q (.int (i + j)) H) : rAddI (.int i) (.int j) H Q := ⟨i, j, rfl, rfl, q⟩
theorem k_subI (q : Q (.int (i - j)) H) : rSubI (.int i) (.int j) H Q := ⟨i, j, rfl, rfl, q⟩
theorem k_mulI (h : CMul i j) (q : Q (.int (i * j)) H) : rMulI (.int i) (.int j) H Q := ⟨i, j, rfl, rfl, h, q⟩
theorem k_divI (h : CDiv i j) (q : Q (.int (i / j)) H) : rDivI (.int i) (.int j) H Q := ⟨i, j, rfl, rfl, h, q⟩
theorem k_modI (h : 0 < j) (q : Q (.int (i % j)) H) : rModI (.int i) (.int j) H Q := ⟨i, j, rfl, rfl, h, q⟩
theorem k_powI (h : CPow i j) (q : Q (.int (i ^ j.toNat)) H) : rPowI (.int i) (.int j) H Q := ⟨i, j, rfl, rfl, h, q⟩
theorem k_ltI (q : Q (.bl (decide (i < j))) H) : rLtI (.int i) (.int j) H Q := ⟨i, j, rfl, rfl, q⟩
theorem k_leI (q : Q (.bl (decide (i ≤ j))) H) : rLeI (.int i) (.int j) H Q := ⟨i, j, rfl, rfl, q⟩
theorem k_gtI (q : Q (.bl (decide (j < i))) H) : rGtI (.int i) (.int j) H Q := ⟨i, j, rfl, rfl, q⟩
theorem k_geI (q : Q (.bl (decide (j ≤ i))) H) : rGeI (.int i) (.int j) H Q := ⟨i, j, rfl, rfl, q⟩
theorem k_isNo (q : Q (.bl (decide (x = .non))) H) : rIsNo x .non H Q := ⟨rfl, q⟩
theorem k_isNo0 (q : Q (.bl true) H) : rIsNo .non .non H Q := ⟨rfl, q⟩
theorem k_isNoI (q : Q (.bl false) H) : rIsNo (.int i) .non H Q := ⟨rfl, q⟩
theorem k_isNoR (q : Q (.bl false) H) : rIsNo (.ref a) .non H Q := ⟨rfl, q⟩
theorem k_notNo0 (q : Q (.bl false) H) : rNotNo .non .non H Q := ⟨rfl, q⟩
theorem k_notNoI (q : Q (.bl true) H) : rNotNo (.int i) .non H Q := ⟨rfl, q⟩
theorem k_notNoR (q : Q (.bl true) H) : rNotNo (.ref a) .non H Q := ⟨rfl, q⟩
theorem k_notNo (q : Q (.bl (!decide (x = .non))) H) : rNotNo x .non H Q := ⟨rfl, q⟩
theorem dI_eq : decide (V.int i = V.int j) = decide (i = j) := by
  by_cases h : i = j
  · subst h; simp
  · rw [decide_eq_false h, decide_eq_false fun q => h (V.int.inj q)]
theorem dB_eq {i j : Bool} : decide (V.bl i = V.bl j) = decide (i = j) := by
  by_cases h : i = j
  · subst h; simp
  · rw [decide_eq_false h, decide_eq_false fun q => h (V.bl.inj q)]
theorem dS_eq {i j : Str} : decide (V.str i = V.str j) = decide (i = j) := by
  by_cases h : i = j
  · subst h; simp
  · rw [decide_eq_false h, decide_eq_false fun q => h (V.str.inj q)]
theorem k_eqI (q : Q (.bl (decide (i = j))) H) : rEq (.int i) (.int j) H Q := ⟨rfl, by rw [dI_eq]; exact q⟩
theorem k_neI (q : Q (.bl (!decide (i = j))) H) : rNe (.int i) (.int j) H Q := ⟨rfl, by rw [dI_eq]; exact q⟩
theorem k_eqB {i j : Bool} (q : Q (.bl (decide (i = j))) H) : rEq (.bl i) (.bl j) H Q := ⟨rfl, by rw [dB_eq]; exact q⟩
theorem k_neB {i j : Bool} (q : Q (.bl (!decide (i = j))) H) : rNe (.bl i) (.bl j) H Q := ⟨rfl, by rw [dB_eq]; exact q⟩
theorem k_eqS {i j : Str} (q : Q (.bl (decide (i = j))) H) : rEq (.str i) (.str j) H Q := ⟨rfl, by rw [dS_eq]; exact q⟩
theorem k_neS {i j : Str} (q : Q (.bl (!decide (i = j))) H) : rNe (.str i) (.str j) H Q := ⟨rfl, by rw [dS_eq]; exact q⟩
theorem k_eqIN (q : Q (.bl false) H) : rEq (.int i) .non H Q := ⟨rfl, q⟩
theorem k_eqNI (q : Q (.bl false) H) : rEq .non (.int i) H Q := ⟨rfl, q⟩
theorem k_eqNN (q : Q (.bl true) H) : rEq .non .non H Q := ⟨rfl, q⟩
theorem k_neIN (q : Q (.bl true) H) : rNe (.int i) .non H Q := ⟨rfl, q⟩
theorem k_neNI (q : Q (.bl true) H) : rNe .non (.int i) H Q := ⟨rfl, q⟩
theorem k_neNN (q : Q (.bl false) H) : rNe .non .non H Q := ⟨rfl, q⟩
/-! ### tests -/
def kB (x : V) (H : Hp) (Q : Bool → Hp → Prop) : Prop := ∃ k, x = .bl k ∧ Q k H
theorem x_test (q : te σ H fun x H' => kB x H' QT) : tTest te σ H QT := q
theorem x_tB (q : te σ H fun x H' => kB x H' QT) : tB te σ H QT := q
theorem k_b {b : Bool} (q : QT b H) : kB (.bl b) H QT := ⟨b, rfl, q⟩
theorem x_and (q : t σ H fun c H1 => if c = true then u σ H1 QT else QT false H1) : tAnd t u σ H QT := q
theorem x_or (q : t σ H fun c H1 => if c = true then QT true H1 else u σ H1 QT) : tOr t u σ H QT := q
theorem x_not (q : t σ H fun c H1 => QT (!c) H1) : tNot t σ H QT := q
def kAndV (tb : TE) (σ : St) (x : V) (H1 : Hp) (Q : VK) : Prop := ∃ c, x = .bl c ∧ if c = true then tb σ H1 Q else Q (.bl false) H1
def kOrV (tb : TE) (σ : St) (x : V) (H1 : Hp) (Q : VK) : Prop := ∃ c, x = .bl c ∧ if c = true then Q (.bl true) H1 else tb σ H1 Q
def kNotV (x : V) (H1 : Hp) (Q : VK) : Prop := ∃ c, x = .bl c ∧ Q (.bl (!c)) H1
theorem x_andV (q : ta σ H fun x H1 => kAndV tb σ x H1 Q) : tAndV ta tb σ H Q := q
theorem x_orV (q : ta σ H fun x H1 => kOrV tb σ x H1 Q) : tOrV ta tb σ H Q := q
theorem x_notV (q : ta σ H fun x H1 => kNotV x H1 Q) : tNotV ta σ H Q := q
theorem k_andV {c : Bool} (q : if c = true then tb σ H Q else Q (.bl false) H) : kAndV tb σ (.bl c) H Q := ⟨c, rfl, q⟩
theorem k_orV {c : Bool} (q : if c = true then Q (.bl true) H else tb σ H Q) : kOrV tb σ (.bl c) H Q := ⟨c, rfl, q⟩
theorem k_notV {c : Bool} (q : Q (.bl (!c)) H) : kNotV (.bl c) H Q := ⟨c, rfl, q⟩
theorem k_notVt (q : Q (.bl false) H) : kNotV (.bl true) H Q := ⟨true, rfl, q⟩
theorem k_notVf (q : Q (.bl true) H) : kNotV (.bl false) H Q := ⟨false, rfl, q⟩
theorem x_ifE (q : t σ H fun c H1 => if c = true then ta σ H1 Q else tb σ H1 Q) : tIf t ta tb σ H Q := q
def kChain (r' : R2) (tc : TE) (σ : St) (y z : V) (H3 : Hp) (Q : VK) : Prop := ∃ k, z = .bl k ∧ (if k = true then tc σ H3 fun w' H4 => r' y w' H4 Q else Q (.bl false) H3)
theorem x_chain {r r' : R2} (q : ta σ H fun x H1 => tb σ H1 fun y H2 => r x y H2 fun z H3 => kChain r' tc σ y z H3 Q) : tChain r r' ta tb tc σ H Q := q
theorem k_chain {r' : R2} {c : Bool} (q : if c = true then tc σ H fun w' H4 => r' y w' H4 Q else Q (.bl false) H) : kChain r' tc σ y (.bl c) H Q := ⟨c, rfl, q⟩
theorem ifT (q : A) : if true = true then A else B := by rw [if_pos rfl]; exact q
theorem ifF (q : B) : if false = true then A else B := by rw [if_neg Bool.false_ne_true]; exact q
theorem ifNT (q : B) : if (!true) = true then A else B := ifF q
theorem ifNF (q : A) : if (!false) = true then A else B := ifT q
theorem ifY {c : Bool} (h : c = true) (q : A) : if c = true then A else B := by rw [if_pos h]; exact q
theorem ifN {c : Bool} (h : c = false) (q : B) : if c = true then A else B := by rw [h, if_neg Bool.false_ne_true]; exact q
theorem ifB {c : Bool} (h : c = true → A) (g : c = false → B) : if c = true then A else B := by
  cases c with
  | true => rw [if_pos rfl]; exact h rfl
  | false => rw [if_neg Bool.false_ne_true]; exact g rfl
theorem ifD {c : Prop} [Decidable c] (h : c → A) (g : ¬ c → B) : if decide c = true then A else B := ifB (fun q => h (of_decide_eq_true q)) fun q => g (of_decide_eq_false q)
theorem ifE {c : Prop} [Decidable c] (h : ¬ c → A) (g : c → B) : if (!decide c) = true then A else B := ifB (fun q => h (by simpa using q)) fun q => g (by simpa using q)
/-! ### statements -/
theorem x_seq (q : s1 ⟨s2 ⟨nx, rt, bk, ct⟩, rt, bk, ct⟩ σ H) : tSeq s1 s2 ⟨nx, rt, bk, ct⟩ σ H := q
theorem x_next (q : nx σ H) : tNext ⟨nx, rt, bk, ct⟩ σ H := q
theorem x_brk (q : bk σ H) : tBreak ⟨nx, rt, bk, ct⟩ σ H := q
theorem x_ct (q : ct σ H) : tCont ⟨nx, rt, bk, ct⟩ σ H := q
theorem x_drop (q : te σ H fun _ H1 => nx σ H1) : tDrop te ⟨nx, rt, bk, ct⟩ σ H := q
theorem x_ret (q : te σ H rt) : tRet te ⟨nx, rt, bk, ct⟩ σ H := q
theorem x_retN (q : rt .non H) : tRetN ⟨nx, rt, bk, ct⟩ σ H := q
theorem x_if (q : c σ H fun b H1 => if b = true then s1 ⟨nx, rt, bk, ct⟩ σ H1 else s2 ⟨nx, rt, bk, ct⟩ σ H1) : tIfS c s1 s2 ⟨nx, rt, bk, ct⟩ σ H := q
theorem x_asg {g : TG} (q : te σ H fun x H1 => g x σ H1 nx) : tAsg te g ⟨nx, rt, bk, ct⟩ σ H := q
theorem x_gname {k : Nat} (q : QS (σ.set k (some v)) H) : gName k v σ H QS := q
theorem x_gtup {k : Nat} {g : TGs} (hp : H a = some (.tup xs)) (hl : xs.length = k) (q : g xs σ H QS) : gTup K k g (.ref a) σ H QS := ⟨a, xs, rfl, SqT.of hp, hl, q⟩
theorem x_gcons {g : TG} {gs : TGs} (q : g v σ H fun σ' H' => gs xs σ' H' QS) : gCons g gs (v :: xs) σ H QS := ⟨v, xs, rfl, q⟩
theorem x_gnil (q : QS σ H) : gNil [] σ H QS := ⟨rfl, q⟩
theorem x_gsub {s : TSet} (q : ta σ H fun o H1 => tb σ H1 fun i H2 => s o i v H2 fun H3 => QS σ H3) : gSub ta tb s v σ H QS := q
theorem k_setL {Q : Hp → Prop} {k : Nat} {M : List U} (hp : H p = some (.lst xs)) (hk : ixN xs.length i = some k) (hh : Has (upd H p (.lst (xs.set k v))) M) (q : ∀ H', Has H' M → Q H') : rSetL (.ref p) (.int i) v H Q := ⟨p, xs, i, k, rfl, rfl, hp, hk, q _ hh⟩
def kPar (i j : Nat) (nx : St → Hp → Prop) (σ : St) (vs : List V) (H1 : Hp) : Prop := ∃ v w, vs = [v, w] ∧ nx ((σ.set i (some v)).set j (some w)) H1
theorem x_par {i j : Nat} (q : tr σ H fun vs H1 => kPar i j nx σ vs H1) : tPar i j tr ⟨nx, rt, bk, ct⟩ σ H := q
theorem k_par {i j : Nat} (q : nx ((σ.set i (some v)).set j (some w)) H) : kPar i j nx σ [v, w] H := ⟨v, w, rfl, q⟩
/-! ### fields -/
def kFld (K : PySem.W.Frag) (f : Str) (x : V) (H1 : Hp) (Q : VK) : Prop := ∃ a C dx fs v, x = .ref a ∧ H1 a = some (.ins C dx fs) ∧ Cls K C ∧ NoAttr K C f ∧ fs.lookup f = some v ∧ Q v H1
theorem x_fld (q : ta σ H fun x H1 => kFld K f x H1 Q) : tFld K ta f σ H Q := q
theorem k_fld (hp : H a = some (.ins C dx fs)) (hc : Cls K C) (hn : NoAttr K C f) (hl : fs.lookup f = some v) (q : Q v H) : kFld K f (.ref a) H Q := ⟨a, C, dx, fs, v, rfl, hp, hc, hn, hl, q⟩
def kSFld (K : PySem.W.Frag) (f : Str) (nx : St → Hp → Prop) (σ : St) (y x : V) (H2 : Hp) : Prop := ∃ a C dx fs, x = .ref a ∧ H2 a = some (.ins C dx fs) ∧ Cls K C ∧ NoAttr K C f ∧ fs.length < 1000 ∧ nx σ (upd H2 a (.ins C dx (putF f y fs)))
theorem x_sfld (q : tv σ H fun y H1 => ta σ H1 fun x H2 => kSFld K f nx σ y x H2) : sFld K ta tv f ⟨nx, rt, bk, ct⟩ σ H := q
theorem k_sfld {M : List U} {gs : List (Str × V)} (hp : H a = some (.ins C dx fs)) (hc : Cls K C) (hn : NoAttr K C f) (hl : fs.length < 1000) (he : putF f y fs = gs) (hh : Has (upd H a (.ins C dx gs)) M) (q : ∀ H', Has H' M → nx σ H') : kSFld K f nx σ y (.ref a) H :=
  ⟨a, C, dx, fs, rfl, hp, hc, hn, hl, by rw [he]; exact q _ hh⟩
/-! ### lists, tuples -/
theorem x_nil (q : QA [] H) : tNil σ H QA := q
theorem x_cons (q : ta σ H fun x H1 => tr σ H1 fun xs H2 => QA (x :: xs) H2) : tCons ta tr σ H QA := q
def kLst (xs : List V) (H1 : Hp) (Q : VK) : Prop := xs.length ≤ sizeLine ∧ ∀ p, H1 p = none → Q (.ref p) (upd H1 p (.lst xs))
def kTupN (xs : List V) (H1 : Hp) (Q : VK) : Prop := xs.length ≤ sizeLine ∧ ∀ p, H1 p = none → Q (.ref p) (upd H1 p (.tup xs))
theorem x_lst (q : tr σ H fun xs H1 => kLst xs H1 Q) : tLst tr σ H Q := q
theorem x_tup (q : tr σ H fun xs H1 => kTupN xs H1 Q) : tTup tr σ H Q := q
theorem k_lst (hh : Has H L) (hl : xs.length ≤ sizeLine) (q : ∀ p H', Has H' ([(p, .lst xs)] :: L) → Q (.ref p) H') : kLst xs H Q := ⟨hl, fun p hp => q p _ (hh.nw hp)⟩
theorem k_tupN (hh : Has H L) (hl : xs.length ≤ sizeLine) (q : ∀ p H', Has H' ([(p, .tup xs)] :: L) → Q (.ref p) H') : kTupN xs H Q := ⟨hl, fun p hp => q p _ (hh.nw hp)⟩
theorem k_ixL (hp : H p = some (.lst xs)) (hi : atI xs i = some v) (q : Q v H) : rIxL K (.ref p) (.int i) H Q := ⟨p, xs, i, v, rfl, rfl, SqL.of hp, hi, q⟩
theorem k_ixT (hp : H p = some (.tup xs)) (hi : atI xs i = some v) (q : Q v H) : rIxT K (.ref p) (.int i) H Q := ⟨p, xs, i, v, rfl, rfl, SqT.of hp, hi, q⟩
theorem at_n {α : Type} {zs : List α} {d : Int} {v : α} (h0 : 0 ≤ d) (h : zs[d.toNat]? = some v) : atI zs d = some v := by
  obtain ⟨j, rfl⟩ := Int.eq_ofNat_of_zero_le h0
  exact atI_nat h
def kTy (K : PySem.W.Frag) (T : String) (x : V) (H1 : Hp) (A : Prop) : Prop := tyV K T x H1 ∧ A
theorem x_bm {T : String} {r : V → List V → Hp → VK → Prop} (q : ta σ H fun x H1 => kTy K T x H1 (tr σ H1 fun xs H2 => r x xs H2 Q)) : tBM K T r ta tr σ H Q := q
theorem x_bm0 {T : String} {r : V → List V → Hp → VK → Prop} (q : ta σ H fun x H1 => kTy K T x H1 (r x [] H1 Q)) : tBM0 K T r ta σ H Q := q
theorem k_tyL (hp : H a = some (.lst xs)) (q : A) : kTy K "list" (.ref a) H A := ⟨.inl ⟨rfl, _, SqL.of hp⟩, q⟩
theorem k_app {M : List U} (hp : H a = some (.lst xs)) (hl : xs.length < sizeLine) (hh : Has (upd H a (.lst (xs ++ [v]))) M) (q : ∀ H', Has H' M → Q .non H') : rAppend (.ref a) [v] H Q := ⟨a, xs, v, rfl, rfl, hp, hl, q _ hh⟩
theorem k_pop {M : List U} (hp : H a = some (.lst xs)) (hl : xs[xs.length - 1]? = some y) (hh : Has (upd H a (.lst xs.dropLast)) M) (q : ∀ H', Has H' M → Q y H') : rPop (.ref a) [] H Q := ⟨a, xs, y, rfl, rfl, hp, hl, q _ hh⟩
theorem k_cat (hh : Has H L) (hp : H a = some (.lst xs)) (hq : H b = some (.lst ys)) (hl : xs.length + ys.length ≤ sizeLine) (q : ∀ p H', Has H' ([(p, .lst (xs ++ ys))] :: L) → Q (.ref p) H') : rCat (.ref a) (.ref b) H Q :=
  ⟨a, b, xs, ys, rfl, rfl, hp, hq, hl, fun p hp => q p _ (hh.nw hp)⟩
theorem k_rep (hh : Has H L) (hp : H a = some (.lst [v])) (h0 : 0 ≤ i) (h1 : i ≤ 100000) (q : ∀ p H', Has H' ([(p, .lst (List.replicate i.toNat v))] :: L) → Q (.ref p) H') : rRep (.ref a) (.int i) H Q := by
  have e : (List.replicate i.toNat [v]).flatten = List.replicate i.toNat v := by
    generalize i.toNat = n
    induction n with
    | zero => rfl
    | succ n ih => rw [List.replicate_succ, List.flatten_cons, ih]; rfl
  refine ⟨a, i, [v], rfl, rfl, hp, by omega, by omega, ?_, fun p hp => ?_⟩
  · rw [sizeLine_eq]; show 1 * i.toNat ≤ _; omega
  · rw [e]; exact q p _ (hh.nw hp)
def kRg (Qr : Int → Int → Hp → Prop) (x : V) (H1 : Hp) : Prop := ∃ n, x = .int n ∧ Qr 0 n H1
def kLstRg (a b : Int) (H1 : Hp) (Q : VK) : Prop := RgOk a b ∧ ∀ q, H1 q = none → Q (.ref q) (upd H1 q (.lst (rgV a b)))
theorem x_rg1 {Qr : Int → Int → Hp → Prop} (q : ta σ H fun x H1 => kRg Qr x H1) : tRg1 ta σ H Qr := q
theorem k_rg1 {Qr : Int → Int → Hp → Prop} (q : Qr 0 i H) : kRg Qr (.int i) H := ⟨i, rfl, q⟩
theorem x_lstRg {te : St → Hp → (Int → Int → Hp → Prop) → Prop} (q : te σ H fun a b H1 => kLstRg a b H1 Q) : tLstRg te σ H Q := q
def rgI (n : Int) : List Int := (List.range n.toNat).map fun (i : Nat) => (i : Int)
theorem rgV_I (n : Int) : rgV 0 n = (rgI n).map V.int := by
  unfold rgV rgI
  rw [List.map_map, Int.sub_zero]
  refine List.map_congr_left fun i _ => ?_
  show V.int (0 + (i : Int)) = V.int i
  rw [Int.zero_add]
theorem rgI_len (n : Int) : (rgI n).length = n.toNat := by unfold rgI; rw [List.length_map, List.length_range]
theorem k_lstRg (hh : Has H L) (h0 : 0 ≤ n) (h1 : n ≤ 100000) (q : ∀ p H', Has H' ([(p, .lst ((rgI n).map V.int))] :: L) → Q (.ref p) H') : kLstRg 0 n H Q :=
  ⟨RgOk.of_le (by omega) (by omega) (by omega) h0, fun p hp => by rw [rgV_I]; exact q p _ (hh.nw hp)⟩
/-! ### calls of built-ins -/
theorem x_cb {r : List V → Hp → VK → Prop} (q : tr σ H fun vs H1 => r vs H1 Q) : tCB r tr σ H Q := q
def rLenQ (K : PySem.W.Frag) : List V → Hp → VK → Prop := fun xs H Q => ∃ p ys, xs = [.ref p] ∧ (SqL K H p ys ∨ SqT K H p ys) ∧ Q (.int ys.length) H
theorem call_lenQ {X : Cx} : CallR X (.builtin "len") (rLenQ X.K) := call_len_seq
theorem k_lenL (hp : H p = some (.lst xs)) (q : Q (.int xs.length) H) : rLenQ K [.ref p] H Q := ⟨p, xs, rfl, .inl (SqL.of hp), q⟩
theorem k_lenT (hp : H p = some (.tup xs)) (q : Q (.int xs.length) H) : rLenQ K [.ref p] H Q := ⟨p, xs, rfl, .inr (SqT.of hp), q⟩
def rLenK : List V → Hp → VK → Prop := fun xs H Q => ∃ a kvs, xs = [V.ref a] ∧ H a = some (.dK kvs) ∧ Q (.int kvs.length) H
theorem call_lenK {X : Cx} : CallR X (.builtin "len") rLenK := call_lenD
theorem k_lenK {kvs : List (Key × V)} (hp : H p = some (.dK kvs)) (q : Q (.int kvs.length) H) : rLenK [.ref p] H Q := ⟨p, kvs, rfl, hp, q⟩
theorem k_isi {ta' tb' : String} {r : Bool} (hx : TyOf K H x (.type ta')) (hk : kitB ta' tb' = some r) (q : Q (.bl r) H) : rIsi K [x, .ty tb'] H Q := ⟨x, .ty tb', .type ta', .type tb', r, rfl, .ty tb', .base hx, kit_ty hk, q⟩
theorem kb_ii : kitB "int" "int" = some true := by decide +kernel
theorem kb_ib : kitB "int" "bool" = some false := by decide +kernel
theorem kb_bi : kitB "bool" "int" = some true := by decide +kernel
theorem kb_bb : kitB "bool" "bool" = some true := by decide +kernel
theorem kb_ll : kitB "list" "list" = some true := by decide +kernel
theorem kb_tt : kitB "tuple" "tuple" = some true := by decide +kernel
theorem k_isiII (q : Q (.bl true) H) : rIsi K [.int i, .ty "int"] H Q := k_isi (.int i) kb_ii q
theorem k_isiIB (q : Q (.bl false) H) : rIsi K [.int i, .ty "bool"] H Q := k_isi (.int i) kb_ib q
theorem k_isiBI {b : Bool} (q : Q (.bl true) H) : rIsi K [.bl b, .ty "int"] H Q := k_isi (.bl b) kb_bi q
theorem k_isiBB {b : Bool} (q : Q (.bl true) H) : rIsi K [.bl b, .ty "bool"] H Q := k_isi (.bl b) kb_bb q
theorem k_isiLL (hp : H p = some (.lst xs)) (q : Q (.bl true) H) : rIsi K [.ref p, .ty "list"] H Q := k_isi (.lst hp) kb_ll q
theorem k_isiTT (hp : H p = some (.tup xs)) (q : Q (.bl true) H) : rIsi K [.ref p, .ty "tuple"] H Q := k_isi (.tup hp) kb_tt q
theorem k_all {bs : List Bool} (hp : H p = some (.lst (bs.map V.bl))) (q : Q (.bl (bs.all id)) H) : rAll K [.ref p] H Q := ⟨p, bs, rfl, SqL.of hp, q⟩
theorem k_sum {ns : List Int} (hp : H p = some (.lst (ns.map V.int))) (q : Q (.int ns.sum) H) : rSum K [.ref p] H Q := ⟨p, ns, rfl, SqL.of hp, q⟩
def rSortD : List V → Hp → VK → Prop := fun xs H Q => ∃ (a : Addr) (kvs : List (Key × V)) (ks : List Int), xs = [.ref a] ∧ Rd H a (.dK kvs) ∧ kvs.map (·.1) = ks.map Sum.inl ∧ ks.length < 64 ∧
    ∀ (ys : List Int) (p : Addr), ys.Perm ks → ys.Pairwise (· ≤ ·) → H p = none → Q (.ref p) (upd H p (.lst (ys.map V.int)))
theorem call_sortD {X : Cx} (hc : X.calm = true) : CallR X (.builtin "sorted") rSortD := call_sortedDI hc
def rListOf (K : PySem.W.Frag) : List V → Hp → VK → Prop := fun xs H Q => ∃ p ys, xs = [.ref p] ∧ (SqL K H p ys ∨ SqT K H p ys) ∧ ∀ l, H l = none → Q (.ref l) (upd H l (.lst ys))
theorem call_listOf {X : Cx} : CallR X (.type "list") (rListOf X.K) := call_list_of
theorem k_listOf (hh : Has H L) (hp : H p = some (.lst xs)) (q : ∀ p H', Has H' ([(p, .lst xs)] :: L) → Q (.ref p) H') : rListOf K [.ref p] H Q := ⟨p, xs, rfl, .inl (SqL.of hp), fun l hl => q l _ (hh.nw hl)⟩
theorem k_listOfS (hh : Has H L) (hp : SqL K H p xs) (q : ∀ p H', Has H' ([(p, .lst xs)] :: L) → Q (.ref p) H') : rListOf K [.ref p] H Q := ⟨p, xs, rfl, .inl hp, fun l hl => q l _ (hh.nw hl)⟩
def rDictP (K : PySem.W.Frag) : List V → Hp → VK → Prop := fun xs H Q => ∃ (a : Addr) (ps : List Addr) (kvs : List (Key × V)), xs = [.ref a] ∧ SqL K H a (ps.map V.ref) ∧ Paired (fun p kv => SqT K H p [kV kv.1, kv.2]) ps kvs ∧
    ∀ p, H p = none → Q (.ref p) (upd H p (.dK (mergeK [] kvs)))
theorem call_dictPr {X : Cx} (hc : X.calm = true) : CallR X (.type "dict") (rDictP X.K) := call_dictP hc
theorem k_sortI {ns : List Int} (hh : Has H L) (hp : H p = some (.lst (ns.map V.int))) (q : ∀ (ys : List Int) p H', ys.Perm ns → ys.Pairwise (· ≤ ·) → Has H' ([(p, .lst (ys.map V.int))] :: L) → Q (.ref p) H') : rSortedI K [.ref p] H Q :=
  ⟨p, ns, rfl, SqL.of hp, fun ys l h1 h2 hl => q ys l _ h1 h2 (hh.nw hl)⟩
/-! ### own calls -/
theorem x_call {sp : Sp} {dvs : List V} {E : XK} (q : tr σ H fun vs H1 => sp (vs ++ dvs) H1 Q E) : tCall sp dvs E tr σ H Q := q
theorem x_call0 {sp : Sp} {E : XK} (q : tr σ H fun vs H1 => sp vs H1 Q E) : tCall sp [] E tr σ H Q := by
  have e : (fun vs H1 => sp (vs ++ []) H1 Q E) = fun vs H1 => sp vs H1 Q E := by funext vs H1; rw [List.append_nil]
  show tr σ H fun vs H1 => sp (vs ++ []) H1 Q E
  rw [e]
  exact q
def kMeth (C : Addr) (m : Str) (sp : Sp) (dvs : List V) (E : XK) (t : TA) (σ : St) (x : V) (H1 : Hp) (Q : VK) : Prop := ∃ a dx fs, x = .ref a ∧ H1 a = some (.ins C dx fs) ∧ fs.lookup m = none ∧ t σ H1 fun vs H2 => sp (x :: (vs ++ dvs)) H2 Q E
theorem x_meth {m : Str} {sp : Sp} {dvs : List V} {E : XK} (q : ta σ H fun x H1 => kMeth C m sp dvs E tr σ x H1 Q) : tMeth C m sp dvs E ta tr σ H Q := q
theorem k_meth {m : Str} {sp : Sp} {dvs : List V} {E : XK} (hp : H a = some (.ins C dx fs)) (hl : fs.lookup m = none) (q : tr σ H fun vs H2 => sp (.ref a :: (vs ++ dvs)) H2 Q E) : kMeth C m sp dvs E tr σ (.ref a) H Q := ⟨a, dx, fs, rfl, hp, hl, q⟩
theorem k_meth0 {m : Str} {sp : Sp} {E : XK} (hp : H a = some (.ins C dx fs)) (hl : fs.lookup m = none) (q : tr σ H fun vs H2 => sp (.ref a :: vs) H2 Q E) : kMeth C m sp [] E tr σ (.ref a) H Q := by
  have e : (fun vs H2 => sp (.ref a :: (vs ++ [])) H2 Q E) = fun vs H2 => sp (.ref a :: vs) H2 Q E := by funext vs H1; rw [List.append_nil]
  refine ⟨a, dx, fs, rfl, hp, hl, ?_⟩
  rw [e]
  exact q
def kMake (C : Addr) (sp : Sp) (dvs : List V) (E : XK) (vs : List V) (H1 : Hp) (Q : VK) : Prop := ∀ x dx, H1 x = none → H1 dx = none → dx ≠ x → sp (.ref x :: (vs ++ dvs)) (upd (upd H1 dx (.own x)) x (.ins C dx [])) (fun v H2 => v = .non ∧ Q (.ref x) H2) E
theorem x_make {sp : Sp} {dvs : List V} {E : XK} (q : tr σ H fun vs H1 => kMake C sp dvs E vs H1 Q) : tMake C sp dvs E tr σ H Q := q
theorem k_make {sp : Sp} {dvs vs : List V} {E : XK} (hh : Has H L) (q : ∀ x dx H', Has H' ([(x, .ins C dx [])] :: L) → sp (.ref x :: (vs ++ dvs)) H' (fun v H2 => v = .non ∧ Q (.ref x) H2) E) : kMake C sp dvs E vs H Q :=
  fun x dx hx hd ne => q x dx _ ((hh.nw hd (o := .own x)).nw (p := x) (o := .ins C dx []) (by rw [upd_ne (Ne.symm ne)]; exact hx) |>.sub (Sub.p0 (Sub.skip Sub.rf)))
theorem k_make0 {sp : Sp} {vs : List V} {E : XK} (hh : Has H L) (q : ∀ x dx H', Has H' ([(x, .ins C dx [])] :: L) → sp (.ref x :: vs) H' (fun v H2 => v = .non ∧ Q (.ref x) H2) E) : kMake C sp [] E vs H Q :=
  k_make hh (by rw [List.append_nil]; exact q)
/-! ### dicts with int keys, with keys that are pairs of ints -/
section
variable {κ κ' : Type} [DecidableEq κ] [DecidableEq κ']
def mk (g : κ → κ') (m : List (κ × V)) : List (κ' × V) := m.map fun p => (g p.1, p.2)
theorem mk_len (g : κ → κ') (m : List (κ × V)) : (mk g m).length = m.length := List.length_map ..
theorem mk_keys (g : κ → κ') (m : List (κ × V)) : (mk g m).map (·.1) = (m.map (·.1)).map g := by
  unfold mk
  rw [List.map_map, List.map_map]
  rfl
theorem mk_val {g : κ → κ'} (hg : ∀ a b, g a = g b → a = b) (m : List (κ × V)) (k : κ) : valV (mk g m) (g k) = valV m k := by
  induction m with
  | nil => rfl
  | cons p r ih =>
    show valV ((g p.1, p.2) :: mk g r) (g k) = _
    by_cases h : p.1 = k
    · rw [valV_pos (p := (g p.1, p.2)) (congrArg g h), valV_pos h]
    · rw [valV_neg (p := (g p.1, p.2)) (fun q => h (hg _ _ q)), valV_neg h, ih]
theorem mk_drop {g : κ → κ'} (hg : ∀ a b, g a = g b → a = b) (m : List (κ × V)) (k : κ) : dropK (mk g m) (g k) = mk g (dropK m k) := by
  induction m with
  | nil => rfl
  | cons p r ih =>
    show dropK ((g p.1, p.2) :: mk g r) (g k) = _
    by_cases h : p.1 = k
    · rw [dropK_pos (p := (g p.1, p.2)) (congrArg g h), dropK_pos h, ih]
    · rw [dropK_neg (p := (g p.1, p.2)) (fun q => h (hg _ _ q)), dropK_neg h, ih]
      rfl
theorem mk_any {g : κ → κ'} (hg : ∀ a b, g a = g b → a = b) (m : List (κ × V)) (k : κ) : ((mk g m).any fun kv => decide (kv.1 = g k)) = m.any fun kv => decide (kv.1 = k) := by
  rw [valV_any, valV_any, mk_val hg]
theorem mk_put {g : κ → κ'} (hg : ∀ a b, g a = g b → a = b) (m : List (κ × V)) (k : κ) (v : V) : putK (mk g m) (g k) v = mk g (putK m k v) := by
  unfold putK
  rw [mk_any hg]
  split
  · unfold mk
    rw [List.map_map, List.map_map]
    refine List.map_congr_left fun p _ => ?_
    show (if g p.1 = g k then (g p.1, v) else (g p.1, p.2)) = _
    by_cases h : p.1 = k
    · rw [if_pos (congrArg g h)]
      show _ = (g (if p.1 = k then (p.1, v) else p).1, (if p.1 = k then (p.1, v) else p).2)
      rw [if_pos h]
    · rw [if_neg (fun q => h (hg _ _ q))]
      show _ = (g (if p.1 = k then (p.1, v) else p).1, (if p.1 = k then (p.1, v) else p).2)
      rw [if_neg h]
  · unfold mk
    rw [List.map_append]
    rfl
end
def g1 : Int → Key := Sum.inl
def g2 (p : Int × Int) : List Key := [Sum.inl p.1, Sum.inl p.2]
theorem g1_inj : ∀ a b, g1 a = g1 b → a = b := fun _ _ h => Sum.inl.inj h
theorem g2_inj : ∀ a b, g2 a = g2 b → a = b := fun a b h => by
  obtain ⟨a1, a2⟩ := a
  obtain ⟨b1, b2⟩ := b
  unfold g2 at h
  simp only [List.cons.injEq, Sum.inl.injEq, and_true] at h
  rw [h.1, h.2]
abbrev dI (m : List (Int × V)) : HO := .dK (mk g1 m)
abbrev dP (m : List ((Int × Int) × V)) : HO := .dT (mk g2 m)
def kDGet (x y : V) (H2 : Hp) (Q : VK) : Prop := ∃ a v, x = .ref a ∧ DGet H2 a y (some v) ∧ Q v H2
theorem x_dget (q : td σ H fun x H1 => ty σ H1 fun y H2 => kDGet x y H2 Q) : tDGet td ty σ H Q := q
theorem dget_I {mm : List (Int × V)} (hp : H a = some (dI mm)) : DGet H a (.int i) (valV mm i) := by
  rw [← mk_val g1_inj mm i]
  exact DGet.k (k := g1 i) hp
theorem dget_P {mm : List ((Int × Int) × V)} (hp : H a = some (dP mm)) (hb : H b = some (.tup [.int i, .int j])) : DGet H a (.ref b) (valV mm (i, j)) := by
  rw [← mk_val g2_inj mm (i, j)]
  exact DGet.t (k := g2 (i, j)) hp hb
theorem k_dget {mm : List (Int × V)} (hp : H a = some (dI mm)) (hv : valV mm i = some v) (q : Q v H) : kDGet (.ref a) (.int i) H Q := ⟨a, v, rfl, hv ▸ dget_I hp, q⟩
theorem k_dgetP {mm : List ((Int × Int) × V)} (hp : H a = some (dP mm)) (hb : H b = some (.tup [.int i, .int j])) (hv : valV mm (i, j) = some v) (q : Q v H) : kDGet (.ref a) (.ref b) H Q := ⟨a, v, rfl, hv ▸ dget_P hp hb, q⟩
def kDIn (y x : V) (H2 : Hp) (Q : VK) : Prop := ∃ a o, x = .ref a ∧ DGet H2 a y o ∧ Q (.bl o.isSome) H2
def kDNot (y x : V) (H2 : Hp) (Q : VK) : Prop := ∃ a o, x = .ref a ∧ DGet H2 a y o ∧ Q (.bl (!o.isSome)) H2
theorem x_din (q : ty σ H fun y H1 => td σ H1 fun x H2 => kDIn y x H2 Q) : tDIn ty td σ H Q := q
theorem x_dnot (q : ty σ H fun y H1 => td σ H1 fun x H2 => kDNot y x H2 Q) : tDNotIn ty td σ H Q := q
theorem k_din {mm : List (Int × V)} (hp : H a = some (dI mm)) (q : Q (.bl (valV mm i).isSome) H) : kDIn (.int i) (.ref a) H Q := ⟨a, _, rfl, dget_I hp, q⟩
theorem k_dnot {mm : List (Int × V)} (hp : H a = some (dI mm)) (q : Q (.bl (!(valV mm i).isSome)) H) : kDNot (.int i) (.ref a) H Q := ⟨a, _, rfl, dget_I hp, q⟩
theorem k_dinP {mm : List ((Int × Int) × V)} (hp : H a = some (dP mm)) (hb : H b = some (.tup [.int i, .int j])) (q : Q (.bl (valV mm (i, j)).isSome) H) : kDIn (.ref b) (.ref a) H Q := ⟨a, _, rfl, dget_P hp hb, q⟩
theorem k_dnotP {mm : List ((Int × Int) × V)} (hp : H a = some (dP mm)) (hb : H b = some (.tup [.int i, .int j])) (q : Q (.bl (!(valV mm (i, j)).isSome)) H) : kDNot (.ref b) (.ref a) H Q := ⟨a, _, rfl, dget_P hp hb, q⟩
def kDPut (nx : St → Hp → Prop) (σ : St) (v x y : V) (H3 : Hp) : Prop := ∃ a H4, x = .ref a ∧ DPut H3 a y v H4 ∧ nx σ H4
theorem x_dput (q : tv σ H fun v H1 => td σ H1 fun x H2 => ty σ H2 fun y H3 => kDPut nx σ v x y H3) : sDPut td ty tv ⟨nx, rt, bk, ct⟩ σ H := q
theorem k_dput {mm : List (Int × V)} {M : List U} (hp : H a = some (dI mm)) (hl : mm.length < sizeLine) (hh : Has (upd H a (dI (putK mm i v))) M) (q : ∀ H', Has H' M → nx σ H') : kDPut nx σ v (.ref a) (.int i) H := by
  refine ⟨a, _, rfl, DPut.k (k := g1 i) hp (by rw [mk_len]; exact hl), ?_⟩
  rw [mk_put g1_inj]
  exact q _ hh
theorem k_dputP {mm : List ((Int × Int) × V)} {M : List U} (hp : H a = some (dP mm)) (hb : H b = some (.tup [.int i, .int j])) (hl : mm.length < sizeLine) (hh : Has (upd H a (dP (putK mm (i, j) v))) M) (q : ∀ H', Has H' M → nx σ H') : kDPut nx σ v (.ref a) (.ref b) H := by
  refine ⟨a, _, rfl, DPut.t (k := g2 (i, j)) hp hb (by rw [mk_len]; exact hl), ?_⟩
  rw [mk_put g2_inj]
  exact q _ hh
def kIsD (x : V) (H1 : Hp) (F : Addr → Prop) : Prop := ∃ a, x = .ref a ∧ IsD H1 a ∧ F a
theorem k_isD {kvs : List (Key × V)} {F : Addr → Prop} (hp : H a = some (.dK kvs)) (q : F a) : kIsD (.ref a) H F := ⟨a, rfl, .inl ⟨kvs, .inl hp⟩, q⟩
theorem k_isDT {kvs : List (List Key × V)} {F : Addr → Prop} (hp : H a = some (.dT kvs)) (q : F a) : kIsD (.ref a) H F := ⟨a, rfl, .inr ⟨kvs, .inl hp⟩, q⟩
def kDPop (a : Addr) (y : V) (H2 : Hp) (Q : VK) : Prop := ∃ kvs k v, H2 a = some (.dK kvs) ∧ y = kV k ∧ valV kvs k = some v ∧ Q v (upd H2 a (.dK (dropK kvs k)))
theorem x_dpop1 (q : td σ H fun x H1 => kIsD x H1 fun a => ty σ H1 fun y H2 => kDPop a y H2 Q) : tDPop1 td ty σ H Q := q
theorem k_dpop1 {mm : List (Int × V)} {M : List U} (hp : H a = some (dI mm)) (hv : valV mm i = some v) (hh : Has (upd H a (dI (dropK mm i))) M) (q : ∀ H', Has H' M → Q v H') : kDPop a (.int i) H Q := by
  refine ⟨_, g1 i, v, hp, rfl, by rw [mk_val g1_inj]; exact hv, ?_⟩
  rw [mk_drop g1_inj]
  exact q _ hh
def kDGet2 (a : Addr) (y z : V) (H3 : Hp) (Q : VK) : Prop := ∃ o, DGet H3 a y o ∧ Q (o.getD z) H3
theorem x_dget2 (q : td σ H fun x H1 => kIsD x H1 fun a => ty σ H1 fun y H2 => tx σ H2 fun z H3 => kDGet2 a y z H3 Q) : tDGet2 td ty tx σ H Q := q
theorem k_dget2 {mm : List (Int × V)} (hp : H a = some (dI mm)) (q : Q ((valV mm i).getD z) H) : kDGet2 a (.int i) z H Q := ⟨_, dget_I hp, q⟩
theorem k_dget2P {mm : List ((Int × Int) × V)} (hp : H a = some (dP mm)) (hb : H b = some (.tup [.int i, .int j])) (q : Q ((valV mm (i, j)).getD z) H) : kDGet2 a (.ref b) z H Q := ⟨_, dget_P hp hb, q⟩
def kDGet1 (a : Addr) (y : V) (H3 : Hp) (Q : VK) : Prop := ∃ o, DGet H3 a y o ∧ Q (o.getD .non) H3
theorem x_dget1 (q : td σ H fun x H1 => kIsD x H1 fun a => ty σ H1 fun y H2 => kDGet1 a y H2 Q) : tDGet1 td ty σ H Q := q
theorem k_dget1 {mm : List (Int × V)} (hp : H a = some (dI mm)) (q : Q ((valV mm i).getD .non) H) : kDGet1 a (.int i) H Q := ⟨_, dget_I hp, q⟩
theorem x_dnewK (hh : Has H L) (q : ∀ p H', Has H' ([(p, dI [])] :: L) → Q (.ref p) H') : tDNewK σ H Q := fun p hp => q p _ (hh.nw hp)
theorem x_dnewT (hh : Has H L) (q : ∀ p H', Has H' ([(p, dP [])] :: L) → Q (.ref p) H') : tDNewT σ H Q := fun p hp => q p _ (hh.nw hp)
theorem k_sortD {mm : List (Int × V)} (hh : Has H L) (hp : H p = some (dI mm)) (hl : mm.length < 64) (q : ∀ (ys : List Int) p H', ys.Perm (mm.map (·.1)) → ys.Pairwise (· ≤ ·) → Has H' ([(p, .lst (ys.map V.int))] :: L) → Q (.ref p) H') : rSortD [.ref p] H Q :=
  ⟨p, _, mm.map (fun (x : Int × V) => x.1), rfl, .inl hp, (by have e := mk_keys g1 mm; exact e), by rw [List.length_map]; exact hl, fun ys l h1 h2 hl => q ys l _ h1 h2 (hh.nw hl)⟩
/-! ### == of data -/
theorem dpAll_ints (ns : List Int) : DpAll K H (ns.map V.int) (ns.map PyData.int) := by
  induction ns with
  | nil => exact .nil
  | cons n r ih => exact .cons (.int n) ih
theorem eqv_ints (ns : List Int) : ∀ ms : List Int, PyData.eqv (.list (ns.map PyData.int)) (.list (ms.map PyData.int)) = decide (ns = ms) := by
  induction ns with
  | nil =>
    intro ms
    cases ms with
    | nil => rfl
    | cons m r => rfl
  | cons n r ih =>
    intro ms
    cases ms with
    | nil => rfl
    | cons m s =>
      have h := ih s
      simp [PyData.eqv, PyData.eqvAll] at h ⊢
      rw [h]
      by_cases e1 : n = m
      · subst e1; by_cases e2 : r = s <;> simp [e2]
      · simp [e1]
theorem lay_ints (ns : List Int) : PyData.canLayAll0 (ns.map PyData.int) = true := by
  induction ns with
  | nil => simp [PyData.canLayAll0]
  | cons n r ih => simp [PyData.canLayAll0, PyData.canLay0, ih]
theorem deep_ints (ns : List Int) : PyData.depthAll (ns.map PyData.int) ≤ 1 := by
  induction ns with
  | nil => simp [PyData.depthAll]
  | cons n r ih => simp [PyData.depthAll, PyData.depth, ih]
theorem shaped_ints (ns : List Int) : SeqAt.shaped (.list (ns.map PyData.int)) = true := by
  have h := deep_ints ns
  simp [SeqAt.shaped, PyData.canLay0, lay_ints, PyData.depth]
  omega
theorem k_eqLI {ns ms : List Int} (hp : H a = some (.lst (ns.map V.int))) (hq : H b = some (.lst (ms.map V.int))) (q : Q (.bl (decide (ns = ms))) H) : rEqD K (.ref a) (.ref b) H Q :=
  ⟨_, _, .lst (SqL.of hp) (dpAll_ints ns), .lst (SqL.of hq) (dpAll_ints ms), shaped_ints ns, shaped_ints ms, by rw [eqv_ints]; exact q⟩
theorem k_neLI {ns ms : List Int} (hp : H a = some (.lst (ns.map V.int))) (hq : H b = some (.lst (ms.map V.int))) (q : Q (.bl (!decide (ns = ms))) H) : rNeD K (.ref a) (.ref b) H Q :=
  ⟨_, _, .lst (SqL.of hp) (dpAll_ints ns), .lst (SqL.of hq) (dpAll_ints ms), shaped_ints ns, shaped_ints ms, by rw [eqv_ints]; exact q⟩
theorem k_eqLN {ns : List Int} (hp : H a = some (.lst (ns.map V.int))) (hq : H b = some (.lst [])) (q : Q (.bl (decide (ns = []))) H) : rEqD K (.ref a) (.ref b) H Q := k_eqLI (ms := []) hp hq q
theorem k_neLN {ns : List Int} (hp : H a = some (.lst (ns.map V.int))) (hq : H b = some (.lst [])) (q : Q (.bl (!decide (ns = []))) H) : rNeD K (.ref a) (.ref b) H Q := k_neLI (ms := []) hp hq q
/-! ### loops -/
def kForR (k : Nat) (tb : TS) (nx : St → Hp → Prop) (rt : VK) (σ : St) (vs : List V) (H1 : Hp) : Prop := ∃ j : Int, vs = [.int j] ∧ -(2 ^ 62) ≤ j ∧ j < 2 ^ 62 ∧ ∃ W : Nat → Nat → St → Hp → Prop, (∃ m, W 0 m σ H1) ∧ ∀ i m σ H, W i m σ H →
  ((Itr 0 j.toNat).stop i H ∧ nx σ H) ∨ ((Itr 0 j.toNat).go i H ∧ ∃ N : St → Hp → Prop, (∀ σ' H', N σ' H' → ∃ m', m' < m ∧ W (i + 1) m' σ' H') ∧ ∀ x H', (Itr 0 j.toNat).yld i H x H' → gName k x σ H' fun σ2 H2 => tb ⟨N, rt, nx, N⟩ σ2 H2)
theorem x_forR {k : Nat} (q : tr σ H fun vs H1 => kForR k s1 nx rt σ vs H1) : tFor (iRng1 tr) (gName k) s1 ⟨nx, rt, bk, ct⟩ σ H := q
theorem k_forR {k : Nat} (Pv : Nat → St → Hp → Prop) (h0 : Pv 0 σ H) (hn : 0 ≤ n ∧ n ≤ 100000) (hs : ∀ (i : Nat) σ H, (i : Int) < n → Pv i σ H → s1 ⟨Pv (i + 1), rt, nx, Pv (i + 1)⟩ (σ.set k (some (.int i))) H) (hd : ∀ σ H, Pv n.toNat σ H → nx σ H) : kForR k s1 nx rt σ [.int n] H := by
  refine ⟨n, rfl, by omega, by omega, for_range (g := gName k) (tb := s1) (D := ⟨nx, rt, fun _ _ => False, fun _ _ => False⟩) Pv h0 (fun i σ' H' hi p => ?_) hd⟩
  show s1 ⟨Pv (i + 1), rt, nx, Pv (i + 1)⟩ (σ'.set k (some (.int (0 + (i : Int))))) H'
  rw [Int.zero_add]
  exact hs i σ' H' (by omega) p
def kForL (K : PySem.W.Frag) (g : TG) (tb : TS) (nx : St → Hp → Prop) (rt : VK) (σ : St) (x : V) (H1 : Hp) : Prop := ∃ a, x = .ref a ∧ (∃ xs, SqL K H1 a xs) ∧ ∃ W : Nat → Nat → St → Hp → Prop, (∃ m, W 0 m σ H1) ∧ ∀ i m σ H, W i m σ H →
  ((Itl K a).stop i H ∧ nx σ H) ∨ ((Itl K a).go i H ∧ ∃ N : St → Hp → Prop, (∀ σ' H', N σ' H' → ∃ m', m' < m ∧ W (i + 1) m' σ' H') ∧ ∀ x H', (Itl K a).yld i H x H' → g x σ H' fun σ2 H2 => tb ⟨N, rt, nx, N⟩ σ2 H2)
theorem x_forL {g : TG} (q : te σ H fun x H1 => kForL K g s1 nx rt σ x H1) : tFor (iList K te) g s1 ⟨nx, rt, bk, ct⟩ σ H := q
theorem k_forL {g : TG} (Pv : Nat → St → Hp → Prop) (hp : H a = some (.lst xs)) (h0 : Pv 0 σ H) (hl : ∀ i σ H, Pv i σ H → H a = some (.lst xs)) (hs : ∀ (i : Nat) x σ H, xs[i]? = some x → Pv i σ H → g x σ H fun σ2 H2 => s1 ⟨Pv (i + 1), rt, nx, Pv (i + 1)⟩ σ2 H2) (hd : ∀ σ H, Pv xs.length σ H → nx σ H) : kForL K g s1 nx rt σ (.ref a) H :=
  ⟨a, rfl, ⟨xs, SqL.of hp⟩, for_list (K := K) (xs := xs) (tb := s1) (D := ⟨nx, rt, fun _ _ => False, fun _ _ => False⟩) Pv h0 (fun i σ H _ p => SqL.of (hl i σ H p)) hs hd⟩
/-! ### comprehensions -/
def kLc (g : TG) (tt : TT) (te : TE) (vs : List Nat) (σ : St) (J : It) (H1 : Hp) (Q : VK) : Prop := ∀ D, H1 D = none → ∃ W : Nat → Nat → Hp → Prop, (∃ m, W 0 m (upd H1 D (.lst []))) ∧ ∀ i m H, W i m H →
  (J.stop i H ∧ Q (.ref D) H) ∨ (J.go i H ∧ ∃ Nx : Hp → Prop, (∀ H', Nx H' → ∃ m', m' < m ∧ W (i + 1) m' H') ∧ ∀ x H', J.yld i H x H' → g x (wipe σ vs) H' fun σ2 H2 => wipe σ2 vs = wipe σ vs ∧ tt σ2 H2 fun b H3 =>
    if b = true then te σ2 H3 fun y H4 => ∃ acc, H4 D = some (.lst acc) ∧ acc.length < sizeLine ∧ Nx (upd H4 D (.lst (acc ++ [y]))) else Nx H3)
/-- what a comprehension's turn wants behind its element y: the list at D one longer, and J of that -/
def kAdd (D : Addr) (Nx : Hp → Prop) (y : V) (H4 : Hp) : Prop := ∃ acc, H4 D = some (.lst acc) ∧ acc.length < sizeLine ∧ Nx (upd H4 D (.lst (acc ++ [y])))
theorem k_add {Nx : Hp → Prop} {M : List U} (hp : H p = some (.lst xs)) (hl : xs.length < sizeLine) (hh : Has (upd H p (.lst (xs ++ [y]))) M) (q : ∀ H', Has H' M → Nx H') : kAdd p Nx y H := ⟨xs, hp, hl, q _ hh⟩
def kLcL (K : PySem.W.Frag) (g : TG) (tt : TT) (te : TE) (vs : List Nat) (σ : St) (x : V) (H1 : Hp) (Q : VK) : Prop := ∃ a, x = .ref a ∧ (∃ xs, SqL K H1 a xs) ∧ kLc g tt te vs σ (Itl K a) H1 Q
theorem x_lcL {g : TG} {tt : TT} {vs : List Nat} (q : ta σ H fun x H1 => kLcL K g tt te vs σ x H1 Q) : tLc (iList K ta) g tt te vs σ H Q := q
theorem k_lcL {g : TG} {tt : TT} {vs : List Nat} (hh : Has H L) (Pv : Addr → Nat → Hp → Prop) (hp : H a = some (.lst xs)) (h0 : ∀ D H', Has H' ([(D, .lst [])] :: L) → Pv D 0 H') (hl : ∀ D i H, Pv D i H → H a = some (.lst xs))
    (hs : ∀ D i x H, xs[i]? = some x → Pv D i H → g x (wipe σ vs) H fun σ2 H2 => wipe σ2 vs = wipe σ vs ∧ tt σ2 H2 fun b H3 => if b = true then te σ2 H3 (kAdd D (Pv D (i + 1))) else Pv D (i + 1) H3)
    (hd : ∀ D H, Pv D xs.length H → Q (.ref D) H) : kLcL K g tt te vs σ (.ref a) H Q :=
  ⟨a, rfl, ⟨xs, SqL.of hp⟩, fun D hD => lc_list (K := K) (xs := xs) (Pv D) (h0 D _ (hh.nw hD)) (fun i H _ p => SqL.of (hl D i H p)) (fun i x H hi p => hs D i x H hi p) fun H p => hd D H p⟩
def kLcR (g : TG) (tt : TT) (te : TE) (vs : List Nat) (σ : St) (us : List V) (H1 : Hp) (Q : VK) : Prop := ∃ j : Int, us = [.int j] ∧ -(2 ^ 62) ≤ j ∧ j < 2 ^ 62 ∧ kLc g tt te vs σ (Itr 0 j.toNat) H1 Q
theorem x_lcR {g : TG} {tt : TT} {vs : List Nat} (q : tr σ H fun us H1 => kLcR g tt te vs σ us H1 Q) : tLc (iRng1 tr) g tt te vs σ H Q := q
theorem k_lcR {k : Nat} {tt : TT} {vs : List Nat} (hh : Has H L) (Pv : Addr → Nat → Hp → Prop) (hn : 0 ≤ n ∧ n ≤ 100000) (h0 : ∀ D H', Has H' ([(D, .lst [])] :: L) → Pv D 0 H')
    (hs : ∀ D (i : Nat) H, (i : Int) < n → Pv D i H → gName k (.int i) (wipe σ vs) H fun σ2 H2 => wipe σ2 vs = wipe σ vs ∧ tt σ2 H2 fun b H3 => if b = true then te σ2 H3 (kAdd D (Pv D (i + 1))) else Pv D (i + 1) H3)
    (hd : ∀ D H, Pv D n.toNat H → Q (.ref D) H) : kLcR (gName k) tt te vs σ [.int n] H Q :=
  ⟨n, rfl, by omega, by omega, fun D hD => lc_range (lo := 0) (Pv D) (h0 D _ (hh.nw hD)) (fun i H hi p => by
    have q := hs D i H (by omega) p
    rw [← Int.zero_add (i : Int)] at q
    exact q) fun H p => hd D H p⟩
theorem filt_true {α : Type} (l : List α) : l.filter (fun _ => true) = l := List.filter_eq_self.mpr fun _ _ => rfl
/-- [h z for z in zs if c z], the source a list that stands in L; the test and the element may lay new things, which are let go -/
theorem k_lcF {α : Type} {k : Nat} {tt : TT} (zs : List α) (g h : α → V) (c : α → Bool) (hh : Has H L) (ha : ∀ H', Has H' L → H' a = some (.lst (zs.map g))) (hz : zs.length ≤ 100000)
    (ht : ∀ z ∈ zs, ∀ D M H' (Q' : Bool → Hp → Prop), Has H' ([(D, .lst M)] :: L) → (∀ H'', Has H'' ([(D, .lst M)] :: L) → Q' (c z) H'') → tt ((wipe σ [k]).set k (some (g z))) H' Q')
    (hs : ∀ z ∈ zs, c z = true → ∀ D M H' (Q' : VK), Has H' ([(D, .lst M)] :: L) → (∀ H'', Has H'' ([(D, .lst M)] :: L) → Q' (h z) H'') → te ((wipe σ [k]).set k (some (g z))) H' Q')
    (q : ∀ D H', Has H' ([(D, .lst ((zs.filter c).map h))] :: L) → Q (.ref D) H') : kLcL K (gName k) tt te [k] σ (.ref a) H Q := by
  have hw : ∀ x, wipe ((wipe σ [k]).set k (some x)) [k] = wipe σ [k] := fun x => by
    show ((σ.set k none).set k (some x)).set k none = σ.set k none
    rw [List.set_set, List.set_set]
  refine k_lcL (L := L) hh (fun D i H' => Has H' ([(D, .lst (((zs.take i).filter c).map h))] :: L)) (ha H hh) (fun D H' h' => h') (fun D i H' h' => ha H' (h'.sub (Sub.skip Sub.rf))) (fun D i x H' hi h' => ?_) (fun D H' h' => ?_)
  · rw [List.getElem?_map] at hi
    obtain ⟨z, hz1, rfl⟩ := Option.map_eq_some_iff.mp hi
    have hm : z ∈ zs := List.mem_of_getElem? hz1
    have et : zs.take (i + 1) = zs.take i ++ [z] := by rw [List.take_add_one, hz1]; rfl
    refine ⟨hw _, ht z hm D _ H' _ h' fun H2 h2 => ?_⟩
    refine ifB (fun e => ?_) (fun e => ?_)
    · refine hs z hm e D _ H2 _ h2 fun H3 h3 => ?_
      refine ⟨_, h3.g0, ?_, ?_⟩
      · rw [sizeLine_eq, List.length_map]
        have l1 := List.length_filter_le c (zs.take i)
        have l2 := List.length_take_le i zs
        have l3 := List.length_take_le' i zs
        omega
      · rw [et, List.filter_append, List.map_append, List.filter_cons, if_pos e]
        exact h3.s0
    · rw [et, List.filter_append, List.filter_cons, if_neg (by rw [e]; decide)]
      simpa using h2
  · rw [List.length_map, List.take_length] at h'
    exact q D H' h'
theorem k_lcM {α : Type} {k : Nat} (zs : List α) (g h : α → V) (hh : Has H L) (ha : ∀ H', Has H' L → H' a = some (.lst (zs.map g))) (hz : zs.length ≤ 100000)
    (hs : ∀ z ∈ zs, ∀ D M H' (Q' : VK), Has H' ([(D, .lst M)] :: L) → (∀ H'', Has H'' ([(D, .lst M)] :: L) → Q' (h z) H'') → te ((wipe σ [k]).set k (some (g z))) H' Q')
    (q : ∀ D H', Has H' ([(D, .lst (zs.map h))] :: L) → Q (.ref D) H') : kLcL K (gName k) tYes te [k] σ (.ref a) H Q :=
  k_lcF zs g h (fun _ => true) hh ha hz (fun z _ D M H' Q' h' q' => q' H' h') (fun z hm _ => hs z hm) fun D H' h' => q D H' (by rw [filt_true] at h'; exact h')
/-- [h i for i in range(n) if c i] -/
theorem k_lcRF {k : Nat} {tt : TT} (h : Int → V) (c : Int → Bool) (hh : Has H L) (hn : 0 ≤ n ∧ n ≤ 100000)
    (ht : ∀ z : Int, 0 ≤ z → z < n → ∀ D M H' (Q' : Bool → Hp → Prop), Has H' ([(D, .lst M)] :: L) → (∀ H'', Has H'' ([(D, .lst M)] :: L) → Q' (c z) H'') → tt ((wipe σ [k]).set k (some (.int z))) H' Q')
    (hs : ∀ z : Int, 0 ≤ z → z < n → c z = true → ∀ D M H' (Q' : VK), Has H' ([(D, .lst M)] :: L) → (∀ H'', Has H'' ([(D, .lst M)] :: L) → Q' (h z) H'') → te ((wipe σ [k]).set k (some (.int z))) H' Q')
    (q : ∀ D H', Has H' ([(D, .lst (((rgI n).filter c).map h))] :: L) → Q (.ref D) H') : kLcR (gName k) tt te [k] σ [.int n] H Q := by
  have hw : ∀ x, wipe ((wipe σ [k]).set k (some x)) [k] = wipe σ [k] := fun x => by
    show ((σ.set k none).set k (some x)).set k none = σ.set k none
    rw [List.set_set, List.set_set]
  refine k_lcR (L := L) hh (fun D i H' => Has H' ([(D, .lst (((rgI i).filter c).map h))] :: L)) hn (fun D H' h' => h') (fun D i H' hi h' => ?_) (fun D H' h' => ?_)
  · have et : rgI ((i + 1 : Nat) : Int) = rgI i ++ [(i : Int)] := by
      unfold rgI
      rw [Int.toNat_natCast, Int.toNat_natCast, List.range_succ, List.map_append]
      rfl
    have lr : (rgI (i : Int)).length = i := by rw [rgI_len, Int.toNat_natCast]
    refine ⟨hw _, ht i (by omega) hi D _ H' _ h' fun H2 h2 => ?_⟩
    refine ifB (fun e => ?_) (fun e => ?_)
    · refine hs i (by omega) hi e D _ H2 _ h2 fun H3 h3 => ?_
      refine ⟨_, h3.g0, ?_, ?_⟩
      · rw [sizeLine_eq, List.length_map]
        have l1 := List.length_filter_le c (rgI i)
        omega
      · rw [et, List.filter_append, List.map_append, List.filter_cons, if_pos e]
        exact h3.s0
    · rw [et, List.filter_append, List.filter_cons, if_neg (by rw [e]; decide)]
      simpa using h2
  · rw [Int.toNat_of_nonneg hn.1] at h'
    exact q D H' h'
theorem k_lcRM {k : Nat} (h : Int → V) (hh : Has H L) (hn : 0 ≤ n ∧ n ≤ 100000)
    (hs : ∀ z : Int, 0 ≤ z → z < n → ∀ D M H' (Q' : VK), Has H' ([(D, .lst M)] :: L) → (∀ H'', Has H'' ([(D, .lst M)] :: L) → Q' (h z) H'') → te ((wipe σ [k]).set k (some (.int z))) H' Q')
    (q : ∀ D H', Has H' ([(D, .lst ((rgI n).map h))] :: L) → Q (.ref D) H') : kLcR (gName k) tYes te [k] σ [.int n] H Q :=
  k_lcRF h (fun _ => true) hh hn (fun z _ _ D M H' Q' h' q' => q' H' h') (fun z h0 h1 _ => hs z h0 h1) fun D H' h' => q D H' (by rw [filt_true] at h'; exact h')
theorem x_yes (q : QT true H) : tYes σ H QT := q
end
end Sy
/-! More rules: C.f(..) of a def read off its class; comprehensions over dicts. -/
namespace Sy
open PySem PySem.Spec PyProof.Rows L2
def tCFn (C : Addr) (sp : Sp) (dvs : List V) (E : XK) (ta : TE) (t : TA) : TE := fun σ H Q => ta σ H fun x H1 => x = .ref C ∧ t σ H1 fun vs H2 => sp (vs ++ dvs) H2 Q E
/-- what the text must say of C.f, a def -/
structure CFn (K : PySem.W.Frag) (C : Addr) (mc : Value) (m : Str) (f : Addr) : Prop where
  rd : PySem.W.readsIn K C mc = true
  ga : PySem.W.specialIn K (.ref C) "__getattribute__" = some (some (.builtin "type.__getattribute__"))
  at_ : PySem.W.findCls K (.ref C) mc m = some (.val (.ref f))
  kp : PySem.W.keepIn K (.ref f) = true
section
variable {X : Cx} {CX : CXT} {k : Nat} {f C : Addr} {fd : FuncData} {ps : List Str} {sp : Sp} {dvs : List V} {ds : List Value} {E : XK} {m : Str} {pos apos : Pos} {e o : Expr} {es : List Expr} {ta : TE} {t : TA} {mc : Value}
theorem pe_cfn {pl : Sem Bool} (he : PE X o ta) (c : CFn X.K C mc m f) (F : FnOk X.prog X.w X.K X.mg X.base CX k f fd ps sp) (hr : Room k X.A) (hb : Binds X.K fd ps ds) (hd : Vals dvs ds) (hx : Passes CX X E) (ha : PA X (e :: es) t)
    (hst : starEach (e :: es) X.env = (false, eval e X.env) :: starEach es X.env := by rfl) (hpl : (backTo pos (starEach es X.env)).any (·.1) = false := by rfl)
    (ht : eval (.Call (.Attribute o m apos) (e :: es) [] pos) X.env = (do
      let ov ← eval o X.env
      standAt apos.atName
      let (f, first) ← holding [ov] (getMethod ov m pl)
      callWith pos f first (backTo pos (starEach (e :: es) X.env)) (backToKw pos (keywordEach [] X.env))) := by rfl) :
    PE X (.Call (.Attribute o m apos) (e :: es) [] pos) (tCFn C sp dvs E ta t) := by
  refine ⟨fun pins s σ H Q I h => ?_⟩
  refine PySem.W.methodCall_KW (pl := pl) (thn (he.run pins s σ H _ I h) fun u s1 ⟨x, H1, I1, rx, ex, q⟩ => ?_) ht
  subst ex
  obtain rfl : u = Value.ref C := rx
  refine PySem.W.method_cls I1.kIn c.ga (PySem.W.cls_value I1.kIn c.rd c.at_ rfl ?_)
  have I2 := I1.tok (s1.toks + 1)
  refine PySem.W.callWith_K (first := []) (h₀ := X.base) I.ok.mod.kin c.kp (thn (ha.run pos pins _ σ H1 _ I2 q) fun us s2 ⟨vs, H2, I3, r, q2⟩ => ⟨I3.kIn, ?_⟩) hst hpl
  exact run_fn F hr hb hd hx I3 r q2
end
end Sy
namespace Sy
open PySem L2
section
variable {K : PySem.W.Frag} {σ : St} {H H1 : Hp} {L : List U} {Q : VK} {ta td te : TE} {tr : TA} {v x y z : V} {xs ys : List V} {i j n m : Int} {a b d p : Addr} {C : Addr} {nx bk ct : St → Hp → Prop} {rt : VK} {s1 : TS} {A : Prop}
def kCFn (C : Addr) (sp : Sp) (dvs : List V) (E : XK) (t : TA) (σ : St) (x : V) (H1 : Hp) (Q : VK) : Prop := x = .ref C ∧ t σ H1 fun vs H2 => sp (vs ++ dvs) H2 Q E
theorem x_cfn {sp : Sp} {dvs : List V} {E : XK} (q : ta σ H fun x H1 => kCFn C sp dvs E tr σ x H1 Q) : tCFn C sp dvs E ta tr σ H Q := q
theorem k_cfn0 {sp : Sp} {E : XK} (q : tr σ H fun vs H2 => sp vs H2 Q E) : kCFn C sp [] E tr σ (.ref C) H Q := by
  have e : (fun vs H1 => sp (vs ++ []) H1 Q E) = fun vs H1 => sp vs H1 Q E := by funext vs H1; rw [List.append_nil]
  refine ⟨rfl, ?_⟩
  rw [e]
  exact q
/-! ### a dict while it is walked -/
theorem dget_F {o : Obj} {mm : List (Int × V)} (hp : H a = some (.frz o (dI mm))) : DGet H a (.int i) (valV mm i) := by
  rw [← mk_val g1_inj mm i]
  exact .inl ⟨_, g1 i, .inr ⟨o, hp⟩, rfl, rfl⟩
theorem k_dgetF {o : Obj} {mm : List (Int × V)} (hp : H a = some (.frz o (dI mm))) (hv : valV mm i = some v) (q : Q v H) : kDGet (.ref a) (.int i) H Q := ⟨a, v, rfl, hv ▸ dget_F hp, q⟩
/-- the keys of a locked dict, with a test and an element -/
theorem lc_keysF {k : Nat} {tt : TT} {o : Obj} {mm : List (Int × V)} (h : Int → V) (c : Int → Bool) (hh : Has H L) (hd : ∀ H', Has H' L → H' d = some (.frz o (dI mm))) (hz : mm.length ≤ 100000)
    (ht : ∀ z ∈ mm.map (·.1), ∀ D M H' (Q' : Bool → Hp → Prop), Has H' ([(D, .lst M)] :: L) → (∀ H'', Has H'' ([(D, .lst M)] :: L) → Q' (c z) H'') → tt ((wipe σ [k]).set k (some (.int z))) H' Q')
    (hs : ∀ z ∈ mm.map (·.1), c z = true → ∀ D M H' (Q' : VK), Has H' ([(D, .lst M)] :: L) → (∀ H'', Has H'' ([(D, .lst M)] :: L) → Q' (h z) H'') → te ((wipe σ [k]).set k (some (.int z))) H' Q')
    (q : ∀ D H', Has H' ([(D, .lst (((mm.map (·.1)).filter c).map h))] :: L) → Q (.ref D) H') : kLc (gName k) tt te [k] σ (Itk d o (mk g1 mm)) H Q := by
  have hw : ∀ x, wipe ((wipe σ [k]).set k (some x)) [k] = wipe σ [k] := fun x => by
    show ((σ.set k none).set k (some x)).set k none = σ.set k none
    rw [List.set_set, List.set_set]
  intro D hD
  have hl : (mk g1 mm).length = mm.length := mk_len _ _
  refine ⟨fun i m H' => m = mm.length - i ∧ i ≤ mm.length ∧ Has H' ([(D, .lst ((((mm.map (·.1)).take i).filter c).map h))] :: L), ⟨mm.length, by simp, Nat.zero_le _, hh.nw hD⟩, ?_⟩
  rintro i m H' ⟨rfl, hi, p⟩
  have pl := hd H' (p.sub (Sub.skip Sub.rf))
  by_cases hlt : i < mm.length
  · refine .inr ⟨⟨pl, by rw [hl]; exact hlt⟩, fun H2 => Has H2 ([(D, .lst ((((mm.map (·.1)).take (i + 1)).filter c).map h))] :: L), fun H2 p2 => ⟨mm.length - (i + 1), by omega, rfl, hlt, p2⟩, fun x H2 y => ?_⟩
    obtain ⟨e, kk, vv, hk, ex⟩ := y
    subst e
    have hz1 : (mm.map (·.1))[i]? = some (mm[i]).1 := by rw [List.getElem?_map, List.getElem?_eq_getElem hlt]; rfl
    have hkk : kk = g1 (mm[i]).1 := by
      unfold mk at hk
      rw [List.getElem?_map, List.getElem?_eq_getElem hlt] at hk
      exact (congrArg Prod.fst (Option.some.inj hk)).symm
    subst hkk
    have ex : x = .int (mm[i]).1 := ex
    subst ex
    have hm : (mm[i]).1 ∈ mm.map (·.1) := List.mem_of_getElem? hz1
    have et : (mm.map (·.1)).take (i + 1) = (mm.map (·.1)).take i ++ [(mm[i]).1] := by rw [List.take_add_one, hz1]; rfl
    refine ⟨hw _, ht _ hm D _ H2 _ p fun H3 h3 => ?_⟩
    refine ifB (fun e => ?_) (fun e => ?_)
    · refine hs _ hm e D _ H3 _ h3 fun H4 h4 => ?_
      refine ⟨_, h4.g0, ?_, ?_⟩
      · rw [sizeLine_eq, List.length_map]
        have l1 := List.length_filter_le c ((mm.map (·.1)).take i)
        have l3 := List.length_take_le' i (mm.map (·.1))
        rw [List.length_map] at l3
        omega
      · rw [et, List.filter_append, List.map_append, List.filter_cons, if_pos e]
        exact h4.s0
    · rw [et, List.filter_append, List.filter_cons, if_neg (by rw [e]; decide)]
      simpa using h3
  · have e : i = mm.length := by omega
    subst e
    refine .inl ⟨⟨pl, by rw [hl]; exact Nat.le_refl _⟩, q D H' ?_⟩
    have e2 : (mm.map (·.1)).take mm.length = mm.map (·.1) := List.take_of_length_le (by rw [List.length_map]; exact Nat.le_refl _)
    rw [e2] at p
    exact p
/-- [h z for z in d if c z], d a dict that stands in what is known -/
theorem x_lcD {k : Nat} {tt : TT} {mm : List (Int × V)} (h : Int → V) (c : Int → Bool) (hh : Has H ([(d, dI mm)] :: L)) (hz : mm.length ≤ 100000)
    (htd : ∀ o H' (Q' : VK), Has H' ([(d, .frz o (dI mm))] :: L) → Q' (.ref d) H' → td σ H' Q')
    (ht : ∀ o, ∀ z ∈ mm.map (·.1), ∀ D M H' (Q' : Bool → Hp → Prop), Has H' ([(D, .lst M)] :: [(d, .frz o (dI mm))] :: L) → (∀ H'', Has H'' ([(D, .lst M)] :: [(d, .frz o (dI mm))] :: L) → Q' (c z) H'') → tt ((wipe σ [k]).set k (some (.int z))) H' Q')
    (hs : ∀ o, ∀ z ∈ mm.map (·.1), c z = true → ∀ D M H' (Q' : VK), Has H' ([(D, .lst M)] :: [(d, .frz o (dI mm))] :: L) → (∀ H'', Has H'' ([(D, .lst M)] :: [(d, .frz o (dI mm))] :: L) → Q' (h z) H'') → te ((wipe σ [k]).set k (some (.int z))) H' Q')
    (q : ∀ D H', Has H' ([(D, .lst (((mm.map (·.1)).filter c).map h))] :: [(d, dI mm)] :: L) → Q (.ref D) H') : tLockE (tLc (iKeys td) (gName k) tt te [k]) σ H Q := by
  refine ⟨d, dI mm, hh.g0, trivial, fun o => ?_⟩
  have h1 : Has (upd H d (.frz o (dI mm))) ([(d, .frz o (dI mm))] :: L) := hh.s0
  have z : kLc (gName k) tt te [k] σ (Itk d o (mk g1 mm)) (upd H d (.frz o (dI mm))) (fun v H' => H' d = some (.frz o (dI mm)) ∧ Q v (upd H' d (dI mm))) :=
    lc_keysF h c h1 (fun H' h' => h'.g0) hz (ht o) (hs o) fun D H' h' => ⟨h'.g1, q D _ h'.s1⟩
  exact htd o _ _ h1 ⟨d, o, rfl, .inl ⟨mk g1 mm, h1.g0, z⟩⟩
/-- x = [h z for z in d if c z] -/
theorem x_asgD {k l : Nat} {tt : TT} {mm : List (Int × V)} (h : Int → V) (c : Int → Bool) (hh : Has H ([(d, dI mm)] :: L)) (hz : mm.length ≤ 100000)
    (htd : ∀ o H' (Q' : VK), Has H' ([(d, .frz o (dI mm))] :: L) → Q' (.ref d) H' → td σ H' Q')
    (ht : ∀ o, ∀ z ∈ mm.map (·.1), ∀ D M H' (Q' : Bool → Hp → Prop), Has H' ([(D, .lst M)] :: [(d, .frz o (dI mm))] :: L) → (∀ H'', Has H'' ([(D, .lst M)] :: [(d, .frz o (dI mm))] :: L) → Q' (c z) H'') → tt ((wipe σ [k]).set k (some (.int z))) H' Q')
    (hs : ∀ o, ∀ z ∈ mm.map (·.1), c z = true → ∀ D M H' (Q' : VK), Has H' ([(D, .lst M)] :: [(d, .frz o (dI mm))] :: L) → (∀ H'', Has H'' ([(D, .lst M)] :: [(d, .frz o (dI mm))] :: L) → Q' (h z) H'') → te ((wipe σ [k]).set k (some (.int z))) H' Q')
    (q : ∀ D H', Has H' ([(D, .lst (((mm.map (·.1)).filter c).map h))] :: [(d, dI mm)] :: L) → nx (σ.set l (some (.ref D))) H') : tLock (tAsg (tLc (iKeys td) (gName k) tt te [k]) (gName l)) ⟨nx, rt, bk, ct⟩ σ H := by
  refine ⟨d, dI mm, hh.g0, trivial, fun o => ?_⟩
  have h1 : Has (upd H d (.frz o (dI mm))) ([(d, .frz o (dI mm))] :: L) := hh.s0
  have z : kLc (gName k) tt te [k] σ (Itk d o (mk g1 mm)) (upd H d (.frz o (dI mm))) (fun v H' => H' d = some (.frz o (dI mm)) ∧ nx (σ.set l (some v)) (upd H' d (dI mm))) :=
    lc_keysF h c h1 (fun H' h' => h'.g0) hz (ht o) (hs o) fun D H' h' => ⟨h'.g1, q D _ h'.s1⟩
  exact htd o _ _ h1 ⟨d, o, rfl, .inl ⟨mk g1 mm, h1.g0, z⟩⟩
/-! ### x in xs, whole numbers -/
theorem k_inI {neg : Bool} {ns : List Int} (hp : H p = some (.lst (ns.map V.int))) (q : Q (.bl (if neg then !decide (i ∈ ns) else decide (i ∈ ns))) H) : rIn K neg (.int i) (.ref p) H Q := by
  refine ⟨p, _, rfl, .inl (SqL.of hp), rfl, ?_, ?_⟩
  · rw [List.all_eq_true]
    intro y hy
    obtain ⟨z, _, rfl⟩ := List.mem_map.mp hy
    rfl
  · have e : inV (.int i) (ns.map V.int) = decide (i ∈ ns) := by
      unfold inV
      rw [List.any_map]
      by_cases h : i ∈ ns
      · rw [decide_eq_true h, List.any_eq_true]
        exact ⟨i, h, by simp [eqV]⟩
      · rw [decide_eq_false h, List.any_eq_false]
        intro z hz
        have : z ≠ i := fun e => h (e ▸ hz)
        simp [eqV, this]
    rw [e]
    exact q
theorem k_inIt {ns : List Int} (hp : H p = some (.lst (ns.map V.int))) (q : Q (.bl (decide (i ∈ ns))) H) : rIn K false (.int i) (.ref p) H Q := k_inI hp q
theorem k_inIf {ns : List Int} (hp : H p = some (.lst (ns.map V.int))) (q : Q (.bl (!decide (i ∈ ns))) H) : rIn K true (.int i) (.ref p) H Q := k_inI hp q
/-- [h z for .. in zs if c z], the target of any form: behind it the names are t z -/
theorem k_lcG {α : Type} {g : TG} {tt : TT} {vs : List Nat} (zs : List α) (e : α → V) (h : α → V) (c : α → Bool) (t : α → St) (hh : Has H L) (ha : ∀ H', Has H' L → H' a = some (.lst (zs.map e))) (hz : zs.length ≤ 100000) (hw : ∀ z ∈ zs, wipe (t z) vs = wipe σ vs)
    (hg : ∀ z ∈ zs, ∀ D M H' (Q' : St → Hp → Prop), Has H' ([(D, .lst M)] :: L) → Q' (t z) H' → g (e z) (wipe σ vs) H' Q')
    (ht : ∀ z ∈ zs, ∀ D M H' (Q' : Bool → Hp → Prop), Has H' ([(D, .lst M)] :: L) → (∀ H'', Has H'' ([(D, .lst M)] :: L) → Q' (c z) H'') → tt (t z) H' Q')
    (hs : ∀ z ∈ zs, c z = true → ∀ D M H' (Q' : VK), Has H' ([(D, .lst M)] :: L) → (∀ H'', Has H'' ([(D, .lst M)] :: L) → Q' (h z) H'') → te (t z) H' Q')
    (q : ∀ D H', Has H' ([(D, .lst ((zs.filter c).map h))] :: L) → Q (.ref D) H') : kLcL K g tt te vs σ (.ref a) H Q := by
  refine k_lcL (L := L) hh (fun D i H' => Has H' ([(D, .lst (((zs.take i).filter c).map h))] :: L)) (ha H hh) (fun D H' h' => h') (fun D i H' h' => ha H' (h'.sub (Sub.skip Sub.rf))) (fun D i x H' hi h' => ?_) (fun D H' h' => ?_)
  · rw [List.getElem?_map] at hi
    obtain ⟨z, hz1, rfl⟩ := Option.map_eq_some_iff.mp hi
    have hm : z ∈ zs := List.mem_of_getElem? hz1
    have et : zs.take (i + 1) = zs.take i ++ [z] := by rw [List.take_add_one, hz1]; rfl
    refine hg z hm D _ H' _ h' ⟨hw z hm, ht z hm D _ H' _ h' fun H2 h2 => ?_⟩
    refine ifB (fun e => ?_) (fun e => ?_)
    · refine hs z hm e D _ H2 _ h2 fun H3 h3 => ?_
      refine ⟨_, h3.g0, ?_, ?_⟩
      · rw [sizeLine_eq, List.length_map]
        have l1 := List.length_filter_le c (zs.take i)
        have l3 := List.length_take_le' i zs
        omega
      · rw [et, List.filter_append, List.map_append, List.filter_cons, if_pos e]
        exact h3.s0
    · rw [et, List.filter_append, List.filter_cons, if_neg (by rw [e]; decide)]
      simpa using h2
  · rw [List.length_map, List.take_length] at h'
    exact q D H' h'
theorem k_neDNN (q : Q (.bl false) H) : rNeD K .non .non H Q := ⟨.none, .none, .non, .non, by decide +kernel, by decide +kernel, by
  have e : PyData.eqv .none .none = true := by decide +kernel
  rw [e]; exact q⟩
theorem k_eqDNN (q : Q (.bl true) H) : rEqD K .non .non H Q := ⟨.none, .none, .non, .non, by decide +kernel, by decide +kernel, by
  have e : PyData.eqv .none .none = true := by decide +kernel
  rw [e]; exact q⟩
end
end Sy
/-! Rules of our own: d.pop(k) for keys that are tuples; comprehensions over such dicts; set(xs) of a list of whole numbers, sorted. -/
namespace Sy
open PySem PySem.W PySem.Calls PySem.Spec PyProof.Rows L2
section
variable {κ : Type} [DecidableEq κ] {prog : Program} {w : World} {knd : HeapKind prog w κ}
theorem meetsPop1 {d b : Addr} {k : κ} (hd : (d == sysModules) = false) :
    MeetsIn prog w (Builtin.«dict.pop» ⟨[.ref d, .ref b], []⟩) (fun A R s => ∃ xs p, knd.room A.in1 ∧ knd.is s.heap k b ∧ s.heap.DictOfH knd d xs ∧ xs.length ≤ sizeLine ∧ atKey xs k = some p ∧
      ∀ h' tk, h'.DictOfH knd d (DT.dropH xs k) → Heap.SameBut d s.heap h' → R (.ok (.ret p.2)) { s with heap := h', toks := tk }) :=
  .of_wp fun A R s ⟨xs, p, hu, hkey, hm, hsz, hp, hsome⟩ => by
    obtain ⟨o, es, ep, ho, hc, hdat, he, his, hn⟩ := id hm
    have hpart : (keyPart (Value.ref b)).isSome = false := rfl
    have hes : es.size = xs.length := by rw [← Array.length_toList, he, List.length_map]
    unfold Builtin.«dict.pop»
    refine wpAny_bind ?_
    unfold Builtin.Dict.keyAndDefault
    refine wpAny_bind (wpAny_notOrdered_dict hm.typeIs ?_)
    show wpAny _ _ (pure (d, Value.ref b, none)) _ _ s
    refine wpAny_pure ?_
    simp only [hpart, Bool.false_eq_true, if_false]
    refine wpAny_bind (wpAny_dictEntries ho hdat (wpAny_bind (wpAny_pure ?_)))
    have hem : es.isEmpty = false := by
      cases hq : es.isEmpty with
      | false => rfl
      | true =>
        have z : es.size = 0 := by simpa using hq
        have z2 : xs = [] := List.length_eq_zero_iff.mp (by omega)
        rw [z2] at hp
        cases hp
    rw [hem]
    simp only [Bool.false_eq_true, if_false]
    refine wpAny_bind (DT.takeH hu hkey hm hsz (fun hno => absurd (hno.symm.trans hp) (fun z => nomatch z)) fun p' e hp' hev h' hm' hs' => ?_)
    simp only [Option.isNone_some, Bool.false_eq_true, if_false]
    have e2 : p' = p := Option.some.inj (hp'.symm.trans hp)
    subst e2
    exact wpAny_bind (wpAny_letGo (wpAny_pure ⟨e.val, rfl, by rw [hev]; exact hsome h' _ hm' hs'⟩))
end
/-- d.pop(k), k a tuple that is there -/
def tDPopT (td ty : TE) : TE := fun σ H Q => td σ H fun x H1 => ∃ a, x = .ref a ∧ IsD H1 a ∧ ty σ H1 fun y H2 => ∃ kvs k b v, H2 a = some (.dT kvs) ∧ y = .ref b ∧ H2 b = some (.tup (k.map kV)) ∧ valV kvs k = some v ∧ Q v (upd H2 a (.dT (dropK kvs k)))
section
variable {X : Cx} {o e : Expr} {apos cpos : Pos} {td ty : TE}
theorem pe_dpopT (hu : X.A.units + 1 < cLine) (ho : PE X o td) (he : PE X e ty) (m : M1 X o "pop" apos e cpos) : PE X (.Call (.Attribute o "pop" apos) [e] [] cpos) (tDPopT td ty) := by
  refine ⟨fun pins s σ H Q I h => ?_⟩
  refine wpAny_Call_method m.base m.few m.line PySem.F.plainAttrs_dict PySem.F.slot_dict_pop PySem.F.type_dict_pop (thn (ho.run pins s σ H _ I h) fun u s1 ⟨x, H1, I1, rx, a, ex, d, q1⟩ => ?_)
  subst ex
  obtain rfl : u = Value.ref a := rx
  obtain ⟨t1, t2, _⟩ := isD_at I1 d
  refine ⟨t1, t2, ?_⟩
  rw [m.trees]
  refine Calls.callWith_builtin rfl (Calls.evalArgs_plain (Calls.spliced_cons (thn (he.run pins s1 σ H1 _ I1 q1) fun iv s2 ⟨y, H2, I2, ry, kvs, k, b, v, ea, ey, eb, l, q2⟩ => Calls.spliced_nil ?_)))
  subst ey
  obtain rfl : iv = Value.ref b := ry
  obtain ⟨z, hd, xs, rel, dd⟩ := dt_of I2.hok ea
  have hz : xs.length ≤ sizeLine := by rw [← Paired.length rel]; exact z
  have r := rel.val k
  rw [l] at r
  obtain ⟨p, hp, rp⟩ : ∃ p, atKey xs k = some p ∧ RelV v p.2 := by
    cases ev : atKey xs k with
    | none => rw [ev] at r; exact (show False from r).elim
    | some p => rw [ev] at r; exact ⟨p, rfl, r⟩
  refine call_meetsIn PySem.F.slot_dict_pop dd.typeIs PySem.F.entry_dict_pop (PySem.F.args_dict_pop_2 _ _) (meetsPop1 (knd := tupleKind (mixKind X.prog X.w)) (k := k) hd)
    ⟨xs, p, tupleKind_room_in1 hu, key_of I2.hok eb, dd, hz, hp, fun h' tk dd' hs => ?_⟩
  obtain ⟨o, es, ep, hq, h2, h3, h4, _, h5⟩ := dd'
  have I3 : Inv X pins σ (upd H2 a (.dT (dropK kvs k))) { s2 with heap := h', toks := tk } :=
    d_write I2 (by rw [ea]; exact True.intro) hs ⟨o, hq⟩ ⟨Nat.le_trans (dropK_le kvs k) z, hd, _, (DX.KT_drop k rel).keeps (fun c ys ec => (by rw [upd_ne (ne_of ec ea (fun z => nomatch z))]; exact ec)), o, es, ep, hq, h2, h3, h4, h5⟩
  exact ⟨v, _, I3, rp, q2⟩
end
section
variable {P : Program} {w : World} {A : Around} {E : Value → Shared → Prop} {s : Shared}
abbrev freshSet (w : World) : Obj := { cls := .type "set", dict := none, data := .set #[] 0 (.fresh 0 0 (!w.params.followText "set-order")) }
set_option maxHeartbeats 3200000 in
theorem call_set_ints {l : Addr} {items : Array Value} (ns : List Int) {Q : Value → Shared → Prop} (hh : A.handled = none) (hl : s.heap.IsList l items) (hit : IntsAre items.toList ns) (hb : ns.length + 1 < scanBound)
    (h : ∀ (h' : Heap) (tk c : Nat), SetR w h' s.heap.objs.size (fun j => decide (j ∈ ns)) c → c ≤ ns.length → (∀ b o, s.heap.get? b = some o → h'.get? b = some o) → Q (.ref s.heap.objs.size) { s with heap := h', toks := tk }) :
    wpAny (model P w) A (call (.type "set") [.ref l]) Q E s := by
  have hisz : items.size = ns.length := by
    have q := IntsAre.length hit
    rw [Array.length_toList] at q
    exact q
  obtain ⟨c, tl, hmro⟩ := F.called_set.mro
  have hmade := F.called_set.made
  have hsub := F.called_set.sub
  refine wpAny_call (codeAny_of_tree ?_)
  show wpAny _ _ (callAny (.type "set") _) _ _ _
  refine wpAny_pure ⟨Code.quiet_builtin _ (by decide +kernel), codeAny_builtin F.entry_type_call ?_⟩
  rw [Around.under_plain (weight_type_call_type "set" [.ref l] []) rfl]
  have h1 := F.called_set.notType
  have h2 := F.called_set.canCreate
  have hct := F.typeCall_set_1 (.ref l)
  repeat (any_goals (first | assumption | wp_step))
  refine codeAny_mono (code_set_led1 (.ref l) (E := E) (Q₁ := fun obj s₁ => obj = .ref s.heap.objs.size ∧ s₁ = { s with heap := s.heap.push (freshSet w) }) ⟨rfl, rfl⟩) fun r s₁ hr => ?_
  match r, hr with
  | .error e, hr => exact hr
  | .ok (.ret obj), hr =>
    obtain ⟨rfl, rfl⟩ := hr
    have hS : (s.heap.push (freshSet w)).get? s.heap.objs.size = some (freshSet w) := Heap.get?_push_size _ rfl
    have hT : Shared.TypeIs { s with heap := s.heap.push (freshSet w) } (.ref s.heap.objs.size) "set" := ⟨_, hS, rfl⟩
    have hli := F.called_set.init.lookup
    have hbi := F.called_set.init.bind (.ref s.heap.objs.size)
    repeat (any_goals (first | assumption | wp_step))
    refine codeAny_mono (codeAny_call_builtin (R := wants (fun r s₂ => r = .none ∧ ∃ h' tk c, s₂ = { s with heap := h', toks := tk } ∧ SetR w h' s.heap.objs.size (fun j => decide (j ∈ ns)) c ∧ c ≤ ns.length ∧
        (∀ b o, s.heap.get? b = some o → h'.get? b = some o)) E) F.called_set.init.plain F.entry_set_init (check_set_init_1 hT ?_)) fun r₂ s₂ hr₂ => ?_
    · obtain ⟨ol, hol, hcl, nl, hdl⟩ := hl
      obtain ⟨ocls, odict, odata, oslots⟩ := ol
      simp only at hcl hdl
      subst hcl; subst hdl
      have hol' : (s.heap.push (freshSet w)).get? l = some { cls := .type "list", dict := odict, data := .seq items nl, slots := oslots } := Heap.get?_push_of_some _ hol
      have hsls := F.sub_list_set
      have hslf := F.sub_list_frozenset
      have hne : (Value.type "list" == Value.type "dict") = false := by decide
      have hl1 : (s.heap.push (freshSet w)).IsList l items := ⟨_, hol', rfl, nl, rfl⟩
      unfold Builtin.«set.__init__» noKeywords Builtin.Frozenset.updateFrom
      generalize hPI : pyIter = PI
      wp_walk
      subst hPI
      refine wpAny_pyIter_list hl1 ?_
      refine wpAny_bind (wpAny_runValue ?_)
      have hlS : l < s.heap.objs.size := Heap.lt_size hol
      have hsp : (s.heap.push (freshSet w)).objs.size = s.heap.objs.size + 1 := Heap.size_push ..
      have hneI : l ≠ (s.heap.push (freshSet w)).objs.size := by rw [hsp]; exact Nat.ne_of_lt (Nat.lt_succ_of_lt hlS)
      have hSf : s.heap.objs.size ∉ [(s.heap.push (freshSet w)).objs.size, l] := by
        simp only [List.mem_cons, List.not_mem_nil, or_false, not_or]
        exact ⟨by rw [hsp]; exact Nat.ne_of_lt (Nat.lt_succ_self _), Nat.ne_of_gt hlS⟩
      have hval : ∀ (i : Nat) (v : Value), items[i]? = some v → ∃ k t, ns[i]? = some k ∧ v = .int k t := fun i v hv => by
        have hi : i < ns.length := by rw [← hisz]; exact (Array.getElem?_eq_some_iff.mp hv).1
        obtain ⟨t, e⟩ := PyProof.Rows.IntsAre.int_at hit i v (by rw [Array.getElem?_toList]; exact hv)
        refine ⟨ns[i], t, List.getElem?_eq_getElem hi, ?_⟩
        rw [e, List.getD_eq_getElem?_getD, List.getElem?_eq_getElem hi] <;> rfl
      refine set_update_ints ((Walks.list (by simp [hh]) _ l hneI items).toS) s.heap.objs.size hSf ns hisz hb hval (items.size - 0) 0 _ (by omega) (Nat.zero_le _)
        ⟨⟨_, Heap.get?_push_size _ rfl, rfl, rfl⟩, hl1.push _⟩ ⟨0, Nat.le_refl 0, setR_new_at (Heap.get?_push_of_some _ hS)⟩ fun s' c' hm hc' hS' => ?_
      obtain ⟨h', g2, d', tk', os'⟩ := s'
      have eg : g2 = s.gens := hm.gens
      have ed : d' = s.drawn := hm.drawn
      have eo : os' = s.os := hm.os
      subst eg; subst ed; subst eo
      show wpAny _ _ _ _ _ _
      refine wpAny_pure ?_
      show wpAny _ _ (ret Value.none) _ _ _
      rw [hisz] at hc'
      refine wpAny_pure ⟨rfl, h', tk', c', rfl, hS', hc', fun b o e => ?_⟩
      have hb0 : b < s.heap.objs.size := Heap.lt_size e
      exact hm.heap b o (by simp only [List.mem_cons, List.not_mem_nil, or_false, not_or]; exact ⟨Nat.ne_of_lt hb0, by rw [hsp]; exact Nat.ne_of_lt (Nat.lt_succ_of_lt hb0)⟩) (Heap.get?_push_of_some _ (Heap.get?_push_of_some _ e))
    · match r₂, hr₂ with
      | .error e, hr₂ => exact hr₂
      | .ok (.ret r), hr₂ =>
        obtain ⟨rfl, h', tk, c', rfl, hS', hc', hk'⟩ := hr₂
        repeat (any_goals (first | assumption | wp_step))
        exact h _ _ _ hS' hc' hk'
      | .ok .next, hr₂ => exact hr₂.elim
      | .ok .brk, hr₂ => exact hr₂.elim
      | .ok .cont, hr₂ => exact hr₂.elim
  | .ok .next, hr => exact hr.elim
  | .ok .brk, hr => exact hr.elim
  | .ok .cont, hr => exact hr.elim
end
/-- set(xs), whole numbers -/
def rSetOf (K : PySem.W.Frag) (w : World) : List V → Hp → VK → Prop := fun vs H Q => ∃ (p : Addr) (ns : List Int), vs = [.ref p] ∧ SqL K H p (ns.map V.int) ∧ ns.length ≤ 1000 ∧
  ∀ q c, H q = none → c ≤ ns.length → Q (.ref q) (upd H q (SetO w q (fun j => decide (j ∈ ns)) c))
section
variable {X : Cx}
theorem call_setOf (hc : X.calm = true) : CallR X (.type "set") (rSetOf X.K X.w) := by
  intro pins s σ H vs us Q I r h
  obtain ⟨p, ns, rfl, hp, hl, q⟩ := h
  rw [Vals.ref1 r]
  obtain ⟨its, rv, pt, _⟩ := I.list hp
  have hi : IntsAre its.toArray.toList ns := ints_of_vals rv
  refine call_set_ints ns (I.ok.hd hc) pt.isList hi (by unfold scanBound; omega) fun h' tk c R1 hcn k => ?_
  have hn : H s.heap.objs.size = none := I.hok.fresh (Nat.le_refl _)
  exact ⟨.ref s.heap.objs.size, _, I.laid (t' := tk) (fun b u e => k b u e) (Nat.le_refl _) (setO_new R1), rfl, q _ c hn hcn⟩
end
/-- sorted(set(xs)), whole numbers -/
def tSSet (K : PySem.W.Frag) (t : TA) : TE := fun σ H Q => ∀ w : World, t σ H fun vs H1 => rSetOf K w vs H1 fun v H2 => rSortedSet w [v] H2 Q
section
variable {X : Cx} {e : Expr} {t : TA} {p p2 pos pos2 : Pos}
theorem pe_sset (hc : X.calm = true) (hg : Gl X "sorted") (hm : X.mg "sorted" = none) (hg2 : Gl X "set") (hm2 : X.mg "set" = none) (ha : PA X [e] t)
    (hs2 : starEach [e] X.env = [(false, eval e X.env)] := by rfl)
    (hs : starEach [.Call (.Name "set" p2) [e] [] pos2] X.env = [(false, eval (.Call (.Name "set" p2) [e] [] pos2) X.env)] := by rfl) :
    PE X (.Call (.Name "sorted" p) [.Call (.Name "set" p2) [e] [] pos2] [] pos) (tSSet X.K t) := by
  have h1 : PE X (.Call (.Name "sorted" p) [.Call (.Name "set" p2) [e] [] pos2] [] pos) (tCB (rSortedSet X.w) (tCons (tCB (rSetOf X.K X.w) t) tNil)) :=
    pe_callB (cr_sortedSet hc) hg hm (by decide +kernel) (pa_cons (pe_callTy (call_setOf hc) hg2 hm2 (by decide +kernel) ha (by decide) (by decide) hs2 rfl) pa_nil) (by decide) (by decide) hs rfl
  exact ⟨fun pins s σ H Q I h => h1.run pins s σ H Q I (h X.w)⟩
end
end Sy
namespace Sy
open PySem L2
section
variable {K : PySem.W.Frag} {σ : St} {H H1 : Hp} {L : List U} {Q : VK} {ta td te ty : TE} {tr : TA} {v x y z : V} {xs ys : List V} {i j n m : Int} {a b d p : Addr} {C : Addr} {nx bk ct : St → Hp → Prop} {rt : VK} {s1 : TS} {A : Prop}
def kSSet (K : PySem.W.Frag) (w : World) (vs : List V) (H1 : Hp) (Q : VK) : Prop := rSetOf K w vs H1 fun v H2 => rSortedSet w [v] H2 Q
theorem x_sset (q : ∀ w, tr σ H fun vs H1 => kSSet K w vs H1 Q) : tSSet K tr σ H Q := q
theorem k_sset {w : World} {ns : List Int} (hh : Has H L) (hp : H p = some (.lst (ns.map V.int))) (hl : ns.length < 64)
    (q : ∀ (ys : List Int) d H', ys.Pairwise (· < ·) → (∀ k, k ∈ ys ↔ k ∈ ns) → Has H' ([(d, .lst (ys.map V.int))] :: L) → Q (.ref d) H') : kSSet K w [.ref p] H Q := by
  refine ⟨p, ns, rfl, SqL.of hp, by omega, fun r c hr hc => ?_⟩
  have h1 := hh.nw (o := SetO w r (fun j => decide (j ∈ ns)) c) hr
  refine ⟨r, _, c, rfl, h1.g0, by omega, fun ys d hs hm _ hd => q ys d _ hs (fun k => (hm k).trans (by simp)) ?_⟩
  exact (h1.nw hd).sub (Sub.p0 (Sub.skip Sub.rf))
def kDPopT (a : Addr) (y : V) (H2 : Hp) (Q : VK) : Prop := ∃ kvs k b v, H2 a = some (.dT kvs) ∧ y = .ref b ∧ H2 b = some (.tup (k.map kV)) ∧ valV kvs k = some v ∧ Q v (upd H2 a (.dT (dropK kvs k)))
theorem x_dpopT (q : td σ H fun x H1 => kIsD x H1 fun a => ty σ H1 fun y H2 => kDPopT a y H2 Q) : tDPopT td ty σ H Q := q
theorem k_dpopT {mm : List ((Int × Int) × V)} {M : List U} (hp : H a = some (dP mm)) (hb : H b = some (.tup [.int i, .int j])) (hv : valV mm (i, j) = some v) (hh : Has (upd H a (dP (dropK mm (i, j)))) M) (q : ∀ H', Has H' M → Q v H') : kDPopT a (.ref b) H Q := by
  refine ⟨_, g2 (i, j), b, v, hp, rfl, hb, by rw [mk_val g2_inj]; exact hv, ?_⟩
  rw [mk_drop g2_inj]
  exact q _ hh
theorem dget_FP {o : Obj} {mm : List ((Int × Int) × V)} (hp : H a = some (.frz o (dP mm))) (hb : H b = some (.tup [.int i, .int j])) : DGet H a (.ref b) (valV mm (i, j)) := by
  rw [← mk_val g2_inj mm (i, j)]
  exact .inr ⟨_, g2 (i, j), b, .inr ⟨o, hp⟩, rfl, hb, rfl⟩
theorem k_dgetFP {o : Obj} {mm : List ((Int × Int) × V)} (hp : H a = some (.frz o (dP mm))) (hb : H b = some (.tup [.int i, .int j])) (hv : valV mm (i, j) = some v) (q : Q v H) : kDGet (.ref a) (.ref b) H Q := ⟨a, v, rfl, hv ▸ dget_FP hp hb, q⟩
/-- the keys of a locked dict, pairs, with a test and an element; behind the target the names are t -/
theorem lc_keysT {g : TG} {tt : TT} {o : Obj} {vs : List Nat} {mm : List ((Int × Int) × V)} (h : Int × Int → V) (c : Int × Int → Bool) (t : Addr → Int × Int → St) (hh : Has H L) (hd : ∀ H', Has H' L → H' d = some (.frz o (dP mm))) (hz : mm.length ≤ 100000)
    (hw : ∀ q, ∀ z ∈ mm.map (·.1), wipe (t q z) vs = wipe σ vs)
    (hg : ∀ q, ∀ z ∈ mm.map (·.1), ∀ D M H' (Q' : St → Hp → Prop), H' q = some (.tup [.int z.1, .int z.2]) → Has H' ([(D, .lst M)] :: L) → Q' (t q z) H' → g (.ref q) (wipe σ vs) H' Q')
    (ht : ∀ q, ∀ z ∈ mm.map (·.1), ∀ D M H' (Q' : Bool → Hp → Prop), H' q = some (.tup [.int z.1, .int z.2]) → Has H' ([(D, .lst M)] :: L) → (∀ H'', H'' q = some (.tup [.int z.1, .int z.2]) → Has H'' ([(D, .lst M)] :: L) → Q' (c z) H'') → tt (t q z) H' Q')
    (hs : ∀ q, ∀ z ∈ mm.map (·.1), c z = true → ∀ D M H' (Q' : VK), H' q = some (.tup [.int z.1, .int z.2]) → Has H' ([(D, .lst M)] :: L) → (∀ H'', Has H'' ([(D, .lst M)] :: L) → Q' (h z) H'') → te (t q z) H' Q')
    (q : ∀ D H', Has H' ([(D, .lst (((mm.map (·.1)).filter c).map h))] :: L) → Q (.ref D) H') : kLc g tt te vs σ (Itkt d o (mk g2 mm)) H Q := by
  intro D hD
  have hl : (mk g2 mm).length = mm.length := mk_len _ _
  refine ⟨fun i m H' => m = mm.length - i ∧ i ≤ mm.length ∧ Has H' ([(D, .lst ((((mm.map (·.1)).take i).filter c).map h))] :: L), ⟨mm.length, by simp, Nat.zero_le _, hh.nw hD⟩, ?_⟩
  rintro i m H' ⟨rfl, hi, p⟩
  have pl := hd H' (p.sub (Sub.skip Sub.rf))
  by_cases hlt : i < mm.length
  · refine .inr ⟨⟨pl, by rw [hl]; exact hlt⟩, fun H2 => Has H2 ([(D, .lst ((((mm.map (·.1)).take (i + 1)).filter c).map h))] :: L), fun H2 p2 => ⟨mm.length - (i + 1), by omega, rfl, hlt, p2⟩, fun x H2 y => ?_⟩
    obtain ⟨e, kk, vv, r, hk, ex, hr⟩ := y
    subst e
    have hz1 : (mm.map (·.1))[i]? = some (mm[i]).1 := by rw [List.getElem?_map, List.getElem?_eq_getElem hlt]; rfl
    have hkk : kk = g2 (mm[i]).1 := by
      unfold mk at hk
      rw [List.getElem?_map, List.getElem?_eq_getElem hlt] at hk
      exact (congrArg Prod.fst (Option.some.inj hk)).symm
    subst hkk ex
    have hr : H2 r = some (.tup [.int (mm[i]).1.1, .int (mm[i]).1.2]) := hr
    have hm : (mm[i]).1 ∈ mm.map (·.1) := List.mem_of_getElem? hz1
    have et : (mm.map (·.1)).take (i + 1) = (mm.map (·.1)).take i ++ [(mm[i]).1] := by rw [List.take_add_one, hz1]; rfl
    refine hg r _ hm D _ H2 _ hr p ⟨hw r _ hm, ht r _ hm D _ H2 _ hr p fun H3 hr3 h3 => ?_⟩
    refine ifB (fun e => ?_) (fun e => ?_)
    · refine hs r _ hm e D _ H3 _ hr3 h3 fun H4 h4 => ?_
      refine ⟨_, h4.g0, ?_, ?_⟩
      · rw [sizeLine_eq, List.length_map]
        have l1 := List.length_filter_le c ((mm.map (·.1)).take i)
        have l3 := List.length_take_le' i (mm.map (·.1))
        rw [List.length_map] at l3
        omega
      · rw [et, List.filter_append, List.map_append, List.filter_cons, if_pos e]
        exact h4.s0
    · rw [et, List.filter_append, List.filter_cons, if_neg (by rw [e]; decide)]
      simpa using h3
  · have e : i = mm.length := by omega
    subst e
    refine .inl ⟨⟨pl, by rw [hl]; exact Nat.le_refl _⟩, q D H' ?_⟩
    have e2 : (mm.map (·.1)).take mm.length = mm.map (·.1) := List.take_of_length_le (by rw [List.length_map]; exact Nat.le_refl _)
    rw [e2] at p
    exact p
/-- [h z for .. in d if c z], d a dict of pairs that stands in what is known -/
theorem x_lcT {g : TG} {tt : TT} {vs : List Nat} {mm : List ((Int × Int) × V)} (h : Int × Int → V) (c : Int × Int → Bool) (t : Addr → Int × Int → St) (hh : Has H ([(d, dP mm)] :: L)) (hz : mm.length ≤ 100000)
    (hw : ∀ q, ∀ z ∈ mm.map (·.1), wipe (t q z) vs = wipe σ vs)
    (htd : ∀ o H' (Q' : VK), Has H' ([(d, .frz o (dP mm))] :: L) → Q' (.ref d) H' → td σ H' Q')
    (hg : ∀ o q, ∀ z ∈ mm.map (·.1), ∀ D M H' (Q' : St → Hp → Prop), H' q = some (.tup [.int z.1, .int z.2]) → Has H' ([(D, .lst M)] :: [(d, .frz o (dP mm))] :: L) → Q' (t q z) H' → g (.ref q) (wipe σ vs) H' Q')
    (ht : ∀ o q, ∀ z ∈ mm.map (·.1), ∀ D M H' (Q' : Bool → Hp → Prop), H' q = some (.tup [.int z.1, .int z.2]) → Has H' ([(D, .lst M)] :: [(d, .frz o (dP mm))] :: L) → (∀ H'', H'' q = some (.tup [.int z.1, .int z.2]) → Has H'' ([(D, .lst M)] :: [(d, .frz o (dP mm))] :: L) → Q' (c z) H'') → tt (t q z) H' Q')
    (hs : ∀ o q, ∀ z ∈ mm.map (·.1), c z = true → ∀ D M H' (Q' : VK), H' q = some (.tup [.int z.1, .int z.2]) → Has H' ([(D, .lst M)] :: [(d, .frz o (dP mm))] :: L) → (∀ H'', Has H'' ([(D, .lst M)] :: [(d, .frz o (dP mm))] :: L) → Q' (h z) H'') → te (t q z) H' Q')
    (q : ∀ D H', Has H' ([(D, .lst (((mm.map (·.1)).filter c).map h))] :: [(d, dP mm)] :: L) → Q (.ref D) H') : tLockE (tLc (iKeys td) g tt te vs) σ H Q := by
  refine ⟨d, dP mm, hh.g0, trivial, fun o => ?_⟩
  have h1 : Has (upd H d (.frz o (dP mm))) ([(d, .frz o (dP mm))] :: L) := hh.s0
  have z : kLc g tt te vs σ (Itkt d o (mk g2 mm)) (upd H d (.frz o (dP mm))) (fun v H' => H' d = some (.frz o (dP mm)) ∧ Q v (upd H' d (dP mm))) :=
    lc_keysT h c t h1 (fun H' h' => h'.g0) hz hw (hg o) (ht o) (hs o) fun D H' h' => ⟨h'.g1, q D _ h'.s1⟩
  exact htd o _ _ h1 ⟨d, o, rfl, .inr ⟨mk g2 mm, h1.g0, z⟩⟩
theorem x_asgT {g : TG} {l : Nat} {tt : TT} {vs : List Nat} {mm : List ((Int × Int) × V)} (h : Int × Int → V) (c : Int × Int → Bool) (t : Addr → Int × Int → St) (hh : Has H ([(d, dP mm)] :: L)) (hz : mm.length ≤ 100000)
    (hw : ∀ q, ∀ z ∈ mm.map (·.1), wipe (t q z) vs = wipe σ vs)
    (htd : ∀ o H' (Q' : VK), Has H' ([(d, .frz o (dP mm))] :: L) → Q' (.ref d) H' → td σ H' Q')
    (hg : ∀ o q, ∀ z ∈ mm.map (·.1), ∀ D M H' (Q' : St → Hp → Prop), H' q = some (.tup [.int z.1, .int z.2]) → Has H' ([(D, .lst M)] :: [(d, .frz o (dP mm))] :: L) → Q' (t q z) H' → g (.ref q) (wipe σ vs) H' Q')
    (ht : ∀ o q, ∀ z ∈ mm.map (·.1), ∀ D M H' (Q' : Bool → Hp → Prop), H' q = some (.tup [.int z.1, .int z.2]) → Has H' ([(D, .lst M)] :: [(d, .frz o (dP mm))] :: L) → (∀ H'', H'' q = some (.tup [.int z.1, .int z.2]) → Has H'' ([(D, .lst M)] :: [(d, .frz o (dP mm))] :: L) → Q' (c z) H'') → tt (t q z) H' Q')
    (hs : ∀ o q, ∀ z ∈ mm.map (·.1), c z = true → ∀ D M H' (Q' : VK), H' q = some (.tup [.int z.1, .int z.2]) → Has H' ([(D, .lst M)] :: [(d, .frz o (dP mm))] :: L) → (∀ H'', Has H'' ([(D, .lst M)] :: [(d, .frz o (dP mm))] :: L) → Q' (h z) H'') → te (t q z) H' Q')
    (q : ∀ D H', Has H' ([(D, .lst (((mm.map (·.1)).filter c).map h))] :: [(d, dP mm)] :: L) → nx (σ.set l (some (.ref D))) H') : tLock (tAsg (tLc (iKeys td) g tt te vs) (gName l)) ⟨nx, rt, bk, ct⟩ σ H := by
  refine ⟨d, dP mm, hh.g0, trivial, fun o => ?_⟩
  have h1 : Has (upd H d (.frz o (dP mm))) ([(d, .frz o (dP mm))] :: L) := hh.s0
  have z : kLc g tt te vs σ (Itkt d o (mk g2 mm)) (upd H d (.frz o (dP mm))) (fun v H' => H' d = some (.frz o (dP mm)) ∧ nx (σ.set l (some v)) (upd H' d (dP mm))) :=
    lc_keysT h c t h1 (fun H' h' => h'.g0) hz hw (hg o) (ht o) (hs o) fun D H' h' => ⟨h'.g1, q D _ h'.s1⟩
  exact htd o _ _ h1 ⟨d, o, rfl, .inr ⟨mk g2 mm, h1.g0, z⟩⟩
/-- x in t, texts -/
theorem k_inS {neg : Bool} {ss : List Str} {x : Str} (hp : H p = some (.tup (ss.map V.str))) (q : Q (.bl (if neg then !decide (x ∈ ss) else decide (x ∈ ss))) H) : rIn K neg (.str x) (.ref p) H Q := by
  refine ⟨p, _, rfl, .inr (SqT.of hp), rfl, ?_, ?_⟩
  · rw [List.all_eq_true]
    intro y hy
    obtain ⟨z, _, rfl⟩ := List.mem_map.mp hy
    rfl
  · have e : inV (.str x) (ss.map V.str) = decide (x ∈ ss) := by
      unfold inV
      rw [List.any_map]
      by_cases h : x ∈ ss
      · rw [decide_eq_true h, List.any_eq_true]
        exact ⟨x, h, by simp [eqV]⟩
      · rw [decide_eq_false h, List.any_eq_false]
        intro z hz
        have : z ≠ x := fun e => h (e ▸ hz)
        simp [eqV, this]
    rw [e]
    exact q
end
end Sy
/-! Lists of pairs of whole numbers: sorted, ==; xs.remove, xs.count. -/
namespace Sy
open PySem L2
/-- new objects, each with what it bears -/
def fmU {β : Type} (ob : β → HO) (m : List (Addr × β)) : U := m.map fun q => (q.1, ob q.2)
def fmR {β : Type} (m : List (Addr × β)) : List V := m.map fun q => V.ref q.1
abbrev Prs := List (Addr × (Int × Int))
def obP (q : Int × Int) : HO := .tup [.int q.1, .int q.2]
abbrev prU (m : Prs) : U := fmU obP m
abbrev prR (m : Prs) : List V := fmR m
theorem fmU_snoc {β : Type} (ob : β → HO) (m : List (Addr × β)) (t : Addr) (b : β) : fmU ob (m ++ [(t, b)]) = fmU ob m ++ [(t, ob b)] := by unfold fmU; rw [List.map_append]; rfl
theorem fmR_snoc {β : Type} (m : List (Addr × β)) (t : Addr) (b : β) : fmR (m ++ [(t, b)]) = fmR m ++ [.ref t] := by unfold fmR; rw [List.map_append]; rfl
theorem Has.fms {β : Type} {ob : β → HO} {H : Hp} {zs : List (Addr × β)} {L : List U} (h : Has H (fmU ob zs :: L)) : ∀ q ∈ zs, H q.1 = some (ob q.2) := fun q hq => h.2 (q.1, ob q.2) (List.mem_append.mpr (.inl (List.mem_map.mpr ⟨q, hq, rfl⟩)))
/-- a before b, or alike -/
def leP (a b : Int × Int) : Prop := a.1 < b.1 ∨ (a.1 = b.1 ∧ a.2 ≤ b.2)
section
variable {K : PySem.W.Frag} {σ : St} {H H1 : Hp} {L : List U} {Q : VK} {a b d p : Addr}
theorem Has.prs {zs : Prs} (h : Has H (prU zs :: L)) : ∀ q ∈ zs, H q.1 = some (.tup [.int q.2.1, .int q.2.2]) := fun q hq => h.2 (q.1, .tup [.int q.2.1, .int q.2.2]) (List.mem_append.mpr (.inl (List.mem_map.mpr ⟨q, hq, rfl⟩)))
def keyP (zs : Prs) (x : V) : Int × Int := ((zs.find? fun q => match x with | .ref t => decide (q.1 = t) | _ => false).map (·.2)).getD (0, 0)
theorem keyP_of : ∀ {zs : Prs}, (zs.map (·.1)).Nodup → ∀ q ∈ zs, keyP zs (.ref q.1) = q.2
  | [], _, q, hq => by cases hq
  | z :: r, nd, q, hq => by
    have nd2 := List.nodup_cons.mp (show (z.1 :: r.map (·.1)).Nodup from nd)
    rcases List.mem_cons.mp hq with e | e
    · subst e
      simp [keyP, List.find?_cons]
    · have hne : ¬ z.1 = q.1 := fun h => nd2.1 (h ▸ List.mem_map.mpr ⟨q, e, rfl⟩)
      have ih := keyP_of nd2.2 q e
      unfold keyP at ih ⊢
      rw [List.find?_cons]
      simp only [decide_eq_false hne]
      exact ih
theorem k_sortP {zs : Prs} (hh : Has H (prU zs :: L)) (hp : H p = some (.lst (prR zs)))
    (q : ∀ (ys : Prs) d H', ys.Perm zs → (ys.map (·.2)).Pairwise leP → Has H' ([(d, .lst (prR ys))] :: prU zs :: L) → Q (.ref d) H') : rSortedPO K [.ref p] H Q := by
  have nd : (zs.map (·.1)).Nodup := by
    have h1 := hh.1
    rw [show (prU zs :: L).flatten = prU zs ++ L.flatten from rfl, List.map_append] at h1
    have h2 := (List.nodup_append.mp h1).1
    unfold prU fmU at h2
    rw [List.map_map] at h2
    exact h2
  have key := keyP_of nd
  have fam := hh.prs
  refine ⟨p, prR zs, keyP zs, rfl, SqL.of hp, fun x hx => ?_, fun vs d hs ht hd => ?_⟩
  · obtain ⟨z, hz, rfl⟩ := List.mem_map.mp hx
    refine ⟨z.1, rfl, ?_⟩
    rw [key z hz]
    exact fam z hz
  · obtain ⟨ys, py, ey⟩ := perm_lift (fun q : Addr × (Int × Int) => V.ref q.1) ht.perm zs rfl
    subst ey
    refine q ys d _ py ?_ (hh.nw hd)
    have hs2 : (ys.map fun q : Addr × (Int × Int) => V.ref q.1).Pairwise fun x y => SrtO.lexB (keyP zs y) (keyP zs x) = false := hs
    rw [List.pairwise_map] at hs2 ⊢
    refine List.Pairwise.imp_of_mem (fun {x y} hx hy h => ?_) hs2
    rw [key x (py.mem_iff.mp hx), key y (py.mem_iff.mp hy)] at h
    have h2 := SrtO.lexB_no.mp h
    unfold leP
    omega
theorem leP_uniq {xs ys : List (Int × Int)} (h1 : xs.Pairwise leP) (h2 : ys.Pairwise leP) (p : xs.Perm ys) : xs = ys := p.eq_of_pairwise (fun a b _ _ h h' => by
  unfold leP at h h'
  exact Prod.ext (by omega) (by omega)) h1 h2
theorem dpAll_prs {zs : Prs} (f : ∀ q ∈ zs, H q.1 = some (.tup [.int q.2.1, .int q.2.2])) : DpAll K H (prR zs) ((zs.map (·.2)).map fun q => PyData.tuple [.int q.1, .int q.2]) := by
  induction zs with
  | nil => exact .nil
  | cons z r ih => exact .cons (.tup (SqT.of (f z (List.mem_cons.mpr (.inl rfl)))) (.cons (.int _) (.cons (.int _) .nil))) (ih fun q hq => f q (List.mem_cons_of_mem _ hq))
def pd (q : Int × Int) : PyData := .tuple [.int q.1, .int q.2]
theorem eqv_prs (ns : List (Int × Int)) : ∀ ms : List (Int × Int), PyData.eqv (.list (ns.map pd)) (.list (ms.map pd)) = decide (ns = ms) := by
  induction ns with
  | nil =>
    intro ms
    cases ms with
    | nil => rfl
    | cons m r => rfl
  | cons n r ih =>
    intro ms
    cases ms with
    | nil => rfl
    | cons m s =>
      have h := ih s
      simp [PyData.eqv, PyData.eqvAll, pd] at h ⊢
      rw [h]
      by_cases e1 : n = m
      · subst e1; by_cases e2 : r = s <;> simp [e2]
      · have e3 : ¬ (n.1 = m.1 ∧ n.2 = m.2) := fun z => e1 (Prod.ext z.1 z.2)
        simp [e1]
        intro z1 z2
        exact absurd ⟨z1, z2⟩ e3
theorem lay_prs (ns : List (Int × Int)) : PyData.canLayAll0 (ns.map pd) = true := by
  induction ns with
  | nil => simp [PyData.canLayAll0]
  | cons n r ih => simp [PyData.canLayAll0, PyData.canLay0, pd] ; exact ih
theorem deep_prs (ns : List (Int × Int)) : PyData.depthAll (ns.map pd) ≤ 2 := by
  induction ns with
  | nil => simp [PyData.depthAll]
  | cons n r ih => simp [PyData.depthAll, PyData.depth, pd]; omega
theorem shaped_prs (ns : List (Int × Int)) : SeqAt.shaped (.list (ns.map pd)) = true := by
  have h := deep_prs ns
  simp [SeqAt.shaped, PyData.canLay0, lay_prs, PyData.depth]
  omega
theorem k_eqLP {zs ws : Prs} (hp : H a = some (.lst (prR zs))) (hq : H b = some (.lst (prR ws))) (fz : ∀ q ∈ zs, H q.1 = some (.tup [.int q.2.1, .int q.2.2])) (fw : ∀ q ∈ ws, H q.1 = some (.tup [.int q.2.1, .int q.2.2])) (q : Q (.bl (decide (zs.map (·.2) = ws.map (·.2)))) H) : rEqD K (.ref a) (.ref b) H Q :=
  ⟨_, _, .lst (SqL.of hp) (dpAll_prs fz), .lst (SqL.of hq) (dpAll_prs fw), shaped_prs _, shaped_prs _, by rw [show (fun q : Int × Int => PyData.tuple [.int q.1, .int q.2]) = pd from rfl, eqv_prs]; exact q⟩
theorem k_neLP {zs ws : Prs} (hp : H a = some (.lst (prR zs))) (hq : H b = some (.lst (prR ws))) (fz : ∀ q ∈ zs, H q.1 = some (.tup [.int q.2.1, .int q.2.2])) (fw : ∀ q ∈ ws, H q.1 = some (.tup [.int q.2.1, .int q.2.2])) (q : Q (.bl (!decide (zs.map (·.2) = ws.map (·.2)))) H) : rNeD K (.ref a) (.ref b) H Q :=
  ⟨_, _, .lst (SqL.of hp) (dpAll_prs fz), .lst (SqL.of hq) (dpAll_prs fw), shaped_prs _, shaped_prs _, by rw [show (fun q : Int × Int => PyData.tuple [.int q.1, .int q.2]) = pd from rfl, eqv_prs]; exact q⟩
/-- one more of the new objects -/
theorem fm_add {β : Type} {ob : β → HO} {D t : Addr} {m : List (Addr × β)} {b : β} (h : Has H ([(t, ob b)] :: [(D, .lst (fmR m))] :: fmU ob m :: L)) : Has (upd H D (.lst (fmR m ++ [.ref t]))) ([(D, .lst (fmR (m ++ [(t, b)])))] :: fmU ob (m ++ [(t, b)]) :: L) := by
  have h1 : Has (upd H D (.lst (fmR m ++ [.ref t]))) ([(t, ob b)] :: [(D, .lst (fmR m ++ [.ref t]))] :: fmU ob m :: L) := h.s1
  rw [fmR_snoc, fmU_snoc]
  exact (Has.op.mpr (h1.sub (show Sub (fmU ob m :: [(t, ob b)] :: _) _ from Sub.p2 (Sub.p0 Sub.rf)))).sub (Sub.p1 (Sub.p0 Sub.rf))
/-- [new object for .. in zs if c z] -/
theorem k_lcN {α β : Type} {g : TG} {tt : TT} {te : TE} {vs : List Nat} (zs : List α) (e : α → V) (ob : β → HO) (h : α → β) (c : α → Bool) (t : α → St) (hh : Has H L) (ha : ∀ H', Has H' L → H' a = some (.lst (zs.map e))) (hz : zs.length ≤ 100000) (hw : ∀ z ∈ zs, wipe (t z) vs = wipe σ vs)
    (hg : ∀ z ∈ zs, ∀ D m H' (Q' : St → Hp → Prop), Has H' ([(D, .lst (fmR m))] :: fmU ob m :: L) → Q' (t z) H' → g (e z) (wipe σ vs) H' Q')
    (ht : ∀ z ∈ zs, ∀ D m H' (Q' : Bool → Hp → Prop), Has H' ([(D, .lst (fmR m))] :: fmU ob m :: L) → (∀ H'', Has H'' ([(D, .lst (fmR m))] :: fmU ob m :: L) → Q' (c z) H'') → tt (t z) H' Q')
    (hs : ∀ z ∈ zs, c z = true → ∀ D m H' (Q' : VK), Has H' ([(D, .lst (fmR m))] :: fmU ob m :: L) → (∀ u H'', Has H'' ([(u, ob (h z))] :: [(D, .lst (fmR m))] :: fmU ob m :: L) → Q' (.ref u) H'') → te (t z) H' Q')
    (q : ∀ D m H', m.map (·.2) = (zs.filter c).map h → Has H' ([(D, .lst (fmR m))] :: fmU ob m :: L) → Q (.ref D) H') : kLcL K g tt te vs σ (.ref a) H Q := by
  refine k_lcL (L := L) hh (fun D i H' => ∃ m : List (Addr × β), m.map (·.2) = ((zs.take i).filter c).map h ∧ Has H' ([(D, .lst (fmR m))] :: fmU ob m :: L)) (ha H hh) (fun D H' h' => ⟨[], rfl, (Has.nilU.mpr h').sub (Sub.p1 (Sub.p0 Sub.rf))⟩) (fun D i H' h' => ha H' (h'.choose_spec.2.sub (Sub.skip (Sub.skip Sub.rf)))) (fun D i x H' hi h' => ?_) (fun D H' h' => ?_)
  · obtain ⟨m, em, h'⟩ := h'
    rw [List.getElem?_map] at hi
    obtain ⟨z, hz1, rfl⟩ := Option.map_eq_some_iff.mp hi
    have hm : z ∈ zs := List.mem_of_getElem? hz1
    have et : zs.take (i + 1) = zs.take i ++ [z] := by rw [List.take_add_one, hz1]; rfl
    refine hg z hm D m H' _ h' ⟨hw z hm, ht z hm D m H' _ h' fun H2 h2 => ?_⟩
    refine ifB (fun e => ?_) (fun e => ?_)
    · refine hs z hm e D m H2 _ h2 fun u H3 h3 => ?_
      refine ⟨_, h3.g1, ?_, m ++ [(u, h z)], ?_, fm_add h3⟩
      · rw [sizeLine_eq]
        unfold fmR
        rw [List.length_map]
        have l0 := congrArg List.length em
        rw [List.length_map, List.length_map] at l0
        have l1 := List.length_filter_le c (zs.take i)
        have l3 := List.length_take_le' i zs
        omega
      · rw [et, List.filter_append, List.map_append, List.map_append, em, List.filter_cons, if_pos e]
        rfl
    · refine ⟨m, ?_, h2⟩
      rw [et, List.filter_append, List.filter_cons, if_neg (by rw [e]; decide), em]
      simp
  · obtain ⟨m, em, h'⟩ := h'
    rw [List.length_map, List.take_length] at em
    exact q D m H' em h'
/-- the keys of a locked dict, pairs, with a test; the elements are new objects -/
theorem lc_keysTN {β : Type} {g : TG} {tt : TT} {te : TE} {o : Obj} {vs : List Nat} {mm : List ((Int × Int) × V)} (ob : β → HO) (h : Int × Int → β) (c : Int × Int → Bool) (t : Addr → Int × Int → St) (hh : Has H L) (hd : ∀ H', Has H' L → H' d = some (.frz o (dP mm))) (hz : mm.length ≤ 100000)
    (hw : ∀ q, ∀ z ∈ mm.map (·.1), wipe (t q z) vs = wipe σ vs)
    (hg : ∀ q, ∀ z ∈ mm.map (·.1), ∀ D m H' (Q' : St → Hp → Prop), H' q = some (.tup [.int z.1, .int z.2]) → Has H' ([(D, .lst (fmR m))] :: fmU ob m :: L) → Q' (t q z) H' → g (.ref q) (wipe σ vs) H' Q')
    (ht : ∀ q, ∀ z ∈ mm.map (·.1), ∀ D m H' (Q' : Bool → Hp → Prop), H' q = some (.tup [.int z.1, .int z.2]) → Has H' ([(D, .lst (fmR m))] :: fmU ob m :: L) → (∀ H'', H'' q = some (.tup [.int z.1, .int z.2]) → Has H'' ([(D, .lst (fmR m))] :: fmU ob m :: L) → Q' (c z) H'') → tt (t q z) H' Q')
    (hs : ∀ q, ∀ z ∈ mm.map (·.1), c z = true → ∀ D m H' (Q' : VK), H' q = some (.tup [.int z.1, .int z.2]) → Has H' ([(D, .lst (fmR m))] :: fmU ob m :: L) → (∀ u H'', Has H'' ([(u, ob (h z))] :: [(D, .lst (fmR m))] :: fmU ob m :: L) → Q' (.ref u) H'') → te (t q z) H' Q')
    (q : ∀ D m H', m.map (·.2) = ((mm.map (·.1)).filter c).map h → Has H' ([(D, .lst (fmR m))] :: fmU ob m :: L) → Q (.ref D) H') : kLc g tt te vs σ (Itkt d o (mk g2 mm)) H Q := by
  intro D hD
  have hl : (mk g2 mm).length = mm.length := mk_len _ _
  refine ⟨fun i m H' => m = mm.length - i ∧ i ≤ mm.length ∧ ∃ ms : List (Addr × β), ms.map (·.2) = (((mm.map (·.1)).take i).filter c).map h ∧ Has H' ([(D, .lst (fmR ms))] :: fmU ob ms :: L), ⟨mm.length, by simp, Nat.zero_le _, [], rfl, (Has.nilU.mpr (hh.nw hD)).sub (Sub.p1 (Sub.p0 Sub.rf))⟩, ?_⟩
  rintro i m H' ⟨rfl, hi, ms, em, p⟩
  have pl := hd H' (p.sub (Sub.skip (Sub.skip Sub.rf)))
  by_cases hlt : i < mm.length
  · refine .inr ⟨⟨pl, by rw [hl]; exact hlt⟩, fun H2 => ∃ ms : List (Addr × β), ms.map (·.2) = (((mm.map (·.1)).take (i + 1)).filter c).map h ∧ Has H2 ([(D, .lst (fmR ms))] :: fmU ob ms :: L), fun H2 p2 => ⟨mm.length - (i + 1), by omega, rfl, hlt, p2⟩, fun x H2 y => ?_⟩
    obtain ⟨e, kk, vv, r, hk, ex, hr⟩ := y
    subst e
    have hz1 : (mm.map (·.1))[i]? = some (mm[i]).1 := by rw [List.getElem?_map, List.getElem?_eq_getElem hlt]; rfl
    have hkk : kk = g2 (mm[i]).1 := by
      unfold mk at hk
      rw [List.getElem?_map, List.getElem?_eq_getElem hlt] at hk
      exact (congrArg Prod.fst (Option.some.inj hk)).symm
    subst hkk ex
    have hr : H2 r = some (.tup [.int (mm[i]).1.1, .int (mm[i]).1.2]) := hr
    have hm : (mm[i]).1 ∈ mm.map (·.1) := List.mem_of_getElem? hz1
    have et : (mm.map (·.1)).take (i + 1) = (mm.map (·.1)).take i ++ [(mm[i]).1] := by rw [List.take_add_one, hz1]; rfl
    refine hg r _ hm D ms H2 _ hr p ⟨hw r _ hm, ht r _ hm D ms H2 _ hr p fun H3 hr3 h3 => ?_⟩
    refine ifB (fun e => ?_) (fun e => ?_)
    · refine hs r _ hm e D ms H3 _ hr3 h3 fun u H4 h4 => ?_
      refine ⟨_, h4.g1, ?_, ms ++ [(u, h (mm[i]).1)], ?_, fm_add h4⟩
      · rw [sizeLine_eq]
        unfold fmR
        rw [List.length_map]
        have l0 := congrArg List.length em
        rw [List.length_map, List.length_map] at l0
        have l1 := List.length_filter_le c ((mm.map (·.1)).take i)
        have l3 := List.length_take_le' i (mm.map (·.1))
        rw [List.length_map] at l3
        omega
      · rw [et, List.filter_append, List.map_append, List.map_append, em, List.filter_cons, if_pos e]
        rfl
    · refine ⟨ms, ?_, h3⟩
      rw [et, List.filter_append, List.filter_cons, if_neg (by rw [e]; decide), em]
      simp
  · have e : i = mm.length := by omega
    subst e
    have e2 : (mm.map (·.1)).take mm.length = mm.map (·.1) := List.take_of_length_le (by rw [List.length_map]; exact Nat.le_refl _)
    rw [e2] at em
    exact .inl ⟨⟨pl, by rw [hl]; exact Nat.le_refl _⟩, q D ms H' em p⟩
theorem x_lcTN {β : Type} {td te : TE} {g : TG} {tt : TT} {vs : List Nat} {mm : List ((Int × Int) × V)} (ob : β → HO) (h : Int × Int → β) (c : Int × Int → Bool) (t : Addr → Int × Int → St) (hh : Has H ([(d, dP mm)] :: L)) (hz : mm.length ≤ 100000)
    (hw : ∀ q, ∀ z ∈ mm.map (·.1), wipe (t q z) vs = wipe σ vs)
    (htd : ∀ o H' (Q' : VK), Has H' ([(d, .frz o (dP mm))] :: L) → Q' (.ref d) H' → td σ H' Q')
    (hg : ∀ o q, ∀ z ∈ mm.map (·.1), ∀ D m H' (Q' : St → Hp → Prop), H' q = some (.tup [.int z.1, .int z.2]) → Has H' ([(D, .lst (fmR m))] :: fmU ob m :: [(d, .frz o (dP mm))] :: L) → Q' (t q z) H' → g (.ref q) (wipe σ vs) H' Q')
    (ht : ∀ o q, ∀ z ∈ mm.map (·.1), ∀ D m H' (Q' : Bool → Hp → Prop), H' q = some (.tup [.int z.1, .int z.2]) → Has H' ([(D, .lst (fmR m))] :: fmU ob m :: [(d, .frz o (dP mm))] :: L) → (∀ H'', H'' q = some (.tup [.int z.1, .int z.2]) → Has H'' ([(D, .lst (fmR m))] :: fmU ob m :: [(d, .frz o (dP mm))] :: L) → Q' (c z) H'') → tt (t q z) H' Q')
    (hs : ∀ o q, ∀ z ∈ mm.map (·.1), c z = true → ∀ D m H' (Q' : VK), H' q = some (.tup [.int z.1, .int z.2]) → Has H' ([(D, .lst (fmR m))] :: fmU ob m :: [(d, .frz o (dP mm))] :: L) → (∀ u H'', Has H'' ([(u, ob (h z))] :: [(D, .lst (fmR m))] :: fmU ob m :: [(d, .frz o (dP mm))] :: L) → Q' (.ref u) H'') → te (t q z) H' Q')
    (q : ∀ D m H', m.map (·.2) = ((mm.map (·.1)).filter c).map h → Has H' ([(D, .lst (fmR m))] :: fmU ob m :: [(d, dP mm)] :: L) → Q (.ref D) H') : tLockE (tLc (iKeys td) g tt te vs) σ H Q := by
  refine ⟨d, dP mm, hh.g0, trivial, fun o => ?_⟩
  have h1 : Has (upd H d (.frz o (dP mm))) ([(d, .frz o (dP mm))] :: L) := hh.s0
  have z : kLc g tt te vs σ (Itkt d o (mk g2 mm)) (upd H d (.frz o (dP mm))) (fun v H' => H' d = some (.frz o (dP mm)) ∧ Q v (upd H' d (dP mm))) :=
    lc_keysTN ob h c t h1 (fun H' h' => h'.g0) hz hw (hg o) (ht o) (hs o) fun D m H' em h' => ⟨h'.g2, q D m _ em h'.s2⟩
  exact htd o _ _ h1 ⟨d, o, rfl, .inr ⟨mk g2 mm, h1.g0, z⟩⟩
/-- xs.remove(k), xs.count(k) -/
theorem k_rem {ns : List Int} {k : Int} {M : List U} (hp : H a = some (.lst (ns.map V.int))) (hk : k ∈ ns) (hh : Has (upd H a (.lst ((ns.erase k).map V.int))) M) (q : ∀ H', Has H' M → Q .non H') : rRemI (.ref a) [.int k] H Q := by
  obtain ⟨j, h1, h2, h3, h4⟩ : ∃ j, j < ns.length ∧ ns[j]? = some k ∧ (∀ i, i < j → ns[i]? ≠ some k) ∧ ns.eraseIdx j = ns.erase k := by
    clear hp hh q
    induction ns with
    | nil => cases hk
    | cons z r ih =>
      by_cases e : z = k
      · exact ⟨0, Nat.succ_pos _, by rw [e]; rfl, fun i hi => absurd hi (Nat.not_lt_zero _), by rw [e, List.erase_cons_head]; rfl⟩
      · obtain ⟨j, h1, h2, h3, h4⟩ := ih ((List.mem_cons.mp hk).resolve_left fun z => e z.symm)
        refine ⟨j + 1, Nat.succ_lt_succ h1, h2, fun i hi => ?_, ?_⟩
        · cases i with
          | zero => exact fun z => e (Option.some.inj z)
          | succ i => exact h3 i (Nat.lt_of_succ_lt_succ hi)
        · rw [List.erase_cons_tail (by simpa using e), ← h4]
          rfl
  refine ⟨a, ns, k, j, rfl, rfl, hp, h2, h3, ?_⟩
  rw [h4]
  exact q _ hh
theorem k_cnt {ns : List Int} {k : Int} (hp : H a = some (.lst (ns.map V.int))) (q : Q (.int (ns.count k : Nat)) H) : rCntI K (.ref a) [.int k] H Q := ⟨a, ns, k, rfl, rfl, SqL.of hp, q⟩
/-! ### rows: a list of lists, each by itself -/
abbrev Rows := List (Addr × List Int)
def obL (l : List Int) : HO := .lst (l.map V.int)
theorem fm_out {β : Type} {ob : β → HO} {A B : List (Addr × β)} {b : β} (h : Has H (fmU ob (A ++ (a, b) :: B) :: L)) : Has H ([(a, ob b)] :: fmU ob A :: fmU ob B :: L) := by
  have e : fmU ob (A ++ (a, b) :: B) = fmU ob A ++ ([(a, ob b)] ++ fmU ob B) := by unfold fmU; rw [List.map_append]; rfl
  rw [e] at h
  exact (Has.op.mp ((Has.op.mp h).sub (show Sub ((_ ++ _) :: fmU ob A :: L) _ from Sub.p1 (Sub.p0 Sub.rf)))).sub (Sub.p0 (Sub.p1 (Sub.p0 Sub.rf)))
theorem fm_in {β : Type} {ob : β → HO} {A B : List (Addr × β)} {b : β} (h : Has H ([(a, ob b)] :: fmU ob A :: fmU ob B :: L)) : Has H (fmU ob (A ++ (a, b) :: B) :: L) := by
  have e : fmU ob (A ++ (a, b) :: B) = fmU ob A ++ ([(a, ob b)] ++ fmU ob B) := by unfold fmU; rw [List.map_append]; rfl
  rw [e]
  refine Has.op.mpr ?_
  exact (Has.op.mpr (h.sub (show Sub ([(a, ob b)] :: fmU ob B :: fmU ob A :: L) _ from Sub.p0 (Sub.p1 (Sub.p0 Sub.rf))))).sub (Sub.p1 (Sub.p0 Sub.rf))
theorem split_at {α : Type} : ∀ {l : List α} {k : Nat} {q : α}, l[k]? = some q → ∃ A B, l = A ++ q :: B ∧ A.length = k
  | [], k, q, h => by simp at h
  | x :: r, 0, q, h => ⟨[], r, by rw [show x = q from Option.some.inj h]; rfl, rfl⟩
  | x :: r, k + 1, q, h => by
    obtain ⟨A, B, e, el⟩ := split_at (l := r) (k := k) (q := q) h
    exact ⟨x :: A, B, by rw [e]; rfl, by rw [← el]; rfl⟩
theorem fmR_mid {β : Type} {A B : List (Addr × β)} {b c : β} : fmR (A ++ (a, b) :: B) = fmR (A ++ (a, c) :: B) := by unfold fmR; rw [List.map_append, List.map_append]; rfl
theorem fmR_at {β : Type} {A B : List (Addr × β)} {b : β} {k : Int} (k0 : 0 ≤ k) (h : A.length = k.toNat) : atI (fmR (A ++ (a, b) :: B)) k = some (.ref a) := by
  refine at_n k0 ?_
  unfold fmR
  rw [List.map_append, List.getElem?_append_right (by rw [List.length_map]; omega), List.length_map, h, Nat.sub_self]
  rfl
theorem k_lcRN {β : Type} {te : TE} {k : Nat} {n : Int} (ob : β → HO) (h : Int → β) (hh : Has H L) (hn : 0 ≤ n ∧ n ≤ 100000)
    (hs : ∀ z : Int, 0 ≤ z → z < n → ∀ D m H' (Q' : VK), Has H' ([(D, .lst (fmR m))] :: fmU ob m :: L) → (∀ u H'', Has H'' ([(u, ob (h z))] :: [(D, .lst (fmR m))] :: fmU ob m :: L) → Q' (.ref u) H'') → te ((wipe σ [k]).set k (some (.int z))) H' Q')
    (q : ∀ D m H', m.map (·.2) = (rgI n).map h → Has H' ([(D, .lst (fmR m))] :: fmU ob m :: L) → Q (.ref D) H') : kLcR (gName k) tYes te [k] σ [.int n] H Q := by
  have hw : ∀ x, wipe ((wipe σ [k]).set k (some x)) [k] = wipe σ [k] := fun x => by
    show ((σ.set k none).set k (some x)).set k none = σ.set k none
    rw [List.set_set, List.set_set]
  refine k_lcR (L := L) hh (fun D i H' => ∃ m : List (Addr × β), m.map (·.2) = (rgI i).map h ∧ Has H' ([(D, .lst (fmR m))] :: fmU ob m :: L)) hn (fun D H' h' => ⟨[], rfl, (Has.nilU.mpr h').sub (Sub.p1 (Sub.p0 Sub.rf))⟩) (fun D i H' hi h' => ?_) (fun D H' h' => ?_)
  · obtain ⟨m, em, h'⟩ := h'
    have et : rgI ((i + 1 : Nat) : Int) = rgI i ++ [(i : Int)] := by
      unfold rgI
      rw [Int.toNat_natCast, Int.toNat_natCast, List.range_succ, List.map_append]
      rfl
    have lr : (rgI (i : Int)).length = i := by rw [rgI_len, Int.toNat_natCast]
    refine ⟨hw _, ?_⟩
    refine x_yes (ifT (hs i (by omega) hi D m H' _ h' fun u H3 h3 => ?_))
    refine ⟨_, h3.g1, ?_, m ++ [(u, h i)], ?_, fm_add h3⟩
    · rw [sizeLine_eq]
      unfold fmR
      rw [List.length_map]
      have l0 := congrArg List.length em
      rw [List.length_map, List.length_map] at l0
      omega
    · rw [et, List.map_append, List.map_append, em]
      rfl
  · obtain ⟨m, em, h'⟩ := h'
    rw [Int.toNat_of_nonneg hn.1] at em
    exact q D m H' em h'
/-- b in bs, truths -/
theorem k_inB {neg : Bool} {bs : List Bool} {b : Bool} (hp : H p = some (.lst (bs.map V.bl))) (q : Q (.bl (if neg then !decide (b ∈ bs) else decide (b ∈ bs))) H) : rIn K neg (.bl b) (.ref p) H Q := by
  refine ⟨p, _, rfl, .inl (SqL.of hp), rfl, ?_, ?_⟩
  · rw [List.all_eq_true]
    intro y hy
    obtain ⟨z, _, rfl⟩ := List.mem_map.mp hy
    rfl
  · have e : inV (.bl b) (bs.map V.bl) = decide (b ∈ bs) := by
      unfold inV
      rw [List.any_map]
      by_cases h : b ∈ bs
      · rw [decide_eq_true h, List.any_eq_true]
        exact ⟨b, h, by simp [eqV]⟩
      · rw [decide_eq_false h, List.any_eq_false]
        intro z hz
        have : z ≠ b := fun e => h (e ▸ hz)
        cases b <;> cases z <;> simp_all [eqV]
    rw [e]
    exact q
theorem perm_mem {α : Type} [DecidableEq α] : ∀ {l m : List α}, l.Nodup → m.Nodup → (∀ z, z ∈ l ↔ z ∈ m) → l.Perm m
  | [], m, _, _, h => by
    cases m with
    | nil => exact .refl _
    | cons a r => exact absurd ((h a).mpr (List.mem_cons.mpr (.inl rfl))) List.not_mem_nil
  | a :: r, m, nl, nm, h => by
    have ha : a ∈ m := (h a).mp (List.mem_cons.mpr (.inl rfl))
    have nl2 := List.nodup_cons.mp nl
    have ih := perm_mem (l := r) (m := m.erase a) nl2.2 (nm.erase _) fun z => by
      rw [nm.mem_erase_iff]
      constructor
      · intro hz
        exact ⟨fun e => nl2.1 (e ▸ hz), (h z).mp (List.mem_cons_of_mem _ hz)⟩
      · intro hz
        rcases List.mem_cons.mp ((h z).mpr hz.2) with e | e
        · exact absurd e hz.1
        · exact e
    exact (ih.cons a).trans (List.perm_cons_erase ha).symm
theorem rise_nodup {l : List Int} (h : l.Pairwise (· < ·)) : l.Nodup := h.imp fun h => Int.ne_of_lt h
theorem rise_eq {l m : List Int} (h1 : l.Pairwise (· < ·)) (h2 : m.Pairwise (· < ·)) (h : ∀ z, z ∈ l ↔ z ∈ m) : l = m :=
  (perm_mem (rise_nodup h1) (rise_nodup h2) h).eq_of_pairwise (fun a b _ _ h h' => Int.le_antisymm h h') (h1.imp fun h => Int.le_of_lt h) (h2.imp fun h => Int.le_of_lt h)
end
end Sy
/-! More rules: C(e, k = v), a list taken apart, while. -/
namespace Sy
open PySem L2
abbrev gKw : List V → List V → List V := fun vs zs => vs ++ zs
/-- one of two readings of the same expression -/
def tOrE (t u : TE) : TE := fun σ H Q => t σ H Q ∨ u σ H Q
theorem pe_orE {X : Cx} {e : Expr} {t u : TE} (h1 : PE X e t) (h2 : PE X e u) : PE X e (tOrE t u) := ⟨fun pins s σ H Q I h => h.elim (h1.run pins s σ H Q I) (h2.run pins s σ H Q I)⟩
section
variable {K : PySem.W.Frag} {σ : St} {H H1 : Hp} {L : List U} {Q : VK} {QS : St → Hp → Prop} {a b d p C : Addr} {nx bk ct : St → Hp → Prop} {rt : VK} {xs : List V} {tr tk : TA}
def kMakeN (C : Addr) (n m : Nat) (sp : Sp) (gV : List V → List V → List V) (E : XK) (vs zs : List V) (H2 : Hp) (Q : VK) : Prop := vs.length = n ∧ zs.length = m ∧
  ∀ x dx, H2 x = none → H2 dx = none → dx ≠ x → sp (gV (.ref x :: vs) zs) (upd (upd H2 dx (.own x)) x (.ins C dx [])) (fun v H3 => v = .non ∧ Q (.ref x) H3) E
theorem x_makeN {n m : Nat} {sp : Sp} {gV : List V → List V → List V} {E : XK} (q : tr σ H fun vs H1 => tk σ H1 fun zs H2 => kMakeN C n m sp gV E vs zs H2 Q) : tMakeN C n m sp gV E tr tk σ H Q := q
theorem k_makeN {n m : Nat} {sp : Sp} {gV : List V → List V → List V} {E : XK} {vs zs : List V} (hh : Has H L) (hn : vs.length = n) (hm : zs.length = m) (q : ∀ x dx H', Has H' ([(x, .ins C dx [])] :: L) → sp (gV (.ref x :: vs) zs) H' (fun v H2 => v = .non ∧ Q (.ref x) H2) E) : kMakeN C n m sp gV E vs zs H Q :=
  ⟨hn, hm, fun x dx hx hd ne => q x dx _ ((hh.nw hd (o := .own x)).nw (p := x) (o := .ins C dx []) (by rw [upd_ne (Ne.symm ne)]; exact hx) |>.sub (Sub.p0 (Sub.skip Sub.rf)))⟩
theorem x_or1 {t u : TE} (q : t σ H Q) : tOrE t u σ H Q := .inl q
theorem x_or2 {t u : TE} (q : u σ H Q) : tOrE t u σ H Q := .inr q
theorem k_isB {b c : Bool} (q : Q (.bl (decide (b = c))) H) : rIsB (.bl b) (.bl c) H Q := ⟨b, c, rfl, rfl, q⟩
theorem k_notB {b c : Bool} (q : Q (.bl (!decide (b = c))) H) : rNotB (.bl b) (.bl c) H Q := ⟨b, c, rfl, rfl, q⟩
/-- None in xs, whole numbers -/
theorem k_inNon {ns : List Int} (hp : H p = some (.lst (ns.map V.int))) (q : Q (.bl false) H) : rIn K false .non (.ref p) H Q := by
  refine ⟨p, _, rfl, .inl (SqL.of hp), rfl, ?_, ?_⟩
  · rw [List.all_eq_true]
    intro y hy
    obtain ⟨z, _, rfl⟩ := List.mem_map.mp hy
    rfl
  · have e : inV .non (ns.map V.int) = false := by
      unfold inV
      rw [List.any_map, List.any_eq_false]
      intro z hz
      simp [eqV]
    rw [e]
    exact q
theorem x_glst {k : Nat} {g : TGs} (hp : H a = some (.lst xs)) (hl : xs.length = k) (q : g xs σ H QS) : gLst K k g (.ref a) σ H QS := ⟨a, xs, rfl, SqL.of hp, hl, q⟩
def kPar3 (i j l : Nat) (nx : St → Hp → Prop) (σ : St) (vs : List V) (H1 : Hp) : Prop := ∃ u v w, vs = [u, v, w] ∧ nx (((σ.set i (some u)).set j (some v)).set l (some w)) H1
theorem x_par3 {i j l : Nat} (q : tr σ H fun vs H1 => kPar3 i j l nx σ vs H1) : tPar3 i j l tr ⟨nx, rt, bk, ct⟩ σ H := q
theorem k_par3 {i j l : Nat} {u v w : V} (q : nx (((σ.set i (some u)).set j (some v)).set l (some w)) H) : kPar3 i j l nx σ [u, v, w] H := ⟨u, v, w, rfl, q⟩
/-- while: W m with the measure m -/
def kWb (W : Nat → St → Hp → Prop) (m : Nat) (tb : TS) (nx : St → Hp → Prop) (rt : VK) (σ : St) (H1 : Hp) : Prop := ∃ N : St → Hp → Prop, (∀ σ' H', N σ' H' → ∃ m', m' < m ∧ W m' σ' H') ∧ tb ⟨N, rt, nx, N⟩ σ H1
theorem k_while {c : TT} {tb : TS} (W : Nat → St → Hp → Prop) (m : Nat) (h0 : W m σ H)
    (hs : ∀ m σ H, W m σ H → c σ H fun b H1 => if b = true then kWb W m tb nx rt σ H1 else nx σ H1) : tWhile c tb ⟨nx, rt, bk, ct⟩ σ H := ⟨W, ⟨m, h0⟩, hs⟩
theorem k_wb {tb : TS} {W : Nat → St → Hp → Prop} {m : Nat} (q : tb ⟨fun σ' H' => ∃ m', m' < m ∧ W m' σ' H', rt, nx, fun σ' H' => ∃ m', m' < m ∧ W m' σ' H'⟩ σ H) : kWb W m tb nx rt σ H := ⟨_, fun _ _ h => h, q⟩
end
end Sy
/-! list(d.values()). -/
namespace Sy
open PySem PySem.W PySem.Calls PySem.Spec PyProof.Rows L2
def tListVals (te : TE) : TE := fun σ H Q => te σ H fun x H1 => ∃ (d : Addr) (kvs : List (Key × V)), x = .ref d ∧ H1 d = some (.dK kvs) ∧ ∀ p, H1 p = none → Q (.ref p) (upd H1 p (.lst (kvs.map (·.2))))
section
variable {X : Cx} {e : Expr} {te : TE} {p apos cpos pos : Pos}
theorem vals_snd : ∀ {kvs : List (Key × V)} {vs : List (Key × Value)}, KV kvs vs → Vals (kvs.map (·.2)) (vs.map (·.2))
  | _, _, .nil => .nil
  | _, _, .cons h t => .cons h.2 (vals_snd t)
theorem pe_listVals (hc : X.calm = true) (he : PE X e te) (hg : Gl X "list") (hm : X.mg "list" = none) (hv : bootBuiltins "list" = some (.type "list")) (hbase : attributeBase e "values" X.env (eval e X.env) = eval e X.env := by rfl) (hline : (apos.endLine == cpos.line) = true := by rfl)
    (hs : starEach [.Call (.Attribute e "values" apos) [] [] cpos] X.env = (false, eval (.Call (.Attribute e "values" apos) [] [] cpos) X.env) :: starEach [] X.env := by rfl) :
    PE X (.Call (.Name "list" p) [.Call (.Attribute e "values" apos) [] [] cpos] [] pos) (tListVals te) := by
  refine ⟨fun pins s σ H Q I hq => ?_⟩
  refine wpAny_Call_Name_kw (ld_blt I hg hm hv ?_)
  refine PyProof.Rows.callWith_type1 ?_ hs rfl
  rw [hs]
  show wpAny _ _ (spliced ((false, eval (.Call (.Attribute e "values" apos) [] [] cpos) X.env) :: backTo pos (starEach [] X.env))) _ _ s
  refine Calls.spliced_cons ?_
  refine wpAny_Call_method (T := "dict") (id := "dict.values") hbase rfl hline F.plainAttrs_dict F.slot_dict_values F.type_dict_values (thn (he.run pins s σ H _ I hq) fun u s1 ⟨x, H1, I1, rx, d, kvs, ex, hd, q⟩ => ?_)
  subst ex
  obtain rfl : u = Value.ref d := rx
  obtain ⟨hz, hs0, vs, kv, hdo⟩ := I1.hok d _ hd
  obtain ⟨ep, hat⟩ := hdo.dictAt
  have lk : kvs.length = vs.length := Paired.length kv
  have I2 : Inv X pins σ H1 { s1 with heap := s1.heap.push { cls := .type "dict_values", data := .fields #[.ref d] } } := I1.kept (t' := s1.toks) fun b ob q => Heap.get?_push_of_some _ q
  refine ⟨hdo.typeIs, hdo.mapOf.noDict, ?_⟩
  show wpAny _ _ (callWith cpos (.builtin "dict.values") [.ref d] [] []) _ X.xe s1
  refine method_meetsIn F.slot_dict_values F.entry_dict_values rfl (PySem.evalArgs_none ⟨rfl, hdo.typeIs, F.args_dict_values_1 _, _, meets_dict_values (mixKind X.prog X.w) d hs0, ⟨vs, hdo⟩, ?_⟩)
  refine Calls.spliced_nil ?_
  refine PySem.W.kdl_call (PySem.W.kdl_values (knd := mixKind X.prog X.w) (d := d) (r := s1.heap.objs.size) (kvs := vs) (ep := ep)) (I1.ok.hd hc) ⟨⟨_, Heap.get?_push_size _ rfl, rfl, rfl⟩, hat.push _⟩ (by omega) fun h' tk acc c hk hD hacc => ?_
  have ea : acc.toList = vs.map (·.2) := PySem.W.kdl_vals_eq acc.toList (by rw [Array.length_toList]; exact hacc.1) fun j v e => hacc.2 j v (by rw [← Array.getElem?_toList]; exact e)
  refine ⟨.ref _, _, I2.laid (t' := tk) (o := .lst (kvs.map (·.2))) hk (Nat.le_refl _) ⟨by rw [List.length_map]; omega, acc.toList, c, by rw [ea]; exact vals_snd kv, by rw [Array.toArray_toList]; exact hD⟩, rfl, q _ (I2.hok.fresh (Nat.le_refl _))⟩
end
end Sy
namespace Sy
open PySem L2
section
variable {K : PySem.W.Frag} {σ : St} {H H1 : Hp} {L : List U} {Q : VK} {a b d p C : Addr} {te : TE}
def kListVals (x : V) (H1 : Hp) (Q : VK) : Prop := ∃ (d : Addr) (kvs : List (Key × V)), x = .ref d ∧ H1 d = some (.dK kvs) ∧ ∀ p, H1 p = none → Q (.ref p) (upd H1 p (.lst (kvs.map (·.2))))
theorem x_listVals (q : te σ H fun x H1 => kListVals x H1 Q) : tListVals te σ H Q := q
theorem k_listVals {mm : List (Int × V)} (hh : Has H L) (hp : H d = some (dI mm)) (q : ∀ p H', Has H' ([(p, .lst (mm.map (·.2)))] :: L) → Q (.ref p) H') : kListVals (.ref d) H Q := by
  refine ⟨d, _, rfl, hp, fun p hp => ?_⟩
  have e : (mk g1 mm).map (·.2) = mm.map (·.2) := by unfold mk; rw [List.map_map]; rfl
  rw [e]
  exact q p _ (hh.nw hp)
end
end Sy
/-! More rules: xs[::-1], == of alike data, a place of a dict set. -/
namespace Sy
open PySem L2
theorem Has.permU {H : Hp} {u u' : U} {L : List U} (h : Has H (u :: L)) (p : u.Perm u') : Has H (u' :: L) := by
  obtain ⟨n, a⟩ := h
  have e : (u :: L).flatten.Perm (u' :: L).flatten := p.append_right L.flatten
  exact ⟨(e.map (·.1)).nodup_iff.mp n, fun q hq => a q (e.mem_iff.mpr hq)⟩
theorem fmU_perm {β : Type} {ob : β → HO} {m m' : List (Addr × β)} (p : m.Perm m') : (fmU ob m).Perm (fmU ob m') := p.map _
section
variable {K : PySem.W.Frag} {σ : St} {H H1 : Hp} {L : List U} {Q : VK} {a b d p C : Addr} {te : TE} {x y v : V} {i : Int}
def kRevL (K : PySem.W.Frag) (x : V) (H1 : Hp) (Q : VK) : Prop := ∃ a xs, x = .ref a ∧ SqL K H1 a xs ∧ ∀ p, H1 p = none → Q (.ref p) (upd H1 p (.lst xs.reverse))
theorem x_revL (q : te σ H fun x H1 => kRevL K x H1 Q) : tRevL K te σ H Q := q
theorem k_revL {xs : List V} (hh : Has H L) (hp : H a = some (.lst xs)) (q : ∀ p H', Has H' ([(p, .lst xs.reverse)] :: L) → Q (.ref p) H') : kRevL K (.ref a) H Q := ⟨a, xs, rfl, SqL.of hp, fun p hp => q p _ (hh.nw hp)⟩
theorem shaped_lay {d : PyData} (h : SeqAt.shaped d = true) : d.canLay0 = true := by
  unfold SeqAt.shaped at h
  exact (Bool.and_eq_true_iff.mp h).1
theorem k_neSame {dd : PyData} (hx : Dp K H x dd) (hy : Dp K H y dd) (hs : SeqAt.shaped dd = true) (q : Q (.bl false) H) : rNeD K x y H Q :=
  ⟨dd, dd, hx, hy, hs, hs, by rw [SeqAt.eqv_refl dd (shaped_lay hs)]; exact q⟩
theorem k_eqSame {dd : PyData} (hx : Dp K H x dd) (hy : Dp K H y dd) (hs : SeqAt.shaped dd = true) (q : Q (.bl true) H) : rEqD K x y H Q :=
  ⟨dd, dd, hx, hy, hs, hs, by rw [SeqAt.eqv_refl dd (shaped_lay hs)]; exact q⟩
theorem k_setD {mm : List (Int × V)} {M : List U} {Q : Hp → Prop} (hp : H a = some (dI mm)) (hl : mm.length < sizeLine) (hh : Has (upd H a (dI (putK mm i v))) M) (q : ∀ H', Has H' M → Q H') : rSetD (.ref a) (.int i) v H Q := by
  refine ⟨a, _, rfl, DPut.k (k := g1 i) hp (by rw [mk_len]; exact hl), ?_⟩
  rw [mk_put g1_inj]
  exact q _ hh
theorem x_ifAnd {t u : TT} {s1 s2 : TS} {nx bk ct : St → Hp → Prop} {rt : VK} {b1 b2 : Bool} (ht : ∀ Q' : Bool → Hp → Prop, Q' b1 H → t σ H Q') (hu : ∀ Q' : Bool → Hp → Prop, Q' b2 H → u σ H Q') (q1 : b1 = true → b2 = true → s1 ⟨nx, rt, bk, ct⟩ σ H) (q2 : ¬ (b1 = true ∧ b2 = true) → s2 ⟨nx, rt, bk, ct⟩ σ H) : tIfS (tAnd t u) s1 s2 ⟨nx, rt, bk, ct⟩ σ H := by
  refine x_if (x_and (ht _ ?_))
  cases b1 with
  | false => exact ifF (ifF (q2 (by simp)))
  | true =>
    refine ifT (hu _ ?_)
    cases b2 with
    | false => exact ifF (q2 (by simp))
    | true => exact ifT (q1 rfl rfl)
def srtI (l : List Int) : List Int := l.mergeSort (fun a b => decide (a ≤ b))
theorem srtI_eq {l ys : List Int} (p : ys.Perm l) (s : ys.Pairwise (· ≤ ·)) : ys = srtI l := by
  have p2 : (srtI l).Perm l := List.mergeSort_perm _ _
  have s2 : (srtI l).Pairwise (fun a b => decide (a ≤ b) = true) := List.pairwise_mergeSort (fun a b c h1 h2 => by simp at h1 h2 ⊢; omega) (fun a b => by simp; omega) l
  exact (p.trans p2.symm).eq_of_pairwise (fun a b _ _ h h' => Int.le_antisymm h h') s (s2.imp of_decide_eq_true)
end
end Sy
/-! len(x) of an own class with its own __len__; {k: v}. -/
namespace Sy
open PySem PySem.Spec PyProof.Rows L2
def rLenO (C : Addr) (sp : Sp) (E : XK) : List V → Hp → VK → Prop := fun xs H Q => ∃ (a dx : Addr) (fs : List (Str × V)), xs = [.ref a] ∧ H a = some (.ins C dx fs) ∧ sp [.ref a] H (fun v H' => ∃ n : Int, v = .int n ∧ 0 ≤ n ∧ n < 2 ^ 63 ∧ Q (.int n) H') E
theorem call_lenO {X : Cx} {CX : CXT} {C f : Addr} {fd : FuncData} {ps : List Str} {sp : Sp} {E : XK} {n : Nat} (F : FnOk X.prog X.w X.K X.mg X.base CX n f fd ps sp) (hr : Room (n + 1) X.A) (M : Meth X.K C "__len__" f) (hb : Binds X.K fd ps []) (hx : Passes CX X E) : CallR X (.builtin "len") (rLenO C sp E) := by
  intro pins s σ H xs us Q I r h
  obtain ⟨a, dx, fs, rfl, ha, hsp⟩ := h
  obtain ⟨u, rfl, ru⟩ := vals1 r
  obtain rfl : u = Value.ref a := ru
  obtain ⟨mA, J, _⟩ := ins_get I.hok ha
  obtain ⟨od, J, _⟩ := J.look
  obtain ⟨m, hF⟩ := I.fr
  refine PySem.W.len_K hF I.ok.mod.kin J M.at_ M.fn ?_
  have e0 : Env0 X.prog X.w X.K X.mg X.base X.A.in1 X.stack s H := by
    have e := I.env0
    exact ⟨e.frames, e.mod, e.bs, e.bsz, e.funs, e.frf, e.hok, e.bare⟩
  have hl := F.len _ _ _ _ hsp
  have r2 : Vals [V.ref a] [Value.ref a] := .cons rfl .nil
  refine wpAny_call (codeAny_mono (F.run X.A.in1 X.stack s H ⟨[.ref a], []⟩ [.ref a] [.ref a] _ E hr.in1 e0 (by
    have := hb s [.ref a] I.kIn (by simpa using hl)
    simpa using this) r2 hsp) fun r s' hq => ?_)
  cases r with
  | error e => exact hx pins σ H s e s' I hq
  | ok fl =>
    cases fl with
    | ret w =>
      obtain ⟨z, H', I', rz, k, ez, h0, h1, q⟩ := I.after hq
      subst ez
      obtain ⟨tk, rfl⟩ := rz
      exact ⟨⟨h0, h1⟩, .int k, H', I'.tok _, ⟨_, rfl⟩, q⟩
    | next => exact False.elim hq
    | brk => exact False.elim hq
    | cont => exact False.elim hq
end Sy
namespace Sy
open PySem L2
section
variable {σ : St} {H : Hp} {L : List U} {Q : VK} {a C dx p : Addr} {fs : List (Str × V)} {sp : Sp} {E : XK} {tk tv : TE} {i : Int} {v : V}
theorem k_lenO (hp : H a = some (.ins C dx fs)) (q : sp [.ref a] H (fun v H' => ∃ n : Int, v = .int n ∧ 0 ≤ n ∧ n < 2 ^ 63 ∧ Q (.int n) H') E) : rLenO C sp E [.ref a] H Q := ⟨a, dx, fs, rfl, hp, q⟩
def kDisp (p : Addr) (x v : V) (H2 : Hp) (Q : VK) : Prop := H2 p = some (.dK []) ∧ ∃ kvs : List (Key × V), [(x, v)] = kvs.map (fun kv => (kV kv.1, kv.2)) ∧ kvs.length ≤ 15 ∧ Q (.ref p) (upd H2 p (.dK (mergeK [] kvs)))
theorem x_disp1 (hh : Has H L) (q : ∀ p H', Has H' ([(p, dI [])] :: L) → tk σ H' fun x H1 => tv σ H1 fun v H2 => kDisp p x v H2 Q) : tDisp [(tk, tv)] σ H Q := fun p hp => q p _ (hh.nw hp)
theorem k_disp {M : List U} (hp : H p = some (dI [])) (hh : Has (upd H p (dI [(i, v)])) M) (q : ∀ H', Has H' M → Q (.ref p) H') : kDisp p (.int i) v H Q := by
  refine ⟨hp, [(g1 i, v)], rfl, (show 1 ≤ 15 by decide), ?_⟩
  have e : (HO.dK (mergeK [] [(g1 i, v)])) = dI [(i, v)] := by
    unfold mergeK
    rw [List.foldl_cons, List.foldl_nil]
    unfold putK
    simp [mk]
  rw [e]
  exact q _ hh
end
end Sy
/-! for k in d, d locked. -/
namespace Sy
open PySem L2
theorem x_forD {σ : St} {H : Hp} {L : List U} {k : Nat} {d : Addr} {mm : List (Int × V)} {tb : TS} {td : TE} {nx bk ct : St → Hp → Prop} {rt : VK} (Pv : Obj → Nat → St → Hp → Prop) (hh : Has H ([(d, dI mm)] :: L))
    (htd : ∀ o H' (Q' : VK), Has H' ([(d, .frz o (dI mm))] :: L) → Q' (.ref d) H' → td σ H' Q')
    (h0 : ∀ o H', Has H' ([(d, .frz o (dI mm))] :: L) → Pv o 0 σ H')
    (hl : ∀ o i σ' H', Pv o i σ' H' → H' d = some (.frz o (dI mm)))
    (hs : ∀ o (i : Nat) (z : Int) σ' H', (mm.map (·.1))[i]? = some z → Pv o i σ' H' → tb ⟨Pv o (i + 1), fun v H' => H' d = some (.frz o (dI mm)) ∧ rt v (upd H' d (dI mm)), fun σ' H' => H' d = some (.frz o (dI mm)) ∧ nx σ' (upd H' d (dI mm)), Pv o (i + 1)⟩ (σ'.set k (some (.int z))) H')
    (hd : ∀ o σ' H', Pv o mm.length σ' H' → nx σ' (upd H' d (dI mm))) : tLock (tFor (iKeys td) (gName k) tb) ⟨nx, rt, bk, ct⟩ σ H := by
  refine ⟨d, dI mm, hh.g0, trivial, fun o => ?_⟩
  have h1 : Has (upd H d (.frz o (dI mm))) ([(d, .frz o (dI mm))] :: L) := hh.s0
  have hlen : (mk g1 mm).length = mm.length := mk_len _ _
  refine htd o _ _ h1 ⟨d, o, rfl, .inl ⟨mk g1 mm, h1.g0, fun i m σ' H' => m = mm.length - i ∧ i ≤ mm.length ∧ Pv o i σ' H', ⟨mm.length, by simp, Nat.zero_le _, h0 o _ h1⟩, ?_⟩⟩
  rintro i m σ' H' ⟨rfl, hi, p⟩
  have pl := hl o i σ' H' p
  by_cases hlt : i < mm.length
  · refine .inr ⟨⟨pl, by rw [hlen]; exact hlt⟩, Pv o (i + 1), fun σ2 H2 p2 => ⟨mm.length - (i + 1), by omega, rfl, hlt, p2⟩, fun x H2 y => ?_⟩
    obtain ⟨e, kk, vv, hk, ex⟩ := y
    subst e
    have hz1 : (mm.map (·.1))[i]? = some (mm[i]).1 := by rw [List.getElem?_map, List.getElem?_eq_getElem hlt]; rfl
    have hkk : kk = g1 (mm[i]).1 := by
      unfold mk at hk
      rw [List.getElem?_map, List.getElem?_eq_getElem hlt] at hk
      exact (congrArg Prod.fst (Option.some.inj hk)).symm
    subst hkk
    have ex : x = .int (mm[i]).1 := ex
    subst ex
    exact hs o i _ σ' H2 hz1 p
  · have e : i = mm.length := by omega
    subst e
    exact .inl ⟨⟨pl, by rw [hlen]; exact Nat.le_refl _⟩, pl, hd o σ' H' p⟩
end Sy
/-! Exceptions that are kept: try .. except X as e: caught = e; isinstance of what was caught; defs with two promises. -/
namespace Sy
open PySem PySem.Spec PyProof.Rows L2
/-- a caught exception, at a -/
def ExK (cls : Value) (d : Option Addr) (a : Addr) : HO := .ext fun h => ∃ (oe : Obj) (vs : Array Value), h.get? a = some oe ∧ Zc cls d oe ∧ oe.data = .fields vs
theorem exK_ok {P : Program} {w : World} {H : Hp} {h : Heap} {a : Addr} {cls : Value} {d : Option Addr} {oe : Obj} {vs : Array Value} (e : h.get? a = some oe) (z : Zc cls d oe) (hd : oe.data = .fields vs) : ObjOk P w H h a (ExK cls d a) :=
  ⟨⟨oe, vs, e, z, hd⟩, ⟨oe, e⟩, fun _ _ ⟨o, v, q, r⟩ k => ⟨o, v, k o q, r⟩⟩
section
variable {X : Cx} {pins : List (Addr × Obj)} {σ : L2.St} {H : Hp} {s : Shared}
theorem Inv_track {a : Addr} {φ : Heap → Prop} (I : Inv X pins σ H s) (na : H a = none) (n0 : X.s_0.heap.get? a = none) (nL : a ≠ X.env.locals) (nC : ∀ x c, X.env.cells.lookup x = some c → c ≠ a) (nP : ∀ p ∈ X.pn ++ pins, p.1 ≠ a)
    (new : ObjOk X.prog X.w (upd H a (.ext φ)) s.heap a (.ext φ)) : Inv X pins σ (upd H a (.ext φ)) s := by
  refine ⟨I.ok, I.os, I.bare, ⟨I.base.keep, I.base.slot, fun b o e n hq => ?_, I.base.there, fun b xs e => ?_, fun b o u e => ?_, fun b ps e => ?_⟩, I.loc, I.cell, ?_, fun x c e => ?_, fun p hp => ?_, I.hok.laidN (fun _ _ q => q) na new, I.len⟩
  · rw [upd_ne (fun z => by rw [z, n0] at e; cases e)]
    exact I.base.free b o e n hq
  · have q := I.base.tups b xs e
    rw [upd_ne (ne_of_none q na)]
    exact q
  · have q := I.base.frzs b o u e
    rw [upd_ne (ne_of_none q na)]
    exact q
  · obtain ⟨m, q⟩ := I.base.tbls b ps e
    exact ⟨m, by rw [upd_ne (ne_of_none q na)]; exact q⟩
  · rw [upd_ne (Ne.symm nL)]
    exact I.free
  · rw [upd_ne (nC x c e)]
    exact I.freeC x c e
  · obtain ⟨e, n, ne, nf, d⟩ := I.pin p hp
    exact ⟨e, by rw [upd_ne (nP p hp)]; exact n, ne, nf, d⟩
end
/-- what the clause 'except x as n' wishes of an exception of the body, the exception kept behind it -/
def wKeep (K : PySem.W.Frag) (c : Value) (i : Nat) (ts : Addr → Value → Option Addr → TS) (Wout : WX) (D : Ends) : WX := fun cls d σ H =>
  ∃ b, PySem.W.exmOne K cls c = some b ∧ (b = true → ∀ a, H a = none → ts a cls d { nx := fun σ' H' => D.nx (σ'.set i none) (upd H' a (ExK cls d a)), rt := fun _ _ => False, bk := fun _ _ => False, ct := fun _ _ => False } (σ.set i (some (.ref a))) H) ∧
    (b = false → Wout cls d σ H)
section
variable {X : Cx} {x n : Str} {c : Value} {i : Nat} {body suite : List Stmt} {b₀ : Stmt} {np pos pos' : Pos} {tb : WX → TS} {ts : Addr → Value → Option Addr → TS} {Wout : WX}
theorem ps_try_keep (hs : X.stack = X.env :: X.outer) (hf : X.env.frame = some X.env.locals) (hex : X.ex = []) (hN : X.N.Nodup) (hi : X.N[i]? = some n) (hln : X.env.kindOf n = some .local) (hc : Names X x c) (tk : Takes X Wout)
    (hb : ∀ (W : WX) (pn : List (Addr × Obj)) (xe : Value → Shared → Prop), Takes (X.tr pn xe) W → PassesOwn (model X.prog X.w) X.A X.env xe → PSs (X.tr pn xe) body (tb W))
    (hsu : ∀ (a : Addr) (oe : Obj) (cls : Value) (d : Option Addr) (pn : List (Addr × Obj)), Zc cls d oe → (∃ vs, oe.data = .fields vs) → PSs (X.suite a ((a, oe) :: pn)) (b₀ :: suite) (ts a cls d)) :
    PS X (.Try body [.ExceptHandler (some (.Name x np)) (some n) (b₀ :: suite) pos'] [] [] pos) (fun D σ H => tb (wKeep X.K c i ts Wout D) D σ H) := by
  refine ⟨fun pins s σ H D I h => ?_⟩
  have ok := I.ok
  have hfr : X.A.frames = some (X.env :: X.outer) := by rw [ok.frames, hs]
  have hloc : Loc X.env.scope n := .inl hln
  refine wpAny_Try_except ?_
  refine wpAny_mono ((hb (wKeep X.K c i ts Wout D) (X.pn ++ pins) (fun e s₁ => wpAny (model X.prog X.w) X.A (noteFrame e X.env) (fun _ s₂ => wpAny (model X.prog X.w) X.A (setFlight e none) (fun _ s₃ =>
    wpAny (model X.prog X.w) X.A (handleBy e X.env [.ExceptHandler (some (.Name x np)) (some n) (b₀ :: suite) pos']) (SP X pins D) X.xe s₃) X.xe s₂) X.xe s₁) (fun u s' xx => ?_) PassesOwn.looking).run [] s σ H D (I.toTry _) h) (fun f s1 hsp => ?_) (fun e s1 he => he)
  · -- the catch
    obtain ⟨a, B, sI, pins', σ', H', cls, d, rfl, J', nb, up, sky, na, os, ag, b, hb1, hyes, hno⟩ := xx
    have J : Inv X pins σ' H' sI := J'.ofTry ok
    have sky' : Sky B (X.env :: X.outer) a (Zc cls d) X.env.locals s'.heap := by rw [← hs]; exact sky
    show wpAny (model X.prog X.w) X.A (noteFrame (.ref a) X.env) _ _ _
    refine Sky.land Zc.steady hfr hf sky' fun h3 fl3 up3 => ?_
    have J3 : Inv X pins σ' H' { s' with heap := h3 } := J.landed nb fl3.1 (up.trans up3) os ag
    obtain ⟨oe3, vs3, he3, hz3, hd3⟩ := fl3.there
    have notFr : ∀ {h : Heap} {o : Obj} {vs : Array Value}, h.FunFrames B (X.env :: X.outer) → h.get? a = some o → o.data = .fields vs → a ∉ frs (X.env :: X.outer) := fun {h o vs} ff e dd hm => by
      obtain ⟨_, o', e', hnf⟩ := ff.mem hm
      rw [e] at e'; cases e'
      exact hnf _ dd
    have nfr := notFr fl3.2.2.1 he3 hd3
    have nL : a ≠ X.env.locals := fun z => nfr (List.mem_filterMap.mpr ⟨X.env, List.mem_cons_self, by rw [hf, z]⟩)
    have nF : a ∉ X.fs := fun hm => by
      obtain ⟨e, he, q⟩ := List.mem_filterMap.mp hm
      exact nfr (List.mem_filterMap.mpr ⟨e, List.mem_cons_of_mem _ he, q⟩)
    have nI : sI.heap.get? a = none := by
      cases e : sI.heap.get? a with
      | none => rfl
      | some o =>
        have z := nb a o e (by rw [hs]; exact nfr)
        rw [fl3.2.1] at z
        cases z
    have n0 : X.s_0.heap.get? a = none := by
      cases e : X.s_0.heap.get? a with
      | none => rfl
      | some o =>
        obtain ⟨o', z⟩ := J.base.there a o e (by rw [hex]; exact fun z => nomatch z)
        rw [nI] at z
        cases z
    have nP : ∀ p ∈ X.pn ++ pins, p.1 ≠ a := fun p hp z => by
      obtain ⟨e, _⟩ := J.pin p hp
      rw [z, nI] at e
      cases e
    have S3 := J3.suite he3 hd3 na nL nF
    refine wpAny_handleBy_cons (codeAny_handlers_test ?_) (by intro q; cases q)
    have LT : PySem.W.Looks (model X.prog X.w) h3 (typeOf (.ref a)) cls := fun A Q E s k q => wpAny_typeOf_ref (k _ _ he3) (by rw [hz3.1]; exact q)
    have LM := PySem.W.exm_one (M := model X.prog X.w) (J3.kIn) LT hb1
    have test : ∀ {Q : Value → Shared → Prop} {E : Value → Shared → Prop}, Q c { s' with heap := h3 } → wpAny (model X.prog X.w) (X.A.mark (some (.ref a))) (eval (.Name x np) X.env) Q E { s' with heap := h3 } := fun {Q E} q => by
      obtain ⟨hg, hdbg, hm | ⟨hm, hv, hnn⟩⟩ := hc
      · exact ld_glob (X := X.suite a ((a, oe3) :: (X.pn ++ pins))) S3 hg hm q hdbg
      · exact ld_blt (X := X.suite a ((a, oe3) :: (X.pn ++ pins))) S3 hg hm hv q hnn hdbg
    refine test (LM.here ?_)
    cases b with
    | true =>
      refine codeAny_handlers_suite_as ?_
      refine HandSPX.lands_againZ fl3 fun h4 fl4 up4 => ?_
      have J4 : Inv X pins σ' H' { s' with heap := h4 } := J.landed nb fl4.1 ((up.trans up3).trans up4) os ag
      obtain ⟨oe4, vs4, he4, hz4, hd4⟩ := fl4.there
      have S4 := J4.suite he4 hd4 na nL nF
      refine store_ok (X := X.suite a ((a, oe4) :: (X.pn ++ pins))) (v := .ref a) S4 hN hi hloc rfl (fun s5 S5 => ?_) (.inr hln)
      refine wpAny_mono ((hsu a oe4 cls d (X.pn ++ pins) hz4 ⟨_, hd4⟩).run [] s5 _ H' _ S5 (hyes rfl a na)) (fun f s6 hsp => ?_) (fun _ _ z => False.elim z)
      cases f with
      | next =>
        obtain ⟨σ6, H6, S6, q6⟩ := hsp
        refine gone_ok (X := X.suite a ((a, oe4) :: (X.pn ++ pins))) S6 hN hi hln fun s7 S7 => ?_
        obtain ⟨e7, n7, _, _, d7⟩ := S7.pin (a, oe4) (List.mem_append.mpr (.inl List.mem_cons_self))
        have J7 := S7.unsuite ok
        refine ⟨_, _, Inv_track J7 n7 n0 nL (fun y c e z => ?_) nP (exK_ok e7 hz4 hd4), q6⟩
        obtain ⟨v, o, ho, hd⟩ := J7.cell y c e
        rw [z] at ho
        have ho : s7.heap.get? a = some o := ho
        rw [e7] at ho
        have := Option.some.inj ho
        subst this
        exact d7 _ hd
      | brk =>
        obtain ⟨_, _, _, q6⟩ := hsp
        exact q6.elim
      | cont =>
        obtain ⟨_, _, _, q6⟩ := hsp
        exact q6.elim
      | ret u =>
        obtain ⟨_, _, _, _, _, q6⟩ := hsp
        exact q6.elim
    | false =>
      show wpAny _ X.A (handleBy (.ref a) X.env []) _ _ _
      refine wpAny_handleBy_nil ?_
      obtain ⟨k1, k2, k3, oe, vs, T, oT, ts', he, hz, hd, h1, hr⟩ := id fl3
      unfold PySem.passOn
      refine wpAny_bind (wpAny_field he hd h1 ?_)
      rw [if_neg (show ¬ ((Value.ref T == Value.none) = true) from by simp)]
      have fin : wpAny (model X.prog X.w) X.A (setFlight (.ref a) X.env.frame) (fun _ s4 => wpAny (model X.prog X.w) X.A (throw (.ref a) : Sem Flow) (SP X pins D) X.xe s4) X.xe { s' with heap := h3 } := by
        rw [hf]
        refine HandSPX.setFlight_upZ fl3 fun h4 hh4 up4 => wpAny_throw (tk _ _ ?_)
        exact ⟨a, B, sI, pins, σ', H', cls, d, rfl, J, nb, (up.trans up3).trans up4, .inr (.inr (by rw [hs]; exact hh4)), na, os, ag, hno rfl⟩
      first
        | exact wpAny_bind (wpAny_pure (wpAny_bind fin))
        | exact wpAny_bind fin
  · cases f with
    | next => obtain ⟨σ6, H6, S6, q6⟩ := hsp; exact wpAny_execs_nil ⟨σ6, H6, S6.ofTry ok, q6⟩
    | brk => obtain ⟨σ6, H6, S6, q6⟩ := hsp; exact ⟨σ6, H6, S6.ofTry ok, q6⟩
    | cont => obtain ⟨σ6, H6, S6, q6⟩ := hsp; exact ⟨σ6, H6, S6.ofTry ok, q6⟩
    | ret u => obtain ⟨v6, σ6, H6, S6, r6, q6⟩ := hsp; exact ⟨v6, σ6, H6, S6.ofTry ok, r6, q6⟩
end
/-- isinstance(x, c), x an exception that was caught -/
def rIsK (K : PySem.W.Frag) : List V → Hp → VK → Prop := fun xs H Q => ∃ (a D : Addr) (c : V) (cv : Value) (b : Bool), xs = [.ref a, c] ∧ H a = some (ExK (.ref D) none a) ∧ ExcC K D ∧ (∀ u, RelV c u → u = cv) ∧ PySem.W.kitOne K (.ref D) cv = some b ∧ Q (.bl b) H
theorem call_isK {X : Cx} : CallR X (.builtin "isinstance") (rIsK X.K) := by
  intro pins s σ H xs us Q I r h
  obtain ⟨a, D, c, cv, b, rfl, ha, C, hcv, e, q⟩ := h
  cases r with
  | cons rx rr =>
    cases rr with
    | cons rt rr =>
      cases rr
      cases rx
      have ec := hcv _ rt
      subst ec
      obtain ⟨⟨oe, vs, hget, hz, hv⟩, _, _⟩ := I.hok a _ ha
      have J : PySem.W.InstAt s.heap a oe D none := by
        obtain ⟨oc, od, oda, osl⟩ := oe
        obtain ⟨h1, h2⟩ := hz
        dsimp only at h1 h2 hv
        subst h1 h2 hv
        exact ⟨hget, rfl, rfl, trivial⟩
      exact PySem.W.kia_one (PySem.W.handS_kitx_exc C.hg C.hk C.hs C.hd C.ha C.hn C.ht C.hm) I.kIn J e (fun z => nomatch z) fun tk => ⟨.bl b, H, I.kept (t' := tk) fun _ _ z => z, rfl, q⟩
/-! ### a def with two promises; a def that lets nothing out -/
section
variable {P : Program} {w : World} {K : PySem.W.Frag} {mg : Str → Option Value} {base : Heap} {CX CX' : CXT} {n m : Nat} {f : Addr} {fd : FuncData} {ps : List Str} {sp sp' : Sp}
theorem fn_mono (F : FnOk P w K mg base CX n f fd ps sp) (h : n ≤ m) : FnOk P w K mg base CX m f fd ps sp := ⟨F.len, fun A outer s H args us vs Q E hr e0 b r hsp => F.run A outer s H args us vs Q E (hr.mono h) e0 b r hsp⟩
theorem fn_or (F : FnOk P w K mg base CX n f fd ps sp) (G : FnOk P w K mg base CX m f fd ps sp') : FnOk P w K mg base CX (max n m) f fd ps (fun vs H Q E => sp vs H Q E ∨ sp' vs H Q E) :=
  ⟨fun vs H Q E h => h.elim (F.len vs H Q E) (G.len vs H Q E), fun A outer s H args us vs Q E hr e0 b r hsp => hsp.elim (fun h => F.run A outer s H args us vs Q E (hr.mono (Nat.le_max_left _ _)) e0 b r h) fun h => G.run A outer s H args us vs Q E (hr.mono (Nat.le_max_right _ _)) e0 b r h⟩
end
/-- both promises -/
def spOr (a b : Sp) : Sp := fun vs H Q E => a vs H Q E ∨ b vs H Q E
theorem fn_up {P : Program} {w : World} {K : PySem.W.Frag} {mg : Str → Option Value} {base : Heap} {CX : CXT} {n : Nat} {f : Addr} {fd : FuncData} {ps : List Str} {sp : Sp} (F : FnOk P w K mg base CX0 n f fd ps sp) : FnOk P w K mg base CX n f fd ps sp :=
  ⟨F.len, fun A outer s H args us vs Q E hr e0 b r hsp => codeAny_mono (F.run A outer s H args us vs Q E hr e0 b r hsp) fun r s' hq => by
    cases r with
    | error e => exact hq.elim
    | ok fl => cases fl <;> exact hq⟩
/-! ### xs.count(v), flat items -/
def rCntV (K : PySem.W.Frag) : V → List V → Hp → VK → Prop := fun x xs H Q => ∃ (a : Addr) (ys : List V) (y : V), x = V.ref a ∧ xs = [y] ∧ SqL K H a ys ∧ flatV y = true ∧ ys.all flatV = true ∧ Q (.int ((ys.countP fun z => eqV z y) : Nat)) H
theorem cnt_vals {y : V} : ∀ {ys : List V} {its : List Value}, Vals ys its → ys.all flatV = true → its.countP (eqU y) = ys.countP fun z => eqV z y
  | _, _, .nil, _ => rfl
  | _, _, .cons (a := z) (b := u) h t, f => by
    rw [List.all_cons, Bool.and_eq_true] at f
    rw [List.countP_cons, List.countP_cons, cnt_vals t f.2, eqU_of h f.1]
theorem mt_countV {X : Cx} : MtR X "list.count" (rCntV X.K) := by
  intro pins s σ H x xs v us Q I rx rxs h
  obtain ⟨a, ys, y, rfl, rfl, hs, fy, fys, q⟩ := h
  cases rx
  cases rxs with
  | cons ry rt =>
    rename_i uy ut
    cases rt
    obtain ⟨its, rv, ⟨⟨cls, dd, data, sl⟩, n, ho, hc, hdn, hd⟩, hlen⟩ := I.list hs
    simp only at hc hd
    subst hc hd
    refine call_meets PySem.F.slot_list_count ⟨_, ho, rfl⟩ PySem.F.entry_list_count (PySem.F.args_list_count_2 _ _)
      (SeqAt.list_countAt a its.toArray n dd sl uy (eqU y)) ⟨ho, fun u' hu' => mem_eqAt ry fy rv fys u' (by simpa using hu'), ?_⟩
    have ec : its.toArray.toList.countP (eqU y) = ys.countP fun z => eqV z y := cnt_vals rv fys
    refine ⟨.int ((ys.countP fun z => eqV z y) : Nat), H, I.tok _, ⟨s.toks, ?_⟩, q⟩
    show Value.int ((its.toArray.toList.countP (eqU y) : Nat) : Int) s.toks = _
    rw [ec]
/-! ### calls that may raise, within a try -/
section
variable {X : Cx} {CX : CXT} {k : Nat} {f C : Addr} {fd : FuncData} {ps : List Str} {sp : Sp} {E : L2.St → XK} {x m : Str} {p pos apos : Pos} {e o : Expr} {es : List Expr} {ta : TE} {t : TA}
def tMethS' (C : Addr) (m : Str) (sp : Sp) (E : L2.St → XK) (ta : TE) (t : TA) : TE := fun σ H Q => ta σ H fun x H1 => ∃ a dx fs, x = .ref a ∧ H1 a = some (.ins C dx fs) ∧ fs.lookup m = none ∧ t σ H1 fun vs H2 => sp (x :: vs) H2 Q (E σ)
theorem pe_methS' {pl : Sem Bool} (he : PE X o ta) (c : Cls X.K C) (hm : Meth X.K C m f) (F : FnOk X.prog X.w X.K X.mg X.base CX k f fd ps sp) (hr : Room k X.A) (hb : Binds X.K fd ps []) (hx : ∀ σ, PassesAt CX X σ (E σ)) (ha : PA X (e :: es) t)
    (hst : starEach (e :: es) X.env = (false, eval e X.env) :: starEach es X.env := by rfl) (hpl : (backTo pos (starEach es X.env)).any (·.1) = false := by rfl)
    (ht : eval (.Call (.Attribute o m apos) (e :: es) [] pos) X.env = (do
      let ov ← eval o X.env
      standAt apos.atName
      let (f, first) ← holding [ov] (getMethod ov m pl)
      callWith pos f first (backTo pos (starEach (e :: es) X.env)) (backToKw pos (keywordEach [] X.env))) := by rfl) :
    PE X (.Call (.Attribute o m apos) (e :: es) [] pos) (tMethS' C m sp E ta t) := by
  refine ⟨fun pins s σ H Q I h => ?_⟩
  refine PySem.W.methodCall_KW (pl := pl) (thn (he.run pins s σ H _ I h) fun u s1 ⟨x, H1, I1, rx, a, dx, fs, ex, ea, l, q⟩ => ?_) ht
  subst ex
  obtain rfl : u = Value.ref a := rx
  refine getmeth_ok I1 ea c hm l ?_
  refine PySem.W.callWith_K (first := [.ref a]) (h₀ := X.base) I.ok.mod.kin hm.kp (thn (ha.run pos pins s1 σ H1 _ I1 q) fun us s2 ⟨vs, H2, I2, r, q2⟩ => ⟨I2.kIn, ?_⟩) hst hpl
  exact run_fnS (us := .ref a :: us) (vs := .ref a :: vs) F hr hb (hx σ) I2 (.cons rfl r) q2
end
end Sy
namespace Sy
open PySem L2
/-- raise C('..') in a def whose way out is E -/
def tRaise (E : XK) (C : Addr) : TS := fun _ _ H => E (.ref C) none H
/-- try: .. except c as e: x = e (e in slot i, x in slot j) -/
def tTryK (K : PySem.W.Frag) (c : Value) (i j : Nat) (tb : WX → TS) : TS := fun D σ H => tb (wKeep K c i (fun _ _ _ => tAsg (tVar i) (gName j)) (fun _ _ _ _ => False) D) D σ H
section
variable {K : PySem.W.Frag} {σ : St} {H : Hp} {L : List U} {Q : VK} {nx bk ct : St → Hp → Prop} {rt : VK} {E : XK} {C : Addr} {cls c : Value} {d : Option Addr} {i j : Nat} {tb : WX → TS} {tr : TA} {ta : TE} {sp : Sp} {Es : St → XK} {a dx : Addr} {fs : List (Str × V)} {m : Str} {D : Ends} {Wout : WX}
theorem x_raise (q : E (.ref C) none H) : tRaise E C D σ H := q
theorem x_tryK (q : tb (wKeep K c i (fun _ _ _ => tAsg (tVar i) (gName j)) (fun _ _ _ _ => False) ⟨nx, rt, bk, ct⟩) ⟨nx, rt, bk, ct⟩ σ H) : tTryK K c i j tb ⟨nx, rt, bk, ct⟩ σ H := q
theorem k_keep (he : PySem.W.exmOne K cls c = some true) (hi : i < σ.length) (hh : Has H L) (q : ∀ a H', Has H' ([(a, ExK cls d a)] :: L) → nx (((σ.set i (some (.ref a))).set j (some (.ref a))).set i none) H') : wKeep K c i (fun _ _ _ => tAsg (tVar i) (gName j)) Wout ⟨nx, rt, bk, ct⟩ cls d σ H := by
  refine ⟨true, he, fun _ a ha => ⟨.ref a, ?_, ?_⟩, fun h => by cases h⟩
  · rw [List.getElem?_set_self hi]
  · exact q a _ (hh.nw ha)
theorem x_callS (q : tr σ H fun vs H1 => sp vs H1 Q (Es σ)) : tCallS sp Es tr σ H Q := q
def kMethS (C : Addr) (m : Str) (sp : Sp) (Es : St → XK) (t : TA) (σ : St) (x : V) (H1 : Hp) (Q : VK) : Prop := ∃ a dx fs, x = .ref a ∧ H1 a = some (.ins C dx fs) ∧ fs.lookup m = none ∧ t σ H1 fun vs H2 => sp (x :: vs) H2 Q (Es σ)
theorem x_methS (q : ta σ H fun x H1 => kMethS C m sp Es tr σ x H1 Q) : tMethS' C m sp Es ta tr σ H Q := q
theorem k_methS (hp : H a = some (.ins C dx fs)) (hl : fs.lookup m = none) (q : tr σ H fun vs H2 => sp (.ref a :: vs) H2 Q (Es σ)) : kMethS C m sp Es tr σ (.ref a) H Q := ⟨a, dx, fs, rfl, hp, hl, q⟩
theorem k_isK {D : Addr} {c : V} {cv : Value} {b : Bool} (hp : H a = some (ExK (.ref D) none a)) (hC : ExcC K D) (hc : ∀ u, RelV c u → u = cv) (hk : PySem.W.kitOne K (.ref D) cv = some b) (q : Q (.bl b) H) : rIsK K [.ref a, c] H Q := ⟨a, D, c, cv, b, rfl, hp, hC, hc, hk, q⟩
theorem k_isKR {D C : Addr} {b : Bool} (hp : H a = some (ExK (.ref D) none a)) (hC : ExcC K D) (hk : PySem.W.kitOne K (.ref D) (.ref C) = some b) (q : Q (.bl b) H) : rIsK K [.ref a, .ref C] H Q := k_isK hp hC (fun u r => r) hk q
theorem k_isKT {D : Addr} {t : String} {b : Bool} (hp : H a = some (ExK (.ref D) none a)) (hC : ExcC K D) (hk : PySem.W.kitOne K (.ref D) (.type t) = some b) (q : Q (.bl b) H) : rIsK K [.ref a, .ty t] H Q := k_isK hp hC (fun u r => r) hk q
theorem k_cntV {y : V} {ys : List V} (hp : H a = some (.lst ys)) (f1 : flatV y = true) (f2 : ys.all flatV = true) (q : Q (.int ((ys.countP fun z => eqV z y) : Nat)) H) : rCntV K (.ref a) [y] H Q := ⟨a, ys, y, rfl, rfl, SqL.of hp, f1, f2, q⟩
end
end Sy
/-! More rules: tuples' slices, lists of numbers and None, tuples told over a locked dict. -/
namespace Sy
open PySem L2
section
variable {K : PySem.W.Frag} {σ : St} {H H1 : Hp} {L : List U} {Q : VK} {a b d p C : Addr} {te td : TE} {x y v w : V} {i : Int}
theorem x_slT {r : V → Option Int → Option Int → Hp → VK → Prop} {tl th : TO} (q : te σ H fun x H1 => tl σ H1 fun l H2 => th σ H2 fun u H3 => r x l u H3 Q) : L2.tSl r te tl th σ H Q := q
theorem x_noPart {Q : Option Int → Hp → Prop} (q : Q none H) : tNoPart σ H Q := q
theorem x_partC {i : Int} {Q : Option Int → Hp → Prop} (q : Q (some i) H) : tPart (tC (.int i)) σ H Q := ⟨i, rfl, q⟩
theorem cut4 {u v w z : V} : cutV [u, v, w, z] (some 2) none = [w, z] := by
  unfold cutV
  simp [HT.sIx]
theorem cut3 {u v w : V} : cutV [u, v, w] (some 1) none = [v, w] := by
  unfold cutV
  simp [HT.sIx]
theorem k_cut4 {u v w z : V} (hh : Has H L) (hp : H a = some (.tup [u, v, w, z])) (q : ∀ p H', Has H' ([(p, .tup [w, z])] :: L) → Q (.ref p) H') : rSlT K (.ref a) (some 2) none H Q :=
  ⟨a, _, rfl, SqT.of hp, by simp [HT.sIx], fun p h => by rw [cut4]; exact q p _ (hh.nw h)⟩
theorem k_cut3 {u v w : V} (hh : Has H L) (hp : H a = some (.tup [u, v, w])) (q : ∀ p H', Has H' ([(p, .tup [v, w])] :: L) → Q (.ref p) H') : rSlT K (.ref a) (some 1) none H Q :=
  ⟨a, _, rfl, SqT.of hp, by simp [HT.sIx], fun p h => by rw [cut3]; exact q p _ (hh.nw h)⟩
/-- a number or None -/
def oV : Option Int → V
  | none => .non
  | some n => .int n
def oD : Option Int → PyData
  | none => .none
  | some n => .int n
theorem dpAll_os : ∀ os : List (Option Int), DpAll K H (os.map oV) (os.map oD)
  | [] => .nil
  | none :: r => .cons .non (dpAll_os r)
  | some n :: r => .cons (.int n) (dpAll_os r)
theorem lay_os : ∀ os : List (Option Int), PyData.canLayAll0 (os.map oD) = true
  | [] => by simp [PyData.canLayAll0]
  | none :: r => by simp [PyData.canLayAll0, PyData.canLay0, oD, lay_os r]
  | some n :: r => by simp [PyData.canLayAll0, PyData.canLay0, oD, lay_os r]
theorem deep_os : ∀ os : List (Option Int), PyData.depthAll (os.map oD) ≤ 1
  | [] => by simp [PyData.depthAll]
  | none :: r => by have := deep_os r; simp [PyData.depthAll, PyData.depth, oD]; omega
  | some n :: r => by have := deep_os r; simp [PyData.depthAll, PyData.depth, oD]; omega
theorem shaped_os (os : List (Option Int)) : SeqAt.shaped (.list (os.map oD)) = true := by
  have h := deep_os os
  simp [SeqAt.shaped, PyData.canLay0, lay_os, PyData.depth]
  omega
theorem k_neOs {os : List (Option Int)} (hp : H a = some (.lst (os.map oV))) (hq : H b = some (.lst [])) (q : Q (.bl (!decide (os = []))) H) : rNeD K (.ref a) (.ref b) H Q := by
  refine ⟨_, .list [], .lst (SqL.of hp) (dpAll_os os), .lst (SqL.of hq) .nil, shaped_os os, by decide +kernel, ?_⟩
  have e : PyData.eqv (.list (os.map oD)) (.list []) = decide (os = []) := by
    cases os with
    | nil => rfl
    | cons o r => simp [PyData.eqv, PyData.eqvAll]
  rw [e]
  exact q
theorem k_isNoO {o : Option Int} (q : Q (.bl (!o.isSome)) H) : rIsNo (oV o) .non H Q := by
  cases o with
  | none => exact ⟨rfl, q⟩
  | some n => exact ⟨rfl, q⟩
theorem k_notNoO {o : Option Int} (q : Q (.bl o.isSome) H) : rNotNo (oV o) .non H Q := by
  cases o with
  | none => exact ⟨rfl, q⟩
  | some n => exact ⟨rfl, q⟩
/-- tuples told over a locked dict -/
theorem lc_keysN {β : Type} {k : Nat} {tt : TT} {o : Obj} {mm : List (Int × V)} (ob : β → HO) (h : Int → β) (c : Int → Bool) (hh : Has H L) (hd : ∀ H', Has H' L → H' d = some (.frz o (dI mm))) (hz : mm.length ≤ 100000)
    (ht : ∀ z ∈ mm.map (·.1), ∀ D m H' (Q' : Bool → Hp → Prop), Has H' ([(D, .lst (fmR m))] :: fmU ob m :: L) → (∀ H'', Has H'' ([(D, .lst (fmR m))] :: fmU ob m :: L) → Q' (c z) H'') → tt ((wipe σ [k]).set k (some (.int z))) H' Q')
    (hs : ∀ z ∈ mm.map (·.1), c z = true → ∀ D m H' (Q' : VK), Has H' ([(D, .lst (fmR m))] :: fmU ob m :: L) → (∀ u H'', Has H'' ([(u, ob (h z))] :: [(D, .lst (fmR m))] :: fmU ob m :: L) → Q' (.ref u) H'') → te ((wipe σ [k]).set k (some (.int z))) H' Q')
    (q : ∀ D m H', m.map (·.2) = ((mm.map (·.1)).filter c).map h → Has H' ([(D, .lst (fmR m))] :: fmU ob m :: L) → Q (.ref D) H') : kLc (gName k) tt te [k] σ (Itk d o (mk g1 mm)) H Q := by
  have hw : ∀ x, wipe ((wipe σ [k]).set k (some x)) [k] = wipe σ [k] := fun x => by
    show ((σ.set k none).set k (some x)).set k none = σ.set k none
    rw [List.set_set, List.set_set]
  intro D hD
  have hl : (mk g1 mm).length = mm.length := mk_len _ _
  refine ⟨fun i m H' => m = mm.length - i ∧ i ≤ mm.length ∧ ∃ ms : List (Addr × β), ms.map (·.2) = (((mm.map (·.1)).take i).filter c).map h ∧ Has H' ([(D, .lst (fmR ms))] :: fmU ob ms :: L), ⟨mm.length, by simp, Nat.zero_le _, [], rfl, (Has.nilU.mpr (hh.nw hD)).sub (Sub.p1 (Sub.p0 Sub.rf))⟩, ?_⟩
  rintro i m H' ⟨rfl, hi, ms, em, p⟩
  have pl := hd H' (p.sub (Sub.skip (Sub.skip Sub.rf)))
  by_cases hlt : i < mm.length
  · refine .inr ⟨⟨pl, by rw [hl]; exact hlt⟩, fun H2 => ∃ ms : List (Addr × β), ms.map (·.2) = (((mm.map (·.1)).take (i + 1)).filter c).map h ∧ Has H2 ([(D, .lst (fmR ms))] :: fmU ob ms :: L), fun H2 p2 => ⟨mm.length - (i + 1), by omega, rfl, hlt, p2⟩, fun x H2 y => ?_⟩
    obtain ⟨e, kk, vv, hk, ex⟩ := y
    subst e
    have hz1 : (mm.map (·.1))[i]? = some (mm[i]).1 := by rw [List.getElem?_map, List.getElem?_eq_getElem hlt]; rfl
    have hkk : kk = g1 (mm[i]).1 := by
      unfold mk at hk
      rw [List.getElem?_map, List.getElem?_eq_getElem hlt] at hk
      exact (congrArg Prod.fst (Option.some.inj hk)).symm
    subst hkk
    have ex : x = .int (mm[i]).1 := ex
    subst ex
    have hm : (mm[i]).1 ∈ mm.map (·.1) := List.mem_of_getElem? hz1
    have et : (mm.map (·.1)).take (i + 1) = (mm.map (·.1)).take i ++ [(mm[i]).1] := by rw [List.take_add_one, hz1]; rfl
    refine ⟨hw _, ht _ hm D ms H2 _ p fun H3 h3 => ?_⟩
    refine ifB (fun e => ?_) (fun e => ?_)
    · refine hs _ hm e D ms H3 _ h3 fun u H4 h4 => ?_
      refine ⟨_, h4.g1, ?_, ms ++ [(u, h (mm[i]).1)], ?_, fm_add h4⟩
      · rw [sizeLine_eq]
        unfold fmR
        rw [List.length_map]
        have l0 := congrArg List.length em
        rw [List.length_map, List.length_map] at l0
        have l1 := List.length_filter_le c ((mm.map (·.1)).take i)
        have l3 := List.length_take_le' i (mm.map (·.1))
        rw [List.length_map] at l3
        omega
      · rw [et, List.filter_append, List.map_append, List.map_append, em, List.filter_cons, if_pos e]
        rfl
    · refine ⟨ms, ?_, h3⟩
      rw [et, List.filter_append, List.filter_cons, if_neg (by rw [e]; decide), em]
      simp
  · have e : i = mm.length := by omega
    subst e
    have e2 : (mm.map (·.1)).take mm.length = mm.map (·.1) := List.take_of_length_le (by rw [List.length_map]; exact Nat.le_refl _)
    rw [e2] at em
    exact .inl ⟨⟨pl, by rw [hl]; exact Nat.le_refl _⟩, q D ms H' em p⟩
theorem x_lcN {β : Type} {k : Nat} {tt : TT} {mm : List (Int × V)} (ob : β → HO) (h : Int → β) (c : Int → Bool) (hh : Has H ([(d, dI mm)] :: L)) (hz : mm.length ≤ 100000)
    (htd : ∀ o H' (Q' : VK), Has H' ([(d, .frz o (dI mm))] :: L) → Q' (.ref d) H' → td σ H' Q')
    (ht : ∀ o, ∀ z ∈ mm.map (·.1), ∀ D m H' (Q' : Bool → Hp → Prop), Has H' ([(D, .lst (fmR m))] :: fmU ob m :: [(d, .frz o (dI mm))] :: L) → (∀ H'', Has H'' ([(D, .lst (fmR m))] :: fmU ob m :: [(d, .frz o (dI mm))] :: L) → Q' (c z) H'') → tt ((wipe σ [k]).set k (some (.int z))) H' Q')
    (hs : ∀ o, ∀ z ∈ mm.map (·.1), c z = true → ∀ D m H' (Q' : VK), Has H' ([(D, .lst (fmR m))] :: fmU ob m :: [(d, .frz o (dI mm))] :: L) → (∀ u H'', Has H'' ([(u, ob (h z))] :: [(D, .lst (fmR m))] :: fmU ob m :: [(d, .frz o (dI mm))] :: L) → Q' (.ref u) H'') → te ((wipe σ [k]).set k (some (.int z))) H' Q')
    (q : ∀ D m H', m.map (·.2) = ((mm.map (·.1)).filter c).map h → Has H' ([(D, .lst (fmR m))] :: fmU ob m :: [(d, dI mm)] :: L) → Q (.ref D) H') : tLockE (tLc (iKeys td) (gName k) tt te [k]) σ H Q := by
  refine ⟨d, dI mm, hh.g0, trivial, fun o => ?_⟩
  have h1 : Has (upd H d (.frz o (dI mm))) ([(d, .frz o (dI mm))] :: L) := hh.s0
  have z : kLc (gName k) tt te [k] σ (Itk d o (mk g1 mm)) (upd H d (.frz o (dI mm))) (fun v H' => H' d = some (.frz o (dI mm)) ∧ Q v (upd H' d (dI mm))) :=
    lc_keysN ob h c h1 (fun H' h' => h'.g0) hz (ht o) (hs o) fun D m H' em h' => ⟨h'.g2, q D m _ em h'.s2⟩
  exact htd o _ _ h1 ⟨d, o, rfl, .inl ⟨mk g1 mm, h1.g0, z⟩⟩
/-- dict(pairs) with keys of whole numbers that are all different -/
theorem k_dictP {ps : List (Addr × (Int × V))} {kvs : List (Int × V)} (hh : Has H L) (hp : H p = some (.lst (fmR ps))) (ht : ∀ q ∈ ps, H q.1 = some (.tup [.int q.2.1, q.2.2])) (e : ps.map (·.2) = kvs) (nd : (kvs.map (·.1)).Nodup) (q : ∀ d H', Has H' ([(d, dI kvs)] :: L) → Q (.ref d) H') : rDictP K [.ref p] H Q := by
  subst e
  have hpair : Paired (fun p kv => SqT K H p [kV kv.1, kv.2]) (ps.map (·.1)) (mk g1 (ps.map (·.2))) := by
    clear hp nd q
    induction ps with
    | nil => exact .nil
    | cons z r ih => exact .cons (SqT.of (ht z (List.mem_cons.mpr (.inl rfl)))) (ih fun q hq => ht q (List.mem_cons.mpr (.inr hq)))
  have hm : ∀ (B : List (Int × V)) (A : List (Int × V)), ((A ++ B).map (·.1)).Nodup → mergeK (mk g1 A) (mk g1 B) = mk g1 (A ++ B) := by
    intro B
    induction B with
    | nil => intro A _; rw [List.append_nil]; rfl
    | cons z r ih =>
      intro A hn
      have hz : valV (mk g1 A) (g1 z.1) = none := by
        rw [mk_val g1_inj]
        rw [List.map_append, List.map_cons] at hn
        have hn2 := (List.nodup_append.mp hn).2.2
        have hna : z.1 ∉ A.map (·.1) := fun hm => hn2 z.1 hm z.1 (List.mem_cons.mpr (.inl rfl)) rfl
        clear hn hn2 ih
        induction A with
        | nil => rfl
        | cons y s ih2 => rw [valV_neg (fun h => hna (List.mem_cons.mpr (.inl h.symm)))]; exact ih2 fun h => hna (List.mem_cons.mpr (.inr h))
      have hput : putK (mk g1 A) (g1 z.1) z.2 = mk g1 (A ++ [z]) := by
        unfold putK
        rw [valV_any, hz]
        unfold mk
        rw [List.map_append]
        rfl
      show mergeK (putK (mk g1 A) (g1 z.1) z.2) (mk g1 r) = _
      rw [hput, ih (A ++ [z]) (by rw [List.append_assoc]; exact hn), List.append_assoc]
      rfl
  have hm0 := hm (ps.map (·.2)) [] (by simpa using nd)
  refine ⟨p, ps.map (·.1), mk g1 (ps.map (·.2)), rfl, SqL.of (by rw [hp]; unfold fmR; rw [List.map_map]; rfl), hpair, fun d hd => ?_⟩
  have hm1 : mergeK [] (mk g1 (ps.map (·.2))) = mk g1 (ps.map (·.2)) := hm0
  rw [hm1]
  exact q d _ (hh.nw hd)
end
end Sy
/-! sorted(d.items()) of a dict of whole numbers; dict(d). -/
namespace Sy
open PySem PySem.W PySem.Calls PySem.Spec PyProof.Rows L2 L2.DX
section
variable {X : Cx}
def rItemsI : V → List V → Hp → VK → Prop := fun x xs H Q => ∃ (a : Addr) (kvs : List (Key × V)), x = .ref a ∧ xs = [] ∧ H a = some (.dK kvs) ∧ ∀ p, H p = none → Q (.ref p) (upd H p (itemsO p a))
theorem mt_itemsI : MtR X "dict.items" rItemsI := by
  intro pins s σ H x xs v us Q I rx rxs h
  obtain ⟨a, kvs, rfl, rfl, ha, q⟩ := h
  cases rx
  cases rxs
  obtain ⟨hz, hd, vs, kv, o, es, ep, ho, hx, hdat, _⟩ := I.hok a _ ha
  refine DT.callItems (es := es) (ep := ep) hd ⟨o, ho, hx, hdat⟩ ?_
  have hf : H s.heap.objs.size = none := I.hok.fresh (Nat.le_refl _)
  exact ⟨.ref s.heap.objs.size, upd H s.heap.objs.size (itemsO s.heap.objs.size a), I.laid (t' := s.toks) (fun b u e => Heap.get?_push_of_some _ e) (Nat.le_refl _) (itemsO_ok (Heap.get?_push_size _ rfl)), rfl, q _ hf⟩
def rSortItI : List V → Hp → VK → Prop := fun vs H Q => ∃ (p a : Addr) (ks : List (Int × Int)), vs = [.ref p] ∧ H p = some (itemsO p a) ∧ H a = some (dI (ks.map fun q => (q.1, .int q.2))) ∧
  ∀ (H' : Hp) (l : Addr) (ps : Prs), (∀ b o, H b = some o → H' b = some o) → H l = none → (∀ z ∈ ps, H z.1 = none) → (l :: ps.map (·.1)).Nodup → (ps.map (·.2)).Perm ks → (ps.map (·.2)).Pairwise leP → H' l = some (.lst (prR ps)) → (∀ z ∈ ps, H' z.1 = some (.tup [.int z.2.1, .int z.2.2])) → Q (.ref l) H'
def rEqE : R2 := fun x y H Q => ∃ a b ks, x = .ref a ∧ y = .ref b ∧ H a = some (.dK ks) ∧ H b = some (.dK []) ∧ Q (.bl (decide (ks = []))) H
theorem op_eqE (hu : X.A.units < cLine) : OpR X (compareOp .Eq) rEqE := by
  intro pins s σ H x y v u Q I rx ry h
  obtain ⟨a, b, ks, rfl, rfl, ea, eb, q⟩ := h
  obtain rfl : v = Value.ref a := rx
  obtain rfl : u = Value.ref b := ry
  obtain ⟨_, ya, va, ra, da⟩ := (show ObjOk X.prog X.w H s.heap a (.dK ks) from I.hok a _ ea)
  obtain ⟨_, yb, vb, rb, db⟩ := (show ObjOk X.prog X.w H s.heap b (.dK []) from I.hok b _ eb)
  have lb : vb.length = 0 := by rw [← rb.length]; rfl
  have la : va.length = ks.length := ra.length.symm
  refine PySem.W.keq_eq (knd := mixKind X.prog X.w) (r := true) ya yb da db hu (fun hl => hits_all rb ra fun p hp => ?_) (fin_bl I q ?_)
  · have : ks = [] := List.length_eq_zero_iff.mp (by omega)
    rw [this] at hp
    cases hp
  · rw [lb, la]
    cases ks with
    | nil => rfl
    | cons q r => rfl
def rDictD : List V → Hp → VK → Prop := fun xs H Q => ∃ (a : Addr) (kvs : List (Key × V)), xs = [.ref a] ∧ Rd H a (.dK kvs) ∧ ∀ p, H p = none → Q (.ref p) (upd H p (.dK kvs))
theorem call_dictDup : CallR X (.type "dict") rDictD := call_dictD
theorem pairs_at {es : List DictEntry} {vs : List (Key × Value)} {P : Program} {w : World} (h : Pairs (mixKind P w) es vs) : ∀ {ks : List (Int × Int)}, KV (mk g1 (ks.map fun q => (q.1, V.int q.2))) vs → ∀ (j : Nat) (en : DictEntry), es[j]? = some en → ∃ (e : Int × Int) (t1 t2 : Tok), ks[j]? = some e ∧ en.key = Value.int e.1 t1 ∧ en.val = Value.int e.2 t2 := by
  induction h with
  | nil => intro ks _ j en h; cases h
  | @cons en0 kv es vs h1 h2 _ ih =>
    intro ks hk j en hj
    match ks, hk with
    | q :: ks, .cons hq hr =>
      cases j with
      | zero =>
        have e : en0 = en := Option.some.inj hj
        subst e
        obtain ⟨a1, a2⟩ := hq
        have a1 : Sum.inl q.1 = kv.1 := a1
        obtain ⟨t2, a2⟩ := (show ∃ t, kv.2 = Value.int q.2 t from a2)
        have h1 : keyIs kv.1 en0.key = true := h1
        rw [← a1] at h1
        rcases keyIs_shape h1 with ⟨i, t, e1, e2⟩ | ⟨x, t, e1, _⟩
        · have e1 : q.1 = i := Sum.inl.inj e1
          subst e1
          exact ⟨q, t, t2, rfl, e2, h2.trans a2⟩
        · cases e1
      | succ j => exact ih hr j en hj
theorem cr_sortItI (hc : X.calm = true) : CallR X (.builtin "sorted") rSortItI := by
  intro pins s σ H xs us Q I r h
  obtain ⟨p, a, ks, rfl, hp, ha, q⟩ := h
  obtain rfl := Vals.ref1 r
  have view : s.heap.IsItemsView p a := (show ObjOk X.prog X.w H s.heap p (itemsO p a) from I.hok p _ hp).1
  obtain ⟨z, hd, vs, kv, o, es, ep, ho, hx, hdat, _, hpr, _⟩ := I.hok a _ ha
  have l1 : (mk g1 (ks.map fun q => (q.1, V.int q.2))).length = vs.length := Paired.length kv
  rw [mk_len, List.length_map] at l1 z
  have l2 : es.size = vs.length := by
    have := hpr.length
    rw [Array.length_toList] at this
    exact this
  have hh : X.A.handled = none := I.ok.hd hc
  refine DT.sortedI (es := es) (ep := ep) hh view ⟨o, ho, hx, hdat⟩ (by omega) fun h' tk as hk hlt hl hG => ?_
  have lak : as.length = ks.length := by omega
  have nd : as.Nodup := List.Pairwise.imp (fun h => Nat.ne_of_lt h) hG.rise
  have pr : ∀ (j : Nat) (b : Addr), as[j]? = some b → ∃ (e : Int × Int) (t1 t2 : Tok), ks[j]? = some e ∧ h'.get? b = some { cls := .type "tuple", data := .seq #[Value.int e.1 t1, Value.int e.2 t2] } := by
    intro j b hj
    obtain ⟨en, he, hg⟩ := hG.pairs j b hj
    rw [← Array.getElem?_toList] at he
    obtain ⟨e, t1, t2, h1, h2, h3⟩ := pairs_at hpr kv j en he
    rw [h2, h3] at hg
    exact ⟨e, t1, t2, h1, hg⟩
  have hob : (h'.push { cls := .type "list", data := .seq (as.map Value.ref).toArray }).get? h'.objs.size = some (seqObj "list" (as.map Value.ref).toArray 0) := Heap.get?_push_size _ rfl
  have kb : ∀ b o, s.heap.get? b = some o → (h'.push { cls := .type "list", data := .seq (as.map Value.ref).toArray }).get? b = some o := fun b o e => Heap.get?_push_of_some _ (hk b o e)
  have ne0 : ∀ b o, h'.get? b = some o → b ≠ h'.objs.size := fun b o e => Nat.ne_of_lt (Heap.lt_size e)
  generalize hh2 : h'.push { cls := .type "list", data := .seq (as.map Value.ref).toArray } = h2 at hob kb ⊢
  have ka : ∀ b o, h'.get? b = some o → h2.get? b = some o := fun b o e => by rw [← hh2]; exact Heap.get?_push_of_some _ e
  -- the key of a pair
  have zl : (as.zip ks).map (·.1) = as := List.map_fst_zip (by omega)
  have zr : (as.zip ks).map (·.2) = ks := List.map_snd_zip (by omega)
  have key := keyP_of (zs := as.zip ks) (by rw [zl]; exact nd)
  have idx : ∀ y ∈ as.zip ks, ∃ j : Nat, as[j]? = some y.1 ∧ ks[j]? = some y.2 := fun y hy => by
    obtain ⟨j, hj⟩ := List.mem_iff_getElem?.mp hy
    exact ⟨j, List.getElem?_zip_eq_some.mp hj⟩
  have hpp : ∀ v ∈ as.map Value.ref, Srt.IsPair h2 v (keyP (as.zip ks) (backV v)).1 (keyP (as.zip ks) (backV v)).2 := by
    intro v hv
    rw [← zl, List.map_map] at hv
    obtain ⟨y, hy, rfl⟩ := List.mem_map.mp hv
    obtain ⟨j, j1, j2⟩ := idx y hy
    obtain ⟨e, t1, t2, e1, e2⟩ := pr j y.1 j1
    have ee : e = y.2 := Option.some.inj (e1.symm.trans j2)
    subst ee
    have ek : keyP (as.zip ks) (backV (Value.ref y.1)) = y.2 := key y hy
    show Srt.IsPair h2 (Value.ref y.1) (keyP (as.zip ks) (backV (Value.ref y.1))).1 (keyP (as.zip ks) (backV (Value.ref y.1))).2
    rw [ek]
    exact ⟨y.1, _, t1, t2, _, rfl, ka _ _ e2, rfl, rfl⟩
  refine wpAny_call_entry PyProof.Rows.slot_list_sort ⟨_, hob, rfl⟩ PyProof.Rows.entry_list_sort
    (SrtO.list_sort_ord (s := { s with heap := h2, toks := tk }) (SrtO.swo_lex fun u => keyP (as.zip ks) (backV u)) hob (by rw [List.length_map]; omega) (fun h2' => SrtO.pairs_sortableO (by omega) hpp fun o e => ?_) fun out o1 o2 => ⟨.none, rfl, ?_⟩) (PyProof.Rows.args_list_sort _)
  · have e' : some o = some (seqObj "list" (as.map Value.ref).toArray 0) := e.symm.trans hob
    cases e'
    intro c
    exact absurd (Value.type.inj c) (by decide)
  · show EP X pins σ Q (.ref h'.objs.size) { s with heap := sortedHeap h2 h'.objs.size (as.map Value.ref) out.toArray, toks := tk }
    have o3 : out.Perm ((as.zip ks).map fun y => Value.ref y.1) := by
      have := o2.perm
      rw [← zl, List.map_map] at this
      exact this
    obtain ⟨zs, pz, ez⟩ := perm_lift (fun y : Addr × Int × Int => Value.ref y.1) o3 (as.zip ks) rfl
    subst ez
    have kF : ∀ b o, b ≠ h'.objs.size → h2.get? b = some o → (sortedHeap h2 h'.objs.size (as.map Value.ref) (zs.map fun (y : Addr × Int × Int) => Value.ref y.1).toArray).get? b = some o := fun b o hb e => (PyProof.Rows.sortedHeap_old hb (Heap.lt_size e)).trans e
    have kS : ∀ b o, s.heap.get? b = some o → (sortedHeap h2 h'.objs.size (as.map Value.ref) (zs.map fun (y : Addr × Int × Int) => Value.ref y.1).toArray).get? b = some o := fun b o e => kF b o (ne0 _ _ (hk b o e)) (kb b o e)
    obtain ⟨eF, heF⟩ := PyProof.Rows.sortedHeap_at (vs := as.map Value.ref) (out := (zs.map fun (y : Addr × Int × Int) => Value.ref y.1).toArray) hob
    have I1 : Inv X pins σ H { s with heap := sortedHeap h2 h'.objs.size (as.map Value.ref) (zs.map fun (y : Addr × Int × Int) => Value.ref y.1).toArray, toks := tk } := I.kept (t' := tk) kS
    have hn0 : H h'.objs.size = none := I.hok.fresh (Nat.le_of_lt hlt)
    have hlen : (zs.map fun (y : Addr × Int × Int) => V.ref y.1).length ≤ sizeLine := by
      have e := pz.length_eq
      rw [List.length_zip] at e
      rw [List.length_map]
      omega
    have rv : Vals (zs.map fun (y : Addr × Int × Int) => V.ref y.1) (zs.map fun (y : Addr × Int × Int) => Value.ref y.1) := vals_maps (fun y : Addr × Int × Int => V.ref y.1) (fun y => Value.ref y.1) zs fun _ _ => rfl
    have I2 : Inv X pins σ (upd H h'.objs.size (.lst (zs.map fun (y : Addr × Int × Int) => V.ref y.1))) { s with heap := sortedHeap h2 h'.objs.size (as.map Value.ref) (zs.map fun (y : Addr × Int × Int) => Value.ref y.1).toArray, toks := tk } :=
      I1.take (h' := sortedHeap h2 h'.objs.size (as.map Value.ref) (zs.map fun (y : Addr × Int × Int) => Value.ref y.1).toArray) (t' := tk) (fun b ob _ e => e) (I.fpOk (Nat.le_of_lt hlt) hn0) (show ObjOk X.prog X.w _ _ _ (.lst (zs.map fun (y : Addr × Int × Int) => V.ref y.1)) from ⟨hlen, zs.map fun (y : Addr × Int × Int) => Value.ref y.1, eF, rv, heF⟩)
    obtain ⟨H2, I3, g, qt⟩ := takeT (P := fun b vs => ∃ (j : Nat) (e : Int × Int), as[j]? = some b ∧ ks[j]? = some e ∧ vs = [.int e.1, .int e.2]) I as _ I2 nd fun b hb => by
      obtain ⟨j, hj⟩ := List.mem_iff_getElem?.mp hb
      obtain ⟨e, t1, t2, he, hg⟩ := pr j b hj
      have hbl : s.heap.objs.size ≤ b := Nat.le_of_lt (hG.above b hb)
      refine ⟨hbl, ?_, [.int e.1, .int e.2], ⟨j, e, hj, he, rfl⟩, fun H3 => ⟨(by rw [sizeLine_eq]; show 2 ≤ 16777216; omega), [Value.int e.1 t1, Value.int e.2 t2], .cons ⟨t1, rfl⟩ (.cons ⟨t2, rfl⟩ .nil), ⟨_, kF _ _ (ne0 _ _ hg) (ka _ _ hg), rfl, 0, rfl⟩⟩⟩
      rw [upd_ne (ne0 _ _ hg)]
      exact I.hok.fresh hbl
    have gr : ∀ b o, H b = some o → H2 b = some o := fun b o e => g b o (by rw [upd_ne (ne_of_none e hn0)]; exact e)
    have mz : ∀ y ∈ zs, y.1 ∈ as := fun y hy => by
      obtain ⟨j, j1, _⟩ := idx y (pz.mem_iff.mp hy)
      exact List.mem_of_getElem? j1
    refine ⟨.ref h'.objs.size, H2, I3, rfl, q H2 h'.objs.size zs gr hn0 (fun y hy => I.hok.fresh (Nat.le_of_lt (hG.above _ (mz y hy)))) ?_ ?_ ?_ (g _ _ upd_same) fun y hy => ?_⟩
    · rw [List.nodup_cons]
      refine ⟨fun hm => ?_, ?_⟩
      · obtain ⟨y, hy, e⟩ := List.mem_map.mp hm
        have hb := mz y hy
        obtain ⟨j, hj⟩ := List.mem_iff_getElem?.mp hb
        obtain ⟨_, _, _, _, hg⟩ := pr j y.1 hj
        exact ne0 _ _ hg e
      · have := (pz.map (·.1)).nodup_iff.mpr (by rw [zl]; exact nd)
        exact this
    · have := pz.map (·.2)
      rw [zr] at this
      exact this
    · have hs2 : (zs.map fun (y : Addr × Int × Int) => Value.ref y.1).Pairwise fun x y => SrtO.lexB (keyP (as.zip ks) (backV y)) (keyP (as.zip ks) (backV x)) = false := o1
      rw [List.pairwise_map] at hs2 ⊢
      refine List.Pairwise.imp_of_mem (fun {x y} hx hy h => ?_) hs2
      have kx : keyP (as.zip ks) (backV (Value.ref x.1)) = x.2 := key x (pz.mem_iff.mp hx)
      have ky : keyP (as.zip ks) (backV (Value.ref y.1)) = y.2 := key y (pz.mem_iff.mp hy)
      rw [kx, ky] at h
      have h2 := SrtO.lexB_no.mp h
      unfold leP
      omega
    · obtain ⟨i, i1, i2⟩ := idx y (pz.mem_iff.mp hy)
      obtain ⟨vs, ⟨j, e, j1, j2, ev⟩, hH⟩ := qt y.1 (List.mem_of_getElem? i1)
      have eij : i = j := (List.getElem?_inj (List.getElem?_eq_some_iff.mp i1).1 nd).mp (i1.trans j1.symm)
      subst eij
      have ee : e = y.2 := Option.some.inj (j2.symm.trans i2)
      rw [ev, ee] at hH
      exact hH
end
end Sy
namespace Sy
open PySem L2 L2.DX
section
variable {K : PySem.W.Frag} {σ : St} {H H1 : Hp} {L : List U} {Q : VK} {a b d p C : Addr} {te td : TE} {x y v w : V} {i : Int} {A : Prop}
theorem k_tyD {kvs : List (Key × V)} (hp : H a = some (.dK kvs)) (q : A) : kTy K "dict" (.ref a) H A := ⟨.inr (.inr (.inl ⟨rfl, .inl ⟨kvs, hp⟩⟩)), q⟩
theorem k_eqE {mm : List (Int × V)} (hp : H a = some (dI mm)) (hq : H b = some (dI [])) (q : Q (.bl (decide (mm = []))) H) : rEqE (.ref a) (.ref b) H Q := by
  refine ⟨a, b, mk g1 mm, rfl, rfl, hp, hq, ?_⟩
  have e : decide (mk g1 mm = []) = decide (mm = []) := by cases mm with
    | nil => rfl
    | cons q r => rfl
  rw [e]
  exact q
theorem k_dictDup {mm : List (Int × V)} (hh : Has H L) (hp : H a = some (dI mm)) (q : ∀ p H', Has H' ([(p, dI mm)] :: L) → Q (.ref p) H') : rDictD [.ref a] H Q := ⟨a, _, rfl, .inl hp, fun p h => q p _ (hh.nw h)⟩
theorem k_itemsI {kvs : List (Key × V)} (hh : Has H L) (hp : H a = some (.dK kvs)) (q : ∀ p H', Has H' ([(p, itemsO p a)] :: L) → Q (.ref p) H') : rItemsI (.ref a) [] H Q := ⟨a, kvs, rfl, rfl, hp, fun p h => q p _ (hh.nw h)⟩
theorem k_sortItI {ks : List (Int × Int)} (hh : Has H L) (hp : H p = some (itemsO p a)) (ha : H a = some (dI (ks.map fun q => (q.1, .int q.2)))) (q : ∀ (ps : Prs) d H', (ps.map (·.2)).Perm ks → (ps.map (·.2)).Pairwise leP → Has H' ([(d, .lst (prR ps))] :: prU ps :: L) → Q (.ref d) H') : rSortItI [.ref p] H Q := by
  refine ⟨p, a, ks, rfl, hp, ha, fun H' l ps up hl hf nd p1 p2 e1 e2 => q ps l H' p1 p2 ⟨?_, fun y hy => ?_⟩⟩
  · show (((l, HO.lst (prR ps)) :: (prU ps ++ L.flatten)).map (·.1)).Nodup
    have e3 : (prU ps).map (·.1) = ps.map (·.1) := by unfold prU fmU; rw [List.map_map]; rfl
    rw [List.map_cons, List.map_append, e3, List.nodup_cons, List.nodup_append]
    obtain ⟨n1, n2⟩ := List.nodup_cons.mp nd
    have old : ∀ b ∈ L.flatten.map (·.1), ∃ o, H b = some o := fun b hb => by
      obtain ⟨y, hy, rfl⟩ := List.mem_map.mp hb
      exact ⟨_, hh.at' y hy⟩
    refine ⟨fun hm => ?_, n2, hh.nd, fun c hc b hb e => ?_⟩
    · rcases List.mem_append.mp hm with hm | hm
      · exact n1 hm
      · obtain ⟨o, ho⟩ := old _ hm
        have ho : H l = some o := ho
        rw [hl] at ho
        cases ho
    · subst e
      obtain ⟨y, hy, rfl⟩ := List.mem_map.mp hc
      obtain ⟨o, ho⟩ := old _ hb
      rw [hf y hy] at ho
      cases ho
  · have hy : y ∈ (l, HO.lst (prR ps)) :: (prU ps ++ L.flatten) := hy
    rcases List.mem_cons.mp hy with rfl | hy
    · exact e1
    · rcases List.mem_append.mp hy with hy | hy
      · obtain ⟨z, hz, rfl⟩ := List.mem_map.mp hy
        exact e2 z hz
      · exact up _ _ (hh.at' y hy)
end
end Sy
local macro_rules | `(tactic| walk_at "hp") => `(tactic| first | assumption | exact Sy.Has.g0 (by assumption) | exact Sy.Has.g1 (by assumption) | exact Sy.Has.g2 (by assumption) | exact Sy.Has.g3 (by assumption) | exact Sy.Has.g4 (by assumption) | exact Sy.Has.g5 (by assumption) | exact Sy.Has.g6 (by assumption) | exact Sy.Has.g7 (by assumption) | exact Sy.Has.g8 (by assumption) | exact Sy.Has.g9 (by assumption) | exact Sy.Has.g10 (by assumption) | exact Sy.Has.g11 (by assumption) | exact Sy.Has.g12 (by assumption) | exact Sy.Has.g13 (by assumption) | exact Sy.Has.g14 (by assumption) | exact Sy.Has.g15 (by assumption))
local macro_rules | `(tactic| walk_at "hs") => `(tactic| first | exact Sy.Has.s0 (by assumption) | exact Sy.Has.s1 (by assumption) | exact Sy.Has.s2 (by assumption) | exact Sy.Has.s3 (by assumption) | exact Sy.Has.s4 (by assumption) | exact Sy.Has.s5 (by assumption) | exact Sy.Has.s6 (by assumption) | exact Sy.Has.s7 (by assumption) | exact Sy.Has.s8 (by assumption) | exact Sy.Has.s9 (by assumption) | exact Sy.Has.s10 (by assumption) | exact Sy.Has.s11 (by assumption) | exact Sy.Has.s12 (by assumption) | exact Sy.Has.s13 (by assumption) | exact Sy.Has.s14 (by assumption) | exact Sy.Has.s15 (by assumption))
local macro_rules | `(tactic| walk_at "sub1") => `(tactic| first | exact Sy.Sub.rf | apply Sy.Sub.p0 | apply Sy.Sub.p1 | apply Sy.Sub.p2 | apply Sy.Sub.p3 | apply Sy.Sub.p4 | apply Sy.Sub.p5 | apply Sy.Sub.p6 | apply Sy.Sub.p7 | apply Sy.Sub.p8 | apply Sy.Sub.p9 | apply Sy.Sub.p10 | apply Sy.Sub.p11 | apply Sy.Sub.p12 | apply Sy.Sub.p13 | apply Sy.Sub.p14 | apply Sy.Sub.p15 | apply Sy.Sub.skip)
local macro_rules | `(tactic| walk_at "sub") => `(tactic| repeat walk_at "sub1")
local macro_rules | `(tactic| walk_at "has") => `(tactic| (refine Sy.Has.sub (by assumption) ?_; repeat walk_at "sub1"))
local macro_rules | `(tactic| walk_at "sz") => `(tactic| first | (rw [PySem.sizeLine_eq]; first | decide | (simp; done) | (simp; omega) | omega) | omega)
local macro_rules | `(tactic| walk_at "cn") => `(tactic| first | assumption | omega | (unfold L2.CMul; omega) | (unfold L2.CDiv; omega) | (unfold L2.CPow; omega) | decide)
local macro_rules | `(tactic| walk_at "fl") => `(tactic| first | rfl | assumption)
local macro_rules | `(tactic| walk_at "ix") => `(tactic| first | assumption | rfl)
local macro_rules | `(tactic| walk_at "fsl") => `(tactic| first | assumption | decide | (simp; done))
local macro_rules | `(tactic| walk_at "put") => `(tactic| rfl)
local macro_rules | `(tactic| walk_at "st1") => `(tactic| first | with_reducible refine Sy.x_seq ?_ | with_reducible refine Sy.x_asg ?_ | with_reducible refine Sy.x_gname ?_ | with_reducible refine Sy.x_c ?_ | with_reducible refine Sy.x_op ?_ | with_reducible refine Sy.x_un ?_ | with_reducible refine Sy.x_test ?_ | with_reducible refine Sy.x_tB ?_ | with_reducible refine Sy.k_b ?_ | with_reducible refine Sy.x_if ?_ | with_reducible refine Sy.x_and ?_ | with_reducible refine Sy.x_or ?_ | with_reducible refine Sy.x_not ?_ | with_reducible refine Sy.x_andV ?_ | with_reducible refine Sy.x_orV ?_ | with_reducible refine Sy.x_notV ?_ | with_reducible refine Sy.k_andV ?_ | with_reducible refine Sy.k_orV ?_ | with_reducible refine Sy.k_notVt ?_ | with_reducible refine Sy.k_notVf ?_ | with_reducible refine Sy.k_notV ?_ | with_reducible refine Sy.ifNT ?_ | with_reducible refine Sy.ifNF ?_ | with_reducible refine Sy.x_ifE ?_ | with_reducible refine Sy.x_chain ?_ | with_reducible refine Sy.k_chain ?_ | with_reducible refine Sy.x_ret ?_ | with_reducible refine Sy.x_retN ?_ | with_reducible refine Sy.x_drop ?_ | with_reducible refine Sy.x_next ?_ | with_reducible refine Sy.x_brk ?_ | with_reducible refine Sy.x_ct ?_ | with_reducible refine Sy.x_cons ?_ | with_reducible refine Sy.x_nil ?_ | with_reducible refine Sy.x_call0 ?_ | with_reducible refine Sy.x_call ?_ | with_reducible refine Sy.x_meth ?_ | with_reducible refine Sy.x_cb ?_ | with_reducible refine Sy.x_fld ?_ | with_reducible refine Sy.x_sfld ?_ | with_reducible refine Sy.x_lst ?_ | with_reducible refine Sy.x_tup ?_ | with_reducible refine Sy.x_bm ?_ | with_reducible refine Sy.x_bm0 ?_ | with_reducible refine Sy.k_addI ?_ | with_reducible refine Sy.k_subI ?_ | with_reducible refine Sy.k_ltI ?_ | with_reducible refine Sy.k_leI ?_ | with_reducible refine Sy.k_gtI ?_ | with_reducible refine Sy.k_geI ?_ | with_reducible refine Sy.k_eqI ?_ | with_reducible refine Sy.k_neI ?_ | with_reducible refine Sy.k_eqB ?_ | with_reducible refine Sy.k_neB ?_ | with_reducible refine Sy.k_eqS ?_ | with_reducible refine Sy.k_neS ?_ | with_reducible refine Sy.k_isNo0 ?_ | with_reducible refine Sy.k_isNoI ?_ | with_reducible refine Sy.k_isNoR ?_ | with_reducible refine Sy.k_notNo0 ?_ | with_reducible refine Sy.k_notNoI ?_ | with_reducible refine Sy.k_notNoR ?_ | with_reducible refine Sy.k_eqIN ?_ | with_reducible refine Sy.k_eqNI ?_ | with_reducible refine Sy.k_eqNN ?_ | with_reducible refine Sy.k_neIN ?_ | with_reducible refine Sy.k_neNI ?_ | with_reducible refine Sy.k_neNN ?_ | with_reducible refine Sy.ifT ?_ | with_reducible refine Sy.ifF ?_ | with_reducible refine Sy.x_gcons ?_ | with_reducible refine Sy.x_gnil ?_ | with_reducible refine Sy.x_gsub ?_ | with_reducible refine Sy.x_rg1 ?_ | with_reducible refine Sy.k_rg1 ?_ | with_reducible refine Sy.x_lstRg ?_ | with_reducible refine Sy.x_make ?_ | with_reducible refine Sy.x_dget ?_ | with_reducible refine Sy.x_din ?_ | with_reducible refine Sy.x_dnot ?_ | with_reducible refine Sy.x_dput ?_ | with_reducible refine Sy.x_dpop1 ?_ | with_reducible refine Sy.x_dget2 ?_ | with_reducible refine Sy.x_dget1 ?_ | with_reducible refine Sy.x_forR ?_ | with_reducible refine Sy.x_forL ?_ | with_reducible refine Sy.x_lcL ?_ | with_reducible refine Sy.x_lcR ?_ | with_reducible refine Sy.x_yes ?_ | with_reducible refine Sy.k_isiII ?_ | with_reducible refine Sy.k_isiIB ?_ | with_reducible refine Sy.k_isiBI ?_ | with_reducible refine Sy.k_isiBB ?_ | with_reducible refine Sy.x_par ?_ | with_reducible refine Sy.k_par ?_ | with_reducible refine Sy.k_neDNN ?_ | with_reducible refine Sy.k_eqDNN ?_ | with_reducible refine Sy.x_cfn ?_ | with_reducible refine Sy.k_cfn0 ?_ | with_reducible refine Sy.x_dpopT ?_ | with_reducible refine Sy.x_makeN ?_ | with_reducible refine Sy.x_par3 ?_ | with_reducible refine Sy.k_par3 ?_ | with_reducible refine Sy.k_isB ?_ | with_reducible refine Sy.k_notB ?_ | with_reducible refine Sy.x_listVals ?_ | with_reducible refine Sy.x_revL ?_ | with_reducible refine Sy.x_raise ?_ | with_reducible refine Sy.x_tryK ?_ | with_reducible refine Sy.x_callS ?_ | with_reducible refine Sy.x_methS ?_ | with_reducible refine Sy.x_sset (fun _ => ?_))
local macro_rules | `(tactic| walk_at "st2") => `(tactic| first | ((with_reducible refine' Sy.x_var ?h ?q); (case h => rfl)) | ((with_reducible refine' Sy.k_fld ?hp ?hc ?hn ?hl ?q); (case hp => walk_at "hp"); (case hc => assumption); (case hn => assumption); (case hl => walk_at "fl")) | ((with_reducible refine' Sy.k_meth0 ?hp ?hl ?q); (case hp => walk_at "hp"); (case hl => walk_at "fl")) | ((with_reducible refine' Sy.k_meth ?hp ?hl ?q); (case hp => walk_at "hp"); (case hl => walk_at "fl")) | ((with_reducible refine' Sy.k_ixL ?hp ?hi ?q); (case hp => walk_at "hp"); (case hi => walk_at "ix")) | ((with_reducible refine' Sy.k_ixT ?hp ?hi ?q); (case hp => walk_at "hp"); (case hi => walk_at "ix")) | ((with_reducible refine' Sy.k_tyL ?hp ?q); (case hp => walk_at "hp")) | ((with_reducible refine' Sy.k_lenL ?hp ?q); (case hp => walk_at "hp")) | ((with_reducible refine' Sy.k_lenT ?hp ?q); (case hp => walk_at "hp")) | ((with_reducible refine' Sy.k_lenK ?hp ?q); (case hp => walk_at "hp")) | ((with_reducible refine' Sy.k_isiLL ?hp ?q); (case hp => walk_at "hp")) | ((with_reducible refine' Sy.k_isiTT ?hp ?q); (case hp => walk_at "hp")) | ((with_reducible refine' Sy.k_all ?hp ?q); (case hp => walk_at "hp")) | ((with_reducible refine' Sy.k_sum ?hp ?q); (case hp => walk_at "hp")) | ((with_reducible refine' Sy.k_isD ?hp ?q); (case hp => walk_at "hp")) | ((with_reducible refine' Sy.k_isDT ?hp ?q); (case hp => walk_at "hp")) | ((with_reducible refine' Sy.k_din ?hp ?q); (case hp => walk_at "hp")) | ((with_reducible refine' Sy.k_dnot ?hp ?q); (case hp => walk_at "hp")) | ((with_reducible refine' Sy.k_dget2 ?hp ?q); (case hp => walk_at "hp")) | ((with_reducible refine' Sy.k_dget1 ?hp ?q); (case hp => walk_at "hp")) | ((with_reducible refine' Sy.k_dinP ?hp ?hb ?q); (case hp => walk_at "hp"); (case hb => walk_at "hp")) | ((with_reducible refine' Sy.k_dnotP ?hp ?hb ?q); (case hp => walk_at "hp"); (case hb => walk_at "hp")) | ((with_reducible refine' Sy.k_dget2P ?hp ?hb ?q); (case hp => walk_at "hp"); (case hb => walk_at "hp")) | ((with_reducible refine' Sy.k_dget ?hp ?hv ?q); (case hp => walk_at "hp"); (case hv => walk_at "ix")) | ((with_reducible refine' Sy.k_dgetF ?hp ?hv ?q); (case hp => walk_at "hp"); (case hv => walk_at "ix")) | ((with_reducible refine' Sy.k_dgetP ?hp ?hb ?hv ?q); (case hp => walk_at "hp"); (case hb => walk_at "hp"); (case hv => walk_at "ix")) | ((with_reducible refine' Sy.k_mulI ?h ?q); (case h => walk_at "cn")) | ((with_reducible refine' Sy.k_divI ?h ?q); (case h => walk_at "cn")) | ((with_reducible refine' Sy.k_modI ?h ?q); (case h => walk_at "cn")) | ((with_reducible refine' Sy.k_powI ?h ?q); (case h => walk_at "cn")) | ((with_reducible refine' Sy.x_gtup ?hp ?hl ?q); (case hp => walk_at "hp"); (case hl => rfl)) | ((with_reducible refine' Sy.k_inIt ?hp ?q); (case hp => walk_at "hp")) | ((with_reducible refine' Sy.k_inIf ?hp ?q); (case hp => walk_at "hp")) | ((with_reducible refine' Sy.k_eqLN ?hp ?hq ?q); (case hp => walk_at "hp"); (case hq => walk_at "hp")) | ((with_reducible refine' Sy.k_neLN ?hp ?hq ?q); (case hp => walk_at "hp"); (case hq => walk_at "hp")) | ((with_reducible refine' Sy.k_eqLI ?hp ?hq ?q); (case hp => walk_at "hp"); (case hq => walk_at "hp")) | ((with_reducible refine' Sy.k_neLI ?hp ?hq ?q); (case hp => walk_at "hp"); (case hq => walk_at "hp")) | ((with_reducible refine' Sy.k_cnt ?hp ?q); (case hp => walk_at "hp")) | ((with_reducible refine' Sy.k_lenO ?hp ?q); (case hp => walk_at "hp")) | ((with_reducible refine' Sy.k_methS ?hp ?hl ?q); (case hp => walk_at "hp"); (case hl => walk_at "fl")) | ((with_reducible refine' Sy.k_isKR ?hp ?hC ?hk ?q); (case hp => walk_at "hp"); (case hC => assumption); (case hk => assumption)) | ((with_reducible refine' Sy.k_isKT ?hp ?hC ?hk ?q); (case hp => walk_at "hp"); (case hC => assumption); (case hk => assumption)) | ((with_reducible refine' Sy.x_glst ?hp ?hl ?q); (case hp => walk_at "hp"); (case hl => rfl)) | ((with_reducible refine' Sy.k_dgetFP ?hp ?hb ?hv ?q); (case hp => walk_at "hp"); (case hb => walk_at "hp"); (case hv => walk_at "ix")))
local macro_rules | `(tactic| walk_at "st3") => `(tactic| first | ((with_reducible refine' Sy.k_rem ?hp ?hk ?hh ?q); (case hp => walk_at "hp"); (case hk => assumption); (case hh => walk_at "hs"); intro _ _) | ((with_reducible refine' Sy.k_dpopT ?hp ?hb ?hv ?hh ?q); (case hp => walk_at "hp"); (case hb => walk_at "hp"); (case hv => walk_at "ix"); (case hh => walk_at "hs"); intro _ _) | ((with_reducible refine' Sy.k_sset ?hh ?hp ?hl ?q); (case hh => assumption); (case hp => walk_at "hp"); (case hl => first | assumption | omega | walk_at "sz"); intro _ _ _ _ _ _) | ((with_reducible refine' Sy.k_lst ?hh ?hl ?q); (case hh => assumption); (case hl => walk_at "sz"); intro _ _ _) | ((with_reducible refine' Sy.k_make0 ?hh ?q); (case hh => assumption); intro _ _ _ _) | ((with_reducible refine' Sy.k_listVals ?hh ?hp ?q); (case hh => assumption); (case hp => walk_at "hp"); intro _ _ _) | ((with_reducible refine' Sy.x_disp1 ?hh ?q); (case hh => assumption); intro _ _ _) | ((with_reducible refine' Sy.k_disp ?hp ?hh ?q); (case hp => walk_at "hp"); (case hh => walk_at "hs"); intro _ _) | ((with_reducible refine' Sy.k_revL ?hh ?hp ?q); (case hh => assumption); (case hp => walk_at "hp"); intro _ _ _) | ((with_reducible refine' Sy.k_setD ?hp ?hl ?hh ?q); (case hp => walk_at "hp"); (case hl => walk_at "sz"); (case hh => walk_at "hs"); intro _ _) | ((with_reducible refine' Sy.k_make ?hh ?q); (case hh => assumption); intro _ _ _ _) | ((with_reducible refine' Sy.k_makeN ?hh ?hn ?hm ?q); (case hh => assumption); (case hn => rfl); (case hm => rfl); intro _ _ _ _) | ((with_reducible refine' Sy.k_tupN ?hh ?hl ?q); (case hh => assumption); (case hl => walk_at "sz"); intro _ _ _) | ((with_reducible refine' Sy.k_setL ?hp ?hk ?hh ?q); (case hp => walk_at "hp"); (case hk => walk_at "ix"); (case hh => walk_at "hs"); intro _ _) | ((with_reducible refine' Sy.k_app ?hp ?hl ?hh ?q); (case hp => walk_at "hp"); (case hl => walk_at "sz"); (case hh => walk_at "hs"); intro _ _) | ((with_reducible refine' Sy.k_add ?hp ?hl ?hh ?q); (case hp => walk_at "hp"); (case hl => walk_at "sz"); (case hh => walk_at "hs"); intro _ _) | ((with_reducible refine' Sy.k_pop ?hp ?hl ?hh ?q); (case hp => walk_at "hp"); (case hl => walk_at "ix"); (case hh => walk_at "hs"); intro _ _) | ((with_reducible refine' Sy.k_sfld ?hp ?hc ?hn ?hl ?he ?hh ?q); (case hp => walk_at "hp"); (case hc => assumption); (case hn => assumption); (case hl => walk_at "fsl"); (case he => walk_at "put"); (case hh => walk_at "hs"); intro _ _) | ((with_reducible refine' Sy.k_cat ?hh ?hp ?hq ?hl ?q); (case hh => assumption); (case hp => walk_at "hp"); (case hq => walk_at "hp"); (case hl => walk_at "sz"); intro _ _ _) | ((with_reducible refine' Sy.k_rep ?hh ?hp ?h0 ?h1 ?q); (case hh => assumption); (case hp => walk_at "hp"); (case h0 => omega); (case h1 => omega); intro _ _ _) | ((with_reducible refine' Sy.k_lstRg ?hh ?h0 ?h1 ?q); (case hh => assumption); (case h0 => omega); (case h1 => omega); intro _ _ _) | ((with_reducible refine' Sy.x_dnewK ?hh ?q); (case hh => assumption); intro _ _ _) | ((with_reducible refine' Sy.x_dnewT ?hh ?q); (case hh => assumption); intro _ _ _) | ((with_reducible refine' Sy.k_dput ?hp ?hl ?hh ?q); (case hp => walk_at "hp"); (case hl => walk_at "sz"); (case hh => walk_at "hs"); intro _ _) | ((with_reducible refine' Sy.k_dputP ?hp ?hb ?hl ?hh ?q); (case hp => walk_at "hp"); (case hb => walk_at "hp"); (case hl => walk_at "sz"); (case hh => walk_at "hs"); intro _ _) | ((with_reducible refine' Sy.k_dpop1 ?hp ?hv ?hh ?q); (case hp => walk_at "hp"); (case hv => walk_at "ix"); (case hh => walk_at "hs"); intro _ _) | ((with_reducible refine' Sy.k_listOf ?hh ?hp ?q); (case hh => assumption); (case hp => walk_at "hp"); intro _ _ _) | ((with_reducible refine' Sy.k_sortI ?hh ?hp ?q); (case hh => assumption); (case hp => walk_at "hp"); intro _ _ _ _ _ _) | ((with_reducible refine' Sy.k_sortD ?hh ?hp ?hl ?q); (case hh => assumption); (case hp => walk_at "hp"); (case hl => first | assumption | omega | walk_at "sz"); intro _ _ _ _ _ _))
local macro_rules | `(tactic| walk_at "go1") => `(tactic| first | walk_at "st1" | walk_at "st2" | walk_at "st3")
local macro_rules | `(tactic| walk_at "go") => `(tactic| repeat walk_at "go1")
namespace La
open PySem L2 Sy
def t_is_whole (K : PySem.W.Frag) : TS :=
  tRet (tAndV (tCB (rIsi K) (tCons (tVar 0) (tCons (tC (.ty "int")) (tNil)))) (tAndV (tNotV (tCB (rIsi K) (tCons (tVar 0) (tCons (tC (.ty "bool")) (tNil))))) (tChain rLeI rLeI (tVar 1) (tVar 0) (tVar 2))))
def t_look_number (K : PySem.W.Frag) (sp_is_whole : Sp) : TS :=
  tIfS (tNot (tB (tCall sp_is_whole [] E0 (tCons (tVar 0) (tCons (tVar 1) (tCons (tVar 2) (tNil))))))) (tNever) (tNext)
def t_Store_init (K : PySem.W.Frag) (sp_look_number : Sp) : TS :=
  tSeq (tDrop (tCall sp_look_number [] E0 (tCons (tVar 1) (tCons (tC (.int 1)) (tCons (tC (.int 6)) (tNil))))))
    (tSeq (tDrop (tCall sp_look_number [] E0 (tCons (tVar 2) (tCons (tC (.int 1)) (tCons (tC (.int 5)) (tNil))))))
    (tSeq (sFld K (tVar 0) (tVar 1) "hands")
    (tSeq (sFld K (tVar 0) (tCB (rDictP K) (tCons (tLc (iRng1 (tCons (tVar 2) (tNil))) (gName 3) tYes (tTup (tCons (tVar 3) (tCons (tC (.int 0)) (tNil)))) [3]) (tNil))) "worth")
    (tSeq (sFld K (tVar 0) (tLstRg (tRg1 (tVar 2))) "cells")
    (sFld K (tVar 0) (tVar 2) "made")))))
def t_Store_look_cell (K : PySem.W.Frag) (sp_is_whole : Sp) : TS :=
  tIfS (tNot (tB (tCall sp_is_whole [] E0 (tCons (tVar 1) (tCons (tC (.int 0)) (tCons (tOp rSubI (tCB (rLenQ K) (tCons (tFld K (tVar 0) "cells") (tNil))) (tC (.int 1))) (tNil))))))) (tNever) (tNext)
def t_Store_after_swap (K : PySem.W.Frag) : TS :=
  tRet (tC .non)
def t_Store_swap (K : PySem.W.Frag) (C_Store : Addr) (sp_Store__Store_look_cell sp_look_number sp_Store__Store_after_swap : Sp) : TS :=
  tSeq (tDrop (tMeth C_Store "look_cell" sp_Store__Store_look_cell [] E0 (tVar 0) (tCons (tVar 1) (tNil))))
    (tSeq (tDrop (tCall sp_look_number [] E0 (tCons (tVar 2) (tCons (tC (.int 0)) (tCons (tC (.int 999)) (tNil))))))
    (tSeq (tAsg (tOp (rIxL K) (tFld K (tVar 0) "cells") (tVar 1)) (gName 3))
    (tSeq (sDPut (tFld K (tVar 0) "worth") (tFld K (tVar 0) "made") (tVar 2))
    (tSeq (tAsg (tFld K (tVar 0) "made") (gSub (tFld K (tVar 0) "cells") (tVar 1) rSetL))
    (tSeq (sFld K (tVar 0) (tOp rAddI (tFld K (tVar 0) "made") (tC (.int 1))) "made")
    (tSeq (tDrop (tMeth C_Store "after_swap" sp_Store__Store_after_swap [] E0 (tVar 0) (tCons (tVar 3) (tNil))))
    (tRet (tVar 3))))))))
def t_Store_now (K : PySem.W.Frag) : TS :=
  tRet (tLc (iList K (tFld K (tVar 0) "cells")) (gName 1) tYes (tDGet (tFld K (tVar 0) "worth") (tVar 1)) [1])
def t_Store_kept (K : PySem.W.Frag) : TS :=
  tRet (tCB rSortD (tCons (tFld K (tVar 0) "worth") (tNil)))
def t__law_town (K : PySem.W.Frag) : TS :=
  tRet (tLst (tCons (tIf (tTest (tOp (rNeD K) (tVar 0) (tLst (tNil)))) (tCB (rListOf K) (tCons (tVar 0) (tNil))) (tLst (tCons (tC (.int 0)) (tNil)))) (tCons (tC (.int 0)) (tNil))))
def t__law_draw (K : PySem.W.Frag) : TS :=
  tSeq (tAsg (tOp (rIxL K) (tVar 0) (tC (.int 0))) (gName 2))
    (tSeq (tAsg (tOp rAddI (tOp (rIxL K) (tVar 0) (tC (.int 1))) (tC (.int 1))) (gSub (tVar 0) (tC (.int 1)) rSetL))
    (tSeq (tAsg (tOp rModI (tOp (rIxL K) (tVar 0) (tC (.int 1))) (tCB (rLenQ K) (tCons (tVar 2) (tNil)))) (gName 3))
    (tSeq (tAsg (tOp (rIxL K) (tVar 2) (tVar 3)) (gName 4))
    (tSeq (tIfS (tTest (tOp rGeI (tVar 4) (tC (.int 1000000000000000000)))) (tSeq (tAsg (tOp rDivI (tVar 4) (tVar 1)) (gSub (tVar 2) (tVar 3) rSetL))
    (tRet (tOp rModI (tVar 4) (tVar 1)))) (tNext))
    (tSeq (tAsg (tOp rModI (tOp rAddI (tVar 4) (tOp rMulI (tC (.int 104729)) (tOp (rIxL K) (tVar 0) (tC (.int 1))))) (tC (.int 4294967291))) (gName 5))
    (tSeq (tAsg (tOp rModI (tOp rPowI (tVar 5) (tC (.int 5))) (tC (.int 4294967279))) (gName 5))
    (tRet (tOp rModI (tOp rDivI (tOp rModI (tOp rAddI (tOp rMulI (tOp rDivI (tVar 5) (tC (.int 64))) (tC (.int 69621))) (tVar 5)) (tC (.int 4294967231))) (tC (.int 8))) (tVar 1)))))))))
def t__law_pick (K : PySem.W.Frag) (sp__law_draw : Sp) : TS :=
  tRet (tOp (rIxL K) (tVar 1) (tCall sp__law_draw [] E0 (tCons (tVar 0) (tCons (tCB (rLenQ K) (tCons (tVar 1) (tNil))) (tNil)))))
def t__law_whole (K : PySem.W.Frag) : TS :=
  tRet (tAndV (tCB (rIsi K) (tCons (tVar 0) (tCons (tC (.ty "int")) (tNil)))) (tNotV (tCB (rIsi K) (tCons (tVar 0) (tCons (tC (.ty "bool")) (tNil))))))
def t__law_whole_list (K : PySem.W.Frag) (sp__law_whole : Sp) : TS :=
  tRet (tAndV (tCB (rIsi K) (tCons (tVar 0) (tCons (tC (.ty "list")) (tNil)))) (tCB (rAll K) (tCons (tLc (iList K (tVar 0)) (gName 1) tYes (tCall sp__law_whole [] E0 (tCons (tVar 1) (tNil))) [1]) (tNil))))
def t__law_value (K : PySem.W.Frag) (sp__law_pick sp__law_draw : Sp) : TS :=
  tRet (tCall sp__law_pick [] E0 (tCons (tVar 0) (tCons (tLst (tCons (tC (.int 0)) (tCons (tC (.int 999)) (tCons (tCall sp__law_draw [] E0 (tCons (tVar 0) (tCons (tC (.int 1000)) (tNil)))) (tCons (tCall sp__law_draw [] E0 (tCons (tVar 0) (tCons (tC (.int 5)) (tNil)))) (tNil)))))) (tNil))))
def t__law_things (K : PySem.W.Frag) : TS :=
  tRet (tLst (tCons (tLstRg (tRg1 (tVar 0))) (tCons (tOp rRep (tLst (tCons (tC (.int 0)) (tNil))) (tVar 0)) (tCons (tLstRg (tRg1 (tVar 0))) (tNil)))))
def t__law_swap (K : PySem.W.Frag) (C_Store : Addr) (sp__law_draw sp__law_value sp_Store__Store_swap : Sp) : TS :=
  tSeq (tAsg (tCall sp__law_draw [] E0 (tCons (tVar 0) (tCons (tCB (rLenQ K) (tCons (tOp (rIxL K) (tVar 2) (tC (.int 0))) (tNil))) (tNil)))) (gName 3))
    (tSeq (tAsg (tCall sp__law_value [] E0 (tCons (tVar 0) (tNil))) (gName 4))
    (tSeq (tAsg (tOp (rIxL K) (tOp (rIxL K) (tVar 2) (tC (.int 0))) (tVar 3)) (gName 5))
    (tSeq (tAsg (tCB (rLenQ K) (tCons (tOp (rIxL K) (tVar 2) (tC (.int 1))) (tNil))) (gSub (tOp (rIxL K) (tVar 2) (tC (.int 0))) (tVar 3) rSetL))
    (tSeq (tDrop (tBM K "list" rAppend (tOp (rIxL K) (tVar 2) (tC (.int 2))) (tCons (tCB (rLenQ K) (tCons (tOp (rIxL K) (tVar 2) (tC (.int 1))) (tNil))) (tNil))))
    (tSeq (tDrop (tBM K "list" rAppend (tOp (rIxL K) (tVar 2) (tC (.int 1))) (tCons (tVar 4) (tNil))))
    (tRet (tIf (tTest (tOp rEq (tMeth C_Store "swap" sp_Store__Store_swap [] E0 (tVar 1) (tCons (tVar 3) (tCons (tVar 4) (tNil)))) (tVar 5))) (tVar 5) (tC .non))))))))
def t__law_fits (K : PySem.W.Frag) (C_Store : Addr) (sp_Store__Store_now sp_Store__Store_kept sp__law_whole_list : Sp) : TS :=
  tSeq (tIfS (tTest (tOp (rNeD K) (tMeth C_Store "now" sp_Store__Store_now [] E0 (tVar 0) tNil) (tLc (iList K (tOp (rIxL K) (tVar 1) (tC (.int 0)))) (gName 2) tYes (tOp (rIxL K) (tOp (rIxL K) (tVar 1) (tC (.int 1))) (tVar 2)) [2]))) (tRet (tC (.bl false))) (tNext))
    (tRet (tAndV (tOp (rEqD K) (tMeth C_Store "kept" sp_Store__Store_kept [] E0 (tVar 0) tNil) (tCB (rSortedI K) (tCons (tOp (rIxL K) (tVar 1) (tC (.int 2))) (tNil)))) (tCall sp__law_whole_list [] E0 (tCons (tMeth C_Store "kept" sp_Store__Store_kept [] E0 (tVar 0) tNil) (tNil)))))
def t_Store_look_hand (K : PySem.W.Frag) (sp_is_whole : Sp) : TS :=
  tIfS (tNot (tB (tCall sp_is_whole [] E0 (tCons (tVar 1) (tCons (tC (.int 0)) (tCons (tOp rSubI (tFld K (tVar 0) "hands") (tC (.int 1))) (tNil))))))) (tNever) (tNext)
def t_Store_is_out (K : PySem.W.Frag) : TS :=
  tRet (tOp (rIn K true) (tVar 1) (tFld K (tVar 0) "cells"))
def t_Store_let_go (K : PySem.W.Frag) : TS :=
  tSeq (tFor (iList K (tVar 1)) (gName 2) (tDrop (tDPop1 (tFld K (tVar 0) "worth") (tVar 2))))
    (tRet (tCB (rSortedI K) (tCons (tVar 1) (tNil))))
def t_Store_value_of (K : PySem.W.Frag) : TS :=
  tSeq (tIfS (tB (tDNotIn (tVar 1) (tFld K (tVar 0) "worth"))) (tNever) (tNext))
    (tRet (tDGet (tFld K (tVar 0) "worth") (tVar 1)))
def t_Rounds_init (K : PySem.W.Frag) (C_Store : Addr) (sp_Rounds__Store_init : Sp) : TS :=
  tSeq (tDrop (tCFn C_Store sp_Rounds__Store_init [] E0 (tC (.ref C_Store)) (tCons (tVar 0) (tCons (tVar 1) (tCons (tVar 2) (tNil))))))
    (tSeq (sFld K (tVar 0) (tC (.int 0)) "era")
    (tSeq (sFld K (tVar 0) (tDNewK) "inside")
    (tSeq (sFld K (tVar 0) (tDNewK) "saw")
    (sFld K (tVar 0) (tDNewK) "waits"))))
def t_Rounds_look_in (K : PySem.W.Frag) (C_Rounds : Addr) (sp_Rounds__Store_look_hand : Sp) : TS :=
  tSeq (tDrop (tMeth C_Rounds "look_hand" sp_Rounds__Store_look_hand [] E0 (tVar 0) (tCons (tVar 1) (tNil))))
    (tIfS (tB (tDNotIn (tVar 1) (tFld K (tVar 0) "inside"))) (tNever) (tNext))
def t_Rounds_read (K : PySem.W.Frag) (C_Rounds : Addr) (sp_Rounds__Rounds_look_in sp_Rounds__Store_value_of : Sp) : TS :=
  tSeq (tDrop (tMeth C_Rounds "look_in" sp_Rounds__Rounds_look_in [] E0 (tVar 0) (tCons (tVar 1) (tNil))))
    (tSeq (tIfS (tOr (tB (tCB (rIsi K) (tCons (tVar 2) (tCons (tC (.ty "bool")) (tNil))))) (tTest (tOp (rIn K true) (tVar 2) (tDGet (tFld K (tVar 0) "saw") (tVar 1))))) (tNever) (tNext))
    (tRet (tMeth C_Rounds "value_of" sp_Rounds__Store_value_of [] E0 (tVar 0) (tCons (tVar 2) (tNil)))))
def t_Rounds_after_swap (K : PySem.W.Frag) : TS :=
  sDPut (tFld K (tVar 0) "waits") (tVar 1) (tFld K (tVar 0) "era")
def t_Rounds_enter (K : PySem.W.Frag) (C_Rounds : Addr) (sp_Rounds__Store_look_hand : Sp) : TS :=
  tSeq (tDrop (tMeth C_Rounds "look_hand" sp_Rounds__Store_look_hand [] E0 (tVar 0) (tCons (tVar 1) (tNil))))
    (tSeq (tIfS (tB (tDIn (tVar 1) (tFld K (tVar 0) "inside"))) (tNever) (tNext))
    (tSeq (sDPut (tFld K (tVar 0) "inside") (tVar 1) (tFld K (tVar 0) "era"))
    (tSeq (sDPut (tFld K (tVar 0) "saw") (tVar 1) (tLst (tNil)))
    (tRet (tFld K (tVar 0) "era")))))
def t_Rounds_leave (K : PySem.W.Frag) (C_Rounds : Addr) (sp_Rounds__Rounds_look_in : Sp) : TS :=
  tSeq (tDrop (tMeth C_Rounds "look_in" sp_Rounds__Rounds_look_in [] E0 (tVar 0) (tCons (tVar 1) (tNil))))
    (tSeq (tDrop (tDPop1 (tFld K (tVar 0) "inside") (tVar 1)))
    (tDrop (tDPop1 (tFld K (tVar 0) "saw") (tVar 1))))
def t_Rounds_look (K : PySem.W.Frag) (C_Rounds : Addr) (sp_Rounds__Rounds_look_in sp_Rounds__Store_look_cell : Sp) : TS :=
  tSeq (tDrop (tMeth C_Rounds "look_in" sp_Rounds__Rounds_look_in [] E0 (tVar 0) (tCons (tVar 1) (tNil))))
    (tSeq (tDrop (tMeth C_Rounds "look_cell" sp_Rounds__Store_look_cell [] E0 (tVar 0) (tCons (tVar 2) (tNil))))
    (tSeq (tDrop (tBM K "list" rAppend (tDGet (tFld K (tVar 0) "saw") (tVar 1)) (tCons (tOp (rIxL K) (tFld K (tVar 0) "cells") (tVar 2)) (tNil))))
    (tRet (tOp (rIxL K) (tFld K (tVar 0) "cells") (tVar 2)))))
def t_Rounds_go_on (K : PySem.W.Frag) (C_Rounds : Addr) (sp_Rounds__Store_let_go : Sp) : TS :=
  tSeq (tIfS (tNot (tB (tCB (rAll K) (tCons (tLockE (tLc (iKeys (tFld K (tVar 0) "inside")) (gName 1) tYes (tOp rEq (tDGet (tFld K (tVar 0) "inside") (tVar 1)) (tFld K (tVar 0) "era")) [1])) (tNil))))) (tRet (tC .non)) (tNext))
    (tSeq (sFld K (tVar 0) (tOp rAddI (tFld K (tVar 0) "era") (tC (.int 1))) "era")
    (tSeq (tLock (tAsg (tLc (iKeys (tFld K (tVar 0) "waits")) (gName 3) (tTest (tOp rLeI (tDGet (tFld K (tVar 0) "waits") (tVar 3)) (tOp rSubI (tFld K (tVar 0) "era") (tC (.int 2))))) (tVar 3) [3]) (gName 2)))
    (tSeq (tFor (iList K (tVar 2)) (gName 3) (tDrop (tDPop1 (tFld K (tVar 0) "waits") (tVar 3))))
    (tRet (tMeth C_Rounds "let_go" sp_Rounds__Store_let_go [] E0 (tVar 0) (tCons (tVar 2) (tNil)))))))
def t__law_read (K : PySem.W.Frag) (C_Rounds : Addr) (sp_Rounds__Rounds_read : Sp) : TS :=
  tSeq (tAsg (tC .non) (gName 3))
    (tSeq (tAsg (tC .non) (gName 4))
    (tSeq (tAsg (tMeth C_Rounds "read" sp_Rounds__Rounds_read [] E0 (tVar 0) (tCons (tVar 1) (tCons (tVar 2) (tNil)))) (gName 3))
    (tRet (tIf (tTest (tOp rIsNo (tVar 4) (tC .non))) (tVar 3) (tC .non)))))
def t_Rounds_round_now (K : PySem.W.Frag) : TS :=
  tRet (tFld K (tVar 0) "era")
def t_Rounds_hands_in (K : PySem.W.Frag) : TS :=
  tRet (tCB rSortD (tCons (tFld K (tVar 0) "inside") (tNil)))
def t__law_gone (K : PySem.W.Frag) : TS :=
  tAsg (tLc (iList K (tOp (rIxL K) (tVar 0) (tC (.int 2)))) (gName 2) (tTest (tOp (rIn K true) (tVar 2) (tVar 1))) (tVar 2) [2]) (gSub (tVar 0) (tC (.int 2)) rSetL)
def t__law_is (K : PySem.W.Frag) : TS :=
  tRet (tAndV (tCB (rIsi K) (tCons (tVar 0) (tCons (tC (.ty "bool")) (tNil)))) (tOp rEq (tVar 0) (tVar 1)))
end La
namespace La
open PySem L2 Sy
/-! ### numbers -/
def sp_is_whole : Sp := fun vs H Q _ => ∃ x lo hi : Int, vs = [.int x, .int lo, .int hi] ∧ Q (.bl (decide (lo ≤ x ∧ x ≤ hi))) H
theorem pure_is_whole {K : PySem.W.Frag} {vs : List V} {H : Hp} {Q : VK} {E : XK} (h : sp_is_whole vs H Q E) : t_is_whole K ⟨fun _ H' => Q .non H', Q, fun _ _ => False, fun _ _ => False⟩ (start ["thing", "low", "high"] vs) H := by
  obtain ⟨x, lo, hi, rfl, q⟩ := h
  unfold t_is_whole
  walk_at "go"
  refine ifD (fun h1 => ?_) (fun h1 => ?_)
  · walk_at "go"
    have e : decide (lo ≤ x ∧ x ≤ hi) = decide (x ≤ hi) := by simp [h1]
    rw [e] at q
    exact q
  · have e : decide (lo ≤ x ∧ x ≤ hi) = false := by simp [h1]
    rw [e] at q
    exact q
def sp_look_number : Sp := fun vs H Q _ => ∃ x lo hi : Int, vs = [.int x, .int lo, .int hi] ∧ lo ≤ x ∧ x ≤ hi ∧ Q .non H
theorem pure_look_number {K : PySem.W.Frag} {vs : List V} {H : Hp} {Q : VK} {E : XK} (h : sp_look_number vs H Q E) : t_look_number K sp_is_whole ⟨fun _ H' => Q .non H', Q, fun _ _ => False, fun _ _ => False⟩ (start ["thing", "low", "high"] vs) H := by
  obtain ⟨x, lo, hi, rfl, h1, h2, q⟩ := h
  unfold t_look_number
  walk_at "go"
  refine ⟨x, lo, hi, rfl, ?_⟩
  rw [decide_eq_true ⟨h1, h2⟩]
  walk_at "go"
  exact q
/-! ### the town: the script's numbers, and how many draws were made -/
structure Town where
  r : Addr
  ns : List Int
  n : Int
@[reducible] def townU (t : Addr) (s : Town) : U := [(t, .lst [.ref s.r, .int s.n]), (s.r, .lst (s.ns.map V.int))]
def Town.ok (s : Town) : Prop := 0 < s.ns.length ∧ s.ns.length ≤ 63
theorem at_ints {ns : List Int} {k : Int} (h0 : 0 ≤ k) (h1 : k < ns.length) : atI (ns.map V.int) k = some (.int (ns.getD k.toNat 0)) := by
  obtain ⟨j, rfl⟩ := Int.eq_ofNat_of_zero_le h0
  have hj : j < ns.length := by omega
  refine atI_nat ?_
  rw [List.getElem?_map]
  simp [hj]
theorem ix_ok {n : Nat} {k : Int} (h0 : 0 ≤ k) (h1 : k < n) : ixN n k = some k.toNat := by
  unfold ixN
  rw [if_pos h0, if_pos h1]
theorem map_set_int (ns : List Int) (k : Nat) (z : Int) : (ns.map V.int).set k (.int z) = (ns.set k z).map V.int := by rw [List.map_set]
def sp__law_draw : Sp := fun vs H Q _ => ∃ (t : Addr) (s : Town) (m : Int) (R : List U), vs = [.ref t, .int m] ∧ 0 < m ∧ m ≤ 100000 ∧ s.ok ∧ Has H (townU t s :: R) ∧
  ∀ (d : Int) (s' : Town) (H' : Hp), 0 ≤ d → d < m → s'.ok → Has H' (townU t s' :: R) → Q (.int d) H'
theorem pure__law_draw {K : PySem.W.Frag} {vs : List V} {H : Hp} {Q : VK} {E : XK} (h : sp__law_draw vs H Q E) : t__law_draw K ⟨fun _ H' => Q .non H', Q, fun _ _ => False, fun _ _ => False⟩ (start ["town", "many", "row", "at", "cell", "mixed"] vs) H := by
  obtain ⟨t, ⟨r, ns, n⟩, m, R, rfl, m0, m1, ⟨l0, l1⟩, hh, q⟩ := h
  replace hh := hh.cut
  have l0' : 0 < ns.length := l0
  have hl : ((ns.map V.int).length : Int) = ns.length := by rw [List.length_map]
  have k0 : 0 ≤ (n + 1) % ((ns.map V.int).length : Int) := Int.emod_nonneg _ (by omega)
  have k1 : (n + 1) % ((ns.map V.int).length : Int) < ns.length := by rw [hl]; exact Int.emod_lt_of_pos _ (by omega)
  have ea := at_ints k0 k1
  have ex : ixN (ns.map V.int).length ((n + 1) % ((ns.map V.int).length : Int)) = some ((n + 1) % ((ns.map V.int).length : Int)).toNat := ix_ok k0 (by omega)
  have lz : (0 : Int) < ((ns.map V.int).length : Int) := by omega
  unfold t__law_draw
  walk_at "go"
  refine ifD (fun hb => ?_) (fun hb => ?_)
  · walk_at "go"
    rename_i H1 h1 H2 h2
    rw [map_set_int] at h2
    exact q _ ⟨r, ns.set _ _, n + 1⟩ _ (Int.emod_nonneg _ (by omega)) (Int.emod_lt_of_pos _ m0) ⟨by show 0 < (ns.set _ _).length; rw [List.length_set]; exact l0, by show (ns.set _ _).length ≤ 63; rw [List.length_set]; exact l1⟩ h2.glue
  · walk_at "go"
    rename_i H1 h1
    exact q _ ⟨r, ns, n + 1⟩ _ (Int.emod_nonneg _ (by omega)) (Int.emod_lt_of_pos _ m0) ⟨l0, l1⟩ h1.glue
/-- a draw, as the caller uses it -/
theorem use_draw {H : Hp} {Q : VK} {E : XK} {L R : List U} {t : Addr} {s : Town} {m : Int} (hh : Has H L) (hs : Sub (townU t s :: R) L) (ok : s.ok) (m0 : 0 < m) (m1 : m ≤ 100000)
    (q : ∀ (d : Int) (s' : Town) (H' : Hp), 0 ≤ d → d < m → s'.ok → Has H' (townU t s' :: R) → Q (.int d) H') : sp__law_draw [.ref t, .int m] H Q E := ⟨t, s, m, R, rfl, m0, m1, ok, hh.sub hs, q⟩
/-! ### the script -/
/-- the script's list, as it stands in any heap that has the unit u -/
def Scr (K : PySem.W.Frag) (a : Addr) (xs : List V) (u : U) : Prop := ∀ H L, Has H (u :: L) → SqL K H a xs
theorem scr_of {K : PySem.W.Frag} {H : Hp} {a : Addr} {xs : List V} (h : SqL K H a xs) : ∃ u, Has H [u] ∧ Scr K a xs u := by
  rcases h with (h | ⟨o, h⟩) | h
  · exact ⟨[(a, .lst xs)], ⟨by simp, fun p hp => by simp at hp; subst hp; exact h⟩, fun H' L hh => .inl (.inl hh.g0)⟩
  · exact ⟨[(a, .frz o (.lst xs))], ⟨by simp, fun p hp => by simp at hp; subst hp; exact h⟩, fun H' L hh => .inl (.inr ⟨o, hh.g0⟩)⟩
  · exact ⟨[], Has.nilU.mpr Has.nil, fun H' L hh => .inr h⟩
def sp__law_town (K : PySem.W.Frag) : Sp := fun vs H Q _ => ∃ (a : Addr) (ns : List Int), vs = [.ref a] ∧ SqL K H a (ns.map V.int) ∧ ns.length ≤ 63 ∧
  ∀ (t : Addr) (s : Town) (H' : Hp), s.ok → Has H' [townU t s] → Q (.ref t) H'
theorem pure__law_town {K : PySem.W.Frag} {vs : List V} {H : Hp} {Q : VK} {E : XK} (h : sp__law_town K vs H Q E) : t__law_town K ⟨fun _ H' => Q .non H', Q, fun _ _ => False, fun _ _ => False⟩ (start ["script"] vs) H := by
  obtain ⟨a, ns, rfl, hs, hl, q⟩ := h
  obtain ⟨u, h0, hu⟩ := scr_of hs
  unfold t__law_town
  walk_at "go"
  rename_i p H1 h1
  have e := eqv_ints ns []
  refine ⟨_, _, .lst (hu H1 _ (by walk_at "has")) (dpAll_ints ns), .lst (SqL.of h1.g0) .nil, shaped_ints ns, by decide +kernel, ?_⟩
  have e : PyData.eqv (.list (ns.map PyData.int)) (.list []) = decide (ns = []) := e
  rw [e]
  walk_at "go"
  refine ifE (fun hn => ?_) (fun hn => ?_)
  · walk_at "go"
    refine k_listOfS h1 (hu H1 _ (by walk_at "has")) fun r H2 h2 => ?_
    walk_at "go"
    rename_i t H3 h3
    refine q t ⟨r, ns, 0⟩ H3 ⟨List.length_pos_iff.mpr hn, hl⟩ (Has.glue ?_)
    walk_at "has"
  · walk_at "go"
    rename_i r H2 h2 t H3 h3
    refine q t ⟨r, [0], 0⟩ H3 ⟨Nat.zero_lt_one, (by show 1 ≤ 63; decide)⟩ (Has.glue ?_)
    walk_at "has"
def sp__law_whole : Sp := fun vs H Q _ => ∃ x : Int, vs = [.int x] ∧ Q (.bl true) H
theorem pure__law_whole {K : PySem.W.Frag} {vs : List V} {H : Hp} {Q : VK} {E : XK} (h : sp__law_whole vs H Q E) : t__law_whole K ⟨fun _ H' => Q .non H', Q, fun _ _ => False, fun _ _ => False⟩ (start ["thing"] vs) H := by
  obtain ⟨x, rfl, q⟩ := h
  unfold t__law_whole
  walk_at "go"
  exact q
def sp__law_pick : Sp := fun vs H Q _ => ∃ (t p : Addr) (s : Town) (xs : List V) (R : List U), vs = [.ref t, .ref p] ∧ Has H (townU t s :: [(p, .lst xs)] :: R) ∧ 0 < xs.length ∧ xs.length ≤ 1000 ∧ s.ok ∧
  ∀ (d : Nat) (v : V) (s' : Town) (H' : Hp), xs[d]? = some v → s'.ok → Has H' (townU t s' :: [(p, .lst xs)] :: R) → Q v H'
theorem pure__law_pick {K : PySem.W.Frag} {vs : List V} {H : Hp} {Q : VK} {E : XK} (h : sp__law_pick vs H Q E) : t__law_pick K sp__law_draw ⟨fun _ H' => Q .non H', Q, fun _ _ => False, fun _ _ => False⟩ (start ["town", "some"] vs) H := by
  obtain ⟨t, p, s, xs, R, rfl, hh, h1, h2, ok, q⟩ := h
  unfold t__law_pick
  walk_at "go"
  refine use_draw hh Sub.rf ok (by omega) (by omega) fun d s' H' d0 d1 ok' hh' => ?_
  have ht : d.toNat < xs.length := by omega
  have e : atI xs d = some xs[d.toNat] := at_n d0 (by simp [ht])
  walk_at "go"
  exact q d.toNat _ s' H' (by simp [ht]) ok' hh'
def sp__law_value : Sp := fun vs H Q _ => ∃ (t : Addr) (s : Town) (R : List U), vs = [.ref t] ∧ s.ok ∧ Has H (townU t s :: R) ∧
  ∀ (d : Int) (s' : Town) (H' : Hp), 0 ≤ d → d ≤ 999 → s'.ok → Has H' (townU t s' :: R) → Q (.int d) H'
theorem pure__law_value {K : PySem.W.Frag} {vs : List V} {H : Hp} {Q : VK} {E : XK} (h : sp__law_value vs H Q E) : t__law_value K sp__law_pick sp__law_draw ⟨fun _ H' => Q .non H', Q, fun _ _ => False, fun _ _ => False⟩ (start ["town"] vs) H := by
  obtain ⟨t, s, R, rfl, ok, hh, q⟩ := h
  unfold t__law_value
  walk_at "go"
  refine use_draw hh Sub.rf ok (by decide) (by decide) fun d s1 H1 d0 d1 ok1 hh1 => ?_
  walk_at "go"
  refine use_draw hh1 Sub.rf ok1 (by decide) (by decide) fun e s2 H2 e0 e1 ok2 hh2 => ?_
  walk_at "go"
  rename_i p H3 hh3
  refine ⟨t, p, s2, _, R, rfl, by walk_at "has", by show 0 < 4; decide, by show 4 ≤ 1000; decide, ok2, fun k v s4 H4 hk ok4 hh4 => ?_⟩
  have hv : ∃ z : Int, v = .int z ∧ 0 ≤ z ∧ z ≤ 999 := by
    match k, hk with
    | 0, hk => exact ⟨0, (Option.some.inj hk).symm, by omega, by omega⟩
    | 1, hk => exact ⟨999, (Option.some.inj hk).symm, by omega, by omega⟩
    | 2, hk => exact ⟨d, (Option.some.inj hk).symm, by omega, by omega⟩
    | 3, hk => exact ⟨e, (Option.some.inj hk).symm, by omega, by omega⟩
  obtain ⟨z, rfl, z0, z1⟩ := hv
  exact q z s4 H4 z0 z1 ok4 (by walk_at "has")
end La
namespace La
open PySem L2 Sy
/-! ### dicts with whole-number keys, their values typed -/
section
variable {κ β : Type} [DecidableEq κ]
def mv (f : β → V) (m : List (κ × β)) : List (κ × V) := m.map fun q => (q.1, f q.2)
def fd (m : List (κ × β)) (k : κ) : Option β := (m.find? fun q => decide (q.1 = k)).map (·.2)
def rm (m : List (κ × β)) (k : κ) : List (κ × β) := m.filter fun q => decide (q.1 ≠ k)
def pu (m : List (κ × β)) (k : κ) (b : β) : List (κ × β) := if (fd m k).isSome then m.map (fun q => if q.1 = k then (q.1, b) else q) else m ++ [(k, b)]
theorem fd_nil (k : κ) : fd ([] : List (κ × β)) k = none := rfl
theorem fd_pos {p : κ × β} {r : List (κ × β)} {k : κ} (h : p.1 = k) : fd (p :: r) k = some p.2 := by simp [fd, List.find?_cons, h]
theorem fd_neg {p : κ × β} {r : List (κ × β)} {k : κ} (h : ¬ p.1 = k) : fd (p :: r) k = fd r k := by simp [fd, List.find?_cons, h]
theorem fd_none {m : List (κ × β)} {k : κ} : fd m k = none ↔ k ∉ m.map (·.1) := by
  induction m with
  | nil => simp [fd_nil]
  | cons p r ih =>
    by_cases h : p.1 = k
    · rw [fd_pos h]; simp [h]
    · rw [fd_neg h, ih]
      simp only [List.map_cons, List.mem_cons, not_or]
      exact ⟨fun q => ⟨fun e => h e.symm, q⟩, fun q => q.2⟩
theorem fd_isSome {m : List (κ × β)} {k : κ} : (fd m k).isSome = true ↔ k ∈ m.map (·.1) := by
  cases e : fd m k with
  | none => have := fd_none.mp e; simpa using this
  | some b => simp only [Option.isSome_some, true_iff]; exact Classical.byContradiction fun h => by rw [fd_none.mpr h] at e; cases e
theorem fd_mem {m : List (κ × β)} {k : κ} {b : β} (h : fd m k = some b) : (k, b) ∈ m := by
  unfold fd at h
  obtain ⟨q, hq, e⟩ := Option.map_eq_some_iff.mp h
  have h1 := List.mem_of_find?_eq_some hq
  have h2 := List.find?_some hq
  have h3 : q.1 = k := by simpa using h2
  rw [← h3, ← e]
  exact h1
theorem fd_of {m : List (κ × β)} {k : κ} {b : β} (nd : (m.map (·.1)).Nodup) (h : (k, b) ∈ m) : fd m k = some b := by
  induction m with
  | nil => cases h
  | cons p r ih =>
    obtain ⟨n1, n2⟩ := List.nodup_cons.mp (show (p.1 :: r.map (·.1)).Nodup from nd)
    rcases List.mem_cons.mp h with e | h
    · rw [← e, fd_pos rfl]
    · have : ¬ p.1 = k := fun e => n1 (e ▸ List.mem_map.mpr ⟨(k, b), h, rfl⟩)
      rw [fd_neg this]
      exact ih n2 h
theorem fd_split {m : List (κ × β)} {k : κ} {b : β} (h : fd m k = some b) : ∃ A B, m = A ++ (k, b) :: B ∧ k ∉ A.map (·.1) := by
  induction m with
  | nil => cases h
  | cons p r ih =>
    by_cases e : p.1 = k
    · rw [fd_pos e] at h
      cases h
      exact ⟨[], r, by rw [← e]; rfl, by simp⟩
    · rw [fd_neg e] at h
      obtain ⟨A, B, rfl, hk⟩ := ih h
      refine ⟨p :: A, B, rfl, ?_⟩
      simp only [List.map_cons, List.mem_cons, not_or]
      exact ⟨fun q => e q.symm, hk⟩
theorem mv_len (f : β → V) (m : List (κ × β)) : (mv f m).length = m.length := List.length_map ..
theorem mv_keys (f : β → V) (m : List (κ × β)) : (mv f m).map (fun x => x.1) = m.map (·.1) := by unfold mv; rw [List.map_map]; rfl
theorem mv_val (f : β → V) (m : List (κ × β)) (k : κ) : valV (mv f m) k = (fd m k).map f := by
  induction m with
  | nil => rfl
  | cons p r ih =>
    show valV ((p.1, f p.2) :: mv f r) k = _
    by_cases h : p.1 = k
    · rw [valV_pos (p := (p.1, f p.2)) h, fd_pos h]; rfl
    · rw [valV_neg (p := (p.1, f p.2)) h, fd_neg h, ih]
theorem mv_some {f : β → V} {m : List (κ × β)} {k : κ} {b : β} (h : fd m k = some b) : valV (mv f m) k = some (f b) := by rw [mv_val, h]; rfl
theorem mv_isSome (f : β → V) (m : List (κ × β)) (k : κ) : (valV (mv f m) k).isSome = (fd m k).isSome := by rw [mv_val, Option.isSome_map]
theorem mv_drop (f : β → V) (m : List (κ × β)) (k : κ) : dropK (mv f m) k = mv f (rm m k) := by
  unfold dropK mv rm
  rw [List.filter_map]
  rfl
theorem mv_put (f : β → V) (m : List (κ × β)) (k : κ) (b : β) : putK (mv f m) k (f b) = mv f (pu m k b) := by
  unfold putK pu
  rw [valV_any, mv_isSome]
  by_cases h : (fd m k).isSome = true
  · rw [if_pos h, if_pos h]
    unfold mv
    rw [List.map_map, List.map_map]
    refine List.map_congr_left fun q _ => ?_
    show (if q.1 = k then (q.1, f b) else (q.1, f q.2)) = ((if q.1 = k then (q.1, b) else q).1, f (if q.1 = k then (q.1, b) else q).2)
    split <;> rfl
  · rw [if_neg h, if_neg h]
    unfold mv
    rw [List.map_append]
    rfl
theorem pu_new {m : List (κ × β)} {k : κ} (b : β) (h : fd m k = none) : pu m k b = m ++ [(k, b)] := by unfold pu; rw [h]; rfl
theorem pu_keys_old {m : List (κ × β)} {k : κ} (b : β) (h : (fd m k).isSome = true) : (pu m k b).map (·.1) = m.map (·.1) := by
  unfold pu
  rw [if_pos h, List.map_map]
  refine List.map_congr_left fun q _ => ?_
  show (if q.1 = k then (q.1, b) else q).1 = q.1
  split <;> rfl
theorem fd_append {m n : List (κ × β)} {k : κ} : fd (m ++ n) k = (fd m k).or (fd n k) := by
  induction m with
  | nil => simp [fd_nil]
  | cons p r ih =>
    by_cases h : p.1 = k
    · rw [List.cons_append, fd_pos h, fd_pos h]; rfl
    · rw [List.cons_append, fd_neg h, fd_neg h, ih]
theorem fd_pu (m : List (κ × β)) (k j : κ) (b : β) : fd (pu m k b) j = if j = k then some b else fd m j := by
  unfold pu
  by_cases h : (fd m k).isSome = true
  · rw [if_pos h]
    induction m with
    | nil => cases h
    | cons p r ih =>
      rw [List.map_cons]
      by_cases e : p.1 = k
      · rw [if_pos e]
        by_cases ej : j = k
        · rw [fd_pos (p := (p.1, b)) (e.trans ej.symm), if_pos ej]
        · rw [fd_neg (p := (p.1, b)) (fun z => ej (z.symm.trans e)), if_neg ej, fd_neg (fun z => ej (z.symm.trans e))]
          by_cases hr : (fd r k).isSome = true
          · rw [ih hr, if_neg ej]
          · have hk : k ∉ r.map (·.1) := fun z => hr (fd_isSome.mpr z)
            congr 1
            refine List.map_congr_left (g := id) (fun q hq => ?_) |>.trans (List.map_id r)
            have : ¬ q.1 = k := fun z => hk (z ▸ List.mem_map.mpr ⟨q, hq, rfl⟩)
            rw [if_neg this]; rfl
      · rw [if_neg e]
        rw [fd_neg e] at h
        by_cases ep : p.1 = j
        · rw [fd_pos ep, fd_pos ep, if_neg (fun z => e (ep.trans z))]
        · rw [fd_neg ep, fd_neg ep, ih h]
  · rw [if_neg h, fd_append]
    by_cases ej : j = k
    · subst ej
      have hn : fd m j = none := by cases e : fd m j with
        | none => rfl
        | some v => rw [e] at h; exact absurd rfl h
      rw [hn, if_pos rfl, fd_pos rfl]; rfl
    · rw [if_neg ej, fd_neg (p := (k, b)) (fun z => ej z.symm), fd_nil, Option.or_none]
theorem fd_rm (m : List (κ × β)) (k j : κ) : fd (rm m k) j = if j = k then none else fd m j := by
  induction m with
  | nil => simp [rm, fd_nil]
  | cons p r ih =>
    have ih : fd (List.filter (fun q => decide (q.1 ≠ k)) r) j = _ := ih
    unfold rm
    by_cases e : p.1 = k
    · rw [List.filter_cons, if_neg (by simp [e]), ih]
      by_cases ej : j = k
      · rw [if_pos ej, if_pos ej]
      · rw [if_neg ej, if_neg ej, fd_neg (fun z => ej (z.symm.trans e))]
    · rw [List.filter_cons, if_pos (by simp [e])]
      by_cases ep : p.1 = j
      · rw [fd_pos ep, fd_pos ep, if_neg (fun z => e (ep.trans z))]
      · rw [fd_neg ep, fd_neg ep, ih]
theorem rm_len (m : List (κ × β)) (k : κ) : (rm m k).length ≤ m.length := List.length_filter_le _ _
theorem rm_sub (m : List (κ × β)) (k : κ) : (rm m k).Sublist m := List.filter_sublist
theorem rm_nodup {m : List (κ × β)} {k : κ} (h : (m.map (·.1)).Nodup) : ((rm m k).map (·.1)).Nodup := ((rm_sub m k).map _).nodup h
theorem rm_mem {m : List (κ × β)} {k : κ} {q : κ × β} : q ∈ rm m k ↔ q ∈ m ∧ q.1 ≠ k := by unfold rm; rw [List.mem_filter]; simp
theorem nodup_snoc {l : List Int} {k : Int} (h : l.Nodup) (hk : k ∉ l) : (l ++ [k]).Nodup := nd_snoc h hk
/-- several keys taken out -/
def rms (m : List (Int × β)) (ks : List Int) : List (Int × β) := m.filter fun q => decide (q.1 ∉ ks)
theorem rms_nil (m : List (Int × β)) : rms m [] = m := List.filter_eq_self.mpr fun _ _ => by simp
theorem rms_snoc (m : List (Int × β)) (ks : List Int) (k : Int) : rm (rms m ks) k = rms m (ks ++ [k]) := by
  unfold rm rms
  rw [List.filter_filter]
  refine List.filter_congr fun q _ => ?_
  by_cases h1 : q.1 ∈ ks <;> by_cases h2 : q.1 = k <;> simp [h1, h2]
end
/-! ### families of objects by keys -/
def famU {κ β : Type} (obs : β → U) (m : List (κ × β)) : U := m.flatMap fun q => obs q.2
theorem fam_app {κ β : Type} (obs : β → U) (A B : List (κ × β)) : famU obs (A ++ B) = famU obs A ++ famU obs B := by unfold famU; rw [List.flatMap_append]
theorem fam_out {κ β : Type} {obs : β → U} {A B : List (κ × β)} {k : κ} {b : β} {H : Hp} {L : List U} (h : Has H (famU obs (A ++ (k, b) :: B) :: L)) : Has H (obs b :: famU obs A :: famU obs B :: L) := by
  rw [fam_app, show famU obs ((k, b) :: B) = obs b ++ famU obs B from rfl] at h
  exact (Has.op.mp ((Has.op.mp h).sub (show Sub ((_ ++ _) :: famU obs A :: L) _ from Sub.p1 (Sub.p0 Sub.rf)))).sub (Sub.p0 (Sub.p1 (Sub.p0 Sub.rf)))
theorem fam_in {κ β : Type} {obs : β → U} {A B : List (κ × β)} {k : κ} {b : β} {H : Hp} {L : List U} (h : Has H (obs b :: famU obs A :: famU obs B :: L)) : Has H (famU obs (A ++ (k, b) :: B) :: L) := by
  rw [fam_app, show famU obs ((k, b) :: B) = obs b ++ famU obs B from rfl]
  refine Has.op.mpr ?_
  exact (Has.op.mpr (h.sub (show Sub (obs b :: famU obs B :: famU obs A :: L) _ from Sub.p0 (Sub.p1 (Sub.p0 Sub.rf))))).sub (Sub.p1 (Sub.p0 Sub.rf))
theorem fam_two {κ β : Type} {obs : β → U} {A B : List (κ × β)} {H : Hp} {L : List U} (h : Has H (famU obs A :: famU obs B :: L)) : Has H (famU obs (A ++ B) :: L) := by
  rw [fam_app]
  exact Has.op.mpr h
theorem fam_snoc {κ β : Type} {obs : β → U} {A : List (κ × β)} {k : κ} {b : β} {H : Hp} {L : List U} (h : Has H (obs b :: famU obs A :: L)) : Has H (famU obs (A ++ [(k, b)]) :: L) := by
  rw [fam_app, show famU obs [(k, b)] = obs b from List.append_nil _]
  exact Has.op.mpr (h.sub (Sub.p1 (Sub.p0 Sub.rf)))
theorem pu_split {κ β : Type} [DecidableEq κ] {m : List (κ × β)} {k : κ} {b : β} (nd : (m.map (·.1)).Nodup) (h : fd m k = some b) : ∃ A B, m = A ++ (k, b) :: B ∧ (∀ b', pu m k b' = A ++ (k, b') :: B) ∧ rm m k = A ++ B := by
  obtain ⟨A, B, e, ha⟩ := fd_split h
  have hb : k ∉ B.map (·.1) := by
    rw [e, List.map_append, List.map_cons] at nd
    exact (List.nodup_cons.mp (List.nodup_append.mp nd).2.1).1
  have key : ∀ (l : List (κ × β)), k ∉ l.map (·.1) → (∀ q ∈ l, ¬ q.1 = k) := fun l hl q hq e => hl (e ▸ List.mem_map.mpr ⟨q, hq, rfl⟩)
  have hid : ∀ (l : List (κ × β)) (b' : β), k ∉ l.map (·.1) → l.map (fun q => if q.1 = k then (q.1, b') else q) = l := fun l b' hl => (List.map_congr_left fun q hq => if_neg (key l hl q hq)).trans (List.map_id' l)
  have hfl : ∀ (l : List (κ × β)), k ∉ l.map (·.1) → l.filter (fun q => decide (q.1 ≠ k)) = l := fun l hl => List.filter_eq_self.mpr fun q hq => decide_eq_true (key l hl q hq)
  refine ⟨A, B, e, fun b' => ?_, ?_⟩
  · unfold pu
    rw [if_pos (by rw [h]; rfl), e, List.map_append, List.map_cons, hid A b' ha, hid B b' hb, if_pos rfl]
  · unfold rm
    rw [e, List.filter_append, List.filter_cons, if_neg (by simp), hfl A ha, hfl B hb]
theorem pu_mem {κ β : Type} [DecidableEq κ] {m : List (κ × β)} {k : κ} {b : β} {q : κ × β} (h : q ∈ pu m k b) : q ∈ m ∨ q = (k, b) := by
  unfold pu at h
  split at h
  · obtain ⟨z, hz, e⟩ := List.mem_map.mp h
    by_cases hk : z.1 = k
    · rw [if_pos hk] at e
      exact .inr (by rw [← e, hk])
    · rw [if_neg hk] at e
      exact .inl (e ▸ hz)
  · rcases List.mem_append.mp h with h | h
    · exact .inl h
    · exact .inr (List.mem_singleton.mp h)
theorem pu_nd {κ β : Type} [DecidableEq κ] {m : List (κ × β)} {k : κ} (b : β) (h : (m.map (·.1)).Nodup) : ((pu m k b).map (·.1)).Nodup := by
  by_cases e : (fd m k).isSome = true
  · rw [pu_keys_old b e]
    exact h
  · have hn : fd m k = none := by cases e2 : fd m k with
      | none => rfl
      | some v => rw [e2] at e; exact absurd rfl e
    rw [pu_new b hn, List.map_append]
    refine List.nodup_append.mpr ⟨h, List.pairwise_singleton _ _, fun a ha b hb e3 => ?_⟩
    have hb : b = k := List.mem_singleton.mp hb
    rw [e3, hb] at ha
    exact fd_none.mp hn ha
theorem pu_len' {κ β : Type} [DecidableEq κ] (m : List (κ × β)) (k : κ) (b : β) : (pu m k b).length ≤ m.length + 1 := by
  unfold pu
  split
  · rw [List.length_map]; omega
  · rw [List.length_append]; exact Nat.le_refl _
theorem nodup_sub_len : ∀ {l m : List Int}, l.Nodup → (∀ z ∈ l, z ∈ m) → l.length ≤ m.length
  | [], m, _, _ => Nat.zero_le _
  | a :: r, m, nd, h => by
    have nd2 := List.nodup_cons.mp nd
    have ha : a ∈ m := h a (List.mem_cons.mpr (.inl rfl))
    have ih := nodup_sub_len (l := r) (m := m.erase a) nd2.2 fun z hz => (List.mem_erase_of_ne (show z ≠ a from fun e => nd2.1 (e ▸ hz))).mpr (h z (List.mem_cons_of_mem _ hz))
    have e := List.length_erase_of_mem ha
    have := List.length_pos_of_mem ha
    rw [List.length_cons]
    omega
end La
namespace La
open PySem L2 Sy
/-! ### trees, plainly -/
structure Kn where
  key : Int
  value : Int
  low : Option Int
  high : Option Int
inductive Tr where
  | nil : Tr
  | node (n k v : Int) (l r : Tr) : Tr
namespace Tr
def nm : Tr → Option Int
  | nil => none
  | node n _ _ _ _ => some n
def names : Tr → List Int
  | nil => []
  | node n _ _ l r => n :: (l.names ++ r.names)
def prs : Tr → List (Int × Int)
  | nil => []
  | node _ k v l r => (k, v) :: (l.prs ++ r.prs)
def get (j : Int) : Tr → Option Int
  | nil => none
  | node _ k v l r => if j = k then some v else if j < k then l.get j else r.get j
def ord : Tr → Prop
  | nil => True
  | node _ k _ l r => (∀ q ∈ l.prs, q.1 < k) ∧ (∀ q ∈ r.prs, k < q.1) ∧ l.ord ∧ r.ord
def rep (f : Int → Option Kn) : Tr → Prop
  | nil => True
  | node n k v l r => f n = some ⟨k, v, l.nm, r.nm⟩ ∧ l.rep f ∧ r.rep f
/-- a number put, with new names from m on: the tree, the next name -/
def ins (j x m : Int) : Tr → Tr × Int
  | nil => (node m j x nil nil, m + 1)
  | node n k v l r => if j = k then (node m j x l r, m + 1) else if j < k then (node (l.ins j x m).2 k v (l.ins j x m).1 r, (l.ins j x m).2 + 1) else (node (r.ins j x m).2 k v l (r.ins j x m).1, (r.ins j x m).2 + 1)
/-- the knots above the place of a number; what is at the place -/
def subs (j : Int) : Tr → List Tr
  | nil => []
  | node n k v l r => if j = k then [] else node n k v l r :: if j < k then l.subs j else r.subs j
def bot (j : Int) : Tr → Tr
  | nil => nil
  | node n k v l r => if j = k then node n k v l r else if j < k then l.bot j else r.bot j
def way (j : Int) : Tr → List Int
  | nil => []
  | node n k _ l r => n :: if j = k then [] else if j < k then l.way j else r.way j
/-- one knot made anew above something -/
def wrap (j : Int) (f : Tr) (a : Tr × Int) : Tr × Int := match f with
  | nil => a
  | node _ k v l r => if j < k then (node a.2 k v a.1 r, a.2 + 1) else (node a.2 k v l a.1, a.2 + 1)
def name0 : Tr → Int
  | nil => 0
  | node n _ _ _ _ => n
theorem len_eq : ∀ t : Tr, t.prs.length = t.names.length
  | nil => rfl
  | node n k v l r => by simp [prs, names, len_eq l, len_eq r]
theorem rep_mono {f g : Int → Option Kn} (h : ∀ n x, f n = some x → g n = some x) : ∀ {t : Tr}, t.rep f → t.rep g
  | nil, _ => trivial
  | node n k v l r, ⟨h1, h2, h3⟩ => ⟨h _ _ h1, rep_mono h h2, rep_mono h h3⟩
theorem rep_mono' {f g : Int → Option Kn} : ∀ {t : Tr}, (∀ n ∈ t.names, ∀ x, f n = some x → g n = some x) → t.rep f → t.rep g
  | nil, _, _ => trivial
  | node n k v l r, h, ⟨h1, h2, h3⟩ => ⟨h n (List.mem_cons.mpr (.inl rfl)) _ h1, rep_mono' (fun z hz => h z (List.mem_cons.mpr (.inr (List.mem_append.mpr (.inl hz))))) h2, rep_mono' (fun z hz => h z (List.mem_cons.mpr (.inr (List.mem_append.mpr (.inr hz))))) h3⟩
theorem rep_uniq {f : Int → Option Kn} : ∀ {t u : Tr}, t.rep f → u.rep f → t.nm = u.nm → t = u
  | nil, nil, _, _, _ => rfl
  | nil, node _ _ _ _ _, _, _, e => by cases e
  | node _ _ _ _ _, nil, _, _, e => by cases e
  | node n k v l r, node n' k' v' l' r', ⟨h1, h2, h3⟩, ⟨g1, g2, g3⟩, e => by
    have e : n = n' := Option.some.inj e
    subst e
    rw [h1] at g1
    injection g1 with g1
    injection g1 with e1 e2 e3 e4
    subst e1
    subst e2
    rw [rep_uniq h2 g2 e3, rep_uniq h3 g3 e4]
theorem rep_in {f : Int → Option Kn} : ∀ {t : Tr}, t.rep f → ∀ n ∈ t.names, (f n).isSome = true
  | nil, _, n, hn => by cases hn
  | node m k v l r, ⟨h1, h2, h3⟩, n, hn => by
    rcases List.mem_cons.mp hn with rfl | hn
    · rw [h1]; rfl
    · rcases List.mem_append.mp hn with hn | hn
      · exact rep_in h2 n hn
      · exact rep_in h3 n hn
/-- each name in a tree is the top of a tree in it -/
theorem at_name {f : Int → Option Kn} : ∀ {t : Tr}, t.rep f → ∀ n ∈ t.names, ∃ u : Tr, u.rep f ∧ u.nm = some n ∧ ∀ z ∈ u.names, z ∈ t.names
  | nil, _, n, hn => by cases hn
  | node m k v l r, h, n, hn => by
    rcases List.mem_cons.mp hn with rfl | hn
    · exact ⟨node n k v l r, h, rfl, fun z hz => hz⟩
    · rcases List.mem_append.mp hn with hn | hn
      · obtain ⟨u, h1, h2, h3⟩ := at_name h.2.1 n hn
        exact ⟨u, h1, h2, fun z hz => List.mem_cons.mpr (.inr (List.mem_append.mpr (.inl (h3 z hz))))⟩
      · obtain ⟨u, h1, h2, h3⟩ := at_name h.2.2 n hn
        exact ⟨u, h1, h2, fun z hz => List.mem_cons.mpr (.inr (List.mem_append.mpr (.inr (h3 z hz))))⟩
theorem get_of_mem : ∀ {t : Tr}, t.ord → ∀ q ∈ t.prs, t.get q.1 = some q.2
  | nil, _, q, hq => by cases hq
  | node n k v l r, ⟨h1, h2, h3, h4⟩, q, hq => by
    rcases List.mem_cons.mp hq with rfl | hq
    · show (if k = k then some v else _) = _
      rw [if_pos rfl]
    · rcases List.mem_append.mp hq with hq | hq
      · have := h1 q hq
        show (if q.1 = k then some v else if q.1 < k then l.get q.1 else r.get q.1) = _
        rw [if_neg (by omega), if_pos this]
        exact get_of_mem h3 q hq
      · have := h2 q hq
        show (if q.1 = k then some v else if q.1 < k then l.get q.1 else r.get q.1) = _
        rw [if_neg (by omega), if_neg (by omega)]
        exact get_of_mem h4 q hq
theorem mem_of_get : ∀ {t : Tr} {j x : Int}, t.get j = some x → (j, x) ∈ t.prs
  | nil, _, _, h => by cases h
  | node n k v l r, j, x, h0 => by
    have h : (if j = k then some v else if j < k then l.get j else r.get j) = some x := h0
    clear h0
    by_cases e : j = k
    · rw [if_pos e] at h
      subst e
      rw [Option.some.inj h]
      exact List.mem_cons.mpr (.inl rfl)
    · rw [if_neg e] at h
      by_cases g : j < k
      · rw [if_pos g] at h
        exact List.mem_cons.mpr (.inr (List.mem_append.mpr (.inl (mem_of_get h))))
      · rw [if_neg g] at h
        exact List.mem_cons.mpr (.inr (List.mem_append.mpr (.inr (mem_of_get h))))
theorem keys_nodup : ∀ {t : Tr}, t.ord → (t.prs.map (·.1)).Nodup
  | nil, _ => List.nodup_nil
  | node n k v l r, ⟨h1, h2, h3, h4⟩ => by
    show (k :: (l.prs ++ r.prs).map (·.1)).Nodup
    rw [List.map_append, List.nodup_cons, List.nodup_append]
    refine ⟨fun h => ?_, keys_nodup h3, keys_nodup h4, fun a ha b hb e => ?_⟩
    · rcases List.mem_append.mp h with h | h
      · obtain ⟨q, hq, e⟩ := List.mem_map.mp h
        have := h1 q hq
        omega
      · obtain ⟨q, hq, e⟩ := List.mem_map.mp h
        have := h2 q hq
        omega
    · obtain ⟨q, hq, e1⟩ := List.mem_map.mp ha
      obtain ⟨q2, hq2, e2⟩ := List.mem_map.mp hb
      have := h1 q hq
      have := h2 q2 hq2
      omega
/-! what ins does -/
theorem ins_get (j x m i : Int) : ∀ t : Tr, (t.ins j x m).1.get i = if i = j then some x else t.get i
  | nil => by
    show (if i = j then some x else if i < j then none else none) = _
    by_cases e : i = j
    · rw [if_pos e, if_pos e]
    · rw [if_neg e, if_neg e]
      split <;> rfl
  | node n k v l r => by
    unfold ins
    by_cases e : j = k
    · rw [if_pos e]
      subst e
      show (if i = j then some x else if i < j then l.get i else r.get i) = if i = j then some x else if i = j then some v else if i < j then l.get i else r.get i
      by_cases e1 : i = j
      · rw [if_pos e1, if_pos e1]
      · rw [if_neg e1, if_neg e1, if_neg e1]
    · rw [if_neg e]
      by_cases g : j < k
      · rw [if_pos g]
        show (if i = k then some v else if i < k then (l.ins j x m).1.get i else r.get i) = if i = j then some x else if i = k then some v else if i < k then l.get i else r.get i
        rw [ins_get j x m i l]
        by_cases e1 : i = j
        · subst e1
          rw [if_neg e, if_pos g, if_pos rfl, if_pos rfl]
        · rw [if_neg e1, if_neg e1]
      · rw [if_neg g]
        show (if i = k then some v else if i < k then l.get i else (r.ins j x m).1.get i) = if i = j then some x else if i = k then some v else if i < k then l.get i else r.get i
        rw [ins_get j x m i r]
        by_cases e1 : i = j
        · subst e1
          rw [if_neg e, if_neg g, if_pos rfl, if_pos rfl]
        · rw [if_neg e1, if_neg e1]
theorem ins_mem (j x m : Int) : ∀ {t : Tr} {q : Int × Int}, q ∈ (t.ins j x m).1.prs → q = (j, x) ∨ q ∈ t.prs
  | nil, q, h => .inl (List.mem_singleton.mp h)
  | node n k v l r, q, h => by
    unfold ins at h
    by_cases e : j = k
    · rw [if_pos e] at h
      rcases List.mem_cons.mp h with h | h
      · exact .inl h
      · exact .inr (List.mem_cons.mpr (.inr h))
    · rw [if_neg e] at h
      by_cases g : j < k
      · rw [if_pos g] at h
        rcases List.mem_cons.mp h with h | h
        · exact .inr (List.mem_cons.mpr (.inl h))
        · rcases List.mem_append.mp h with h | h
          · rcases ins_mem j x m h with h | h
            · exact .inl h
            · exact .inr (List.mem_cons.mpr (.inr (List.mem_append.mpr (.inl h))))
          · exact .inr (List.mem_cons.mpr (.inr (List.mem_append.mpr (.inr h))))
      · rw [if_neg g] at h
        rcases List.mem_cons.mp h with h | h
        · exact .inr (List.mem_cons.mpr (.inl h))
        · rcases List.mem_append.mp h with h | h
          · exact .inr (List.mem_cons.mpr (.inr (List.mem_append.mpr (.inl h))))
          · rcases ins_mem j x m h with h | h
            · exact .inl h
            · exact .inr (List.mem_cons.mpr (.inr (List.mem_append.mpr (.inr h))))
theorem ins_ord (j x m : Int) : ∀ {t : Tr}, t.ord → (t.ins j x m).1.ord
  | nil, _ => ⟨fun q h => (by cases h), fun q h => (by cases h), trivial, trivial⟩
  | node n k v l r, ⟨h1, h2, h3, h4⟩ => by
    unfold ins
    by_cases e : j = k
    · rw [if_pos e]
      subst e
      exact ⟨h1, h2, h3, h4⟩
    · rw [if_neg e]
      by_cases g : j < k
      · rw [if_pos g]
        refine ⟨fun q hq => ?_, h2, ins_ord j x m h3, h4⟩
        rcases ins_mem j x m hq with rfl | hq
        · exact g
        · exact h1 q hq
      · rw [if_neg g]
        refine ⟨h1, fun q hq => ?_, h3, ins_ord j x m h4⟩
        rcases ins_mem j x m hq with rfl | hq
        · show k < j
          omega
        · exact h2 q hq
theorem ins_next (j x m : Int) : ∀ t : Tr, (t.ins j x m).2 = m + (t.subs j).length + 1
  | nil => by show m + 1 = m + 0 + 1; omega
  | node n k v l r => by
    unfold ins subs
    by_cases e : j = k
    · rw [if_pos e, if_pos e]
      show m + 1 = m + 0 + 1
      omega
    · rw [if_neg e, if_neg e]
      by_cases g : j < k
      · rw [if_pos g, if_pos g]
        show (l.ins j x m).2 + 1 = _
        rw [ins_next j x m l, List.length_cons]
        omega
      · rw [if_neg g, if_neg g]
        show (r.ins j x m).2 + 1 = _
        rw [ins_next j x m r, List.length_cons]
        omega
theorem ins_names (j x m : Int) : ∀ {t : Tr} {z : Int}, z ∈ (t.ins j x m).1.names → (m ≤ z ∧ z < (t.ins j x m).2) ∨ z ∈ t.names
  | nil, z, h => by
    have h : z = m := List.mem_singleton.mp h
    subst h
    exact .inl ⟨Int.le_refl _, by show z < z + 1; omega⟩
  | node n k v l r, z, h => by
    unfold ins at h ⊢
    by_cases e : j = k
    · rw [if_pos e] at h ⊢
      rcases List.mem_cons.mp h with h | h
      · subst h
        exact .inl ⟨Int.le_refl _, by show z < z + 1; omega⟩
      · exact .inr (List.mem_cons.mpr (.inr h))
    · rw [if_neg e] at h ⊢
      by_cases g : j < k
      · rw [if_pos g] at h ⊢
        have hn := ins_next j x m l
        rcases List.mem_cons.mp h with h | h
        · subst h
          exact .inl ⟨by omega, by show (l.ins j x m).2 < (l.ins j x m).2 + 1; omega⟩
        · rcases List.mem_append.mp h with h | h
          · rcases ins_names j x m h with h | h
            · exact .inl ⟨h.1, by show z < (l.ins j x m).2 + 1; omega⟩
            · exact .inr (List.mem_cons.mpr (.inr (List.mem_append.mpr (.inl h))))
          · exact .inr (List.mem_cons.mpr (.inr (List.mem_append.mpr (.inr h))))
      · rw [if_neg g] at h ⊢
        have hn := ins_next j x m r
        rcases List.mem_cons.mp h with h | h
        · subst h
          exact .inl ⟨by omega, by show (r.ins j x m).2 < (r.ins j x m).2 + 1; omega⟩
        · rcases List.mem_append.mp h with h | h
          · exact .inr (List.mem_cons.mpr (.inr (List.mem_append.mpr (.inl h))))
          · rcases ins_names j x m h with h | h
            · exact .inl ⟨h.1, by show z < (r.ins j x m).2 + 1; omega⟩
            · exact .inr (List.mem_cons.mpr (.inr (List.mem_append.mpr (.inr h))))
theorem ins_nodup (j x m : Int) : ∀ {t : Tr}, t.names.Nodup → (∀ z ∈ t.names, z < m) → (t.ins j x m).1.names.Nodup
  | nil, _, _ => by show [m].Nodup; simp
  | node n k v l r, hd, hl => by
    have hd0 : (n :: (l.names ++ r.names)).Nodup := hd
    obtain ⟨d1, d2⟩ := List.nodup_cons.mp hd0
    obtain ⟨d3, d4, d5⟩ := List.nodup_append.mp d2
    have ll : ∀ z ∈ l.names, z < m := fun z hz => hl z (List.mem_cons.mpr (.inr (List.mem_append.mpr (.inl hz))))
    have lr : ∀ z ∈ r.names, z < m := fun z hz => hl z (List.mem_cons.mpr (.inr (List.mem_append.mpr (.inr hz))))
    unfold ins
    by_cases e : j = k
    · rw [if_pos e]
      show (m :: (l.names ++ r.names)).Nodup
      refine List.nodup_cons.mpr ⟨fun h => ?_, d2⟩
      rcases List.mem_append.mp h with h | h
      · have := ll m h; omega
      · have := lr m h; omega
    · rw [if_neg e]
      by_cases g : j < k
      · rw [if_pos g]
        have hn := ins_next j x m l
        show ((l.ins j x m).2 :: ((l.ins j x m).1.names ++ r.names)).Nodup
        refine List.nodup_cons.mpr ⟨fun h => ?_, List.nodup_append.mpr ⟨ins_nodup j x m d3 ll, d4, fun a ha b hb ab => ?_⟩⟩
        · rcases List.mem_append.mp h with h | h
          · rcases ins_names j x m h with h | h
            · omega
            · have := ll _ h; omega
          · have := lr _ h; omega
        · subst ab
          rcases ins_names j x m ha with h | h
          · have := lr _ hb; omega
          · exact d5 a h a hb rfl
      · rw [if_neg g]
        have hn := ins_next j x m r
        show ((r.ins j x m).2 :: (l.names ++ (r.ins j x m).1.names)).Nodup
        refine List.nodup_cons.mpr ⟨fun h => ?_, List.nodup_append.mpr ⟨d3, ins_nodup j x m d4 lr, fun a ha b hb ab => ?_⟩⟩
        · rcases List.mem_append.mp h with h | h
          · have := ll _ h; omega
          · rcases ins_names j x m h with h | h
            · omega
            · have := lr _ h; omega
        · subst ab
          rcases ins_names j x m hb with h | h
          · have := ll _ ha; omega
          · exact d5 a ha a h rfl
theorem ins_len (j x m : Int) : ∀ t : Tr, (t.ins j x m).1.names.length ≤ t.names.length + 1
  | nil => Nat.le_refl _
  | node n k v l r => by
    unfold ins
    by_cases e : j = k
    · rw [if_pos e]
      show (l.names ++ r.names).length + 1 ≤ (l.names ++ r.names).length + 1 + 1
      omega
    · rw [if_neg e]
      by_cases g : j < k
      · rw [if_pos g]
        have := ins_len j x m l
        show ((l.ins j x m).1.names ++ r.names).length + 1 ≤ (l.names ++ r.names).length + 1 + 1
        rw [List.length_append, List.length_append]
        omega
      · rw [if_neg g]
        have := ins_len j x m r
        show (l.names ++ (r.ins j x m).1.names).length + 1 ≤ (l.names ++ r.names).length + 1 + 1
        rw [List.length_append, List.length_append]
        omega
theorem subs_len (j : Int) : ∀ t : Tr, (t.subs j).length ≤ t.names.length
  | nil => Nat.le_refl _
  | node n k v l r => by
    unfold subs
    by_cases e : j = k
    · rw [if_pos e]; exact Nat.zero_le _
    · rw [if_neg e]
      show (if j < k then l.subs j else r.subs j).length + 1 ≤ (l.names ++ r.names).length + 1
      rw [List.length_append]
      have := subs_len j l
      have := subs_len j r
      split <;> omega
/-- ins, from the place up -/
theorem ins_fold (j x m : Int) : ∀ t : Tr, t.ins j x m = (t.subs j).foldr (wrap j) ((t.bot j).ins j x m)
  | nil => rfl
  | node n k v l r => by
    by_cases e : j = k
    · unfold subs bot
      rw [if_pos e, if_pos e]
      rfl
    · unfold subs bot
      rw [if_neg e, if_neg e]
      rw [List.foldr_cons]
      by_cases g : j < k
      · rw [if_pos g, if_pos g, ← ins_fold j x m l]
        show (if j = k then _ else if j < k then _ else _) = (if j < k then _ else _)
        rw [if_neg e, if_pos g, if_pos g]
      · rw [if_neg g, if_neg g, ← ins_fold j x m r]
        show (if j = k then _ else if j < k then _ else _) = (if j < k then _ else _)
        rw [if_neg e, if_neg g, if_neg g]
theorem subs_rep {f : Int → Option Kn} (j : Int) : ∀ {t : Tr}, t.rep f → ∀ u ∈ t.subs j, u.rep f ∧ ∃ n k v l r, u = node n k v l r
  | nil, _, u, hu => by cases hu
  | node n k v l r, h, u, hu => by
    unfold subs at hu
    by_cases e : j = k
    · rw [if_pos e] at hu; cases hu
    · rw [if_neg e] at hu
      rcases List.mem_cons.mp hu with rfl | hu
      · exact ⟨h, n, k, v, l, r, rfl⟩
      · by_cases g : j < k
        · rw [if_pos g] at hu; exact subs_rep j h.2.1 u hu
        · rw [if_neg g] at hu; exact subs_rep j h.2.2 u hu
theorem bot_rep {f : Int → Option Kn} (j : Int) : ∀ {t : Tr}, t.rep f → (t.bot j).rep f
  | nil, _ => trivial
  | node n k v l r, h => by
    unfold bot
    by_cases e : j = k
    · rw [if_pos e]; exact h
    · rw [if_neg e]
      by_cases g : j < k
      · rw [if_pos g]; exact bot_rep j h.2.1
      · rw [if_neg g]; exact bot_rep j h.2.2
/-- what is at the place of a number -/
theorem bot_is (j : Int) : ∀ t : Tr, (t.bot j = nil ∧ t.get j = none ∧ t.way j = (t.subs j).map name0) ∨ ∃ n v l r, t.bot j = node n j v l r ∧ t.get j = some v ∧ t.way j = (t.subs j).map name0 ++ [n]
  | nil => .inl ⟨rfl, rfl, rfl⟩
  | node n k v l r => by
    unfold bot get way subs
    by_cases e : j = k
    · rw [if_pos e, if_pos e, if_pos e, if_pos e]
      subst e
      exact .inr ⟨n, v, l, r, rfl, rfl, rfl⟩
    · rw [if_neg e, if_neg e, if_neg e, if_neg e]
      by_cases g : j < k
      · rw [if_pos g, if_pos g, if_pos g, if_pos g]
        rcases bot_is j l with ⟨h1, h2, h3⟩ | ⟨n', v', l', r', h1, h2, h3⟩
        · exact .inl ⟨h1, h2, by rw [h3]; rfl⟩
        · exact .inr ⟨n', v', l', r', h1, h2, by rw [h3]; rfl⟩
      · rw [if_neg g, if_neg g, if_neg g, if_neg g]
        rcases bot_is j r with ⟨h1, h2, h3⟩ | ⟨n', v', l', r', h1, h2, h3⟩
        · exact .inl ⟨h1, h2, by rw [h3]; rfl⟩
        · exact .inr ⟨n', v', l', r', h1, h2, by rw [h3]; rfl⟩
end Tr
end La
namespace La
open PySem L2 Sy
def t_Tree_init (K : PySem.W.Frag) (sp_look_number : Sp) : TS :=
  tSeq (tDrop (tCall sp_look_number [] E0 (tCons (tVar 1) (tCons (tC (.int 1)) (tCons (tC (.int 6)) (tNil))))))
    (tSeq (sFld K (tVar 0) (tVar 1) "hands")
    (tSeq (sFld K (tVar 0) (tDNewK) "knots")
    (tSeq (sFld K (tVar 0) (tC (.int 0)) "made")
    (tSeq (sFld K (tVar 0) (tC .non) "root")
    (sFld K (tVar 0) (tDNewK) "pinned")))))
def t_Tree_look_hand (K : PySem.W.Frag) (sp_is_whole : Sp) : TS :=
  tIfS (tNot (tB (tCall sp_is_whole [] E0 (tCons (tVar 1) (tCons (tC (.int 0)) (tCons (tOp rSubI (tFld K (tVar 0) "hands") (tC (.int 1))) (tNil))))))) (tNever) (tNext)
def t_Tree_look_in (K : PySem.W.Frag) (C_Tree : Addr) (sp_Tree__Tree_look_hand : Sp) : TS :=
  tSeq (tDrop (tMeth C_Tree "look_hand" sp_Tree__Tree_look_hand [] E0 (tVar 0) (tCons (tVar 1) (tNil))))
    (tIfS (tB (tDNotIn (tVar 1) (tFld K (tVar 0) "pinned"))) (tNever) (tNext))
def t_Tree_new_knot (K : PySem.W.Frag) : TS :=
  tSeq (sDPut (tFld K (tVar 0) "knots") (tFld K (tVar 0) "made") (tTup (tCons (tVar 1) (tCons (tVar 2) (tCons (tVar 3) (tCons (tVar 4) (tNil)))))))
    (tSeq (sFld K (tVar 0) (tOp rAddI (tFld K (tVar 0) "made") (tC (.int 1))) "made")
    (tRet (tOp rSubI (tFld K (tVar 0) "made") (tC (.int 1)))))
def t_Tree_way_to (K : PySem.W.Frag) : TS :=
  tSeq (tAsg (tLst (tNil)) (gName 3))
    (tSeq (tAsg (tVar 1) (gName 4))
    (tSeq (tWhile (tAnd (tTest (tOp rNotNo (tVar 4) (tC .non))) (tOr (tTest (tOp (rEqD K) (tVar 3) (tLst (tNil)))) (tTest (tOp rNe (tOp (rIxT K) (tDGet (tFld K (tVar 0) "knots") (tOp (rIxL K) (tVar 3) (tUn (rU fun i => .int (-i)) (tC (.int 1))))) (tC (.int 0))) (tVar 2))))) (tSeq (tDrop (tBM K "list" rAppend (tVar 3) (tCons (tVar 4) (tNil))))
    (tAsg (tIf (tTest (tOp rLtI (tVar 2) (tOp (rIxT K) (tDGet (tFld K (tVar 0) "knots") (tVar 4)) (tC (.int 0))))) (tOp (rIxT K) (tDGet (tFld K (tVar 0) "knots") (tVar 4)) (tC (.int 2))) (tOp (rIxT K) (tDGet (tFld K (tVar 0) "knots") (tVar 4)) (tC (.int 3)))) (gName 4))))
    (tRet (tVar 3))))
def t_Tree_rebuilt (K : PySem.W.Frag) (C_Tree : Addr) (sp_Tree__Tree_new_knot : Sp) : TS :=
  tSeq (tFor (iList K (tRevL K (tVar 1))) (gName 4) (tSeq (tAsg (tDGet (tFld K (tVar 0) "knots") (tVar 4)) (gTup K 4 (gCons (gName 5) (gCons (gName 6) (gCons (gName 7) (gCons (gName 8) (gNil)))))))
    (tSeq (tAsg (tIf (tTest (tOp rLtI (tVar 2) (tVar 5))) (tTup (tCons (tVar 3) (tCons (tVar 8) (tNil)))) (tTup (tCons (tVar 7) (tCons (tVar 3) (tNil))))) (gTup K 2 (gCons (gName 7) (gCons (gName 8) (gNil)))))
    (tAsg (tMeth C_Tree "new_knot" sp_Tree__Tree_new_knot [] E0 (tVar 0) (tCons (tVar 5) (tCons (tVar 6) (tCons (tVar 7) (tCons (tVar 8) (tNil)))))) (gName 3)))))
    (tRet (tVar 3))
def t_Tree_put (K : PySem.W.Frag) (C_Tree : Addr) (sp_look_number sp_Tree__Tree_way_to sp_Tree__Tree_rebuilt sp_Tree__Tree_new_knot : Sp) : TS :=
  tSeq (tDrop (tCall sp_look_number [] E0 (tCons (tVar 1) (tCons (tC (.int 0)) (tCons (tC (.int 999)) (tNil))))))
    (tSeq (tDrop (tCall sp_look_number [] E0 (tCons (tVar 2) (tCons (tC (.int 0)) (tCons (tC (.int 999)) (tNil))))))
    (tSeq (tAsg (tFld K (tVar 0) "made") (gName 3))
    (tSeq (tAsg (tMeth C_Tree "way_to" sp_Tree__Tree_way_to [] E0 (tVar 0) (tCons (tFld K (tVar 0) "root") (tCons (tVar 1) (tNil)))) (gName 4))
    (tSeq (tAsg (tTup (tCons (tC .non) (tCons (tC .non) (tNil)))) (gTup K 2 (gCons (gName 5) (gCons (gName 6) (gNil)))))
    (tSeq (tIfS (tAnd (tTest (tOp (rNeD K) (tVar 4) (tLst (tNil)))) (tTest (tOp rEq (tOp (rIxT K) (tDGet (tFld K (tVar 0) "knots") (tOp (rIxL K) (tVar 4) (tUn (rU fun i => .int (-i)) (tC (.int 1))))) (tC (.int 0))) (tVar 1)))) (tAsg (tSl (rSlT K) (tDGet (tFld K (tVar 0) "knots") (tBM0 K "list" rPop (tVar 4))) (tPart (tC (.int 2))) (tNoPart)) (gTup K 2 (gCons (gName 5) (gCons (gName 6) (gNil))))) (tNext))
    (tSeq (sFld K (tVar 0) (tMeth C_Tree "rebuilt" sp_Tree__Tree_rebuilt [] E0 (tVar 0) (tCons (tVar 4) (tCons (tVar 1) (tCons (tMeth C_Tree "new_knot" sp_Tree__Tree_new_knot [] E0 (tVar 0) (tCons (tVar 1) (tCons (tVar 2) (tCons (tVar 5) (tCons (tVar 6) (tNil)))))) (tNil))))) "root")
    (tRet (tOp rSubI (tFld K (tVar 0) "made") (tVar 3)))))))))
def t_Tree_value_from (K : PySem.W.Frag) (C_Tree : Addr) (sp_Tree__Tree_way_to : Sp) : TS :=
  tSeq (tAsg (tMeth C_Tree "way_to" sp_Tree__Tree_way_to [] E0 (tVar 0) (tCons (tVar 1) (tCons (tVar 2) (tNil)))) (gName 3))
    (tSeq (tIfS (tOr (tTest (tOp (rEqD K) (tVar 3) (tLst (tNil)))) (tTest (tOp rNe (tOp (rIxT K) (tDGet (tFld K (tVar 0) "knots") (tOp (rIxL K) (tVar 3) (tUn (rU fun i => .int (-i)) (tC (.int 1))))) (tC (.int 0))) (tVar 2)))) (tRet (tC .non)) (tNext))
    (tRet (tOp (rIxT K) (tDGet (tFld K (tVar 0) "knots") (tOp (rIxL K) (tVar 3) (tUn (rU fun i => .int (-i)) (tC (.int 1))))) (tC (.int 1)))))
def t_Tree_get_now (K : PySem.W.Frag) (C_Tree : Addr) (sp_look_number sp_Tree__Tree_value_from : Sp) : TS :=
  tSeq (tDrop (tCall sp_look_number [] E0 (tCons (tVar 1) (tCons (tC (.int 0)) (tCons (tC (.int 999)) (tNil))))))
    (tRet (tMeth C_Tree "value_from" sp_Tree__Tree_value_from [] E0 (tVar 0) (tCons (tFld K (tVar 0) "root") (tCons (tVar 1) (tNil)))))
def t_Tree_pairs_from (K : PySem.W.Frag) : TS :=
  tSeq (tAsg (tLst (tNil)) (gName 2))
    (tSeq (tAsg (tLst (tCons (tVar 1) (tNil))) (gName 3))
    (tSeq (tWhile (tTest (tOp (rNeD K) (tVar 3) (tLst (tNil)))) (tSeq (tAsg (tBM0 K "list" rPop (tVar 3)) (gName 4))
    (tIfS (tTest (tOp rNotNo (tVar 4) (tC .non))) (tSeq (tAsg (tDGet (tFld K (tVar 0) "knots") (tVar 4)) (gTup K 4 (gCons (gName 5) (gCons (gName 6) (gCons (gName 7) (gCons (gName 8) (gNil)))))))
    (tSeq (tDrop (tBM K "list" rAppend (tVar 2) (tCons (tTup (tCons (tVar 5) (tCons (tVar 6) (tNil)))) (tNil))))
    (tAsg (tOp rCat (tVar 3) (tLst (tCons (tVar 7) (tCons (tVar 8) (tNil))))) (gName 3)))) (tNext))))
    (tRet (tCB (rSortedPO K) (tCons (tVar 2) (tNil))))))
def t_Tree_pairs_now (K : PySem.W.Frag) (C_Tree : Addr) (sp_Tree__Tree_pairs_from : Sp) : TS :=
  tRet (tMeth C_Tree "pairs_from" sp_Tree__Tree_pairs_from [] E0 (tVar 0) (tCons (tFld K (tVar 0) "root") (tNil)))
def t_Tree_begin (K : PySem.W.Frag) (C_Tree : Addr) (sp_Tree__Tree_look_hand : Sp) : TS :=
  tSeq (tDrop (tMeth C_Tree "look_hand" sp_Tree__Tree_look_hand [] E0 (tVar 0) (tCons (tVar 1) (tNil))))
    (tSeq (tIfS (tB (tDIn (tVar 1) (tFld K (tVar 0) "pinned"))) (tNever) (tNext))
    (sDPut (tFld K (tVar 0) "pinned") (tVar 1) (tFld K (tVar 0) "root")))
def t_Tree_finish (K : PySem.W.Frag) (C_Tree : Addr) (sp_Tree__Tree_look_in : Sp) : TS :=
  tSeq (tDrop (tMeth C_Tree "look_in" sp_Tree__Tree_look_in [] E0 (tVar 0) (tCons (tVar 1) (tNil))))
    (tDrop (tDPop1 (tFld K (tVar 0) "pinned") (tVar 1)))
def t_Tree_read (K : PySem.W.Frag) (C_Tree : Addr) (sp_Tree__Tree_look_in sp_look_number sp_Tree__Tree_value_from : Sp) : TS :=
  tSeq (tDrop (tMeth C_Tree "look_in" sp_Tree__Tree_look_in [] E0 (tVar 0) (tCons (tVar 1) (tNil))))
    (tSeq (tDrop (tCall sp_look_number [] E0 (tCons (tVar 2) (tCons (tC (.int 0)) (tCons (tC (.int 999)) (tNil))))))
    (tRet (tMeth C_Tree "value_from" sp_Tree__Tree_value_from [] E0 (tVar 0) (tCons (tDGet (tFld K (tVar 0) "pinned") (tVar 1)) (tCons (tVar 2) (tNil))))))
def t_Tree_pairs_of (K : PySem.W.Frag) (C_Tree : Addr) (sp_Tree__Tree_look_in sp_Tree__Tree_pairs_from : Sp) : TS :=
  tSeq (tDrop (tMeth C_Tree "look_in" sp_Tree__Tree_look_in [] E0 (tVar 0) (tCons (tVar 1) (tNil))))
    (tRet (tMeth C_Tree "pairs_from" sp_Tree__Tree_pairs_from [] E0 (tVar 0) (tCons (tDGet (tFld K (tVar 0) "pinned") (tVar 1)) (tNil))))
def t_Tree_sweep (K : PySem.W.Frag) : TS :=
  tSeq (tAsg (tDNewK) (gName 1))
    (tSeq (tAsg (tOp rCat (tLst (tCons (tFld K (tVar 0) "root") (tNil))) (tListVals (tFld K (tVar 0) "pinned"))) (gName 2))
    (tSeq (tWhile (tTest (tOp (rNeD K) (tVar 2) (tLst (tNil)))) (tSeq (tAsg (tBM0 K "list" rPop (tVar 2)) (gName 3))
    (tIfS (tAnd (tTest (tOp rNotNo (tVar 3) (tC .non))) (tB (tDNotIn (tVar 3) (tVar 1)))) (tSeq (sDPut (tVar 1) (tVar 3) (tC (.bl true)))
    (tAsg (tOp rCat (tVar 2) (tLst (tCons (tOp (rIxT K) (tDGet (tFld K (tVar 0) "knots") (tVar 3)) (tC (.int 2))) (tCons (tOp (rIxT K) (tDGet (tFld K (tVar 0) "knots") (tVar 3)) (tC (.int 3))) (tNil))))) (gName 2))) (tNext))))
    (tSeq (tAsg (tOp rSubI (tCB rLenK (tCons (tFld K (tVar 0) "knots") (tNil))) (tCB rLenK (tCons (tVar 1) (tNil)))) (gName 4))
    (tSeq (sFld K (tVar 0) (tCB (rDictP K) (tCons (tLockE (tLc (iKeys (tFld K (tVar 0) "knots")) (gName 5) (tB (tDIn (tVar 5) (tVar 1))) (tTup (tCons (tVar 5) (tCons (tDGet (tFld K (tVar 0) "knots") (tVar 5)) (tNil)))) [5])) (tNil))) "knots")
    (tRet (tVar 4))))))
def t_Tree_len (K : PySem.W.Frag) : TS :=
  tRet (tCB rLenK (tCons (tFld K (tVar 0) "knots") (tNil)))
def treF (v0 v1 v2 v3 v4 : V) : List (Str × V) := [("hands", v0), ("knots", v1), ("made", v2), ("root", v3), ("pinned", v4)]
theorem tre_hands {v0 v1 v2 v3 v4 : V} : (treF v0 v1 v2 v3 v4).lookup ("hands" : Str) = some v0 := by kernel_rfl
theorem tre_put_hands {v0 v1 v2 v3 v4 u : V} : putF "hands" u (treF v0 v1 v2 v3 v4) = treF u v1 v2 v3 v4 := by kernel_rfl
theorem tre_knots {v0 v1 v2 v3 v4 : V} : (treF v0 v1 v2 v3 v4).lookup ("knots" : Str) = some v1 := by kernel_rfl
theorem tre_put_knots {v0 v1 v2 v3 v4 u : V} : putF "knots" u (treF v0 v1 v2 v3 v4) = treF v0 u v2 v3 v4 := by kernel_rfl
theorem tre_made {v0 v1 v2 v3 v4 : V} : (treF v0 v1 v2 v3 v4).lookup ("made" : Str) = some v2 := by kernel_rfl
theorem tre_put_made {v0 v1 v2 v3 v4 u : V} : putF "made" u (treF v0 v1 v2 v3 v4) = treF v0 v1 u v3 v4 := by kernel_rfl
theorem tre_root {v0 v1 v2 v3 v4 : V} : (treF v0 v1 v2 v3 v4).lookup ("root" : Str) = some v3 := by kernel_rfl
theorem tre_put_root {v0 v1 v2 v3 v4 u : V} : putF "root" u (treF v0 v1 v2 v3 v4) = treF v0 v1 v2 u v4 := by kernel_rfl
theorem tre_pinned {v0 v1 v2 v3 v4 : V} : (treF v0 v1 v2 v3 v4).lookup ("pinned" : Str) = some v4 := by kernel_rfl
theorem tre_put_pinned {v0 v1 v2 v3 v4 u : V} : putF "pinned" u (treF v0 v1 v2 v3 v4) = treF v0 v1 v2 v3 u := by kernel_rfl
theorem tre_m_look_hand {v0 v1 v2 v3 v4 : V} : (treF v0 v1 v2 v3 v4).lookup ("look_hand" : Str) = none := by kernel_rfl
theorem tre_m_look_in {v0 v1 v2 v3 v4 : V} : (treF v0 v1 v2 v3 v4).lookup ("look_in" : Str) = none := by kernel_rfl
theorem tre_m_new_knot {v0 v1 v2 v3 v4 : V} : (treF v0 v1 v2 v3 v4).lookup ("new_knot" : Str) = none := by kernel_rfl
theorem tre_m_way_to {v0 v1 v2 v3 v4 : V} : (treF v0 v1 v2 v3 v4).lookup ("way_to" : Str) = none := by kernel_rfl
theorem tre_m_rebuilt {v0 v1 v2 v3 v4 : V} : (treF v0 v1 v2 v3 v4).lookup ("rebuilt" : Str) = none := by kernel_rfl
theorem tre_m_put {v0 v1 v2 v3 v4 : V} : (treF v0 v1 v2 v3 v4).lookup ("put" : Str) = none := by kernel_rfl
theorem tre_m_value_from {v0 v1 v2 v3 v4 : V} : (treF v0 v1 v2 v3 v4).lookup ("value_from" : Str) = none := by kernel_rfl
theorem tre_m_get_now {v0 v1 v2 v3 v4 : V} : (treF v0 v1 v2 v3 v4).lookup ("get_now" : Str) = none := by kernel_rfl
theorem tre_m_pairs_from {v0 v1 v2 v3 v4 : V} : (treF v0 v1 v2 v3 v4).lookup ("pairs_from" : Str) = none := by kernel_rfl
theorem tre_m_pairs_now {v0 v1 v2 v3 v4 : V} : (treF v0 v1 v2 v3 v4).lookup ("pairs_now" : Str) = none := by kernel_rfl
theorem tre_m_begin {v0 v1 v2 v3 v4 : V} : (treF v0 v1 v2 v3 v4).lookup ("begin" : Str) = none := by kernel_rfl
theorem tre_m_finish {v0 v1 v2 v3 v4 : V} : (treF v0 v1 v2 v3 v4).lookup ("finish" : Str) = none := by kernel_rfl
theorem tre_m_read {v0 v1 v2 v3 v4 : V} : (treF v0 v1 v2 v3 v4).lookup ("read" : Str) = none := by kernel_rfl
theorem tre_m_pairs_of {v0 v1 v2 v3 v4 : V} : (treF v0 v1 v2 v3 v4).lookup ("pairs_of" : Str) = none := by kernel_rfl
theorem tre_m_sweep {v0 v1 v2 v3 v4 : V} : (treF v0 v1 v2 v3 v4).lookup ("sweep" : Str) = none := by kernel_rfl
theorem tre_m___len__ {v0 v1 v2 v3 v4 : V} : (treF v0 v1 v2 v3 v4).lookup ("__len__" : Str) = none := by kernel_rfl
theorem tre_p1 { u : V} : putF "hands" u ([] : List (Str × V)) = ([("hands", u)] : List (Str × V)) := by kernel_rfl
theorem tre_p2 {v0 u : V} : putF "knots" u ([("hands", v0)] : List (Str × V)) = ([("hands", v0), ("knots", u)] : List (Str × V)) := by kernel_rfl
theorem tre_p3 {v0 v1 u : V} : putF "made" u ([("hands", v0), ("knots", v1)] : List (Str × V)) = ([("hands", v0), ("knots", v1), ("made", u)] : List (Str × V)) := by kernel_rfl
theorem tre_p4 {v0 v1 v2 u : V} : putF "root" u ([("hands", v0), ("knots", v1), ("made", v2)] : List (Str × V)) = ([("hands", v0), ("knots", v1), ("made", v2), ("root", u)] : List (Str × V)) := by kernel_rfl
theorem tre_p5 {v0 v1 v2 v3 u : V} : putF "pinned" u ([("hands", v0), ("knots", v1), ("made", v2), ("root", v3)] : List (Str × V)) = ((treF v0 v1 v2 v3 u) : List (Str × V)) := by kernel_rfl
theorem tre_len {v0 v1 v2 v3 v4 : V} : (treF v0 v1 v2 v3 v4).length < 1000 := by show 5 < 1000; decide
local macro_rules | `(tactic| walk_at "fl") => `(tactic| first | assumption | exact tre_hands | exact tre_knots | exact tre_made | exact tre_root | exact tre_pinned | kernel_rfl)
local macro_rules | `(tactic| walk_at "put") => `(tactic| first | exact tre_put_hands | exact tre_put_knots | exact tre_put_made | exact tre_put_root | exact tre_put_pinned | exact tre_p1 | exact tre_p2 | exact tre_p3 | exact tre_p4 | exact tre_p5)
local macro_rules | `(tactic| walk_at "fsl") => `(tactic| first | assumption | exact tre_len | (show 0 < 1000; decide) | (show 1 < 1000; decide) | (show 2 < 1000; decide) | (show 3 < 1000; decide) | (show 4 < 1000; decide))
/-! ### trees -/
structure TrC (K : PySem.W.Frag) (C : Addr) : Prop where
  cl : Cls K C
  n1 : NoAttr K C "hands"
  n2 : NoAttr K C "knots"
  n3 : NoAttr K C "made"
  n4 : NoAttr K C "root"
  n5 : NoAttr K C "pinned"
def obK (q : Addr × Kn) : U := [(q.1, .tup [.int q.2.key, .int q.2.value, oV q.2.low, oV q.2.high])]
def knR (q : Addr × Kn) : V := .ref q.1
def tnV (t : Tr) : V := oV t.nm
abbrev Kns := List (Int × (Addr × Kn))
structure Tre where
  dx : Addr
  ka : Addr
  pa : Addr
  hands : Int
  made : Int
  root : Tr
  knots : Kns
  pinned : List (Int × Tr)
def treU (C p : Addr) (s : Tre) : U := (p, .ins C s.dx (treF (.int s.hands) (.ref s.ka) (.int s.made) (tnV s.root) (.ref s.pa))) :: (s.ka, dI (mv knR s.knots)) :: (s.pa, dI (mv tnV s.pinned)) :: famU obK s.knots
theorem tre_cut {H : Hp} {C p : Addr} {s : Tre} {R : List U} (h : Has H (treU C p s :: R)) : Has H ([(p, .ins C s.dx (treF (.int s.hands) (.ref s.ka) (.int s.made) (tnV s.root) (.ref s.pa)))] :: [(s.ka, dI (mv knR s.knots))] :: [(s.pa, dI (mv tnV s.pinned))] :: famU obK s.knots :: R) := Has.cut3 h
theorem tre_in {H : Hp} {C p : Addr} {s : Tre} {R : List U} (h : Has H ([(p, .ins C s.dx (treF (.int s.hands) (.ref s.ka) (.int s.made) (tnV s.root) (.ref s.pa)))] :: [(s.ka, dI (mv knR s.knots))] :: [(s.pa, dI (mv tnV s.pinned))] :: famU obK s.knots :: R)) : Has H (treU C p s :: R) := Has.glue3 h
/-- what a name stands for -/
def lkK (m : Kns) (n : Int) : Option Kn := (fd m n).map (·.2)
theorem lk_at {m : Kns} {n : Int} {k : Kn} (h : lkK m n = some k) : ∃ a, fd m n = some (a, k) := by
  unfold lkK at h
  obtain ⟨⟨a, k'⟩, h1, h2⟩ := Option.map_eq_some_iff.mp h
  have h2 : k' = k := h2
  subst h2
  exact ⟨a, h1⟩
theorem Has.kn {H : Hp} {m : Kns} {n : Int} {a : Addr} {k : Kn} {L : List U} (h : Has H (famU obK m :: L)) (hf : fd m n = some (a, k)) : H a = some (.tup [.int k.key, .int k.value, oV k.low, oV k.high]) := by
  refine h.2 (a, _) (List.mem_append.mpr (.inl ?_))
  unfold famU
  exact List.mem_flatMap.mpr ⟨(n, (a, k)), fd_mem hf, List.mem_singleton.mpr rfl⟩
structure Tr.good (f : Int → Option Kn) (t : Tr) : Prop where
  r : t.rep f
  o : t.ord
  n : t.names.Nodup
structure Tre.wf (s : Tre) : Prop where
  nd : (s.knots.map (·.1)).Nodup
  lt : ∀ q ∈ s.knots, 0 ≤ q.1 ∧ q.1 < s.made
  m0 : 0 ≤ s.made
  m9 : s.made ≤ 20000
  kl : (s.knots.length : Int) ≤ s.made
  rr : s.root.good (lkK s.knots)
  pp : ∀ q ∈ s.pinned, q.2.good (lkK s.knots)
  pn : (s.pinned.map (·.1)).Nodup
  pl : s.pinned.length ≤ 100
theorem lk_mem {m : Kns} {n : Int} {k : Kn} (h : lkK m n = some k) : n ∈ m.map (·.1) := by
  obtain ⟨a, ha⟩ := lk_at h
  exact List.mem_map.mpr ⟨_, fd_mem ha, rfl⟩
theorem Tr.rep_mem {m : Kns} {t : Tr} (h : t.rep (lkK m)) : ∀ n ∈ t.names, n ∈ m.map (·.1) := fun n hn => by
  obtain ⟨k, hk⟩ := Option.isSome_iff_exists.mp (Tr.rep_in h n hn)
  exact lk_mem hk
theorem Tr.good.len {m : Kns} {t : Tr} (g : t.good (lkK m)) : t.names.length ≤ m.length := by
  have := nodup_sub_len g.n (Tr.rep_mem g.r)
  rw [List.length_map] at this
  exact this
def sp_trinit (C : Addr) : Sp := fun vs H Q _ => ∃ (p dx : Addr) (h : Int) (R : List U), vs = [.ref p, .int h] ∧ Has H ([(p, .ins C dx [])] :: R) ∧ 1 ≤ h ∧ h ≤ 6 ∧
  ∀ ka pa H', Has H' (treU C p ⟨dx, ka, pa, h, 0, .nil, [], []⟩ :: R) → Q .non H'
theorem pure_trinit {K : PySem.W.Frag} {C : Addr} (hC : TrC K C) {vs : List V} {H : Hp} {Q : VK} {E : XK} (h : sp_trinit C vs H Q E) : t_Tree_init K sp_look_number ⟨fun _ H' => Q .non H', Q, fun _ _ => False, fun _ _ => False⟩ (start ["self", "hands"] vs) H := by
  obtain ⟨p, dx, h, R, rfl, hh, h1, h6, q⟩ := h
  obtain ⟨cl, n1, n2, n3, n4, n5⟩ := hC
  unfold t_Tree_init
  walk_at "go"
  refine ⟨h, 1, 6, rfl, h1, h6, ?_⟩
  walk_at "go"
  rename_i H1 g1 ka H2 g2 H3 g3 H4 g4 H5 g5 pa H6 g6 H7 g7
  refine q ka pa _ (tre_in ?_)
  exact (Has.nilU.mpr g7).sub (show Sub ([(p, _)] :: [(ka, dI [])] :: [(pa, dI [])] :: [] :: R) _ by walk_at "sub")
theorem Tre.new_wf {dx ka pa : Addr} {h : Int} : (⟨dx, ka, pa, h, 0, .nil, [], []⟩ : Tre).wf := ⟨List.nodup_nil, fun q hq => (by cases hq), Int.le_refl _, (by show (0 : Int) ≤ 20000; omega), Int.le_refl _, ⟨trivial, trivial, List.nodup_nil⟩, fun q hq => (by cases hq), List.nodup_nil, Nat.zero_le _⟩
def sp_trlook_hand (C : Addr) : Sp := fun vs H Q _ => ∃ (p : Addr) (s : Tre) (k : Int) (R : List U), vs = [.ref p, .int k] ∧ Has H (treU C p s :: R) ∧ 0 ≤ k ∧ k < s.hands ∧ Q .non H
theorem pure_trlook_hand {K : PySem.W.Frag} {C : Addr} (hC : TrC K C) {vs : List V} {H : Hp} {Q : VK} {E : XK} (h : sp_trlook_hand C vs H Q E) : t_Tree_look_hand K sp_is_whole ⟨fun _ H' => Q .non H', Q, fun _ _ => False, fun _ _ => False⟩ (start ["self", "hand"] vs) H := by
  obtain ⟨p, s, k, R, rfl, hh, c0, c1, q⟩ := h
  obtain ⟨cl, n1, n2, n3, n4, n5⟩ := hC
  replace hh := tre_cut hh
  unfold t_Tree_look_hand
  walk_at "go"
  refine ⟨k, 0, _, rfl, ?_⟩
  rw [decide_eq_true (by omega)]
  walk_at "go"
  exact q
def sp_trlook_in (C : Addr) : Sp := fun vs H Q _ => ∃ (p : Addr) (s : Tre) (k : Int) (R : List U), vs = [.ref p, .int k] ∧ Has H (treU C p s :: R) ∧ 0 ≤ k ∧ k < s.hands ∧ (fd s.pinned k).isSome = true ∧ Q .non H
theorem pure_trlook_in {K : PySem.W.Frag} {C : Addr} (hC : TrC K C) {vs : List V} {H : Hp} {Q : VK} {E : XK} (h : sp_trlook_in C vs H Q E) : t_Tree_look_in K C (sp_trlook_hand C) ⟨fun _ H' => Q .non H', Q, fun _ _ => False, fun _ _ => False⟩ (start ["self", "hand"] vs) H := by
  obtain ⟨p, s, k, R, rfl, h0, c0, c1, hf, q⟩ := h
  obtain ⟨cl, n1, n2, n3, n4, n5⟩ := hC
  have hh := tre_cut h0
  unfold t_Tree_look_in
  walk_at "go"
  refine ⟨p, s, k, R, rfl, h0, c0, c1, ?_⟩
  walk_at "go"
  rw [mv_isSome, hf]
  walk_at "go"
  exact q
def Tre.add (s : Tre) (a : Addr) (k : Kn) : Tre := { s with knots := s.knots ++ [(s.made, (a, k))], made := s.made + 1 }
def sp_new_knot (C : Addr) : Sp := fun vs H Q _ => ∃ (p : Addr) (s : Tre) (k : Kn) (R : List U), vs = [.ref p, .int k.key, .int k.value, oV k.low, oV k.high] ∧ Has H (treU C p s :: R) ∧ fd s.knots s.made = none ∧ s.knots.length ≤ 30000 ∧
  ∀ a H', Has H' (treU C p (s.add a k) :: R) → Q (.int s.made) H'
theorem pure_new_knot {K : PySem.W.Frag} {C : Addr} (hC : TrC K C) {vs : List V} {H : Hp} {Q : VK} {E : XK} (h : sp_new_knot C vs H Q E) : t_Tree_new_knot K ⟨fun _ H' => Q .non H', Q, fun _ _ => False, fun _ _ => False⟩ (start ["self", "key", "value", "low", "high"] vs) H := by
  obtain ⟨p, s, k, R, rfl, h0, hn, hl, q⟩ := h
  obtain ⟨cl, n1, n2, n3, n4, n5⟩ := hC
  have e1 : (mv knR s.knots).length < sizeLine := by rw [mv_len, sizeLine_eq]; omega
  have hh := tre_cut h0
  clear h0
  unfold t_Tree_new_knot
  walk_at "go"
  rename_i a H1 h1 H2 h2 H3 h3
  rw [show V.ref a = knR (a, k) from rfl, mv_put, pu_new _ hn] at h3
  rw [show s.made + 1 - 1 = s.made by omega]
  refine q a H3 (tre_in (s := s.add a k) ?_)
  show Has H3 ([(p, _)] :: [(s.ka, dI (mv knR (s.knots ++ [(s.made, (a, k))])))] :: [(s.pa, _)] :: famU obK (s.knots ++ [(s.made, (a, k))]) :: R)
  have h4 := fam_snoc (k := s.made) (b := (a, k)) (obs := obK) (h3.sub (show Sub ([(a, _)] :: famU obK s.knots :: _) _ by walk_at "sub"))
  exact h4.sub (by walk_at "sub")
/-! the way to a number -/
theorem at_last' {α : Type} {l : List α} (h : l ≠ []) : atI l (-1) = l.getLast? := by
  unfold atI ixN
  have h1 : 0 < l.length := List.length_pos_iff.mpr h
  rw [if_neg (by omega), if_pos (by omega)]
  rw [List.getLast?_eq_getElem?]
  show l[((l.length : Int) + -1).toNat]? = _
  congr 1
  omega
theorem k_uneg {i : Int} {H : Hp} {Q : VK} (q : Q (.int (-i)) H) : rU (fun i => .int (-i)) (.int i) H Q := ⟨i, rfl, q⟩
theorem last_mem {α : Type} {l : List α} (h : l ≠ []) : ∃ A z, l = A ++ [z] := ⟨l.dropLast, l.getLast h, (List.dropLast_concat_getLast h).symm⟩
theorem at_end {A : List Int} {z : Int} : atI ((A ++ [z]).map V.int) (-1) = some (.int z) := by
  rw [at_last' (by simp), List.getLast?_map, List.getLast?_append]
  rfl
def sp_way_to (C : Addr) : Sp := fun vs H Q _ => ∃ (p : Addr) (s : Tre) (t : Tr) (j : Int) (R : List U), vs = [.ref p, tnV t, .int j] ∧ Has H (treU C p s :: R) ∧ t.rep (lkK s.knots) ∧ t.names.length ≤ 30000 ∧
  ∀ d H', Has H' ([(d, .lst ((t.way j).map V.int))] :: treU C p s :: R) → Q (.ref d) H'
theorem Tr.way_len (j : Int) : ∀ t : Tr, (t.way j).length ≤ t.names.length
  | .nil => Nat.le_refl _
  | .node n k v l r => by
    unfold Tr.way Tr.names
    have := Tr.way_len j l
    have := Tr.way_len j r
    rw [List.length_cons, List.length_cons, List.length_append]
    by_cases e : j = k
    · rw [if_pos e]; show 0 + 1 ≤ _; omega
    · rw [if_neg e]
      split <;> omega
/-- how far the way is: found A, at u -/
def WayI (m : Kns) (t : Tr) (j : Int) (A : List Int) (u : Tr) : Prop := u.rep (lkK m) ∧
  ((t.way j = A ++ u.way j ∧ (A = [] ∨ ∃ B n k, A = B ++ [n] ∧ lkK m n = some k ∧ k.key ≠ j)) ∨ (t.way j = A ∧ ∃ B n k, A = B ++ [n] ∧ lkK m n = some k ∧ k.key = j))
theorem pure_way_to {K : PySem.W.Frag} {C : Addr} (hC : TrC K C) {vs : List V} {H : Hp} {Q : VK} {E : XK} (h : sp_way_to C vs H Q E) : t_Tree_way_to K ⟨fun _ H' => Q .non H', Q, fun _ _ => False, fun _ _ => False⟩ (start ["self", "root", "key", "found", "here"] vs) H := by
  obtain ⟨p, s, t, j, R, rfl, h0, hr, hl, q⟩ := h
  obtain ⟨cl, n1, n2, n3, n4, n5⟩ := hC
  have hwl := t.way_len j
  replace q : ∀ d H', Has H' ([(d, .lst ((t.way j).map V.int))] :: [(p, .ins C s.dx (treF (.int s.hands) (.ref s.ka) (.int s.made) (tnV s.root) (.ref s.pa)))] :: [(s.ka, dI (mv knR s.knots))] :: [(s.pa, dI (mv tnV s.pinned))] :: famU obK s.knots :: R) → Q (.ref d) H' := fun d H' h' => q d H' ((tre_in (h'.sub (Sub.p1 (Sub.p1 (Sub.p1 (Sub.p1 Sub.rf)))))).sub (Sub.p1 Sub.rf))
  have hh := tre_cut h0
  clear h0
  unfold t_Tree_way_to
  walk_at "go"
  rename_i d H1 h1
  refine k_while (fun m σ H' => ∃ A u, WayI s.knots t j A u ∧ m = u.names.length ∧ σ = [some (.ref p), some (tnV t), some (.int j), some (.ref d), some (tnV u)] ∧ Has H' ([(d, .lst (A.map V.int))] :: [(p, .ins C s.dx (treF (.int s.hands) (.ref s.ka) (.int s.made) (tnV s.root) (.ref s.pa)))] :: [(s.ka, dI (mv knR s.knots))] :: [(s.pa, dI (mv tnV s.pinned))] :: famU obK s.knots :: R)) t.names.length ⟨[], t, ⟨hr, .inl ⟨rfl, .inl rfl⟩⟩, rfl, rfl, h1⟩ (fun m σ H' hw => ?_)
  clear h1 hh
  obtain ⟨A, u, ⟨hu, hw⟩, rfl, rfl, h2⟩ := hw
  have hal : A.length ≤ 30000 := by
    rcases hw with ⟨e, _⟩ | ⟨e, _⟩
    · have := congrArg List.length e
      rw [List.length_append] at this
      omega
    · have := congrArg List.length e
      omega
  cases u with
  | nil =>
    have e : t.way j = A := by
      rcases hw with ⟨e, _⟩ | ⟨e, _⟩
      · rw [e]; exact List.append_nil A
      · exact e
    have h3 := h2
    rw [← e] at h3
    show tAnd _ _ [some (.ref p), some (tnV t), some (.int j), some (.ref d), some .non] H' _
    walk_at "go"
    exact q d H' h3
  | node n k v l r =>
    obtain ⟨hf, hl1, hr1⟩ := hu
    obtain ⟨a, ha⟩ := lk_at hf
    have hva : valV (mv knR s.knots) n = some (.ref a) := mv_some ha
    show tAnd _ _ [some (.ref p), some (tnV t), some (.int j), some (.ref d), some (.int n)] H' _
    -- the body, from a heap with what is known
    have body : ∀ H3, Has H3 ([(d, .lst (A.map V.int))] :: [(p, .ins C s.dx (treF (.int s.hands) (.ref s.ka) (.int s.made) (tnV s.root) (.ref s.pa)))] :: [(s.ka, dI (mv knR s.knots))] :: [(s.pa, dI (mv tnV s.pinned))] :: famU obK s.knots :: R) → (t.way j = A ++ (Tr.node n k v l r).way j) →
        tSeq (tDrop (tBM K "list" rAppend (tVar 3) (tCons (tVar 4) (tNil)))) (tAsg (tIf (tTest (tOp rLtI (tVar 2) (tOp (rIxT K) (tDGet (tFld K (tVar 0) "knots") (tVar 4)) (tC (.int 0))))) (tOp (rIxT K) (tDGet (tFld K (tVar 0) "knots") (tVar 4)) (tC (.int 2))) (tOp (rIxT K) (tDGet (tFld K (tVar 0) "knots") (tVar 4)) (tC (.int 3)))) (gName 4))
          ⟨fun σ' H' => ∃ m', m' < (Tr.node n k v l r).names.length ∧ ∃ A u, WayI s.knots t j A u ∧ m' = u.names.length ∧ σ' = [some (.ref p), some (tnV t), some (.int j), some (.ref d), some (tnV u)] ∧ Has H' ([(d, .lst (A.map V.int))] :: [(p, .ins C s.dx (treF (.int s.hands) (.ref s.ka) (.int s.made) (tnV s.root) (.ref s.pa)))] :: [(s.ka, dI (mv knR s.knots))] :: [(s.pa, dI (mv tnV s.pinned))] :: famU obK s.knots :: R), Q, fun σ H => tRet (tVar 3) ⟨fun _ H' => Q .non H', Q, fun _ _ => False, fun _ _ => False⟩ σ H, fun σ' H' => ∃ m', m' < (Tr.node n k v l r).names.length ∧ ∃ A u, WayI s.knots t j A u ∧ m' = u.names.length ∧ σ' = [some (.ref p), some (tnV t), some (.int j), some (.ref d), some (tnV u)] ∧ Has H' ([(d, .lst (A.map V.int))] :: [(p, .ins C s.dx (treF (.int s.hands) (.ref s.ka) (.int s.made) (tnV s.root) (.ref s.pa)))] :: [(s.ka, dI (mv knR s.knots))] :: [(s.pa, dI (mv tnV s.pinned))] :: famU obK s.knots :: R)⟩ [some (.ref p), some (tnV t), some (.int j), some (.ref d), some (.int n)] H3 := by
      intro H3 h3 ew
      have hlen : (Tr.node n k v l r).names.length = l.names.length + r.names.length + 1 := by show (l.names ++ r.names).length + 1 = _; rw [List.length_append]
      have esz : (A.map V.int).length < sizeLine := by rw [List.length_map, sizeLine_eq]; omega
      clear h2
      walk_at "go"
      rename_i H4 h4
      rw [show A.map V.int ++ [V.int n] = (A ++ [n]).map V.int by rw [List.map_append]; rfl] at h4
      have hta : H4 a = some (.tup [.int k, .int v, oV l.nm, oV r.nm]) := Has.kn (h4.sub (show Sub (famU obK s.knots :: _) _ by walk_at "sub")) ha
      clear h3
      walk_at "go"
      have ew2 : t.way j = A ++ (n :: if j = k then [] else if j < k then l.way j else r.way j) := ew
      refine ifD (fun hlt => ?_) (fun hge => ?_)
      · walk_at "go"
        refine ⟨l.names.length, by omega, A ++ [n], l, ⟨hl1, .inl ⟨?_, .inr ⟨A, n, _, rfl, hf, by show k ≠ j; omega⟩⟩⟩, rfl, rfl, h4⟩
        rw [ew2, if_neg (by omega), if_pos hlt, List.append_assoc]
        rfl
      · walk_at "go"
        by_cases e : j = k
        · refine ⟨r.names.length, by omega, A ++ [n], r, ⟨hr1, .inr ⟨?_, A, n, _, rfl, hf, e.symm⟩⟩, rfl, rfl, h4⟩
          rw [ew2, if_pos e]
        · refine ⟨r.names.length, by omega, A ++ [n], r, ⟨hr1, .inl ⟨?_, .inr ⟨A, n, _, rfl, hf, by show k ≠ j; omega⟩⟩⟩, rfl, rfl, h4⟩
          rw [ew2, if_neg e, if_neg hge, List.append_assoc]
          rfl
    walk_at "go"
    rename_i d3 H3 h3
    rcases hw with ⟨ew, rfl | ⟨B, n', k', rfl, hk', hne⟩⟩ | ⟨ew, B, n', k', rfl, hk', heq⟩
    · refine ifY (by simp) ?_
      walk_at "go"
      exact k_wb (body _ (h3.sub (Sub.skip Sub.rf)) ew)
    · refine ifN (by simp) ?_
      obtain ⟨a', ha'⟩ := lk_at hk'
      have hva' : valV (mv knR s.knots) n' = some (.ref a') := mv_some ha'
      have hta' : H3 a' = some (.tup [.int k'.key, .int k'.value, oV k'.low, oV k'.high]) := Has.kn (h3.sub (show Sub (famU obK s.knots :: _) _ by walk_at "sub")) ha'
      have hat : atI ((B ++ [n']).map V.int) (-1) = some (.int n') := at_end
      walk_at "go"
      refine k_uneg ?_
      walk_at "go"
      refine ifY (by simp [hne]) ?_
      exact k_wb (body _ (h3.sub (Sub.skip Sub.rf)) ew)
    · refine ifN (by simp) ?_
      obtain ⟨a', ha'⟩ := lk_at hk'
      have hva' : valV (mv knR s.knots) n' = some (.ref a') := mv_some ha'
      have hta' : H3 a' = some (.tup [.int k'.key, .int k'.value, oV k'.low, oV k'.high]) := Has.kn (h3.sub (show Sub (famU obK s.knots :: _) _ by walk_at "sub")) ha'
      have hat : atI ((B ++ [n']).map V.int) (-1) = some (.int n') := at_end
      walk_at "go"
      refine k_uneg ?_
      walk_at "go"
      refine ifN (by simp [heq]) ?_
      walk_at "go"
      refine q d _ ?_
      rw [ew]
      exact h3.sub (Sub.skip Sub.rf)
end La
namespace La
open PySem L2 Sy
local macro_rules | `(tactic| walk_at "fl") => `(tactic| first | assumption | exact tre_hands | exact tre_knots | exact tre_made | exact tre_root | exact tre_pinned | kernel_rfl)
local macro_rules | `(tactic| walk_at "put") => `(tactic| first | exact tre_put_hands | exact tre_put_knots | exact tre_put_made | exact tre_put_root | exact tre_put_pinned | exact tre_p1 | exact tre_p2 | exact tre_p3 | exact tre_p4 | exact tre_p5)
local macro_rules | `(tactic| walk_at "fsl") => `(tactic| first | assumption | exact tre_len | (show 0 < 1000; decide) | (show 1 < 1000; decide) | (show 2 < 1000; decide) | (show 3 < 1000; decide) | (show 4 < 1000; decide))
/-! ### trees: values, changes -/
theorem Tr.subs_key (j : Int) : ∀ {t : Tr}, ∀ u ∈ t.subs j, ∃ n k v l r, u = .node n k v l r ∧ k ≠ j
  | .nil, u, hu => by cases hu
  | .node n k v l r, u, hu => by
    unfold Tr.subs at hu
    by_cases e : j = k
    · rw [if_pos e] at hu; cases hu
    · rw [if_neg e] at hu
      rcases List.mem_cons.mp hu with rfl | hu
      · exact ⟨n, k, v, l, r, rfl, fun h => e h.symm⟩
      · by_cases g : j < k
        · rw [if_pos g] at hu; exact Tr.subs_key j u hu
        · rw [if_neg g] at hu; exact Tr.subs_key j u hu
abbrev treL (C p : Addr) (s : Tre) (R : List U) : List U := [(p, .ins C s.dx (treF (.int s.hands) (.ref s.ka) (.int s.made) (tnV s.root) (.ref s.pa)))] :: [(s.ka, dI (mv knR s.knots))] :: [(s.pa, dI (mv tnV s.pinned))] :: famU obK s.knots :: R
def sp_value_from (C : Addr) : Sp := fun vs H Q _ => ∃ (p : Addr) (s : Tre) (t : Tr) (j : Int) (R : List U), vs = [.ref p, tnV t, .int j] ∧ Has H (treU C p s :: R) ∧ t.rep (lkK s.knots) ∧ t.names.length ≤ 30000 ∧
  ∀ H', Has H' (treU C p s :: R) → Q (oV (t.get j)) H'
theorem pure_value_from {K : PySem.W.Frag} {C : Addr} (hC : TrC K C) {vs : List V} {H : Hp} {Q : VK} {E : XK} (h : sp_value_from C vs H Q E) : t_Tree_value_from K C (sp_way_to C) ⟨fun _ H' => Q .non H', Q, fun _ _ => False, fun _ _ => False⟩ (start ["self", "root", "key", "names"] vs) H := by
  obtain ⟨p, s, t, j, R, rfl, h0, hr, hl, q⟩ := h
  obtain ⟨cl, n1, n2, n3, n4, n5⟩ := hC
  have hp := (tre_cut h0).g0
  unfold t_Tree_value_from
  walk_at "go"
  refine ⟨p, s, t, j, R, rfl, h0, hr, hl, fun d H1 h1 => ?_⟩
  clear h0 hp
  rcases Tr.bot_is j t with ⟨_, hg, hw⟩ | ⟨n, v, l, r, hb, hg, hw⟩
  · rw [hw] at h1
    rw [hg] at q
    by_cases hn : t.subs j = []
    · rw [hn] at h1
      walk_at "go"
      rename_i d2 H2 h2
      refine ifY (by rfl) ?_
      walk_at "go"
      exact q _ (h2.sub (Sub.skip (Sub.skip Sub.rf)))
    · obtain ⟨A, u, hA⟩ := last_mem hn
      obtain ⟨n, k, v, l, r, rfl, hk⟩ := Tr.subs_key j u (by rw [hA]; exact List.mem_append.mpr (.inr (List.mem_singleton.mpr rfl)))
      obtain ⟨⟨hf, _, _⟩, _⟩ := Tr.subs_rep j hr (.node n k v l r) (by rw [hA]; exact List.mem_append.mpr (.inr (List.mem_singleton.mpr rfl)))
      obtain ⟨a, ha⟩ := lk_at hf
      have hva : valV (mv knR s.knots) n = some (.ref a) := mv_some ha
      rw [hA, List.map_append] at h1
      have h1 : Has H1 ([(d, .lst ((A.map Tr.name0 ++ [n]).map V.int))] :: treU C p s :: R) := h1
      have hat : atI ((A.map Tr.name0 ++ [n]).map V.int) (-1) = some (.int n) := at_end
      have h2 : Has H1 (treL C p s ([(d, .lst ((A.map Tr.name0 ++ [n]).map V.int))] :: R)) := tre_cut (h1.sub (Sub.p1 (Sub.p0 Sub.rf)))
      clear h1
      walk_at "go"
      rename_i d3 H3 h3
      have hta : H3 a = some (.tup [.int k, .int v, oV l.nm, oV r.nm]) := Has.kn (h3.sub (show Sub (famU obK s.knots :: _) _ by walk_at "sub")) ha
      refine ifN (by simp) ?_
      walk_at "go"
      refine k_uneg ?_
      walk_at "go"
      refine ifY (by simp [hk]) ?_
      walk_at "go"
      exact q _ (tre_in (h3.sub (show Sub (treL C p s R) _ by walk_at "sub")))
  · obtain ⟨hf, _, _⟩ : (Tr.node n j v l r).rep (lkK s.knots) := by rw [← hb]; exact Tr.bot_rep j hr
    obtain ⟨a, ha⟩ := lk_at hf
    have hva : valV (mv knR s.knots) n = some (.ref a) := mv_some ha
    rw [hw] at h1
    rw [hg] at q
    have hat : atI (((t.subs j).map Tr.name0 ++ [n]).map V.int) (-1) = some (.int n) := at_end
    have h2 : Has H1 (treL C p s ([(d, .lst (((t.subs j).map Tr.name0 ++ [n]).map V.int))] :: R)) := tre_cut (h1.sub (Sub.p1 (Sub.p0 Sub.rf)))
    clear h1
    walk_at "go"
    rename_i d3 H3 h3
    have hta : H3 a = some (.tup [.int j, .int v, oV l.nm, oV r.nm]) := Has.kn (h3.sub (show Sub (famU obK s.knots :: _) _ by walk_at "sub")) ha
    refine ifN (by simp) ?_
    walk_at "go"
    refine k_uneg ?_
    walk_at "go"
    refine ifN (by simp) ?_
    walk_at "go"
    refine k_uneg ?_
    walk_at "go"
    exact q _ (tre_in (h3.sub (show Sub (treL C p s R) _ by walk_at "sub")))
/-- knots that were made -/
structure GrowK (k0 : Kns) (m0 : Int) (k1 : Kns) (m1 : Int) : Prop where
  z : 0 ≤ m0
  le : m0 ≤ m1
  ln : (k1.length : Int) = k0.length + (m1 - m0)
  nd : (k1.map (·.1)).Nodup
  lt : ∀ q ∈ k1, 0 ≤ q.1 ∧ q.1 < m1
  up : ∀ n x, lkK k0 n = some x → lkK k1 n = some x
theorem Tre.wf.grow {s : Tre} (w : s.wf) : GrowK s.knots s.made s.knots s.made := ⟨w.m0, Int.le_refl _, by omega, w.nd, w.lt, fun _ _ h => h⟩
theorem GrowK.none {k0 k1 : Kns} {m0 m1 : Int} (g : GrowK k0 m0 k1 m1) : fd k1 m1 = none := fd_none.mpr fun h => by
  obtain ⟨q, hq, e⟩ := List.mem_map.mp h
  have := g.lt q hq
  omega
theorem GrowK.trans {k0 k1 k2 : Kns} {m0 m1 m2 : Int} (g : GrowK k0 m0 k1 m1) (h : GrowK k1 m1 k2 m2) : GrowK k0 m0 k2 m2 := ⟨g.z, by have := g.le; have := h.le; omega, by have := g.ln; have := h.ln; omega, h.nd, h.lt, fun n x e => h.up n x (g.up n x e)⟩
theorem lk_new {k1 : Kns} {m1 : Int} {a : Addr} {kn : Kn} (h : fd k1 m1 = none) : lkK (k1 ++ [(m1, (a, kn))]) m1 = some kn := by
  unfold lkK
  rw [fd_append, h, Option.none_or, fd_pos rfl]
  rfl
theorem lk_old {k1 : Kns} {m1 n : Int} {a : Addr} {kn x : Kn} (h : lkK k1 n = some x) : lkK (k1 ++ [(m1, (a, kn))]) n = some x := by
  obtain ⟨b, hb⟩ := lk_at h
  unfold lkK
  rw [fd_append, hb]
  rfl
theorem GrowK.step {k0 k1 : Kns} {m0 m1 : Int} (g : GrowK k0 m0 k1 m1) (a : Addr) (kn : Kn) : GrowK k0 m0 (k1 ++ [(m1, (a, kn))]) (m1 + 1) := by
  have := g.z
  have := g.le
  refine ⟨g.z, by omega, ?_, ?_, fun q hq => ?_, fun n x e => lk_old (g.up n x e)⟩
  · rw [List.length_append]
    have := g.ln
    show ((k1.length + 1 : Nat) : Int) = _
    omega
  · rw [List.map_append]
    exact nodup_snoc g.nd fun h => by
      obtain ⟨q, hq, e⟩ := List.mem_map.mp h
      have e : q.1 = m1 := e
      have := g.lt q hq
      omega
  · rcases List.mem_append.mp hq with hq | hq
    · have := g.lt q hq
      omega
    · rw [List.mem_singleton.mp hq]
      show 0 ≤ m1 ∧ m1 < m1 + 1
      omega
def sp_rebuilt (C : Addr) : Sp := fun vs H Q _ => ∃ (p d : Addr) (s : Tre) (us : List Tr) (t0 : Tr) (j : Int) (R : List U), vs = [.ref p, .ref d, .int j, tnV t0] ∧ Has H (treU C p s :: [(d, .lst ((us.map Tr.name0).map V.int))] :: R) ∧ GrowK s.knots s.made s.knots s.made ∧ s.knots.length ≤ 25000 ∧ us.length ≤ 1000 ∧
  (∀ u ∈ us, u.rep (lkK s.knots) ∧ ∃ n k v l r, u = .node n k v l r) ∧ t0.rep (lkK s.knots) ∧
  ∀ ks H', GrowK s.knots s.made ks (us.foldr (Tr.wrap j) (t0, s.made)).2 → (us.foldr (Tr.wrap j) (t0, s.made)).1.rep (lkK ks) → Has H' (treU C p { s with made := (us.foldr (Tr.wrap j) (t0, s.made)).2, knots := ks } :: [(d, .lst ((us.map Tr.name0).map V.int))] :: R) → Q (tnV (us.foldr (Tr.wrap j) (t0, s.made)).1) H'
theorem pure_rebuilt {K : PySem.W.Frag} {C : Addr} (hC : TrC K C) {vs : List V} {H : Hp} {Q : VK} {E : XK} (h : sp_rebuilt C vs H Q E) : t_Tree_rebuilt K C (sp_new_knot C) ⟨fun _ H' => Q .non H', Q, fun _ _ => False, fun _ _ => False⟩ (start ["self", "names", "key", "below", "name", "mine", "value", "low", "high"] vs) H := by
  obtain ⟨p, d, s, us, t0, j, R, rfl, h0, g0, kl, ul, hu, ht, q⟩ := h
  obtain ⟨cl, n1, n2, n3, n4, n5⟩ := hC
  unfold t_Tree_rebuilt
  have hd : H d = some (.lst ((us.map Tr.name0).map V.int)) := (h0.sub (Sub.p1 Sub.rf)).g0
  walk_at "go"
  rename_i d2 H2 h2
  clear h0
  rw [show ((us.map Tr.name0).map V.int).reverse = us.reverse.map fun u => V.int u.name0 by rw [List.map_map, ← List.map_reverse]; rfl] at h2
  refine k_forL (fun i σ H' => ∃ (ks : Kns) (w4 w5 w6 w7 w8 : Option V), GrowK s.knots s.made ks ((us.reverse.take i).foldl (fun a f => Tr.wrap j f a) (t0, s.made)).2 ∧ ((us.reverse.take i).foldl (fun a f => Tr.wrap j f a) (t0, s.made)).1.rep (lkK ks) ∧ ks.length ≤ s.knots.length + i ∧ σ = [some (.ref p), some (.ref d), some (.int j), some (tnV ((us.reverse.take i).foldl (fun a f => Tr.wrap j f a) (t0, s.made)).1), w4, w5, w6, w7, w8] ∧
    Has H' ([(d2, .lst (us.reverse.map fun u => V.int u.name0))] :: treU C p { s with made := ((us.reverse.take i).foldl (fun a f => Tr.wrap j f a) (t0, s.made)).2, knots := ks } :: [(d, .lst ((us.map Tr.name0).map V.int))] :: R)) h2.g0 ⟨s.knots, _, _, _, _, _, g0, ht, Nat.le_refl _, rfl, h2⟩ (fun i σ H' hP => ?_) (fun i x σ H' hx hP => ?_) (fun σ H' hP => ?_)
  · obtain ⟨ks, w4, w5, w6, w7, w8, _, _, _, _, h'⟩ := hP
    exact h'.g0
  · obtain ⟨ks, w4, w5, w6, w7, w8, g, hrep, hkl, rfl, h'⟩ := hP
    rw [List.getElem?_map] at hx
    obtain ⟨u, hu1, rfl⟩ := Option.map_eq_some_iff.mp hx
    have hil : i < us.length := by
      have := (List.getElem?_eq_some_iff.mp hu1).1
      rw [List.length_reverse] at this
      exact this
    obtain ⟨hur, n, k, v, l, r, rfl⟩ := hu u (List.mem_reverse.mp (List.mem_of_getElem? hu1))
    obtain ⟨hf, hlr, hrr⟩ := Tr.rep_mono g.up hur
    obtain ⟨a, ha⟩ := lk_at hf
    have et : us.reverse.take (i + 1) = us.reverse.take i ++ [.node n k v l r] := by rw [List.take_add_one, hu1]; rfl
    have ef : (us.reverse.take (i + 1)).foldl (fun a f => Tr.wrap j f a) (t0, s.made) = Tr.wrap j (.node n k v l r) ((us.reverse.take i).foldl (fun a f => Tr.wrap j f a) (t0, s.made)) := by rw [et, List.foldl_append]; rfl
    rw [ef]
    generalize (us.reverse.take i).foldl (fun a f => Tr.wrap j f a) (t0, s.made) = acc at *
    obtain ⟨ta, ma⟩ := acc
    have g : GrowK s.knots s.made ks ma := g
    have hrep : ta.rep (lkK ks) := hrep
    clear h2 hd
    have h3 : Has H' (treL C p { s with made := ma, knots := ks } ([(d2, .lst (us.reverse.map fun u => V.int u.name0))] :: [(d, .lst ((us.map Tr.name0).map V.int))] :: R)) := tre_cut (h'.sub (Sub.p1 (Sub.p0 Sub.rf)))
    have hta : H' a = some (.tup [.int k, .int v, oV l.nm, oV r.nm]) := Has.kn (h3.sub (show Sub (famU obK ks :: _) _ by walk_at "sub")) ha
    have hva : valV (mv knR ks) n = some (.ref a) := mv_some ha
    show gName 4 (.int n) [some (.ref p), some (.ref d), some (.int j), some (tnV ta), w4, w5, w6, w7, w8] H' _
    clear h'
    walk_at "go"
    refine ifD (fun hlt => ?_) (fun hge => ?_)
    · walk_at "go"
      rename_i d4 H4 h4
      refine ⟨p, { s with made := ma, knots := ks }, ⟨k, v, ta.nm, r.nm⟩, _, rfl, tre_in (h4.sub (show Sub (treL C p { s with made := ma, knots := ks } ([(d2, _)] :: [(d, _)] :: R)) _ by walk_at "sub")), g.none, by show ks.length ≤ 30000; omega, fun b H5 h5 => ?_⟩
      have ew : Tr.wrap j (.node n k v l r) (ta, ma) = (.node ma k v ta r, ma + 1) := by show (if j < k then _ else _) = _; rw [if_pos hlt]
      rw [ew]
      walk_at "go"
      refine ⟨ks ++ [(ma, (b, ⟨k, v, ta.nm, r.nm⟩))], _, _, _, _, _, g.step b _, ⟨lk_new g.none, Tr.rep_mono (fun n x e => lk_old e) hrep, Tr.rep_mono (fun n x e => lk_old e) hrr⟩, ?_, rfl, h5.sub (Sub.p1 (Sub.p0 Sub.rf))⟩
      rw [List.length_append]
      show ks.length + 1 ≤ _
      omega
    · walk_at "go"
      rename_i d4 H4 h4
      refine ⟨p, { s with made := ma, knots := ks }, ⟨k, v, l.nm, ta.nm⟩, _, rfl, tre_in (h4.sub (show Sub (treL C p { s with made := ma, knots := ks } ([(d2, _)] :: [(d, _)] :: R)) _ by walk_at "sub")), g.none, by show ks.length ≤ 30000; omega, fun b H5 h5 => ?_⟩
      have ew : Tr.wrap j (.node n k v l r) (ta, ma) = (.node ma k v l ta, ma + 1) := by show (if j < k then _ else _) = _; rw [if_neg hge]
      rw [ew]
      walk_at "go"
      refine ⟨ks ++ [(ma, (b, ⟨k, v, l.nm, ta.nm⟩))], _, _, _, _, _, g.step b _, ⟨lk_new g.none, Tr.rep_mono (fun n x e => lk_old e) hlr, Tr.rep_mono (fun n x e => lk_old e) hrep⟩, ?_, rfl, h5.sub (Sub.p1 (Sub.p0 Sub.rf))⟩
      rw [List.length_append]
      show ks.length + 1 ≤ _
      omega
  · obtain ⟨ks, w4, w5, w6, w7, w8, g, hrep, hkl, rfl, h'⟩ := hP
    have e1 : us.reverse.take (us.reverse.map fun u => V.int u.name0).length = us.reverse := by rw [List.length_map]; exact List.take_length
    rw [e1, List.foldl_reverse] at g hrep h'
    rw [e1, List.foldl_reverse]
    walk_at "go"
    exact q ks H' g hrep (h'.sub (Sub.skip Sub.rf))
def sp_trput (C : Addr) : Sp := fun vs H Q _ => ∃ (p : Addr) (s : Tre) (j x : Int) (R : List U), vs = [.ref p, .int j, .int x] ∧ Has H (treU C p s :: R) ∧ s.wf ∧ s.root.names.length ≤ 900 ∧ s.made ≤ 10000 ∧ 0 ≤ j ∧ j ≤ 999 ∧ 0 ≤ x ∧ x ≤ 999 ∧
  ∀ ks H', GrowK s.knots s.made ks (s.root.ins j x s.made).2 → (s.root.ins j x s.made).1.rep (lkK ks) → Has H' (treU C p { s with made := (s.root.ins j x s.made).2, knots := ks, root := (s.root.ins j x s.made).1 } :: R) → Q (.int ((s.root.ins j x s.made).2 - s.made)) H'
theorem pure_trput {K : PySem.W.Frag} {C : Addr} (hC : TrC K C) {vs : List V} {H : Hp} {Q : VK} {E : XK} (h : sp_trput C vs H Q E) : t_Tree_put K C sp_look_number (sp_way_to C) (sp_rebuilt C) (sp_new_knot C) ⟨fun _ H' => Q .non H', Q, fun _ _ => False, fun _ _ => False⟩ (start ["self", "key", "value", "before", "names", "low", "high"] vs) H := by
  obtain ⟨p, s, j, x, R, rfl, h0, w, nl, ml, j0, j9, x0, x9, q⟩ := h
  have hC0 := hC
  obtain ⟨cl, n1, n2, n3, n4, n5⟩ := hC
  have hkl := w.kl
  have hsl := Tr.subs_len j s.root
  -- the end, with the ways' names and what is below
  have tail : ∀ (L R2 : Tr) (d : Addr) (H1 : Hp), L.rep (lkK s.knots) → R2.rep (lkK s.knots) → (s.root.bot j).ins j x s.made = (.node s.made j x L R2, s.made + 1) → Has H1 (treL C p s ([(d, .lst (((s.root.subs j).map Tr.name0).map V.int))] :: R)) →
      tSeq (sFld K (tVar 0) (tMeth C "rebuilt" (sp_rebuilt C) [] E0 (tVar 0) (tCons (tVar 4) (tCons (tVar 1) (tCons (tMeth C "new_knot" (sp_new_knot C) [] E0 (tVar 0) (tCons (tVar 1) (tCons (tVar 2) (tCons (tVar 5) (tCons (tVar 6) (tNil)))))) (tNil))))) "root")
        (tRet (tOp rSubI (tFld K (tVar 0) "made") (tVar 3))) ⟨fun _ H' => Q .non H', Q, fun _ _ => False, fun _ _ => False⟩ [some (.ref p), some (.int j), some (.int x), some (.int s.made), some (.ref d), some (oV L.nm), some (oV R2.nm)] H1 := by
    intro L R2 d H1 hL hR hb h1
    walk_at "go"
    refine ⟨p, s, ⟨j, x, L.nm, R2.nm⟩, _, rfl, tre_in h1, w.grow.none, by omega, fun b H2 h2 => ?_⟩
    have g1 := w.grow.step b ⟨j, x, L.nm, R2.nm⟩
    have ei : s.root.ins j x s.made = (s.root.subs j).foldr (Tr.wrap j) (.node s.made j x L R2, s.made + 1) := by rw [Tr.ins_fold, hb]
    refine ⟨p, d, s.add b ⟨j, x, L.nm, R2.nm⟩, s.root.subs j, .node s.made j x L R2, j, R, rfl, h2, ⟨by show 0 ≤ s.made + 1; have := w.m0; omega, Int.le_refl _, by omega, g1.nd, g1.lt, fun _ _ h => h⟩, ?_, by omega, fun u hu => ?_, ⟨lk_new w.grow.none, Tr.rep_mono (fun n x e => lk_old e) hL, Tr.rep_mono (fun n x e => lk_old e) hR⟩, fun ks H3 g3 hrep h3 => ?_⟩
    · show (s.knots ++ [_]).length ≤ 25000
      rw [List.length_append]
      show s.knots.length + 1 ≤ 25000
      omega
    · obtain ⟨q1, q2⟩ := Tr.subs_rep j w.rr.r u hu
      exact ⟨Tr.rep_mono (fun n x e => lk_old e) q1, q2⟩
    have e2 : (s.root.subs j).foldr (Tr.wrap j) (.node s.made j x L R2, (s.add b ⟨j, x, L.nm, R2.nm⟩).made) = s.root.ins j x s.made := ei.symm
    rw [e2] at g3 hrep h3 ⊢
    have h4 : Has H3 (treL C p { s with made := (s.root.ins j x s.made).2, knots := ks } ([(d, .lst (((s.root.subs j).map Tr.name0).map V.int))] :: R)) := tre_cut h3
    clear h1 h2 h3
    walk_at "go"
    rename_i H5 h5
    refine q ks _ (g1.trans g3) hrep (tre_in ?_)
    exact h5.sub (show Sub (treL C p { s with made := (s.root.ins j x s.made).2, knots := ks, root := (s.root.ins j x s.made).1 } R) _ by walk_at "sub")
  have h1 : Has H (treL C p s R) := tre_cut h0
  unfold t_Tree_put
  walk_at "go"
  refine ⟨j, 0, 999, rfl, j0, j9, ?_⟩
  walk_at "go"
  refine ⟨x, 0, 999, rfl, x0, x9, ?_⟩
  walk_at "go"
  refine ⟨p, s, s.root, j, R, rfl, h0, w.rr.r, by omega, fun d H2 h2 => ?_⟩
  clear h0 h1
  rcases Tr.bot_is j s.root with ⟨hbn, hg, hw⟩ | ⟨n, v, l, r, hb, hg, hw⟩
  · rw [hw] at h2
    have hbi : (s.root.bot j).ins j x s.made = (.node s.made j x .nil .nil, s.made + 1) := by rw [hbn]; rfl
    by_cases hn : s.root.subs j = []
    · rw [hn] at h2 tail
      have h3 : Has H2 (treL C p s ([(d, .lst ((([] : List Tr).map Tr.name0).map V.int))] :: R)) := tre_cut (h2.sub (Sub.p1 (Sub.p0 Sub.rf)))
      clear h2
      walk_at "go"
      rename_i d3 H3 h3 d4 H4 h4
      refine ifN (by rfl) (ifF (x_next ?_))
      exact tail .nil .nil d _ trivial trivial hbi (h4.sub (show Sub (treL C p s ([(d, _)] :: R)) _ by walk_at "sub"))
    · obtain ⟨A, u, hA⟩ := last_mem hn
      obtain ⟨n, k, v, l, r, rfl, hk⟩ := Tr.subs_key j u (by rw [hA]; exact List.mem_append.mpr (.inr (List.mem_singleton.mpr rfl)))
      obtain ⟨⟨hf, _, _⟩, _⟩ := Tr.subs_rep j w.rr.r (.node n k v l r) (by rw [hA]; exact List.mem_append.mpr (.inr (List.mem_singleton.mpr rfl)))
      obtain ⟨a, ha⟩ := lk_at hf
      have hva : valV (mv knR s.knots) n = some (.ref a) := mv_some ha
      have eA : (s.root.subs j).map Tr.name0 = A.map Tr.name0 ++ [n] := by rw [hA, List.map_append]; rfl
      rw [eA] at h2 tail
      have hat : atI ((A.map Tr.name0 ++ [n]).map V.int) (-1) = some (.int n) := at_end
      have h3 : Has H2 (treL C p s ([(d, .lst ((A.map Tr.name0 ++ [n]).map V.int))] :: R)) := tre_cut (h2.sub (Sub.p1 (Sub.p0 Sub.rf)))
      clear h2
      walk_at "go"
      rename_i d3 H3 h3 d4 H4 h4
      have hta : H4 a = some (.tup [.int k, .int v, oV l.nm, oV r.nm]) := Has.kn (h4.sub (show Sub (famU obK s.knots :: _) _ by walk_at "sub")) ha
      refine ifY (by simp) ?_
      walk_at "go"
      refine k_uneg ?_
      walk_at "go"
      refine ifN (by simp [hk]) (x_next ?_)
      exact tail .nil .nil d _ trivial trivial hbi (h4.sub (show Sub (treL C p s ([(d, _)] :: R)) _ by walk_at "sub"))
  · have hbr : (Tr.node n j v l r).rep (lkK s.knots) := by rw [← hb]; exact Tr.bot_rep j w.rr.r
    obtain ⟨hf, hlr, hrr⟩ := hbr
    obtain ⟨a, ha⟩ := lk_at hf
    have hva : valV (mv knR s.knots) n = some (.ref a) := mv_some ha
    have hbi : (s.root.bot j).ins j x s.made = (.node s.made j x l r, s.made + 1) := by
      rw [hb]
      show (if j = j then _ else _) = _
      rw [if_pos rfl]
    rw [hw] at h2
    have hat : atI (((s.root.subs j).map Tr.name0 ++ [n]).map V.int) (-1) = some (.int n) := at_end
    have h3 : Has H2 (treL C p s ([(d, .lst (((s.root.subs j).map Tr.name0 ++ [n]).map V.int))] :: R)) := tre_cut (h2.sub (Sub.p1 (Sub.p0 Sub.rf)))
    clear h2
    walk_at "go"
    rename_i d3 H3 h3 d4 H4 h4
    have hta : H4 a = some (.tup [.int j, .int v, oV l.nm, oV r.nm]) := Has.kn (h4.sub (show Sub (famU obK s.knots :: _) _ by walk_at "sub")) ha
    refine ifY (by simp) ?_
    walk_at "go"
    refine k_uneg ?_
    walk_at "go"
    refine ifY (by simp) ?_
    walk_at "go"
    refine x_slT ?_
    have hpop : (((s.root.subs j).map Tr.name0 ++ [n]).map V.int)[(((s.root.subs j).map Tr.name0 ++ [n]).map V.int).length - 1]? = some (.int n) := by
      rw [List.map_append, List.length_append]
      simp
    walk_at "go"
    rename_i H5 h5
    have hta : H5 a = some (.tup [.int j, .int v, oV l.nm, oV r.nm]) := Has.kn (h5.sub (show Sub (famU obK s.knots :: _) _ by walk_at "sub")) ha
    walk_at "go"
    refine x_partC ?_
    refine x_noPart ?_
    refine k_cut4 h5 hta fun d6 H6 h6 => ?_
    refine x_gtup h6.g0 rfl (x_gcons (x_gname (x_gcons (x_gname (x_gnil ?_)))))
    rw [show (((s.root.subs j).map Tr.name0 ++ [n]).map V.int).dropLast = ((s.root.subs j).map Tr.name0).map V.int by rw [List.map_append]; exact List.dropLast_concat] at h6
    exact tail l r d _ hlr hrr hbi (h6.sub (show Sub (treL C p s ([(d, _)] :: R)) _ by walk_at "sub"))
theorem Tre.wf.put {s : Tre} (w : s.wf) {j x : Int} {ks : Kns} (h9 : (s.root.ins j x s.made).2 ≤ 20000) (g : GrowK s.knots s.made ks (s.root.ins j x s.made).2) (hr : (s.root.ins j x s.made).1.rep (lkK ks)) : ({ s with made := (s.root.ins j x s.made).2, knots := ks, root := (s.root.ins j x s.made).1 } : Tre).wf where
  nd := g.nd
  lt := g.lt
  m0 := by have := w.m0; have := g.le; show 0 ≤ (s.root.ins j x s.made).2; omega
  m9 := h9
  kl := by have := g.ln; have := w.kl; show (ks.length : Int) ≤ (s.root.ins j x s.made).2; omega
  rr := ⟨hr, Tr.ins_ord j x _ w.rr.o, Tr.ins_nodup j x _ w.rr.n fun z hz => by
    obtain ⟨q, hq, e⟩ := List.mem_map.mp (Tr.rep_mem w.rr.r z hz)
    have := w.lt q hq
    omega⟩
  pp := fun q hq => ⟨Tr.rep_mono g.up (w.pp q hq).r, (w.pp q hq).o, (w.pp q hq).n⟩
  pn := w.pn
  pl := w.pl
def sp_get_now (C : Addr) : Sp := fun vs H Q _ => ∃ (p : Addr) (s : Tre) (j : Int) (R : List U), vs = [.ref p, .int j] ∧ Has H (treU C p s :: R) ∧ s.wf ∧ 0 ≤ j ∧ j ≤ 999 ∧ ∀ H', Has H' (treU C p s :: R) → Q (oV (s.root.get j)) H'
theorem Tre.wf.rl {s : Tre} (w : s.wf) : s.root.names.length ≤ 20000 := by
  have := w.rr.len
  have := w.kl
  have := w.m9
  omega
theorem Tre.wf.ql {s : Tre} (w : s.wf) {q : Int × Tr} (h : q ∈ s.pinned) : q.2.names.length ≤ 20000 := by
  have := (w.pp q h).len
  have := w.kl
  have := w.m9
  omega
theorem pure_get_now {K : PySem.W.Frag} {C : Addr} (hC : TrC K C) {vs : List V} {H : Hp} {Q : VK} {E : XK} (h : sp_get_now C vs H Q E) : t_Tree_get_now K C sp_look_number (sp_value_from C) ⟨fun _ H' => Q .non H', Q, fun _ _ => False, fun _ _ => False⟩ (start ["self", "key"] vs) H := by
  obtain ⟨p, s, j, R, rfl, h0, w, j0, j9, q⟩ := h
  obtain ⟨cl, n1, n2, n3, n4, n5⟩ := hC
  have hrl := w.rl
  have h1 : Has H (treL C p s R) := tre_cut h0
  unfold t_Tree_get_now
  walk_at "go"
  refine ⟨j, 0, 999, rfl, j0, j9, ?_⟩
  walk_at "go"
  exact ⟨p, s, s.root, j, R, rfl, h0, w.rr.r, by omega, q⟩
end La
namespace La
open PySem L2 Sy
local macro_rules | `(tactic| walk_at "fl") => `(tactic| first | assumption | exact tre_hands | exact tre_knots | exact tre_made | exact tre_root | exact tre_pinned | kernel_rfl)
local macro_rules | `(tactic| walk_at "put") => `(tactic| first | exact tre_put_hands | exact tre_put_knots | exact tre_put_made | exact tre_put_root | exact tre_put_pinned | exact tre_p1 | exact tre_p2 | exact tre_p3 | exact tre_p4 | exact tre_p5)
local macro_rules | `(tactic| walk_at "fsl") => `(tactic| first | assumption | exact tre_len | (show 0 < 1000; decide) | (show 1 < 1000; decide) | (show 2 < 1000; decide) | (show 3 < 1000; decide) | (show 4 < 1000; decide))
/-! ### trees: pairs, hands, sweeps -/
def sumS (ts : List Tr) : Nat := (ts.map fun t => 2 * t.names.length + 1).sum
theorem sumS_app (A B : List Tr) : sumS (A ++ B) = sumS A + sumS B := by unfold sumS; rw [List.map_append, List.sum_append]
theorem len_sumS : ∀ ts : List Tr, ts.length ≤ sumS ts
  | [] => Nat.le_refl _
  | t :: r => by
    have := len_sumS r
    show r.length + 1 ≤ (2 * t.names.length + 1) + sumS r
    omega
theorem pop_end {A : List (Option Int)} {o : Option Int} : ((A ++ [o]).map oV)[((A ++ [o]).map oV).length - 1]? = some (oV o) := by
  rw [List.map_append, List.length_append]
  simp
theorem pop_rest {A : List (Option Int)} {o : Option Int} : ((A ++ [o]).map oV).dropLast = A.map oV := by
  rw [List.map_append]
  exact List.dropLast_concat
def sp_pairs_from (C : Addr) : Sp := fun vs H Q _ => ∃ (p : Addr) (s : Tre) (t : Tr) (R : List U), vs = [.ref p, tnV t] ∧ Has H (treU C p s :: R) ∧ t.rep (lkK s.knots) ∧ t.names.length ≤ 20000 ∧
  ∀ (ys : Prs) d H', (ys.map (·.2)).Perm t.prs → (ys.map (·.2)).Pairwise leP → Has H' ([(d, .lst (prR ys))] :: prU ys :: treU C p s :: R) → Q (.ref d) H'
theorem pure_pairs_from {K : PySem.W.Frag} {C : Addr} (hC : TrC K C) {vs : List V} {H : Hp} {Q : VK} {E : XK} (h : sp_pairs_from C vs H Q E) : t_Tree_pairs_from K ⟨fun _ H' => Q .non H', Q, fun _ _ => False, fun _ _ => False⟩ (start ["self", "root", "found", "rest", "here", "key", "value", "low", "high"] vs) H := by
  obtain ⟨p, s, t, R, rfl, h0, hr, hl, q⟩ := h
  obtain ⟨cl, n1, n2, n3, n4, n5⟩ := hC
  have h1 : Has H (treL C p s R) := tre_cut h0
  clear h0
  unfold t_Tree_pairs_from
  walk_at "go"
  rename_i d H2 h2 e H3 h3
  refine k_while (fun m σ H' => ∃ (zs : Prs) (ts : List Tr) (e : Addr) (w4 w5 w6 w7 w8 : Option V), (∀ u ∈ ts, u.rep (lkK s.knots)) ∧ (zs.map (·.2) ++ ts.flatMap Tr.prs).Perm t.prs ∧ m = sumS ts ∧ m ≤ 2 * t.names.length + 1 ∧ σ = [some (.ref p), some (tnV t), some (.ref d), some (.ref e), w4, w5, w6, w7, w8] ∧ Has H' ([(e, .lst ((ts.map Tr.nm).map oV))] :: [(d, .lst (prR zs))] :: prU zs :: treL C p s R)) (2 * t.names.length + 1) ⟨[], [t], e, _, _, _, _, _, fun u hu => by rw [List.mem_singleton.mp hu]; exact hr, by simp, by unfold sumS; simp, Nat.le_refl _, rfl, (Has.nilU.mpr h3).sub (show Sub ([(e, _)] :: [(d, _)] :: [] :: _) _ from Sub.p1 (Sub.p1 (Sub.p0 Sub.rf)))⟩ (fun m σ H' hw => ?_)
  clear h1 h2 h3
  obtain ⟨zs, ts, e, w4, w5, w6, w7, w8, hts, hpm, rfl, hm9, rfl, h4⟩ := hw
  have hzl : zs.length ≤ t.names.length := by
    have := hpm.length_eq
    rw [List.length_append, List.length_map, Tr.len_eq] at this
    omega
  have htl := len_sumS ts
  walk_at "go"
  rename_i d5 H5 h5
  refine k_neOs (by walk_at "hp") (by walk_at "hp") ?_
  have h6 := h5.sub (Sub.skip Sub.rf)
  clear h4 h5
  walk_at "go"
  by_cases hn : ts = []
  · subst hn
    refine ifN (by rfl) ?_
    walk_at "go"
    have hz : (zs.map (·.2)).Perm t.prs := by simpa using hpm
    refine k_sortP (L := [(e, .lst [])] :: [(d, .lst (prR zs))] :: treL C p s R) (h6.sub (Sub.p2 (Sub.p0 (Sub.p0 Sub.rf)))) h6.g1 fun ys d7 H7 hp7 ho7 h7 => ?_
    refine q ys d7 H7 ((hp7.map (·.2)).trans hz) ho7 ?_
    have h8 := Has.permU (h7.sub (show Sub (prU zs :: _) _ from Sub.p1 Sub.rf)) (fmU_perm (ob := obP) hp7.symm)
    exact ((tre_in (h8.sub (show Sub (treL C p s (prU ys :: [(d7, _)] :: R)) _ by walk_at "sub"))).sub (Sub.p2 (Sub.p1 Sub.rf)))
  · obtain ⟨A, u, rfl⟩ := last_mem hn
    refine ifY (by simp) ?_
    refine k_wb ?_
    rw [List.map_append] at h6
    have h6 : Has H5 ([(e, .lst ((A.map Tr.nm ++ [u.nm]).map oV))] :: [(d, .lst (prR zs))] :: prU zs :: treL C p s R) := h6
    have hlast := @pop_end (A.map Tr.nm) u.nm
    have hrs := @pop_rest (A.map Tr.nm) u.nm
    have hsA : sumS (A ++ [u]) = sumS A + (2 * u.names.length + 1) := by rw [sumS_app]; unfold sumS; simp
    have hA : ∀ x ∈ A, x.rep (lkK s.knots) := fun x hx => hts x (List.mem_append.mpr (.inl hx))
    have hu := hts u (List.mem_append.mpr (.inr (List.mem_singleton.mpr rfl)))
    have hpm : (zs.map (·.2) ++ (A.flatMap Tr.prs ++ u.prs)).Perm t.prs := by
      rw [List.flatMap_append] at hpm
      simpa using hpm
    cases u with
    | nil =>
      have hlast : ((A.map Tr.nm ++ [Tr.nil.nm]).map oV)[((A.map Tr.nm ++ [Tr.nil.nm]).map oV).length - 1]? = some .non := hlast
      walk_at "go"
      rename_i H7 h7
      rw [hrs] at h7
      refine ⟨sumS A, by omega, zs, A, e, _, _, _, _, _, hA, ?_, rfl, by omega, rfl, h7⟩
      have hpm : (zs.map (·.2) ++ (A.flatMap Tr.prs ++ ([] : List (Int × Int)))).Perm t.prs := hpm
      rw [List.append_nil] at hpm
      exact hpm
    | node n k v l r =>
      have hlast : ((A.map Tr.nm ++ [(Tr.node n k v l r).nm]).map oV)[((A.map Tr.nm ++ [(Tr.node n k v l r).nm]).map oV).length - 1]? = some (.int n) := hlast
      obtain ⟨hf, hlr, hrr⟩ := hu
      obtain ⟨a, ha⟩ := lk_at hf
      have hva : valV (mv knR s.knots) n = some (.ref a) := mv_some ha
      have hnl : (Tr.node n k v l r).names.length = l.names.length + r.names.length + 1 := by show (l.names ++ r.names).length + 1 = _; rw [List.length_append]
      have hsB : sumS (A ++ [l, r]) = sumS A + (2 * l.names.length + 1 + (2 * r.names.length + 1)) := by rw [sumS_app]; unfold sumS; simp
      have htA := len_sumS A
      walk_at "go"
      rename_i H7 h7
      rw [hrs] at h7
      have hta : H7 a = some (.tup [.int k, .int v, oV l.nm, oV r.nm]) := Has.kn (h7.sub (show Sub (famU obK s.knots :: _) _ by walk_at "sub")) ha
      have hzs : (prR zs).length < sizeLine := by rw [sizeLine_eq]; unfold prR fmR; rw [List.length_map]; omega
      walk_at "go"
      rename_i tp H8 h8 H9 h9 d10 H10 h10 e2 H11 h11
      clear h6 h7 h8 h9 h10
      refine ⟨sumS (A ++ [l, r]), by omega, zs ++ [(tp, (k, v))], A ++ [l, r], e2, _, _, _, _, _, fun x hx => ?_, ?_, rfl, by omega, rfl, ?_⟩
      · rcases List.mem_append.mp hx with hx | hx
        · exact hA x hx
        · rcases (by simpa using hx : x = l ∨ x = r) with rfl | rfl
          · exact hlr
          · exact hrr
      · rw [List.flatMap_append, List.map_append, List.append_assoc]
        have e1 : [l, r].flatMap Tr.prs = l.prs ++ r.prs := by simp
        rw [e1]
        have hpm : (zs.map (·.2) ++ (A.flatMap Tr.prs ++ ((k, v) :: (l.prs ++ r.prs)))).Perm t.prs := hpm
        show (zs.map (·.2) ++ ((k, v) :: (A.flatMap Tr.prs ++ (l.prs ++ r.prs)))).Perm t.prs
        exact (List.Perm.append_left _ List.perm_middle.symm).trans hpm
      · have e2' : (A.map Tr.nm).map oV ++ [oV l.nm, oV r.nm] = ((A ++ [l, r]).map Tr.nm).map oV := by rw [List.map_append, List.map_append]; rfl
        rw [e2'] at h11
        rw [show prR zs ++ [V.ref tp] = prR (zs ++ [(tp, (k, v))]) from (fmR_snoc zs tp (k, v)).symm] at h11
        have h12 := Has.op.mpr (h11.sub (show Sub (prU zs :: [(tp, _)] :: _) _ by walk_at "sub"))
        rw [show prU (zs ++ [(tp, (k, v))]) = prU zs ++ [(tp, obP (k, v))] from fmU_snoc obP zs tp (k, v)]
        exact h12.sub (show Sub ([(e2, _)] :: [(d, _)] :: (prU zs ++ [(tp, _)]) :: treL C p s R) _ by walk_at "sub")
def sp_pairs_now (C : Addr) : Sp := fun vs H Q _ => ∃ (p : Addr) (s : Tre) (R : List U), vs = [.ref p] ∧ Has H (treU C p s :: R) ∧ s.wf ∧
  ∀ (ys : Prs) d H', (ys.map (·.2)).Perm s.root.prs → (ys.map (·.2)).Pairwise leP → Has H' ([(d, .lst (prR ys))] :: prU ys :: treU C p s :: R) → Q (.ref d) H'
theorem pure_pairs_now {K : PySem.W.Frag} {C : Addr} (hC : TrC K C) {vs : List V} {H : Hp} {Q : VK} {E : XK} (h : sp_pairs_now C vs H Q E) : t_Tree_pairs_now K C (sp_pairs_from C) ⟨fun _ H' => Q .non H', Q, fun _ _ => False, fun _ _ => False⟩ (start ["self"] vs) H := by
  obtain ⟨p, s, R, rfl, h0, w, q⟩ := h
  obtain ⟨cl, n1, n2, n3, n4, n5⟩ := hC
  have h1 : Has H (treL C p s R) := tre_cut h0
  unfold t_Tree_pairs_now
  walk_at "go"
  exact ⟨p, s, s.root, R, rfl, h0, w.rr.r, w.rl, q⟩
def sp_trbegin (C : Addr) : Sp := fun vs H Q _ => ∃ (p : Addr) (s : Tre) (k : Int) (R : List U), vs = [.ref p, .int k] ∧ Has H (treU C p s :: R) ∧ s.pinned.length ≤ 1000 ∧ 0 ≤ k ∧ k < s.hands ∧ fd s.pinned k = none ∧
  ∀ H', Has H' (treU C p { s with pinned := pu s.pinned k s.root } :: R) → Q .non H'
theorem pure_trbegin {K : PySem.W.Frag} {C : Addr} (hC : TrC K C) {vs : List V} {H : Hp} {Q : VK} {E : XK} (h : sp_trbegin C vs H Q E) : t_Tree_begin K C (sp_trlook_hand C) ⟨fun _ H' => Q .non H', Q, fun _ _ => False, fun _ _ => False⟩ (start ["self", "hand"] vs) H := by
  obtain ⟨p, s, k, R, rfl, h0, hl, k0, k1, hf, q⟩ := h
  obtain ⟨cl, n1, n2, n3, n4, n5⟩ := hC
  have e1 : (mv tnV s.pinned).length < sizeLine := by rw [mv_len, sizeLine_eq]; omega
  have h1 : Has H (treL C p s R) := tre_cut h0
  unfold t_Tree_begin
  walk_at "go"
  refine ⟨p, s, k, R, rfl, h0, k0, k1, ?_⟩
  walk_at "go"
  rw [mv_isSome, hf]
  refine ifF ?_
  walk_at "go"
  rename_i H2 h2
  rw [mv_put] at h2
  exact q H2 (tre_in h2)
theorem Tre.wf.begin {s : Tre} (w : s.wf) (k : Int) (hl : s.pinned.length < 100) : ({ s with pinned := pu s.pinned k s.root } : Tre).wf where
  nd := w.nd
  lt := w.lt
  m0 := w.m0
  m9 := w.m9
  kl := w.kl
  rr := w.rr
  pp := fun q hq => by
    rcases pu_mem hq with hq | rfl
    · exact w.pp q hq
    · exact w.rr
  pn := pu_nd _ w.pn
  pl := by have := pu_len' s.pinned k s.root; show (pu s.pinned k s.root).length ≤ 100; omega
def sp_trfinish (C : Addr) : Sp := fun vs H Q _ => ∃ (p : Addr) (s : Tre) (k : Int) (R : List U), vs = [.ref p, .int k] ∧ Has H (treU C p s :: R) ∧ 0 ≤ k ∧ k < s.hands ∧ (fd s.pinned k).isSome = true ∧
  ∀ H', Has H' (treU C p { s with pinned := rm s.pinned k } :: R) → Q .non H'
theorem pure_trfinish {K : PySem.W.Frag} {C : Addr} (hC : TrC K C) {vs : List V} {H : Hp} {Q : VK} {E : XK} (h : sp_trfinish C vs H Q E) : t_Tree_finish K C (sp_trlook_in C) ⟨fun _ H' => Q .non H', Q, fun _ _ => False, fun _ _ => False⟩ (start ["self", "hand"] vs) H := by
  obtain ⟨p, s, k, R, rfl, h0, k0, k1, hf, q⟩ := h
  obtain ⟨cl, n1, n2, n3, n4, n5⟩ := hC
  obtain ⟨t, ht⟩ := Option.isSome_iff_exists.mp hf
  have hv : valV (mv tnV s.pinned) k = some (tnV t) := mv_some ht
  have h1 : Has H (treL C p s R) := tre_cut h0
  unfold t_Tree_finish
  walk_at "go"
  refine ⟨p, s, k, R, rfl, h0, k0, k1, hf, ?_⟩
  clear h0
  walk_at "go"
  rename_i H2 h2
  rw [mv_drop] at h2
  exact q H2 (tre_in h2)
theorem Tre.wf.finish {s : Tre} (w : s.wf) (k : Int) : ({ s with pinned := rm s.pinned k } : Tre).wf where
  nd := w.nd
  lt := w.lt
  m0 := w.m0
  m9 := w.m9
  kl := w.kl
  rr := w.rr
  pp := fun q hq => w.pp q (rm_mem.mp hq).1
  pn := rm_nodup w.pn
  pl := Nat.le_trans (rm_len _ _) w.pl
def sp_trread (C : Addr) : Sp := fun vs H Q _ => ∃ (p : Addr) (s : Tre) (k j : Int) (t : Tr) (R : List U), vs = [.ref p, .int k, .int j] ∧ Has H (treU C p s :: R) ∧ s.wf ∧ 0 ≤ k ∧ k < s.hands ∧ fd s.pinned k = some t ∧ 0 ≤ j ∧ j ≤ 999 ∧
  ∀ H', Has H' (treU C p s :: R) → Q (oV (t.get j)) H'
theorem pure_trread {K : PySem.W.Frag} {C : Addr} (hC : TrC K C) {vs : List V} {H : Hp} {Q : VK} {E : XK} (h : sp_trread C vs H Q E) : t_Tree_read K C (sp_trlook_in C) sp_look_number (sp_value_from C) ⟨fun _ H' => Q .non H', Q, fun _ _ => False, fun _ _ => False⟩ (start ["self", "hand", "key"] vs) H := by
  obtain ⟨p, s, k, j, t, R, rfl, h0, w, k0, k1, hf, j0, j9, q⟩ := h
  obtain ⟨cl, n1, n2, n3, n4, n5⟩ := hC
  have hv : valV (mv tnV s.pinned) k = some (tnV t) := mv_some hf
  have hg := w.pp _ (fd_mem hf)
  have hgl := w.ql (fd_mem hf)
  have hgl : t.names.length ≤ 20000 := hgl
  have h1 : Has H (treL C p s R) := tre_cut h0
  unfold t_Tree_read
  walk_at "go"
  refine ⟨p, s, k, R, rfl, h0, k0, k1, by rw [hf]; rfl, ?_⟩
  walk_at "go"
  refine ⟨j, 0, 999, rfl, j0, j9, ?_⟩
  walk_at "go"
  exact ⟨p, s, t, j, R, rfl, h0, hg.r, by omega, q⟩
def sp_pairs_of (C : Addr) : Sp := fun vs H Q _ => ∃ (p : Addr) (s : Tre) (k : Int) (t : Tr) (R : List U), vs = [.ref p, .int k] ∧ Has H (treU C p s :: R) ∧ s.wf ∧ 0 ≤ k ∧ k < s.hands ∧ fd s.pinned k = some t ∧
  ∀ (ys : Prs) d H', (ys.map (·.2)).Perm t.prs → (ys.map (·.2)).Pairwise leP → Has H' ([(d, .lst (prR ys))] :: prU ys :: treU C p s :: R) → Q (.ref d) H'
theorem pure_pairs_of {K : PySem.W.Frag} {C : Addr} (hC : TrC K C) {vs : List V} {H : Hp} {Q : VK} {E : XK} (h : sp_pairs_of C vs H Q E) : t_Tree_pairs_of K C (sp_trlook_in C) (sp_pairs_from C) ⟨fun _ H' => Q .non H', Q, fun _ _ => False, fun _ _ => False⟩ (start ["self", "hand"] vs) H := by
  obtain ⟨p, s, k, t, R, rfl, h0, w, k0, k1, hf, q⟩ := h
  obtain ⟨cl, n1, n2, n3, n4, n5⟩ := hC
  have hv : valV (mv tnV s.pinned) k = some (tnV t) := mv_some hf
  have hg := w.pp _ (fd_mem hf)
  have hgl := w.ql (fd_mem hf)
  have h1 : Has H (treL C p s R) := tre_cut h0
  unfold t_Tree_pairs_of
  walk_at "go"
  refine ⟨p, s, k, R, rfl, h0, k0, k1, by rw [hf]; rfl, ?_⟩
  walk_at "go"
  exact ⟨p, s, t, R, rfl, h0, hg.r, hgl, q⟩
def sp_trlen (C : Addr) : Sp := fun vs H Q _ => ∃ (p : Addr) (s : Tre) (R : List U), vs = [.ref p] ∧ Has H (treU C p s :: R) ∧ Q (.int s.knots.length) H
theorem pure_trlen {K : PySem.W.Frag} {C : Addr} (hC : TrC K C) {vs : List V} {H : Hp} {Q : VK} {E : XK} (h : sp_trlen C vs H Q E) : t_Tree_len K ⟨fun _ H' => Q .non H', Q, fun _ _ => False, fun _ _ => False⟩ (start ["self"] vs) H := by
  obtain ⟨p, s, R, rfl, h0, q⟩ := h
  obtain ⟨cl, n1, n2, n3, n4, n5⟩ := hC
  have h1 : Has H (treL C p s R) := tre_cut h0
  unfold t_Tree_len
  walk_at "go"
  rw [mk_len, mv_len]
  exact q
end La
namespace La
open PySem L2 Sy
local macro_rules | `(tactic| walk_at "fl") => `(tactic| first | assumption | exact tre_hands | exact tre_knots | exact tre_made | exact tre_root | exact tre_pinned | kernel_rfl)
local macro_rules | `(tactic| walk_at "put") => `(tactic| first | exact tre_put_hands | exact tre_put_knots | exact tre_put_made | exact tre_put_root | exact tre_put_pinned | exact tre_p1 | exact tre_p2 | exact tre_p3 | exact tre_p4 | exact tre_p5)
local macro_rules | `(tactic| walk_at "fsl") => `(tactic| first | assumption | exact tre_len | (show 0 < 1000; decide) | (show 1 < 1000; decide) | (show 2 < 1000; decide) | (show 3 < 1000; decide) | (show 4 < 1000; decide))
/-! ### sweeps -/
/-- all trees that are seen -/
def Tre.tops (s : Tre) : List Tr := s.root :: s.pinned.map (·.2)
def Tre.all (s : Tre) : List Int := s.tops.flatMap Tr.names
def Tre.keep (s : Tre) : Kns := s.knots.filter fun q => decide (q.1 ∈ s.all)
theorem Has.less {H : Hp} {u u' : U} {L : List U} (h : Has H (u :: L)) (s : u'.Sublist u) : Has H (u' :: L) := by
  obtain ⟨n, a⟩ := h
  have e : (u' :: L).flatten.Sublist (u :: L).flatten := s.append (List.Sublist.refl _)
  exact ⟨(e.map (·.1)).nodup n, fun q hq => a q (e.subset hq)⟩
theorem fam_less {κ β : Type} {obs : β → U} {c : κ × β → Bool} : ∀ m : List (κ × β), (famU obs (m.filter c)).Sublist (famU obs m)
  | [] => List.Sublist.refl _
  | q :: r => by
    have ih := fam_less (obs := obs) (c := c) r
    by_cases h : c q = true
    · rw [List.filter_cons, if_pos h]
      exact (List.Sublist.refl (obs q.2)).append ih
    · rw [List.filter_cons, if_neg h]
      exact ih.trans (List.sublist_append_right _ _)
/-- a tree is done with: nothing, or seen, or still to come -/
def Okt (sn : List (Int × Bool)) (ts : List Tr) (t : Tr) : Prop := t = .nil ∨ (∃ x, t.nm = some x ∧ x ∈ sn.map (·.1)) ∨ t ∈ ts
structure SwI (s : Tre) (sn : List (Int × Bool)) (ts : List Tr) : Prop where
  rp : ∀ u ∈ ts, u.rep (lkK s.knots)
  nd : (sn.map (·.1)).Nodup
  sa : ∀ x ∈ sn.map (·.1), x ∈ s.all
  ta : ∀ u ∈ ts, ∀ x ∈ u.names, x ∈ s.all
  tp : ∀ t ∈ s.tops, Okt sn ts t
  ch : ∀ x k v l r, x ∈ sn.map (·.1) → (Tr.node x k v l r).rep (lkK s.knots) → Okt sn ts l ∧ Okt sn ts r
theorem Tre.wf.tops {s : Tre} (w : s.wf) : ∀ t ∈ s.tops, t.good (lkK s.knots) := fun t ht => by
  rcases List.mem_cons.mp ht with rfl | ht
  · exact w.rr
  · obtain ⟨q, hq, rfl⟩ := List.mem_map.mp ht
    exact w.pp q hq
theorem Tre.wf.all_in {s : Tre} (w : s.wf) : ∀ x ∈ s.all, x ∈ s.knots.map (·.1) := fun x hx => by
  obtain ⟨t, ht, h⟩ := List.mem_flatMap.mp hx
  exact Tr.rep_mem (w.tops t ht).r x h
theorem SwI.start {s : Tre} (w : s.wf) : SwI s [] s.tops := ⟨fun u hu => (w.tops u hu).r, List.nodup_nil, fun x hx => (by cases hx), fun u hu x hx => List.mem_flatMap.mpr ⟨u, hu, hx⟩, fun t ht => .inr (.inr ht), fun x k v l r hx => (by cases hx)⟩
theorem SwI.len {s : Tre} (w : s.wf) {sn : List (Int × Bool)} {ts : List Tr} (I : SwI s sn ts) : sn.length ≤ s.knots.length := by
  have := nodup_sub_len I.nd fun x hx => w.all_in x (I.sa x hx)
  rw [List.length_map, List.length_map] at this
  exact this
theorem SwI.drop {s : Tre} {sn : List (Int × Bool)} {A : List Tr} {u : Tr} (I : SwI s sn (A ++ [u])) (h : u = .nil ∨ ∃ x, u.nm = some x ∧ x ∈ sn.map (·.1)) : SwI s sn A := by
  have ok : ∀ t, Okt sn (A ++ [u]) t → Okt sn A t := fun t ht => by
    rcases ht with ht | ht | ht
    · exact .inl ht
    · exact .inr (.inl ht)
    · rcases List.mem_append.mp ht with ht | ht
      · exact .inr (.inr ht)
      · rw [List.mem_singleton.mp ht]
        rcases h with h | h
        · exact .inl h
        · exact .inr (.inl h)
  exact ⟨fun u hu => I.rp u (List.mem_append.mpr (.inl hu)), I.nd, I.sa, fun u hu => I.ta u (List.mem_append.mpr (.inl hu)), fun t ht => ok t (I.tp t ht), fun x k v l r hx hr => ⟨ok l (I.ch x k v l r hx hr).1, ok r (I.ch x k v l r hx hr).2⟩⟩
theorem SwI.more {s : Tre} {sn : List (Int × Bool)} {A : List Tr} {n k v : Int} {l r : Tr} (I : SwI s sn (A ++ [.node n k v l r])) (h : n ∉ sn.map (·.1)) : SwI s (sn ++ [(n, true)]) (A ++ [l, r]) := by
  have hu : (Tr.node n k v l r).rep (lkK s.knots) := I.rp _ (List.mem_append.mpr (.inr (List.mem_singleton.mpr rfl)))
  have ha := I.ta (.node n k v l r) (List.mem_append.mpr (.inr (List.mem_singleton.mpr rfl)))
  have hk : (sn ++ [(n, true)]).map (·.1) = sn.map (·.1) ++ [n] := by rw [List.map_append]; rfl
  have ok : ∀ t, Okt sn (A ++ [.node n k v l r]) t → Okt (sn ++ [(n, true)]) (A ++ [l, r]) t := fun t ht => by
    rcases ht with ht | ⟨x, hx, hm⟩ | ht
    · exact .inl ht
    · exact .inr (.inl ⟨x, hx, by rw [hk]; exact List.mem_append.mpr (.inl hm)⟩)
    · rcases List.mem_append.mp ht with ht | ht
      · exact .inr (.inr (List.mem_append.mpr (.inl ht)))
      · rw [List.mem_singleton.mp ht]
        exact .inr (.inl ⟨n, rfl, by rw [hk]; exact List.mem_append.mpr (.inr (List.mem_singleton.mpr rfl))⟩)
  refine ⟨fun u hu1 => ?_, ?_, fun x hx => ?_, fun u hu1 x hx => ?_, fun t ht => ok t (I.tp t ht), fun x k' v' l' r' hx hr => ?_⟩
  · rcases List.mem_append.mp hu1 with h1 | h1
    · exact I.rp u (List.mem_append.mpr (.inl h1))
    · rcases (by simpa using h1 : u = l ∨ u = r) with rfl | rfl
      · exact hu.2.1
      · exact hu.2.2
  · rw [hk]
    exact nodup_snoc I.nd h
  · rw [hk] at hx
    rcases List.mem_append.mp hx with hx | hx
    · exact I.sa x hx
    · rw [List.mem_singleton.mp hx]
      exact ha n (List.mem_cons.mpr (.inl rfl))
  · rcases List.mem_append.mp hu1 with h1 | h1
    · exact I.ta u (List.mem_append.mpr (.inl h1)) x hx
    · rcases (by simpa using h1 : u = l ∨ u = r) with rfl | rfl
      · exact ha x (List.mem_cons.mpr (.inr (List.mem_append.mpr (.inl hx))))
      · exact ha x (List.mem_cons.mpr (.inr (List.mem_append.mpr (.inr hx))))
  · rw [hk] at hx
    rcases List.mem_append.mp hx with hx | hx
    · exact ⟨ok l' (I.ch x k' v' l' r' hx hr).1, ok r' (I.ch x k' v' l' r' hx hr).2⟩
    · have e := List.mem_singleton.mp hx
      subst e
      have e2 := Tr.rep_uniq hr hu rfl
      injection e2 with _ _ _ e3 e4
      subst e3
      subst e4
      exact ⟨.inr (.inr (List.mem_append.mpr (.inr (by simp)))), .inr (.inr (List.mem_append.mpr (.inr (by simp))))⟩
/-- at the end just all names were seen -/
theorem SwI.done {s : Tre} (w : s.wf) {sn : List (Int × Bool)} (I : SwI s sn []) : ∀ x, x ∈ sn.map (·.1) ↔ x ∈ s.all := by
  have key : ∀ t : Tr, t.rep (lkK s.knots) → Okt sn [] t → ∀ x ∈ t.names, x ∈ sn.map (·.1) := by
    intro t
    induction t with
    | nil => intro _ _ x hx; cases hx
    | node n k v l r ihl ihr =>
      intro hr ho x hx
      have hn : n ∈ sn.map (·.1) := by
        rcases ho with h | ⟨y, hy, hm⟩ | h
        · cases h
        · rw [Option.some.inj hy]; exact hm
        · cases h
      obtain ⟨o1, o2⟩ := I.ch n k v l r hn hr
      rcases List.mem_cons.mp hx with rfl | hx
      · exact hn
      · rcases List.mem_append.mp hx with hx | hx
        · exact ihl hr.2.1 o1 x hx
        · exact ihr hr.2.2 o2 x hx
  intro x
  refine ⟨I.sa x, fun hx => ?_⟩
  obtain ⟨t, ht, h⟩ := List.mem_flatMap.mp hx
  exact key t (w.tops t ht).r (I.tp t ht) x h
theorem Tre.wf.keep_len {s : Tre} (w : s.wf) {sn : List (Int × Bool)} (nd : (sn.map (·.1)).Nodup) (h : ∀ x, x ∈ sn.map (·.1) ↔ x ∈ s.all) : s.keep.length = sn.length := by
  have hk : (s.keep.map (·.1)).Nodup := (List.filter_sublist.map _).nodup w.nd
  have hp := perm_mem hk nd fun x => by
    rw [h x]
    constructor
    · intro hx
      obtain ⟨q, hq, rfl⟩ := List.mem_map.mp hx
      exact of_decide_eq_true (List.mem_filter.mp hq).2
    · intro hx
      obtain ⟨q, hq, e⟩ := List.mem_map.mp (w.all_in x hx)
      exact List.mem_map.mpr ⟨q, List.mem_filter.mpr ⟨hq, decide_eq_true (by show q.1 ∈ s.all; rw [e]; exact hx)⟩, e⟩
  have := hp.length_eq
  rw [List.length_map, List.length_map] at this
  exact this
theorem fd_filter {κ β : Type} [DecidableEq κ] {c : κ → Bool} {k : κ} (h : c k = true) : ∀ m : List (κ × β), fd (m.filter fun q => c q.1) k = fd m k
  | [] => rfl
  | q :: r => by
    have ih := fd_filter (β := β) h r
    by_cases e : q.1 = k
    · rw [List.filter_cons, if_pos (by rw [e]; exact h), fd_pos e, fd_pos e]
    · by_cases hc : c q.1 = true
      · rw [List.filter_cons, if_pos hc, fd_neg e, fd_neg e, ih]
      · rw [List.filter_cons, if_neg hc, fd_neg e, ih]
theorem Tre.keep_up {s : Tre} {n : Int} {x : Kn} (hn : n ∈ s.all) (h : lkK s.knots n = some x) : lkK s.keep n = some x := by
  unfold lkK Tre.keep at *
  rw [fd_filter (c := fun z => decide (z ∈ s.all)) (decide_eq_true hn)]
  exact h
theorem Tre.wf.sweep {s : Tre} (w : s.wf) (ka : Addr) : ({ s with ka := ka, knots := s.keep } : Tre).wf := by
  have up : ∀ t ∈ s.tops, t.good (lkK s.keep) := fun t ht => by
    have g := w.tops t ht
    exact ⟨Tr.rep_mono' (fun n hn x hx => Tre.keep_up (List.mem_flatMap.mpr ⟨t, ht, hn⟩) hx) g.r, g.o, g.n⟩
  have hl : s.keep.length ≤ s.knots.length := List.length_filter_le _ _
  have := w.kl
  exact ⟨(List.filter_sublist.map _).nodup w.nd, fun q hq => w.lt q (List.mem_filter.mp hq).1, w.m0, w.m9, by show (s.keep.length : Int) ≤ s.made; omega, up _ (List.mem_cons.mpr (.inl rfl)), fun q hq => up _ (List.mem_cons.mpr (.inr (List.mem_map.mpr ⟨q, hq, rfl⟩))), w.pn, w.pl⟩
def obE (q : Int × V) : HO := .tup [.int q.1, q.2]
theorem keep_map {m : Kns} {c : Int → Bool} (nd : (m.map (·.1)).Nodup) : (((mv knR m).map (fun (x : Int × V) => x.1)).filter c).map (fun z => (z, ((fd m z).map knR).getD .non)) = mv knR (m.filter fun q => c q.1) := by
  rw [mv_keys, List.filter_map, List.map_map]
  unfold mv
  refine List.map_congr_left fun q hq => ?_
  have hm : q ∈ m := (List.mem_filter.mp hq).1
  show (q.1, ((fd m q.1).map knR).getD .non) = (q.1, knR q.2)
  rw [fd_of nd (show (q.1, q.2) ∈ m from hm)]
  rfl
def sp_trsweep (C : Addr) : Sp := fun vs H Q _ => ∃ (p : Addr) (s : Tre) (R : List U), vs = [.ref p] ∧ Has H (treU C p s :: R) ∧ s.wf ∧
  ∀ ka H', Has H' (treU C p { s with ka := ka, knots := s.keep } :: R) → Q (.int ((s.knots.length : Int) - s.keep.length)) H'
theorem pure_trsweep {K : PySem.W.Frag} {C : Addr} (hC : TrC K C) {vs : List V} {H : Hp} {Q : VK} {E : XK} (h : sp_trsweep C vs H Q E) : t_Tree_sweep K ⟨fun _ H' => Q .non H', Q, fun _ _ => False, fun _ _ => False⟩ (start ["self", "seen", "rest", "here", "many", "name"] vs) H := by
  obtain ⟨p, s, R, rfl, h0, w, q⟩ := h
  obtain ⟨cl, n1, n2, n3, n4, n5⟩ := hC
  have hkl := w.kl
  have hm9 := w.m9
  have hpl := w.pl
  have h1 : Has H (treL C p s R) := tre_cut h0
  clear h0
  unfold t_Tree_sweep
  walk_at "go"
  rename_i sd H2 h2 d3 H3 h3 d4 H4 h4
  have e0 : [tnV s.root] ++ (mv tnV s.pinned).map (·.2) = (s.tops.map Tr.nm).map oV := by
    unfold mv Tre.tops tnV
    rw [List.map_map, List.map_cons, List.map_cons, List.map_map, List.map_map]
    rfl
  refine k_cat h4 (by walk_at "hp") (by walk_at "hp") (by rw [sizeLine_eq, List.length_map, mv_len]; show 1 + s.pinned.length ≤ _; omega) fun d5 H5 h5 => ?_
  rw [e0] at h5
  have htl : s.tops.length ≤ 101 := by show (s.pinned.map (·.2)).length + 1 ≤ 101; rw [List.length_map]; omega
  walk_at "go"
  refine k_while (fun m σ H' => ∃ (sn : List (Int × Bool)) (ts : List Tr) (e : Addr) (w3 w4 w5 : Option V), SwI s sn ts ∧ m = 3 * (s.knots.length - sn.length) + ts.length ∧ m ≤ 3 * s.knots.length + 101 ∧ σ = [some (.ref p), some (.ref sd), some (.ref e), w3, w4, w5] ∧ Has H' ([(e, .lst ((ts.map Tr.nm).map oV))] :: [(sd, dI (mv V.bl sn))] :: treL C p s R)) (3 * s.knots.length + s.tops.length) ⟨[], s.tops, d5, _, _, _, .start w, rfl, by omega, rfl, h5.sub (show Sub ([(d5, _)] :: [(sd, dI [])] :: treL C p s R) _ by walk_at "sub")⟩ (fun m σ H' hw => ?_)
  clear h1 h2 h3 h4 h5
  obtain ⟨sn, ts, e, w3, w4, w5, I, rfl, hm, rfl, h6⟩ := hw
  have hsl := I.len w
  walk_at "go"
  rename_i d7 H7 h7
  refine k_neOs (by walk_at "hp") (by walk_at "hp") ?_
  have h8 := h7.sub (Sub.skip Sub.rf)
  clear h6 h7
  walk_at "go"
  by_cases hn : ts = []
  · subst hn
    refine ifN (by rfl) ?_
    have hd := I.done w
    have hlen := w.keep_len I.nd hd
    walk_at "go"
    refine x_lcN (d := s.ka) (mm := mv knR s.knots) (L := [(e, .lst [])] :: [(sd, dI (mv V.bl sn))] :: [(p, .ins C s.dx (treF (.int s.hands) (.ref s.ka) (.int s.made) (tnV s.root) (.ref s.pa)))] :: [(s.pa, dI (mv tnV s.pinned))] :: famU obK s.knots :: R) obE (fun z => (z, ((fd s.knots z).map knR).getD .non)) (fun z => decide (z ∈ sn.map (·.1))) (h8.sub (show Sub ([(s.ka, _)] :: _) _ from Sub.p3 (Sub.p0 (Sub.p0 (Sub.p0 Sub.rf)))))
      (by rw [mv_len]; omega) (fun o H' Q' h' q' => ?_) (fun o z hz D m H' Q' h' q' => ?_) (fun o z hz hc D m H' Q' h' q' => ?_) fun D m H9 em h9 => ?_
    · clear h8
      walk_at "go"
      exact q'
    · clear h8
      show tB _ [some (.ref p), some (.ref sd), some (.ref e), w3, _, some (.int z)] H' Q'
      walk_at "go"
      rw [mv_isSome]
      have eb : (fd sn z).isSome = decide (z ∈ sn.map (·.1)) := by rw [Bool.eq_iff_iff, fd_isSome, decide_eq_true_iff]
      rw [eb]
      exact q' _ h'
    · clear h8
      rw [mv_keys] at hz
      obtain ⟨b, hb⟩ := Option.isSome_iff_exists.mp (fd_isSome.mpr hz)
      have hv : valV (mv knR s.knots) z = some (knR b) := mv_some hb
      rw [hb] at q'
      show tTup _ [some (.ref p), some (.ref sd), some (.ref e), w3, _, some (.int z)] H' Q'
      walk_at "go"
      rename_i u H10 h10
      exact q' u H10 h10
    · clear h8
      rw [keep_map w.nd] at em
      have ek : (s.knots.filter fun q => decide (q.1 ∈ sn.map (·.1))) = s.keep := by
        unfold Tre.keep
        refine List.filter_congr fun q _ => ?_
        rw [Bool.eq_iff_iff, decide_eq_true_iff, decide_eq_true_iff]
        exact hd q.1
      rw [ek] at em
      walk_at "go"
      refine k_dictP (kvs := mv knR s.keep) h9 h9.g0 (fun q hq => Has.fms (h9.sub (show Sub (fmU obE m :: _) _ from Sub.p1 Sub.rf)) q hq) em ?_ fun kd H10 h10 => ?_
      · rw [mv_keys]
        exact (List.filter_sublist.map _).nodup w.nd
      clear h9
      walk_at "go"
      rename_i H11 h11
      rw [mk_len, mv_len, mk_len, mv_len, ← hlen]
      refine q kd _ (tre_in (s := { s with ka := kd, knots := s.keep }) ?_)
      have h12 := Has.less (h11.sub (show Sub (famU obK s.knots :: _) _ by walk_at "sub")) (fam_less (obs := obK) (c := fun q => decide (q.1 ∈ s.all)) s.knots)
      exact h12.sub (show Sub ([(p, _)] :: [(kd, _)] :: [(s.pa, _)] :: famU obK s.keep :: R) _ by walk_at "sub")
  · obtain ⟨A, u, rfl⟩ := last_mem hn
    refine ifY (by simp) ?_
    refine k_wb ?_
    rw [List.map_append] at h8
    have h8 : Has H7 ([(e, .lst ((A.map Tr.nm ++ [u.nm]).map oV))] :: [(sd, dI (mv V.bl sn))] :: treL C p s R) := h8
    have hlast := @pop_end (A.map Tr.nm) u.nm
    have hrs := @pop_rest (A.map Tr.nm) u.nm
    have hal : (A ++ [u]).length = A.length + 1 := by rw [List.length_append]; rfl
    cases u with
    | nil =>
      have hlast : ((A.map Tr.nm ++ [Tr.nil.nm]).map oV)[((A.map Tr.nm ++ [Tr.nil.nm]).map oV).length - 1]? = some .non := hlast
      walk_at "go"
      rename_i H9 h9
      rw [hrs] at h9
      exact ⟨_, by omega, sn, A, e, _, _, _, I.drop (.inl rfl), rfl, by omega, rfl, h9⟩
    | node n k v l r =>
      have hlast : ((A.map Tr.nm ++ [(Tr.node n k v l r).nm]).map oV)[((A.map Tr.nm ++ [(Tr.node n k v l r).nm]).map oV).length - 1]? = some (.int n) := hlast
      obtain ⟨hf, hlr, hrr⟩ := I.rp _ (List.mem_append.mpr (.inr (List.mem_singleton.mpr rfl)))
      obtain ⟨a, ha⟩ := lk_at hf
      have hva : valV (mv knR s.knots) n = some (.ref a) := mv_some ha
      walk_at "go"
      rename_i H9 h9
      rw [hrs] at h9
      have hta : H9 a = some (.tup [.int k, .int v, oV l.nm, oV r.nm]) := Has.kn (h9.sub (show Sub (famU obK s.knots :: _) _ by walk_at "sub")) ha
      rw [mv_isSome]
      by_cases hin : n ∈ sn.map (·.1)
      · rw [fd_isSome.mpr hin]
        walk_at "go"
        exact ⟨_, by omega, sn, A, e, _, _, _, I.drop (.inr ⟨n, rfl, hin⟩), rfl, by omega, rfl, h9⟩
      · have hfn : fd sn n = none := fd_none.mpr hin
        have I2 := I.more hin
        have hs2 := I2.len w
        have hs3 : (sn ++ [(n, true)]).length = sn.length + 1 := by rw [List.length_append]; rfl
        have hl2 : (A ++ [l, r]).length = A.length + 2 := by rw [List.length_append]; rfl
        rw [hfn]
        have e1 : (mv V.bl sn).length < sizeLine := by rw [mv_len, sizeLine_eq]; omega
        clear h8
        refine ifT ?_
        walk_at "go"
        rename_i H10 h10
        have hta : H10 a = some (.tup [.int k, .int v, oV l.nm, oV r.nm]) := Has.kn (h10.sub (show Sub (famU obK s.knots :: _) _ by walk_at "sub")) ha
        clear h9
        walk_at "go"
        rename_i d11 H11 h11 d12 H12 h12
        refine ⟨_, ?_, sn ++ [(n, true)], A ++ [l, r], d12, _, _, _, I2, rfl, ?_, rfl, ?_⟩
        · omega
        · omega
        · rw [mv_put, pu_new _ hfn] at h12
          have e2 : (A.map Tr.nm).map oV ++ [oV l.nm, oV r.nm] = ((A ++ [l, r]).map Tr.nm).map oV := by rw [List.map_append, List.map_append]; rfl
          rw [e2] at h12
          exact h12.sub (show Sub ([(d12, _)] :: [(sd, _)] :: treL C p s R) _ by walk_at "sub")
end La
namespace La
open PySem L2 Sy
/-! ### a tree of the law that is changed -/
abbrev Ow := Int × (Option Int × Option Int)
namespace Tr
def repO (ws : List Ow) : Tr → Prop
  | nil => True
  | node n k _ l r => 0 ≤ n ∧ ws[n.toNat]? = some (k, (l.nm, r.nm)) ∧ l.repO ws ∧ r.repO ws
def insO (j m : Int) : Tr → Tr
  | nil => node m j 0 nil nil
  | node n k v l r => if j = k then node n k v l r else if j < k then node n k v (l.insO j m) r else node n k v l (r.insO j m)
def alike : Tr → Tr → Prop
  | nil, nil => True
  | node _ k _ l r, node _ k' _ l' r' => k = k' ∧ alike l l' ∧ alike r r'
  | _, _ => False
theorem alike_subs (j : Int) : ∀ {t u : Tr}, alike t u → (t.subs j).length = (u.subs j).length
  | nil, nil, _ => rfl
  | nil, node _ _ _ _ _, h => False.elim h
  | node _ _ _ _ _, nil, h => False.elim h
  | node n k v l r, node n' k' v' l' r', ⟨e, h1, h2⟩ => by
    subst e
    unfold subs
    by_cases e : j = k
    · rw [if_pos e, if_pos e]
    · rw [if_neg e, if_neg e, List.length_cons, List.length_cons]
      by_cases g : j < k
      · rw [if_pos g, if_pos g, alike_subs j h1]
      · rw [if_neg g, if_neg g, alike_subs j h2]
theorem alike_ins (j x m m' : Int) : ∀ {t u : Tr}, alike t u → alike (t.insO j m') (u.ins j x m).1
  | nil, nil, _ => ⟨rfl, trivial, trivial⟩
  | nil, node _ _ _ _ _, h => False.elim h
  | node _ _ _ _ _, nil, h => False.elim h
  | node n k v l r, node n' k' v' l' r', ⟨e, h1, h2⟩ => by
    subst e
    unfold insO ins
    by_cases e : j = k
    · rw [if_pos e, if_pos e]
      exact ⟨e.symm, h1, h2⟩
    · rw [if_neg e, if_neg e]
      by_cases g : j < k
      · rw [if_pos g, if_pos g]
        exact ⟨rfl, alike_ins j x m m' h1, h2⟩
      · rw [if_neg g, if_neg g]
        exact ⟨rfl, h1, alike_ins j x m m' h2⟩
theorem insO_same (j m : Int) : ∀ {t : Tr}, t.bot j ≠ nil → t.insO j m = t
  | nil, h => absurd rfl h
  | node n k v l r, h => by
    unfold insO
    unfold bot at h
    by_cases e : j = k
    · rw [if_pos e]
    · rw [if_neg e] at h ⊢
      by_cases g : j < k
      · rw [if_pos g] at h ⊢
        rw [insO_same j m h]
      · rw [if_neg g] at h ⊢
        rw [insO_same j m h]
theorem insO_nm (j m : Int) : ∀ {t : Tr}, t ≠ nil → (t.insO j m).nm = t.nm
  | nil, h => absurd rfl h
  | node n k v l r, _ => by
    unfold insO
    by_cases e : j = k
    · rw [if_pos e]
    · rw [if_neg e]
      by_cases g : j < k
      · rw [if_pos g]; rfl
      · rw [if_neg g]; rfl
theorem insO_names (j m : Int) : ∀ {t : Tr} {z : Int}, z ∈ (t.insO j m).names → z = m ∨ z ∈ t.names
  | nil, z, h => .inl (List.mem_singleton.mp h)
  | node n k v l r, z, h => by
    unfold insO at h
    by_cases e : j = k
    · rw [if_pos e] at h; exact .inr h
    · rw [if_neg e] at h
      by_cases g : j < k
      · rw [if_pos g] at h
        rcases List.mem_cons.mp h with h | h
        · exact .inr (List.mem_cons.mpr (.inl h))
        · rcases List.mem_append.mp h with h | h
          · rcases insO_names j m h with h | h
            · exact .inl h
            · exact .inr (List.mem_cons.mpr (.inr (List.mem_append.mpr (.inl h))))
          · exact .inr (List.mem_cons.mpr (.inr (List.mem_append.mpr (.inr h))))
      · rw [if_neg g] at h
        rcases List.mem_cons.mp h with h | h
        · exact .inr (List.mem_cons.mpr (.inl h))
        · rcases List.mem_append.mp h with h | h
          · exact .inr (List.mem_cons.mpr (.inr (List.mem_append.mpr (.inl h))))
          · rcases insO_names j m h with h | h
            · exact .inl h
            · exact .inr (List.mem_cons.mpr (.inr (List.mem_append.mpr (.inr h))))
theorem insO_nodup (j m : Int) : ∀ {t : Tr}, t.names.Nodup → (∀ z ∈ t.names, z < m) → (t.insO j m).names.Nodup
  | nil, _, _ => by show [m].Nodup; simp
  | node n k v l r, hd, hl => by
    have hd0 : (n :: (l.names ++ r.names)).Nodup := hd
    obtain ⟨d1, d2⟩ := List.nodup_cons.mp hd0
    obtain ⟨d3, d4, d5⟩ := List.nodup_append.mp d2
    have ln : n < m := hl n (List.mem_cons.mpr (.inl rfl))
    have ll : ∀ z ∈ l.names, z < m := fun z hz => hl z (List.mem_cons.mpr (.inr (List.mem_append.mpr (.inl hz))))
    have lr : ∀ z ∈ r.names, z < m := fun z hz => hl z (List.mem_cons.mpr (.inr (List.mem_append.mpr (.inr hz))))
    unfold insO
    by_cases e : j = k
    · rw [if_pos e]; exact hd
    · rw [if_neg e]
      by_cases g : j < k
      · rw [if_pos g]
        show (n :: ((l.insO j m).names ++ r.names)).Nodup
        refine List.nodup_cons.mpr ⟨fun h => ?_, List.nodup_append.mpr ⟨insO_nodup j m d3 ll, d4, fun a ha b hb ab => ?_⟩⟩
        · rcases List.mem_append.mp h with h | h
          · rcases insO_names j m h with h | h
            · omega
            · exact d1 (List.mem_append.mpr (.inl h))
          · exact d1 (List.mem_append.mpr (.inr h))
        · subst ab
          rcases insO_names j m ha with h | h
          · have := lr _ hb; omega
          · exact d5 a h a hb rfl
      · rw [if_neg g]
        show (n :: (l.names ++ (r.insO j m).names)).Nodup
        refine List.nodup_cons.mpr ⟨fun h => ?_, List.nodup_append.mpr ⟨d3, insO_nodup j m d4 lr, fun a ha b hb ab => ?_⟩⟩
        · rcases List.mem_append.mp h with h | h
          · exact d1 (List.mem_append.mpr (.inl h))
          · rcases insO_names j m h with h | h
            · omega
            · exact d1 (List.mem_append.mpr (.inr h))
        · subst ab
          rcases insO_names j m hb with h | h
          · have := ll _ ha; omega
          · exact d5 a ha a h rfl
theorem repO_mono {ws vs : List Ow} : ∀ {t : Tr}, (∀ n ∈ t.names, ∀ x, ws[n.toNat]? = some x → vs[n.toNat]? = some x) → t.repO ws → t.repO vs
  | nil, _, _ => trivial
  | node n k v l r, h, ⟨h0, h1, h2, h3⟩ => ⟨h0, h n (List.mem_cons.mpr (.inl rfl)) _ h1, repO_mono (fun z hz => h z (List.mem_cons.mpr (.inr (List.mem_append.mpr (.inl hz))))) h2, repO_mono (fun z hz => h z (List.mem_cons.mpr (.inr (List.mem_append.mpr (.inr hz))))) h3⟩
theorem repO_pos {ws : List Ow} : ∀ {t : Tr}, t.repO ws → ∀ z ∈ t.names, 0 ≤ z ∧ z.toNat < ws.length
  | nil, _, z, hz => by cases hz
  | node n k v l r, ⟨h0, h1, h2, h3⟩, z, hz => by
    rcases List.mem_cons.mp hz with rfl | hz
    · exact ⟨h0, (List.getElem?_eq_some_iff.mp h1).1⟩
    · rcases List.mem_append.mp hz with hz | hz
      · exact repO_pos h2 z hz
      · exact repO_pos h3 z hz
theorem subs_names (j : Int) : ∀ {t u : Tr}, u ∈ t.subs j → ∀ z ∈ u.names, z ∈ t.names
  | nil, u, h, _, _ => by cases h
  | node n k v l r, u, h, z, hz => by
    unfold subs at h
    by_cases e : j = k
    · rw [if_pos e] at h; cases h
    · rw [if_neg e] at h
      rcases List.mem_cons.mp h with rfl | h
      · exact hz
      · by_cases g : j < k
        · rw [if_pos g] at h
          exact List.mem_cons.mpr (.inr (List.mem_append.mpr (.inl (subs_names j h z hz))))
        · rw [if_neg g] at h
          exact List.mem_cons.mpr (.inr (List.mem_append.mpr (.inr (subs_names j h z hz))))
/-- a leaf that is hung in at the last knot of the way -/
theorem hang {ws : List Ow} {j n k v : Int} {l r : Tr} : ∀ {t : Tr} {pre : List Tr}, t.repO ws → t.names.Nodup → t.bot j = nil → t.subs j = pre ++ [node n k v l r] →
    (t.insO j ws.length).repO (ws.set n.toNat (if j < k then (k, (some (ws.length : Int), r.nm)) else (k, (l.nm, some (ws.length : Int)))) ++ [(j, (none, none))])
  | nil, pre, _, _, _, hs => by
    have := congrArg List.length hs
    rw [List.length_append] at this
    simp [subs] at this
  | node n0 k0 v0 l0 r0, pre, hr, hd, hb, hs => by
    have hd0 : (n0 :: (l0.names ++ r0.names)).Nodup := hd
    obtain ⟨d1, d2⟩ := List.nodup_cons.mp hd0
    obtain ⟨d3, d4, d5⟩ := List.nodup_append.mp d2
    have hr0 := hr
    obtain ⟨p0, h1, h2, h3⟩ := hr
    have hlt : n0.toNat < ws.length := (List.getElem?_eq_some_iff.mp h1).1
    have hnin : n ∈ (node n0 k0 v0 l0 r0).names := subs_names j (u := node n k v l r) (by rw [hs]; exact List.mem_append.mpr (.inr (List.mem_singleton.mpr rfl))) n (List.mem_cons.mpr (.inl rfl))
    have hn0 := (repO_pos hr0 n hnin)
    -- what stays at other names
    have old : ∀ (W : Ow) (z : Int), z ∈ (node n0 k0 v0 l0 r0).names → z ≠ n → ∀ x, ws[z.toNat]? = some x → (ws.set n.toNat W ++ [(j, (none, none))])[z.toNat]? = some x := fun W z hz hne x hx => by
      have hz0 := (repO_pos hr0 z hz)
      have hzl : z.toNat < ws.length := (List.getElem?_eq_some_iff.mp hx).1
      rw [List.getElem?_append_left (by rw [List.length_set]; exact hzl), List.getElem?_set_ne (by omega)]
      exact hx
    have new : ∀ (W : Ow), (ws.set n.toNat W ++ [(j, (none, none))])[ws.length]? = some (j, (none, none)) := fun W => by
      rw [List.getElem?_append_right (by rw [List.length_set]; exact Nat.le_refl _), List.length_set, Nat.sub_self]
      rfl
    have leaf : ∀ (W : Ow), (node (ws.length : Int) j 0 nil nil).repO (ws.set n.toNat W ++ [(j, (none, none))]) := fun W => ⟨by omega, by rw [Int.toNat_natCast]; exact new W, trivial, trivial⟩
    unfold bot at hb
    by_cases e : j = k0
    · rw [if_pos e] at hb; cases hb
    · rw [if_neg e] at hb
      unfold subs at hs
      rw [if_neg e] at hs
      unfold insO
      rw [if_neg e]
      by_cases g : j < k0
      · rw [if_pos g] at hb hs ⊢
        cases pre with
        | nil =>
          have hs1 := List.cons.inj hs
          obtain ⟨e1, e2⟩ := hs1
          injection e1 with e1 e3 e4 e5 e6
          subst e1 e3 e4 e5 e6
          rw [if_pos g]
          have el : l0 = nil := by
            cases l0 with
            | nil => rfl
            | node a b c d f =>
              unfold subs at e2
              unfold bot at hb
              by_cases e9 : j = b
              · rw [if_pos e9] at hb; cases hb
              · rw [if_neg e9] at e2; cases e2
          subst el
          refine ⟨p0, ?_, leaf _, repO_mono (fun z hz x hx => old _ z (List.mem_cons.mpr (.inr (List.mem_append.mpr (.inr hz)))) (fun h => d1 (by rw [← h]; exact List.mem_append.mpr (.inr hz))) x hx) h3⟩
          rw [List.getElem?_append_left (by rw [List.length_set]; exact hlt), List.getElem?_set_self hlt]
          rfl
        | cons p1 pre =>
          have hs1 := (List.cons.inj hs).2
          have hin : n ∈ l0.names := subs_names j (u := node n k v l r) (by rw [hs1]; exact List.mem_append.mpr (.inr (List.mem_singleton.mpr rfl))) n (List.mem_cons.mpr (.inl rfl))
          have hne : l0 ≠ nil := fun h => by rw [h] at hin; cases hin
          refine ⟨p0, ?_, hang h2 d3 hb hs1, repO_mono (fun z hz x hx => old _ z (List.mem_cons.mpr (.inr (List.mem_append.mpr (.inr hz)))) (fun h => d5 n hin z hz h.symm) x hx) h3⟩
          rw [insO_nm j _ hne]
          exact old _ n0 (List.mem_cons.mpr (.inl rfl)) (fun h => d1 (by rw [h]; exact List.mem_append.mpr (.inl hin))) _ h1
      · rw [if_neg g] at hb hs ⊢
        cases pre with
        | nil =>
          have hs1 := List.cons.inj hs
          obtain ⟨e1, e2⟩ := hs1
          injection e1 with e1 e3 e4 e5 e6
          subst e1 e3 e4 e5 e6
          rw [if_neg g]
          have el : r0 = nil := by
            cases r0 with
            | nil => rfl
            | node a b c d f =>
              unfold subs at e2
              unfold bot at hb
              by_cases e9 : j = b
              · rw [if_pos e9] at hb; cases hb
              · rw [if_neg e9] at e2; cases e2
          subst el
          refine ⟨p0, ?_, repO_mono (fun z hz x hx => old _ z (List.mem_cons.mpr (.inr (List.mem_append.mpr (.inl hz)))) (fun h => d1 (by rw [← h]; exact List.mem_append.mpr (.inl hz))) x hx) h2, leaf _⟩
          rw [List.getElem?_append_left (by rw [List.length_set]; exact hlt), List.getElem?_set_self hlt]
          rfl
        | cons p1 pre =>
          have hs1 := (List.cons.inj hs).2
          have hin : n ∈ r0.names := subs_names j (u := node n k v l r) (by rw [hs1]; exact List.mem_append.mpr (.inr (List.mem_singleton.mpr rfl))) n (List.mem_cons.mpr (.inl rfl))
          have hne : r0 ≠ nil := fun h => by rw [h] at hin; cases hin
          refine ⟨p0, ?_, repO_mono (fun z hz x hx => old _ z (List.mem_cons.mpr (.inr (List.mem_append.mpr (.inl hz)))) (fun h => d5 z hz n hin h) x hx) h2, hang h3 d4 hb hs1⟩
          rw [insO_nm j _ hne]
          exact old _ n0 (List.mem_cons.mpr (.inl rfl)) (fun h => d1 (by rw [h]; exact List.mem_append.mpr (.inr hin))) _ h1
end Tr
theorem Tr.subs_repO {ws : List Ow} (j : Int) : ∀ {t : Tr}, t.repO ws → ∀ u ∈ t.subs j, u.repO ws ∧ ∃ n k v l r, u = .node n k v l r
  | .nil, _, u, hu => by cases hu
  | .node n k v l r, h, u, hu => by
    unfold Tr.subs at hu
    by_cases e : j = k
    · rw [if_pos e] at hu; cases hu
    · rw [if_neg e] at hu
      rcases List.mem_cons.mp hu with rfl | hu
      · exact ⟨h, n, k, v, l, r, rfl⟩
      · by_cases g : j < k
        · rw [if_pos g] at hu; exact Tr.subs_repO j h.2.2.1 u hu
        · rw [if_neg g] at hu; exact Tr.subs_repO j h.2.2.2 u hu
namespace Tr
def strip : Tr → Tr
  | nil => nil
  | node n k _ l r => node n k 0 l.strip r.strip
theorem strip_nm : ∀ t : Tr, t.strip.nm = t.nm
  | nil => rfl
  | node _ _ _ _ _ => rfl
theorem strip_names : ∀ t : Tr, t.strip.names = t.names
  | nil => rfl
  | node n k v l r => by show n :: (l.strip.names ++ r.strip.names) = _; rw [strip_names l, strip_names r]; rfl
def f0 (ws : List Ow) (n : Int) : Option Kn := if 0 ≤ n then (ws[n.toNat]?).map fun q => ⟨q.1, 0, q.2.1, q.2.2⟩ else none
theorem strip_rep {ws : List Ow} : ∀ {t : Tr}, t.repO ws → t.strip.rep (f0 ws)
  | nil, _ => trivial
  | node n k v l r, ⟨h0, h1, h2, h3⟩ => ⟨by unfold f0; rw [if_pos h0, h1, strip_nm, strip_nm]; rfl, strip_rep h2, strip_rep h3⟩
end Tr
def nz (l : List Tr) : List Tr := l.filter fun t => t.nm.isSome
theorem nz_mem {l : List Tr} {t : Tr} (h : t ∈ l) : t = .nil ∨ t ∈ nz l := by
  cases t with
  | nil => exact .inl rfl
  | node n k v a b => exact .inr (List.mem_filter.mpr ⟨h, rfl⟩)
def OkG (sn : List Int) (ts : List Tr) (t : Tr) : Prop := t = .nil ∨ (∃ x, t.nm = some x ∧ x ∈ sn) ∨ t ∈ ts
structure SwG (f : Int → Option Kn) (tops : List Tr) (sn : List Int) (ts : List Tr) : Prop where
  rp : ∀ u ∈ ts, u.rep f
  nn : ∀ u ∈ ts, u.nm.isSome = true
  nd : sn.Nodup
  sa : ∀ x ∈ sn, x ∈ tops.flatMap Tr.names
  ta : ∀ u ∈ ts, ∀ x ∈ u.names, x ∈ tops.flatMap Tr.names
  tp : ∀ t ∈ tops, OkG sn ts t
  ch : ∀ x k v l r, x ∈ sn → (Tr.node x k v l r).rep f → OkG sn ts l ∧ OkG sn ts r
section
variable {f : Int → Option Kn} {tops : List Tr} {sn : List Int} {A : List Tr}
theorem SwG.start (h : ∀ t ∈ tops, t.rep f) : SwG f tops [] (nz tops) := ⟨fun u hu => h u (List.mem_filter.mp hu).1, fun u hu => (List.mem_filter.mp hu).2, List.nodup_nil, fun x hx => (by cases hx), fun u hu x hx => List.mem_flatMap.mpr ⟨u, (List.mem_filter.mp hu).1, hx⟩, fun t ht => (nz_mem ht).elim .inl fun h => .inr (.inr h), fun x k v l r hx => (by cases hx)⟩
theorem SwG.drop {u : Tr} (I : SwG f tops sn (A ++ [u])) {x : Int} (h : u.nm = some x) (hx : x ∈ sn) : SwG f tops sn A := by
  have ok : ∀ t, OkG sn (A ++ [u]) t → OkG sn A t := fun t ht => by
    rcases ht with ht | ht | ht
    · exact .inl ht
    · exact .inr (.inl ht)
    · rcases List.mem_append.mp ht with ht | ht
      · exact .inr (.inr ht)
      · rw [List.mem_singleton.mp ht]
        exact .inr (.inl ⟨x, h, hx⟩)
  exact ⟨fun u hu => I.rp u (List.mem_append.mpr (.inl hu)), fun u hu => I.nn u (List.mem_append.mpr (.inl hu)), I.nd, I.sa, fun u hu => I.ta u (List.mem_append.mpr (.inl hu)), fun t ht => ok t (I.tp t ht), fun x k v l r hx hr => ⟨ok l (I.ch x k v l r hx hr).1, ok r (I.ch x k v l r hx hr).2⟩⟩
theorem SwG.more {n k v : Int} {l r : Tr} (I : SwG f tops sn (A ++ [.node n k v l r])) (h : n ∉ sn) : SwG f tops (sn ++ [n]) (A ++ nz [l, r]) := by
  have hu : (Tr.node n k v l r).rep f := I.rp _ (List.mem_append.mpr (.inr (List.mem_singleton.mpr rfl)))
  have ha := I.ta (.node n k v l r) (List.mem_append.mpr (.inr (List.mem_singleton.mpr rfl)))
  have mem2 : ∀ u ∈ nz [l, r], u = l ∨ u = r := fun u hu => by
    have := (List.mem_filter.mp hu).1
    simpa using this
  have ok : ∀ t, OkG sn (A ++ [.node n k v l r]) t → OkG (sn ++ [n]) (A ++ nz [l, r]) t := fun t ht => by
    rcases ht with ht | ⟨x, hx, hm⟩ | ht
    · exact .inl ht
    · exact .inr (.inl ⟨x, hx, List.mem_append.mpr (.inl hm)⟩)
    · rcases List.mem_append.mp ht with ht | ht
      · exact .inr (.inr (List.mem_append.mpr (.inl ht)))
      · rw [List.mem_singleton.mp ht]
        exact .inr (.inl ⟨n, rfl, List.mem_append.mpr (.inr (List.mem_singleton.mpr rfl))⟩)
  refine ⟨fun u hu1 => ?_, fun u hu1 => ?_, ?_, fun x hx => ?_, fun u hu1 x hx => ?_, fun t ht => ok t (I.tp t ht), fun x k' v' l' r' hx hr => ?_⟩
  · rcases List.mem_append.mp hu1 with h1 | h1
    · exact I.rp u (List.mem_append.mpr (.inl h1))
    · rcases mem2 u h1 with rfl | rfl
      · exact hu.2.1
      · exact hu.2.2
  · rcases List.mem_append.mp hu1 with h1 | h1
    · exact I.nn u (List.mem_append.mpr (.inl h1))
    · exact (List.mem_filter.mp h1).2
  · rw [List.nodup_append]
    exact ⟨I.nd, by simp, fun a ha b hb e => h (by rw [List.mem_singleton.mp hb] at e; rw [← e]; exact ha)⟩
  · rcases List.mem_append.mp hx with hx | hx
    · exact I.sa x hx
    · rw [List.mem_singleton.mp hx]
      exact ha n (List.mem_cons.mpr (.inl rfl))
  · rcases List.mem_append.mp hu1 with h1 | h1
    · exact I.ta u (List.mem_append.mpr (.inl h1)) x hx
    · rcases mem2 u h1 with rfl | rfl
      · exact ha x (List.mem_cons.mpr (.inr (List.mem_append.mpr (.inl hx))))
      · exact ha x (List.mem_cons.mpr (.inr (List.mem_append.mpr (.inr hx))))
  · rcases List.mem_append.mp hx with hx | hx
    · exact ⟨ok l' (I.ch x k' v' l' r' hx hr).1, ok r' (I.ch x k' v' l' r' hx hr).2⟩
    · have e := List.mem_singleton.mp hx
      subst e
      have e2 := Tr.rep_uniq hr hu rfl
      injection e2 with _ _ _ e3 e4
      subst e3
      subst e4
      have m1 : ∀ t ∈ [l', r'], OkG (sn ++ [x]) (A ++ nz [l', r']) t := fun t ht => (nz_mem ht).elim .inl fun h => .inr (.inr (List.mem_append.mpr (.inr h)))
      exact ⟨m1 l' (by simp), m1 r' (by simp)⟩
theorem SwG.done (ht : ∀ t ∈ tops, t.rep f) (I : SwG f tops sn []) : ∀ x, x ∈ sn ↔ x ∈ tops.flatMap Tr.names := by
  have key : ∀ t : Tr, t.rep f → OkG sn [] t → ∀ x ∈ t.names, x ∈ sn := by
    intro t
    induction t with
    | nil => intro _ _ x hx; cases hx
    | node n k v l r ihl ihr =>
      intro hr ho x hx
      have hn : n ∈ sn := by
        rcases ho with h | ⟨y, hy, hm⟩ | h
        · cases h
        · rw [Option.some.inj hy]; exact hm
        · cases h
      obtain ⟨o1, o2⟩ := I.ch n k v l r hn hr
      rcases List.mem_cons.mp hx with rfl | hx
      · exact hn
      · rcases List.mem_append.mp hx with hx | hx
        · exact ihl hr.2.1 o1 x hx
        · exact ihr hr.2.2 o2 x hx
  intro x
  refine ⟨I.sa x, fun hx => ?_⟩
  obtain ⟨t, ht1, h⟩ := List.mem_flatMap.mp hx
  exact key t (ht t ht1) (I.tp t ht1) x h
end
end La
namespace La
open PySem L2 Sy
def t__law_plant (K : PySem.W.Frag) : TS :=
  tSeq (tAsg (tVar 0) (gTup K 3 (gCons (gName 2) (gCons (gName 3) (gCons (gName 4) (gNil))))))
    (tSeq (tAsg (tLst (tNil)) (gName 5))
    (tSeq (tAsg (tVar 4) (gName 6))
    (tSeq (tWhile (tAnd (tTest (tOp rNotNo (tVar 6) (tC .non))) (tTest (tOp rNe (tOp (rIxT K) (tOp (rIxL K) (tVar 3) (tVar 6)) (tC (.int 0))) (tVar 1)))) (tSeq (tDrop (tBM K "list" rAppend (tVar 5) (tCons (tVar 6) (tNil))))
    (tAsg (tOp (rIxT K) (tOp (rIxL K) (tVar 3) (tVar 6)) (tIf (tTest (tOp rLtI (tVar 1) (tOp (rIxT K) (tOp (rIxL K) (tVar 3) (tVar 6)) (tC (.int 0))))) (tC (.int 1)) (tC (.int 2)))) (gName 6))))
    (tSeq (tAsg (tIf (tTest (tOp rIsNo (tVar 6) (tC .non))) (tTup (tCons (tC .non) (tCons (tC .non) (tNil)))) (tSl (rSlT K) (tOp (rIxL K) (tVar 3) (tVar 6)) (tPart (tC (.int 1))) (tNoPart))) (gTup K 2 (gCons (gName 7) (gCons (gName 8) (gNil)))))
    (tSeq (tDrop (tBM K "list" rAppend (tVar 3) (tCons (tTup (tCons (tVar 1) (tCons (tVar 7) (tCons (tVar 8) (tNil))))) (tNil))))
    (tSeq (tAsg (tOp rSubI (tCB (rLenQ K) (tCons (tVar 3) (tNil))) (tC (.int 1))) (gName 9))
    (tSeq (tFor (iList K (tRevL K (tVar 5))) (gName 10) (tSeq (tAsg (tOp (rIxL K) (tVar 3) (tVar 10)) (gTup K 3 (gCons (gName 11) (gCons (gName 7) (gCons (gName 8) (gNil))))))
    (tSeq (tAsg (tIf (tTest (tOp rLtI (tVar 1) (tVar 11))) (tTup (tCons (tVar 9) (tCons (tVar 8) (tNil)))) (tTup (tCons (tVar 7) (tCons (tVar 9) (tNil))))) (gTup K 2 (gCons (gName 7) (gCons (gName 8) (gNil)))))
    (tSeq (tDrop (tBM K "list" rAppend (tVar 3) (tCons (tTup (tCons (tVar 11) (tCons (tVar 7) (tCons (tVar 8) (tNil))))) (tNil))))
    (tAsg (tOp rSubI (tCB (rLenQ K) (tCons (tVar 3) (tNil))) (tC (.int 1))) (gName 9))))))
    (tRet (tTup (tCons (tVar 2) (tCons (tVar 3) (tCons (tVar 9) (tNil)))))))))))))
def t__law_reach (K : PySem.W.Frag) : TS :=
  tSeq (tAsg (tLst (tNil)) (gName 2))
    (tSeq (tAsg (tLc (iList K (tVar 1)) (gName 4) (tTest (tOp rNotNo (tVar 4) (tC .non))) (tVar 4) [4]) (gName 3))
    (tSeq (tWhile (tTest (tOp (rNeD K) (tVar 3) (tLst (tNil)))) (tSeq (tAsg (tBM0 K "list" rPop (tVar 3)) (gName 5))
    (tIfS (tTest (tOp (rIn K true) (tVar 5) (tVar 2))) (tSeq (tDrop (tBM K "list" rAppend (tVar 2) (tCons (tVar 5) (tNil))))
    (tAsg (tOp rCat (tVar 3) (tLc (iTup K (tSl (rSlT K) (tOp (rIxL K) (tVar 0) (tVar 5)) (tPart (tC (.int 1))) (tNoPart))) (gName 6) (tTest (tOp rNotNo (tVar 6) (tC .non))) (tVar 6) [6])) (gName 3))) (tNext))))
    (tRet (tVar 2))))
def t_law_b0 (K : PySem.W.Frag) (C_Tree : Addr) (sp__law_town sp__law_draw sp_mk_Tree sp__law_pick sp_Tree__Tree_put sp__law_plant sp_Tree__Tree_begin sp__law_reach sp_Tree__Tree_len sp_Tree__Tree_sweep sp_Tree__Tree_finish : Sp) : TS :=
  tSeq (tDrop (tMeth C_Tree "begin" sp_Tree__Tree_begin [] E0 (tVar 3) (tCons (tVar 8) (tNil))))
    (sDPut (tVar 5) (tVar 8) (tOp (rIxT K) (tVar 4) (tC (.int 2))))
def t_law_b1 (K : PySem.W.Frag) (C_Tree : Addr) (sp__law_town sp__law_draw sp_mk_Tree sp__law_pick sp_Tree__Tree_put sp__law_plant sp_Tree__Tree_begin sp__law_reach sp_Tree__Tree_len sp_Tree__Tree_sweep sp_Tree__Tree_finish : Sp) : TS :=
  tSeq (tAsg (tCall sp__law_pick [] E0 (tCons (tVar 1) (tCons (tLst (tCons (tCall sp__law_draw [] E0 (tCons (tVar 1) (tCons (tC (.int 7)) (tNil)))) (tCons (tOp rMulI (tC (.int 100)) (tCall sp__law_draw [] E0 (tCons (tVar 1) (tCons (tC (.int 7)) (tNil))))) (tNil)))) (tNil)))) (gName 7))
    (tSeq (tDrop (tMeth C_Tree "put" sp_Tree__Tree_put [] E0 (tVar 3) (tCons (tVar 7) (tCons (tVar 6) (tNil)))))
    (tSeq (tAsg (tCall sp__law_plant [] E0 (tCons (tVar 4) (tCons (tVar 7) (tNil)))) (gName 4))
    (tSeq (tAsg (tCall sp__law_draw [] E0 (tCons (tVar 1) (tCons (tVar 2) (tNil)))) (gName 8))
    (tIfS (tAnd (tTest (tOp rEq (tCall sp__law_draw [] E0 (tCons (tVar 1) (tCons (tC (.int 3)) (tNil)))) (tC (.int 0)))) (tB (tDNotIn (tVar 8) (tVar 5)))) (t_law_b0 K C_Tree sp__law_town sp__law_draw sp_mk_Tree sp__law_pick sp_Tree__Tree_put sp__law_plant sp_Tree__Tree_begin sp__law_reach sp_Tree__Tree_len sp_Tree__Tree_sweep sp_Tree__Tree_finish) (tNext)))))
def t_law_b2 (K : PySem.W.Frag) (C_Tree : Addr) (sp__law_town sp__law_draw sp_mk_Tree sp__law_pick sp_Tree__Tree_put sp__law_plant sp_Tree__Tree_begin sp__law_reach sp_Tree__Tree_len sp_Tree__Tree_sweep sp_Tree__Tree_finish : Sp) : TS :=
  tSeq (tDrop (tMeth C_Tree "finish" sp_Tree__Tree_finish [] E0 (tVar 3) (tCons (tVar 8) (tNil))))
    (tDrop (tDPop1 (tVar 5) (tVar 8)))
def t_law_b3 (K : PySem.W.Frag) (C_Tree : Addr) (sp__law_town sp__law_draw sp_mk_Tree sp__law_pick sp_Tree__Tree_put sp__law_plant sp_Tree__Tree_begin sp__law_reach sp_Tree__Tree_len sp_Tree__Tree_sweep sp_Tree__Tree_finish : Sp) : TS :=
  tSeq (tAsg (tCB (rLenQ K) (tCons (tCall sp__law_reach [] E0 (tCons (tOp (rIxT K) (tVar 4) (tC (.int 1))) (tCons (tOp rCat (tLockE (tLc (iKeys (tVar 5)) (gName 11) tYes (tDGet (tVar 5) (tVar 11)) [11])) (tLst (tCons (tOp (rIxT K) (tVar 4) (tC (.int 2))) (tNil)))) (tNil)))) (tNil))) (gName 10))
    (tSeq (tIfS (tOr (tTest (tOp rNe (tCB (rLenO C_Tree sp_Tree__Tree_len E0) (tCons (tVar 3) (tNil))) (tVar 9))) (tOr (tTest (tOp rNe (tMeth C_Tree "sweep" sp_Tree__Tree_sweep [] E0 (tVar 3) tNil) (tOp rSubI (tVar 9) (tVar 10)))) (tTest (tOp rNe (tCB (rLenO C_Tree sp_Tree__Tree_len E0) (tCons (tVar 3) (tNil))) (tVar 10))))) (tRet (tC (.bl false))) (tNext))
    (tSeq (tAsg (tVar 10) (gName 9))
    (tIfS (tTest (tOp rNotNo (tVar 8) (tC .non))) (t_law_b2 K C_Tree sp__law_town sp__law_draw sp_mk_Tree sp__law_pick sp_Tree__Tree_put sp__law_plant sp_Tree__Tree_begin sp__law_reach sp_Tree__Tree_len sp_Tree__Tree_sweep sp_Tree__Tree_finish) (tNext))))
def t_law (K : PySem.W.Frag) (C_Tree : Addr) (sp__law_town sp__law_draw sp_mk_Tree sp__law_pick sp_Tree__Tree_put sp__law_plant sp_Tree__Tree_begin sp__law_reach sp_Tree__Tree_len sp_Tree__Tree_sweep sp_Tree__Tree_finish : Sp) : TS :=
  tSeq (tAsg (tCall sp__law_town [] E0 (tCons (tVar 0) (tNil))) (gName 1))
    (tSeq (tAsg (tOp rAddI (tC (.int 2)) (tCall sp__law_draw [] E0 (tCons (tVar 1) (tCons (tC (.int 4)) (tNil))))) (gName 2))
    (tSeq (tAsg (tMake C_Tree sp_mk_Tree [] E0 (tCons (tVar 2) (tNil))) (gName 3))
    (tSeq (tAsg (tTup (tCons (tLst (tNil)) (tCons (tLst (tNil)) (tCons (tC .non) (tNil))))) (gName 4))
    (tSeq (tAsg (tDNewK) (gName 5))
    (tSeq (tFor (iRng1 (tCons (tC (.int 12)) (tNil))) (gName 6) (t_law_b1 K C_Tree sp__law_town sp__law_draw sp_mk_Tree sp__law_pick sp_Tree__Tree_put sp__law_plant sp_Tree__Tree_begin sp__law_reach sp_Tree__Tree_len sp_Tree__Tree_sweep sp_Tree__Tree_finish))
    (tSeq (tAsg (tCB (rLenQ K) (tCons (tOp (rIxT K) (tVar 4) (tC (.int 1))) (tNil))) (gName 9))
    (tSeq (tFor (iList K (tOp rCat (tCB rSortD (tCons (tVar 5) (tNil))) (tLst (tCons (tC .non) (tNil))))) (gName 8) (t_law_b3 K C_Tree sp__law_town sp__law_draw sp_mk_Tree sp__law_pick sp_Tree__Tree_put sp__law_plant sp_Tree__Tree_begin sp__law_reach sp_Tree__Tree_len sp_Tree__Tree_sweep sp_Tree__Tree_finish))
    (tRet (tOp rEqE (tVar 5) (tDNewK))))))))))
end La
namespace La
open PySem L2 Sy
local macro_rules | `(tactic| walk_at "fl") => `(tactic| first | assumption | exact tre_hands | exact tre_knots | exact tre_made | exact tre_root | exact tre_pinned | kernel_rfl)
local macro_rules | `(tactic| walk_at "put") => `(tactic| first | exact tre_put_hands | exact tre_put_knots | exact tre_put_made | exact tre_put_root | exact tre_put_pinned | exact tre_p1 | exact tre_p2 | exact tre_p3 | exact tre_p4 | exact tre_p5)
local macro_rules | `(tactic| walk_at "fsl") => `(tactic| first | assumption | exact tre_len | (show 0 < 1000; decide) | (show 1 < 1000; decide) | (show 2 < 1000; decide) | (show 3 < 1000; decide) | (show 4 < 1000; decide))
/-! ### comprehensions over tuples -/
section
variable {K : PySem.W.Frag} {σ : St} {H : Hp} {L : List U} {Q : VK} {te ta : TE} {a : Addr}
def kLcT (K : PySem.W.Frag) (g : TG) (tt : TT) (te : TE) (vs : List Nat) (σ : St) (x : V) (H1 : Hp) (Q : VK) : Prop := ∃ a, x = .ref a ∧ (∃ xs, SqT K H1 a xs) ∧ kLc g tt te vs σ (Itt K a) H1 Q
theorem x_lcT {g : TG} {tt : TT} {vs : List Nat} (q : ta σ H fun x H1 => kLcT K g tt te vs σ x H1 Q) : tLc (iTup K ta) g tt te vs σ H Q := q
theorem k_lcTF {α : Type} {k : Nat} {tt : TT} (zs : List α) (g h : α → V) (c : α → Bool) (hh : Has H L) (ha : ∀ H', Has H' L → H' a = some (.tup (zs.map g))) (hz : zs.length ≤ 100000)
    (ht : ∀ z ∈ zs, ∀ D M H' (Q' : Bool → Hp → Prop), Has H' ([(D, .lst M)] :: L) → (∀ H'', Has H'' ([(D, .lst M)] :: L) → Q' (c z) H'') → tt ((wipe σ [k]).set k (some (g z))) H' Q')
    (hs : ∀ z ∈ zs, c z = true → ∀ D M H' (Q' : VK), Has H' ([(D, .lst M)] :: L) → (∀ H'', Has H'' ([(D, .lst M)] :: L) → Q' (h z) H'') → te ((wipe σ [k]).set k (some (g z))) H' Q')
    (q : ∀ D H', Has H' ([(D, .lst ((zs.filter c).map h))] :: L) → Q (.ref D) H') : kLcT K (gName k) tt te [k] σ (.ref a) H Q := by
  have hw : ∀ x, wipe ((wipe σ [k]).set k (some x)) [k] = wipe σ [k] := fun x => by
    show ((σ.set k none).set k (some x)).set k none = σ.set k none
    rw [List.set_set, List.set_set]
  refine ⟨a, rfl, ⟨_, SqT.of (ha H hh)⟩, fun D hD => lc_tup (K := K) (xs := zs.map g) (fun i H' => Has H' ([(D, .lst (((zs.take i).filter c).map h))] :: L)) (hh.nw hD) (fun i H' _ h' => SqT.of (ha H' (h'.sub (Sub.skip Sub.rf)))) (fun i x H' hi h' => ?_) (fun H' h' => ?_)⟩
  · rw [List.getElem?_map] at hi
    obtain ⟨z, hz1, rfl⟩ := Option.map_eq_some_iff.mp hi
    have hm : z ∈ zs := List.mem_of_getElem? hz1
    have et : zs.take (i + 1) = zs.take i ++ [z] := by rw [List.take_add_one, hz1]; rfl
    refine ⟨hw _, ht z hm D _ H' _ h' fun H2 h2 => ?_⟩
    refine ifB (fun e => ?_) (fun e => ?_)
    · refine hs z hm e D _ H2 _ h2 fun H3 h3 => ?_
      refine ⟨_, h3.g0, ?_, ?_⟩
      · rw [sizeLine_eq, List.length_map]
        have l1 := List.length_filter_le c (zs.take i)
        have l3 := List.length_take_le' i zs
        omega
      · rw [et, List.filter_append, List.map_append, List.filter_cons, if_pos e]
        exact h3.s0
    · rw [et, List.filter_append, List.filter_cons, if_neg (by rw [e]; decide)]
      simpa using h2
  · rw [List.length_map, List.take_length] at h'
    exact q D H' h'
end
/-! ### the law's own knots: tuples by names -/
def obT (q : Ow) : HO := .tup [.int q.1, oV q.2.1, oV q.2.2]
abbrev Ows := List (Addr × Ow)
theorem fmR_len' {β : Type} (m : List (Addr × β)) : (fmR m).length = m.length := List.length_map ..
def GrowO (r0 r1 : Ows) : Prop := ∃ new, r1 = r0 ++ new
theorem GrowO.at' {r0 r1 : Ows} (g : GrowO r0 r1) {n : Nat} {x : Ow} (h : (r0.map (·.2))[n]? = some x) : (r1.map (·.2))[n]? = some x := by
  obtain ⟨new, rfl⟩ := g
  rw [List.map_append, List.getElem?_append_left (List.getElem?_eq_some_iff.mp h).1]
  exact h
theorem GrowO.rep {r0 r1 : Ows} (g : GrowO r0 r1) {t : Tr} (h : t.repO (r0.map (·.2))) : t.repO (r1.map (·.2)) := Tr.repO_mono (fun n _ x hx => g.at' hx) h
theorem GrowO.refl (r : Ows) : GrowO r r := ⟨[], (List.append_nil r).symm⟩
theorem GrowO.step {r0 r1 : Ows} (g : GrowO r0 r1) (x : Addr × Ow) : GrowO r0 (r1 ++ [x]) := by
  obtain ⟨new, rfl⟩ := g
  exact ⟨new ++ [x], List.append_assoc _ _ _⟩
theorem row_new {r : Ows} {d : Addr} {q : Ow} : ((r ++ [(d, q)]).map (·.2))[(r.length : Int).toNat]? = some q := by
  rw [List.map_append, Int.toNat_natCast, List.getElem?_append_right (by rw [List.length_map]; exact Nat.le_refl _), List.length_map, Nat.sub_self]
  rfl
theorem row_at {rows : Ows} {n : Int} {q : Ow} (n0 : 0 ≤ n) (h : (rows.map (·.2))[n.toNat]? = some q) : ∃ ra, rows[n.toNat]? = some (ra, q) ∧ atI (fmR rows) n = some (.ref ra) := by
  rw [List.getElem?_map] at h
  obtain ⟨⟨ra, q'⟩, h1, h2⟩ := Option.map_eq_some_iff.mp h
  have h2 : q' = q := h2
  subst h2
  exact ⟨ra, h1, at_n n0 (by unfold fmR; rw [List.getElem?_map, h1]; rfl)⟩
def sp__law_plant : Sp := fun vs H Q _ => ∃ (ta na kb : Addr) (rows : Ows) (t : Tr) (j x : Int) (R : List U), vs = [.ref ta, .int j] ∧ Has H ([(ta, .tup [.ref na, .ref kb, tnV t])] :: [(kb, .lst (fmR rows))] :: fmU obT rows :: R) ∧ t.repO (rows.map (·.2)) ∧ rows.length ≤ 5000 ∧ t.names.length ≤ 500 ∧
  ∀ (rows' : Ows) (tb : Addr) H', GrowO rows rows' → (rows'.length : Int) = (t.ins j x rows.length).2 → (t.ins j x rows.length).1.repO (rows'.map (·.2)) → Has H' ([(tb, .tup [.ref na, .ref kb, tnV (t.ins j x rows.length).1])] :: [(kb, .lst (fmR rows'))] :: fmU obT rows' :: R) → Q (.ref tb) H'
/-- a row more -/
theorem fm_more {β : Type} {ob : β → HO} {H : Hp} {kb d : Addr} {m : List (Addr × β)} {b : β} {L : List U} (h : Has H ([(d, ob b)] :: [(kb, .lst (fmR m ++ [.ref d]))] :: fmU ob m :: L)) : Has H ([(kb, .lst (fmR (m ++ [(d, b)])))] :: fmU ob (m ++ [(d, b)]) :: L) := by
  rw [fmR_snoc, fmU_snoc]
  exact (Has.op.mpr (h.sub (Sub.p2 (Sub.p0 Sub.rf)))).sub (Sub.p1 (Sub.p0 Sub.rf))
theorem pure__law_plant {K : PySem.W.Frag} {vs : List V} {H : Hp} {Q : VK} {E : XK} (h : sp__law_plant vs H Q E) : t__law_plant K ⟨fun _ H' => Q .non H', Q, fun _ _ => False, fun _ _ => False⟩ (start ["tree", "key", "names", "knots", "top", "way", "here", "low", "high", "below", "one", "mine"] vs) H := by
  obtain ⟨ta, na, kb, rows, t, j, x, R, rfl, hh, hrep, hrl, htl, q⟩ := h
  have hsl := Tr.subs_len j t
  unfold t__law_plant
  generalize hT : (tSeq (tDrop (tBM K "list" rAppend (tVar 3) (tCons (tTup (tCons (tVar 1) (tCons (tVar 7) (tCons (tVar 8) (tNil))))) (tNil))))
    (tSeq (tAsg (tOp rSubI (tCB (rLenQ K) (tCons (tVar 3) (tNil))) (tC (.int 1))) (gName 9))
    (tSeq (tFor (iList K (tRevL K (tVar 5))) (gName 10) (tSeq (tAsg (tOp (rIxL K) (tVar 3) (tVar 10)) (gTup K 3 (gCons (gName 11) (gCons (gName 7) (gCons (gName 8) (gNil))))))
    (tSeq (tAsg (tIf (tTest (tOp rLtI (tVar 1) (tVar 11))) (tTup (tCons (tVar 9) (tCons (tVar 8) (tNil)))) (tTup (tCons (tVar 7) (tCons (tVar 9) (tNil))))) (gTup K 2 (gCons (gName 7) (gCons (gName 8) (gNil)))))
    (tSeq (tDrop (tBM K "list" rAppend (tVar 3) (tCons (tTup (tCons (tVar 11) (tCons (tVar 7) (tCons (tVar 8) (tNil))))) (tNil))))
    (tAsg (tOp rSubI (tCB (rLenQ K) (tCons (tVar 3) (tNil))) (tC (.int 1))) (gName 9))))))
    (tRet (tTup (tCons (tVar 2) (tCons (tVar 3) (tCons (tVar 9) (tNil))))))))) = T
  walk_at "go"
  rename_i wa H1 h1
  have h2 := h1.sub (show Sub ([(wa, .lst ((([] : List Tr).map Tr.name0).map V.int))] :: [(kb, .lst (fmR rows))] :: fmU obT rows :: R) _ from Sub.p0 (Sub.skip Sub.rf))
  clear hh h1
  refine k_while (fun m σ H' => ∃ (o : Tr) (pre : List Tr), o.repO (rows.map (·.2)) ∧ t.subs j = pre ++ o.subs j ∧ t.bot j = o.bot j ∧ m = o.names.length ∧ σ = [some (.ref ta), some (.int j), some (.ref na), some (.ref kb), some (tnV t), some (.ref wa), some (tnV o), none, none, none, none, none] ∧ Has H' ([(wa, .lst ((pre.map Tr.name0).map V.int))] :: [(kb, .lst (fmR rows))] :: fmU obT rows :: R)) t.names.length ⟨t, [], hrep, rfl, rfl, rfl, rfl, h2⟩ (fun m σ H' hw => ?_)
  clear h2
  obtain ⟨o, pre, hor, hos, hob, rfl, rfl, h3⟩ := hw
  -- behind the way: what is below, then knots anew
  have tail : ∀ (L R2 : Tr) (vh : V) (H3 : Hp) (us : List Tr), t.subs j = us → (t.bot j).ins j x rows.length = (.node rows.length j x L R2, (rows.length : Int) + 1) → L.repO (rows.map (·.2)) → R2.repO (rows.map (·.2)) → Has H3 ([(wa, .lst ((us.map Tr.name0).map V.int))] :: [(kb, .lst (fmR rows))] :: fmU obT rows :: R) →
      T
      ⟨fun _ H' => Q .non H', Q, fun _ _ => False, fun _ _ => False⟩ [some (.ref ta), some (.int j), some (.ref na), some (.ref kb), some (tnV t), some (.ref wa), some vh, some (oV L.nm), some (oV R2.nm), none, none, none] H3 := by
    intro L R2 vh H3 us hus hbi hL hR h3
    have hsub := fun u hu => Tr.subs_repO j hrep u hu
    rw [hus] at hsub hsl
    have ei : t.ins j x rows.length = us.foldr (Tr.wrap j) (.node rows.length j x L R2, (rows.length : Int) + 1) := by rw [Tr.ins_fold, hbi, hus]
    have hsz : (fmR rows).length < sizeLine := by rw [fmR_len', sizeLine_eq]; omega
    rw [← hT]
    walk_at "go"
    rename_i d4 H4 h4 H5 h5 d8 H8 h8
    have h6 := fm_more (ob := obT) (b := (j, (L.nm, R2.nm))) (h8.sub (show Sub ([(d4, .tup [.int j, oV L.nm, oV R2.nm])] :: [(kb, _)] :: fmU obT rows :: [(d8, _)] :: R) _ by walk_at "sub"))
    clear h3 h4 h5 h8
    have el : ((((fmR rows ++ [V.ref d4]).length : Nat) : Int) - 1) = (rows.length : Int) := by rw [List.length_append, fmR_len']; show ((rows.length + 1 : Nat) : Int) - 1 = _; omega
    rw [el]
    have h8 := h6.sub (show Sub ([(d8, _)] :: [(kb, _)] :: fmU obT (rows ++ [(d4, (j, (L.nm, R2.nm)))]) :: R) _ from Sub.p2 (Sub.p0 (Sub.p0 Sub.rf)))
    clear h6
    rw [show ((us.map Tr.name0).map V.int).reverse = us.reverse.map fun u => V.int u.name0 by rw [List.map_map, ← List.map_reverse]; rfl] at h8
    refine k_forL (fun i σ H' => ∃ (r1 : Ows) (w7 w8 w10 w11 : Option V), GrowO rows r1 ∧ (r1.length : Int) = ((us.reverse.take i).foldl (fun a f => Tr.wrap j f a) (.node rows.length j x L R2, (rows.length : Int) + 1)).2 ∧ ((us.reverse.take i).foldl (fun a f => Tr.wrap j f a) (.node rows.length j x L R2, (rows.length : Int) + 1)).1.repO (r1.map (·.2)) ∧ r1.length ≤ rows.length + 1 + i ∧ σ = [some (.ref ta), some (.int j), some (.ref na), some (.ref kb), some (tnV t), some (.ref wa), some vh, w7, w8, some (tnV ((us.reverse.take i).foldl (fun a f => Tr.wrap j f a) (.node rows.length j x L R2, (rows.length : Int) + 1)).1), w10, w11] ∧
      Has H' ([(d8, .lst (us.reverse.map fun u => V.int u.name0))] :: [(kb, .lst (fmR r1))] :: fmU obT r1 :: R)) h8.g0 ⟨rows ++ [(d4, (j, (L.nm, R2.nm)))], _, _, _, _, ⟨_, rfl⟩, by rw [List.length_append]; rfl, ⟨by omega, row_new, GrowO.rep ⟨_, rfl⟩ hL, GrowO.rep ⟨_, rfl⟩ hR⟩, by rw [List.length_append]; exact Nat.le_refl _, rfl, h8⟩ (fun i σ H' hP => ?_) (fun i y σ H' hy hP => ?_) (fun σ H' hP => ?_)
    · obtain ⟨r1, _, _, _, _, _, _, _, _, _, h'⟩ := hP
      exact h'.g0
    · obtain ⟨r1, w7, w8, w10, w11, gr, hl1, hrp, hr1, rfl, h'⟩ := hP
      clear h8
      rw [List.getElem?_map] at hy
      obtain ⟨u, hu1, rfl⟩ := Option.map_eq_some_iff.mp hy
      have hil : i < us.length := by
        have := (List.getElem?_eq_some_iff.mp hu1).1
        rw [List.length_reverse] at this
        exact this
      obtain ⟨hur, n, k, v, l, r, rfl⟩ := hsub u (List.mem_reverse.mp (List.mem_of_getElem? hu1))
      obtain ⟨n0, hrow, hlr, hrr⟩ := gr.rep hur
      obtain ⟨ra, hra1, hat⟩ := row_at n0 hrow
      have et : us.reverse.take (i + 1) = us.reverse.take i ++ [.node n k v l r] := by rw [List.take_add_one, hu1]; rfl
      have ef : (us.reverse.take (i + 1)).foldl (fun a f => Tr.wrap j f a) (.node rows.length j x L R2, (rows.length : Int) + 1) = Tr.wrap j (.node n k v l r) ((us.reverse.take i).foldl (fun a f => Tr.wrap j f a) (.node rows.length j x L R2, (rows.length : Int) + 1)) := by rw [et, List.foldl_append]; rfl
      rw [ef]
      generalize (us.reverse.take i).foldl (fun a f => Tr.wrap j f a) (.node rows.length j x L R2, (rows.length : Int) + 1) = acc at *
      obtain ⟨ta2, ma⟩ := acc
      have hl1 : (r1.length : Int) = ma := hl1
      have hrp : ta2.repO (r1.map (·.2)) := hrp
      have hrt : H' ra = some (.tup [.int k, oV l.nm, oV r.nm]) := Has.fms (h'.sub (show Sub (fmU obT r1 :: _) _ from Sub.p2 Sub.rf)) _ (List.mem_of_getElem? hra1)
      have hsz1 : (fmR r1).length < sizeLine := by rw [fmR_len', sizeLine_eq]; omega
      show gName 10 (.int n) [some (.ref ta), some (.int j), some (.ref na), some (.ref kb), some (tnV t), some (.ref wa), some vh, w7, w8, some (tnV ta2), w10, w11] H' _
      walk_at "go"
      refine ifD (fun hlt => ?_) (fun hge => ?_)
      · walk_at "go"
        rename_i d9 H9 h9 d10 H10 h10 H11 h11
        have ew : Tr.wrap j (.node n k v l r) (ta2, ma) = (.node ma k v ta2 r, ma + 1) := by show (if j < k then _ else _) = _; rw [if_pos hlt]
        rw [ew]
        have el2 : ((((fmR r1 ++ [V.ref d10]).length : Nat) : Int) - 1) = ma := by rw [List.length_append, fmR_len']; show ((r1.length + 1 : Nat) : Int) - 1 = _; omega
        rw [el2]
        have h12 := fm_more (ob := obT) (b := (k, (ta2.nm, r.nm))) (h11.sub (show Sub ([(d10, .tup [.int k, oV ta2.nm, oV r.nm])] :: [(kb, _)] :: fmU obT r1 :: [(d8, _)] :: R) _ by walk_at "sub"))
        refine ⟨r1 ++ [(d10, (k, (ta2.nm, r.nm)))], _, _, _, _, gr.step _, by rw [List.length_append]; show ((r1.length + 1 : Nat) : Int) = ma + 1; omega, ⟨by omega, by rw [← hl1]; exact row_new, GrowO.rep ⟨_, rfl⟩ hrp, GrowO.rep ⟨_, rfl⟩ hrr⟩, by rw [List.length_append]; show r1.length + 1 ≤ _; omega, rfl, h12.sub (Sub.p2 (Sub.p0 (Sub.p0 Sub.rf)))⟩
      · walk_at "go"
        rename_i d9 H9 h9 d10 H10 h10 H11 h11
        have ew : Tr.wrap j (.node n k v l r) (ta2, ma) = (.node ma k v l ta2, ma + 1) := by show (if j < k then _ else _) = _; rw [if_neg hge]
        rw [ew]
        have el2 : ((((fmR r1 ++ [V.ref d10]).length : Nat) : Int) - 1) = ma := by rw [List.length_append, fmR_len']; show ((r1.length + 1 : Nat) : Int) - 1 = _; omega
        rw [el2]
        have h12 := fm_more (ob := obT) (b := (k, (l.nm, ta2.nm))) (h11.sub (show Sub ([(d10, .tup [.int k, oV l.nm, oV ta2.nm])] :: [(kb, _)] :: fmU obT r1 :: [(d8, _)] :: R) _ by walk_at "sub"))
        refine ⟨r1 ++ [(d10, (k, (l.nm, ta2.nm)))], _, _, _, _, gr.step _, by rw [List.length_append]; show ((r1.length + 1 : Nat) : Int) = ma + 1; omega, ⟨by omega, by rw [← hl1]; exact row_new, GrowO.rep ⟨_, rfl⟩ hlr, GrowO.rep ⟨_, rfl⟩ hrp⟩, by rw [List.length_append]; show r1.length + 1 ≤ _; omega, rfl, h12.sub (Sub.p2 (Sub.p0 (Sub.p0 Sub.rf)))⟩
    · obtain ⟨r1, w7, w8, w10, w11, gr, hl1, hrp, hr1, rfl, h'⟩ := hP
      have e1 : us.reverse.take (us.reverse.map fun u => V.int u.name0).length = us.reverse := by rw [List.length_map]; exact List.take_length
      rw [e1, List.foldl_reverse, ← ei] at hl1 hrp
      rw [e1, List.foldl_reverse, ← ei]
      clear h8
      walk_at "go"
      rename_i tb H9 h9
      exact q r1 tb _ gr hl1 hrp (h9.sub (Sub.p0 (Sub.skip Sub.rf)))
  cases o with
  | nil =>
    have hus : t.subs j = pre := by rw [hos]; exact List.append_nil _
    have hbi : (t.bot j).ins j x rows.length = (.node rows.length j x .nil .nil, (rows.length : Int) + 1) := by rw [hob]; rfl
    rw [show tnV Tr.nil = V.non from rfl]
    walk_at "go"
    rename_i d4 H4 h4
    exact tail .nil .nil .non _ pre hus hbi trivial trivial (h4.sub (Sub.skip Sub.rf))
  | node n k v l r =>
    obtain ⟨n0, hrow, hlr, hrr⟩ := hor
    obtain ⟨ra, hra1, hat⟩ := row_at n0 hrow
    have hrt : H' ra = some (.tup [.int k, oV l.nm, oV r.nm]) := Has.fms (h3.sub (show Sub (fmU obT rows :: _) _ from Sub.p2 Sub.rf)) _ (List.mem_of_getElem? hra1)
    have hnl : (Tr.node n k v l r).names.length = l.names.length + r.names.length + 1 := by show (l.names ++ r.names).length + 1 = _; rw [List.length_append]
    rw [show tnV (Tr.node n k v l r) = V.int n from rfl]
    walk_at "go"
    refine ifE (fun hkj => ?_) (fun hkj => ?_)
    · have hjk : ¬ j = k := fun h => hkj h.symm
      refine k_wb ?_
      have hpl : pre.length ≤ 500 := by have := congrArg List.length hos; rw [List.length_append] at this; omega
      have hsz : ((pre.map Tr.name0).map V.int).length < sizeLine := by rw [List.length_map, List.length_map, sizeLine_eq]; omega
      walk_at "go"
      rename_i H4 h4
      rw [show (pre.map Tr.name0).map V.int ++ [V.int n] = ((pre ++ [Tr.node n k v l r]).map Tr.name0).map V.int by rw [List.map_append, List.map_append]; rfl] at h4
      have hrt4 : H4 ra = some (.tup [.int k, oV l.nm, oV r.nm]) := Has.fms (h4.sub (show Sub (fmU obT rows :: _) _ from Sub.p2 Sub.rf)) _ (List.mem_of_getElem? hra1)
      clear h3
      walk_at "go"
      refine ifD (fun hlt => ?_) (fun hge => ?_)
      · walk_at "go"
        refine ⟨l.names.length, by omega, l, pre ++ [.node n k v l r], hlr, ?_, ?_, rfl, rfl, h4⟩
        · rw [hos]
          show pre ++ (if j = k then [] else _ :: if j < k then _ else _) = _
          rw [if_neg hjk, if_pos hlt, List.append_assoc]
          rfl
        · rw [hob]
          show (if j = k then _ else if j < k then _ else _) = _
          rw [if_neg hjk, if_pos hlt]
      · walk_at "go"
        refine ⟨r.names.length, by omega, r, pre ++ [.node n k v l r], hrr, ?_, ?_, rfl, rfl, h4⟩
        · rw [hos]
          show pre ++ (if j = k then [] else _ :: if j < k then _ else _) = _
          rw [if_neg hjk, if_neg hge, List.append_assoc]
          rfl
        · rw [hob]
          show (if j = k then _ else if j < k then _ else _) = _
          rw [if_neg hjk, if_neg hge]
    · subst hkj
      have hus : t.subs k = pre := by
        rw [hos]
        show pre ++ (if k = k then [] else _) = _
        rw [if_pos rfl, List.append_nil]
      have hbi : (t.bot k).ins k x rows.length = (.node rows.length k x l r, (rows.length : Int) + 1) := by
        rw [hob]
        show ((if k = k then Tr.node n k v l r else _) : Tr).ins k x rows.length = _
        rw [if_pos rfl]
        show (if k = k then _ else _) = _
        rw [if_pos rfl]
      walk_at "go"
      refine x_slT ?_
      walk_at "go"
      refine x_partC (x_noPart ?_)
      refine k_cut3 h3 hrt fun d4 H4 h4 => ?_
      refine x_gtup h4.g0 rfl (x_gcons (x_gname (x_gcons (x_gname (x_gnil ?_)))))
      exact tail l r (.int n) _ pre hus hbi hlr hrr (h4.sub (Sub.skip Sub.rf))
end La
namespace La
open PySem L2 Sy
local macro_rules | `(tactic| walk_at "fl") => `(tactic| first | assumption | exact tre_hands | exact tre_knots | exact tre_made | exact tre_root | exact tre_pinned | kernel_rfl)
local macro_rules | `(tactic| walk_at "put") => `(tactic| first | exact tre_put_hands | exact tre_put_knots | exact tre_put_made | exact tre_put_root | exact tre_put_pinned | exact tre_p1 | exact tre_p2 | exact tre_p3 | exact tre_p4 | exact tre_p5)
local macro_rules | `(tactic| walk_at "fsl") => `(tactic| first | assumption | exact tre_len | (show 0 < 1000; decide) | (show 1 < 1000; decide) | (show 2 < 1000; decide) | (show 3 < 1000; decide) | (show 4 < 1000; decide))
/-! ### what is reached -/
def sp__law_reach : Sp := fun vs H Q _ => ∃ (kb pa : Addr) (rows : Ows) (tops : List Tr) (R : List U), vs = [.ref kb, .ref pa] ∧ Has H ([(kb, .lst (fmR rows))] :: fmU obT rows :: [(pa, .lst ((tops.map Tr.nm).map oV))] :: R) ∧ (∀ t ∈ tops, t.repO (rows.map (·.2))) ∧ tops.length ≤ 100 ∧ (tops.flatMap Tr.names).length ≤ 20000 ∧
  ∀ (fo : List Int) d H', fo.Nodup → (∀ x, x ∈ fo ↔ x ∈ tops.flatMap Tr.names) → Has H' ([(d, .lst (fo.map V.int))] :: [(kb, .lst (fmR rows))] :: fmU obT rows :: R) → Q (.ref d) H'
theorem strip_flat (tops : List Tr) : (tops.map Tr.strip).flatMap Tr.names = tops.flatMap Tr.names := by
  induction tops with
  | nil => rfl
  | cons t r ih => rw [List.map_cons, List.flatMap_cons, List.flatMap_cons, ih, Tr.strip_names]
theorem pure__law_reach {K : PySem.W.Frag} {vs : List V} {H : Hp} {Q : VK} {E : XK} (h : sp__law_reach vs H Q E) : t__law_reach K ⟨fun _ H' => Q .non H', Q, fun _ _ => False, fun _ _ => False⟩ (start ["knots", "tops", "found", "rest", "top", "here", "one"] vs) H := by
  obtain ⟨kb, pa, rows, tops0, R, rfl, hh, hrep0, htl, hnl, q⟩ := h
  -- values do not count
  obtain ⟨tops, htops⟩ : ∃ tops, tops = tops0.map Tr.strip := ⟨_, rfl⟩
  have enm : tops0.map Tr.nm = tops.map Tr.nm := by rw [htops, List.map_map]; exact List.map_congr_left fun t _ => (Tr.strip_nm t).symm
  have efl : tops.flatMap Tr.names = tops0.flatMap Tr.names := by rw [htops]; exact strip_flat tops0
  have hrep : ∀ t ∈ tops, t.rep (Tr.f0 (rows.map (·.2))) := fun t ht => by
    rw [htops] at ht
    obtain ⟨u, hu, rfl⟩ := List.mem_map.mp ht
    exact Tr.strip_rep (hrep0 u hu)
  have htl : tops.length ≤ 100 := by rw [htops, List.length_map]; exact htl
  rw [← efl] at hnl
  rw [enm] at hh
  have q : ∀ (fo : List Int) d H', fo.Nodup → (∀ x, x ∈ fo ↔ x ∈ tops.flatMap Tr.names) → Has H' ([(d, .lst (fo.map V.int))] :: [(kb, .lst (fmR rows))] :: fmU obT rows :: R) → Q (.ref d) H' := fun fo d H' h1 h2 h3 => q fo d H' h1 (by rw [← efl]; exact h2) h3
  clear enm hrep0
  unfold t__law_reach
  walk_at "go"
  rename_i fd H1 h1
  clear hh
  refine k_lcF tops (fun t => oV t.nm) (fun t => oV t.nm) (fun t => t.nm.isSome) h1 (fun H' h' => by rw [show tops.map (fun t => oV t.nm) = (tops.map Tr.nm).map oV by rw [List.map_map]; rfl]; walk_at "hp") (by omega) (fun z hz D M H' Q' h' q' => ?_) (fun z hz hc D M H' Q' h' q' => ?_) fun e0 H2 h2 => ?_
  · walk_at "go"
    refine k_notNoO ?_
    walk_at "go"
    exact q' H' h'
  · walk_at "go"
    exact q' H' h'
  rw [show (tops.filter fun t => t.nm.isSome).map (fun t => oV t.nm) = ((nz tops).map Tr.nm).map oV by rw [List.map_map]; rfl] at h2
  have h3 := h2.sub (show Sub ([(e0, .lst (((nz tops).map Tr.nm).map oV))] :: [(fd, .lst (([] : List Int).map V.int))] :: [(kb, .lst (fmR rows))] :: fmU obT rows :: R) _ from Sub.p0 (Sub.p0 (Sub.p0 (Sub.p0 (Sub.skip Sub.rf)))))
  clear h1 h2
  walk_at "go"
  have hz0 : (nz tops).length ≤ tops.length := List.length_filter_le _ _
  refine k_while (fun m σ H' => ∃ (sn : List Int) (ts : List Tr) (e : Addr) (w5 w6 : Option V), SwG (Tr.f0 (rows.map (·.2))) tops sn ts ∧ m = 3 * ((tops.flatMap Tr.names).length - sn.length) + ts.length ∧ m ≤ 3 * (tops.flatMap Tr.names).length + 100 ∧ σ = [some (.ref kb), some (.ref pa), some (.ref fd), some (.ref e), none, w5, w6] ∧ Has H' ([(e, .lst ((ts.map Tr.nm).map oV))] :: [(fd, .lst (sn.map V.int))] :: [(kb, .lst (fmR rows))] :: fmU obT rows :: R)) (3 * (tops.flatMap Tr.names).length + (nz tops).length) ⟨[], nz tops, e0, _, _, .start hrep, rfl, by omega, rfl, h3⟩ (fun m σ H' hw => ?_)
  clear h3
  obtain ⟨sn, ts, e, w5, w6, I, rfl, hm, rfl, h6⟩ := hw
  have hsl : sn.length ≤ (tops.flatMap Tr.names).length := nodup_sub_len I.nd I.sa
  walk_at "go"
  rename_i d7 H7 h7
  refine k_neOs (by walk_at "hp") (by walk_at "hp") ?_
  have h8 := h7.sub (Sub.skip Sub.rf)
  clear h6 h7
  walk_at "go"
  by_cases hn : ts = []
  · subst hn
    refine ifN (by rfl) ?_
    walk_at "go"
    exact q sn fd _ I.nd (I.done hrep) (h8.sub (Sub.skip Sub.rf))
  · obtain ⟨A, u, rfl⟩ := last_mem hn
    refine ifY (by simp) ?_
    refine k_wb ?_
    rw [List.map_append] at h8
    have h8 : Has H7 ([(e, .lst ((A.map Tr.nm ++ [u.nm]).map oV))] :: [(fd, .lst (sn.map V.int))] :: [(kb, .lst (fmR rows))] :: fmU obT rows :: R) := h8
    have hlast := @pop_end (A.map Tr.nm) u.nm
    have hrs := @pop_rest (A.map Tr.nm) u.nm
    have hal : (A ++ [u]).length = A.length + 1 := by rw [List.length_append]; rfl
    cases u with
    | nil =>
      have := I.nn .nil (List.mem_append.mpr (.inr (List.mem_singleton.mpr rfl)))
      cases this
    | node n k v l r =>
      have hlast : ((A.map Tr.nm ++ [(Tr.node n k v l r).nm]).map oV)[((A.map Tr.nm ++ [(Tr.node n k v l r).nm]).map oV).length - 1]? = some (.int n) := hlast
      obtain ⟨hf, hlr, hrr⟩ := I.rp _ (List.mem_append.mpr (.inr (List.mem_singleton.mpr rfl)))
      have n0 : 0 ≤ n := by
        unfold Tr.f0 at hf
        by_cases h : 0 ≤ n
        · exact h
        · rw [if_neg h] at hf; cases hf
      have hrow : (rows.map (·.2))[n.toNat]? = some (k, (l.nm, r.nm)) := by
        unfold Tr.f0 at hf
        rw [if_pos n0] at hf
        obtain ⟨⟨a, b, c⟩, h1, h2⟩ := Option.map_eq_some_iff.mp hf
        injection h2 with e1 e2 e3 e4
        rw [h1]
        have e1 : a = k := e1
        have e3 : b = l.nm := e3
        have e4 : c = r.nm := e4
        rw [e1, e3, e4]
      obtain ⟨ra, hra1, hat⟩ := row_at n0 hrow
      walk_at "go"
      rename_i H9 h9
      rw [hrs] at h9
      clear h8
      by_cases hin : n ∈ sn
      · refine ifN (by simp [hin]) ?_
        walk_at "go"
        exact ⟨_, by omega, sn, A, e, _, _, I.drop rfl hin, rfl, by omega, rfl, h9⟩
      · refine ifY (by simp [hin]) ?_
        have I2 := I.more hin
        have hs2 : (sn ++ [n]).length ≤ (tops.flatMap Tr.names).length := nodup_sub_len I2.nd I2.sa
        have hs3 : (sn ++ [n]).length = sn.length + 1 := by rw [List.length_append]; rfl
        have hz2 : (nz [l, r]).length ≤ 2 := List.length_filter_le _ _
        have hl2 : (A ++ nz [l, r]).length = A.length + (nz [l, r]).length := List.length_append
        have hsz : (sn.map V.int).length < sizeLine := by rw [List.length_map, sizeLine_eq]; omega
        walk_at "go"
        rename_i H10 h10
        rw [show sn.map V.int ++ [V.int n] = (sn ++ [n]).map V.int by rw [List.map_append]; rfl] at h10
        have hrt : H10 ra = some (.tup [.int k, oV l.nm, oV r.nm]) := Has.fms (h10.sub (show Sub (fmU obT rows :: _) _ from Sub.p3 Sub.rf)) _ (List.mem_of_getElem? hra1)
        clear h9
        refine x_lcT (x_slT ?_)
        walk_at "go"
        refine x_partC (x_noPart ?_)
        refine k_cut3 h10 hrt fun d11 H11 h11 => ?_
        clear h10
        refine k_lcTF [l, r] (fun t => oV t.nm) (fun t => oV t.nm) (fun t => t.nm.isSome) h11 (fun H' h' => h'.g0) (by show 2 ≤ 100000; decide) (fun z hz D M H' Q' h' q' => ?_) (fun z hz hc D M H' Q' h' q' => ?_) fun d12 H12 h12 => ?_
        · walk_at "go"
          refine k_notNoO ?_
          walk_at "go"
          exact q' H' h'
        · walk_at "go"
          exact q' H' h'
        rw [show ([l, r].filter fun t => t.nm.isSome).map (fun t => oV t.nm) = ((nz [l, r]).map Tr.nm).map oV by rw [List.map_map]; rfl] at h12
        clear h11
        refine k_cat h12 (by walk_at "hp") (by walk_at "hp") (by rw [sizeLine_eq, List.length_map, List.length_map, List.length_map, List.length_map]; omega) fun d13 H13 h13 => ?_
        walk_at "go"
        refine ⟨_, ?_, sn ++ [n], A ++ nz [l, r], d13, _, _, I2, rfl, ?_, rfl, ?_⟩
        · omega
        · omega
        · rw [show (A.map Tr.nm).map oV ++ ((nz [l, r]).map Tr.nm).map oV = ((A ++ nz [l, r]).map Tr.nm).map oV by rw [List.map_append, List.map_append]] at h13
          exact h13.sub (show Sub ([(d13, _)] :: [(fd, _)] :: [(kb, _)] :: fmU obT rows :: R) _ by walk_at "sub")
end La
namespace La
open PySem L2 Sy
local macro_rules | `(tactic| walk_at "fl") => `(tactic| first | assumption | exact tre_hands | exact tre_knots | exact tre_made | exact tre_root | exact tre_pinned | kernel_rfl)
local macro_rules | `(tactic| walk_at "put") => `(tactic| first | exact tre_put_hands | exact tre_put_knots | exact tre_put_made | exact tre_put_root | exact tre_put_pinned | exact tre_p1 | exact tre_p2 | exact tre_p3 | exact tre_p4 | exact tre_p5)
local macro_rules | `(tactic| walk_at "fsl") => `(tactic| first | assumption | exact tre_len | (show 0 < 1000; decide) | (show 1 < 1000; decide) | (show 2 < 1000; decide) | (show 3 < 1000; decide) | (show 4 < 1000; decide))
def sp_law (K : PySem.W.Frag) : Sp := fun vs H Q _ => ∃ (a : Addr) (ns : List Int), vs = [.ref a] ∧ SqL K H a (ns.map V.int) ∧ ns.length ≤ 63 ∧ ∀ H', Q (.bl true) H'
abbrev TL (K : PySem.W.Frag) (C : Addr) (f : PySem.W.Frag → Addr → Sp → Sp → Sp → Sp → Sp → Sp → Sp → Sp → Sp → Sp → Sp → TS) : TS := f K C (sp__law_town K) sp__law_draw (sp_trinit C) sp__law_pick (sp_trput C) sp__law_plant (sp_trbegin C) sp__law_reach (sp_trlen C) (sp_trsweep C) (sp_trfinish C)
structure J28 (s : Tre) (rows : Ows) (hn : Int) (b : Nat) : Prop where
  w : s.wf
  hh : s.hands = hn
  rr : s.root.repO (rows.map (·.2))
  pp : ∀ q ∈ s.pinned, q.2.repO (rows.map (·.2))
  tl : s.root.names.length ≤ b
  pt : ∀ q ∈ s.pinned, q.2.names.length ≤ b
  pk : ∀ q ∈ s.pinned, 0 ≤ q.1 ∧ q.1 < hn
  pl : s.pinned.length ≤ b
structure I28 (s : Tre) (rows : Ows) (hn : Int) (i : Nat) : Prop where
  j : J28 s rows hn i
  ml : (rows.length : Int) = s.made
  kl : (s.knots.length : Int) = s.made
  mb : s.made ≤ 100 * i
theorem I28.put {s : Tre} {rows rows' : Ows} {hn : Int} {i : Nat} (I : I28 s rows hn i) (hi : i < 12) {key x : Int} {ks : Kns} (g : GrowK s.knots s.made ks (s.root.ins key x s.made).2) (hr : (s.root.ins key x s.made).1.rep (lkK ks)) (go : GrowO rows rows') (hl : (rows'.length : Int) = (s.root.ins key x s.made).2) (ho : (s.root.ins key x s.made).1.repO (rows'.map (·.2))) :
    I28 { s with made := (s.root.ins key x s.made).2, knots := ks, root := (s.root.ins key x s.made).1 } rows' hn (i + 1) := by
  have hn2 := Tr.ins_next key x s.made s.root
  have hsl := Tr.subs_len key s.root
  have htl := I.j.tl
  have hmb := I.mb
  have hil := Tr.ins_len key x s.made s.root
  refine ⟨⟨I.j.w.put (by omega) g hr, I.j.hh, ho, fun q hq => go.rep (I.j.pp q hq), ?_, fun q hq => Nat.le_succ_of_le (I.j.pt q hq), I.j.pk, Nat.le_succ_of_le I.j.pl⟩, hl, ?_, ?_⟩
  · show (s.root.ins key x s.made).1.names.length ≤ i + 1
    omega
  · have := g.ln
    have := I.kl
    show (ks.length : Int) = (s.root.ins key x s.made).2
    omega
  · show (s.root.ins key x s.made).2 ≤ 100 * ((i + 1 : Nat) : Int)
    omega
theorem I28.begin {s : Tre} {rows : Ows} {hn : Int} {i : Nat} (I : I28 s rows hn (i + 1)) (hi : i < 12) (hl : s.pinned.length ≤ i) {k : Int} (k0 : 0 ≤ k) (k1 : k < hn) : I28 { s with pinned := pu s.pinned k s.root } rows hn (i + 1) := by
  have hlen := pu_len' s.pinned k s.root
  refine ⟨⟨I.j.w.begin k (by omega), I.j.hh, I.j.rr, fun q hq => ?_, I.j.tl, fun q hq => ?_, fun q hq => ?_, by show (pu s.pinned k s.root).length ≤ i + 1; omega⟩, I.ml, I.kl, I.mb⟩
  · rcases pu_mem hq with h | rfl
    · exact I.j.pp q h
    · exact I.j.rr
  · rcases pu_mem hq with h | rfl
    · exact I.j.pt q h
    · exact I.j.tl
  · rcases pu_mem hq with h | rfl
    · exact I.j.pk q h
    · exact ⟨k0, k1⟩
def L28 (C p t0 ta na kb pd : Addr) (s : Tre) (rows : Ows) (ts : Town) : List U := treU C p s :: townU t0 ts :: [(ta, .tup [.ref na, .ref kb, tnV s.root])] :: [(kb, .lst (fmR rows))] :: fmU obT rows :: [(pd, dI (mv tnV s.pinned))] :: []
def P28 (C a t0 p na kb pd : Addr) (hn : Int) (i : Nat) (σ : St) (H : Hp) : Prop := ∃ (s : Tre) (rows : Ows) (ts : Town) (ta : Addr) (w6 w7 w8 w9 w10 w11 : Option V), σ = [some (.ref a), some (.ref t0), some (.int hn), some (.ref p), some (.ref ta), some (.ref pd), w6, w7, w8, w9, w10, w11] ∧ Has H (L28 C p t0 ta na kb pd s rows ts) ∧ ts.ok ∧ I28 s rows hn i
theorem k28_turn {K : PySem.W.Frag} {C a t0 p na kb pd : Addr} {hn : Int} {i : Nat} {Q : VK} {bk ct : St → Hp → Prop} {σ : St} {H : Hp} (hi : i < 12) (n2 : 2 ≤ hn) (n6 : hn ≤ 5) (h : P28 C a t0 p na kb pd hn i σ H) :
    TL K C t_law_b1 ⟨P28 C a t0 p na kb pd hn (i + 1), Q, bk, ct⟩ (σ.set 6 (some (.int i))) H := by
  obtain ⟨s, rows, ts, ta, w6, w7, w8, w9, w10, w11, rfl, hh, tok, I⟩ := h
  have htl := I.j.tl
  have hmb := I.mb
  have hml := I.ml
  have hpl := I.j.pl
  unfold L28 at hh
  show TL K C t_law_b1 _ [some (.ref a), some (.ref t0), some (.int hn), some (.ref p), some (.ref ta), some (.ref pd), some (.int i), w7, w8, w9, w10, w11] H
  unfold TL t_law_b1
  walk_at "go"
  refine use_draw (hh.sub (show Sub (townU t0 ts :: treU C p s :: _) _ from Sub.p1 (Sub.p0 Sub.rf))) Sub.rf tok (by decide) (by decide) fun d1 ts1 H1 a0 a1 tok1 h1 => ?_
  clear hh
  walk_at "go"
  refine use_draw h1 Sub.rf tok1 (by decide) (by decide) fun d2 ts2 H2 b0 b1 tok2 h2 => ?_
  clear h1
  walk_at "go"
  rename_i d3 H3 h3
  refine ⟨t0, d3, ts2, _, _, rfl, h3.sub (show Sub (townU t0 ts2 :: [(d3, _)] :: _) _ from Sub.p1 (Sub.p0 Sub.rf)), by show 0 < 2; decide, by show 2 ≤ 1000; decide, tok2, fun kk v ts4 H4 hkk tok4 h4 => ?_⟩
  obtain ⟨key, rfl, k0, k9⟩ : ∃ key : Int, v = .int key ∧ 0 ≤ key ∧ key ≤ 999 := by
    match kk, hkk with
    | 0, hk => exact ⟨d1, (Option.some.inj hk).symm, by omega, by omega⟩
    | 1, hk => exact ⟨100 * d2, (Option.some.inj hk).symm, by omega, by omega⟩
  have h5 := h4.sub (show Sub (treU C p s :: townU t0 ts4 :: [(ta, .tup [.ref na, .ref kb, tnV s.root])] :: [(kb, .lst (fmR rows))] :: fmU obT rows :: [(pd, dI (mv tnV s.pinned))] :: []) _ from Sub.p2 (Sub.p0 (Sub.skip Sub.rf)))
  clear h2 h3 h4
  have hp := (tre_cut h5).g0
  walk_at "go"
  refine ⟨p, s, key, i, _, rfl, h5, I.j.w, by omega, by omega, k0, k9, by omega, by omega, fun ks H6 g hrep h6 => ?_⟩
  clear h5 hp
  walk_at "go"
  refine ⟨ta, na, kb, rows, s.root, key, i, _, rfl, h6.sub (show Sub ([(ta, .tup [.ref na, .ref kb, tnV s.root])] :: [(kb, .lst (fmR rows))] :: fmU obT rows :: treU C p _ :: townU t0 ts4 :: [(pd, dI (mv tnV s.pinned))] :: []) _ from Sub.p2 (Sub.p2 (Sub.p2 (Sub.p0 (Sub.p0 Sub.rf))))), I.j.rr, by omega, by omega, fun rows' tb H7 go hl ho h7 => ?_⟩
  rw [hml] at hl ho h7
  have I2 := I.put hi g hrep go hl ho
  have hpl2 : ({ s with made := (s.root.ins key i s.made).2, knots := ks, root := (s.root.ins key i s.made).1 } : Tre).pinned.length ≤ i := hpl
  have h8 : Has H7 (townU t0 ts4 :: treU C p { s with made := (s.root.ins key i s.made).2, knots := ks, root := (s.root.ins key i s.made).1 } :: [(tb, .tup [.ref na, .ref kb, tnV ({ s with made := (s.root.ins key i s.made).2, knots := ks, root := (s.root.ins key i s.made).1 } : Tre).root])] :: [(kb, .lst (fmR rows'))] :: fmU obT rows' :: [(pd, dI (mv tnV ({ s with made := (s.root.ins key i s.made).2, knots := ks, root := (s.root.ins key i s.made).1 } : Tre).pinned))] :: []) := h7.sub (Sub.p4 (Sub.p3 (Sub.p0 (Sub.p0 (Sub.p0 Sub.rf)))))
  generalize ({ s with made := (s.root.ins key i s.made).2, knots := ks, root := (s.root.ins key i s.made).1 } : Tre) = s2 at *
  clear h6 h7
  walk_at "go"
  refine use_draw h8 Sub.rf tok4 (by omega) (by omega) fun hand ts9 H9 e0 e1 tok9 h9 => ?_
  clear h8
  walk_at "go"
  refine use_draw h9 Sub.rf tok9 (by decide) (by decide) fun d10 ts10 H10 f0 f1 tok10 h10 => ?_
  have h11 := h10.sub (show Sub (L28 C p t0 tb na kb pd s2 rows' ts10) _ from Sub.p1 (Sub.p0 Sub.rf))
  clear h9 h10
  unfold L28 at h11
  walk_at "go"
  refine ifD (fun hd => ?_) (fun hd => ?_)
  · walk_at "go"
    rw [mv_isSome]
    cases hf : fd s2.pinned hand with
    | some t =>
      refine ifF ?_
      walk_at "go"
      exact ⟨s2, rows', ts10, tb, _, _, _, _, _, _, rfl, h11, tok10, I2⟩
    | none =>
      refine ifT ?_
      have hp := (tre_cut h11).g0
      unfold t_law_b0
      walk_at "go"
      refine ⟨p, s2, hand, _, rfl, h11, by omega, e0, by rw [I2.j.hh]; exact e1, hf, fun H12 h12 => ?_⟩
      have hsz : (mv tnV s2.pinned).length < sizeLine := by rw [mv_len, sizeLine_eq]; omega
      clear h11 hp
      walk_at "go"
      rename_i H13 h13
      rw [mv_put] at h13
      exact ⟨{ s2 with pinned := pu s2.pinned hand s2.root }, rows', ts10, tb, _, _, _, _, _, _, rfl, h13, tok10, I2.begin hi hpl2 e0 e1⟩
  · walk_at "go"
    exact ⟨s2, rows', ts10, tb, _, _, _, _, _, _, rfl, h11, tok10, I2⟩
theorem flat_len {b : Nat} : ∀ {l : List Tr}, (∀ t ∈ l, t.names.length ≤ b) → (l.flatMap Tr.names).length ≤ l.length * b
  | [], _ => Nat.zero_le _
  | t :: r, h => by
    have h1 := h t (List.mem_cons.mpr (.inl rfl))
    have h2 := flat_len (l := r) fun u hu => h u (List.mem_cons.mpr (.inr hu))
    rw [List.flatMap_cons, List.length_append, List.length_cons, Nat.add_mul]
    omega
theorem vals_mv {m : List (Int × Tr)} (nd : (m.map (·.1)).Nodup) : ((mv tnV m).map (fun (x : Int × V) => x.1)).map (fun z => ((fd m z).map tnV).getD .non) = (m.map (·.2)).map tnV := by
  rw [mv_keys, List.map_map, List.map_map]
  refine List.map_congr_left fun q hq => ?_
  show ((fd m q.1).map tnV).getD .non = tnV q.2
  rw [fd_of nd (show (q.1, q.2) ∈ m from hq)]
  rfl
def P28b (C a t0 p na kb pd ta dl : Addr) (hn : Int) (rows : Ows) (ys : List Int) (i : Nat) (σ : St) (H : Hp) : Prop := ∃ (s : Tre) (w6 w7 w8 w10 w11 : Option V), σ = [some (.ref a), some (.ref t0), some (.int hn), some (.ref p), some (.ref ta), some (.ref pd), w6, w7, w8, some (.int s.knots.length), w10, w11] ∧
  Has H ([(dl, .lst (ys.map V.int ++ [.non]))] :: treU C p s :: [(ta, .tup [.ref na, .ref kb, tnV s.root])] :: [(kb, .lst (fmR rows))] :: fmU obT rows :: [(pd, dI (mv tnV s.pinned))] :: []) ∧ J28 s rows hn 12 ∧ ∀ z, z ∈ s.pinned.map (·.1) ↔ z ∈ ys.drop i
theorem k28_round {K : PySem.W.Frag} {C a t0 p na kb pd ta dl : Addr} {hn : Int} {rows : Ows} {ys : List Int} {i : Nat} {x : V} {Q : VK} {bk ct : St → Hp → Prop} {σ : St} {H : Hp} (hx : (ys.map V.int ++ [.non])[i]? = some x) (nd : ys.Nodup) (h : P28b C a t0 p na kb pd ta dl hn rows ys i σ H) :
    TL K C t_law_b3 ⟨P28b C a t0 p na kb pd ta dl hn rows ys (i + 1), Q, bk, ct⟩ (σ.set 8 (some x)) H := by
  obtain ⟨s, w6, w7, w8, w10, w11, rfl, hh, J, hpk⟩ := h
  have hpl := J.pl
  show TL K C t_law_b3 _ [some (.ref a), some (.ref t0), some (.int hn), some (.ref p), some (.ref ta), some (.ref pd), w6, w7, some x, some (.int s.knots.length), w10, w11] H
  unfold TL t_law_b3
  walk_at "go"
  refine x_lcD (d := pd) (mm := mv tnV s.pinned) (L := [(dl, .lst (ys.map V.int ++ [.non]))] :: treU C p s :: [(ta, .tup [.ref na, .ref kb, tnV s.root])] :: [(kb, .lst (fmR rows))] :: fmU obT rows :: []) (fun z => ((fd s.pinned z).map tnV).getD .non) (fun _ => true) (hh.sub (show Sub ([(pd, _)] :: _) _ from Sub.p5 Sub.rf)) (by rw [mv_len]; omega) (fun o H' Q' h' q' => ?_) (fun o z hz D M H' Q' h' q' => ?_) (fun o z hz hc D M H' Q' h' q' => ?_) fun D H2 h2 => ?_
  · clear hh
    walk_at "go"
    exact q'
  · exact q' H' h'
  · clear hh
    rw [mv_keys] at hz
    obtain ⟨tb, hb⟩ := Option.isSome_iff_exists.mp (fd_isSome.mpr hz)
    have hv : valV (mv tnV s.pinned) z = some (tnV tb) := mv_some hb
    rw [hb] at q'
    walk_at "go"
    exact q' H' h'
  rw [filt_true, vals_mv J.w.pn] at h2
  clear hh
  walk_at "go"
  rename_i d3 H3 h3 d4 H4 h4
  have etop : (s.pinned.map (·.2)).map tnV ++ [tnV s.root] = ((s.pinned.map (·.2) ++ [s.root]).map Tr.nm).map oV := by
    rw [List.map_append, List.map_append, List.map_map, List.map_map, List.map_map]
    rfl
  rw [etop] at h4
  have hnames : ∀ t ∈ s.pinned.map (·.2) ++ [s.root], t.names.length ≤ 12 := fun t ht => by
    rcases List.mem_append.mp ht with ht | ht
    · obtain ⟨q, hq, rfl⟩ := List.mem_map.mp ht
      exact J.pt q hq
    · rw [List.mem_singleton.mp ht]; exact J.tl
  have hfl := flat_len hnames
  have htl : (s.pinned.map (·.2) ++ [s.root]).length ≤ 13 := by rw [List.length_append, List.length_map]; show s.pinned.length + 1 ≤ 13; omega
  refine ⟨kb, d4, rows, s.pinned.map (·.2) ++ [s.root], _, rfl, h4.sub (show Sub ([(kb, .lst (fmR rows))] :: fmU obT rows :: [(d4, _)] :: [(pd, _)] :: [(dl, .lst (ys.map V.int ++ [.non]))] :: treU C p s :: [(ta, .tup [.ref na, .ref kb, tnV s.root])] :: []) _ by walk_at "sub"), fun t ht => ?_, by omega, by omega, fun fo d5 H5 fn fm h5 => ?_⟩
  · rcases List.mem_append.mp ht with ht | ht
    · obtain ⟨q, hq, rfl⟩ := List.mem_map.mp ht
      exact J.pp q hq
    · rw [List.mem_singleton.mp ht]; exact J.rr
  have hk := J.w.keep_len (sn := fo.map fun z => (z, true)) (by rw [List.map_map]; have : (fun x : Int × Bool => x.1) ∘ (fun z : Int => (z, true)) = id := rfl; rw [this, List.map_id]; exact fn) fun z => by
    rw [List.map_map]
    have : (fun x : Int × Bool => x.1) ∘ (fun z : Int => (z, true)) = id := rfl
    rw [this, List.map_id, fm z]
    show z ∈ (s.pinned.map (·.2) ++ [s.root]).flatMap Tr.names ↔ z ∈ (s.root :: s.pinned.map (·.2)).flatMap Tr.names
    rw [List.flatMap_append, List.flatMap_cons]
    constructor
    · intro h
      rcases List.mem_append.mp h with h | h
      · exact List.mem_append.mpr (.inr h)
      · exact List.mem_append.mpr (.inl (by simpa using h))
    · intro h
      rcases List.mem_append.mp h with h | h
      · exact List.mem_append.mpr (.inr (by simpa using h))
      · exact List.mem_append.mpr (.inl h)
  rw [List.length_map] at hk
  clear h2 h3 h4
  walk_at "go"
  rw [List.length_map]
  have h6 := h5.sub (show Sub (treU C p s :: [(dl, .lst (ys.map V.int ++ [.non]))] :: [(ta, .tup [.ref na, .ref kb, tnV s.root])] :: [(kb, .lst (fmR rows))] :: fmU obT rows :: [(pd, dI (mv tnV s.pinned))] :: []) _ by walk_at "sub")
  clear h5
  have hp := (tre_cut h6).g0
  have hkl := J.w.kl
  have hm9 := J.w.m9
  walk_at "go"
  refine ⟨p, s, _, rfl, h6, _, rfl, by omega, by omega, ?_⟩
  walk_at "go"
  refine ifN (by simp) ?_
  walk_at "go"
  refine ⟨p, s, _, rfl, h6, J.w, fun ka H7 h7 => ?_⟩
  have w2 := J.w.sweep ka
  have hlk : s.keep.length ≤ s.knots.length := List.length_filter_le _ _
  clear h6 hp
  have hp := (tre_cut h7).g0
  walk_at "go"
  refine ifN (by rw [hk]; simp) ?_
  walk_at "go"
  refine ⟨p, _, _, rfl, h7, _, rfl, by omega, by show ((s.keep.length : Nat) : Int) < 2 ^ 63; omega, ?_⟩
  walk_at "go"
  refine ifN (by show (!decide (((s.keep.length : Nat) : Int) = (fo.length : Int))) = false; rw [hk]; simp) ?_
  walk_at "go"
  have J2 : J28 { s with ka := ka, knots := s.keep } rows hn 12 := ⟨w2, J.hh, J.rr, J.pp, J.tl, J.pt, J.pk, J.pl⟩
  rw [← hk]
  have h8 := h7.sub (show Sub (treU C p { s with ka := ka, knots := s.keep } :: [(dl, .lst (ys.map V.int ++ [.non]))] :: [(ta, .tup [.ref na, .ref kb, tnV ({ s with ka := ka, knots := s.keep } : Tre).root])] :: [(kb, .lst (fmR rows))] :: fmU obT rows :: [(pd, dI (mv tnV ({ s with ka := ka, knots := s.keep } : Tre).pinned))] :: []) _ from Sub.rf)
  have hkk : ((s.keep.length : Nat) : Int) = (({ s with ka := ka, knots := s.keep } : Tre).knots.length : Nat) := rfl
  have hpk2 : ∀ z, z ∈ ({ s with ka := ka, knots := s.keep } : Tre).pinned.map (·.1) ↔ z ∈ ys.drop i := hpk
  rw [hkk]
  clear hk hlk hkl hm9 hkk h7 hp w2 hfl hnames htl fm
  generalize ({ s with ka := ka, knots := s.keep } : Tre) = s2 at *
  by_cases hi : i < ys.length
  · have hxi : x = .int ys[i] := by
      rw [List.getElem?_append_left (by rw [List.length_map]; exact hi), List.getElem?_map, List.getElem?_eq_getElem hi] at hx
      exact (Option.some.inj hx).symm
    subst hxi
    have hdrop : ys.drop i = ys[i] :: ys.drop (i + 1) := List.drop_eq_getElem_cons hi
    have hmem : ys[i] ∈ s2.pinned.map (·.1) := (hpk2 _).mpr (by rw [hdrop]; exact List.mem_cons.mpr (.inl rfl))
    have hsome := fd_isSome.mpr hmem
    obtain ⟨tt, htt⟩ := Option.isSome_iff_exists.mp hsome
    have hkr := J2.pk _ (fd_mem htt)
    have hv : valV (mv tnV s2.pinned) ys[i] = some (tnV tt) := mv_some htt
    have hp := (tre_cut h8).g0
    unfold t_law_b2
    walk_at "go"
    refine ⟨p, s2, ys[i], _, rfl, h8, hkr.1, by rw [J2.hh]; exact hkr.2, hsome, fun H9 h9 => ?_⟩
    clear h8 hp
    walk_at "go"
    rename_i H10 h10
    rw [mv_drop] at h10
    have hnd : ys[i] ∉ ys.drop (i + 1) := by
      have := (List.drop_sublist i ys).nodup nd
      rw [hdrop] at this
      exact (List.nodup_cons.mp this).1
    refine ⟨{ s2 with pinned := rm s2.pinned ys[i] }, _, _, _, _, _, rfl, h10.sub (show Sub ([(dl, _)] :: treU C p { s2 with pinned := rm s2.pinned ys[i] } :: _) _ from Sub.p1 (Sub.p0 Sub.rf)), ⟨J2.w.finish _, J2.hh, J2.rr, fun q hq => J2.pp q (rm_mem.mp hq).1, J2.tl, fun q hq => J2.pt q (rm_mem.mp hq).1, fun q hq => J2.pk q (rm_mem.mp hq).1, Nat.le_trans (rm_len _ _) J2.pl⟩, fun z => ?_⟩
    show z ∈ (rm s2.pinned ys[i]).map (·.1) ↔ _
    constructor
    · intro hz
      obtain ⟨q, hq, rfl⟩ := List.mem_map.mp hz
      obtain ⟨q1, q2⟩ := rm_mem.mp hq
      have := (hpk2 q.1).mp (List.mem_map.mpr ⟨q, q1, rfl⟩)
      rw [hdrop] at this
      rcases List.mem_cons.mp this with h | h
      · exact absurd h q2
      · exact h
    · intro hz
      obtain ⟨q, hq, e⟩ := List.mem_map.mp ((hpk2 z).mpr (by rw [hdrop]; exact List.mem_cons.mpr (.inr hz)))
      exact List.mem_map.mpr ⟨q, rm_mem.mpr ⟨hq, fun h => hnd (by rw [← h, e]; exact hz)⟩, e⟩
  · have hxi : x = .non := by
      rw [List.getElem?_append_right (by rw [List.length_map]; omega), List.length_map] at hx
      have : i - ys.length = 0 := by
        have := (List.getElem?_eq_some_iff.mp hx).1
        have : i - ys.length < 1 := this
        omega
      rw [this] at hx
      exact (Option.some.inj hx).symm
    subst hxi
    walk_at "go"
    refine ⟨s2, _, _, _, _, _, rfl, h8.sub (Sub.p1 (Sub.p0 Sub.rf)), J2, fun z => ?_⟩
    rw [hpk2 z, List.drop_eq_nil_of_le (by omega), List.drop_eq_nil_of_le (by omega)]
theorem pure_law {K : PySem.W.Frag} {C : Addr} {vs : List V} {H : Hp} {Q : VK} {E : XK} (h : sp_law K vs H Q E) :
    TL K C t_law ⟨fun _ H' => Q .non H', Q, fun _ _ => False, fun _ _ => False⟩ (start ["script", "town", "hands", "tree", "own", "tops", "turn", "key", "hand", "before", "due", "one"] vs) H := by
  obtain ⟨a, ns, rfl, hs, hl, q⟩ := h
  unfold TL t_law
  walk_at "go"
  refine ⟨a, ns, rfl, hs, hl, fun t0 ts H1 tok h1 => ?_⟩
  walk_at "go"
  refine use_draw h1 Sub.rf tok (by decide) (by decide) fun d ts2 H2 n0 n1 tok2 h2 => ?_
  clear h1
  walk_at "go"
  rename_i p dx H3 h3
  refine ⟨p, dx, 2 + d, _, rfl, h3, by omega, by omega, fun ka pa H4 h4 => ⟨rfl, ?_⟩⟩
  clear h2 h3
  have w0 := Tre.new_wf (dx := dx) (ka := ka) (pa := pa) (h := 2 + d)
  walk_at "go"
  rename_i na H5 h5 kb H6 h6 ta H7 h7 pd H8 h8
  clear h4 h5 h6 h7
  have h9 := (Has.nilU.mpr h8).sub (show Sub (treU C p ⟨dx, ka, pa, 2 + d, 0, .nil, [], []⟩ :: townU t0 ts2 :: [(ta, .tup [.ref na, .ref kb, .non])] :: [(kb, .lst [])] :: [] :: [(pd, dI [])] :: []) _ by walk_at "sub")
  clear h8
  refine k_forR (fun i => P28 C a t0 p na kb pd (2 + d) i) ⟨_, [], ts2, ta, _, _, _, _, _, _, rfl, h9, tok2, ⟨w0, rfl, trivial, fun q hq => (by cases hq), Nat.le_refl _, fun q hq => (by cases hq), fun q hq => (by cases hq), Nat.le_refl _⟩, rfl, rfl, Int.le_refl _⟩ (by omega) (fun i σ H hi hP => k28_turn (by omega) (by omega) (by omega) hP) (fun σ H hP => ?_)
  obtain ⟨s, rows, ts, tb, w6, w7, w8, w9, w10, w11, rfl, hh, tok, I⟩ := hP
  have I : I28 s rows (2 + d) 12 := I
  unfold L28 at hh
  clear h9
  have hpl := I.j.pl
  have hnd := I.j.w.pn
  have hpl64 : (mv tnV s.pinned).length < 64 := by rw [mv_len]; omega
  walk_at "go"
  rename_i ys d2 H10 y1 y2 h10 d3 H11 h11
  rw [mv_keys] at y1
  have hyl : ys.length ≤ 12 := by have := y1.length_eq; rw [List.length_map] at this; omega
  have hynd : ys.Nodup := y1.nodup_iff.mpr hnd
  refine k_cat h11 (by walk_at "hp") (by walk_at "hp") (by rw [sizeLine_eq, List.length_map]; show ys.length + 1 ≤ _; omega) fun dl H12 h12 => ?_
  clear hh h10 h11
  have hml := I.ml
  have hkl := I.kl
  have e1 : (((fmR rows).length : Nat) : Int) = (s.knots.length : Nat) := by rw [fmR_len']; omega
  rw [e1]
  refine k_forL (P28b C a t0 p na kb pd tb dl (2 + d) rows ys) h12.g0 ⟨s, _, _, _, _, _, rfl, h12.sub (show Sub ([(dl, _)] :: treU C p s :: [(tb, .tup [.ref na, .ref kb, tnV s.root])] :: [(kb, .lst (fmR rows))] :: fmU obT rows :: [(pd, dI (mv tnV s.pinned))] :: []) _ by walk_at "sub"), I.j, fun z => (y1.mem_iff (a := z)).symm⟩ (fun i σ H hP => ?_) (fun i x σ H hx hP => k28_round hx hynd hP) (fun σ H hP => ?_)
  · obtain ⟨s, _, _, _, _, _, _, h', _, _⟩ := hP
    exact h'.g0
  obtain ⟨s2, w6, w7, w8, w10, w11, rfl, h13, J, hpk⟩ := hP
  have hpn : s2.pinned = [] := by
    have : s2.pinned.map (·.1) = [] := List.eq_nil_iff_forall_not_mem.mpr fun z hz => by
      have := (hpk z).mp hz
      rw [List.drop_eq_nil_of_le (by rw [List.length_append, List.length_map]; show ys.length ≤ ys.length + 1; omega)] at this
      cases this
    exact List.map_eq_nil_iff.mp this
  clear h12
  walk_at "go"
  rename_i d14 H14 h14
  rw [hpn] at h14
  refine k_eqE (mm := []) (by walk_at "hp") h14.g0 ?_
  exact q _
end La
namespace La
open PySem L2 Sy
def top (i : Nat) : Stmt := PySem.Challenge.pw_lastreader_k28_whole_shared.main.body.getD i (.Pass ⟨0, 0, 0, 0⟩)
abbrev s__law_town : Stmt := top 15
theorem sc__law_town : FnScope ["script"] ["script"] (defScope s__law_town) := ⟨rfl, rfl, rfl, by decide +kernel, rfl, by decide +kernel, by decide +kernel⟩
abbrev s__law_draw : Stmt := top 16
theorem sc__law_draw : FnScope ["town", "many", "row", "at", "cell", "mixed"] ["town", "many"] (defScope s__law_draw) := ⟨rfl, rfl, rfl, by decide +kernel, rfl, by decide +kernel, by decide +kernel⟩
abbrev s_is_whole : Stmt := top 7
theorem sc_is_whole : FnScope ["thing", "low", "high"] ["thing", "low", "high"] (defScope s_is_whole) := ⟨rfl, rfl, rfl, by decide +kernel, rfl, by decide +kernel, by decide +kernel⟩
abbrev s_look_number : Stmt := top 8
theorem sc_look_number : FnScope ["thing", "low", "high"] ["thing", "low", "high"] (defScope s_look_number) := ⟨rfl, rfl, rfl, by decide +kernel, rfl, by decide +kernel, by decide +kernel⟩
abbrev s_Tree_init : Stmt := inClass (top 13) 0
theorem sc_Tree_init : FnScope ["self", "hands"] ["self", "hands"] (defScope s_Tree_init) := ⟨rfl, rfl, rfl, by decide +kernel, rfl, by decide +kernel, by decide +kernel⟩
abbrev s__law_pick : Stmt := top 17
theorem sc__law_pick : FnScope ["town", "some"] ["town", "some"] (defScope s__law_pick) := ⟨rfl, rfl, rfl, by decide +kernel, rfl, by decide +kernel, by decide +kernel⟩
abbrev s_Tree_way_to : Stmt := inClass (top 13) 4
theorem sc_Tree_way_to : FnScope ["self", "root", "key", "found", "here"] ["self", "root", "key"] (defScope s_Tree_way_to) := ⟨rfl, rfl, rfl, by decide +kernel, rfl, by decide +kernel, by decide +kernel⟩
abbrev s_Tree_new_knot : Stmt := inClass (top 13) 3
theorem sc_Tree_new_knot : FnScope ["self", "key", "value", "low", "high"] ["self", "key", "value", "low", "high"] (defScope s_Tree_new_knot) := ⟨rfl, rfl, rfl, by decide +kernel, rfl, by decide +kernel, by decide +kernel⟩
abbrev s_Tree_rebuilt : Stmt := inClass (top 13) 5
theorem sc_Tree_rebuilt : FnScope ["self", "names", "key", "below", "name", "mine", "value", "low", "high"] ["self", "names", "key", "below"] (defScope s_Tree_rebuilt) := ⟨rfl, rfl, rfl, by decide +kernel, rfl, by decide +kernel, by decide +kernel⟩
abbrev s_Tree_put : Stmt := inClass (top 13) 6
theorem sc_Tree_put : FnScope ["self", "key", "value", "before", "names", "low", "high"] ["self", "key", "value"] (defScope s_Tree_put) := ⟨rfl, rfl, rfl, by decide +kernel, rfl, by decide +kernel, by decide +kernel⟩
abbrev s__law_plant : Stmt := top 18
theorem sc__law_plant : FnScope ["tree", "key", "names", "knots", "top", "way", "here", "low", "high", "below", "one", "mine"] ["tree", "key"] (defScope s__law_plant) := ⟨rfl, rfl, rfl, by decide +kernel, rfl, by decide +kernel, by decide +kernel⟩
abbrev s_Tree_look_hand : Stmt := inClass (top 13) 1
theorem sc_Tree_look_hand : FnScope ["self", "hand"] ["self", "hand"] (defScope s_Tree_look_hand) := ⟨rfl, rfl, rfl, by decide +kernel, rfl, by decide +kernel, by decide +kernel⟩
abbrev s_Tree_begin : Stmt := inClass (top 13) 11
theorem sc_Tree_begin : FnScope ["self", "hand"] ["self", "hand"] (defScope s_Tree_begin) := ⟨rfl, rfl, rfl, by decide +kernel, rfl, by decide +kernel, by decide +kernel⟩
abbrev s__law_reach : Stmt := top 19
theorem sc__law_reach : FnScope ["knots", "tops", "found", "rest", "top", "here", "one"] ["knots", "tops"] (defScope s__law_reach) := ⟨rfl, rfl, rfl, by decide +kernel, rfl, by decide +kernel, by decide +kernel⟩
abbrev s_Tree_len : Stmt := inClass (top 13) 16
theorem sc_Tree_len : FnScope ["self"] ["self"] (defScope s_Tree_len) := ⟨rfl, rfl, rfl, by decide +kernel, rfl, by decide +kernel, by decide +kernel⟩
abbrev s_Tree_sweep : Stmt := inClass (top 13) 15
theorem sc_Tree_sweep : FnScope ["self", "seen", "rest", "here", "many", "name"] ["self"] (defScope s_Tree_sweep) := ⟨rfl, rfl, rfl, by decide +kernel, rfl, by decide +kernel, by decide +kernel⟩
abbrev s_Tree_look_in : Stmt := inClass (top 13) 2
theorem sc_Tree_look_in : FnScope ["self", "hand"] ["self", "hand"] (defScope s_Tree_look_in) := ⟨rfl, rfl, rfl, by decide +kernel, rfl, by decide +kernel, by decide +kernel⟩
abbrev s_Tree_finish : Stmt := inClass (top 13) 12
theorem sc_Tree_finish : FnScope ["self", "hand"] ["self", "hand"] (defScope s_Tree_finish) := ⟨rfl, rfl, rfl, by decide +kernel, rfl, by decide +kernel, by decide +kernel⟩
abbrev s_law : Stmt := top 20
theorem sc_law : FnScope ["script", "town", "hands", "tree", "own", "tops", "turn", "key", "hand", "before", "due", "one"] ["script"] (defScope s_law) := ⟨rfl, rfl, rfl, by decide +kernel, rfl, by decide +kernel, by decide +kernel⟩
structure Adr where
  c_Tree : Addr
  f__law_town : Addr
  d__law_town : FuncData
  f__law_draw : Addr
  d__law_draw : FuncData
  f_is_whole : Addr
  d_is_whole : FuncData
  f_look_number : Addr
  d_look_number : FuncData
  f_Tree_init : Addr
  d_Tree_init : FuncData
  f__law_pick : Addr
  d__law_pick : FuncData
  f_Tree_way_to : Addr
  d_Tree_way_to : FuncData
  f_Tree_new_knot : Addr
  d_Tree_new_knot : FuncData
  f_Tree_rebuilt : Addr
  d_Tree_rebuilt : FuncData
  f_Tree_put : Addr
  d_Tree_put : FuncData
  f__law_plant : Addr
  d__law_plant : FuncData
  f_Tree_look_hand : Addr
  d_Tree_look_hand : FuncData
  f_Tree_begin : Addr
  d_Tree_begin : FuncData
  f__law_reach : Addr
  d__law_reach : FuncData
  f_Tree_len : Addr
  d_Tree_len : FuncData
  f_Tree_sweep : Addr
  d_Tree_sweep : FuncData
  f_Tree_look_in : Addr
  d_Tree_look_in : FuncData
  f_Tree_finish : Addr
  d_Tree_finish : FuncData
  f_law : Addr
  d_law : FuncData
  t_MOST_HANDS : Tok
  t_MOST_KEY : Tok
  t_MOST_VALUE : Tok
structure Txt (K : PySem.W.Frag) (mg : Str → Option Value) (D : Adr) : Prop where
  F__law_town : Fun K "_law_town" "_law_town" s__law_town D.f__law_town D.d__law_town
  b__law_town : Binds K D.d__law_town ["script"] []
  g__law_town : mg "_law_town" = some (.ref D.f__law_town)
  F__law_draw : Fun K "_law_draw" "_law_draw" s__law_draw D.f__law_draw D.d__law_draw
  b__law_draw : Binds K D.d__law_draw ["town", "many"] []
  g__law_draw : mg "_law_draw" = some (.ref D.f__law_draw)
  F_is_whole : Fun K "is_whole" "is_whole" s_is_whole D.f_is_whole D.d_is_whole
  b_is_whole : Binds K D.d_is_whole ["thing", "low", "high"] []
  g_is_whole : mg "is_whole" = some (.ref D.f_is_whole)
  F_look_number : Fun K "look_number" "look_number" s_look_number D.f_look_number D.d_look_number
  b_look_number : Binds K D.d_look_number ["thing", "low", "high"] []
  g_look_number : mg "look_number" = some (.ref D.f_look_number)
  F_Tree_init : Fun K "__init__" "Tree.__init__" s_Tree_init D.f_Tree_init D.d_Tree_init
  b_Tree_init : Binds K D.d_Tree_init ["self", "hands"] []
  F__law_pick : Fun K "_law_pick" "_law_pick" s__law_pick D.f__law_pick D.d__law_pick
  b__law_pick : Binds K D.d__law_pick ["town", "some"] []
  g__law_pick : mg "_law_pick" = some (.ref D.f__law_pick)
  F_Tree_way_to : Fun K "way_to" "Tree.way_to" s_Tree_way_to D.f_Tree_way_to D.d_Tree_way_to
  b_Tree_way_to : Binds K D.d_Tree_way_to ["self", "root", "key"] []
  F_Tree_new_knot : Fun K "new_knot" "Tree.new_knot" s_Tree_new_knot D.f_Tree_new_knot D.d_Tree_new_knot
  b_Tree_new_knot : Binds K D.d_Tree_new_knot ["self", "key", "value", "low", "high"] []
  F_Tree_rebuilt : Fun K "rebuilt" "Tree.rebuilt" s_Tree_rebuilt D.f_Tree_rebuilt D.d_Tree_rebuilt
  b_Tree_rebuilt : Binds K D.d_Tree_rebuilt ["self", "names", "key", "below"] []
  F_Tree_put : Fun K "put" "Tree.put" s_Tree_put D.f_Tree_put D.d_Tree_put
  b_Tree_put : Binds K D.d_Tree_put ["self", "key", "value"] []
  F__law_plant : Fun K "_law_plant" "_law_plant" s__law_plant D.f__law_plant D.d__law_plant
  b__law_plant : Binds K D.d__law_plant ["tree", "key"] []
  g__law_plant : mg "_law_plant" = some (.ref D.f__law_plant)
  F_Tree_look_hand : Fun K "look_hand" "Tree.look_hand" s_Tree_look_hand D.f_Tree_look_hand D.d_Tree_look_hand
  b_Tree_look_hand : Binds K D.d_Tree_look_hand ["self", "hand"] []
  F_Tree_begin : Fun K "begin" "Tree.begin" s_Tree_begin D.f_Tree_begin D.d_Tree_begin
  b_Tree_begin : Binds K D.d_Tree_begin ["self", "hand"] []
  F__law_reach : Fun K "_law_reach" "_law_reach" s__law_reach D.f__law_reach D.d__law_reach
  b__law_reach : Binds K D.d__law_reach ["knots", "tops"] []
  g__law_reach : mg "_law_reach" = some (.ref D.f__law_reach)
  F_Tree_len : Fun K "__len__" "Tree.__len__" s_Tree_len D.f_Tree_len D.d_Tree_len
  b_Tree_len : Binds K D.d_Tree_len ["self"] []
  F_Tree_sweep : Fun K "sweep" "Tree.sweep" s_Tree_sweep D.f_Tree_sweep D.d_Tree_sweep
  b_Tree_sweep : Binds K D.d_Tree_sweep ["self"] []
  F_Tree_look_in : Fun K "look_in" "Tree.look_in" s_Tree_look_in D.f_Tree_look_in D.d_Tree_look_in
  b_Tree_look_in : Binds K D.d_Tree_look_in ["self", "hand"] []
  F_Tree_finish : Fun K "finish" "Tree.finish" s_Tree_finish D.f_Tree_finish D.d_Tree_finish
  b_Tree_finish : Binds K D.d_Tree_finish ["self", "hand"] []
  F_law : Fun K "law" "law" s_law D.f_law D.d_law
  b_law : Binds K D.d_law ["script"] []
  g_law : mg "law" = some (.ref D.f_law)
  cl_Tree : Cls K D.c_Tree
  g_Tree : mg "Tree" = some (.ref D.c_Tree)
  na_Tree_hands : NoAttr K D.c_Tree "hands"
  na_Tree_knots : NoAttr K D.c_Tree "knots"
  na_Tree_made : NoAttr K D.c_Tree "made"
  na_Tree_root : NoAttr K D.c_Tree "root"
  na_Tree_pinned : NoAttr K D.c_Tree "pinned"
  mk_Tree : Mk K D.c_Tree D.f_Tree_init
  me_Tree_way_to : Meth K D.c_Tree "way_to" D.f_Tree_way_to
  me_Tree_new_knot : Meth K D.c_Tree "new_knot" D.f_Tree_new_knot
  me_Tree_rebuilt : Meth K D.c_Tree "rebuilt" D.f_Tree_rebuilt
  me_Tree_put : Meth K D.c_Tree "put" D.f_Tree_put
  me_Tree_look_hand : Meth K D.c_Tree "look_hand" D.f_Tree_look_hand
  me_Tree_begin : Meth K D.c_Tree "begin" D.f_Tree_begin
  me_Tree___len__ : Meth K D.c_Tree "__len__" D.f_Tree_len
  me_Tree_sweep : Meth K D.c_Tree "sweep" D.f_Tree_sweep
  me_Tree_look_in : Meth K D.c_Tree "look_in" D.f_Tree_look_in
  me_Tree_finish : Meth K D.c_Tree "finish" D.f_Tree_finish
  m_bool : mg "bool" = none
  m_dict : mg "dict" = none
  m_int : mg "int" = none
  m_isinstance : mg "isinstance" = none
  m_len : mg "len" = none
  m_list : mg "list" = none
  m_range : mg "range" = none
  m_sorted : mg "sorted" = none
  k_MOST_HANDS : mg "MOST_HANDS" = some (.int (6) D.t_MOST_HANDS)
  k_MOST_KEY : mg "MOST_KEY" = some (.int (999) D.t_MOST_KEY)
  k_MOST_VALUE : mg "MOST_VALUE" = some (.int (999) D.t_MOST_VALUE)
section
variable {P : Program} {w : World} {K : PySem.W.Frag} {mg : Str → Option Value} {base : Heap} {D : Adr}
set_option maxHeartbeats 8000000 in
theorem ok__law_town (T : Txt K mg D) : FnOk P w K mg base CX0 1 D.f__law_town D.d__law_town ["script"] (sp__law_town K) := by
  refine T.F__law_town.ok sc__law_town (fun vs H Q E h => ?_) (fun cdv A outer s H vs Q E hr h => ⟨t__law_town K, ?_, ?_⟩)
  · first | (obtain ⟨_, rfl, _⟩ := h; rfl) | (obtain ⟨_, _, rfl, _⟩ := h; rfl) | (obtain ⟨_, _, _, rfl, _⟩ := h; rfl) | (obtain ⟨_, _, _, _, rfl, _⟩ := h; rfl) | (obtain ⟨_, _, _, _, _, rfl, _⟩ := h; rfl) | (obtain ⟨_, _, _, _, _, _, rfl, _⟩ := h; rfl) | (obtain ⟨_, _, _, _, _, _, _, rfl, _⟩ := h; rfl) | (obtain ⟨_, _, _, _, _, _, _, _, rfl, _⟩ := h; rfl) | (obtain ⟨_, _, _, _, _, _, _, _, _, rfl, _⟩ := h; rfl) | (obtain ⟨_, _, _, _, _, _, _, _, _, _, rfl, _⟩ := h; rfl) | (obtain ⟨_, _, _, _, _, _, _, _, _, _, _, rfl, _⟩ := h; rfl) | (obtain ⟨_, _, _, _, _, _, _, _, _, _, _, _, rfl, _⟩ := h; rfl) | (obtain ⟨_, _, _, _, _, _, _, _, _, _, _, _, _, rfl, _⟩ := h; rfl) | (obtain ⟨_, _, _, _, _, _, _, _, _, _, _, _, _, _, rfl, _⟩ := h; rfl) | (obtain ⟨_, _, _, _, _, _, _, _, _, _, _, _, _, _, _, rfl, _⟩ := h; rfl)
  · have hu := hu_of hr
    exact pss_one (ps_ret (pe_lst (pa_cons (pe_ifExp (pt_cmpR (op_neD hr.units) (pv 0) (pe_lst (pa_nil)) (nomark _)) (pe_callTy call_listOf (by rfl) T.m_list (by decide +kernel) (pa_cons (pv 0) (pa_nil))) (pe_lst (pa_cons (pe_int) (pa_nil)))) (pa_cons (pe_int) (pa_nil)))))
  · exact pure__law_town h
set_option maxHeartbeats 8000000 in
theorem ok__law_draw (T : Txt K mg D) : FnOk P w K mg base CX0 1 D.f__law_draw D.d__law_draw ["town", "many"] (sp__law_draw) := by
  refine T.F__law_draw.ok sc__law_draw (fun vs H Q E h => ?_) (fun cdv A outer s H vs Q E hr h => ⟨t__law_draw K, ?_, ?_⟩)
  · first | (obtain ⟨_, rfl, _⟩ := h; rfl) | (obtain ⟨_, _, rfl, _⟩ := h; rfl) | (obtain ⟨_, _, _, rfl, _⟩ := h; rfl) | (obtain ⟨_, _, _, _, rfl, _⟩ := h; rfl) | (obtain ⟨_, _, _, _, _, rfl, _⟩ := h; rfl) | (obtain ⟨_, _, _, _, _, _, rfl, _⟩ := h; rfl) | (obtain ⟨_, _, _, _, _, _, _, rfl, _⟩ := h; rfl) | (obtain ⟨_, _, _, _, _, _, _, _, rfl, _⟩ := h; rfl) | (obtain ⟨_, _, _, _, _, _, _, _, _, rfl, _⟩ := h; rfl) | (obtain ⟨_, _, _, _, _, _, _, _, _, _, rfl, _⟩ := h; rfl) | (obtain ⟨_, _, _, _, _, _, _, _, _, _, _, rfl, _⟩ := h; rfl) | (obtain ⟨_, _, _, _, _, _, _, _, _, _, _, _, rfl, _⟩ := h; rfl) | (obtain ⟨_, _, _, _, _, _, _, _, _, _, _, _, _, rfl, _⟩ := h; rfl) | (obtain ⟨_, _, _, _, _, _, _, _, _, _, _, _, _, _, rfl, _⟩ := h; rfl) | (obtain ⟨_, _, _, _, _, _, _, _, _, _, _, _, _, _, _, rfl, _⟩ := h; rfl)
  · have hu := hu_of hr
    exact pss_cons (ps_set (i := 2) sc__law_draw.nd rfl (by first | exact Or.inl rfl | exact Or.inr rfl) (pe_ix ix_list (pv 0) (pe_int) (fun _ _ => rfl)))
      (pss_cons (ps_asg (pe_op op_addI (pe_ix ix_list (pv 0) (pe_int) (fun _ _ => rfl)) (pe_int)) (pg_sub (pv 0) (pe_int) set_list))
      (pss_cons (ps_set (i := 3) sc__law_draw.nd rfl (by first | exact Or.inl rfl | exact Or.inr rfl) (pe_op op_modI (pe_ix ix_list (pv 0) (pe_int) (fun _ _ => rfl)) (pe_callB call_lenQ (by rfl) T.m_len PySem.boot_len (pa_cons (pv 2) (pa_nil)))))
      (pss_cons (ps_set (i := 4) sc__law_draw.nd rfl (by first | exact Or.inl rfl | exact Or.inr rfl) (pe_ix ix_list (pv 2) (pv 3) (fun _ _ => rfl)))
      (pss_cons (ps_if (pt_cmpR op_geI (pv 4) (pe_int) (nomark _)) (pss_cons (ps_asg (pe_op op_divI (pv 4) (pv 1)) (pg_sub (pv 2) (pv 3) set_list))
      (pss_one (ps_ret (pe_op op_modI (pv 4) (pv 1))))) (pss_nil))
      (pss_cons (ps_set (i := 5) sc__law_draw.nd rfl (by first | exact Or.inl rfl | exact Or.inr rfl) (pe_op op_modI (pe_op op_addI (pv 4) (pe_op op_mulI (pe_int) (pe_ix ix_list (pv 0) (pe_int) (fun _ _ => rfl)))) (pe_int)))
      (pss_cons (ps_set (i := 5) sc__law_draw.nd rfl (by first | exact Or.inl rfl | exact Or.inr rfl) (pe_op op_modI (pe_op op_powI (pv 5) (pe_int)) (pe_int)))
      (pss_one (ps_ret (pe_op op_modI (pe_op op_divI (pe_op op_modI (pe_op op_addI (pe_op op_mulI (pe_op op_divI (pv 5) (pe_int)) (pe_int)) (pv 5)) (pe_int)) (pe_int)) (pv 1))))))))))
  · exact pure__law_draw h
set_option maxHeartbeats 8000000 in
theorem ok_is_whole (T : Txt K mg D) : FnOk P w K mg base CX0 1 D.f_is_whole D.d_is_whole ["thing", "low", "high"] (sp_is_whole) := by
  refine T.F_is_whole.ok sc_is_whole (fun vs H Q E h => ?_) (fun cdv A outer s H vs Q E hr h => ⟨t_is_whole K, ?_, ?_⟩)
  · first | (obtain ⟨_, rfl, _⟩ := h; rfl) | (obtain ⟨_, _, rfl, _⟩ := h; rfl) | (obtain ⟨_, _, _, rfl, _⟩ := h; rfl) | (obtain ⟨_, _, _, _, rfl, _⟩ := h; rfl) | (obtain ⟨_, _, _, _, _, rfl, _⟩ := h; rfl) | (obtain ⟨_, _, _, _, _, _, rfl, _⟩ := h; rfl) | (obtain ⟨_, _, _, _, _, _, _, rfl, _⟩ := h; rfl) | (obtain ⟨_, _, _, _, _, _, _, _, rfl, _⟩ := h; rfl) | (obtain ⟨_, _, _, _, _, _, _, _, _, rfl, _⟩ := h; rfl) | (obtain ⟨_, _, _, _, _, _, _, _, _, _, rfl, _⟩ := h; rfl) | (obtain ⟨_, _, _, _, _, _, _, _, _, _, _, rfl, _⟩ := h; rfl) | (obtain ⟨_, _, _, _, _, _, _, _, _, _, _, _, rfl, _⟩ := h; rfl) | (obtain ⟨_, _, _, _, _, _, _, _, _, _, _, _, _, rfl, _⟩ := h; rfl) | (obtain ⟨_, _, _, _, _, _, _, _, _, _, _, _, _, _, rfl, _⟩ := h; rfl) | (obtain ⟨_, _, _, _, _, _, _, _, _, _, _, _, _, _, _, rfl, _⟩ := h; rfl)
  · have hu := hu_of hr
    exact pss_one (ps_ret (pe_and (pe_callB call_isi (by rfl) T.m_isinstance (by decide +kernel) (pa_cons (pv 0) (pa_cons (pe_bltn (v := .ty "int") (by rfl) T.m_int (by decide +kernel) rfl) (pa_nil)))) (pe_and (pe_not (pe_callB call_isi (by rfl) T.m_isinstance (by decide +kernel) (pa_cons (pv 0) (pa_cons (pe_bltn (v := .ty "bool") (by rfl) T.m_bool (by decide +kernel) rfl) (pa_nil))))) (pe_one (pe_chain op_leI op_leI (pv 1) (pv 0) (pv 2))))))
  · exact pure_is_whole h
set_option maxHeartbeats 8000000 in
theorem ok_look_number (T : Txt K mg D) : FnOk P w K mg base CX0 2 D.f_look_number D.d_look_number ["thing", "low", "high"] (sp_look_number) := by
  have G_is_whole : FnOk P w K mg base CX0 1 D.f_is_whole D.d_is_whole ["thing", "low", "high"] (sp_is_whole) := ok_is_whole T
  refine T.F_look_number.ok sc_look_number (fun vs H Q E h => ?_) (fun cdv A outer s H vs Q E hr h => ⟨t_look_number K (sp_is_whole), ?_, ?_⟩)
  · first | (obtain ⟨_, rfl, _⟩ := h; rfl) | (obtain ⟨_, _, rfl, _⟩ := h; rfl) | (obtain ⟨_, _, _, rfl, _⟩ := h; rfl) | (obtain ⟨_, _, _, _, rfl, _⟩ := h; rfl) | (obtain ⟨_, _, _, _, _, rfl, _⟩ := h; rfl) | (obtain ⟨_, _, _, _, _, _, rfl, _⟩ := h; rfl) | (obtain ⟨_, _, _, _, _, _, _, rfl, _⟩ := h; rfl) | (obtain ⟨_, _, _, _, _, _, _, _, rfl, _⟩ := h; rfl) | (obtain ⟨_, _, _, _, _, _, _, _, _, rfl, _⟩ := h; rfl) | (obtain ⟨_, _, _, _, _, _, _, _, _, _, rfl, _⟩ := h; rfl) | (obtain ⟨_, _, _, _, _, _, _, _, _, _, _, rfl, _⟩ := h; rfl) | (obtain ⟨_, _, _, _, _, _, _, _, _, _, _, _, rfl, _⟩ := h; rfl) | (obtain ⟨_, _, _, _, _, _, _, _, _, _, _, _, _, rfl, _⟩ := h; rfl) | (obtain ⟨_, _, _, _, _, _, _, _, _, _, _, _, _, _, rfl, _⟩ := h; rfl) | (obtain ⟨_, _, _, _, _, _, _, _, _, _, _, _, _, _, _, rfl, _⟩ := h; rfl)
  · have hu := hu_of hr
    exact pss_one (ps_if (pt_not (pt_val (pe_call G_is_whole (hr.mono (by decide)) (by rfl) T.g_is_whole T.F_is_whole.kp T.b_is_whole .nil pass0 (pa_cons (pv 0) (pa_cons (pv 1) (pa_cons (pv 2) (pa_nil))))))) (pss_one (ps_never)) (pss_nil))
  · exact pure_look_number h
set_option maxHeartbeats 8000000 in
theorem ok_mk_Tree (T : Txt K mg D) : FnOk P w K mg base CX0 3 D.f_Tree_init D.d_Tree_init ["self", "hands"] (sp_trinit D.c_Tree) := by
  have G_look_number : FnOk P w K mg base CX0 2 D.f_look_number D.d_look_number ["thing", "low", "high"] (sp_look_number) := ok_look_number T
  refine T.F_Tree_init.ok sc_Tree_init (fun vs H Q E h => ?_) (fun cdv A outer s H vs Q E hr h => ⟨t_Tree_init K (sp_look_number), ?_, ?_⟩)
  · first | (obtain ⟨_, rfl, _⟩ := h; rfl) | (obtain ⟨_, _, rfl, _⟩ := h; rfl) | (obtain ⟨_, _, _, rfl, _⟩ := h; rfl) | (obtain ⟨_, _, _, _, rfl, _⟩ := h; rfl) | (obtain ⟨_, _, _, _, _, rfl, _⟩ := h; rfl) | (obtain ⟨_, _, _, _, _, _, rfl, _⟩ := h; rfl) | (obtain ⟨_, _, _, _, _, _, _, rfl, _⟩ := h; rfl) | (obtain ⟨_, _, _, _, _, _, _, _, rfl, _⟩ := h; rfl) | (obtain ⟨_, _, _, _, _, _, _, _, _, rfl, _⟩ := h; rfl) | (obtain ⟨_, _, _, _, _, _, _, _, _, _, rfl, _⟩ := h; rfl) | (obtain ⟨_, _, _, _, _, _, _, _, _, _, _, rfl, _⟩ := h; rfl) | (obtain ⟨_, _, _, _, _, _, _, _, _, _, _, _, rfl, _⟩ := h; rfl) | (obtain ⟨_, _, _, _, _, _, _, _, _, _, _, _, _, rfl, _⟩ := h; rfl) | (obtain ⟨_, _, _, _, _, _, _, _, _, _, _, _, _, _, rfl, _⟩ := h; rfl) | (obtain ⟨_, _, _, _, _, _, _, _, _, _, _, _, _, _, _, rfl, _⟩ := h; rfl)
  · have hu := hu_of hr
    exact pss_cons (ps_expr (pe_call G_look_number (hr.mono (by decide)) (by rfl) T.g_look_number T.F_look_number.kp T.b_look_number .nil pass0 (pa_cons (pv 1) (pa_cons (pe_int) (pa_cons (pe_glob (by rfl) T.k_MOST_HANDS ⟨_, rfl⟩) (pa_nil))))))
      (pss_cons (ps_fld (pv 0) (pv 1) (by rfl))
      (pss_cons (ps_fld (pv 0) (pe_dnewK) (by rfl))
      (pss_cons (ps_fld (pv 0) (pe_int) (by rfl))
      (pss_cons (ps_fld (pv 0) (pe_non) (by rfl))
      (pss_one (ps_fld (pv 0) (pe_dnewK) (by rfl)))))))
  · exact pure_trinit ⟨T.cl_Tree, T.na_Tree_hands, T.na_Tree_knots, T.na_Tree_made, T.na_Tree_root, T.na_Tree_pinned⟩ h
set_option maxHeartbeats 8000000 in
theorem ok__law_pick (T : Txt K mg D) : FnOk P w K mg base CX0 2 D.f__law_pick D.d__law_pick ["town", "some"] (sp__law_pick) := by
  have G__law_draw : FnOk P w K mg base CX0 1 D.f__law_draw D.d__law_draw ["town", "many"] (sp__law_draw) := ok__law_draw T
  refine T.F__law_pick.ok sc__law_pick (fun vs H Q E h => ?_) (fun cdv A outer s H vs Q E hr h => ⟨t__law_pick K (sp__law_draw), ?_, ?_⟩)
  · first | (obtain ⟨_, rfl, _⟩ := h; rfl) | (obtain ⟨_, _, rfl, _⟩ := h; rfl) | (obtain ⟨_, _, _, rfl, _⟩ := h; rfl) | (obtain ⟨_, _, _, _, rfl, _⟩ := h; rfl) | (obtain ⟨_, _, _, _, _, rfl, _⟩ := h; rfl) | (obtain ⟨_, _, _, _, _, _, rfl, _⟩ := h; rfl) | (obtain ⟨_, _, _, _, _, _, _, rfl, _⟩ := h; rfl) | (obtain ⟨_, _, _, _, _, _, _, _, rfl, _⟩ := h; rfl) | (obtain ⟨_, _, _, _, _, _, _, _, _, rfl, _⟩ := h; rfl) | (obtain ⟨_, _, _, _, _, _, _, _, _, _, rfl, _⟩ := h; rfl) | (obtain ⟨_, _, _, _, _, _, _, _, _, _, _, rfl, _⟩ := h; rfl) | (obtain ⟨_, _, _, _, _, _, _, _, _, _, _, _, rfl, _⟩ := h; rfl) | (obtain ⟨_, _, _, _, _, _, _, _, _, _, _, _, _, rfl, _⟩ := h; rfl) | (obtain ⟨_, _, _, _, _, _, _, _, _, _, _, _, _, _, rfl, _⟩ := h; rfl) | (obtain ⟨_, _, _, _, _, _, _, _, _, _, _, _, _, _, _, rfl, _⟩ := h; rfl)
  · have hu := hu_of hr
    exact pss_one (ps_ret (pe_ix ix_list (pv 1) (pe_call G__law_draw (hr.mono (by decide)) (by rfl) T.g__law_draw T.F__law_draw.kp T.b__law_draw .nil pass0 (pa_cons (pv 0) (pa_cons (pe_callB call_lenQ (by rfl) T.m_len PySem.boot_len (pa_cons (pv 1) (pa_nil))) (pa_nil)))) (fun _ _ => rfl)))
  · exact pure__law_pick h
set_option maxHeartbeats 8000000 in
theorem ok_Tree__Tree_way_to (T : Txt K mg D) : FnOk P w K mg base CX0 1 D.f_Tree_way_to D.d_Tree_way_to ["self", "root", "key"] (sp_way_to D.c_Tree) := by
  refine T.F_Tree_way_to.ok sc_Tree_way_to (fun vs H Q E h => ?_) (fun cdv A outer s H vs Q E hr h => ⟨t_Tree_way_to K, ?_, ?_⟩)
  · first | (obtain ⟨_, rfl, _⟩ := h; rfl) | (obtain ⟨_, _, rfl, _⟩ := h; rfl) | (obtain ⟨_, _, _, rfl, _⟩ := h; rfl) | (obtain ⟨_, _, _, _, rfl, _⟩ := h; rfl) | (obtain ⟨_, _, _, _, _, rfl, _⟩ := h; rfl) | (obtain ⟨_, _, _, _, _, _, rfl, _⟩ := h; rfl) | (obtain ⟨_, _, _, _, _, _, _, rfl, _⟩ := h; rfl) | (obtain ⟨_, _, _, _, _, _, _, _, rfl, _⟩ := h; rfl) | (obtain ⟨_, _, _, _, _, _, _, _, _, rfl, _⟩ := h; rfl) | (obtain ⟨_, _, _, _, _, _, _, _, _, _, rfl, _⟩ := h; rfl) | (obtain ⟨_, _, _, _, _, _, _, _, _, _, _, rfl, _⟩ := h; rfl) | (obtain ⟨_, _, _, _, _, _, _, _, _, _, _, _, rfl, _⟩ := h; rfl) | (obtain ⟨_, _, _, _, _, _, _, _, _, _, _, _, _, rfl, _⟩ := h; rfl) | (obtain ⟨_, _, _, _, _, _, _, _, _, _, _, _, _, _, rfl, _⟩ := h; rfl) | (obtain ⟨_, _, _, _, _, _, _, _, _, _, _, _, _, _, _, rfl, _⟩ := h; rfl)
  · have hu := hu_of hr
    exact pss_cons (ps_set (i := 3) sc_Tree_way_to.nd rfl (by first | exact Or.inl rfl | exact Or.inr rfl) (pe_lst (pa_nil)))
      (pss_cons (ps_set (i := 4) sc_Tree_way_to.nd rfl (by first | exact Or.inl rfl | exact Or.inr rfl) (pv 1))
      (pss_cons (ps_while PassesOwn.never (PW.pt (pw_and (pt_cmpR op_notNo (pv 4) (pe_non) (nomark _)) (pw_and1 (PW.pt (pw_or (pt_cmpR (op_eqD hr.units) (pv 3) (pe_lst (pa_nil)) (nomark _)) (pw_or1 (pt_cmpR op_ne (pe_ix ix_tup (pe_dget hu (pe_fld (pv 0) (by rfl)) (pe_ix ix_list (pv 3) (pe_un un_neg (pe_int)) (fun _ _ => rfl)) (fun _ _ => rfl)) (pe_int) (fun _ _ => rfl)) (pv 2) (nomark _)))))))) (pss_cons (ps_expr (pe_bm PySem.F.plainAttrs_list PySem.F.slot_list_append PySem.F.type_list_append mt_append (pv 3) (pa_cons (pv 4) (pa_nil))))
      (pss_one (ps_set (i := 4) sc_Tree_way_to.nd rfl (by first | exact Or.inl rfl | exact Or.inr rfl) (pe_ifExp (pt_cmpR op_ltI (pv 2) (pe_ix ix_tup (pe_dget hu (pe_fld (pv 0) (by rfl)) (pv 4) (fun _ _ => rfl)) (pe_int) (fun _ _ => rfl)) (nomark _)) (pe_ix ix_tup (pe_dget hu (pe_fld (pv 0) (by rfl)) (pv 4) (fun _ _ => rfl)) (pe_int) (fun _ _ => rfl)) (pe_ix ix_tup (pe_dget hu (pe_fld (pv 0) (by rfl)) (pv 4) (fun _ _ => rfl)) (pe_int) (fun _ _ => rfl)))))))
      (pss_one (ps_ret (pv 3)))))
  · exact pure_way_to ⟨T.cl_Tree, T.na_Tree_hands, T.na_Tree_knots, T.na_Tree_made, T.na_Tree_root, T.na_Tree_pinned⟩ h
set_option maxHeartbeats 8000000 in
theorem ok_Tree__Tree_new_knot (T : Txt K mg D) : FnOk P w K mg base CX0 1 D.f_Tree_new_knot D.d_Tree_new_knot ["self", "key", "value", "low", "high"] (sp_new_knot D.c_Tree) := by
  refine T.F_Tree_new_knot.ok sc_Tree_new_knot (fun vs H Q E h => ?_) (fun cdv A outer s H vs Q E hr h => ⟨t_Tree_new_knot K, ?_, ?_⟩)
  · first | (obtain ⟨_, rfl, _⟩ := h; rfl) | (obtain ⟨_, _, rfl, _⟩ := h; rfl) | (obtain ⟨_, _, _, rfl, _⟩ := h; rfl) | (obtain ⟨_, _, _, _, rfl, _⟩ := h; rfl) | (obtain ⟨_, _, _, _, _, rfl, _⟩ := h; rfl) | (obtain ⟨_, _, _, _, _, _, rfl, _⟩ := h; rfl) | (obtain ⟨_, _, _, _, _, _, _, rfl, _⟩ := h; rfl) | (obtain ⟨_, _, _, _, _, _, _, _, rfl, _⟩ := h; rfl) | (obtain ⟨_, _, _, _, _, _, _, _, _, rfl, _⟩ := h; rfl) | (obtain ⟨_, _, _, _, _, _, _, _, _, _, rfl, _⟩ := h; rfl) | (obtain ⟨_, _, _, _, _, _, _, _, _, _, _, rfl, _⟩ := h; rfl) | (obtain ⟨_, _, _, _, _, _, _, _, _, _, _, _, rfl, _⟩ := h; rfl) | (obtain ⟨_, _, _, _, _, _, _, _, _, _, _, _, _, rfl, _⟩ := h; rfl) | (obtain ⟨_, _, _, _, _, _, _, _, _, _, _, _, _, _, rfl, _⟩ := h; rfl) | (obtain ⟨_, _, _, _, _, _, _, _, _, _, _, _, _, _, _, rfl, _⟩ := h; rfl)
  · have hu := hu_of hr
    exact pss_cons (ps_dput hu (pe_fld (pv 0) (by rfl)) (pe_fld (pv 0) (by rfl)) (pe_tup (pa_cons (pv 1) (pa_cons (pv 2) (pa_cons (pv 3) (pa_cons (pv 4) (pa_nil)))))) (by rfl))
      (pss_cons (ps_fld (pv 0) (pe_op op_addI (pe_fld (pv 0) (by rfl)) (pe_int)) (by rfl))
      (pss_one (ps_ret (pe_op op_subI (pe_fld (pv 0) (by rfl)) (pe_int)))))
  · exact pure_new_knot ⟨T.cl_Tree, T.na_Tree_hands, T.na_Tree_knots, T.na_Tree_made, T.na_Tree_root, T.na_Tree_pinned⟩ h
set_option maxHeartbeats 8000000 in
theorem ok_Tree__Tree_rebuilt (T : Txt K mg D) : FnOk P w K mg base CX0 2 D.f_Tree_rebuilt D.d_Tree_rebuilt ["self", "names", "key", "below"] (sp_rebuilt D.c_Tree) := by
  have G_Tree__Tree_new_knot : FnOk P w K mg base CX0 1 D.f_Tree_new_knot D.d_Tree_new_knot ["self", "key", "value", "low", "high"] (sp_new_knot D.c_Tree) := ok_Tree__Tree_new_knot T
  refine T.F_Tree_rebuilt.ok sc_Tree_rebuilt (fun vs H Q E h => ?_) (fun cdv A outer s H vs Q E hr h => ⟨t_Tree_rebuilt K D.c_Tree (sp_new_knot D.c_Tree), ?_, ?_⟩)
  · first | (obtain ⟨_, rfl, _⟩ := h; rfl) | (obtain ⟨_, _, rfl, _⟩ := h; rfl) | (obtain ⟨_, _, _, rfl, _⟩ := h; rfl) | (obtain ⟨_, _, _, _, rfl, _⟩ := h; rfl) | (obtain ⟨_, _, _, _, _, rfl, _⟩ := h; rfl) | (obtain ⟨_, _, _, _, _, _, rfl, _⟩ := h; rfl) | (obtain ⟨_, _, _, _, _, _, _, rfl, _⟩ := h; rfl) | (obtain ⟨_, _, _, _, _, _, _, _, rfl, _⟩ := h; rfl) | (obtain ⟨_, _, _, _, _, _, _, _, _, rfl, _⟩ := h; rfl) | (obtain ⟨_, _, _, _, _, _, _, _, _, _, rfl, _⟩ := h; rfl) | (obtain ⟨_, _, _, _, _, _, _, _, _, _, _, rfl, _⟩ := h; rfl) | (obtain ⟨_, _, _, _, _, _, _, _, _, _, _, _, rfl, _⟩ := h; rfl) | (obtain ⟨_, _, _, _, _, _, _, _, _, _, _, _, _, rfl, _⟩ := h; rfl) | (obtain ⟨_, _, _, _, _, _, _, _, _, _, _, _, _, _, rfl, _⟩ := h; rfl) | (obtain ⟨_, _, _, _, _, _, _, _, _, _, _, _, _, _, _, rfl, _⟩ := h; rfl)
  · have hu := hu_of hr
    exact pss_cons (ps_for PassesOwn.never rfl (pi_list (pe_revL (pv 1))) (pg_name (i := 4) sc_Tree_rebuilt.nd rfl (by first | exact Or.inl rfl | exact Or.inr rfl)) (pss_cons (ps_asg (pe_dget hu (pe_fld (pv 0) (by rfl)) (pv 4) (fun _ _ => rfl)) (pg_tup rfl (pgs_cons (pg_name (i := 5) sc_Tree_rebuilt.nd rfl (by first | exact Or.inl rfl | exact Or.inr rfl)) (pgs_cons (pg_name (i := 6) sc_Tree_rebuilt.nd rfl (by first | exact Or.inl rfl | exact Or.inr rfl)) (pgs_cons (pg_name (i := 7) sc_Tree_rebuilt.nd rfl (by first | exact Or.inl rfl | exact Or.inr rfl)) (pgs_cons (pg_name (i := 8) sc_Tree_rebuilt.nd rfl (by first | exact Or.inl rfl | exact Or.inr rfl)) (pgs_nil)))))))
      (pss_cons (ps_asg (pe_ifExp (pt_cmpR op_ltI (pv 2) (pv 5) (nomark _)) (pe_tup (pa_cons (pv 3) (pa_cons (pv 8) (pa_nil)))) (pe_tup (pa_cons (pv 7) (pa_cons (pv 3) (pa_nil))))) (pg_tup rfl (pgs_cons (pg_name (i := 7) sc_Tree_rebuilt.nd rfl (by first | exact Or.inl rfl | exact Or.inr rfl)) (pgs_cons (pg_name (i := 8) sc_Tree_rebuilt.nd rfl (by first | exact Or.inl rfl | exact Or.inr rfl)) (pgs_nil)))))
      (pss_one (ps_set (i := 3) sc_Tree_rebuilt.nd rfl (by first | exact Or.inl rfl | exact Or.inr rfl) (pe_meth (pv 0) T.cl_Tree T.me_Tree_new_knot G_Tree__Tree_new_knot (hr.mono (by decide)) T.b_Tree_new_knot .nil pass0 (pa_cons (pv 5) (pa_cons (pv 6) (pa_cons (pv 7) (pa_cons (pv 8) (pa_nil)))))))))))
      (pss_one (ps_ret (pv 3)))
  · exact pure_rebuilt ⟨T.cl_Tree, T.na_Tree_hands, T.na_Tree_knots, T.na_Tree_made, T.na_Tree_root, T.na_Tree_pinned⟩ h
set_option maxHeartbeats 8000000 in
theorem ok_Tree__Tree_put (T : Txt K mg D) : FnOk P w K mg base CX0 3 D.f_Tree_put D.d_Tree_put ["self", "key", "value"] (sp_trput D.c_Tree) := by
  have G_look_number : FnOk P w K mg base CX0 2 D.f_look_number D.d_look_number ["thing", "low", "high"] (sp_look_number) := ok_look_number T
  have G_Tree__Tree_way_to : FnOk P w K mg base CX0 1 D.f_Tree_way_to D.d_Tree_way_to ["self", "root", "key"] (sp_way_to D.c_Tree) := ok_Tree__Tree_way_to T
  have G_Tree__Tree_rebuilt : FnOk P w K mg base CX0 2 D.f_Tree_rebuilt D.d_Tree_rebuilt ["self", "names", "key", "below"] (sp_rebuilt D.c_Tree) := ok_Tree__Tree_rebuilt T
  have G_Tree__Tree_new_knot : FnOk P w K mg base CX0 1 D.f_Tree_new_knot D.d_Tree_new_knot ["self", "key", "value", "low", "high"] (sp_new_knot D.c_Tree) := ok_Tree__Tree_new_knot T
  refine T.F_Tree_put.ok sc_Tree_put (fun vs H Q E h => ?_) (fun cdv A outer s H vs Q E hr h => ⟨t_Tree_put K D.c_Tree (sp_look_number) (sp_way_to D.c_Tree) (sp_rebuilt D.c_Tree) (sp_new_knot D.c_Tree), ?_, ?_⟩)
  · first | (obtain ⟨_, rfl, _⟩ := h; rfl) | (obtain ⟨_, _, rfl, _⟩ := h; rfl) | (obtain ⟨_, _, _, rfl, _⟩ := h; rfl) | (obtain ⟨_, _, _, _, rfl, _⟩ := h; rfl) | (obtain ⟨_, _, _, _, _, rfl, _⟩ := h; rfl) | (obtain ⟨_, _, _, _, _, _, rfl, _⟩ := h; rfl) | (obtain ⟨_, _, _, _, _, _, _, rfl, _⟩ := h; rfl) | (obtain ⟨_, _, _, _, _, _, _, _, rfl, _⟩ := h; rfl) | (obtain ⟨_, _, _, _, _, _, _, _, _, rfl, _⟩ := h; rfl) | (obtain ⟨_, _, _, _, _, _, _, _, _, _, rfl, _⟩ := h; rfl) | (obtain ⟨_, _, _, _, _, _, _, _, _, _, _, rfl, _⟩ := h; rfl) | (obtain ⟨_, _, _, _, _, _, _, _, _, _, _, _, rfl, _⟩ := h; rfl) | (obtain ⟨_, _, _, _, _, _, _, _, _, _, _, _, _, rfl, _⟩ := h; rfl) | (obtain ⟨_, _, _, _, _, _, _, _, _, _, _, _, _, _, rfl, _⟩ := h; rfl) | (obtain ⟨_, _, _, _, _, _, _, _, _, _, _, _, _, _, _, rfl, _⟩ := h; rfl)
  · have hu := hu_of hr
    exact pss_cons (ps_expr (pe_call G_look_number (hr.mono (by decide)) (by rfl) T.g_look_number T.F_look_number.kp T.b_look_number .nil pass0 (pa_cons (pv 1) (pa_cons (pe_int) (pa_cons (pe_glob (by rfl) T.k_MOST_KEY ⟨_, rfl⟩) (pa_nil))))))
      (pss_cons (ps_expr (pe_call G_look_number (hr.mono (by decide)) (by rfl) T.g_look_number T.F_look_number.kp T.b_look_number .nil pass0 (pa_cons (pv 2) (pa_cons (pe_int) (pa_cons (pe_glob (by rfl) T.k_MOST_VALUE ⟨_, rfl⟩) (pa_nil))))))
      (pss_cons (ps_set (i := 3) sc_Tree_put.nd rfl (by first | exact Or.inl rfl | exact Or.inr rfl) (pe_fld (pv 0) (by rfl)))
      (pss_cons (ps_set (i := 4) sc_Tree_put.nd rfl (by first | exact Or.inl rfl | exact Or.inr rfl) (pe_meth (pv 0) T.cl_Tree T.me_Tree_way_to G_Tree__Tree_way_to (hr.mono (by decide)) T.b_Tree_way_to .nil pass0 (pa_cons (pe_fld (pv 0) (by rfl)) (pa_cons (pv 1) (pa_nil)))))
      (pss_cons (ps_asg (pe_tup (pa_cons (pe_non) (pa_cons (pe_non) (pa_nil)))) (pg_tup rfl (pgs_cons (pg_name (i := 5) sc_Tree_put.nd rfl (by first | exact Or.inl rfl | exact Or.inr rfl)) (pgs_cons (pg_name (i := 6) sc_Tree_put.nd rfl (by first | exact Or.inl rfl | exact Or.inr rfl)) (pgs_nil)))))
      (pss_cons (ps_if (PW.pt (pw_and (pt_cmpR (op_neD hr.units) (pv 4) (pe_lst (pa_nil)) (nomark _)) (pw_and1 (pt_cmpR op_eq (pe_ix ix_tup (pe_dget hu (pe_fld (pv 0) (by rfl)) (pe_ix ix_list (pv 4) (pe_un un_neg (pe_int)) (fun _ _ => rfl)) (fun _ _ => rfl)) (pe_int) (fun _ _ => rfl)) (pv 1) (nomark _))))) (pss_one (ps_asg (pe_slice sl_tup (pe_dget hu (pe_fld (pv 0) (by rfl)) (pe_bm0 PySem.F.plainAttrs_list PySem.F.slot_list_pop PySem.F.type_list_pop mt_pop (pv 4)) (fun _ _ => rfl)) (po_some (pe_int)) (po_none)) (pg_tup rfl (pgs_cons (pg_name (i := 5) sc_Tree_put.nd rfl (by first | exact Or.inl rfl | exact Or.inr rfl)) (pgs_cons (pg_name (i := 6) sc_Tree_put.nd rfl (by first | exact Or.inl rfl | exact Or.inr rfl)) (pgs_nil)))))) (pss_nil))
      (pss_cons (ps_fld (pv 0) (pe_meth (pv 0) T.cl_Tree T.me_Tree_rebuilt G_Tree__Tree_rebuilt (hr.mono (by decide)) T.b_Tree_rebuilt .nil pass0 (pa_cons (pv 4) (pa_cons (pv 1) (pa_cons (pe_meth (pv 0) T.cl_Tree T.me_Tree_new_knot G_Tree__Tree_new_knot (hr.mono (by decide)) T.b_Tree_new_knot .nil pass0 (pa_cons (pv 1) (pa_cons (pv 2) (pa_cons (pv 5) (pa_cons (pv 6) (pa_nil)))))) (pa_nil))))) (by rfl))
      (pss_one (ps_ret (pe_op op_subI (pe_fld (pv 0) (by rfl)) (pv 3))))))))))
  · exact pure_trput ⟨T.cl_Tree, T.na_Tree_hands, T.na_Tree_knots, T.na_Tree_made, T.na_Tree_root, T.na_Tree_pinned⟩ h
set_option maxHeartbeats 8000000 in
theorem ok__law_plant (T : Txt K mg D) : FnOk P w K mg base CX0 1 D.f__law_plant D.d__law_plant ["tree", "key"] (sp__law_plant) := by
  refine T.F__law_plant.ok sc__law_plant (fun vs H Q E h => ?_) (fun cdv A outer s H vs Q E hr h => ⟨t__law_plant K, ?_, ?_⟩)
  · first | (obtain ⟨_, rfl, _⟩ := h; rfl) | (obtain ⟨_, _, rfl, _⟩ := h; rfl) | (obtain ⟨_, _, _, rfl, _⟩ := h; rfl) | (obtain ⟨_, _, _, _, rfl, _⟩ := h; rfl) | (obtain ⟨_, _, _, _, _, rfl, _⟩ := h; rfl) | (obtain ⟨_, _, _, _, _, _, rfl, _⟩ := h; rfl) | (obtain ⟨_, _, _, _, _, _, _, rfl, _⟩ := h; rfl) | (obtain ⟨_, _, _, _, _, _, _, _, rfl, _⟩ := h; rfl) | (obtain ⟨_, _, _, _, _, _, _, _, _, rfl, _⟩ := h; rfl) | (obtain ⟨_, _, _, _, _, _, _, _, _, _, rfl, _⟩ := h; rfl) | (obtain ⟨_, _, _, _, _, _, _, _, _, _, _, rfl, _⟩ := h; rfl) | (obtain ⟨_, _, _, _, _, _, _, _, _, _, _, _, rfl, _⟩ := h; rfl) | (obtain ⟨_, _, _, _, _, _, _, _, _, _, _, _, _, rfl, _⟩ := h; rfl) | (obtain ⟨_, _, _, _, _, _, _, _, _, _, _, _, _, _, rfl, _⟩ := h; rfl) | (obtain ⟨_, _, _, _, _, _, _, _, _, _, _, _, _, _, _, rfl, _⟩ := h; rfl)
  · have hu := hu_of hr
    exact pss_cons (ps_asg (pv 0) (pg_tup rfl (pgs_cons (pg_name (i := 2) sc__law_plant.nd rfl (by first | exact Or.inl rfl | exact Or.inr rfl)) (pgs_cons (pg_name (i := 3) sc__law_plant.nd rfl (by first | exact Or.inl rfl | exact Or.inr rfl)) (pgs_cons (pg_name (i := 4) sc__law_plant.nd rfl (by first | exact Or.inl rfl | exact Or.inr rfl)) (pgs_nil))))))
      (pss_cons (ps_set (i := 5) sc__law_plant.nd rfl (by first | exact Or.inl rfl | exact Or.inr rfl) (pe_lst (pa_nil)))
      (pss_cons (ps_set (i := 6) sc__law_plant.nd rfl (by first | exact Or.inl rfl | exact Or.inr rfl) (pv 4))
      (pss_cons (ps_while PassesOwn.never (PW.pt (pw_and (pt_cmpR op_notNo (pv 6) (pe_non) (nomark _)) (pw_and1 (pt_cmpR op_ne (pe_ix ix_tup (pe_ix ix_list (pv 3) (pv 6) (fun _ _ => rfl)) (pe_int) (fun _ _ => rfl)) (pv 1) (nomark _))))) (pss_cons (ps_expr (pe_bm PySem.F.plainAttrs_list PySem.F.slot_list_append PySem.F.type_list_append mt_append (pv 5) (pa_cons (pv 6) (pa_nil))))
      (pss_one (ps_set (i := 6) sc__law_plant.nd rfl (by first | exact Or.inl rfl | exact Or.inr rfl) (pe_ix ix_tup (pe_ix ix_list (pv 3) (pv 6) (fun _ _ => rfl)) (pe_ifExp (pt_cmpR op_ltI (pv 1) (pe_ix ix_tup (pe_ix ix_list (pv 3) (pv 6) (fun _ _ => rfl)) (pe_int) (fun _ _ => rfl)) (nomark _)) (pe_int) (pe_int)) (fun _ _ => rfl))))))
      (pss_cons (ps_asg (pe_ifExp (pt_cmpR op_isNo (pv 6) (pe_non) (nomark _)) (pe_tup (pa_cons (pe_non) (pa_cons (pe_non) (pa_nil)))) (pe_slice sl_tup (pe_ix ix_list (pv 3) (pv 6) (fun _ _ => rfl)) (po_some (pe_int)) (po_none))) (pg_tup rfl (pgs_cons (pg_name (i := 7) sc__law_plant.nd rfl (by first | exact Or.inl rfl | exact Or.inr rfl)) (pgs_cons (pg_name (i := 8) sc__law_plant.nd rfl (by first | exact Or.inl rfl | exact Or.inr rfl)) (pgs_nil)))))
      (pss_cons (ps_expr (pe_bm PySem.F.plainAttrs_list PySem.F.slot_list_append PySem.F.type_list_append mt_append (pv 3) (pa_cons (pe_tup (pa_cons (pv 1) (pa_cons (pv 7) (pa_cons (pv 8) (pa_nil))))) (pa_nil))))
      (pss_cons (ps_set (i := 9) sc__law_plant.nd rfl (by first | exact Or.inl rfl | exact Or.inr rfl) (pe_op op_subI (pe_callB call_lenQ (by rfl) T.m_len PySem.boot_len (pa_cons (pv 3) (pa_nil))) (pe_int)))
      (pss_cons (ps_for PassesOwn.never rfl (pi_list (pe_revL (pv 5))) (pg_name (i := 10) sc__law_plant.nd rfl (by first | exact Or.inl rfl | exact Or.inr rfl)) (pss_cons (ps_asg (pe_ix ix_list (pv 3) (pv 10) (fun _ _ => rfl)) (pg_tup rfl (pgs_cons (pg_name (i := 11) sc__law_plant.nd rfl (by first | exact Or.inl rfl | exact Or.inr rfl)) (pgs_cons (pg_name (i := 7) sc__law_plant.nd rfl (by first | exact Or.inl rfl | exact Or.inr rfl)) (pgs_cons (pg_name (i := 8) sc__law_plant.nd rfl (by first | exact Or.inl rfl | exact Or.inr rfl)) (pgs_nil))))))
      (pss_cons (ps_asg (pe_ifExp (pt_cmpR op_ltI (pv 1) (pv 11) (nomark _)) (pe_tup (pa_cons (pv 9) (pa_cons (pv 8) (pa_nil)))) (pe_tup (pa_cons (pv 7) (pa_cons (pv 9) (pa_nil))))) (pg_tup rfl (pgs_cons (pg_name (i := 7) sc__law_plant.nd rfl (by first | exact Or.inl rfl | exact Or.inr rfl)) (pgs_cons (pg_name (i := 8) sc__law_plant.nd rfl (by first | exact Or.inl rfl | exact Or.inr rfl)) (pgs_nil)))))
      (pss_cons (ps_expr (pe_bm PySem.F.plainAttrs_list PySem.F.slot_list_append PySem.F.type_list_append mt_append (pv 3) (pa_cons (pe_tup (pa_cons (pv 11) (pa_cons (pv 7) (pa_cons (pv 8) (pa_nil))))) (pa_nil))))
      (pss_one (ps_set (i := 9) sc__law_plant.nd rfl (by first | exact Or.inl rfl | exact Or.inr rfl) (pe_op op_subI (pe_callB call_lenQ (by rfl) T.m_len PySem.boot_len (pa_cons (pv 3) (pa_nil))) (pe_int))))))))
      (pss_one (ps_ret (pe_tup (pa_cons (pv 2) (pa_cons (pv 3) (pa_cons (pv 9) (pa_nil))))))))))))))
  · exact pure__law_plant h
set_option maxHeartbeats 8000000 in
theorem ok_Tree__Tree_look_hand (T : Txt K mg D) : FnOk P w K mg base CX0 2 D.f_Tree_look_hand D.d_Tree_look_hand ["self", "hand"] (sp_trlook_hand D.c_Tree) := by
  have G_is_whole : FnOk P w K mg base CX0 1 D.f_is_whole D.d_is_whole ["thing", "low", "high"] (sp_is_whole) := ok_is_whole T
  refine T.F_Tree_look_hand.ok sc_Tree_look_hand (fun vs H Q E h => ?_) (fun cdv A outer s H vs Q E hr h => ⟨t_Tree_look_hand K (sp_is_whole), ?_, ?_⟩)
  · first | (obtain ⟨_, rfl, _⟩ := h; rfl) | (obtain ⟨_, _, rfl, _⟩ := h; rfl) | (obtain ⟨_, _, _, rfl, _⟩ := h; rfl) | (obtain ⟨_, _, _, _, rfl, _⟩ := h; rfl) | (obtain ⟨_, _, _, _, _, rfl, _⟩ := h; rfl) | (obtain ⟨_, _, _, _, _, _, rfl, _⟩ := h; rfl) | (obtain ⟨_, _, _, _, _, _, _, rfl, _⟩ := h; rfl) | (obtain ⟨_, _, _, _, _, _, _, _, rfl, _⟩ := h; rfl) | (obtain ⟨_, _, _, _, _, _, _, _, _, rfl, _⟩ := h; rfl) | (obtain ⟨_, _, _, _, _, _, _, _, _, _, rfl, _⟩ := h; rfl) | (obtain ⟨_, _, _, _, _, _, _, _, _, _, _, rfl, _⟩ := h; rfl) | (obtain ⟨_, _, _, _, _, _, _, _, _, _, _, _, rfl, _⟩ := h; rfl) | (obtain ⟨_, _, _, _, _, _, _, _, _, _, _, _, _, rfl, _⟩ := h; rfl) | (obtain ⟨_, _, _, _, _, _, _, _, _, _, _, _, _, _, rfl, _⟩ := h; rfl) | (obtain ⟨_, _, _, _, _, _, _, _, _, _, _, _, _, _, _, rfl, _⟩ := h; rfl)
  · have hu := hu_of hr
    exact pss_one (ps_if (pt_not (pt_val (pe_call G_is_whole (hr.mono (by decide)) (by rfl) T.g_is_whole T.F_is_whole.kp T.b_is_whole .nil pass0 (pa_cons (pv 1) (pa_cons (pe_int) (pa_cons (pe_op op_subI (pe_fld (pv 0) (by rfl)) (pe_int)) (pa_nil))))))) (pss_one (ps_never)) (pss_nil))
  · exact pure_trlook_hand ⟨T.cl_Tree, T.na_Tree_hands, T.na_Tree_knots, T.na_Tree_made, T.na_Tree_root, T.na_Tree_pinned⟩ h
set_option maxHeartbeats 8000000 in
theorem ok_Tree__Tree_begin (T : Txt K mg D) : FnOk P w K mg base CX0 3 D.f_Tree_begin D.d_Tree_begin ["self", "hand"] (sp_trbegin D.c_Tree) := by
  have G_Tree__Tree_look_hand : FnOk P w K mg base CX0 2 D.f_Tree_look_hand D.d_Tree_look_hand ["self", "hand"] (sp_trlook_hand D.c_Tree) := ok_Tree__Tree_look_hand T
  refine T.F_Tree_begin.ok sc_Tree_begin (fun vs H Q E h => ?_) (fun cdv A outer s H vs Q E hr h => ⟨t_Tree_begin K D.c_Tree (sp_trlook_hand D.c_Tree), ?_, ?_⟩)
  · first | (obtain ⟨_, rfl, _⟩ := h; rfl) | (obtain ⟨_, _, rfl, _⟩ := h; rfl) | (obtain ⟨_, _, _, rfl, _⟩ := h; rfl) | (obtain ⟨_, _, _, _, rfl, _⟩ := h; rfl) | (obtain ⟨_, _, _, _, _, rfl, _⟩ := h; rfl) | (obtain ⟨_, _, _, _, _, _, rfl, _⟩ := h; rfl) | (obtain ⟨_, _, _, _, _, _, _, rfl, _⟩ := h; rfl) | (obtain ⟨_, _, _, _, _, _, _, _, rfl, _⟩ := h; rfl) | (obtain ⟨_, _, _, _, _, _, _, _, _, rfl, _⟩ := h; rfl) | (obtain ⟨_, _, _, _, _, _, _, _, _, _, rfl, _⟩ := h; rfl) | (obtain ⟨_, _, _, _, _, _, _, _, _, _, _, rfl, _⟩ := h; rfl) | (obtain ⟨_, _, _, _, _, _, _, _, _, _, _, _, rfl, _⟩ := h; rfl) | (obtain ⟨_, _, _, _, _, _, _, _, _, _, _, _, _, rfl, _⟩ := h; rfl) | (obtain ⟨_, _, _, _, _, _, _, _, _, _, _, _, _, _, rfl, _⟩ := h; rfl) | (obtain ⟨_, _, _, _, _, _, _, _, _, _, _, _, _, _, _, rfl, _⟩ := h; rfl)
  · have hu := hu_of hr
    exact pss_cons (ps_expr (pe_meth (pv 0) T.cl_Tree T.me_Tree_look_hand G_Tree__Tree_look_hand (hr.mono (by decide)) T.b_Tree_look_hand .nil pass0 (pa_cons (pv 1) (pa_nil))))
      (pss_cons (ps_if (pt_cmp (pc_din hu (pv 1) (pe_fld (pv 0) (by rfl))) (by rfl)) (pss_one (ps_never)) (pss_nil))
      (pss_one (ps_dput hu (pe_fld (pv 0) (by rfl)) (pv 1) (pe_fld (pv 0) (by rfl)) (by rfl))))
  · exact pure_trbegin ⟨T.cl_Tree, T.na_Tree_hands, T.na_Tree_knots, T.na_Tree_made, T.na_Tree_root, T.na_Tree_pinned⟩ h
set_option maxHeartbeats 8000000 in
theorem ok__law_reach (T : Txt K mg D) : FnOk P w K mg base CX0 1 D.f__law_reach D.d__law_reach ["knots", "tops"] (sp__law_reach) := by
  refine T.F__law_reach.ok sc__law_reach (fun vs H Q E h => ?_) (fun cdv A outer s H vs Q E hr h => ⟨t__law_reach K, ?_, ?_⟩)
  · first | (obtain ⟨_, rfl, _⟩ := h; rfl) | (obtain ⟨_, _, rfl, _⟩ := h; rfl) | (obtain ⟨_, _, _, rfl, _⟩ := h; rfl) | (obtain ⟨_, _, _, _, rfl, _⟩ := h; rfl) | (obtain ⟨_, _, _, _, _, rfl, _⟩ := h; rfl) | (obtain ⟨_, _, _, _, _, _, rfl, _⟩ := h; rfl) | (obtain ⟨_, _, _, _, _, _, _, rfl, _⟩ := h; rfl) | (obtain ⟨_, _, _, _, _, _, _, _, rfl, _⟩ := h; rfl) | (obtain ⟨_, _, _, _, _, _, _, _, _, rfl, _⟩ := h; rfl) | (obtain ⟨_, _, _, _, _, _, _, _, _, _, rfl, _⟩ := h; rfl) | (obtain ⟨_, _, _, _, _, _, _, _, _, _, _, rfl, _⟩ := h; rfl) | (obtain ⟨_, _, _, _, _, _, _, _, _, _, _, _, rfl, _⟩ := h; rfl) | (obtain ⟨_, _, _, _, _, _, _, _, _, _, _, _, _, rfl, _⟩ := h; rfl) | (obtain ⟨_, _, _, _, _, _, _, _, _, _, _, _, _, _, rfl, _⟩ := h; rfl) | (obtain ⟨_, _, _, _, _, _, _, _, _, _, _, _, _, _, _, rfl, _⟩ := h; rfl)
  · have hu := hu_of hr
    exact pss_cons (ps_set (i := 2) sc__law_reach.nd rfl (by first | exact Or.inl rfl | exact Or.inr rfl) (pe_lst (pa_nil)))
      (pss_cons (ps_setLc (i := 3) (own := [("top", 4)]) (by rfl) sc__law_reach.nd rfl rfl (sw_true rfl rfl rfl (by decide +kernel)) (pi_list (pv 1)) (blkOk_by (own := [("top", 4)]) (N := ["knots", "tops", "found", "rest", "top", "here", "one"]) (sc := defScope s__law_reach) (by decide +kernel)) (fun _ _ _ _ _ => pg_name (i := 4) sc__law_reach.nd rfl (by first | exact Or.inl rfl | exact Or.inr rfl)) (fun _ _ _ _ _ => pts_one (pt_cmpR op_notNo (pv 4) (pe_non) (nomark _))) (fun _ _ _ _ _ => pv 4))
      (pss_cons (ps_while PassesOwn.never (pt_cmpR (op_neD hr.units) (pv 3) (pe_lst (pa_nil)) (nomark _)) (pss_cons (ps_set (i := 5) sc__law_reach.nd rfl (by first | exact Or.inl rfl | exact Or.inr rfl) (pe_bm0 PySem.F.plainAttrs_list PySem.F.slot_list_pop PySem.F.type_list_pop mt_pop (pv 3)))
      (pss_one (ps_if (pt_cmpR op_notIn_seq (pv 5) (pv 2) (by rfl)) (pss_cons (ps_expr (pe_bm PySem.F.plainAttrs_list PySem.F.slot_list_append PySem.F.type_list_append mt_append (pv 2) (pa_cons (pv 5) (pa_nil))))
      (pss_one (ps_set (i := 3) sc__law_reach.nd rfl (by first | exact Or.inl rfl | exact Or.inr rfl) (pe_op op_cat (pv 3) (pe_lc (own := [("one", 6)]) (by rfl) sc__law_reach.nd (pi_tup (pe_slice sl_tup (pe_ix ix_list (pv 0) (pv 5) (fun _ _ => rfl)) (po_some (pe_int)) (po_none))) (blkOk_by (own := [("one", 6)]) (N := ["knots", "tops", "found", "rest", "top", "here", "one"]) (sc := defScope s__law_reach) (by decide +kernel)) (fun _ _ _ _ _ => pg_name (i := 6) sc__law_reach.nd rfl (by first | exact Or.inl rfl | exact Or.inr rfl)) (fun _ _ _ _ _ => pts_one (pt_cmpR op_notNo (pv 6) (pe_non) (nomark _))) (fun _ _ _ _ _ => pv 6)))))) (pss_nil)))))
      (pss_one (ps_ret (pv 2)))))
  · exact pure__law_reach h
set_option maxHeartbeats 8000000 in
theorem ok_Tree__Tree_len (T : Txt K mg D) : FnOk P w K mg base CX0 1 D.f_Tree_len D.d_Tree_len ["self"] (sp_trlen D.c_Tree) := by
  refine T.F_Tree_len.ok sc_Tree_len (fun vs H Q E h => ?_) (fun cdv A outer s H vs Q E hr h => ⟨t_Tree_len K, ?_, ?_⟩)
  · first | (obtain ⟨_, rfl, _⟩ := h; rfl) | (obtain ⟨_, _, rfl, _⟩ := h; rfl) | (obtain ⟨_, _, _, rfl, _⟩ := h; rfl) | (obtain ⟨_, _, _, _, rfl, _⟩ := h; rfl) | (obtain ⟨_, _, _, _, _, rfl, _⟩ := h; rfl) | (obtain ⟨_, _, _, _, _, _, rfl, _⟩ := h; rfl) | (obtain ⟨_, _, _, _, _, _, _, rfl, _⟩ := h; rfl) | (obtain ⟨_, _, _, _, _, _, _, _, rfl, _⟩ := h; rfl) | (obtain ⟨_, _, _, _, _, _, _, _, _, rfl, _⟩ := h; rfl) | (obtain ⟨_, _, _, _, _, _, _, _, _, _, rfl, _⟩ := h; rfl) | (obtain ⟨_, _, _, _, _, _, _, _, _, _, _, rfl, _⟩ := h; rfl) | (obtain ⟨_, _, _, _, _, _, _, _, _, _, _, _, rfl, _⟩ := h; rfl) | (obtain ⟨_, _, _, _, _, _, _, _, _, _, _, _, _, rfl, _⟩ := h; rfl) | (obtain ⟨_, _, _, _, _, _, _, _, _, _, _, _, _, _, rfl, _⟩ := h; rfl) | (obtain ⟨_, _, _, _, _, _, _, _, _, _, _, _, _, _, _, rfl, _⟩ := h; rfl)
  · have hu := hu_of hr
    exact pss_one (ps_ret (pe_callB call_lenK (by rfl) T.m_len PySem.boot_len (pa_cons (pe_fld (pv 0) (by rfl)) (pa_nil))))
  · exact pure_trlen ⟨T.cl_Tree, T.na_Tree_hands, T.na_Tree_knots, T.na_Tree_made, T.na_Tree_root, T.na_Tree_pinned⟩ h
set_option maxHeartbeats 8000000 in
theorem ok_Tree__Tree_sweep (T : Txt K mg D) : FnOk P w K mg base CX0 1 D.f_Tree_sweep D.d_Tree_sweep ["self"] (sp_trsweep D.c_Tree) := by
  refine T.F_Tree_sweep.ok sc_Tree_sweep (fun vs H Q E h => ?_) (fun cdv A outer s H vs Q E hr h => ⟨t_Tree_sweep K, ?_, ?_⟩)
  · first | (obtain ⟨_, rfl, _⟩ := h; rfl) | (obtain ⟨_, _, rfl, _⟩ := h; rfl) | (obtain ⟨_, _, _, rfl, _⟩ := h; rfl) | (obtain ⟨_, _, _, _, rfl, _⟩ := h; rfl) | (obtain ⟨_, _, _, _, _, rfl, _⟩ := h; rfl) | (obtain ⟨_, _, _, _, _, _, rfl, _⟩ := h; rfl) | (obtain ⟨_, _, _, _, _, _, _, rfl, _⟩ := h; rfl) | (obtain ⟨_, _, _, _, _, _, _, _, rfl, _⟩ := h; rfl) | (obtain ⟨_, _, _, _, _, _, _, _, _, rfl, _⟩ := h; rfl) | (obtain ⟨_, _, _, _, _, _, _, _, _, _, rfl, _⟩ := h; rfl) | (obtain ⟨_, _, _, _, _, _, _, _, _, _, _, rfl, _⟩ := h; rfl) | (obtain ⟨_, _, _, _, _, _, _, _, _, _, _, _, rfl, _⟩ := h; rfl) | (obtain ⟨_, _, _, _, _, _, _, _, _, _, _, _, _, rfl, _⟩ := h; rfl) | (obtain ⟨_, _, _, _, _, _, _, _, _, _, _, _, _, _, rfl, _⟩ := h; rfl) | (obtain ⟨_, _, _, _, _, _, _, _, _, _, _, _, _, _, _, rfl, _⟩ := h; rfl)
  · have hu := hu_of hr
    exact pss_cons (ps_set (i := 1) sc_Tree_sweep.nd rfl (by first | exact Or.inl rfl | exact Or.inr rfl) (pe_dnewK))
      (pss_cons (ps_set (i := 2) sc_Tree_sweep.nd rfl (by first | exact Or.inl rfl | exact Or.inr rfl) (pe_op op_cat (pe_lst (pa_cons (pe_fld (pv 0) (by rfl)) (pa_nil))) (pe_listVals rfl (pe_fld (pv 0) (by rfl)) (by rfl) T.m_list (by decide +kernel))))
      (pss_cons (ps_while PassesOwn.never (pt_cmpR (op_neD hr.units) (pv 2) (pe_lst (pa_nil)) (nomark _)) (pss_cons (ps_set (i := 3) sc_Tree_sweep.nd rfl (by first | exact Or.inl rfl | exact Or.inr rfl) (pe_bm0 PySem.F.plainAttrs_list PySem.F.slot_list_pop PySem.F.type_list_pop mt_pop (pv 2)))
      (pss_one (ps_if (PW.pt (pw_and (pt_cmpR op_notNo (pv 3) (pe_non) (nomark _)) (pw_and1 (pt_cmp (pc_dnotin hu (pv 3) (pv 1)) (by rfl))))) (pss_cons (ps_dput hu (pv 1) (pv 3) (pe_bl) (by rfl))
      (pss_one (ps_set (i := 2) sc_Tree_sweep.nd rfl (by first | exact Or.inl rfl | exact Or.inr rfl) (pe_op op_cat (pv 2) (pe_lst (pa_cons (pe_ix ix_tup (pe_dget hu (pe_fld (pv 0) (by rfl)) (pv 3) (fun _ _ => rfl)) (pe_int) (fun _ _ => rfl)) (pa_cons (pe_ix ix_tup (pe_dget hu (pe_fld (pv 0) (by rfl)) (pv 3) (fun _ _ => rfl)) (pe_int) (fun _ _ => rfl)) (pa_nil)))))))) (pss_nil)))))
      (pss_cons (ps_set (i := 4) sc_Tree_sweep.nd rfl (by first | exact Or.inl rfl | exact Or.inr rfl) (pe_op op_subI (pe_callB call_lenK (by rfl) T.m_len PySem.boot_len (pa_cons (pe_fld (pv 0) (by rfl)) (pa_nil))) (pe_callB call_lenK (by rfl) T.m_len PySem.boot_len (pa_cons (pv 1) (pa_nil)))))
      (pss_cons (ps_fld (pv 0) (pe_callTy (call_dictPr rfl) (by rfl) T.m_dict (by decide +kernel) (pa_cons (pe_lock (pe_lc (own := [("name", 5)]) (by rfl) sc_Tree_sweep.nd (pi_keys (pe_fld (pv 0) (by rfl))) (blkOk_by (own := [("name", 5)]) (N := ["self", "seen", "rest", "here", "many", "name"]) (sc := defScope s_Tree_sweep) (by decide +kernel)) (fun _ _ _ _ _ => pg_name (i := 5) sc_Tree_sweep.nd rfl (by first | exact Or.inl rfl | exact Or.inr rfl)) (fun _ _ _ _ _ => pts_one (pt_cmp (pc_din hu (pv 5) (pv 1)) (by rfl))) (fun _ _ _ _ _ => pe_tup (pa_cons (pv 5) (pa_cons (pe_dget hu (pe_fld (pv 0) (by rfl)) (pv 5) (fun _ _ => rfl)) (pa_nil)))))) (pa_nil))) (by rfl))
      (pss_one (ps_ret (pv 4)))))))
  · exact pure_trsweep ⟨T.cl_Tree, T.na_Tree_hands, T.na_Tree_knots, T.na_Tree_made, T.na_Tree_root, T.na_Tree_pinned⟩ h
set_option maxHeartbeats 8000000 in
theorem ok_Tree__Tree_look_in (T : Txt K mg D) : FnOk P w K mg base CX0 3 D.f_Tree_look_in D.d_Tree_look_in ["self", "hand"] (sp_trlook_in D.c_Tree) := by
  have G_Tree__Tree_look_hand : FnOk P w K mg base CX0 2 D.f_Tree_look_hand D.d_Tree_look_hand ["self", "hand"] (sp_trlook_hand D.c_Tree) := ok_Tree__Tree_look_hand T
  refine T.F_Tree_look_in.ok sc_Tree_look_in (fun vs H Q E h => ?_) (fun cdv A outer s H vs Q E hr h => ⟨t_Tree_look_in K D.c_Tree (sp_trlook_hand D.c_Tree), ?_, ?_⟩)
  · first | (obtain ⟨_, rfl, _⟩ := h; rfl) | (obtain ⟨_, _, rfl, _⟩ := h; rfl) | (obtain ⟨_, _, _, rfl, _⟩ := h; rfl) | (obtain ⟨_, _, _, _, rfl, _⟩ := h; rfl) | (obtain ⟨_, _, _, _, _, rfl, _⟩ := h; rfl) | (obtain ⟨_, _, _, _, _, _, rfl, _⟩ := h; rfl) | (obtain ⟨_, _, _, _, _, _, _, rfl, _⟩ := h; rfl) | (obtain ⟨_, _, _, _, _, _, _, _, rfl, _⟩ := h; rfl) | (obtain ⟨_, _, _, _, _, _, _, _, _, rfl, _⟩ := h; rfl) | (obtain ⟨_, _, _, _, _, _, _, _, _, _, rfl, _⟩ := h; rfl) | (obtain ⟨_, _, _, _, _, _, _, _, _, _, _, rfl, _⟩ := h; rfl) | (obtain ⟨_, _, _, _, _, _, _, _, _, _, _, _, rfl, _⟩ := h; rfl) | (obtain ⟨_, _, _, _, _, _, _, _, _, _, _, _, _, rfl, _⟩ := h; rfl) | (obtain ⟨_, _, _, _, _, _, _, _, _, _, _, _, _, _, rfl, _⟩ := h; rfl) | (obtain ⟨_, _, _, _, _, _, _, _, _, _, _, _, _, _, _, rfl, _⟩ := h; rfl)
  · have hu := hu_of hr
    exact pss_cons (ps_expr (pe_meth (pv 0) T.cl_Tree T.me_Tree_look_hand G_Tree__Tree_look_hand (hr.mono (by decide)) T.b_Tree_look_hand .nil pass0 (pa_cons (pv 1) (pa_nil))))
      (pss_one (ps_if (pt_cmp (pc_dnotin hu (pv 1) (pe_fld (pv 0) (by rfl))) (by rfl)) (pss_one (ps_never)) (pss_nil)))
  · exact pure_trlook_in ⟨T.cl_Tree, T.na_Tree_hands, T.na_Tree_knots, T.na_Tree_made, T.na_Tree_root, T.na_Tree_pinned⟩ h
set_option maxHeartbeats 8000000 in
theorem ok_Tree__Tree_finish (T : Txt K mg D) : FnOk P w K mg base CX0 4 D.f_Tree_finish D.d_Tree_finish ["self", "hand"] (sp_trfinish D.c_Tree) := by
  have G_Tree__Tree_look_in : FnOk P w K mg base CX0 3 D.f_Tree_look_in D.d_Tree_look_in ["self", "hand"] (sp_trlook_in D.c_Tree) := ok_Tree__Tree_look_in T
  refine T.F_Tree_finish.ok sc_Tree_finish (fun vs H Q E h => ?_) (fun cdv A outer s H vs Q E hr h => ⟨t_Tree_finish K D.c_Tree (sp_trlook_in D.c_Tree), ?_, ?_⟩)
  · first | (obtain ⟨_, rfl, _⟩ := h; rfl) | (obtain ⟨_, _, rfl, _⟩ := h; rfl) | (obtain ⟨_, _, _, rfl, _⟩ := h; rfl) | (obtain ⟨_, _, _, _, rfl, _⟩ := h; rfl) | (obtain ⟨_, _, _, _, _, rfl, _⟩ := h; rfl) | (obtain ⟨_, _, _, _, _, _, rfl, _⟩ := h; rfl) | (obtain ⟨_, _, _, _, _, _, _, rfl, _⟩ := h; rfl) | (obtain ⟨_, _, _, _, _, _, _, _, rfl, _⟩ := h; rfl) | (obtain ⟨_, _, _, _, _, _, _, _, _, rfl, _⟩ := h; rfl) | (obtain ⟨_, _, _, _, _, _, _, _, _, _, rfl, _⟩ := h; rfl) | (obtain ⟨_, _, _, _, _, _, _, _, _, _, _, rfl, _⟩ := h; rfl) | (obtain ⟨_, _, _, _, _, _, _, _, _, _, _, _, rfl, _⟩ := h; rfl) | (obtain ⟨_, _, _, _, _, _, _, _, _, _, _, _, _, rfl, _⟩ := h; rfl) | (obtain ⟨_, _, _, _, _, _, _, _, _, _, _, _, _, _, rfl, _⟩ := h; rfl) | (obtain ⟨_, _, _, _, _, _, _, _, _, _, _, _, _, _, _, rfl, _⟩ := h; rfl)
  · have hu := hu_of hr
    exact pss_cons (ps_expr (pe_meth (pv 0) T.cl_Tree T.me_Tree_look_in G_Tree__Tree_look_in (hr.mono (by decide)) T.b_Tree_look_in .nil pass0 (pa_cons (pv 1) (pa_nil))))
      (pss_one (ps_expr (pe_dpop1 (pe_fld (pv 0) (by rfl)) (pv 1) ⟨rfl, rfl, rfl, rfl⟩)))
  · exact pure_trfinish ⟨T.cl_Tree, T.na_Tree_hands, T.na_Tree_knots, T.na_Tree_made, T.na_Tree_root, T.na_Tree_pinned⟩ h
set_option maxHeartbeats 8000000 in
theorem ok_law (T : Txt K mg D) : FnOk P w K mg base CX0 5 D.f_law D.d_law ["script"] (sp_law K) := by
  have G__law_town : FnOk P w K mg base CX0 1 D.f__law_town D.d__law_town ["script"] (sp__law_town K) := ok__law_town T
  have G__law_draw : FnOk P w K mg base CX0 1 D.f__law_draw D.d__law_draw ["town", "many"] (sp__law_draw) := ok__law_draw T
  have G_mk_Tree : FnOk P w K mg base CX0 3 D.f_Tree_init D.d_Tree_init ["self", "hands"] (sp_trinit D.c_Tree) := ok_mk_Tree T
  have G__law_pick : FnOk P w K mg base CX0 2 D.f__law_pick D.d__law_pick ["town", "some"] (sp__law_pick) := ok__law_pick T
  have G_Tree__Tree_put : FnOk P w K mg base CX0 3 D.f_Tree_put D.d_Tree_put ["self", "key", "value"] (sp_trput D.c_Tree) := ok_Tree__Tree_put T
  have G__law_plant : FnOk P w K mg base CX0 1 D.f__law_plant D.d__law_plant ["tree", "key"] (sp__law_plant) := ok__law_plant T
  have G_Tree__Tree_begin : FnOk P w K mg base CX0 3 D.f_Tree_begin D.d_Tree_begin ["self", "hand"] (sp_trbegin D.c_Tree) := ok_Tree__Tree_begin T
  have G__law_reach : FnOk P w K mg base CX0 1 D.f__law_reach D.d__law_reach ["knots", "tops"] (sp__law_reach) := ok__law_reach T
  have G_Tree__Tree_len : FnOk P w K mg base CX0 1 D.f_Tree_len D.d_Tree_len ["self"] (sp_trlen D.c_Tree) := ok_Tree__Tree_len T
  have G_Tree__Tree_sweep : FnOk P w K mg base CX0 1 D.f_Tree_sweep D.d_Tree_sweep ["self"] (sp_trsweep D.c_Tree) := ok_Tree__Tree_sweep T
  have G_Tree__Tree_finish : FnOk P w K mg base CX0 4 D.f_Tree_finish D.d_Tree_finish ["self", "hand"] (sp_trfinish D.c_Tree) := ok_Tree__Tree_finish T
  refine T.F_law.ok sc_law (fun vs H Q E h => ?_) (fun cdv A outer s H vs Q E hr h => ⟨t_law K D.c_Tree (sp__law_town K) (sp__law_draw) (sp_trinit D.c_Tree) (sp__law_pick) (sp_trput D.c_Tree) (sp__law_plant) (sp_trbegin D.c_Tree) (sp__law_reach) (sp_trlen D.c_Tree) (sp_trsweep D.c_Tree) (sp_trfinish D.c_Tree), ?_, ?_⟩)
  · first | (obtain ⟨_, rfl, _⟩ := h; rfl) | (obtain ⟨_, _, rfl, _⟩ := h; rfl) | (obtain ⟨_, _, _, rfl, _⟩ := h; rfl) | (obtain ⟨_, _, _, _, rfl, _⟩ := h; rfl) | (obtain ⟨_, _, _, _, _, rfl, _⟩ := h; rfl) | (obtain ⟨_, _, _, _, _, _, rfl, _⟩ := h; rfl) | (obtain ⟨_, _, _, _, _, _, _, rfl, _⟩ := h; rfl) | (obtain ⟨_, _, _, _, _, _, _, _, rfl, _⟩ := h; rfl) | (obtain ⟨_, _, _, _, _, _, _, _, _, rfl, _⟩ := h; rfl) | (obtain ⟨_, _, _, _, _, _, _, _, _, _, rfl, _⟩ := h; rfl) | (obtain ⟨_, _, _, _, _, _, _, _, _, _, _, rfl, _⟩ := h; rfl) | (obtain ⟨_, _, _, _, _, _, _, _, _, _, _, _, rfl, _⟩ := h; rfl) | (obtain ⟨_, _, _, _, _, _, _, _, _, _, _, _, _, rfl, _⟩ := h; rfl) | (obtain ⟨_, _, _, _, _, _, _, _, _, _, _, _, _, _, rfl, _⟩ := h; rfl) | (obtain ⟨_, _, _, _, _, _, _, _, _, _, _, _, _, _, _, rfl, _⟩ := h; rfl)
  · have hu := hu_of hr
    exact pss_cons (ps_set (i := 1) sc_law.nd rfl (by first | exact Or.inl rfl | exact Or.inr rfl) (pe_call G__law_town (hr.mono (by decide)) (by rfl) T.g__law_town T.F__law_town.kp T.b__law_town .nil pass0 (pa_cons (pv 0) (pa_nil))))
      (pss_cons (ps_set (i := 2) sc_law.nd rfl (by first | exact Or.inl rfl | exact Or.inr rfl) (pe_op op_addI (pe_int) (pe_call G__law_draw (hr.mono (by decide)) (by rfl) T.g__law_draw T.F__law_draw.kp T.b__law_draw .nil pass0 (pa_cons (pv 1) (pa_cons (pe_int) (pa_nil))))))
      (pss_cons (ps_set (i := 3) sc_law.nd rfl (by first | exact Or.inl rfl | exact Or.inr rfl) (pe_make T.mk_Tree G_mk_Tree (hr.mono (by decide)) (by rfl) T.g_Tree T.b_Tree_init .nil pass0 (pa_cons (pv 2) (pa_nil))))
      (pss_cons (ps_set (i := 4) sc_law.nd rfl (by first | exact Or.inl rfl | exact Or.inr rfl) (pe_tup (pa_cons (pe_lst (pa_nil)) (pa_cons (pe_lst (pa_nil)) (pa_cons (pe_non) (pa_nil))))))
      (pss_cons (ps_set (i := 5) sc_law.nd rfl (by first | exact Or.inl rfl | exact Or.inr rfl) (pe_dnewK))
      (pss_cons (ps_for PassesOwn.never rfl (pi_range1 (by rfl) T.m_range (pa_cons (pe_int) (pa_nil))) (pg_name (i := 6) sc_law.nd rfl (by first | exact Or.inl rfl | exact Or.inr rfl)) (pss_cons (ps_set (i := 7) sc_law.nd rfl (by first | exact Or.inl rfl | exact Or.inr rfl) (pe_call G__law_pick (hr.mono (by decide)) (by rfl) T.g__law_pick T.F__law_pick.kp T.b__law_pick .nil pass0 (pa_cons (pv 1) (pa_cons (pe_lst (pa_cons (pe_call G__law_draw (hr.mono (by decide)) (by rfl) T.g__law_draw T.F__law_draw.kp T.b__law_draw .nil pass0 (pa_cons (pv 1) (pa_cons (pe_int) (pa_nil)))) (pa_cons (pe_op op_mulI (pe_int) (pe_call G__law_draw (hr.mono (by decide)) (by rfl) T.g__law_draw T.F__law_draw.kp T.b__law_draw .nil pass0 (pa_cons (pv 1) (pa_cons (pe_int) (pa_nil))))) (pa_nil)))) (pa_nil)))))
      (pss_cons (ps_expr (pe_meth (pv 3) T.cl_Tree T.me_Tree_put G_Tree__Tree_put (hr.mono (by decide)) T.b_Tree_put .nil pass0 (pa_cons (pv 7) (pa_cons (pv 6) (pa_nil)))))
      (pss_cons (ps_set (i := 4) sc_law.nd rfl (by first | exact Or.inl rfl | exact Or.inr rfl) (pe_call G__law_plant (hr.mono (by decide)) (by rfl) T.g__law_plant T.F__law_plant.kp T.b__law_plant .nil pass0 (pa_cons (pv 4) (pa_cons (pv 7) (pa_nil)))))
      (pss_cons (ps_set (i := 8) sc_law.nd rfl (by first | exact Or.inl rfl | exact Or.inr rfl) (pe_call G__law_draw (hr.mono (by decide)) (by rfl) T.g__law_draw T.F__law_draw.kp T.b__law_draw .nil pass0 (pa_cons (pv 1) (pa_cons (pv 2) (pa_nil)))))
      (pss_one (ps_if (PW.pt (pw_and (pt_cmpR op_eq (pe_call G__law_draw (hr.mono (by decide)) (by rfl) T.g__law_draw T.F__law_draw.kp T.b__law_draw .nil pass0 (pa_cons (pv 1) (pa_cons (pe_int) (pa_nil)))) (pe_int) (nomark _)) (pw_and1 (pt_cmp (pc_dnotin hu (pv 8) (pv 5)) (by rfl))))) (pss_cons (ps_expr (pe_meth (pv 3) T.cl_Tree T.me_Tree_begin G_Tree__Tree_begin (hr.mono (by decide)) T.b_Tree_begin .nil pass0 (pa_cons (pv 8) (pa_nil))))
      (pss_one (ps_dput hu (pv 5) (pv 8) (pe_ix ix_tup (pv 4) (pe_int) (fun _ _ => rfl)) (by rfl)))) (pss_nil))))))))
      (pss_cons (ps_set (i := 9) sc_law.nd rfl (by first | exact Or.inl rfl | exact Or.inr rfl) (pe_callB call_lenQ (by rfl) T.m_len PySem.boot_len (pa_cons (pe_ix ix_tup (pv 4) (pe_int) (fun _ _ => rfl)) (pa_nil))))
      (pss_cons (ps_for PassesOwn.never rfl (pi_list (pe_op op_cat (pe_callB (call_sortD rfl) (by rfl) T.m_sorted (by decide +kernel) (pa_cons (pv 5) (pa_nil))) (pe_lst (pa_cons (pe_non) (pa_nil))))) (pg_name (i := 8) sc_law.nd rfl (by first | exact Or.inl rfl | exact Or.inr rfl)) (pss_cons (ps_set (i := 10) sc_law.nd rfl (by first | exact Or.inl rfl | exact Or.inr rfl) (pe_callB call_lenQ (by rfl) T.m_len PySem.boot_len (pa_cons (pe_call G__law_reach (hr.mono (by decide)) (by rfl) T.g__law_reach T.F__law_reach.kp T.b__law_reach .nil pass0 (pa_cons (pe_ix ix_tup (pv 4) (pe_int) (fun _ _ => rfl)) (pa_cons (pe_op op_cat (pe_lock (pe_lc (own := [("one", 11)]) (by rfl) sc_law.nd (pi_keys (pv 5)) (blkOk_by (own := [("one", 11)]) (N := ["script", "town", "hands", "tree", "own", "tops", "turn", "key", "hand", "before", "due", "one"]) (sc := defScope s_law) (by decide +kernel)) (fun _ _ _ _ _ => pg_name (i := 11) sc_law.nd rfl (by first | exact Or.inl rfl | exact Or.inr rfl)) (fun _ _ _ _ _ => pts_nil) (fun _ _ _ _ _ => pe_dget hu (pv 5) (pv 11) (fun _ _ => rfl)))) (pe_lst (pa_cons (pe_ix ix_tup (pv 4) (pe_int) (fun _ _ => rfl)) (pa_nil)))) (pa_nil)))) (pa_nil))))
      (pss_cons (ps_if (PW.pt (pw_or (pt_cmpR op_ne (pe_callB (call_lenO G_Tree__Tree_len (hr.mono (by decide)) T.me_Tree___len__ T.b_Tree_len pass0) (by rfl) T.m_len PySem.boot_len (pa_cons (pv 3) (pa_nil))) (pv 9) (nomark _)) (pw_or (pt_cmpR op_ne (pe_meth0 (pv 3) T.cl_Tree T.me_Tree_sweep G_Tree__Tree_sweep (hr.mono (by decide)) T.b_Tree_sweep .nil pass0) (pe_op op_subI (pv 9) (pv 10)) (nomark _)) (pw_or1 (pt_cmpR op_ne (pe_callB (call_lenO G_Tree__Tree_len (hr.mono (by decide)) T.me_Tree___len__ T.b_Tree_len pass0) (by rfl) T.m_len PySem.boot_len (pa_cons (pv 3) (pa_nil))) (pv 10) (nomark _)))))) (pss_one (ps_ret (pe_bl))) (pss_nil))
      (pss_cons (ps_set (i := 9) sc_law.nd rfl (by first | exact Or.inl rfl | exact Or.inr rfl) (pv 10))
      (pss_one (ps_if (pt_cmpR op_notNo (pv 8) (pe_non) (nomark _)) (pss_cons (ps_expr (pe_meth (pv 3) T.cl_Tree T.me_Tree_finish G_Tree__Tree_finish (hr.mono (by decide)) T.b_Tree_finish .nil pass0 (pa_cons (pv 8) (pa_nil))))
      (pss_one (ps_expr (pe_dpop1 (pv 5) (pv 8) ⟨rfl, rfl, rfl, rfl⟩)))) (pss_nil)))))))
      (pss_one (ps_ret (pe_cmpR (op_eqE (Nat.lt_of_le_of_lt (Nat.le_add_right _ 64) hr.units)) (pv 5) (pe_dnewK) (nomark _)))))))))))
  · exact pure_law h
end
theorem all_mk {l : PySem.W.OpenLaw} {w : World} {K : PySem.W.Frag} {h : Heap} {mg : Str → Option Value} {fa c_Tree f__law_town f__law_draw f_is_whole f_look_number f_Tree_init f__law_pick f_Tree_way_to f_Tree_new_knot f_Tree_rebuilt f_Tree_put f__law_plant f_Tree_look_hand f_Tree_begin f__law_reach f_Tree_len f_Tree_sweep f_Tree_look_in f_Tree_finish f_law : Addr} (X : K.In h) (G : h.Ns mainGlobals mg) (hfa : mg "law" = some (.ref fa))
    {od__law_town an__law_town od__law_draw an__law_draw od_is_whole an_is_whole od_look_number an_look_number od_Tree_init an_Tree_init od__law_pick an__law_pick od_Tree_way_to an_Tree_way_to od_Tree_new_knot an_Tree_new_knot od_Tree_rebuilt an_Tree_rebuilt od_Tree_put an_Tree_put od__law_plant an__law_plant od_Tree_look_hand an_Tree_look_hand od_Tree_begin an_Tree_begin od__law_reach an__law_reach od_Tree_len an_Tree_len od_Tree_sweep an_Tree_sweep od_Tree_look_in an_Tree_look_in od_Tree_finish an_Tree_finish od_law an_law : Option Addr} {sl__law_town sl__law_draw sl_is_whole sl_look_number sl_Tree_init sl__law_pick sl_Tree_way_to sl_Tree_new_knot sl_Tree_rebuilt sl_Tree_put sl__law_plant sl_Tree_look_hand sl_Tree_begin sl__law_reach sl_Tree_len sl_Tree_sweep sl_Tree_look_in sl_Tree_finish sl_law : Array (Option Value)} {oc__law_town kV__law_town dc__law_town pm__law_town cd__law_town ct__law_town oc__law_draw kV__law_draw dc__law_draw pm__law_draw cd__law_draw ct__law_draw oc_is_whole kV_is_whole dc_is_whole pm_is_whole cd_is_whole ct_is_whole oc_look_number kV_look_number dc_look_number pm_look_number cd_look_number ct_look_number oc_Tree_init kV_Tree_init dc_Tree_init pm_Tree_init cd_Tree_init ct_Tree_init oc__law_pick kV__law_pick dc__law_pick pm__law_pick cd__law_pick ct__law_pick oc_Tree_way_to kV_Tree_way_to dc_Tree_way_to pm_Tree_way_to cd_Tree_way_to ct_Tree_way_to oc_Tree_new_knot kV_Tree_new_knot dc_Tree_new_knot pm_Tree_new_knot cd_Tree_new_knot ct_Tree_new_knot oc_Tree_rebuilt kV_Tree_rebuilt dc_Tree_rebuilt pm_Tree_rebuilt cd_Tree_rebuilt ct_Tree_rebuilt oc_Tree_put kV_Tree_put dc_Tree_put pm_Tree_put cd_Tree_put ct_Tree_put oc__law_plant kV__law_plant dc__law_plant pm__law_plant cd__law_plant ct__law_plant oc_Tree_look_hand kV_Tree_look_hand dc_Tree_look_hand pm_Tree_look_hand cd_Tree_look_hand ct_Tree_look_hand oc_Tree_begin kV_Tree_begin dc_Tree_begin pm_Tree_begin cd_Tree_begin ct_Tree_begin oc__law_reach kV__law_reach dc__law_reach pm__law_reach cd__law_reach ct__law_reach oc_Tree_len kV_Tree_len dc_Tree_len pm_Tree_len cd_Tree_len ct_Tree_len oc_Tree_sweep kV_Tree_sweep dc_Tree_sweep pm_Tree_sweep cd_Tree_sweep ct_Tree_sweep oc_Tree_look_in kV_Tree_look_in dc_Tree_look_in pm_Tree_look_in cd_Tree_look_in ct_Tree_look_in oc_Tree_finish kV_Tree_finish dc_Tree_finish pm_Tree_finish cd_Tree_finish ct_Tree_finish oc_law kV_law dc_law pm_law cd_law ct_law : Value}
    {t_MOST_HANDS t_MOST_KEY t_MOST_VALUE : Tok}
    (aC_Tree : PySem.W.nsIn K mainGlobals "Tree" = some (some (.ref c_Tree)))
    (pg_Tree : PySem.W.plainGet K c_Tree Str.empty = true)
    (hd_Tree : PySem.W.hasDictIn K c_Tree = true)
    (po_Tree : PySem.W.plainOver K c_Tree = true)
    (sa_Tree : PySem.W.findIn K (.ref c_Tree) "__setattr__" = some (some (.builtin "object.__setattr__")))
    (mk_Tree : PySem.W.makesIn K c_Tree = true)
    (kc_Tree : PySem.W.keepIn K (.ref c_Tree) = true)
    (ai_Tree : PySem.W.findIn K (.ref c_Tree) "__init__" = some (some (.ref f_Tree_init)))
    (ii_Tree : PySem.W.isFn K (.ref f_Tree_init) = true)
    (na_Tree_hands : PySem.W.findIn K (.ref c_Tree) "hands" = some none)
    (na_Tree_knots : PySem.W.findIn K (.ref c_Tree) "knots" = some none)
    (na_Tree_made : PySem.W.findIn K (.ref c_Tree) "made" = some none)
    (na_Tree_root : PySem.W.findIn K (.ref c_Tree) "root" = some none)
    (na_Tree_pinned : PySem.W.findIn K (.ref c_Tree) "pinned" = some none)
    (am_Tree_way_to : PySem.W.findIn K (.ref c_Tree) "way_to" = some (some (.ref f_Tree_way_to)))
    (am_Tree_new_knot : PySem.W.findIn K (.ref c_Tree) "new_knot" = some (some (.ref f_Tree_new_knot)))
    (am_Tree_rebuilt : PySem.W.findIn K (.ref c_Tree) "rebuilt" = some (some (.ref f_Tree_rebuilt)))
    (am_Tree_put : PySem.W.findIn K (.ref c_Tree) "put" = some (some (.ref f_Tree_put)))
    (am_Tree_look_hand : PySem.W.findIn K (.ref c_Tree) "look_hand" = some (some (.ref f_Tree_look_hand)))
    (am_Tree_begin : PySem.W.findIn K (.ref c_Tree) "begin" = some (some (.ref f_Tree_begin)))
    (am_Tree___len__ : PySem.W.findIn K (.ref c_Tree) "__len__" = some (some (.ref f_Tree_len)))
    (am_Tree_sweep : PySem.W.findIn K (.ref c_Tree) "sweep" = some (some (.ref f_Tree_sweep)))
    (am_Tree_look_in : PySem.W.findIn K (.ref c_Tree) "look_in" = some (some (.ref f_Tree_look_in)))
    (am_Tree_finish : PySem.W.findIn K (.ref c_Tree) "finish" = some (some (.ref f_Tree_finish)))
    (im_Tree_way_to : PySem.W.isFn K (.ref f_Tree_way_to) = true)
    (im_Tree_new_knot : PySem.W.isFn K (.ref f_Tree_new_knot) = true)
    (im_Tree_rebuilt : PySem.W.isFn K (.ref f_Tree_rebuilt) = true)
    (im_Tree_put : PySem.W.isFn K (.ref f_Tree_put) = true)
    (im_Tree_look_hand : PySem.W.isFn K (.ref f_Tree_look_hand) = true)
    (im_Tree_begin : PySem.W.isFn K (.ref f_Tree_begin) = true)
    (im_Tree_len : PySem.W.isFn K (.ref f_Tree_len) = true)
    (im_Tree_sweep : PySem.W.isFn K (.ref f_Tree_sweep) = true)
    (im_Tree_look_in : PySem.W.isFn K (.ref f_Tree_look_in) = true)
    (im_Tree_finish : PySem.W.isFn K (.ref f_Tree_finish) = true)
    (a__law_town : PySem.W.nsIn K mainGlobals "_law_town" = some (some (.ref f__law_town)))
    (l__law_town : K.lookup f__law_town = some ⟨oc__law_town, od__law_town, .func (PySem.W.fnOf "_law_town" "_law_town" (defArgs s__law_town) (defBody s__law_town) (defScope s__law_town) .none kV__law_town dc__law_town pm__law_town an__law_town cd__law_town ct__law_town), sl__law_town⟩)
    (c__law_town : PySem.W.codeIn K cd__law_town "_law_town" = true)
    (k__law_town : PySem.W.keepIn K (.ref f__law_town) = true)
    (a__law_draw : PySem.W.nsIn K mainGlobals "_law_draw" = some (some (.ref f__law_draw)))
    (l__law_draw : K.lookup f__law_draw = some ⟨oc__law_draw, od__law_draw, .func (PySem.W.fnOf "_law_draw" "_law_draw" (defArgs s__law_draw) (defBody s__law_draw) (defScope s__law_draw) .none kV__law_draw dc__law_draw pm__law_draw an__law_draw cd__law_draw ct__law_draw), sl__law_draw⟩)
    (c__law_draw : PySem.W.codeIn K cd__law_draw "_law_draw" = true)
    (k__law_draw : PySem.W.keepIn K (.ref f__law_draw) = true)
    (a_is_whole : PySem.W.nsIn K mainGlobals "is_whole" = some (some (.ref f_is_whole)))
    (l_is_whole : K.lookup f_is_whole = some ⟨oc_is_whole, od_is_whole, .func (PySem.W.fnOf "is_whole" "is_whole" (defArgs s_is_whole) (defBody s_is_whole) (defScope s_is_whole) .none kV_is_whole dc_is_whole pm_is_whole an_is_whole cd_is_whole ct_is_whole), sl_is_whole⟩)
    (c_is_whole : PySem.W.codeIn K cd_is_whole "is_whole" = true)
    (k_is_whole : PySem.W.keepIn K (.ref f_is_whole) = true)
    (a_look_number : PySem.W.nsIn K mainGlobals "look_number" = some (some (.ref f_look_number)))
    (l_look_number : K.lookup f_look_number = some ⟨oc_look_number, od_look_number, .func (PySem.W.fnOf "look_number" "look_number" (defArgs s_look_number) (defBody s_look_number) (defScope s_look_number) .none kV_look_number dc_look_number pm_look_number an_look_number cd_look_number ct_look_number), sl_look_number⟩)
    (c_look_number : PySem.W.codeIn K cd_look_number "look_number" = true)
    (k_look_number : PySem.W.keepIn K (.ref f_look_number) = true)
    (l_Tree_init : K.lookup f_Tree_init = some ⟨oc_Tree_init, od_Tree_init, .func (PySem.W.fnOf "__init__" "Tree.__init__" (defArgs s_Tree_init) (defBody s_Tree_init) (defScope s_Tree_init) .none kV_Tree_init dc_Tree_init pm_Tree_init an_Tree_init cd_Tree_init ct_Tree_init), sl_Tree_init⟩)
    (c_Tree_init : PySem.W.codeIn K cd_Tree_init "Tree.__init__" = true)
    (k_Tree_init : PySem.W.keepIn K (.ref f_Tree_init) = true)
    (a__law_pick : PySem.W.nsIn K mainGlobals "_law_pick" = some (some (.ref f__law_pick)))
    (l__law_pick : K.lookup f__law_pick = some ⟨oc__law_pick, od__law_pick, .func (PySem.W.fnOf "_law_pick" "_law_pick" (defArgs s__law_pick) (defBody s__law_pick) (defScope s__law_pick) .none kV__law_pick dc__law_pick pm__law_pick an__law_pick cd__law_pick ct__law_pick), sl__law_pick⟩)
    (c__law_pick : PySem.W.codeIn K cd__law_pick "_law_pick" = true)
    (k__law_pick : PySem.W.keepIn K (.ref f__law_pick) = true)
    (l_Tree_way_to : K.lookup f_Tree_way_to = some ⟨oc_Tree_way_to, od_Tree_way_to, .func (PySem.W.fnOf "way_to" "Tree.way_to" (defArgs s_Tree_way_to) (defBody s_Tree_way_to) (defScope s_Tree_way_to) .none kV_Tree_way_to dc_Tree_way_to pm_Tree_way_to an_Tree_way_to cd_Tree_way_to ct_Tree_way_to), sl_Tree_way_to⟩)
    (c_Tree_way_to : PySem.W.codeIn K cd_Tree_way_to "Tree.way_to" = true)
    (k_Tree_way_to : PySem.W.keepIn K (.ref f_Tree_way_to) = true)
    (l_Tree_new_knot : K.lookup f_Tree_new_knot = some ⟨oc_Tree_new_knot, od_Tree_new_knot, .func (PySem.W.fnOf "new_knot" "Tree.new_knot" (defArgs s_Tree_new_knot) (defBody s_Tree_new_knot) (defScope s_Tree_new_knot) .none kV_Tree_new_knot dc_Tree_new_knot pm_Tree_new_knot an_Tree_new_knot cd_Tree_new_knot ct_Tree_new_knot), sl_Tree_new_knot⟩)
    (c_Tree_new_knot : PySem.W.codeIn K cd_Tree_new_knot "Tree.new_knot" = true)
    (k_Tree_new_knot : PySem.W.keepIn K (.ref f_Tree_new_knot) = true)
    (l_Tree_rebuilt : K.lookup f_Tree_rebuilt = some ⟨oc_Tree_rebuilt, od_Tree_rebuilt, .func (PySem.W.fnOf "rebuilt" "Tree.rebuilt" (defArgs s_Tree_rebuilt) (defBody s_Tree_rebuilt) (defScope s_Tree_rebuilt) .none kV_Tree_rebuilt dc_Tree_rebuilt pm_Tree_rebuilt an_Tree_rebuilt cd_Tree_rebuilt ct_Tree_rebuilt), sl_Tree_rebuilt⟩)
    (c_Tree_rebuilt : PySem.W.codeIn K cd_Tree_rebuilt "Tree.rebuilt" = true)
    (k_Tree_rebuilt : PySem.W.keepIn K (.ref f_Tree_rebuilt) = true)
    (l_Tree_put : K.lookup f_Tree_put = some ⟨oc_Tree_put, od_Tree_put, .func (PySem.W.fnOf "put" "Tree.put" (defArgs s_Tree_put) (defBody s_Tree_put) (defScope s_Tree_put) .none kV_Tree_put dc_Tree_put pm_Tree_put an_Tree_put cd_Tree_put ct_Tree_put), sl_Tree_put⟩)
    (c_Tree_put : PySem.W.codeIn K cd_Tree_put "Tree.put" = true)
    (k_Tree_put : PySem.W.keepIn K (.ref f_Tree_put) = true)
    (a__law_plant : PySem.W.nsIn K mainGlobals "_law_plant" = some (some (.ref f__law_plant)))
    (l__law_plant : K.lookup f__law_plant = some ⟨oc__law_plant, od__law_plant, .func (PySem.W.fnOf "_law_plant" "_law_plant" (defArgs s__law_plant) (defBody s__law_plant) (defScope s__law_plant) .none kV__law_plant dc__law_plant pm__law_plant an__law_plant cd__law_plant ct__law_plant), sl__law_plant⟩)
    (c__law_plant : PySem.W.codeIn K cd__law_plant "_law_plant" = true)
    (k__law_plant : PySem.W.keepIn K (.ref f__law_plant) = true)
    (l_Tree_look_hand : K.lookup f_Tree_look_hand = some ⟨oc_Tree_look_hand, od_Tree_look_hand, .func (PySem.W.fnOf "look_hand" "Tree.look_hand" (defArgs s_Tree_look_hand) (defBody s_Tree_look_hand) (defScope s_Tree_look_hand) .none kV_Tree_look_hand dc_Tree_look_hand pm_Tree_look_hand an_Tree_look_hand cd_Tree_look_hand ct_Tree_look_hand), sl_Tree_look_hand⟩)
    (c_Tree_look_hand : PySem.W.codeIn K cd_Tree_look_hand "Tree.look_hand" = true)
    (k_Tree_look_hand : PySem.W.keepIn K (.ref f_Tree_look_hand) = true)
    (l_Tree_begin : K.lookup f_Tree_begin = some ⟨oc_Tree_begin, od_Tree_begin, .func (PySem.W.fnOf "begin" "Tree.begin" (defArgs s_Tree_begin) (defBody s_Tree_begin) (defScope s_Tree_begin) .none kV_Tree_begin dc_Tree_begin pm_Tree_begin an_Tree_begin cd_Tree_begin ct_Tree_begin), sl_Tree_begin⟩)
    (c_Tree_begin : PySem.W.codeIn K cd_Tree_begin "Tree.begin" = true)
    (k_Tree_begin : PySem.W.keepIn K (.ref f_Tree_begin) = true)
    (a__law_reach : PySem.W.nsIn K mainGlobals "_law_reach" = some (some (.ref f__law_reach)))
    (l__law_reach : K.lookup f__law_reach = some ⟨oc__law_reach, od__law_reach, .func (PySem.W.fnOf "_law_reach" "_law_reach" (defArgs s__law_reach) (defBody s__law_reach) (defScope s__law_reach) .none kV__law_reach dc__law_reach pm__law_reach an__law_reach cd__law_reach ct__law_reach), sl__law_reach⟩)
    (c__law_reach : PySem.W.codeIn K cd__law_reach "_law_reach" = true)
    (k__law_reach : PySem.W.keepIn K (.ref f__law_reach) = true)
    (l_Tree_len : K.lookup f_Tree_len = some ⟨oc_Tree_len, od_Tree_len, .func (PySem.W.fnOf "__len__" "Tree.__len__" (defArgs s_Tree_len) (defBody s_Tree_len) (defScope s_Tree_len) .none kV_Tree_len dc_Tree_len pm_Tree_len an_Tree_len cd_Tree_len ct_Tree_len), sl_Tree_len⟩)
    (c_Tree_len : PySem.W.codeIn K cd_Tree_len "Tree.__len__" = true)
    (k_Tree_len : PySem.W.keepIn K (.ref f_Tree_len) = true)
    (l_Tree_sweep : K.lookup f_Tree_sweep = some ⟨oc_Tree_sweep, od_Tree_sweep, .func (PySem.W.fnOf "sweep" "Tree.sweep" (defArgs s_Tree_sweep) (defBody s_Tree_sweep) (defScope s_Tree_sweep) .none kV_Tree_sweep dc_Tree_sweep pm_Tree_sweep an_Tree_sweep cd_Tree_sweep ct_Tree_sweep), sl_Tree_sweep⟩)
    (c_Tree_sweep : PySem.W.codeIn K cd_Tree_sweep "Tree.sweep" = true)
    (k_Tree_sweep : PySem.W.keepIn K (.ref f_Tree_sweep) = true)
    (l_Tree_look_in : K.lookup f_Tree_look_in = some ⟨oc_Tree_look_in, od_Tree_look_in, .func (PySem.W.fnOf "look_in" "Tree.look_in" (defArgs s_Tree_look_in) (defBody s_Tree_look_in) (defScope s_Tree_look_in) .none kV_Tree_look_in dc_Tree_look_in pm_Tree_look_in an_Tree_look_in cd_Tree_look_in ct_Tree_look_in), sl_Tree_look_in⟩)
    (c_Tree_look_in : PySem.W.codeIn K cd_Tree_look_in "Tree.look_in" = true)
    (k_Tree_look_in : PySem.W.keepIn K (.ref f_Tree_look_in) = true)
    (l_Tree_finish : K.lookup f_Tree_finish = some ⟨oc_Tree_finish, od_Tree_finish, .func (PySem.W.fnOf "finish" "Tree.finish" (defArgs s_Tree_finish) (defBody s_Tree_finish) (defScope s_Tree_finish) .none kV_Tree_finish dc_Tree_finish pm_Tree_finish an_Tree_finish cd_Tree_finish ct_Tree_finish), sl_Tree_finish⟩)
    (c_Tree_finish : PySem.W.codeIn K cd_Tree_finish "Tree.finish" = true)
    (k_Tree_finish : PySem.W.keepIn K (.ref f_Tree_finish) = true)
    (a_law : PySem.W.nsIn K mainGlobals "law" = some (some (.ref f_law)))
    (l_law : K.lookup f_law = some ⟨oc_law, od_law, .func (PySem.W.fnOf "law" "law" (defArgs s_law) (defBody s_law) (defScope s_law) .none kV_law dc_law pm_law an_law cd_law ct_law), sl_law⟩)
    (c_law : PySem.W.codeIn K cd_law "law" = true)
    (k_law : PySem.W.keepIn K (.ref f_law) = true)
    (z_bool : PySem.W.nsIn K mainGlobals "bool" = some none)
    (z_dict : PySem.W.nsIn K mainGlobals "dict" = some none)
    (z_int : PySem.W.nsIn K mainGlobals "int" = some none)
    (z_isinstance : PySem.W.nsIn K mainGlobals "isinstance" = some none)
    (z_len : PySem.W.nsIn K mainGlobals "len" = some none)
    (z_list : PySem.W.nsIn K mainGlobals "list" = some none)
    (z_range : PySem.W.nsIn K mainGlobals "range" = some none)
    (z_sorted : PySem.W.nsIn K mainGlobals "sorted" = some none)
    (zk_MOST_HANDS : PySem.W.nsIn K mainGlobals "MOST_HANDS" = some (some (.int (6) t_MOST_HANDS)))
    (zk_MOST_KEY : PySem.W.nsIn K mainGlobals "MOST_KEY" = some (some (.int (999) t_MOST_KEY)))
    (zk_MOST_VALUE : PySem.W.nsIn K mainGlobals "MOST_VALUE" = some (some (.int (999) t_MOST_VALUE))) :
    ∃ fd : FuncData, (∀ (s : Shared) (v : Value), BindsTo s fd ⟨[v], []⟩ [("script", v)]) ∧ ∀ base : Heap, K.In base → base.Ns mainGlobals mg → FnOk l.prog w K mg base CX0 5 fa fd ["script"] (sp_law K) := by
  have e := hfa.symm.trans (PySem.W.mg_of X G a_law)
  cases e
  have F__law_town := fun_mk (st := s__law_town) l__law_town c__law_town k__law_town
  have F__law_draw := fun_mk (st := s__law_draw) l__law_draw c__law_draw k__law_draw
  have F_is_whole := fun_mk (st := s_is_whole) l_is_whole c_is_whole k_is_whole
  have F_look_number := fun_mk (st := s_look_number) l_look_number c_look_number k_look_number
  have F_Tree_init := fun_mk (st := s_Tree_init) l_Tree_init c_Tree_init k_Tree_init
  have F__law_pick := fun_mk (st := s__law_pick) l__law_pick c__law_pick k__law_pick
  have F_Tree_way_to := fun_mk (st := s_Tree_way_to) l_Tree_way_to c_Tree_way_to k_Tree_way_to
  have F_Tree_new_knot := fun_mk (st := s_Tree_new_knot) l_Tree_new_knot c_Tree_new_knot k_Tree_new_knot
  have F_Tree_rebuilt := fun_mk (st := s_Tree_rebuilt) l_Tree_rebuilt c_Tree_rebuilt k_Tree_rebuilt
  have F_Tree_put := fun_mk (st := s_Tree_put) l_Tree_put c_Tree_put k_Tree_put
  have F__law_plant := fun_mk (st := s__law_plant) l__law_plant c__law_plant k__law_plant
  have F_Tree_look_hand := fun_mk (st := s_Tree_look_hand) l_Tree_look_hand c_Tree_look_hand k_Tree_look_hand
  have F_Tree_begin := fun_mk (st := s_Tree_begin) l_Tree_begin c_Tree_begin k_Tree_begin
  have F__law_reach := fun_mk (st := s__law_reach) l__law_reach c__law_reach k__law_reach
  have F_Tree_len := fun_mk (st := s_Tree_len) l_Tree_len c_Tree_len k_Tree_len
  have F_Tree_sweep := fun_mk (st := s_Tree_sweep) l_Tree_sweep c_Tree_sweep k_Tree_sweep
  have F_Tree_look_in := fun_mk (st := s_Tree_look_in) l_Tree_look_in c_Tree_look_in k_Tree_look_in
  have F_Tree_finish := fun_mk (st := s_Tree_finish) l_Tree_finish c_Tree_finish k_Tree_finish
  have F_law := fun_mk (st := s_law) l_law c_law k_law
  have b__law_town := F__law_town.binds (ps := ["script"]) fun _ _ _ _ _ _ us hl => match us, hl with | [_], _ => rfl
  have b__law_draw := F__law_draw.binds (ps := ["town", "many"]) fun _ _ _ _ _ _ us hl => match us, hl with | [_, _], _ => rfl
  have b_is_whole := F_is_whole.binds (ps := ["thing", "low", "high"]) fun _ _ _ _ _ _ us hl => match us, hl with | [_, _, _], _ => rfl
  have b_look_number := F_look_number.binds (ps := ["thing", "low", "high"]) fun _ _ _ _ _ _ us hl => match us, hl with | [_, _, _], _ => rfl
  have b_Tree_init := F_Tree_init.binds (ps := ["self", "hands"]) fun _ _ _ _ _ _ us hl => match us, hl with | [_, _], _ => rfl
  have b__law_pick := F__law_pick.binds (ps := ["town", "some"]) fun _ _ _ _ _ _ us hl => match us, hl with | [_, _], _ => rfl
  have b_Tree_way_to := F_Tree_way_to.binds (ps := ["self", "root", "key"]) fun _ _ _ _ _ _ us hl => match us, hl with | [_, _, _], _ => rfl
  have b_Tree_new_knot := F_Tree_new_knot.binds (ps := ["self", "key", "value", "low", "high"]) fun _ _ _ _ _ _ us hl => match us, hl with | [_, _, _, _, _], _ => rfl
  have b_Tree_rebuilt := F_Tree_rebuilt.binds (ps := ["self", "names", "key", "below"]) fun _ _ _ _ _ _ us hl => match us, hl with | [_, _, _, _], _ => rfl
  have b_Tree_put := F_Tree_put.binds (ps := ["self", "key", "value"]) fun _ _ _ _ _ _ us hl => match us, hl with | [_, _, _], _ => rfl
  have b__law_plant := F__law_plant.binds (ps := ["tree", "key"]) fun _ _ _ _ _ _ us hl => match us, hl with | [_, _], _ => rfl
  have b_Tree_look_hand := F_Tree_look_hand.binds (ps := ["self", "hand"]) fun _ _ _ _ _ _ us hl => match us, hl with | [_, _], _ => rfl
  have b_Tree_begin := F_Tree_begin.binds (ps := ["self", "hand"]) fun _ _ _ _ _ _ us hl => match us, hl with | [_, _], _ => rfl
  have b__law_reach := F__law_reach.binds (ps := ["knots", "tops"]) fun _ _ _ _ _ _ us hl => match us, hl with | [_, _], _ => rfl
  have b_Tree_len := F_Tree_len.binds (ps := ["self"]) fun _ _ _ _ _ _ us hl => match us, hl with | [_], _ => rfl
  have b_Tree_sweep := F_Tree_sweep.binds (ps := ["self"]) fun _ _ _ _ _ _ us hl => match us, hl with | [_], _ => rfl
  have b_Tree_look_in := F_Tree_look_in.binds (ps := ["self", "hand"]) fun _ _ _ _ _ _ us hl => match us, hl with | [_, _], _ => rfl
  have b_Tree_finish := F_Tree_finish.binds (ps := ["self", "hand"]) fun _ _ _ _ _ _ us hl => match us, hl with | [_, _], _ => rfl
  have b_law := F_law.binds (ps := ["script"]) fun _ _ _ _ _ _ us hl => match us, hl with | [_], _ => rfl
  let D : Adr := { c_Tree := c_Tree, f__law_town := f__law_town, d__law_town := PySem.W.fnOf "_law_town" "_law_town" (defArgs s__law_town) (defBody s__law_town) (defScope s__law_town) .none kV__law_town dc__law_town pm__law_town an__law_town cd__law_town ct__law_town, f__law_draw := f__law_draw, d__law_draw := PySem.W.fnOf "_law_draw" "_law_draw" (defArgs s__law_draw) (defBody s__law_draw) (defScope s__law_draw) .none kV__law_draw dc__law_draw pm__law_draw an__law_draw cd__law_draw ct__law_draw, f_is_whole := f_is_whole, d_is_whole := PySem.W.fnOf "is_whole" "is_whole" (defArgs s_is_whole) (defBody s_is_whole) (defScope s_is_whole) .none kV_is_whole dc_is_whole pm_is_whole an_is_whole cd_is_whole ct_is_whole, f_look_number := f_look_number, d_look_number := PySem.W.fnOf "look_number" "look_number" (defArgs s_look_number) (defBody s_look_number) (defScope s_look_number) .none kV_look_number dc_look_number pm_look_number an_look_number cd_look_number ct_look_number, f_Tree_init := f_Tree_init, d_Tree_init := PySem.W.fnOf "__init__" "Tree.__init__" (defArgs s_Tree_init) (defBody s_Tree_init) (defScope s_Tree_init) .none kV_Tree_init dc_Tree_init pm_Tree_init an_Tree_init cd_Tree_init ct_Tree_init, f__law_pick := f__law_pick, d__law_pick := PySem.W.fnOf "_law_pick" "_law_pick" (defArgs s__law_pick) (defBody s__law_pick) (defScope s__law_pick) .none kV__law_pick dc__law_pick pm__law_pick an__law_pick cd__law_pick ct__law_pick, f_Tree_way_to := f_Tree_way_to, d_Tree_way_to := PySem.W.fnOf "way_to" "Tree.way_to" (defArgs s_Tree_way_to) (defBody s_Tree_way_to) (defScope s_Tree_way_to) .none kV_Tree_way_to dc_Tree_way_to pm_Tree_way_to an_Tree_way_to cd_Tree_way_to ct_Tree_way_to, f_Tree_new_knot := f_Tree_new_knot, d_Tree_new_knot := PySem.W.fnOf "new_knot" "Tree.new_knot" (defArgs s_Tree_new_knot) (defBody s_Tree_new_knot) (defScope s_Tree_new_knot) .none kV_Tree_new_knot dc_Tree_new_knot pm_Tree_new_knot an_Tree_new_knot cd_Tree_new_knot ct_Tree_new_knot, f_Tree_rebuilt := f_Tree_rebuilt, d_Tree_rebuilt := PySem.W.fnOf "rebuilt" "Tree.rebuilt" (defArgs s_Tree_rebuilt) (defBody s_Tree_rebuilt) (defScope s_Tree_rebuilt) .none kV_Tree_rebuilt dc_Tree_rebuilt pm_Tree_rebuilt an_Tree_rebuilt cd_Tree_rebuilt ct_Tree_rebuilt, f_Tree_put := f_Tree_put, d_Tree_put := PySem.W.fnOf "put" "Tree.put" (defArgs s_Tree_put) (defBody s_Tree_put) (defScope s_Tree_put) .none kV_Tree_put dc_Tree_put pm_Tree_put an_Tree_put cd_Tree_put ct_Tree_put, f__law_plant := f__law_plant, d__law_plant := PySem.W.fnOf "_law_plant" "_law_plant" (defArgs s__law_plant) (defBody s__law_plant) (defScope s__law_plant) .none kV__law_plant dc__law_plant pm__law_plant an__law_plant cd__law_plant ct__law_plant, f_Tree_look_hand := f_Tree_look_hand, d_Tree_look_hand := PySem.W.fnOf "look_hand" "Tree.look_hand" (defArgs s_Tree_look_hand) (defBody s_Tree_look_hand) (defScope s_Tree_look_hand) .none kV_Tree_look_hand dc_Tree_look_hand pm_Tree_look_hand an_Tree_look_hand cd_Tree_look_hand ct_Tree_look_hand, f_Tree_begin := f_Tree_begin, d_Tree_begin := PySem.W.fnOf "begin" "Tree.begin" (defArgs s_Tree_begin) (defBody s_Tree_begin) (defScope s_Tree_begin) .none kV_Tree_begin dc_Tree_begin pm_Tree_begin an_Tree_begin cd_Tree_begin ct_Tree_begin, f__law_reach := f__law_reach, d__law_reach := PySem.W.fnOf "_law_reach" "_law_reach" (defArgs s__law_reach) (defBody s__law_reach) (defScope s__law_reach) .none kV__law_reach dc__law_reach pm__law_reach an__law_reach cd__law_reach ct__law_reach, f_Tree_len := f_Tree_len, d_Tree_len := PySem.W.fnOf "__len__" "Tree.__len__" (defArgs s_Tree_len) (defBody s_Tree_len) (defScope s_Tree_len) .none kV_Tree_len dc_Tree_len pm_Tree_len an_Tree_len cd_Tree_len ct_Tree_len, f_Tree_sweep := f_Tree_sweep, d_Tree_sweep := PySem.W.fnOf "sweep" "Tree.sweep" (defArgs s_Tree_sweep) (defBody s_Tree_sweep) (defScope s_Tree_sweep) .none kV_Tree_sweep dc_Tree_sweep pm_Tree_sweep an_Tree_sweep cd_Tree_sweep ct_Tree_sweep, f_Tree_look_in := f_Tree_look_in, d_Tree_look_in := PySem.W.fnOf "look_in" "Tree.look_in" (defArgs s_Tree_look_in) (defBody s_Tree_look_in) (defScope s_Tree_look_in) .none kV_Tree_look_in dc_Tree_look_in pm_Tree_look_in an_Tree_look_in cd_Tree_look_in ct_Tree_look_in, f_Tree_finish := f_Tree_finish, d_Tree_finish := PySem.W.fnOf "finish" "Tree.finish" (defArgs s_Tree_finish) (defBody s_Tree_finish) (defScope s_Tree_finish) .none kV_Tree_finish dc_Tree_finish pm_Tree_finish an_Tree_finish cd_Tree_finish ct_Tree_finish, f_law := fa, d_law := PySem.W.fnOf "law" "law" (defArgs s_law) (defBody s_law) (defScope s_law) .none kV_law dc_law pm_law an_law cd_law ct_law, t_MOST_HANDS := t_MOST_HANDS, t_MOST_KEY := t_MOST_KEY, t_MOST_VALUE := t_MOST_VALUE }
  have T : Txt K mg D :=
    { F__law_town := F__law_town, b__law_town := b__law_town,
      g__law_town := PySem.W.mg_of X G a__law_town,
      F__law_draw := F__law_draw, b__law_draw := b__law_draw,
      g__law_draw := PySem.W.mg_of X G a__law_draw,
      F_is_whole := F_is_whole, b_is_whole := b_is_whole,
      g_is_whole := PySem.W.mg_of X G a_is_whole,
      F_look_number := F_look_number, b_look_number := b_look_number,
      g_look_number := PySem.W.mg_of X G a_look_number,
      F_Tree_init := F_Tree_init, b_Tree_init := b_Tree_init,
      F__law_pick := F__law_pick, b__law_pick := b__law_pick,
      g__law_pick := PySem.W.mg_of X G a__law_pick,
      F_Tree_way_to := F_Tree_way_to, b_Tree_way_to := b_Tree_way_to,
      F_Tree_new_knot := F_Tree_new_knot, b_Tree_new_knot := b_Tree_new_knot,
      F_Tree_rebuilt := F_Tree_rebuilt, b_Tree_rebuilt := b_Tree_rebuilt,
      F_Tree_put := F_Tree_put, b_Tree_put := b_Tree_put,
      F__law_plant := F__law_plant, b__law_plant := b__law_plant,
      g__law_plant := PySem.W.mg_of X G a__law_plant,
      F_Tree_look_hand := F_Tree_look_hand, b_Tree_look_hand := b_Tree_look_hand,
      F_Tree_begin := F_Tree_begin, b_Tree_begin := b_Tree_begin,
      F__law_reach := F__law_reach, b__law_reach := b__law_reach,
      g__law_reach := PySem.W.mg_of X G a__law_reach,
      F_Tree_len := F_Tree_len, b_Tree_len := b_Tree_len,
      F_Tree_sweep := F_Tree_sweep, b_Tree_sweep := b_Tree_sweep,
      F_Tree_look_in := F_Tree_look_in, b_Tree_look_in := b_Tree_look_in,
      F_Tree_finish := F_Tree_finish, b_Tree_finish := b_Tree_finish,
      F_law := F_law, b_law := b_law,
      g_law := PySem.W.mg_of X G a_law,
      cl_Tree := ⟨pg_Tree, hd_Tree, po_Tree, sa_Tree⟩, g_Tree := PySem.W.mg_of X G aC_Tree,
      na_Tree_hands := na_Tree_hands,
      na_Tree_knots := na_Tree_knots,
      na_Tree_made := na_Tree_made,
      na_Tree_root := na_Tree_root,
      na_Tree_pinned := na_Tree_pinned,
      mk_Tree := ⟨mk_Tree, ai_Tree, ii_Tree, kc_Tree⟩,
      me_Tree_way_to := ⟨am_Tree_way_to, im_Tree_way_to, k_Tree_way_to⟩,
      me_Tree_new_knot := ⟨am_Tree_new_knot, im_Tree_new_knot, k_Tree_new_knot⟩,
      me_Tree_rebuilt := ⟨am_Tree_rebuilt, im_Tree_rebuilt, k_Tree_rebuilt⟩,
      me_Tree_put := ⟨am_Tree_put, im_Tree_put, k_Tree_put⟩,
      me_Tree_look_hand := ⟨am_Tree_look_hand, im_Tree_look_hand, k_Tree_look_hand⟩,
      me_Tree_begin := ⟨am_Tree_begin, im_Tree_begin, k_Tree_begin⟩,
      me_Tree___len__ := ⟨am_Tree___len__, im_Tree_len, k_Tree_len⟩,
      me_Tree_sweep := ⟨am_Tree_sweep, im_Tree_sweep, k_Tree_sweep⟩,
      me_Tree_look_in := ⟨am_Tree_look_in, im_Tree_look_in, k_Tree_look_in⟩,
      me_Tree_finish := ⟨am_Tree_finish, im_Tree_finish, k_Tree_finish⟩,
      m_bool := PySem.W.mg_none_of X G z_bool,
      m_dict := PySem.W.mg_none_of X G z_dict,
      m_int := PySem.W.mg_none_of X G z_int,
      m_isinstance := PySem.W.mg_none_of X G z_isinstance,
      m_len := PySem.W.mg_none_of X G z_len,
      m_list := PySem.W.mg_none_of X G z_list,
      m_range := PySem.W.mg_none_of X G z_range,
      m_sorted := PySem.W.mg_none_of X G z_sorted,
      k_MOST_HANDS := PySem.W.mg_of X G zk_MOST_HANDS,
      k_MOST_KEY := PySem.W.mg_of X G zk_MOST_KEY,
      k_MOST_VALUE := PySem.W.mg_of X G zk_MOST_VALUE }
  exact ⟨_, fun s v => .of_eq rfl, fun base _ _ => ok_law T⟩
theorem walk {l : PySem.W.OpenLaw} {q : Program} {loose : List Str} {XP : (Str → Option Value) → Heap → Prop} {YP : World → Heap → Prop} {d : DefRec} {K : Params → PySem.W.Frag} (hn : l.most = some 63) (hdf : d.params.defaults = [])
    (hY : ∀ (w : World) (h : Heap), YP w h → (K w.params).In h)
    (F : ∀ (w : World) (mg : Str → Option Value) (fa : Addr) (h : Heap), (K w.params).In h → h.Ns mainGlobals mg → mg d.name = some (.ref fa) →
      ∃ fd : FuncData, (∀ (s : Shared) (u : Value), BindsTo s fd ⟨[u], []⟩ [("script", u)]) ∧ ∀ base : Heap, (K w.params).In base → base.Ns mainGlobals mg → FnOk l.prog w (K w.params) mg base CX0 5 fa fd ["script"] (sp_law (K w.params))) :
    PySem.W.WalkO q loose XP YP l.row.toRowW d [] (fun f vs => PySem.call f vs) :=
  L2.walk_of (n := 63) (k := 5) (x := "script") (CX := fun _ => CX0) (sp := fun w => sp_law (K w.params)) hn (by decide) hdf ⟨rfl, by decide, by decide⟩ hY F (fun _ _ a ns hl _ hS => ⟨a, ns, rfl, hS, hl, fun _ => rfl⟩) fun _ _ _ _ _ z => z
end La
open PySem PySem.W PyProof.Rows in
set_option maxRecDepth 100000 in
set_option maxHeartbeats 0 in
theorem PySem.Challenge.cw_lastreader_k28_whole_shared_holds : PySem.Challenge.rw_lastreader_k28_whole_shared.Holds := by
  w_on; o_law; k_head; (case hw => w_witness2)
  k_fill
  refine La.walk (l := PySem.Challenge.rw_lastreader_k28_whole_shared) rfl rfl (fun w h Y => PySem.W.kIn_of Y) ?F
  case F =>
    intro w mg fa h KX G hmg
    refine' La.all_mk KX G hmg ?aC_Tree ?pg_Tree ?hd_Tree ?po_Tree ?sa_Tree ?mk_Tree ?kc_Tree ?ai_Tree ?ii_Tree ?na_Tree_hands ?na_Tree_knots ?na_Tree_made ?na_Tree_root ?na_Tree_pinned ?am_Tree_way_to ?am_Tree_new_knot ?am_Tree_rebuilt ?am_Tree_put ?am_Tree_look_hand ?am_Tree_begin ?am_Tree___len__ ?am_Tree_sweep ?am_Tree_look_in ?am_Tree_finish ?im_Tree_way_to ?im_Tree_new_knot ?im_Tree_rebuilt ?im_Tree_put ?im_Tree_look_hand ?im_Tree_begin ?im_Tree_len ?im_Tree_sweep ?im_Tree_look_in ?im_Tree_finish ?a__law_town ?l__law_town ?c__law_town ?k__law_town ?a__law_draw ?l__law_draw ?c__law_draw ?k__law_draw ?a_is_whole ?l_is_whole ?c_is_whole ?k_is_whole ?a_look_number ?l_look_number ?c_look_number ?k_look_number ?l_Tree_init ?c_Tree_init ?k_Tree_init ?a__law_pick ?l__law_pick ?c__law_pick ?k__law_pick ?l_Tree_way_to ?c_Tree_way_to ?k_Tree_way_to ?l_Tree_new_knot ?c_Tree_new_knot ?k_Tree_new_knot ?l_Tree_rebuilt ?c_Tree_rebuilt ?k_Tree_rebuilt ?l_Tree_put ?c_Tree_put ?k_Tree_put ?a__law_plant ?l__law_plant ?c__law_plant ?k__law_plant ?l_Tree_look_hand ?c_Tree_look_hand ?k_Tree_look_hand ?l_Tree_begin ?c_Tree_begin ?k_Tree_begin ?a__law_reach ?l__law_reach ?c__law_reach ?k__law_reach ?l_Tree_len ?c_Tree_len ?k_Tree_len ?l_Tree_sweep ?c_Tree_sweep ?k_Tree_sweep ?l_Tree_look_in ?c_Tree_look_in ?k_Tree_look_in ?l_Tree_finish ?c_Tree_finish ?k_Tree_finish ?a_law ?l_law ?c_law ?k_law ?z_bool ?z_dict ?z_int ?z_isinstance ?z_len ?z_list ?z_range ?z_sorted ?zk_MOST_HANDS ?zk_MOST_KEY ?zk_MOST_VALUE
    (case aC_Tree => k_is)
    (case pg_Tree => k_is)
    (case hd_Tree => k_is)
    (case po_Tree => k_is)
    (case sa_Tree => k_is)
    (case mk_Tree => k_is)
    (case kc_Tree => k_is)
    (case ai_Tree => k_is)
    (case ii_Tree => k_is)
    (case na_Tree_hands => k_is)
    (case na_Tree_knots => k_is)
    (case na_Tree_made => k_is)
    (case na_Tree_root => k_is)
    (case na_Tree_pinned => k_is)
    (case am_Tree_way_to => k_is)
    (case am_Tree_new_knot => k_is)
    (case am_Tree_rebuilt => k_is)
    (case am_Tree_put => k_is)
    (case am_Tree_look_hand => k_is)
    (case am_Tree_begin => k_is)
    (case am_Tree___len__ => k_is)
    (case am_Tree_sweep => k_is)
    (case am_Tree_look_in => k_is)
    (case am_Tree_finish => k_is)
    (case im_Tree_way_to => k_is)
    (case im_Tree_new_knot => k_is)
    (case im_Tree_rebuilt => k_is)
    (case im_Tree_put => k_is)
    (case im_Tree_look_hand => k_is)
    (case im_Tree_begin => k_is)
    (case im_Tree_len => k_is)
    (case im_Tree_sweep => k_is)
    (case im_Tree_look_in => k_is)
    (case im_Tree_finish => k_is)
    (case a__law_town => k_is)
    (case l__law_town => k_is)
    (case c__law_town => k_is)
    (case k__law_town => k_is)
    (case a__law_draw => k_is)
    (case l__law_draw => k_is)
    (case c__law_draw => k_is)
    (case k__law_draw => k_is)
    (case a_is_whole => k_is)
    (case l_is_whole => k_is)
    (case c_is_whole => k_is)
    (case k_is_whole => k_is)
    (case a_look_number => k_is)
    (case l_look_number => k_is)
    (case c_look_number => k_is)
    (case k_look_number => k_is)
    (case l_Tree_init => k_is)
    (case c_Tree_init => k_is)
    (case k_Tree_init => k_is)
    (case a__law_pick => k_is)
    (case l__law_pick => k_is)
    (case c__law_pick => k_is)
    (case k__law_pick => k_is)
    (case l_Tree_way_to => k_is)
    (case c_Tree_way_to => k_is)
    (case k_Tree_way_to => k_is)
    (case l_Tree_new_knot => k_is)
    (case c_Tree_new_knot => k_is)
    (case k_Tree_new_knot => k_is)
    (case l_Tree_rebuilt => k_is)
    (case c_Tree_rebuilt => k_is)
    (case k_Tree_rebuilt => k_is)
    (case l_Tree_put => k_is)
    (case c_Tree_put => k_is)
    (case k_Tree_put => k_is)
    (case a__law_plant => k_is)
    (case l__law_plant => k_is)
    (case c__law_plant => k_is)
    (case k__law_plant => k_is)
    (case l_Tree_look_hand => k_is)
    (case c_Tree_look_hand => k_is)
    (case k_Tree_look_hand => k_is)
    (case l_Tree_begin => k_is)
    (case c_Tree_begin => k_is)
    (case k_Tree_begin => k_is)
    (case a__law_reach => k_is)
    (case l__law_reach => k_is)
    (case c__law_reach => k_is)
    (case k__law_reach => k_is)
    (case l_Tree_len => k_is)
    (case c_Tree_len => k_is)
    (case k_Tree_len => k_is)
    (case l_Tree_sweep => k_is)
    (case c_Tree_sweep => k_is)
    (case k_Tree_sweep => k_is)
    (case l_Tree_look_in => k_is)
    (case c_Tree_look_in => k_is)
    (case k_Tree_look_in => k_is)
    (case l_Tree_finish => k_is)
    (case c_Tree_finish => k_is)
    (case k_Tree_finish => k_is)
    (case a_law => k_is)
    (case l_law => k_is)
    (case c_law => k_is)
    (case k_law => k_is)
    (case z_bool => k_is)
    (case z_dict => k_is)
    (case z_int => k_is)
    (case z_isinstance => k_is)
    (case z_len => k_is)
    (case z_list => k_is)
    (case z_range => k_is)
    (case z_sorted => k_is)
    (case zk_MOST_HANDS => k_is)
    (case zk_MOST_KEY => k_is)
    (case zk_MOST_VALUE => k_is)
