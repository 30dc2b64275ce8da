import PyProof.Rows.All
import Wide.All
import OpenK.AllK
import Wide.FinOn
import HandS.ForMost
import HandS.IsInst
import HandS.SortInts
import HandS.Conv
import HandS.More
import HandS.ClsMeth
import HandS.Exc
import HandS.WordsExc
import HandS.ExcValue
import HandS.ExcIs
import HandS.DictTup
import HandS.Strs
import HandS.SetFor
import HandS.SortRule
import HandS.MakeKw
import HandS.TryOnly
import HandS.Style
import KE.KDictList
import HandS.Small
import PySem.Challenge.RW_lastreader_k19_chains_refused
set_option Elab.async false
set_option linter.all false
set_option maxRecDepth 100000
set_option maxHeartbeats 4000000
/-! The symbolic heap: what stands in H, unit by unit. -/
namespace Sy
open PySem L2
abbrev U := List (Addr × HO)
structure Has (H : Hp) (L : List U) : Prop where
  nd : (L.flatten.map (·.1)).Nodup
  at' : ∀ p ∈ L.flatten, H p.1 = some p.2
theorem Has.all {H : Hp} {L : List U} (h : Has H L) : ∀ p ∈ L.flatten, H p.1 = some p.2 := h.at'
theorem Has.set_at {H : Hp} {A : List U} {a : Addr} {o o2 : HO} {us : U} {L : List U} (h : Has H (A ++ ((a, o) :: us) :: L)) : Has (upd H a o2) (A ++ ((a, o2) :: us) :: L) := by
  have e1 : (A ++ ((a, o) :: us) :: L).flatten = A.flatten ++ (a, o) :: (us ++ L.flatten) := by simp
  have e2 : (A ++ ((a, o2) :: us) :: L).flatten = A.flatten ++ (a, o2) :: (us ++ L.flatten) := by simp
  have hn := h.nd
  have ha := h.at'
  rw [e1] at hn ha
  refine ⟨?_, ?_⟩
  · rw [e2]
    simpa using hn
  · rw [e2]
    rw [List.map_append, List.map_cons, List.nodup_append] at hn
    obtain ⟨n1, n2, n3⟩ := hn
    obtain ⟨n4, n5⟩ := List.nodup_cons.mp n2
    intro p hp
    rcases List.mem_append.mp hp with q | q
    · have ne : p.1 ≠ a := n3 p.1 (List.mem_map.mpr ⟨p, q, rfl⟩) a (List.mem_cons.mpr (.inl rfl))
      rw [upd_ne ne]
      exact ha p (List.mem_append.mpr (.inl q))
    · rcases List.mem_cons.mp q with e | q
      · subst e
        exact upd_same
      · have ne : p.1 ≠ a := fun z => n4 (List.mem_map.mpr ⟨p, q, z⟩)
        rw [upd_ne ne]
        exact ha p (List.mem_append.mpr (.inr (List.mem_cons.mpr (.inr q))))
theorem Has.nw {H : Hp} {L : List U} (h : Has H L) {p : Addr} {o : HO} (hp : H p = none) : Has (upd H p o) ([(p, o)] :: L) := by
  have np : ∀ q ∈ L.flatten, q.1 ≠ p := fun q hq => ne_of_none (h.at' q hq) hp
  refine ⟨?_, ?_⟩
  · show ((p :: L.flatten.map (·.1))).Nodup
    exact List.nodup_cons.mpr ⟨fun m => by obtain ⟨q, hq, e⟩ := List.mem_map.mp m; exact np q hq e, h.nd⟩
  · intro q hq
    have hq : q ∈ (p, o) :: L.flatten := hq
    rcases List.mem_cons.mp hq with e | hq
    · subst e
      exact upd_same
    · rw [upd_ne (np q hq)]
      exact h.at' q hq
theorem Has.nil {H : Hp} : Has H [] := ⟨List.nodup_nil, fun _ h => by cases h⟩
def Sub (T L : List U) : Prop := ∃ G, L.Perm (T ++ G)
theorem Sub.rf {L : List U} : Sub L L := ⟨[], by rw [List.append_nil]⟩
theorem Sub.skip {T L : List U} {u : U} (h : Sub T L) : Sub T (u :: L) := by
  obtain ⟨G, p⟩ := h
  exact ⟨u :: G, ((List.Perm.cons u p).trans List.perm_middle.symm)⟩
theorem Sub.pull {A : List U} {u : U} {T L : List U} (h : Sub T (A ++ L)) : Sub (u :: T) (A ++ u :: L) := by
  obtain ⟨G, p⟩ := h
  exact ⟨G, List.perm_middle.trans (List.Perm.cons u p)⟩
theorem Sub.trans {A B C : List U} (h : Sub A B) (k : Sub B C) : Sub A C := by
  obtain ⟨G, p⟩ := h
  obtain ⟨F, q⟩ := k
  refine ⟨G ++ F, q.trans ?_⟩
  rw [← List.append_assoc]
  exact p.append_right F
theorem flatten_perm {L M : List U} (p : L.Perm M) : L.flatten.Perm M.flatten := by
  induction p with
  | nil => exact List.Perm.refl _
  | cons x _ ih =>
    show (x ++ _).Perm (x ++ _)
    exact ih.append_left x
  | swap x y l =>
    show (y ++ (x ++ l.flatten)).Perm (x ++ (y ++ l.flatten))
    rw [← List.append_assoc, ← List.append_assoc]
    exact List.perm_append_comm.append_right _
  | trans _ _ a b => exact a.trans b
theorem Has.perm {H : Hp} {L M : List U} (h : Has H L) (p : L.Perm M) : Has H M :=
  ⟨((flatten_perm p).map (·.1)).nodup_iff.mp h.nd, fun q hq => h.at' q ((flatten_perm p).mem_iff.mpr hq)⟩
theorem Has.left {H : Hp} {L M : List U} (h : Has H (L ++ M)) : Has H L := by
  obtain ⟨n, a⟩ := h
  rw [List.flatten_append] at n a
  rw [List.map_append] at n
  exact ⟨(List.nodup_append.mp n).1, fun p hp => a p (List.mem_append.mpr (.inl hp))⟩
theorem Has.sub {H : Hp} {T L : List U} (h : Has H L) (s : Sub T L) : Has H T := by
  obtain ⟨G, p⟩ := s
  exact (h.perm p).left
/-- a unit is opened, closed -/
theorem Has.op {H : Hp} {A B : U} {L : List U} : Has H ((A ++ B) :: L) ↔ Has H (A :: B :: L) := by
  constructor
  · rintro ⟨n, a⟩
    exact ⟨by simpa using n, fun p hp => a p (by simpa [or_assoc] using hp)⟩
  · rintro ⟨n, a⟩
    exact ⟨by simpa using n, fun p hp => a p (by simpa [or_assoc] using hp)⟩
theorem Has.cut {H : Hp} {p : Addr × HO} {B : U} {L : List U} (h : Has H ((p :: B) :: L)) : Has H ([p] :: B :: L) := Has.op.mp h
theorem Has.glue {H : Hp} {p : Addr × HO} {B : U} {L : List U} (h : Has H ([p] :: B :: L)) : Has H ((p :: B) :: L) := Has.op.mpr h
theorem Has.nilU {H : Hp} {L : List U} : Has H ([] :: L) ↔ Has H L := ⟨fun ⟨n, a⟩ => ⟨n, a⟩, fun ⟨n, a⟩ => ⟨n, a⟩⟩
theorem Has.cut2 {H : Hp} {p q : Addr × HO} {B : U} {L : List U} (h : Has H ((p :: q :: B) :: L)) : Has H ([p] :: [q] :: B :: L) := Has.perm (Has.cut (Has.perm h.cut (List.Perm.swap _ _ _))) ((List.Perm.cons _ (List.Perm.swap _ _ _)).trans ((List.Perm.swap _ _ _)))
theorem Has.glue2 {H : Hp} {p q : Addr × HO} {B : U} {L : List U} (h : Has H ([p] :: [q] :: B :: L)) : Has H ((p :: q :: B) :: L) := Has.glue (Has.perm (Has.glue (Has.perm h ((List.Perm.swap _ _ _).trans (List.Perm.cons _ (List.Perm.swap _ _ _))))) (List.Perm.swap _ _ _))
theorem Has.g0 {H : Hp} {a : Addr} {o : HO} {us : U} {L : List U} (h : Has H (((a, o) :: us) :: L)) : H a = some o := h.2 (a, o) (by simp)
theorem Has.g1 {H : Hp} {u0 : U} {a : Addr} {o : HO} {us : U} {L : List U} (h : Has H (u0 :: ((a, o) :: us) :: L)) : H a = some o := h.2 (a, o) (by simp)
theorem Has.g2 {H : Hp} {u0 u1 : U} {a : Addr} {o : HO} {us : U} {L : List U} (h : Has H (u0 :: u1 :: ((a, o) :: us) :: L)) : H a = some o := h.2 (a, o) (by simp)
theorem Has.g3 {H : Hp} {u0 u1 u2 : U} {a : Addr} {o : HO} {us : U} {L : List U} (h : Has H (u0 :: u1 :: u2 :: ((a, o) :: us) :: L)) : H a = some o := h.2 (a, o) (by simp)
theorem Has.g4 {H : Hp} {u0 u1 u2 u3 : U} {a : Addr} {o : HO} {us : U} {L : List U} (h : Has H (u0 :: u1 :: u2 :: u3 :: ((a, o) :: us) :: L)) : H a = some o := h.2 (a, o) (by simp)
theorem Has.g5 {H : Hp} {u0 u1 u2 u3 u4 : U} {a : Addr} {o : HO} {us : U} {L : List U} (h : Has H (u0 :: u1 :: u2 :: u3 :: u4 :: ((a, o) :: us) :: L)) : H a = some o := h.2 (a, o) (by simp)
theorem Has.g6 {H : Hp} {u0 u1 u2 u3 u4 u5 : U} {a : Addr} {o : HO} {us : U} {L : List U} (h : Has H (u0 :: u1 :: u2 :: u3 :: u4 :: u5 :: ((a, o) :: us) :: L)) : H a = some o := h.2 (a, o) (by simp)
theorem Has.g7 {H : Hp} {u0 u1 u2 u3 u4 u5 u6 : U} {a : Addr} {o : HO} {us : U} {L : List U} (h : Has H (u0 :: u1 :: u2 :: u3 :: u4 :: u5 :: u6 :: ((a, o) :: us) :: L)) : H a = some o := h.2 (a, o) (by simp)
theorem Has.g8 {H : Hp} {u0 u1 u2 u3 u4 u5 u6 u7 : U} {a : Addr} {o : HO} {us : U} {L : List U} (h : Has H (u0 :: u1 :: u2 :: u3 :: u4 :: u5 :: u6 :: u7 :: ((a, o) :: us) :: L)) : H a = some o := h.2 (a, o) (by simp)
theorem Has.g9 {H : Hp} {u0 u1 u2 u3 u4 u5 u6 u7 u8 : U} {a : Addr} {o : HO} {us : U} {L : List U} (h : Has H (u0 :: u1 :: u2 :: u3 :: u4 :: u5 :: u6 :: u7 :: u8 :: ((a, o) :: us) :: L)) : H a = some o := h.2 (a, o) (by simp)
theorem Has.g10 {H : Hp} {u0 u1 u2 u3 u4 u5 u6 u7 u8 u9 : U} {a : Addr} {o : HO} {us : U} {L : List U} (h : Has H (u0 :: u1 :: u2 :: u3 :: u4 :: u5 :: u6 :: u7 :: u8 :: u9 :: ((a, o) :: us) :: L)) : H a = some o := h.2 (a, o) (by simp)
theorem Has.g11 {H : Hp} {u0 u1 u2 u3 u4 u5 u6 u7 u8 u9 u10 : U} {a : Addr} {o : HO} {us : U} {L : List U} (h : Has H (u0 :: u1 :: u2 :: u3 :: u4 :: u5 :: u6 :: u7 :: u8 :: u9 :: u10 :: ((a, o) :: us) :: L)) : H a = some o := h.2 (a, o) (by simp)
theorem Has.g12 {H : Hp} {u0 u1 u2 u3 u4 u5 u6 u7 u8 u9 u10 u11 : U} {a : Addr} {o : HO} {us : U} {L : List U} (h : Has H (u0 :: u1 :: u2 :: u3 :: u4 :: u5 :: u6 :: u7 :: u8 :: u9 :: u10 :: u11 :: ((a, o) :: us) :: L)) : H a = some o := h.2 (a, o) (by simp)
theorem Has.g13 {H : Hp} {u0 u1 u2 u3 u4 u5 u6 u7 u8 u9 u10 u11 u12 : U} {a : Addr} {o : HO} {us : U} {L : List U} (h : Has H (u0 :: u1 :: u2 :: u3 :: u4 :: u5 :: u6 :: u7 :: u8 :: u9 :: u10 :: u11 :: u12 :: ((a, o) :: us) :: L)) : H a = some o := h.2 (a, o) (by simp)
theorem Has.g14 {H : Hp} {u0 u1 u2 u3 u4 u5 u6 u7 u8 u9 u10 u11 u12 u13 : U} {a : Addr} {o : HO} {us : U} {L : List U} (h : Has H (u0 :: u1 :: u2 :: u3 :: u4 :: u5 :: u6 :: u7 :: u8 :: u9 :: u10 :: u11 :: u12 :: u13 :: ((a, o) :: us) :: L)) : H a = some o := h.2 (a, o) (by simp)
theorem Has.g15 {H : Hp} {u0 u1 u2 u3 u4 u5 u6 u7 u8 u9 u10 u11 u12 u13 u14 : U} {a : Addr} {o : HO} {us : U} {L : List U} (h : Has H (u0 :: u1 :: u2 :: u3 :: u4 :: u5 :: u6 :: u7 :: u8 :: u9 :: u10 :: u11 :: u12 :: u13 :: u14 :: ((a, o) :: us) :: L)) : H a = some o := h.2 (a, o) (by simp)
theorem Has.s0 {H : Hp} {a : Addr} {o o2 : HO} {us : U} {L : List U} (h : Has H (((a, o) :: us) :: L)) : Has (upd H a o2) (((a, o2) :: us) :: L) := Has.set_at (A := []) h
theorem Has.s1 {H : Hp} {u0 : U} {a : Addr} {o o2 : HO} {us : U} {L : List U} (h : Has H (u0 :: ((a, o) :: us) :: L)) : Has (upd H a o2) (u0 :: ((a, o2) :: us) :: L) := Has.set_at (A := [u0]) h
theorem Has.s2 {H : Hp} {u0 u1 : U} {a : Addr} {o o2 : HO} {us : U} {L : List U} (h : Has H (u0 :: u1 :: ((a, o) :: us) :: L)) : Has (upd H a o2) (u0 :: u1 :: ((a, o2) :: us) :: L) := Has.set_at (A := [u0, u1]) h
theorem Has.s3 {H : Hp} {u0 u1 u2 : U} {a : Addr} {o o2 : HO} {us : U} {L : List U} (h : Has H (u0 :: u1 :: u2 :: ((a, o) :: us) :: L)) : Has (upd H a o2) (u0 :: u1 :: u2 :: ((a, o2) :: us) :: L) := Has.set_at (A := [u0, u1, u2]) h
theorem Has.s4 {H : Hp} {u0 u1 u2 u3 : U} {a : Addr} {o o2 : HO} {us : U} {L : List U} (h : Has H (u0 :: u1 :: u2 :: u3 :: ((a, o) :: us) :: L)) : Has (upd H a o2) (u0 :: u1 :: u2 :: u3 :: ((a, o2) :: us) :: L) := Has.set_at (A := [u0, u1, u2, u3]) h
theorem Has.s5 {H : Hp} {u0 u1 u2 u3 u4 : U} {a : Addr} {o o2 : HO} {us : U} {L : List U} (h : Has H (u0 :: u1 :: u2 :: u3 :: u4 :: ((a, o) :: us) :: L)) : Has (upd H a o2) (u0 :: u1 :: u2 :: u3 :: u4 :: ((a, o2) :: us) :: L) := Has.set_at (A := [u0, u1, u2, u3, u4]) h
theorem Has.s6 {H : Hp} {u0 u1 u2 u3 u4 u5 : U} {a : Addr} {o o2 : HO} {us : U} {L : List U} (h : Has H (u0 :: u1 :: u2 :: u3 :: u4 :: u5 :: ((a, o) :: us) :: L)) : Has (upd H a o2) (u0 :: u1 :: u2 :: u3 :: u4 :: u5 :: ((a, o2) :: us) :: L) := Has.set_at (A := [u0, u1, u2, u3, u4, u5]) h
theorem Has.s7 {H : Hp} {u0 u1 u2 u3 u4 u5 u6 : U} {a : Addr} {o o2 : HO} {us : U} {L : List U} (h : Has H (u0 :: u1 :: u2 :: u3 :: u4 :: u5 :: u6 :: ((a, o) :: us) :: L)) : Has (upd H a o2) (u0 :: u1 :: u2 :: u3 :: u4 :: u5 :: u6 :: ((a, o2) :: us) :: L) := Has.set_at (A := [u0, u1, u2, u3, u4, u5, u6]) h
theorem Has.s8 {H : Hp} {u0 u1 u2 u3 u4 u5 u6 u7 : U} {a : Addr} {o o2 : HO} {us : U} {L : List U} (h : Has H (u0 :: u1 :: u2 :: u3 :: u4 :: u5 :: u6 :: u7 :: ((a, o) :: us) :: L)) : Has (upd H a o2) (u0 :: u1 :: u2 :: u3 :: u4 :: u5 :: u6 :: u7 :: ((a, o2) :: us) :: L) := Has.set_at (A := [u0, u1, u2, u3, u4, u5, u6, u7]) h
theorem Has.s9 {H : Hp} {u0 u1 u2 u3 u4 u5 u6 u7 u8 : U} {a : Addr} {o o2 : HO} {us : U} {L : List U} (h : Has H (u0 :: u1 :: u2 :: u3 :: u4 :: u5 :: u6 :: u7 :: u8 :: ((a, o) :: us) :: L)) : Has (upd H a o2) (u0 :: u1 :: u2 :: u3 :: u4 :: u5 :: u6 :: u7 :: u8 :: ((a, o2) :: us) :: L) := Has.set_at (A := [u0, u1, u2, u3, u4, u5, u6, u7, u8]) h
theorem Has.s10 {H : Hp} {u0 u1 u2 u3 u4 u5 u6 u7 u8 u9 : U} {a : Addr} {o o2 : HO} {us : U} {L : List U} (h : Has H (u0 :: u1 :: u2 :: u3 :: u4 :: u5 :: u6 :: u7 :: u8 :: u9 :: ((a, o) :: us) :: L)) : Has (upd H a o2) (u0 :: u1 :: u2 :: u3 :: u4 :: u5 :: u6 :: u7 :: u8 :: u9 :: ((a, o2) :: us) :: L) := Has.set_at (A := [u0, u1, u2, u3, u4, u5, u6, u7, u8, u9]) h
theorem Has.s11 {H : Hp} {u0 u1 u2 u3 u4 u5 u6 u7 u8 u9 u10 : U} {a : Addr} {o o2 : HO} {us : U} {L : List U} (h : Has H (u0 :: u1 :: u2 :: u3 :: u4 :: u5 :: u6 :: u7 :: u8 :: u9 :: u10 :: ((a, o) :: us) :: L)) : Has (upd H a o2) (u0 :: u1 :: u2 :: u3 :: u4 :: u5 :: u6 :: u7 :: u8 :: u9 :: u10 :: ((a, o2) :: us) :: L) := Has.set_at (A := [u0, u1, u2, u3, u4, u5, u6, u7, u8, u9, u10]) h
theorem Has.s12 {H : Hp} {u0 u1 u2 u3 u4 u5 u6 u7 u8 u9 u10 u11 : U} {a : Addr} {o o2 : HO} {us : U} {L : List U} (h : Has H (u0 :: u1 :: u2 :: u3 :: u4 :: u5 :: u6 :: u7 :: u8 :: u9 :: u10 :: u11 :: ((a, o) :: us) :: L)) : Has (upd H a o2) (u0 :: u1 :: u2 :: u3 :: u4 :: u5 :: u6 :: u7 :: u8 :: u9 :: u10 :: u11 :: ((a, o2) :: us) :: L) := Has.set_at (A := [u0, u1, u2, u3, u4, u5, u6, u7, u8, u9, u10, u11]) h
theorem Has.s13 {H : Hp} {u0 u1 u2 u3 u4 u5 u6 u7 u8 u9 u10 u11 u12 : U} {a : Addr} {o o2 : HO} {us : U} {L : List U} (h : Has H (u0 :: u1 :: u2 :: u3 :: u4 :: u5 :: u6 :: u7 :: u8 :: u9 :: u10 :: u11 :: u12 :: ((a, o) :: us) :: L)) : Has (upd H a o2) (u0 :: u1 :: u2 :: u3 :: u4 :: u5 :: u6 :: u7 :: u8 :: u9 :: u10 :: u11 :: u12 :: ((a, o2) :: us) :: L) := Has.set_at (A := [u0, u1, u2, u3, u4, u5, u6, u7, u8, u9, u10, u11, u12]) h
theorem Has.s14 {H : Hp} {u0 u1 u2 u3 u4 u5 u6 u7 u8 u9 u10 u11 u12 u13 : U} {a : Addr} {o o2 : HO} {us : U} {L : List U} (h : Has H (u0 :: u1 :: u2 :: u3 :: u4 :: u5 :: u6 :: u7 :: u8 :: u9 :: u10 :: u11 :: u12 :: u13 :: ((a, o) :: us) :: L)) : Has (upd H a o2) (u0 :: u1 :: u2 :: u3 :: u4 :: u5 :: u6 :: u7 :: u8 :: u9 :: u10 :: u11 :: u12 :: u13 :: ((a, o2) :: us) :: L) := Has.set_at (A := [u0, u1, u2, u3, u4, u5, u6, u7, u8, u9, u10, u11, u12, u13]) h
theorem Has.s15 {H : Hp} {u0 u1 u2 u3 u4 u5 u6 u7 u8 u9 u10 u11 u12 u13 u14 : U} {a : Addr} {o o2 : HO} {us : U} {L : List U} (h : Has H (u0 :: u1 :: u2 :: u3 :: u4 :: u5 :: u6 :: u7 :: u8 :: u9 :: u10 :: u11 :: u12 :: u13 :: u14 :: ((a, o) :: us) :: L)) : Has (upd H a o2) (u0 :: u1 :: u2 :: u3 :: u4 :: u5 :: u6 :: u7 :: u8 :: u9 :: u10 :: u11 :: u12 :: u13 :: u14 :: ((a, o2) :: us) :: L) := Has.set_at (A := [u0, u1, u2, u3, u4, u5, u6, u7, u8, u9, u10, u11, u12, u13, u14]) h
theorem Sub.p0 {u : U} {T L : List U} (h : Sub T L) : Sub (u :: T) (u :: L) := Sub.pull (A := []) h
theorem Sub.p1 {u0 u : U} {T L : List U} (h : Sub T (u0 :: L)) : Sub (u :: T) (u0 :: u :: L) := Sub.pull (A := [u0]) h
theorem Sub.p2 {u0 u1 u : U} {T L : List U} (h : Sub T (u0 :: u1 :: L)) : Sub (u :: T) (u0 :: u1 :: u :: L) := Sub.pull (A := [u0, u1]) h
theorem Sub.p3 {u0 u1 u2 u : U} {T L : List U} (h : Sub T (u0 :: u1 :: u2 :: L)) : Sub (u :: T) (u0 :: u1 :: u2 :: u :: L) := Sub.pull (A := [u0, u1, u2]) h
theorem Sub.p4 {u0 u1 u2 u3 u : U} {T L : List U} (h : Sub T (u0 :: u1 :: u2 :: u3 :: L)) : Sub (u :: T) (u0 :: u1 :: u2 :: u3 :: u :: L) := Sub.pull (A := [u0, u1, u2, u3]) h
theorem Sub.p5 {u0 u1 u2 u3 u4 u : U} {T L : List U} (h : Sub T (u0 :: u1 :: u2 :: u3 :: u4 :: L)) : Sub (u :: T) (u0 :: u1 :: u2 :: u3 :: u4 :: u :: L) := Sub.pull (A := [u0, u1, u2, u3, u4]) h
theorem Sub.p6 {u0 u1 u2 u3 u4 u5 u : U} {T L : List U} (h : Sub T (u0 :: u1 :: u2 :: u3 :: u4 :: u5 :: L)) : Sub (u :: T) (u0 :: u1 :: u2 :: u3 :: u4 :: u5 :: u :: L) := Sub.pull (A := [u0, u1, u2, u3, u4, u5]) h
theorem Sub.p7 {u0 u1 u2 u3 u4 u5 u6 u : U} {T L : List U} (h : Sub T (u0 :: u1 :: u2 :: u3 :: u4 :: u5 :: u6 :: L)) : Sub (u :: T) (u0 :: u1 :: u2 :: u3 :: u4 :: u5 :: u6 :: u :: L) := Sub.pull (A := [u0, u1, u2, u3, u4, u5, u6]) h
theorem Sub.p8 {u0 u1 u2 u3 u4 u5 u6 u7 u : U} {T L : List U} (h : Sub T (u0 :: u1 :: u2 :: u3 :: u4 :: u5 :: u6 :: u7 :: L)) : Sub (u :: T) (u0 :: u1 :: u2 :: u3 :: u4 :: u5 :: u6 :: u7 :: u :: L) := Sub.pull (A := [u0, u1, u2, u3, u4, u5, u6, u7]) h
theorem Sub.p9 {u0 u1 u2 u3 u4 u5 u6 u7 u8 u : U} {T L : List U} (h : Sub T (u0 :: u1 :: u2 :: u3 :: u4 :: u5 :: u6 :: u7 :: u8 :: L)) : Sub (u :: T) (u0 :: u1 :: u2 :: u3 :: u4 :: u5 :: u6 :: u7 :: u8 :: u :: L) := Sub.pull (A := [u0, u1, u2, u3, u4, u5, u6, u7, u8]) h
theorem Sub.p10 {u0 u1 u2 u3 u4 u5 u6 u7 u8 u9 u : U} {T L : List U} (h : Sub T (u0 :: u1 :: u2 :: u3 :: u4 :: u5 :: u6 :: u7 :: u8 :: u9 :: L)) : Sub (u :: T) (u0 :: u1 :: u2 :: u3 :: u4 :: u5 :: u6 :: u7 :: u8 :: u9 :: u :: L) := Sub.pull (A := [u0, u1, u2, u3, u4, u5, u6, u7, u8, u9]) h
theorem Sub.p11 {u0 u1 u2 u3 u4 u5 u6 u7 u8 u9 u10 u : U} {T L : List U} (h : Sub T (u0 :: u1 :: u2 :: u3 :: u4 :: u5 :: u6 :: u7 :: u8 :: u9 :: u10 :: L)) : Sub (u :: T) (u0 :: u1 :: u2 :: u3 :: u4 :: u5 :: u6 :: u7 :: u8 :: u9 :: u10 :: u :: L) := Sub.pull (A := [u0, u1, u2, u3, u4, u5, u6, u7, u8, u9, u10]) h
theorem Sub.p12 {u0 u1 u2 u3 u4 u5 u6 u7 u8 u9 u10 u11 u : U} {T L : List U} (h : Sub T (u0 :: u1 :: u2 :: u3 :: u4 :: u5 :: u6 :: u7 :: u8 :: u9 :: u10 :: u11 :: L)) : Sub (u :: T) (u0 :: u1 :: u2 :: u3 :: u4 :: u5 :: u6 :: u7 :: u8 :: u9 :: u10 :: u11 :: u :: L) := Sub.pull (A := [u0, u1, u2, u3, u4, u5, u6, u7, u8, u9, u10, u11]) h
theorem Sub.p13 {u0 u1 u2 u3 u4 u5 u6 u7 u8 u9 u10 u11 u12 u : U} {T L : List U} (h : Sub T (u0 :: u1 :: u2 :: u3 :: u4 :: u5 :: u6 :: u7 :: u8 :: u9 :: u10 :: u11 :: u12 :: L)) : Sub (u :: T) (u0 :: u1 :: u2 :: u3 :: u4 :: u5 :: u6 :: u7 :: u8 :: u9 :: u10 :: u11 :: u12 :: u :: L) := Sub.pull (A := [u0, u1, u2, u3, u4, u5, u6, u7, u8, u9, u10, u11, u12]) h
theorem Sub.p14 {u0 u1 u2 u3 u4 u5 u6 u7 u8 u9 u10 u11 u12 u13 u : U} {T L : List U} (h : Sub T (u0 :: u1 :: u2 :: u3 :: u4 :: u5 :: u6 :: u7 :: u8 :: u9 :: u10 :: u11 :: u12 :: u13 :: L)) : Sub (u :: T) (u0 :: u1 :: u2 :: u3 :: u4 :: u5 :: u6 :: u7 :: u8 :: u9 :: u10 :: u11 :: u12 :: u13 :: u :: L) := Sub.pull (A := [u0, u1, u2, u3, u4, u5, u6, u7, u8, u9, u10, u11, u12, u13]) h
theorem Sub.p15 {u0 u1 u2 u3 u4 u5 u6 u7 u8 u9 u10 u11 u12 u13 u14 u : U} {T L : List U} (h : Sub T (u0 :: u1 :: u2 :: u3 :: u4 :: u5 :: u6 :: u7 :: u8 :: u9 :: u10 :: u11 :: u12 :: u13 :: u14 :: L)) : Sub (u :: T) (u0 :: u1 :: u2 :: u3 :: u4 :: u5 :: u6 :: u7 :: u8 :: u9 :: u10 :: u11 :: u12 :: u13 :: u14 :: u :: L) := Sub.pull (A := [u0, u1, u2, u3, u4, u5, u6, u7, u8, u9, u10, u11, u12, u13, u14]) h
/-! Steps: a reading, rule by rule, over the symbolic heap. -/
theorem Has.cut3 {H : Hp} {p q r : Addr × HO} {B : U} {L : List U} (h : Has H ((p :: q :: r :: B) :: L)) : Has H ([p] :: [q] :: [r] :: B :: L) := (Has.cut (h.cut2.sub (Sub.p2 Sub.rf))).sub (Sub.p2 (Sub.p2 (Sub.p0 (Sub.p0 Sub.rf))))
theorem Has.glue3 {H : Hp} {p q r : Addr × HO} {B : U} {L : List U} (h : Has H ([p] :: [q] :: [r] :: B :: L)) : Has H ((p :: q :: r :: B) :: L) := Has.glue2 ((Has.glue (h.sub (Sub.p2 (Sub.p2 Sub.rf)))).sub (Sub.p1 (Sub.p1 (Sub.p0 Sub.rf))))
section
variable {K : PySem.W.Frag} {σ : St} {H H1 : Hp} {L : List U} {Q : VK} {QT : Bool → Hp → Prop} {QA : List V → Hp → Prop} {QS : St → Hp → Prop} {ta tb tc te tv td ty tx : TE} {t u c : TT} {tr : TA} {v w x y z : V} {xs ys : List V} {i j n m : Int} {a b p : Addr} {f : Str} {C dx : Addr} {fs : List (Str × V)} {nx bk ct : St → Hp → Prop} {rt : VK} {s1 s2 : TS} {A B : Prop} {k : Nat} {D : Ends}
/-! ### names, constants, operators -/
theorem x_var {k : Nat} (h : σ[k]? = some (some v)) (q : Q v H) : tVar k σ H Q := ⟨v, h, q⟩
theorem x_c (q : Q v H) : tC v σ H Q := q
theorem x_op {r : R2} (q : ta σ H fun x H1 => tb σ H1 fun y H2 => r x y H2 Q) : tOp r ta tb σ H Q := q
theorem x_un {r : V → Hp → VK → Prop} (q : ta σ H fun x H1 => r x H1 Q) : tUn r ta σ H Q := q
def rAddI : R2 := rI0 fun i j => .int (i + j)
def rSubI : R2 := rI0 fun i j => .int (i - j)
def rMulI : R2 := rI CMul fun i j => .int (i * j)
def rDivI : R2 := rI CDiv fun i j => .int (i / j)
def rModI : R2 := rI (fun _ j => 0 < j) fun i j => .int (i % j)
def rPowI : R2 := rI CPow fun i j => .int (i ^ j.toNat)
def rLtI : R2 := rI0 fun i j => .bl (decide (i < j))
def rLeI : R2 := rI0 fun i j => .bl (decide (i ≤ j))
def rGtI : R2 := rI0 fun i j => .bl (decide (j < i))
def rGeI : R2 := rI0 fun i j => .bl (decide (j ≤ i))
def rIsNo : R2 := fun x y H Q => y = .non ∧ Q (.bl (decide (x = .non))) H
def rNotNo : R2 := fun x y H Q => y = .non ∧ Q (.bl (!decide (x = .non))) H
theorem op_addI {X : Cx} : OpR X (binaryOp .Add) rAddI := op_add
theorem op_subI {X : Cx} : OpR X (binaryOp .Sub) rSubI := op_sub
theorem op_mulI {X : Cx} : OpR X (binaryOp .Mult) rMulI := op_mul
theorem op_divI {X : Cx} : OpR X (binaryOp .FloorDiv) rDivI := op_fdiv
theorem op_modI {X : Cx} : OpR X (binaryOp .Mod) rModI := op_mod
theorem op_powI {X : Cx} : OpR X (binaryOp .Pow) rPowI := op_pow
theorem op_ltI {X : Cx} : OpR X (compareOp .Lt) rLtI := op_lt
theorem op_leI {X : Cx} : OpR X (compareOp .LtE) rLeI := op_le
theorem op_gtI {X : Cx} : OpR X (compareOp .Gt) rGtI := op_gt
theorem op_geI {X : Cx} : OpR X (compareOp .GtE) rGeI := op_ge
theorem op_isNo {X : Cx} : OpR X (compareOp .Is) rIsNo := op_isN
theorem op_notNo {X : Cx} : OpR X (compareOp .IsNot) rNotNo := op_notN
theorem k_addI (q : Q (.int (i + j)) H) : rAddI (.int i) (.int j) H Q := ⟨i, j, rfl, rfl, q⟩
theorem k_subI (q : Q (.int (i - j)) H) : rSubI (.int i) (.int j) H Q := ⟨i, j, rfl, rfl, q⟩
theorem k_mulI (h : CMul i j) (q : Q (.int (i * j)) H) : rMulI (.int i) (.int j) H Q := ⟨i, j, rfl, rfl, h, q⟩
theorem k_divI (h : CDiv i j) (q : Q (.int (i / j)) H) : rDivI (.int i) (.int j) H Q := ⟨i, j, rfl, rfl, h, q⟩
theorem k_modI (h : 0 < j) (q : Q (.int (i % j)) H) : rModI (.int i) (.int j) H Q := ⟨i, j, rfl, rfl, h, q⟩
theorem k_powI (h : CPow i j) (q : Q (.int (i ^ j.toNat)) H) : rPowI (.int i) (.int j) H Q := ⟨i, j, rfl, rfl, h, q⟩
theorem k_ltI (q : Q (.bl (decide (i < j))) H) : rLtI (.int i) (.int j) H Q := ⟨i, j, rfl, rfl, q⟩
theorem k_leI (q : Q (.bl (decide (i ≤ j))) H) : rLeI (.int i) (.int j) H Q := ⟨i, j, rfl, rfl, q⟩
theorem k_gtI (q : Q (.bl (decide (j < i))) H) : rGtI (.int i) (.int j) H Q := ⟨i, j, rfl, rfl, q⟩
theorem k_geI (q : Q (.bl (decide (j ≤ i))) H) : rGeI (.int i) (.int j) H Q := ⟨i, j, rfl, rfl, q⟩
theorem k_isNo (q : Q (.bl (decide (x = .non))) H) : rIsNo x .non H Q := ⟨rfl, q⟩
theorem k_isNo0 (q : Q (.bl true) H) : rIsNo .non .non H Q := ⟨rfl, q⟩
theorem k_isNoI (q : Q (.bl false) H) : rIsNo (.int i) .non H Q := ⟨rfl, q⟩
theorem k_isNoR (q : Q (.bl false) H) : rIsNo (.ref a) .non H Q := ⟨rfl, q⟩
theorem k_notNo0 (q : Q (.bl false) H) : rNotNo .non .non H Q := ⟨rfl, q⟩
theorem k_notNoI (q : Q (.bl true) H) : rNotNo (.int i) .non H Q := ⟨rfl, q⟩
theorem k_notNoR (q : Q (.bl true) H) : rNotNo (.ref a) .non H Q := ⟨rfl, q⟩
theorem k_notNo (q : Q (.bl (!decide (x = .non))) H) : rNotNo x .non H Q := ⟨rfl, q⟩
theorem dI_eq : decide (V.int i = V.int j) = decide (i = j) := by
  by_cases h : i = j
  · subst h; simp
  · rw [decide_eq_false h, decide_eq_false fun q => h (V.int.inj q)]
theorem dB_eq {i j : Bool} : decide (V.bl i = V.bl j) = decide (i = j) := by
  by_cases h : i = j
  · subst h; simp
  · rw [decide_eq_false h, decide_eq_false fun q => h (V.bl.inj q)]
theorem dS_eq {i j : Str} : decide (V.str i = V.str j) = decide (i = j) := by
  by_cases h : i = j
  · subst h; simp
  · rw [decide_eq_false h, decide_eq_false fun q => h (V.str.inj q)]
theorem k_eqI (q : Q (.bl (decide (i = j))) H) : rEq (.int i) (.int j) H Q := ⟨rfl, by rw [dI_eq]; exact q⟩
theorem k_neI (q : Q (.bl (!decide (i = j))) H) : rNe (.int i) (.int j) H Q := ⟨rfl, by rw [dI_eq]; exact q⟩
theorem k_eqB {i j : Bool} (q : Q (.bl (decide (i = j))) H) : rEq (.bl i) (.bl j) H Q := ⟨rfl, by rw [dB_eq]; exact q⟩
theorem k_neB {i j : Bool} (q : Q (.bl (!decide (i = j))) H) : rNe (.bl i) (.bl j) H Q := ⟨rfl, by rw [dB_eq]; exact q⟩
theorem k_eqS {i j : Str} (q : Q (.bl (decide (i = j))) H) : rEq (.str i) (.str j) H Q := ⟨rfl, by rw [dS_eq]; exact q⟩
theorem k_neS {i j : Str} (q : Q (.bl (!decide (i = j))) H) : rNe (.str i) (.str j) H Q := ⟨rfl, by rw [dS_eq]; exact q⟩
theorem k_eqIN (q : Q (.bl false) H) : rEq (.int i) .non H Q := ⟨rfl, q⟩
theorem k_eqNI (q : Q (.bl false) H) : rEq .non (.int i) H Q := ⟨rfl, q⟩
theorem k_eqNN (q : Q (.bl true) H) : rEq .non .non H Q := ⟨rfl, q⟩
theorem k_neIN (q : Q (.bl true) H) : rNe (.int i) .non H Q := ⟨rfl, q⟩
theorem k_neNI (q : Q (.bl true) H) : rNe .non (.int i) H Q := ⟨rfl, q⟩
theorem k_neNN (q : Q (.bl false) H) : rNe .non .non H Q := ⟨rfl, q⟩
/-! ### tests -/
def kB (x : V) (H : Hp) (Q : Bool → Hp → Prop) : Prop := ∃ k, x = .bl k ∧ Q k H
theorem x_test (q : te σ H fun x H' => kB x H' QT) : tTest te σ H QT := q
theorem x_tB (q : te σ H fun x H' => kB x H' QT) : tB te σ H QT := q
theorem k_b {b : Bool} (q : QT b H) : kB (.bl b) H QT := ⟨b, rfl, q⟩
theorem x_and (q : t σ H fun c H1 => if c = true then u σ H1 QT else QT false H1) : tAnd t u σ H QT := q
theorem x_or (q : t σ H fun c H1 => if c = true then QT true H1 else u σ H1 QT) : tOr t u σ H QT := q
theorem x_not (q : t σ H fun c H1 => QT (!c) H1) : tNot t σ H QT := q
def kAndV (tb : TE) (σ : St) (x : V) (H1 : Hp) (Q : VK) : Prop := ∃ c, x = .bl c ∧ if c = true then tb σ H1 Q else Q (.bl false) H1
def kOrV (tb : TE) (σ : St) (x : V) (H1 : Hp) (Q : VK) : Prop := ∃ c, x = .bl c ∧ if c = true then Q (.bl true) H1 else tb σ H1 Q
def kNotV (x : V) (H1 : Hp) (Q : VK) : Prop := ∃ c, x = .bl c ∧ Q (.bl (!c)) H1
theorem x_andV (q : ta σ H fun x H1 => kAndV tb σ x H1 Q) : tAndV ta tb σ H Q := q
theorem x_orV (q : ta σ H fun x H1 => kOrV tb σ x H1 Q) : tOrV ta tb σ H Q := q
theorem x_notV (q : ta σ H fun x H1 => kNotV x H1 Q) : tNotV ta σ H Q := q
theorem k_andV {c : Bool} (q : if c = true then tb σ H Q else Q (.bl false) H) : kAndV tb σ (.bl c) H Q := ⟨c, rfl, q⟩
theorem k_orV {c : Bool} (q : if c = true then Q (.bl true) H else tb σ H Q) : kOrV tb σ (.bl c) H Q := ⟨c, rfl, q⟩
theorem k_notV {c : Bool} (q : Q (.bl (!c)) H) : kNotV (.bl c) H Q := ⟨c, rfl, q⟩
theorem k_notVt (q : Q (.bl false) H) : kNotV (.bl true) H Q := ⟨true, rfl, q⟩
theorem k_notVf (q : Q (.bl true) H) : kNotV (.bl false) H Q := ⟨false, rfl, q⟩
theorem x_ifE (q : t σ H fun c H1 => if c = true then ta σ H1 Q else tb σ H1 Q) : tIf t ta tb σ H Q := q
def kChain (r' : R2) (tc : TE) (σ : St) (y z : V) (H3 : Hp) (Q : VK) : Prop := ∃ k, z = .bl k ∧ (if k = true then tc σ H3 fun w' H4 => r' y w' H4 Q else Q (.bl false) H3)
theorem x_chain {r r' : R2} (q : ta σ H fun x H1 => tb σ H1 fun y H2 => r x y H2 fun z H3 => kChain r' tc σ y z H3 Q) : tChain r r' ta tb tc σ H Q := q
theorem k_chain {r' : R2} {c : Bool} (q : if c = true then tc σ H fun w' H4 => r' y w' H4 Q else Q (.bl false) H) : kChain r' tc σ y (.bl c) H Q := ⟨c, rfl, q⟩
theorem ifT (q : A) : if true = true then A else B := by rw [if_pos rfl]; exact q
theorem ifF (q : B) : if false = true then A else B := by rw [if_neg Bool.false_ne_true]; exact q
theorem ifNT (q : B) : if (!true) = true then A else B := ifF q
theorem ifNF (q : A) : if (!false) = true then A else B := ifT q
theorem ifY {c : Bool} (h : c = true) (q : A) : if c = true then A else B := by rw [if_pos h]; exact q
theorem ifN {c : Bool} (h : c = false) (q : B) : if c = true then A else B := by rw [h, if_neg Bool.false_ne_true]; exact q
theorem ifB {c : Bool} (h : c = true → A) (g : c = false → B) : if c = true then A else B := by
  cases c with
  | true => rw [if_pos rfl]; exact h rfl
  | false => rw [if_neg Bool.false_ne_true]; exact g rfl
theorem ifD {c : Prop} [Decidable c] (h : c → A) (g : ¬ c → B) : if decide c = true then A else B := ifB (fun q => h (of_decide_eq_true q)) fun q => g (of_decide_eq_false q)
theorem ifE {c : Prop} [Decidable c] (h : ¬ c → A) (g : c → B) : if (!decide c) = true then A else B := ifB (fun q => h (by simpa using q)) fun q => g (by simpa using q)
/-! ### statements -/
theorem x_seq (q : s1 ⟨s2 ⟨nx, rt, bk, ct⟩, rt, bk, ct⟩ σ H) : tSeq s1 s2 ⟨nx, rt, bk, ct⟩ σ H := q
theorem x_next (q : nx σ H) : tNext ⟨nx, rt, bk, ct⟩ σ H := q
theorem x_brk (q : bk σ H) : tBreak ⟨nx, rt, bk, ct⟩ σ H := q
theorem x_ct (q : ct σ H) : tCont ⟨nx, rt, bk, ct⟩ σ H := q
theorem x_drop (q : te σ H fun _ H1 => nx σ H1) : tDrop te ⟨nx, rt, bk, ct⟩ σ H := q
theorem x_ret (q : te σ H rt) : tRet te ⟨nx, rt, bk, ct⟩ σ H := q
theorem x_retN (q : rt .non H) : tRetN ⟨nx, rt, bk, ct⟩ σ H := q
theorem x_if (q : c σ H fun b H1 => if b = true then s1 ⟨nx, rt, bk, ct⟩ σ H1 else s2 ⟨nx, rt, bk, ct⟩ σ H1) : tIfS c s1 s2 ⟨nx, rt, bk, ct⟩ σ H := q
theorem x_asg {g : TG} (q : te σ H fun x H1 => g x σ H1 nx) : tAsg te g ⟨nx, rt, bk, ct⟩ σ H := q
theorem x_gname {k : Nat} (q : QS (σ.set k (some v)) H) : gName k v σ H QS := q
theorem x_gtup {k : Nat} {g : TGs} (hp : H a = some (.tup xs)) (hl : xs.length = k) (q : g xs σ H QS) : gTup K k g (.ref a) σ H QS := ⟨a, xs, rfl, SqT.of hp, hl, q⟩
theorem x_gcons {g : TG} {gs : TGs} (q : g v σ H fun σ' H' => gs xs σ' H' QS) : gCons g gs (v :: xs) σ H QS := ⟨v, xs, rfl, q⟩
theorem x_gnil (q : QS σ H) : gNil [] σ H QS := ⟨rfl, q⟩
theorem x_gsub {s : TSet} (q : ta σ H fun o H1 => tb σ H1 fun i H2 => s o i v H2 fun H3 => QS σ H3) : gSub ta tb s v σ H QS := q
theorem k_setL {Q : Hp → Prop} {k : Nat} {M : List U} (hp : H p = some (.lst xs)) (hk : ixN xs.length i = some k) (hh : Has (upd H p (.lst (xs.set k v))) M) (q : ∀ H', Has H' M → Q H') : rSetL (.ref p) (.int i) v H Q := ⟨p, xs, i, k, rfl, rfl, hp, hk, q _ hh⟩
def kPar (i j : Nat) (nx : St → Hp → Prop) (σ : St) (vs : List V) (H1 : Hp) : Prop := ∃ v w, vs = [v, w] ∧ nx ((σ.set i (some v)).set j (some w)) H1
theorem x_par {i j : Nat} (q : tr σ H fun vs H1 => kPar i j nx σ vs H1) : tPar i j tr ⟨nx, rt, bk, ct⟩ σ H := q
theorem k_par {i j : Nat} (q : nx ((σ.set i (some v)).set j (some w)) H) : kPar i j nx σ [v, w] H := ⟨v, w, rfl, q⟩
/-! ### fields -/
def kFld (K : PySem.W.Frag) (f : Str) (x : V) (H1 : Hp) (Q : VK) : Prop := ∃ a C dx fs v, x = .ref a ∧ H1 a = some (.ins C dx fs) ∧ Cls K C ∧ NoAttr K C f ∧ fs.lookup f = some v ∧ Q v H1
theorem x_fld (q : ta σ H fun x H1 => kFld K f x H1 Q) : tFld K ta f σ H Q := q
theorem k_fld (hp : H a = some (.ins C dx fs)) (hc : Cls K C) (hn : NoAttr K C f) (hl : fs.lookup f = some v) (q : Q v H) : kFld K f (.ref a) H Q := ⟨a, C, dx, fs, v, rfl, hp, hc, hn, hl, q⟩
def kSFld (K : PySem.W.Frag) (f : Str) (nx : St → Hp → Prop) (σ : St) (y x : V) (H2 : Hp) : Prop := ∃ a C dx fs, x = .ref a ∧ H2 a = some (.ins C dx fs) ∧ Cls K C ∧ NoAttr K C f ∧ fs.length < 1000 ∧ nx σ (upd H2 a (.ins C dx (putF f y fs)))
theorem x_sfld (q : tv σ H fun y H1 => ta σ H1 fun x H2 => kSFld K f nx σ y x H2) : sFld K ta tv f ⟨nx, rt, bk, ct⟩ σ H := q
theorem k_sfld {M : List U} {gs : List (Str × V)} (hp : H a = some (.ins C dx fs)) (hc : Cls K C) (hn : NoAttr K C f) (hl : fs.length < 1000) (he : putF f y fs = gs) (hh : Has (upd H a (.ins C dx gs)) M) (q : ∀ H', Has H' M → nx σ H') : kSFld K f nx σ y (.ref a) H :=
  ⟨a, C, dx, fs, rfl, hp, hc, hn, hl, by rw [he]; exact q _ hh⟩
/-! ### lists, tuples -/
theorem x_nil (q : QA [] H) : tNil σ H QA := q
theorem x_cons (q : ta σ H fun x H1 => tr σ H1 fun xs H2 => QA (x :: xs) H2) : tCons ta tr σ H QA := q
def kLst (xs : List V) (H1 : Hp) (Q : VK) : Prop := xs.length ≤ sizeLine ∧ ∀ p, H1 p = none → Q (.ref p) (upd H1 p (.lst xs))
def kTupN (xs : List V) (H1 : Hp) (Q : VK) : Prop := xs.length ≤ sizeLine ∧ ∀ p, H1 p = none → Q (.ref p) (upd H1 p (.tup xs))
theorem x_lst (q : tr σ H fun xs H1 => kLst xs H1 Q) : tLst tr σ H Q := q
theorem x_tup (q : tr σ H fun xs H1 => kTupN xs H1 Q) : tTup tr σ H Q := q
theorem k_lst (hh : Has H L) (hl : xs.length ≤ sizeLine) (q : ∀ p H', Has H' ([(p, .lst xs)] :: L) → Q (.ref p) H') : kLst xs H Q := ⟨hl, fun p hp => q p _ (hh.nw hp)⟩
theorem k_tupN (hh : Has H L) (hl : xs.length ≤ sizeLine) (q : ∀ p H', Has H' ([(p, .tup xs)] :: L) → Q (.ref p) H') : kTupN xs H Q := ⟨hl, fun p hp => q p _ (hh.nw hp)⟩
theorem k_ixL (hp : H p = some (.lst xs)) (hi : atI xs i = some v) (q : Q v H) : rIxL K (.ref p) (.int i) H Q := ⟨p, xs, i, v, rfl, rfl, SqL.of hp, hi, q⟩
theorem k_ixT (hp : H p = some (.tup xs)) (hi : atI xs i = some v) (q : Q v H) : rIxT K (.ref p) (.int i) H Q := ⟨p, xs, i, v, rfl, rfl, SqT.of hp, hi, q⟩
theorem at_n {α : Type} {zs : List α} {d : Int} {v : α} (h0 : 0 ≤ d) (h : zs[d.toNat]? = some v) : atI zs d = some v := by
  obtain ⟨j, rfl⟩ := Int.eq_ofNat_of_zero_le h0
  exact atI_nat h
def kTy (K : PySem.W.Frag) (T : String) (x : V) (H1 : Hp) (A : Prop) : Prop := tyV K T x H1 ∧ A
theorem x_bm {T : String} {r : V → List V → Hp → VK → Prop} (q : ta σ H fun x H1 => kTy K T x H1 (tr σ H1 fun xs H2 => r x xs H2 Q)) : tBM K T r ta tr σ H Q := q
theorem x_bm0 {T : String} {r : V → List V → Hp → VK → Prop} (q : ta σ H fun x H1 => kTy K T x H1 (r x [] H1 Q)) : tBM0 K T r ta σ H Q := q
theorem k_tyL (hp : H a = some (.lst xs)) (q : A) : kTy K "list" (.ref a) H A := ⟨.inl ⟨rfl, _, SqL.of hp⟩, q⟩
theorem k_app {M : List U} (hp : H a = some (.lst xs)) (hl : xs.length < sizeLine) (hh : Has (upd H a (.lst (xs ++ [v]))) M) (q : ∀ H', Has H' M → Q .non H') : rAppend (.ref a) [v] H Q := ⟨a, xs, v, rfl, rfl, hp, hl, q _ hh⟩
theorem k_pop {M : List U} (hp : H a = some (.lst xs)) (hl : xs[xs.length - 1]? = some y) (hh : Has (upd H a (.lst xs.dropLast)) M) (q : ∀ H', Has H' M → Q y H') : rPop (.ref a) [] H Q := ⟨a, xs, y, rfl, rfl, hp, hl, q _ hh⟩
theorem k_cat (hh : Has H L) (hp : H a = some (.lst xs)) (hq : H b = some (.lst ys)) (hl : xs.length + ys.length ≤ sizeLine) (q : ∀ p H', Has H' ([(p, .lst (xs ++ ys))] :: L) → Q (.ref p) H') : rCat (.ref a) (.ref b) H Q :=
  ⟨a, b, xs, ys, rfl, rfl, hp, hq, hl, fun p hp => q p _ (hh.nw hp)⟩
theorem k_rep (hh : Has H L) (hp : H a = some (.lst [v])) (h0 : 0 ≤ i) (h1 : i ≤ 100000) (q : ∀ p H', Has H' ([(p, .lst (List.replicate i.toNat v))] :: L) → Q (.ref p) H') : rRep (.ref a) (.int i) H Q := by
  have e : (List.replicate i.toNat [v]).flatten = List.replicate i.toNat v := by
    generalize i.toNat = n
    induction n with
    | zero => rfl
    | succ n ih => rw [List.replicate_succ, List.flatten_cons, ih]; rfl
  refine ⟨a, i, [v], rfl, rfl, hp, by omega, by omega, ?_, fun p hp => ?_⟩
  · rw [sizeLine_eq]; show 1 * i.toNat ≤ _; omega
  · rw [e]; exact q p _ (hh.nw hp)
def kRg (Qr : Int → Int → Hp → Prop) (x : V) (H1 : Hp) : Prop := ∃ n, x = .int n ∧ Qr 0 n H1
def kLstRg (a b : Int) (H1 : Hp) (Q : VK) : Prop := RgOk a b ∧ ∀ q, H1 q = none → Q (.ref q) (upd H1 q (.lst (rgV a b)))
theorem x_rg1 {Qr : Int → Int → Hp → Prop} (q : ta σ H fun x H1 => kRg Qr x H1) : tRg1 ta σ H Qr := q
theorem k_rg1 {Qr : Int → Int → Hp → Prop} (q : Qr 0 i H) : kRg Qr (.int i) H := ⟨i, rfl, q⟩
theorem x_lstRg {te : St → Hp → (Int → Int → Hp → Prop) → Prop} (q : te σ H fun a b H1 => kLstRg a b H1 Q) : tLstRg te σ H Q := q
def rgI (n : Int) : List Int := (List.range n.toNat).map fun (i : Nat) => (i : Int)
theorem rgV_I (n : Int) : rgV 0 n = (rgI n).map V.int := by
  unfold rgV rgI
  rw [List.map_map, Int.sub_zero]
  refine List.map_congr_left fun i _ => ?_
  show V.int (0 + (i : Int)) = V.int i
  rw [Int.zero_add]
theorem rgI_len (n : Int) : (rgI n).length = n.toNat := by unfold rgI; rw [List.length_map, List.length_range]
theorem k_lstRg (hh : Has H L) (h0 : 0 ≤ n) (h1 : n ≤ 100000) (q : ∀ p H', Has H' ([(p, .lst ((rgI n).map V.int))] :: L) → Q (.ref p) H') : kLstRg 0 n H Q :=
  ⟨RgOk.of_le (by omega) (by omega) (by omega) h0, fun p hp => by rw [rgV_I]; exact q p _ (hh.nw hp)⟩
/-! ### calls of built-ins -/
theorem x_cb {r : List V → Hp → VK → Prop} (q : tr σ H fun vs H1 => r vs H1 Q) : tCB r tr σ H Q := q
def rLenQ (K : PySem.W.Frag) : List V → Hp → VK → Prop := fun xs H Q => ∃ p ys, xs = [.ref p] ∧ (SqL K H p ys ∨ SqT K H p ys) ∧ Q (.int ys.length) H
theorem call_lenQ {X : Cx} : CallR X (.builtin "len") (rLenQ X.K) := call_len_seq
theorem k_lenL (hp : H p = some (.lst xs)) (q : Q (.int xs.length) H) : rLenQ K [.ref p] H Q := ⟨p, xs, rfl, .inl (SqL.of hp), q⟩
theorem k_lenT (hp : H p = some (.tup xs)) (q : Q (.int xs.length) H) : rLenQ K [.ref p] H Q := ⟨p, xs, rfl, .inr (SqT.of hp), q⟩
def rLenK : List V → Hp → VK → Prop := fun xs H Q => ∃ a kvs, xs = [V.ref a] ∧ H a = some (.dK kvs) ∧ Q (.int kvs.length) H
theorem call_lenK {X : Cx} : CallR X (.builtin "len") rLenK := call_lenD
theorem k_lenK {kvs : List (Key × V)} (hp : H p = some (.dK kvs)) (q : Q (.int kvs.length) H) : rLenK [.ref p] H Q := ⟨p, kvs, rfl, hp, q⟩
theorem k_isi {ta' tb' : String} {r : Bool} (hx : TyOf K H x (.type ta')) (hk : kitB ta' tb' = some r) (q : Q (.bl r) H) : rIsi K [x, .ty tb'] H Q := ⟨x, .ty tb', .type ta', .type tb', r, rfl, .ty tb', .base hx, kit_ty hk, q⟩
theorem kb_ii : kitB "int" "int" = some true := by decide +kernel
theorem kb_ib : kitB "int" "bool" = some false := by decide +kernel
theorem kb_bi : kitB "bool" "int" = some true := by decide +kernel
theorem kb_bb : kitB "bool" "bool" = some true := by decide +kernel
theorem kb_ll : kitB "list" "list" = some true := by decide +kernel
theorem kb_tt : kitB "tuple" "tuple" = some true := by decide +kernel
theorem k_isiII (q : Q (.bl true) H) : rIsi K [.int i, .ty "int"] H Q := k_isi (.int i) kb_ii q
theorem k_isiIB (q : Q (.bl false) H) : rIsi K [.int i, .ty "bool"] H Q := k_isi (.int i) kb_ib q
theorem k_isiBI {b : Bool} (q : Q (.bl true) H) : rIsi K [.bl b, .ty "int"] H Q := k_isi (.bl b) kb_bi q
theorem k_isiBB {b : Bool} (q : Q (.bl true) H) : rIsi K [.bl b, .ty "bool"] H Q := k_isi (.bl b) kb_bb q
theorem k_isiLL (hp : H p = some (.lst xs)) (q : Q (.bl true) H) : rIsi K [.ref p, .ty "list"] H Q := k_isi (.lst hp) kb_ll q
theorem k_isiTT (hp : H p = some (.tup xs)) (q : Q (.bl true) H) : rIsi K [.ref p, .ty "tuple"] H Q := k_isi (.tup hp) kb_tt q
theorem k_all {bs : List Bool} (hp : H p = some (.lst (bs.map V.bl))) (q : Q (.bl (bs.all id)) H) : rAll K [.ref p] H Q := ⟨p, bs, rfl, SqL.of hp, q⟩
theorem k_sum {ns : List Int} (hp : H p = some (.lst (ns.map V.int))) (q : Q (.int ns.sum) H) : rSum K [.ref p] H Q := ⟨p, ns, rfl, SqL.of hp, q⟩
def rSortD : List V → Hp → VK → Prop := fun xs H Q => ∃ (a : Addr) (kvs : List (Key × V)) (ks : List Int), xs = [.ref a] ∧ Rd H a (.dK kvs) ∧ kvs.map (·.1) = ks.map Sum.inl ∧ ks.length < 64 ∧
    ∀ (ys : List Int) (p : Addr), ys.Perm ks → ys.Pairwise (· ≤ ·) → H p = none → Q (.ref p) (upd H p (.lst (ys.map V.int)))
theorem call_sortD {X : Cx} (hc : X.calm = true) : CallR X (.builtin "sorted") rSortD := call_sortedDI hc
def rListOf (K : PySem.W.Frag) : List V → Hp → VK → Prop := fun xs H Q => ∃ p ys, xs = [.ref p] ∧ (SqL K H p ys ∨ SqT K H p ys) ∧ ∀ l, H l = none → Q (.ref l) (upd H l (.lst ys))
theorem call_listOf {X : Cx} : CallR X (.type "list") (rListOf X.K) := call_list_of
theorem k_listOf (hh : Has H L) (hp : H p = some (.lst xs)) (q : ∀ p H', Has H' ([(p, .lst xs)] :: L) → Q (.ref p) H') : rListOf K [.ref p] H Q := ⟨p, xs, rfl, .inl (SqL.of hp), fun l hl => q l _ (hh.nw hl)⟩
theorem k_listOfS (hh : Has H L) (hp : SqL K H p xs) (q : ∀ p H', Has H' ([(p, .lst xs)] :: L) → Q (.ref p) H') : rListOf K [.ref p] H Q := ⟨p, xs, rfl, .inl hp, fun l hl => q l _ (hh.nw hl)⟩
def rDictP (K : PySem.W.Frag) : List V → Hp → VK → Prop := fun xs H Q => ∃ (a : Addr) (ps : List Addr) (kvs : List (Key × V)), xs = [.ref a] ∧ SqL K H a (ps.map V.ref) ∧ Paired (fun p kv => SqT K H p [kV kv.1, kv.2]) ps kvs ∧
    ∀ p, H p = none → Q (.ref p) (upd H p (.dK (mergeK [] kvs)))
theorem call_dictPr {X : Cx} (hc : X.calm = true) : CallR X (.type "dict") (rDictP X.K) := call_dictP hc
theorem k_sortI {ns : List Int} (hh : Has H L) (hp : H p = some (.lst (ns.map V.int))) (q : ∀ (ys : List Int) p H', ys.Perm ns → ys.Pairwise (· ≤ ·) → Has H' ([(p, .lst (ys.map V.int))] :: L) → Q (.ref p) H') : rSortedI K [.ref p] H Q :=
  ⟨p, ns, rfl, SqL.of hp, fun ys l h1 h2 hl => q ys l _ h1 h2 (hh.nw hl)⟩
/-! ### own calls -/
theorem x_call {sp : Sp} {dvs : List V} {E : XK} (q : tr σ H fun vs H1 => sp (vs ++ dvs) H1 Q E) : tCall sp dvs E tr σ H Q := q
theorem x_call0 {sp : Sp} {E : XK} (q : tr σ H fun vs H1 => sp vs H1 Q E) : tCall sp [] E tr σ H Q := by
  have e : (fun vs H1 => sp (vs ++ []) H1 Q E) = fun vs H1 => sp vs H1 Q E := by funext vs H1; rw [List.append_nil]
  show tr σ H fun vs H1 => sp (vs ++ []) H1 Q E
  rw [e]
  exact q
def kMeth (C : Addr) (m : Str) (sp : Sp) (dvs : List V) (E : XK) (t : TA) (σ : St) (x : V) (H1 : Hp) (Q : VK) : Prop := ∃ a dx fs, x = .ref a ∧ H1 a = some (.ins C dx fs) ∧ fs.lookup m = none ∧ t σ H1 fun vs H2 => sp (x :: (vs ++ dvs)) H2 Q E
theorem x_meth {m : Str} {sp : Sp} {dvs : List V} {E : XK} (q : ta σ H fun x H1 => kMeth C m sp dvs E tr σ x H1 Q) : tMeth C m sp dvs E ta tr σ H Q := q
theorem k_meth {m : Str} {sp : Sp} {dvs : List V} {E : XK} (hp : H a = some (.ins C dx fs)) (hl : fs.lookup m = none) (q : tr σ H fun vs H2 => sp (.ref a :: (vs ++ dvs)) H2 Q E) : kMeth C m sp dvs E tr σ (.ref a) H Q := ⟨a, dx, fs, rfl, hp, hl, q⟩
theorem k_meth0 {m : Str} {sp : Sp} {E : XK} (hp : H a = some (.ins C dx fs)) (hl : fs.lookup m = none) (q : tr σ H fun vs H2 => sp (.ref a :: vs) H2 Q E) : kMeth C m sp [] E tr σ (.ref a) H Q := by
  have e : (fun vs H2 => sp (.ref a :: (vs ++ [])) H2 Q E) = fun vs H2 => sp (.ref a :: vs) H2 Q E := by funext vs H1; rw [List.append_nil]
  refine ⟨a, dx, fs, rfl, hp, hl, ?_⟩
  rw [e]
  exact q
def kMake (C : Addr) (sp : Sp) (dvs : List V) (E : XK) (vs : List V) (H1 : Hp) (Q : VK) : Prop := ∀ x dx, H1 x = none → H1 dx = none → dx ≠ x → sp (.ref x :: (vs ++ dvs)) (upd (upd H1 dx (.own x)) x (.ins C dx [])) (fun v H2 => v = .non ∧ Q (.ref x) H2) E
theorem x_make {sp : Sp} {dvs : List V} {E : XK} (q : tr σ H fun vs H1 => kMake C sp dvs E vs H1 Q) : tMake C sp dvs E tr σ H Q := q
theorem k_make {sp : Sp} {dvs vs : List V} {E : XK} (hh : Has H L) (q : ∀ x dx H', Has H' ([(x, .ins C dx [])] :: L) → sp (.ref x :: (vs ++ dvs)) H' (fun v H2 => v = .non ∧ Q (.ref x) H2) E) : kMake C sp dvs E vs H Q :=
  fun x dx hx hd ne => q x dx _ ((hh.nw hd (o := .own x)).nw (p := x) (o := .ins C dx []) (by rw [upd_ne (Ne.symm ne)]; exact hx) |>.sub (Sub.p0 (Sub.skip Sub.rf)))
theorem k_make0 {sp : Sp} {vs : List V} {E : XK} (hh : Has H L) (q : ∀ x dx H', Has H' ([(x, .ins C dx [])] :: L) → sp (.ref x :: vs) H' (fun v H2 => v = .non ∧ Q (.ref x) H2) E) : kMake C sp [] E vs H Q :=
  k_make hh (by rw [List.append_nil]; exact q)
/-! ### dicts with int keys, with keys that are pairs of ints -/
section
variable {κ κ' : Type} [DecidableEq κ] [DecidableEq κ']
def mk (g : κ → κ') (m : List (κ × V)) : List (κ' × V) := m.map fun p => (g p.1, p.2)
theorem mk_len (g : κ → κ') (m : List (κ × V)) : (mk g m).length = m.length := List.length_map ..
theorem mk_keys (g : κ → κ') (m : List (κ × V)) : (mk g m).map (·.1) = (m.map (·.1)).map g := by
  unfold mk
  rw [List.map_map, List.map_map]
  rfl
theorem mk_val {g : κ → κ'} (hg : ∀ a b, g a = g b → a = b) (m : List (κ × V)) (k : κ) : valV (mk g m) (g k) = valV m k := by
  induction m with
  | nil => rfl
  | cons p r ih =>
    show valV ((g p.1, p.2) :: mk g r) (g k) = _
    by_cases h : p.1 = k
    · rw [valV_pos (p := (g p.1, p.2)) (congrArg g h), valV_pos h]
    · rw [valV_neg (p := (g p.1, p.2)) (fun q => h (hg _ _ q)), valV_neg h, ih]
theorem mk_drop {g : κ → κ'} (hg : ∀ a b, g a = g b → a = b) (m : List (κ × V)) (k : κ) : dropK (mk g m) (g k) = mk g (dropK m k) := by
  induction m with
  | nil => rfl
  | cons p r ih =>
    show dropK ((g p.1, p.2) :: mk g r) (g k) = _
    by_cases h : p.1 = k
    · rw [dropK_pos (p := (g p.1, p.2)) (congrArg g h), dropK_pos h, ih]
    · rw [dropK_neg (p := (g p.1, p.2)) (fun q => h (hg _ _ q)), dropK_neg h, ih]
      rfl
theorem mk_any {g : κ → κ'} (hg : ∀ a b, g a = g b → a = b) (m : List (κ × V)) (k : κ) : ((mk g m).any fun kv => decide (kv.1 = g k)) = m.any fun kv => decide (kv.1 = k) := by
  rw [valV_any, valV_any, mk_val hg]
theorem mk_put {g : κ → κ'} (hg : ∀ a b, g a = g b → a = b) (m : List (κ × V)) (k : κ) (v : V) : putK (mk g m) (g k) v = mk g (putK m k v) := by
  unfold putK
  rw [mk_any hg]
  split
  · unfold mk
    rw [List.map_map, List.map_map]
    refine List.map_congr_left fun p _ => ?_
    show (if g p.1 = g k then (g p.1, v) else (g p.1, p.2)) = _
    by_cases h : p.1 = k
    · rw [if_pos (congrArg g h)]
      show _ = (g (if p.1 = k then (p.1, v) else p).1, (if p.1 = k then (p.1, v) else p).2)
      rw [if_pos h]
    · rw [if_neg (fun q => h (hg _ _ q))]
      show _ = (g (if p.1 = k then (p.1, v) else p).1, (if p.1 = k then (p.1, v) else p).2)
      rw [if_neg h]
  · unfold mk
    rw [List.map_append]
    rfl
end
def g1 : Int → Key := Sum.inl
def g2 (p : Int × Int) : List Key := [Sum.inl p.1, Sum.inl p.2]
theorem g1_inj : ∀ a b, g1 a = g1 b → a = b := fun _ _ h => Sum.inl.inj h
theorem g2_inj : ∀ a b, g2 a = g2 b → a = b := fun a b h => by
  obtain ⟨a1, a2⟩ := a
  obtain ⟨b1, b2⟩ := b
  unfold g2 at h
  simp only [List.cons.injEq, Sum.inl.injEq, and_true] at h
  rw [h.1, h.2]
abbrev dI (m : List (Int × V)) : HO := .dK (mk g1 m)
abbrev dP (m : List ((Int × Int) × V)) : HO := .dT (mk g2 m)
def kDGet (x y : V) (H2 : Hp) (Q : VK) : Prop := ∃ a v, x = .ref a ∧ DGet H2 a y (some v) ∧ Q v H2
theorem x_dget (q : td σ H fun x H1 => ty σ H1 fun y H2 => kDGet x y H2 Q) : tDGet td ty σ H Q := q
theorem dget_I {mm : List (Int × V)} (hp : H a = some (dI mm)) : DGet H a (.int i) (valV mm i) := by
  rw [← mk_val g1_inj mm i]
  exact DGet.k (k := g1 i) hp
theorem dget_P {mm : List ((Int × Int) × V)} (hp : H a = some (dP mm)) (hb : H b = some (.tup [.int i, .int j])) : DGet H a (.ref b) (valV mm (i, j)) := by
  rw [← mk_val g2_inj mm (i, j)]
  exact DGet.t (k := g2 (i, j)) hp hb
theorem k_dget {mm : List (Int × V)} (hp : H a = some (dI mm)) (hv : valV mm i = some v) (q : Q v H) : kDGet (.ref a) (.int i) H Q := ⟨a, v, rfl, hv ▸ dget_I hp, q⟩
theorem k_dgetP {mm : List ((Int × Int) × V)} (hp : H a = some (dP mm)) (hb : H b = some (.tup [.int i, .int j])) (hv : valV mm (i, j) = some v) (q : Q v H) : kDGet (.ref a) (.ref b) H Q := ⟨a, v, rfl, hv ▸ dget_P hp hb, q⟩
def kDIn (y x : V) (H2 : Hp) (Q : VK) : Prop := ∃ a o, x = .ref a ∧ DGet H2 a y o ∧ Q (.bl o.isSome) H2
def kDNot (y x : V) (H2 : Hp) (Q : VK) : Prop := ∃ a o, x = .ref a ∧ DGet H2 a y o ∧ Q (.bl (!o.isSome)) H2
theorem x_din (q : ty σ H fun y H1 => td σ H1 fun x H2 => kDIn y x H2 Q) : tDIn ty td σ H Q := q
theorem x_dnot (q : ty σ H fun y H1 => td σ H1 fun x H2 => kDNot y x H2 Q) : tDNotIn ty td σ H Q := q
theorem k_din {mm : List (Int × V)} (hp : H a = some (dI mm)) (q : Q (.bl (valV mm i).isSome) H) : kDIn (.int i) (.ref a) H Q := ⟨a, _, rfl, dget_I hp, q⟩
theorem k_dnot {mm : List (Int × V)} (hp : H a = some (dI mm)) (q : Q (.bl (!(valV mm i).isSome)) H) : kDNot (.int i) (.ref a) H Q := ⟨a, _, rfl, dget_I hp, q⟩
theorem k_dinP {mm : List ((Int × Int) × V)} (hp : H a = some (dP mm)) (hb : H b = some (.tup [.int i, .int j])) (q : Q (.bl (valV mm (i, j)).isSome) H) : kDIn (.ref b) (.ref a) H Q := ⟨a, _, rfl, dget_P hp hb, q⟩
theorem k_dnotP {mm : List ((Int × Int) × V)} (hp : H a = some (dP mm)) (hb : H b = some (.tup [.int i, .int j])) (q : Q (.bl (!(valV mm (i, j)).isSome)) H) : kDNot (.ref b) (.ref a) H Q := ⟨a, _, rfl, dget_P hp hb, q⟩
def kDPut (nx : St → Hp → Prop) (σ : St) (v x y : V) (H3 : Hp) : Prop := ∃ a H4, x = .ref a ∧ DPut H3 a y v H4 ∧ nx σ H4
theorem x_dput (q : tv σ H fun v H1 => td σ H1 fun x H2 => ty σ H2 fun y H3 => kDPut nx σ v x y H3) : sDPut td ty tv ⟨nx, rt, bk, ct⟩ σ H := q
theorem k_dput {mm : List (Int × V)} {M : List U} (hp : H a = some (dI mm)) (hl : mm.length < sizeLine) (hh : Has (upd H a (dI (putK mm i v))) M) (q : ∀ H', Has H' M → nx σ H') : kDPut nx σ v (.ref a) (.int i) H := by
  refine ⟨a, _, rfl, DPut.k (k := g1 i) hp (by rw [mk_len]; exact hl), ?_⟩
  rw [mk_put g1_inj]
  exact q _ hh
theorem k_dputP {mm : List ((Int × Int) × V)} {M : List U} (hp : H a = some (dP mm)) (hb : H b = some (.tup [.int i, .int j])) (hl : mm.length < sizeLine) (hh : Has (upd H a (dP (putK mm (i, j) v))) M) (q : ∀ H', Has H' M → nx σ H') : kDPut nx σ v (.ref a) (.ref b) H := by
  refine ⟨a, _, rfl, DPut.t (k := g2 (i, j)) hp hb (by rw [mk_len]; exact hl), ?_⟩
  rw [mk_put g2_inj]
  exact q _ hh
def kIsD (x : V) (H1 : Hp) (F : Addr → Prop) : Prop := ∃ a, x = .ref a ∧ IsD H1 a ∧ F a
theorem k_isD {kvs : List (Key × V)} {F : Addr → Prop} (hp : H a = some (.dK kvs)) (q : F a) : kIsD (.ref a) H F := ⟨a, rfl, .inl ⟨kvs, .inl hp⟩, q⟩
theorem k_isDT {kvs : List (List Key × V)} {F : Addr → Prop} (hp : H a = some (.dT kvs)) (q : F a) : kIsD (.ref a) H F := ⟨a, rfl, .inr ⟨kvs, .inl hp⟩, q⟩
def kDPop (a : Addr) (y : V) (H2 : Hp) (Q : VK) : Prop := ∃ kvs k v, H2 a = some (.dK kvs) ∧ y = kV k ∧ valV kvs k = some v ∧ Q v (upd H2 a (.dK (dropK kvs k)))
theorem x_dpop1 (q : td σ H fun x H1 => kIsD x H1 fun a => ty σ H1 fun y H2 => kDPop a y H2 Q) : tDPop1 td ty σ H Q := q
theorem k_dpop1 {mm : List (Int × V)} {M : List U} (hp : H a = some (dI mm)) (hv : valV mm i = some v) (hh : Has (upd H a (dI (dropK mm i))) M) (q : ∀ H', Has H' M → Q v H') : kDPop a (.int i) H Q := by
  refine ⟨_, g1 i, v, hp, rfl, by rw [mk_val g1_inj]; exact hv, ?_⟩
  rw [mk_drop g1_inj]
  exact q _ hh
def kDGet2 (a : Addr) (y z : V) (H3 : Hp) (Q : VK) : Prop := ∃ o, DGet H3 a y o ∧ Q (o.getD z) H3
theorem x_dget2 (q : td σ H fun x H1 => kIsD x H1 fun a => ty σ H1 fun y H2 => tx σ H2 fun z H3 => kDGet2 a y z H3 Q) : tDGet2 td ty tx σ H Q := q
theorem k_dget2 {mm : List (Int × V)} (hp : H a = some (dI mm)) (q : Q ((valV mm i).getD z) H) : kDGet2 a (.int i) z H Q := ⟨_, dget_I hp, q⟩
theorem k_dget2P {mm : List ((Int × Int) × V)} (hp : H a = some (dP mm)) (hb : H b = some (.tup [.int i, .int j])) (q : Q ((valV mm (i, j)).getD z) H) : kDGet2 a (.ref b) z H Q := ⟨_, dget_P hp hb, q⟩
def kDGet1 (a : Addr) (y : V) (H3 : Hp) (Q : VK) : Prop := ∃ o, DGet H3 a y o ∧ Q (o.getD .non) H3
theorem x_dget1 (q : td σ H fun x H1 => kIsD x H1 fun a => ty σ H1 fun y H2 => kDGet1 a y H2 Q) : tDGet1 td ty σ H Q := q
theorem k_dget1 {mm : List (Int × V)} (hp : H a = some (dI mm)) (q : Q ((valV mm i).getD .non) H) : kDGet1 a (.int i) H Q := ⟨_, dget_I hp, q⟩
theorem x_dnewK (hh : Has H L) (q : ∀ p H', Has H' ([(p, dI [])] :: L) → Q (.ref p) H') : tDNewK σ H Q := fun p hp => q p _ (hh.nw hp)
theorem x_dnewT (hh : Has H L) (q : ∀ p H', Has H' ([(p, dP [])] :: L) → Q (.ref p) H') : tDNewT σ H Q := fun p hp => q p _ (hh.nw hp)
theorem k_sortD {mm : List (Int × V)} (hh : Has H L) (hp : H p = some (dI mm)) (hl : mm.length < 64) (q : ∀ (ys : List Int) p H', ys.Perm (mm.map (·.1)) → ys.Pairwise (· ≤ ·) → Has H' ([(p, .lst (ys.map V.int))] :: L) → Q (.ref p) H') : rSortD [.ref p] H Q :=
  ⟨p, _, mm.map (fun (x : Int × V) => x.1), rfl, .inl hp, (by have e := mk_keys g1 mm; exact e), by rw [List.length_map]; exact hl, fun ys l h1 h2 hl => q ys l _ h1 h2 (hh.nw hl)⟩
/-! ### == of data -/
theorem dpAll_ints (ns : List Int) : DpAll K H (ns.map V.int) (ns.map PyData.int) := by
  induction ns with
  | nil => exact .nil
  | cons n r ih => exact .cons (.int n) ih
theorem eqv_ints (ns : List Int) : ∀ ms : List Int, PyData.eqv (.list (ns.map PyData.int)) (.list (ms.map PyData.int)) = decide (ns = ms) := by
  induction ns with
  | nil =>
    intro ms
    cases ms with
    | nil => rfl
    | cons m r => rfl
  | cons n r ih =>
    intro ms
    cases ms with
    | nil => rfl
    | cons m s =>
      have h := ih s
      simp [PyData.eqv, PyData.eqvAll] at h ⊢
      rw [h]
      by_cases e1 : n = m
      · subst e1; by_cases e2 : r = s <;> simp [e2]
      · simp [e1]
theorem lay_ints (ns : List Int) : PyData.canLayAll0 (ns.map PyData.int) = true := by
  induction ns with
  | nil => simp [PyData.canLayAll0]
  | cons n r ih => simp [PyData.canLayAll0, PyData.canLay0, ih]
theorem deep_ints (ns : List Int) : PyData.depthAll (ns.map PyData.int) ≤ 1 := by
  induction ns with
  | nil => simp [PyData.depthAll]
  | cons n r ih => simp [PyData.depthAll, PyData.depth, ih]
theorem shaped_ints (ns : List Int) : SeqAt.shaped (.list (ns.map PyData.int)) = true := by
  have h := deep_ints ns
  simp [SeqAt.shaped, PyData.canLay0, lay_ints, PyData.depth]
  omega
theorem k_eqLI {ns ms : List Int} (hp : H a = some (.lst (ns.map V.int))) (hq : H b = some (.lst (ms.map V.int))) (q : Q (.bl (decide (ns = ms))) H) : rEqD K (.ref a) (.ref b) H Q :=
  ⟨_, _, .lst (SqL.of hp) (dpAll_ints ns), .lst (SqL.of hq) (dpAll_ints ms), shaped_ints ns, shaped_ints ms, by rw [eqv_ints]; exact q⟩
theorem k_neLI {ns ms : List Int} (hp : H a = some (.lst (ns.map V.int))) (hq : H b = some (.lst (ms.map V.int))) (q : Q (.bl (!decide (ns = ms))) H) : rNeD K (.ref a) (.ref b) H Q :=
  ⟨_, _, .lst (SqL.of hp) (dpAll_ints ns), .lst (SqL.of hq) (dpAll_ints ms), shaped_ints ns, shaped_ints ms, by rw [eqv_ints]; exact q⟩
theorem k_eqLN {ns : List Int} (hp : H a = some (.lst (ns.map V.int))) (hq : H b = some (.lst [])) (q : Q (.bl (decide (ns = []))) H) : rEqD K (.ref a) (.ref b) H Q := k_eqLI (ms := []) hp hq q
theorem k_neLN {ns : List Int} (hp : H a = some (.lst (ns.map V.int))) (hq : H b = some (.lst [])) (q : Q (.bl (!decide (ns = []))) H) : rNeD K (.ref a) (.ref b) H Q := k_neLI (ms := []) hp hq q
/-! ### loops -/
def kForR (k : Nat) (tb : TS) (nx : St → Hp → Prop) (rt : VK) (σ : St) (vs : List V) (H1 : Hp) : Prop := ∃ j : Int, vs = [.int j] ∧ -(2 ^ 62) ≤ j ∧ j < 2 ^ 62 ∧ ∃ W : Nat → Nat → St → Hp → Prop, (∃ m, W 0 m σ H1) ∧ ∀ i m σ H, W i m σ H →
  ((Itr 0 j.toNat).stop i H ∧ nx σ H) ∨ ((Itr 0 j.toNat).go i H ∧ ∃ N : St → Hp → Prop, (∀ σ' H', N σ' H' → ∃ m', m' < m ∧ W (i + 1) m' σ' H') ∧ ∀ x H', (Itr 0 j.toNat).yld i H x H' → gName k x σ H' fun σ2 H2 => tb ⟨N, rt, nx, N⟩ σ2 H2)
theorem x_forR {k : Nat} (q : tr σ H fun vs H1 => kForR k s1 nx rt σ vs H1) : tFor (iRng1 tr) (gName k) s1 ⟨nx, rt, bk, ct⟩ σ H := q
theorem k_forR {k : Nat} (Pv : Nat → St → Hp → Prop) (h0 : Pv 0 σ H) (hn : 0 ≤ n ∧ n ≤ 100000) (hs : ∀ (i : Nat) σ H, (i : Int) < n → Pv i σ H → s1 ⟨Pv (i + 1), rt, nx, Pv (i + 1)⟩ (σ.set k (some (.int i))) H) (hd : ∀ σ H, Pv n.toNat σ H → nx σ H) : kForR k s1 nx rt σ [.int n] H := by
  refine ⟨n, rfl, by omega, by omega, for_range (g := gName k) (tb := s1) (D := ⟨nx, rt, fun _ _ => False, fun _ _ => False⟩) Pv h0 (fun i σ' H' hi p => ?_) hd⟩
  show s1 ⟨Pv (i + 1), rt, nx, Pv (i + 1)⟩ (σ'.set k (some (.int (0 + (i : Int))))) H'
  rw [Int.zero_add]
  exact hs i σ' H' (by omega) p
def kForL (K : PySem.W.Frag) (g : TG) (tb : TS) (nx : St → Hp → Prop) (rt : VK) (σ : St) (x : V) (H1 : Hp) : Prop := ∃ a, x = .ref a ∧ (∃ xs, SqL K H1 a xs) ∧ ∃ W : Nat → Nat → St → Hp → Prop, (∃ m, W 0 m σ H1) ∧ ∀ i m σ H, W i m σ H →
  ((Itl K a).stop i H ∧ nx σ H) ∨ ((Itl K a).go i H ∧ ∃ N : St → Hp → Prop, (∀ σ' H', N σ' H' → ∃ m', m' < m ∧ W (i + 1) m' σ' H') ∧ ∀ x H', (Itl K a).yld i H x H' → g x σ H' fun σ2 H2 => tb ⟨N, rt, nx, N⟩ σ2 H2)
theorem x_forL {g : TG} (q : te σ H fun x H1 => kForL K g s1 nx rt σ x H1) : tFor (iList K te) g s1 ⟨nx, rt, bk, ct⟩ σ H := q
theorem k_forL {g : TG} (Pv : Nat → St → Hp → Prop) (hp : H a = some (.lst xs)) (h0 : Pv 0 σ H) (hl : ∀ i σ H, Pv i σ H → H a = some (.lst xs)) (hs : ∀ (i : Nat) x σ H, xs[i]? = some x → Pv i σ H → g x σ H fun σ2 H2 => s1 ⟨Pv (i + 1), rt, nx, Pv (i + 1)⟩ σ2 H2) (hd : ∀ σ H, Pv xs.length σ H → nx σ H) : kForL K g s1 nx rt σ (.ref a) H :=
  ⟨a, rfl, ⟨xs, SqL.of hp⟩, for_list (K := K) (xs := xs) (tb := s1) (D := ⟨nx, rt, fun _ _ => False, fun _ _ => False⟩) Pv h0 (fun i σ H _ p => SqL.of (hl i σ H p)) hs hd⟩
/-! ### comprehensions -/
def kLc (g : TG) (tt : TT) (te : TE) (vs : List Nat) (σ : St) (J : It) (H1 : Hp) (Q : VK) : Prop := ∀ D, H1 D = none → ∃ W : Nat → Nat → Hp → Prop, (∃ m, W 0 m (upd H1 D (.lst []))) ∧ ∀ i m H, W i m H →
  (J.stop i H ∧ Q (.ref D) H) ∨ (J.go i H ∧ ∃ Nx : Hp → Prop, (∀ H', Nx H' → ∃ m', m' < m ∧ W (i + 1) m' H') ∧ ∀ x H', J.yld i H x H' → g x (wipe σ vs) H' fun σ2 H2 => wipe σ2 vs = wipe σ vs ∧ tt σ2 H2 fun b H3 =>
    if b = true then te σ2 H3 fun y H4 => ∃ acc, H4 D = some (.lst acc) ∧ acc.length < sizeLine ∧ Nx (upd H4 D (.lst (acc ++ [y]))) else Nx H3)
/-- what a comprehension's turn wants behind its element y: the list at D one longer, and J of that -/
def kAdd (D : Addr) (Nx : Hp → Prop) (y : V) (H4 : Hp) : Prop := ∃ acc, H4 D = some (.lst acc) ∧ acc.length < sizeLine ∧ Nx (upd H4 D (.lst (acc ++ [y])))
theorem k_add {Nx : Hp → Prop} {M : List U} (hp : H p = some (.lst xs)) (hl : xs.length < sizeLine) (hh : Has (upd H p (.lst (xs ++ [y]))) M) (q : ∀ H', Has H' M → Nx H') : kAdd p Nx y H := ⟨xs, hp, hl, q _ hh⟩
def kLcL (K : PySem.W.Frag) (g : TG) (tt : TT) (te : TE) (vs : List Nat) (σ : St) (x : V) (H1 : Hp) (Q : VK) : Prop := ∃ a, x = .ref a ∧ (∃ xs, SqL K H1 a xs) ∧ kLc g tt te vs σ (Itl K a) H1 Q
theorem x_lcL {g : TG} {tt : TT} {vs : List Nat} (q : ta σ H fun x H1 => kLcL K g tt te vs σ x H1 Q) : tLc (iList K ta) g tt te vs σ H Q := q
theorem k_lcL {g : TG} {tt : TT} {vs : List Nat} (hh : Has H L) (Pv : Addr → Nat → Hp → Prop) (hp : H a = some (.lst xs)) (h0 : ∀ D H', Has H' ([(D, .lst [])] :: L) → Pv D 0 H') (hl : ∀ D i H, Pv D i H → H a = some (.lst xs))
    (hs : ∀ D i x H, xs[i]? = some x → Pv D i H → g x (wipe σ vs) H fun σ2 H2 => wipe σ2 vs = wipe σ vs ∧ tt σ2 H2 fun b H3 => if b = true then te σ2 H3 (kAdd D (Pv D (i + 1))) else Pv D (i + 1) H3)
    (hd : ∀ D H, Pv D xs.length H → Q (.ref D) H) : kLcL K g tt te vs σ (.ref a) H Q :=
  ⟨a, rfl, ⟨xs, SqL.of hp⟩, fun D hD => lc_list (K := K) (xs := xs) (Pv D) (h0 D _ (hh.nw hD)) (fun i H _ p => SqL.of (hl D i H p)) (fun i x H hi p => hs D i x H hi p) fun H p => hd D H p⟩
def kLcR (g : TG) (tt : TT) (te : TE) (vs : List Nat) (σ : St) (us : List V) (H1 : Hp) (Q : VK) : Prop := ∃ j : Int, us = [.int j] ∧ -(2 ^ 62) ≤ j ∧ j < 2 ^ 62 ∧ kLc g tt te vs σ (Itr 0 j.toNat) H1 Q
theorem x_lcR {g : TG} {tt : TT} {vs : List Nat} (q : tr σ H fun us H1 => kLcR g tt te vs σ us H1 Q) : tLc (iRng1 tr) g tt te vs σ H Q := q
theorem k_lcR {k : Nat} {tt : TT} {vs : List Nat} (hh : Has H L) (Pv : Addr → Nat → Hp → Prop) (hn : 0 ≤ n ∧ n ≤ 100000) (h0 : ∀ D H', Has H' ([(D, .lst [])] :: L) → Pv D 0 H')
    (hs : ∀ D (i : Nat) H, (i : Int) < n → Pv D i H → gName k (.int i) (wipe σ vs) H fun σ2 H2 => wipe σ2 vs = wipe σ vs ∧ tt σ2 H2 fun b H3 => if b = true then te σ2 H3 (kAdd D (Pv D (i + 1))) else Pv D (i + 1) H3)
    (hd : ∀ D H, Pv D n.toNat H → Q (.ref D) H) : kLcR (gName k) tt te vs σ [.int n] H Q :=
  ⟨n, rfl, by omega, by omega, fun D hD => lc_range (lo := 0) (Pv D) (h0 D _ (hh.nw hD)) (fun i H hi p => by
    have q := hs D i H (by omega) p
    rw [← Int.zero_add (i : Int)] at q
    exact q) fun H p => hd D H p⟩
theorem filt_true {α : Type} (l : List α) : l.filter (fun _ => true) = l := List.filter_eq_self.mpr fun _ _ => rfl
/-- [h z for z in zs if c z], the source a list that stands in L; the test and the element may lay new things, which are let go -/
theorem k_lcF {α : Type} {k : Nat} {tt : TT} (zs : List α) (g h : α → V) (c : α → Bool) (hh : Has H L) (ha : ∀ H', Has H' L → H' a = some (.lst (zs.map g))) (hz : zs.length ≤ 100000)
    (ht : ∀ z ∈ zs, ∀ D M H' (Q' : Bool → Hp → Prop), Has H' ([(D, .lst M)] :: L) → (∀ H'', Has H'' ([(D, .lst M)] :: L) → Q' (c z) H'') → tt ((wipe σ [k]).set k (some (g z))) H' Q')
    (hs : ∀ z ∈ zs, c z = true → ∀ D M H' (Q' : VK), Has H' ([(D, .lst M)] :: L) → (∀ H'', Has H'' ([(D, .lst M)] :: L) → Q' (h z) H'') → te ((wipe σ [k]).set k (some (g z))) H' Q')
    (q : ∀ D H', Has H' ([(D, .lst ((zs.filter c).map h))] :: L) → Q (.ref D) H') : kLcL K (gName k) tt te [k] σ (.ref a) H Q := by
  have hw : ∀ x, wipe ((wipe σ [k]).set k (some x)) [k] = wipe σ [k] := fun x => by
    show ((σ.set k none).set k (some x)).set k none = σ.set k none
    rw [List.set_set, List.set_set]
  refine k_lcL (L := L) hh (fun D i H' => Has H' ([(D, .lst (((zs.take i).filter c).map h))] :: L)) (ha H hh) (fun D H' h' => h') (fun D i H' h' => ha H' (h'.sub (Sub.skip Sub.rf))) (fun D i x H' hi h' => ?_) (fun D H' h' => ?_)
  · rw [List.getElem?_map] at hi
    obtain ⟨z, hz1, rfl⟩ := Option.map_eq_some_iff.mp hi
    have hm : z ∈ zs := List.mem_of_getElem? hz1
    have et : zs.take (i + 1) = zs.take i ++ [z] := by rw [List.take_add_one, hz1]; rfl
    refine ⟨hw _, ht z hm D _ H' _ h' fun H2 h2 => ?_⟩
    refine ifB (fun e => ?_) (fun e => ?_)
    · refine hs z hm e D _ H2 _ h2 fun H3 h3 => ?_
      refine ⟨_, h3.g0, ?_, ?_⟩
      · rw [sizeLine_eq, List.length_map]
        have l1 := List.length_filter_le c (zs.take i)
        have l2 := List.length_take_le i zs
        have l3 := List.length_take_le' i zs
        omega
      · rw [et, List.filter_append, List.map_append, List.filter_cons, if_pos e]
        exact h3.s0
    · rw [et, List.filter_append, List.filter_cons, if_neg (by rw [e]; decide)]
      simpa using h2
  · rw [List.length_map, List.take_length] at h'
    exact q D H' h'
theorem k_lcM {α : Type} {k : Nat} (zs : List α) (g h : α → V) (hh : Has H L) (ha : ∀ H', Has H' L → H' a = some (.lst (zs.map g))) (hz : zs.length ≤ 100000)
    (hs : ∀ z ∈ zs, ∀ D M H' (Q' : VK), Has H' ([(D, .lst M)] :: L) → (∀ H'', Has H'' ([(D, .lst M)] :: L) → Q' (h z) H'') → te ((wipe σ [k]).set k (some (g z))) H' Q')
    (q : ∀ D H', Has H' ([(D, .lst (zs.map h))] :: L) → Q (.ref D) H') : kLcL K (gName k) tYes te [k] σ (.ref a) H Q :=
  k_lcF zs g h (fun _ => true) hh ha hz (fun z _ D M H' Q' h' q' => q' H' h') (fun z hm _ => hs z hm) fun D H' h' => q D H' (by rw [filt_true] at h'; exact h')
/-- [h i for i in range(n) if c i] -/
theorem k_lcRF {k : Nat} {tt : TT} (h : Int → V) (c : Int → Bool) (hh : Has H L) (hn : 0 ≤ n ∧ n ≤ 100000)
    (ht : ∀ z : Int, 0 ≤ z → z < n → ∀ D M H' (Q' : Bool → Hp → Prop), Has H' ([(D, .lst M)] :: L) → (∀ H'', Has H'' ([(D, .lst M)] :: L) → Q' (c z) H'') → tt ((wipe σ [k]).set k (some (.int z))) H' Q')
    (hs : ∀ z : Int, 0 ≤ z → z < n → c z = true → ∀ D M H' (Q' : VK), Has H' ([(D, .lst M)] :: L) → (∀ H'', Has H'' ([(D, .lst M)] :: L) → Q' (h z) H'') → te ((wipe σ [k]).set k (some (.int z))) H' Q')
    (q : ∀ D H', Has H' ([(D, .lst (((rgI n).filter c).map h))] :: L) → Q (.ref D) H') : kLcR (gName k) tt te [k] σ [.int n] H Q := by
  have hw : ∀ x, wipe ((wipe σ [k]).set k (some x)) [k] = wipe σ [k] := fun x => by
    show ((σ.set k none).set k (some x)).set k none = σ.set k none
    rw [List.set_set, List.set_set]
  refine k_lcR (L := L) hh (fun D i H' => Has H' ([(D, .lst (((rgI i).filter c).map h))] :: L)) hn (fun D H' h' => h') (fun D i H' hi h' => ?_) (fun D H' h' => ?_)
  · have et : rgI ((i + 1 : Nat) : Int) = rgI i ++ [(i : Int)] := by
      unfold rgI
      rw [Int.toNat_natCast, Int.toNat_natCast, List.range_succ, List.map_append]
      rfl
    have lr : (rgI (i : Int)).length = i := by rw [rgI_len, Int.toNat_natCast]
    refine ⟨hw _, ht i (by omega) hi D _ H' _ h' fun H2 h2 => ?_⟩
    refine ifB (fun e => ?_) (fun e => ?_)
    · refine hs i (by omega) hi e D _ H2 _ h2 fun H3 h3 => ?_
      refine ⟨_, h3.g0, ?_, ?_⟩
      · rw [sizeLine_eq, List.length_map]
        have l1 := List.length_filter_le c (rgI i)
        omega
      · rw [et, List.filter_append, List.map_append, List.filter_cons, if_pos e]
        exact h3.s0
    · rw [et, List.filter_append, List.filter_cons, if_neg (by rw [e]; decide)]
      simpa using h2
  · rw [Int.toNat_of_nonneg hn.1] at h'
    exact q D H' h'
theorem k_lcRM {k : Nat} (h : Int → V) (hh : Has H L) (hn : 0 ≤ n ∧ n ≤ 100000)
    (hs : ∀ z : Int, 0 ≤ z → z < n → ∀ D M H' (Q' : VK), Has H' ([(D, .lst M)] :: L) → (∀ H'', Has H'' ([(D, .lst M)] :: L) → Q' (h z) H'') → te ((wipe σ [k]).set k (some (.int z))) H' Q')
    (q : ∀ D H', Has H' ([(D, .lst ((rgI n).map h))] :: L) → Q (.ref D) H') : kLcR (gName k) tYes te [k] σ [.int n] H Q :=
  k_lcRF h (fun _ => true) hh hn (fun z _ _ D M H' Q' h' q' => q' H' h') (fun z h0 h1 _ => hs z h0 h1) fun D H' h' => q D H' (by rw [filt_true] at h'; exact h')
theorem x_yes (q : QT true H) : tYes σ H QT := q
end
end Sy
/-! More rules: C.f(..) of a def read off its class; comprehensions over dicts. -/
namespace Sy
open PySem PySem.Spec PyProof.Rows L2
def tCFn (C : Addr) (sp : Sp) (dvs : List V) (E : XK) (ta : TE) (t : TA) : TE := fun σ H Q => ta σ H fun x H1 => x = .ref C ∧ t σ H1 fun vs H2 => sp (vs ++ dvs) H2 Q E
/-- what the text must say of C.f, a def -/
structure CFn (K : PySem.W.Frag) (C : Addr) (mc : Value) (m : Str) (f : Addr) : Prop where
  rd : PySem.W.readsIn K C mc = true
  ga : PySem.W.specialIn K (.ref C) "__getattribute__" = some (some (.builtin "type.__getattribute__"))
  at_ : PySem.W.findCls K (.ref C) mc m = some (.val (.ref f))
  kp : PySem.W.keepIn K (.ref f) = true
section
variable {X : Cx} {CX : CXT} {k : Nat} {f C : Addr} {fd : FuncData} {ps : List Str} {sp : Sp} {dvs : List V} {ds : List Value} {E : XK} {m : Str} {pos apos : Pos} {e o : Expr} {es : List Expr} {ta : TE} {t : TA} {mc : Value}
theorem pe_cfn {pl : Sem Bool} (he : PE X o ta) (c : CFn X.K C mc m f) (F : FnOk X.prog X.w X.K X.mg X.base CX k f fd ps sp) (hr : Room k X.A) (hb : Binds X.K fd ps ds) (hd : Vals dvs ds) (hx : Passes CX X E) (ha : PA X (e :: es) t)
    (hst : starEach (e :: es) X.env = (false, eval e X.env) :: starEach es X.env := by rfl) (hpl : (backTo pos (starEach es X.env)).any (·.1) = false := by rfl)
    (ht : eval (.Call (.Attribute o m apos) (e :: es) [] pos) X.env = (do
      let ov ← eval o X.env
      standAt apos.atName
      let (f, first) ← holding [ov] (getMethod ov m pl)
      callWith pos f first (backTo pos (starEach (e :: es) X.env)) (backToKw pos (keywordEach [] X.env))) := by rfl) :
    PE X (.Call (.Attribute o m apos) (e :: es) [] pos) (tCFn C sp dvs E ta t) := by
  refine ⟨fun pins s σ H Q I h => ?_⟩
  refine PySem.W.methodCall_KW (pl := pl) (thn (he.run pins s σ H _ I h) fun u s1 ⟨x, H1, I1, rx, ex, q⟩ => ?_) ht
  subst ex
  obtain rfl : u = Value.ref C := rx
  refine PySem.W.method_cls I1.kIn c.ga (PySem.W.cls_value I1.kIn c.rd c.at_ rfl ?_)
  have I2 := I1.tok (s1.toks + 1)
  refine PySem.W.callWith_K (first := []) (h₀ := X.base) I.ok.mod.kin c.kp (thn (ha.run pos pins _ σ H1 _ I2 q) fun us s2 ⟨vs, H2, I3, r, q2⟩ => ⟨I3.kIn, ?_⟩) hst hpl
  exact run_fn F hr hb hd hx I3 r q2
end
end Sy
namespace Sy
open PySem L2
section
variable {K : PySem.W.Frag} {σ : St} {H H1 : Hp} {L : List U} {Q : VK} {ta td te : TE} {tr : TA} {v x y z : V} {xs ys : List V} {i j n m : Int} {a b d p : Addr} {C : Addr} {nx bk ct : St → Hp → Prop} {rt : VK} {s1 : TS} {A : Prop}
def kCFn (C : Addr) (sp : Sp) (dvs : List V) (E : XK) (t : TA) (σ : St) (x : V) (H1 : Hp) (Q : VK) : Prop := x = .ref C ∧ t σ H1 fun vs H2 => sp (vs ++ dvs) H2 Q E
theorem x_cfn {sp : Sp} {dvs : List V} {E : XK} (q : ta σ H fun x H1 => kCFn C sp dvs E tr σ x H1 Q) : tCFn C sp dvs E ta tr σ H Q := q
theorem k_cfn0 {sp : Sp} {E : XK} (q : tr σ H fun vs H2 => sp vs H2 Q E) : kCFn C sp [] E tr σ (.ref C) H Q := by
  have e : (fun vs H1 => sp (vs ++ []) H1 Q E) = fun vs H1 => sp vs H1 Q E := by funext vs H1; rw [List.append_nil]
  refine ⟨rfl, ?_⟩
  rw [e]
  exact q
/-! ### a dict while it is walked -/
theorem dget_F {o : Obj} {mm : List (Int × V)} (hp : H a = some (.frz o (dI mm))) : DGet H a (.int i) (valV mm i) := by
  rw [← mk_val g1_inj mm i]
  exact .inl ⟨_, g1 i, .inr ⟨o, hp⟩, rfl, rfl⟩
theorem k_dgetF {o : Obj} {mm : List (Int × V)} (hp : H a = some (.frz o (dI mm))) (hv : valV mm i = some v) (q : Q v H) : kDGet (.ref a) (.int i) H Q := ⟨a, v, rfl, hv ▸ dget_F hp, q⟩
/-- the keys of a locked dict, with a test and an element -/
theorem lc_keysF {k : Nat} {tt : TT} {o : Obj} {mm : List (Int × V)} (h : Int → V) (c : Int → Bool) (hh : Has H L) (hd : ∀ H', Has H' L → H' d = some (.frz o (dI mm))) (hz : mm.length ≤ 100000)
    (ht : ∀ z ∈ mm.map (·.1), ∀ D M H' (Q' : Bool → Hp → Prop), Has H' ([(D, .lst M)] :: L) → (∀ H'', Has H'' ([(D, .lst M)] :: L) → Q' (c z) H'') → tt ((wipe σ [k]).set k (some (.int z))) H' Q')
    (hs : ∀ z ∈ mm.map (·.1), c z = true → ∀ D M H' (Q' : VK), Has H' ([(D, .lst M)] :: L) → (∀ H'', Has H'' ([(D, .lst M)] :: L) → Q' (h z) H'') → te ((wipe σ [k]).set k (some (.int z))) H' Q')
    (q : ∀ D H', Has H' ([(D, .lst (((mm.map (·.1)).filter c).map h))] :: L) → Q (.ref D) H') : kLc (gName k) tt te [k] σ (Itk d o (mk g1 mm)) H Q := by
  have hw : ∀ x, wipe ((wipe σ [k]).set k (some x)) [k] = wipe σ [k] := fun x => by
    show ((σ.set k none).set k (some x)).set k none = σ.set k none
    rw [List.set_set, List.set_set]
  intro D hD
  have hl : (mk g1 mm).length = mm.length := mk_len _ _
  refine ⟨fun i m H' => m = mm.length - i ∧ i ≤ mm.length ∧ Has H' ([(D, .lst ((((mm.map (·.1)).take i).filter c).map h))] :: L), ⟨mm.length, by simp, Nat.zero_le _, hh.nw hD⟩, ?_⟩
  rintro i m H' ⟨rfl, hi, p⟩
  have pl := hd H' (p.sub (Sub.skip Sub.rf))
  by_cases hlt : i < mm.length
  · refine .inr ⟨⟨pl, by rw [hl]; exact hlt⟩, fun H2 => Has H2 ([(D, .lst ((((mm.map (·.1)).take (i + 1)).filter c).map h))] :: L), fun H2 p2 => ⟨mm.length - (i + 1), by omega, rfl, hlt, p2⟩, fun x H2 y => ?_⟩
    obtain ⟨e, kk, vv, hk, ex⟩ := y
    subst e
    have hz1 : (mm.map (·.1))[i]? = some (mm[i]).1 := by rw [List.getElem?_map, List.getElem?_eq_getElem hlt]; rfl
    have hkk : kk = g1 (mm[i]).1 := by
      unfold mk at hk
      rw [List.getElem?_map, List.getElem?_eq_getElem hlt] at hk
      exact (congrArg Prod.fst (Option.some.inj hk)).symm
    subst hkk
    have ex : x = .int (mm[i]).1 := ex
    subst ex
    have hm : (mm[i]).1 ∈ mm.map (·.1) := List.mem_of_getElem? hz1
    have et : (mm.map (·.1)).take (i + 1) = (mm.map (·.1)).take i ++ [(mm[i]).1] := by rw [List.take_add_one, hz1]; rfl
    refine ⟨hw _, ht _ hm D _ H2 _ p fun H3 h3 => ?_⟩
    refine ifB (fun e => ?_) (fun e => ?_)
    · refine hs _ hm e D _ H3 _ h3 fun H4 h4 => ?_
      refine ⟨_, h4.g0, ?_, ?_⟩
      · rw [sizeLine_eq, List.length_map]
        have l1 := List.length_filter_le c ((mm.map (·.1)).take i)
        have l3 := List.length_take_le' i (mm.map (·.1))
        rw [List.length_map] at l3
        omega
      · rw [et, List.filter_append, List.map_append, List.filter_cons, if_pos e]
        exact h4.s0
    · rw [et, List.filter_append, List.filter_cons, if_neg (by rw [e]; decide)]
      simpa using h3
  · have e : i = mm.length := by omega
    subst e
    refine .inl ⟨⟨pl, by rw [hl]; exact Nat.le_refl _⟩, q D H' ?_⟩
    have e2 : (mm.map (·.1)).take mm.length = mm.map (·.1) := List.take_of_length_le (by rw [List.length_map]; exact Nat.le_refl _)
    rw [e2] at p
    exact p
/-- [h z for z in d if c z], d a dict that stands in what is known -/
theorem x_lcD {k : Nat} {tt : TT} {mm : List (Int × V)} (h : Int → V) (c : Int → Bool) (hh : Has H ([(d, dI mm)] :: L)) (hz : mm.length ≤ 100000)
    (htd : ∀ o H' (Q' : VK), Has H' ([(d, .frz o (dI mm))] :: L) → Q' (.ref d) H' → td σ H' Q')
    (ht : ∀ o, ∀ z ∈ mm.map (·.1), ∀ D M H' (Q' : Bool → Hp → Prop), Has H' ([(D, .lst M)] :: [(d, .frz o (dI mm))] :: L) → (∀ H'', Has H'' ([(D, .lst M)] :: [(d, .frz o (dI mm))] :: L) → Q' (c z) H'') → tt ((wipe σ [k]).set k (some (.int z))) H' Q')
    (hs : ∀ o, ∀ z ∈ mm.map (·.1), c z = true → ∀ D M H' (Q' : VK), Has H' ([(D, .lst M)] :: [(d, .frz o (dI mm))] :: L) → (∀ H'', Has H'' ([(D, .lst M)] :: [(d, .frz o (dI mm))] :: L) → Q' (h z) H'') → te ((wipe σ [k]).set k (some (.int z))) H' Q')
    (q : ∀ D H', Has H' ([(D, .lst (((mm.map (·.1)).filter c).map h))] :: [(d, dI mm)] :: L) → Q (.ref D) H') : tLockE (tLc (iKeys td) (gName k) tt te [k]) σ H Q := by
  refine ⟨d, dI mm, hh.g0, trivial, fun o => ?_⟩
  have h1 : Has (upd H d (.frz o (dI mm))) ([(d, .frz o (dI mm))] :: L) := hh.s0
  have z : kLc (gName k) tt te [k] σ (Itk d o (mk g1 mm)) (upd H d (.frz o (dI mm))) (fun v H' => H' d = some (.frz o (dI mm)) ∧ Q v (upd H' d (dI mm))) :=
    lc_keysF h c h1 (fun H' h' => h'.g0) hz (ht o) (hs o) fun D H' h' => ⟨h'.g1, q D _ h'.s1⟩
  exact htd o _ _ h1 ⟨d, o, rfl, .inl ⟨mk g1 mm, h1.g0, z⟩⟩
/-- x = [h z for z in d if c z] -/
theorem x_asgD {k l : Nat} {tt : TT} {mm : List (Int × V)} (h : Int → V) (c : Int → Bool) (hh : Has H ([(d, dI mm)] :: L)) (hz : mm.length ≤ 100000)
    (htd : ∀ o H' (Q' : VK), Has H' ([(d, .frz o (dI mm))] :: L) → Q' (.ref d) H' → td σ H' Q')
    (ht : ∀ o, ∀ z ∈ mm.map (·.1), ∀ D M H' (Q' : Bool → Hp → Prop), Has H' ([(D, .lst M)] :: [(d, .frz o (dI mm))] :: L) → (∀ H'', Has H'' ([(D, .lst M)] :: [(d, .frz o (dI mm))] :: L) → Q' (c z) H'') → tt ((wipe σ [k]).set k (some (.int z))) H' Q')
    (hs : ∀ o, ∀ z ∈ mm.map (·.1), c z = true → ∀ D M H' (Q' : VK), Has H' ([(D, .lst M)] :: [(d, .frz o (dI mm))] :: L) → (∀ H'', Has H'' ([(D, .lst M)] :: [(d, .frz o (dI mm))] :: L) → Q' (h z) H'') → te ((wipe σ [k]).set k (some (.int z))) H' Q')
    (q : ∀ D H', Has H' ([(D, .lst (((mm.map (·.1)).filter c).map h))] :: [(d, dI mm)] :: L) → nx (σ.set l (some (.ref D))) H') : tLock (tAsg (tLc (iKeys td) (gName k) tt te [k]) (gName l)) ⟨nx, rt, bk, ct⟩ σ H := by
  refine ⟨d, dI mm, hh.g0, trivial, fun o => ?_⟩
  have h1 : Has (upd H d (.frz o (dI mm))) ([(d, .frz o (dI mm))] :: L) := hh.s0
  have z : kLc (gName k) tt te [k] σ (Itk d o (mk g1 mm)) (upd H d (.frz o (dI mm))) (fun v H' => H' d = some (.frz o (dI mm)) ∧ nx (σ.set l (some v)) (upd H' d (dI mm))) :=
    lc_keysF h c h1 (fun H' h' => h'.g0) hz (ht o) (hs o) fun D H' h' => ⟨h'.g1, q D _ h'.s1⟩
  exact htd o _ _ h1 ⟨d, o, rfl, .inl ⟨mk g1 mm, h1.g0, z⟩⟩
/-! ### x in xs, whole numbers -/
theorem k_inI {neg : Bool} {ns : List Int} (hp : H p = some (.lst (ns.map V.int))) (q : Q (.bl (if neg then !decide (i ∈ ns) else decide (i ∈ ns))) H) : rIn K neg (.int i) (.ref p) H Q := by
  refine ⟨p, _, rfl, .inl (SqL.of hp), rfl, ?_, ?_⟩
  · rw [List.all_eq_true]
    intro y hy
    obtain ⟨z, _, rfl⟩ := List.mem_map.mp hy
    rfl
  · have e : inV (.int i) (ns.map V.int) = decide (i ∈ ns) := by
      unfold inV
      rw [List.any_map]
      by_cases h : i ∈ ns
      · rw [decide_eq_true h, List.any_eq_true]
        exact ⟨i, h, by simp [eqV]⟩
      · rw [decide_eq_false h, List.any_eq_false]
        intro z hz
        have : z ≠ i := fun e => h (e ▸ hz)
        simp [eqV, this]
    rw [e]
    exact q
theorem k_inIt {ns : List Int} (hp : H p = some (.lst (ns.map V.int))) (q : Q (.bl (decide (i ∈ ns))) H) : rIn K false (.int i) (.ref p) H Q := k_inI hp q
theorem k_inIf {ns : List Int} (hp : H p = some (.lst (ns.map V.int))) (q : Q (.bl (!decide (i ∈ ns))) H) : rIn K true (.int i) (.ref p) H Q := k_inI hp q
/-- [h z for .. in zs if c z], the target of any form: behind it the names are t z -/
theorem k_lcG {α : Type} {g : TG} {tt : TT} {vs : List Nat} (zs : List α) (e : α → V) (h : α → V) (c : α → Bool) (t : α → St) (hh : Has H L) (ha : ∀ H', Has H' L → H' a = some (.lst (zs.map e))) (hz : zs.length ≤ 100000) (hw : ∀ z ∈ zs, wipe (t z) vs = wipe σ vs)
    (hg : ∀ z ∈ zs, ∀ D M H' (Q' : St → Hp → Prop), Has H' ([(D, .lst M)] :: L) → Q' (t z) H' → g (e z) (wipe σ vs) H' Q')
    (ht : ∀ z ∈ zs, ∀ D M H' (Q' : Bool → Hp → Prop), Has H' ([(D, .lst M)] :: L) → (∀ H'', Has H'' ([(D, .lst M)] :: L) → Q' (c z) H'') → tt (t z) H' Q')
    (hs : ∀ z ∈ zs, c z = true → ∀ D M H' (Q' : VK), Has H' ([(D, .lst M)] :: L) → (∀ H'', Has H'' ([(D, .lst M)] :: L) → Q' (h z) H'') → te (t z) H' Q')
    (q : ∀ D H', Has H' ([(D, .lst ((zs.filter c).map h))] :: L) → Q (.ref D) H') : kLcL K g tt te vs σ (.ref a) H Q := by
  refine k_lcL (L := L) hh (fun D i H' => Has H' ([(D, .lst (((zs.take i).filter c).map h))] :: L)) (ha H hh) (fun D H' h' => h') (fun D i H' h' => ha H' (h'.sub (Sub.skip Sub.rf))) (fun D i x H' hi h' => ?_) (fun D H' h' => ?_)
  · rw [List.getElem?_map] at hi
    obtain ⟨z, hz1, rfl⟩ := Option.map_eq_some_iff.mp hi
    have hm : z ∈ zs := List.mem_of_getElem? hz1
    have et : zs.take (i + 1) = zs.take i ++ [z] := by rw [List.take_add_one, hz1]; rfl
    refine hg z hm D _ H' _ h' ⟨hw z hm, ht z hm D _ H' _ h' fun H2 h2 => ?_⟩
    refine ifB (fun e => ?_) (fun e => ?_)
    · refine hs z hm e D _ H2 _ h2 fun H3 h3 => ?_
      refine ⟨_, h3.g0, ?_, ?_⟩
      · rw [sizeLine_eq, List.length_map]
        have l1 := List.length_filter_le c (zs.take i)
        have l3 := List.length_take_le' i zs
        omega
      · rw [et, List.filter_append, List.map_append, List.filter_cons, if_pos e]
        exact h3.s0
    · rw [et, List.filter_append, List.filter_cons, if_neg (by rw [e]; decide)]
      simpa using h2
  · rw [List.length_map, List.take_length] at h'
    exact q D H' h'
theorem k_neDNN (q : Q (.bl false) H) : rNeD K .non .non H Q := ⟨.none, .none, .non, .non, by decide +kernel, by decide +kernel, by
  have e : PyData.eqv .none .none = true := by decide +kernel
  rw [e]; exact q⟩
theorem k_eqDNN (q : Q (.bl true) H) : rEqD K .non .non H Q := ⟨.none, .none, .non, .non, by decide +kernel, by decide +kernel, by
  have e : PyData.eqv .none .none = true := by decide +kernel
  rw [e]; exact q⟩
end
end Sy
/-! Rules of our own: d.pop(k) for keys that are tuples; comprehensions over such dicts; set(xs) of a list of whole numbers, sorted. -/
namespace Sy
open PySem PySem.W PySem.Calls PySem.Spec PyProof.Rows L2
section
variable {κ : Type} [DecidableEq κ] {prog : Program} {w : World} {knd : HeapKind prog w κ}
theorem meetsPop1 {d b : Addr} {k : κ} (hd : (d == sysModules) = false) :
    MeetsIn prog w (Builtin.«dict.pop» ⟨[.ref d, .ref b], []⟩) (fun A R s => ∃ xs p, knd.room A.in1 ∧ knd.is s.heap k b ∧ s.heap.DictOfH knd d xs ∧ xs.length ≤ sizeLine ∧ atKey xs k = some p ∧
      ∀ h' tk, h'.DictOfH knd d (DT.dropH xs k) → Heap.SameBut d s.heap h' → R (.ok (.ret p.2)) { s with heap := h', toks := tk }) :=
  .of_wp fun A R s ⟨xs, p, hu, hkey, hm, hsz, hp, hsome⟩ => by
    obtain ⟨o, es, ep, ho, hc, hdat, he, his, hn⟩ := id hm
    have hpart : (keyPart (Value.ref b)).isSome = false := rfl
    have hes : es.size = xs.length := by rw [← Array.length_toList, he, List.length_map]
    unfold Builtin.«dict.pop»
    refine wpAny_bind ?_
    unfold Builtin.Dict.keyAndDefault
    refine wpAny_bind (wpAny_notOrdered_dict hm.typeIs ?_)
    show wpAny _ _ (pure (d, Value.ref b, none)) _ _ s
    refine wpAny_pure ?_
    simp only [hpart, Bool.false_eq_true, if_false]
    refine wpAny_bind (wpAny_dictEntries ho hdat (wpAny_bind (wpAny_pure ?_)))
    have hem : es.isEmpty = false := by
      cases hq : es.isEmpty with
      | false => rfl
      | true =>
        have z : es.size = 0 := by simpa using hq
        have z2 : xs = [] := List.length_eq_zero_iff.mp (by omega)
        rw [z2] at hp
        cases hp
    rw [hem]
    simp only [Bool.false_eq_true, if_false]
    refine wpAny_bind (DT.takeH hu hkey hm hsz (fun hno => absurd (hno.symm.trans hp) (fun z => nomatch z)) fun p' e hp' hev h' hm' hs' => ?_)
    simp only [Option.isNone_some, Bool.false_eq_true, if_false]
    have e2 : p' = p := Option.some.inj (hp'.symm.trans hp)
    subst e2
    exact wpAny_bind (wpAny_letGo (wpAny_pure ⟨e.val, rfl, by rw [hev]; exact hsome h' _ hm' hs'⟩))
end
/-- d.pop(k), k a tuple that is there -/
def tDPopT (td ty : TE) : TE := fun σ H Q => td σ H fun x H1 => ∃ a, x = .ref a ∧ IsD H1 a ∧ ty σ H1 fun y H2 => ∃ kvs k b v, H2 a = some (.dT kvs) ∧ y = .ref b ∧ H2 b = some (.tup (k.map kV)) ∧ valV kvs k = some v ∧ Q v (upd H2 a (.dT (dropK kvs k)))
section
variable {X : Cx} {o e : Expr} {apos cpos : Pos} {td ty : TE}
theorem pe_dpopT (hu : X.A.units + 1 < cLine) (ho : PE X o td) (he : PE X e ty) (m : M1 X o "pop" apos e cpos) : PE X (.Call (.Attribute o "pop" apos) [e] [] cpos) (tDPopT td ty) := by
  refine ⟨fun pins s σ H Q I h => ?_⟩
  refine wpAny_Call_method m.base m.few m.line PySem.F.plainAttrs_dict PySem.F.slot_dict_pop PySem.F.type_dict_pop (thn (ho.run pins s σ H _ I h) fun u s1 ⟨x, H1, I1, rx, a, ex, d, q1⟩ => ?_)
  subst ex
  obtain rfl : u = Value.ref a := rx
  obtain ⟨t1, t2, _⟩ := isD_at I1 d
  refine ⟨t1, t2, ?_⟩
  rw [m.trees]
  refine Calls.callWith_builtin rfl (Calls.evalArgs_plain (Calls.spliced_cons (thn (he.run pins s1 σ H1 _ I1 q1) fun iv s2 ⟨y, H2, I2, ry, kvs, k, b, v, ea, ey, eb, l, q2⟩ => Calls.spliced_nil ?_)))
  subst ey
  obtain rfl : iv = Value.ref b := ry
  obtain ⟨z, hd, xs, rel, dd⟩ := dt_of I2.hok ea
  have hz : xs.length ≤ sizeLine := by rw [← Paired.length rel]; exact z
  have r := rel.val k
  rw [l] at r
  obtain ⟨p, hp, rp⟩ : ∃ p, atKey xs k = some p ∧ RelV v p.2 := by
    cases ev : atKey xs k with
    | none => rw [ev] at r; exact (show False from r).elim
    | some p => rw [ev] at r; exact ⟨p, rfl, r⟩
  refine call_meetsIn PySem.F.slot_dict_pop dd.typeIs PySem.F.entry_dict_pop (PySem.F.args_dict_pop_2 _ _) (meetsPop1 (knd := tupleKind (mixKind X.prog X.w)) (k := k) hd)
    ⟨xs, p, tupleKind_room_in1 hu, key_of I2.hok eb, dd, hz, hp, fun h' tk dd' hs => ?_⟩
  obtain ⟨o, es, ep, hq, h2, h3, h4, _, h5⟩ := dd'
  have I3 : Inv X pins σ (upd H2 a (.dT (dropK kvs k))) { s2 with heap := h', toks := tk } :=
    d_write I2 (by rw [ea]; exact True.intro) hs ⟨o, hq⟩ ⟨Nat.le_trans (dropK_le kvs k) z, hd, _, (DX.KT_drop k rel).keeps (fun c ys ec => (by rw [upd_ne (ne_of ec ea (fun z => nomatch z))]; exact ec)), o, es, ep, hq, h2, h3, h4, h5⟩
  exact ⟨v, _, I3, rp, q2⟩
end
section
variable {P : Program} {w : World} {A : Around} {E : Value → Shared → Prop} {s : Shared}
abbrev freshSet (w : World) : Obj := { cls := .type "set", dict := none, data := .set #[] 0 (.fresh 0 0 (!w.params.followText "set-order")) }
set_option maxHeartbeats 3200000 in
theorem call_set_ints {l : Addr} {items : Array Value} (ns : List Int) {Q : Value → Shared → Prop} (hh : A.handled = none) (hl : s.heap.IsList l items) (hit : IntsAre items.toList ns) (hb : ns.length + 1 < scanBound)
    (h : ∀ (h' : Heap) (tk c : Nat), SetR w h' s.heap.objs.size (fun j => decide (j ∈ ns)) c → c ≤ ns.length → (∀ b o, s.heap.get? b = some o → h'.get? b = some o) → Q (.ref s.heap.objs.size) { s with heap := h', toks := tk }) :
    wpAny (model P w) A (call (.type "set") [.ref l]) Q E s := by
  have hisz : items.size = ns.length := by
    have q := IntsAre.length hit
    rw [Array.length_toList] at q
    exact q
  obtain ⟨c, tl, hmro⟩ := F.called_set.mro
  have hmade := F.called_set.made
  have hsub := F.called_set.sub
  refine wpAny_call (codeAny_of_tree ?_)
  show wpAny _ _ (callAny (.type "set") _) _ _ _
  refine wpAny_pure ⟨Code.quiet_builtin _ (by decide +kernel), codeAny_builtin F.entry_type_call ?_⟩
  rw [Around.under_plain (weight_type_call_type "set" [.ref l] []) rfl]
  have h1 := F.called_set.notType
  have h2 := F.called_set.canCreate
  have hct := F.typeCall_set_1 (.ref l)
  repeat (any_goals (first | assumption | wp_step))
  refine codeAny_mono (code_set_led1 (.ref l) (E := E) (Q₁ := fun obj s₁ => obj = .ref s.heap.objs.size ∧ s₁ = { s with heap := s.heap.push (freshSet w) }) ⟨rfl, rfl⟩) fun r s₁ hr => ?_
  match r, hr with
  | .error e, hr => exact hr
  | .ok (.ret obj), hr =>
    obtain ⟨rfl, rfl⟩ := hr
    have hS : (s.heap.push (freshSet w)).get? s.heap.objs.size = some (freshSet w) := Heap.get?_push_size _ rfl
    have hT : Shared.TypeIs { s with heap := s.heap.push (freshSet w) } (.ref s.heap.objs.size) "set" := ⟨_, hS, rfl⟩
    have hli := F.called_set.init.lookup
    have hbi := F.called_set.init.bind (.ref s.heap.objs.size)
    repeat (any_goals (first | assumption | wp_step))
    refine codeAny_mono (codeAny_call_builtin (R := wants (fun r s₂ => r = .none ∧ ∃ h' tk c, s₂ = { s with heap := h', toks := tk } ∧ SetR w h' s.heap.objs.size (fun j => decide (j ∈ ns)) c ∧ c ≤ ns.length ∧
        (∀ b o, s.heap.get? b = some o → h'.get? b = some o)) E) F.called_set.init.plain F.entry_set_init (check_set_init_1 hT ?_)) fun r₂ s₂ hr₂ => ?_
    · obtain ⟨ol, hol, hcl, nl, hdl⟩ := hl
      obtain ⟨ocls, odict, odata, oslots⟩ := ol
      simp only at hcl hdl
      subst hcl; subst hdl
      have hol' : (s.heap.push (freshSet w)).get? l = some { cls := .type "list", dict := odict, data := .seq items nl, slots := oslots } := Heap.get?_push_of_some _ hol
      have hsls := F.sub_list_set
      have hslf := F.sub_list_frozenset
      have hne : (Value.type "list" == Value.type "dict") = false := by decide
      have hl1 : (s.heap.push (freshSet w)).IsList l items := ⟨_, hol', rfl, nl, rfl⟩
      unfold Builtin.«set.__init__» noKeywords Builtin.Frozenset.updateFrom
      generalize hPI : pyIter = PI
      wp_walk
      subst hPI
      refine wpAny_pyIter_list hl1 ?_
      refine wpAny_bind (wpAny_runValue ?_)
      have hlS : l < s.heap.objs.size := Heap.lt_size hol
      have hsp : (s.heap.push (freshSet w)).objs.size = s.heap.objs.size + 1 := Heap.size_push ..
      have hneI : l ≠ (s.heap.push (freshSet w)).objs.size := by rw [hsp]; exact Nat.ne_of_lt (Nat.lt_succ_of_lt hlS)
      have hSf : s.heap.objs.size ∉ [(s.heap.push (freshSet w)).objs.size, l] := by
        simp only [List.mem_cons, List.not_mem_nil, or_false, not_or]
        exact ⟨by rw [hsp]; exact Nat.ne_of_lt (Nat.lt_succ_self _), Nat.ne_of_gt hlS⟩
      have hval : ∀ (i : Nat) (v : Value), items[i]? = some v → ∃ k t, ns[i]? = some k ∧ v = .int k t := fun i v hv => by
        have hi : i < ns.length := by rw [← hisz]; exact (Array.getElem?_eq_some_iff.mp hv).1
        obtain ⟨t, e⟩ := PyProof.Rows.IntsAre.int_at hit i v (by rw [Array.getElem?_toList]; exact hv)
        refine ⟨ns[i], t, List.getElem?_eq_getElem hi, ?_⟩
        rw [e, List.getD_eq_getElem?_getD, List.getElem?_eq_getElem hi] <;> rfl
      refine set_update_ints ((Walks.list (by simp [hh]) _ l hneI items).toS) s.heap.objs.size hSf ns hisz hb hval (items.size - 0) 0 _ (by omega) (Nat.zero_le _)
        ⟨⟨_, Heap.get?_push_size _ rfl, rfl, rfl⟩, hl1.push _⟩ ⟨0, Nat.le_refl 0, setR_new_at (Heap.get?_push_of_some _ hS)⟩ fun s' c' hm hc' hS' => ?_
      obtain ⟨h', g2, d', tk', os'⟩ := s'
      have eg : g2 = s.gens := hm.gens
      have ed : d' = s.drawn := hm.drawn
      have eo : os' = s.os := hm.os
      subst eg; subst ed; subst eo
      show wpAny _ _ _ _ _ _
      refine wpAny_pure ?_
      show wpAny _ _ (ret Value.none) _ _ _
      rw [hisz] at hc'
      refine wpAny_pure ⟨rfl, h', tk', c', rfl, hS', hc', fun b o e => ?_⟩
      have hb0 : b < s.heap.objs.size := Heap.lt_size e
      exact hm.heap b o (by simp only [List.mem_cons, List.not_mem_nil, or_false, not_or]; exact ⟨Nat.ne_of_lt hb0, by rw [hsp]; exact Nat.ne_of_lt (Nat.lt_succ_of_lt hb0)⟩) (Heap.get?_push_of_some _ (Heap.get?_push_of_some _ e))
    · match r₂, hr₂ with
      | .error e, hr₂ => exact hr₂
      | .ok (.ret r), hr₂ =>
        obtain ⟨rfl, h', tk, c', rfl, hS', hc', hk'⟩ := hr₂
        repeat (any_goals (first | assumption | wp_step))
        exact h _ _ _ hS' hc' hk'
      | .ok .next, hr₂ => exact hr₂.elim
      | .ok .brk, hr₂ => exact hr₂.elim
      | .ok .cont, hr₂ => exact hr₂.elim
  | .ok .next, hr => exact hr.elim
  | .ok .brk, hr => exact hr.elim
  | .ok .cont, hr => exact hr.elim
end
/-- set(xs), whole numbers -/
def rSetOf (K : PySem.W.Frag) (w : World) : List V → Hp → VK → Prop := fun vs H Q => ∃ (p : Addr) (ns : List Int), vs = [.ref p] ∧ SqL K H p (ns.map V.int) ∧ ns.length ≤ 1000 ∧
  ∀ q c, H q = none → c ≤ ns.length → Q (.ref q) (upd H q (SetO w q (fun j => decide (j ∈ ns)) c))
section
variable {X : Cx}
theorem call_setOf (hc : X.calm = true) : CallR X (.type "set") (rSetOf X.K X.w) := by
  intro pins s σ H vs us Q I r h
  obtain ⟨p, ns, rfl, hp, hl, q⟩ := h
  rw [Vals.ref1 r]
  obtain ⟨its, rv, pt, _⟩ := I.list hp
  have hi : IntsAre its.toArray.toList ns := ints_of_vals rv
  refine call_set_ints ns (I.ok.hd hc) pt.isList hi (by unfold scanBound; omega) fun h' tk c R1 hcn k => ?_
  have hn : H s.heap.objs.size = none := I.hok.fresh (Nat.le_refl _)
  exact ⟨.ref s.heap.objs.size, _, I.laid (t' := tk) (fun b u e => k b u e) (Nat.le_refl _) (setO_new R1), rfl, q _ c hn hcn⟩
end
/-- sorted(set(xs)), whole numbers -/
def tSSet (K : PySem.W.Frag) (t : TA) : TE := fun σ H Q => ∀ w : World, t σ H fun vs H1 => rSetOf K w vs H1 fun v H2 => rSortedSet w [v] H2 Q
section
variable {X : Cx} {e : Expr} {t : TA} {p p2 pos pos2 : Pos}
theorem pe_sset (hc : X.calm = true) (hg : Gl X "sorted") (hm : X.mg "sorted" = none) (hg2 : Gl X "set") (hm2 : X.mg "set" = none) (ha : PA X [e] t)
    (hs2 : starEach [e] X.env = [(false, eval e X.env)] := by rfl)
    (hs : starEach [.Call (.Name "set" p2) [e] [] pos2] X.env = [(false, eval (.Call (.Name "set" p2) [e] [] pos2) X.env)] := by rfl) :
    PE X (.Call (.Name "sorted" p) [.Call (.Name "set" p2) [e] [] pos2] [] pos) (tSSet X.K t) := by
  have h1 : PE X (.Call (.Name "sorted" p) [.Call (.Name "set" p2) [e] [] pos2] [] pos) (tCB (rSortedSet X.w) (tCons (tCB (rSetOf X.K X.w) t) tNil)) :=
    pe_callB (cr_sortedSet hc) hg hm (by decide +kernel) (pa_cons (pe_callTy (call_setOf hc) hg2 hm2 (by decide +kernel) ha (by decide) (by decide) hs2 rfl) pa_nil) (by decide) (by decide) hs rfl
  exact ⟨fun pins s σ H Q I h => h1.run pins s σ H Q I (h X.w)⟩
end
end Sy
namespace Sy
open PySem L2
section
variable {K : PySem.W.Frag} {σ : St} {H H1 : Hp} {L : List U} {Q : VK} {ta td te ty : TE} {tr : TA} {v x y z : V} {xs ys : List V} {i j n m : Int} {a b d p : Addr} {C : Addr} {nx bk ct : St → Hp → Prop} {rt : VK} {s1 : TS} {A : Prop}
def kSSet (K : PySem.W.Frag) (w : World) (vs : List V) (H1 : Hp) (Q : VK) : Prop := rSetOf K w vs H1 fun v H2 => rSortedSet w [v] H2 Q
theorem x_sset (q : ∀ w, tr σ H fun vs H1 => kSSet K w vs H1 Q) : tSSet K tr σ H Q := q
theorem k_sset {w : World} {ns : List Int} (hh : Has H L) (hp : H p = some (.lst (ns.map V.int))) (hl : ns.length < 64)
    (q : ∀ (ys : List Int) d H', ys.Pairwise (· < ·) → (∀ k, k ∈ ys ↔ k ∈ ns) → Has H' ([(d, .lst (ys.map V.int))] :: L) → Q (.ref d) H') : kSSet K w [.ref p] H Q := by
  refine ⟨p, ns, rfl, SqL.of hp, by omega, fun r c hr hc => ?_⟩
  have h1 := hh.nw (o := SetO w r (fun j => decide (j ∈ ns)) c) hr
  refine ⟨r, _, c, rfl, h1.g0, by omega, fun ys d hs hm _ hd => q ys d _ hs (fun k => (hm k).trans (by simp)) ?_⟩
  exact (h1.nw hd).sub (Sub.p0 (Sub.skip Sub.rf))
def kDPopT (a : Addr) (y : V) (H2 : Hp) (Q : VK) : Prop := ∃ kvs k b v, H2 a = some (.dT kvs) ∧ y = .ref b ∧ H2 b = some (.tup (k.map kV)) ∧ valV kvs k = some v ∧ Q v (upd H2 a (.dT (dropK kvs k)))
theorem x_dpopT (q : td σ H fun x H1 => kIsD x H1 fun a => ty σ H1 fun y H2 => kDPopT a y H2 Q) : tDPopT td ty σ H Q := q
theorem k_dpopT {mm : List ((Int × Int) × V)} {M : List U} (hp : H a = some (dP mm)) (hb : H b = some (.tup [.int i, .int j])) (hv : valV mm (i, j) = some v) (hh : Has (upd H a (dP (dropK mm (i, j)))) M) (q : ∀ H', Has H' M → Q v H') : kDPopT a (.ref b) H Q := by
  refine ⟨_, g2 (i, j), b, v, hp, rfl, hb, by rw [mk_val g2_inj]; exact hv, ?_⟩
  rw [mk_drop g2_inj]
  exact q _ hh
theorem dget_FP {o : Obj} {mm : List ((Int × Int) × V)} (hp : H a = some (.frz o (dP mm))) (hb : H b = some (.tup [.int i, .int j])) : DGet H a (.ref b) (valV mm (i, j)) := by
  rw [← mk_val g2_inj mm (i, j)]
  exact .inr ⟨_, g2 (i, j), b, .inr ⟨o, hp⟩, rfl, hb, rfl⟩
theorem k_dgetFP {o : Obj} {mm : List ((Int × Int) × V)} (hp : H a = some (.frz o (dP mm))) (hb : H b = some (.tup [.int i, .int j])) (hv : valV mm (i, j) = some v) (q : Q v H) : kDGet (.ref a) (.ref b) H Q := ⟨a, v, rfl, hv ▸ dget_FP hp hb, q⟩
/-- the keys of a locked dict, pairs, with a test and an element; behind the target the names are t -/
theorem lc_keysT {g : TG} {tt : TT} {o : Obj} {vs : List Nat} {mm : List ((Int × Int) × V)} (h : Int × Int → V) (c : Int × Int → Bool) (t : Addr → Int × Int → St) (hh : Has H L) (hd : ∀ H', Has H' L → H' d = some (.frz o (dP mm))) (hz : mm.length ≤ 100000)
    (hw : ∀ q, ∀ z ∈ mm.map (·.1), wipe (t q z) vs = wipe σ vs)
    (hg : ∀ q, ∀ z ∈ mm.map (·.1), ∀ D M H' (Q' : St → Hp → Prop), H' q = some (.tup [.int z.1, .int z.2]) → Has H' ([(D, .lst M)] :: L) → Q' (t q z) H' → g (.ref q) (wipe σ vs) H' Q')
    (ht : ∀ q, ∀ z ∈ mm.map (·.1), ∀ D M H' (Q' : Bool → Hp → Prop), H' q = some (.tup [.int z.1, .int z.2]) → Has H' ([(D, .lst M)] :: L) → (∀ H'', H'' q = some (.tup [.int z.1, .int z.2]) → Has H'' ([(D, .lst M)] :: L) → Q' (c z) H'') → tt (t q z) H' Q')
    (hs : ∀ q, ∀ z ∈ mm.map (·.1), c z = true → ∀ D M H' (Q' : VK), H' q = some (.tup [.int z.1, .int z.2]) → Has H' ([(D, .lst M)] :: L) → (∀ H'', Has H'' ([(D, .lst M)] :: L) → Q' (h z) H'') → te (t q z) H' Q')
    (q : ∀ D H', Has H' ([(D, .lst (((mm.map (·.1)).filter c).map h))] :: L) → Q (.ref D) H') : kLc g tt te vs σ (Itkt d o (mk g2 mm)) H Q := by
  intro D hD
  have hl : (mk g2 mm).length = mm.length := mk_len _ _
  refine ⟨fun i m H' => m = mm.length - i ∧ i ≤ mm.length ∧ Has H' ([(D, .lst ((((mm.map (·.1)).take i).filter c).map h))] :: L), ⟨mm.length, by simp, Nat.zero_le _, hh.nw hD⟩, ?_⟩
  rintro i m H' ⟨rfl, hi, p⟩
  have pl := hd H' (p.sub (Sub.skip Sub.rf))
  by_cases hlt : i < mm.length
  · refine .inr ⟨⟨pl, by rw [hl]; exact hlt⟩, fun H2 => Has H2 ([(D, .lst ((((mm.map (·.1)).take (i + 1)).filter c).map h))] :: L), fun H2 p2 => ⟨mm.length - (i + 1), by omega, rfl, hlt, p2⟩, fun x H2 y => ?_⟩
    obtain ⟨e, kk, vv, r, hk, ex, hr⟩ := y
    subst e
    have hz1 : (mm.map (·.1))[i]? = some (mm[i]).1 := by rw [List.getElem?_map, List.getElem?_eq_getElem hlt]; rfl
    have hkk : kk = g2 (mm[i]).1 := by
      unfold mk at hk
      rw [List.getElem?_map, List.getElem?_eq_getElem hlt] at hk
      exact (congrArg Prod.fst (Option.some.inj hk)).symm
    subst hkk ex
    have hr : H2 r = some (.tup [.int (mm[i]).1.1, .int (mm[i]).1.2]) := hr
    have hm : (mm[i]).1 ∈ mm.map (·.1) := List.mem_of_getElem? hz1
    have et : (mm.map (·.1)).take (i + 1) = (mm.map (·.1)).take i ++ [(mm[i]).1] := by rw [List.take_add_one, hz1]; rfl
    refine hg r _ hm D _ H2 _ hr p ⟨hw r _ hm, ht r _ hm D _ H2 _ hr p fun H3 hr3 h3 => ?_⟩
    refine ifB (fun e => ?_) (fun e => ?_)
    · refine hs r _ hm e D _ H3 _ hr3 h3 fun H4 h4 => ?_
      refine ⟨_, h4.g0, ?_, ?_⟩
      · rw [sizeLine_eq, List.length_map]
        have l1 := List.length_filter_le c ((mm.map (·.1)).take i)
        have l3 := List.length_take_le' i (mm.map (·.1))
        rw [List.length_map] at l3
        omega
      · rw [et, List.filter_append, List.map_append, List.filter_cons, if_pos e]
        exact h4.s0
    · rw [et, List.filter_append, List.filter_cons, if_neg (by rw [e]; decide)]
      simpa using h3
  · have e : i = mm.length := by omega
    subst e
    refine .inl ⟨⟨pl, by rw [hl]; exact Nat.le_refl _⟩, q D H' ?_⟩
    have e2 : (mm.map (·.1)).take mm.length = mm.map (·.1) := List.take_of_length_le (by rw [List.length_map]; exact Nat.le_refl _)
    rw [e2] at p
    exact p
/-- [h z for .. in d if c z], d a dict of pairs that stands in what is known -/
theorem x_lcT {g : TG} {tt : TT} {vs : List Nat} {mm : List ((Int × Int) × V)} (h : Int × Int → V) (c : Int × Int → Bool) (t : Addr → Int × Int → St) (hh : Has H ([(d, dP mm)] :: L)) (hz : mm.length ≤ 100000)
    (hw : ∀ q, ∀ z ∈ mm.map (·.1), wipe (t q z) vs = wipe σ vs)
    (htd : ∀ o H' (Q' : VK), Has H' ([(d, .frz o (dP mm))] :: L) → Q' (.ref d) H' → td σ H' Q')
    (hg : ∀ o q, ∀ z ∈ mm.map (·.1), ∀ D M H' (Q' : St → Hp → Prop), H' q = some (.tup [.int z.1, .int z.2]) → Has H' ([(D, .lst M)] :: [(d, .frz o (dP mm))] :: L) → Q' (t q z) H' → g (.ref q) (wipe σ vs) H' Q')
    (ht : ∀ o q, ∀ z ∈ mm.map (·.1), ∀ D M H' (Q' : Bool → Hp → Prop), H' q = some (.tup [.int z.1, .int z.2]) → Has H' ([(D, .lst M)] :: [(d, .frz o (dP mm))] :: L) → (∀ H'', H'' q = some (.tup [.int z.1, .int z.2]) → Has H'' ([(D, .lst M)] :: [(d, .frz o (dP mm))] :: L) → Q' (c z) H'') → tt (t q z) H' Q')
    (hs : ∀ o q, ∀ z ∈ mm.map (·.1), c z = true → ∀ D M H' (Q' : VK), H' q = some (.tup [.int z.1, .int z.2]) → Has H' ([(D, .lst M)] :: [(d, .frz o (dP mm))] :: L) → (∀ H'', Has H'' ([(D, .lst M)] :: [(d, .frz o (dP mm))] :: L) → Q' (h z) H'') → te (t q z) H' Q')
    (q : ∀ D H', Has H' ([(D, .lst (((mm.map (·.1)).filter c).map h))] :: [(d, dP mm)] :: L) → Q (.ref D) H') : tLockE (tLc (iKeys td) g tt te vs) σ H Q := by
  refine ⟨d, dP mm, hh.g0, trivial, fun o => ?_⟩
  have h1 : Has (upd H d (.frz o (dP mm))) ([(d, .frz o (dP mm))] :: L) := hh.s0
  have z : kLc g tt te vs σ (Itkt d o (mk g2 mm)) (upd H d (.frz o (dP mm))) (fun v H' => H' d = some (.frz o (dP mm)) ∧ Q v (upd H' d (dP mm))) :=
    lc_keysT h c t h1 (fun H' h' => h'.g0) hz hw (hg o) (ht o) (hs o) fun D H' h' => ⟨h'.g1, q D _ h'.s1⟩
  exact htd o _ _ h1 ⟨d, o, rfl, .inr ⟨mk g2 mm, h1.g0, z⟩⟩
theorem x_asgT {g : TG} {l : Nat} {tt : TT} {vs : List Nat} {mm : List ((Int × Int) × V)} (h : Int × Int → V) (c : Int × Int → Bool) (t : Addr → Int × Int → St) (hh : Has H ([(d, dP mm)] :: L)) (hz : mm.length ≤ 100000)
    (hw : ∀ q, ∀ z ∈ mm.map (·.1), wipe (t q z) vs = wipe σ vs)
    (htd : ∀ o H' (Q' : VK), Has H' ([(d, .frz o (dP mm))] :: L) → Q' (.ref d) H' → td σ H' Q')
    (hg : ∀ o q, ∀ z ∈ mm.map (·.1), ∀ D M H' (Q' : St → Hp → Prop), H' q = some (.tup [.int z.1, .int z.2]) → Has H' ([(D, .lst M)] :: [(d, .frz o (dP mm))] :: L) → Q' (t q z) H' → g (.ref q) (wipe σ vs) H' Q')
    (ht : ∀ o q, ∀ z ∈ mm.map (·.1), ∀ D M H' (Q' : Bool → Hp → Prop), H' q = some (.tup [.int z.1, .int z.2]) → Has H' ([(D, .lst M)] :: [(d, .frz o (dP mm))] :: L) → (∀ H'', H'' q = some (.tup [.int z.1, .int z.2]) → Has H'' ([(D, .lst M)] :: [(d, .frz o (dP mm))] :: L) → Q' (c z) H'') → tt (t q z) H' Q')
    (hs : ∀ o q, ∀ z ∈ mm.map (·.1), c z = true → ∀ D M H' (Q' : VK), H' q = some (.tup [.int z.1, .int z.2]) → Has H' ([(D, .lst M)] :: [(d, .frz o (dP mm))] :: L) → (∀ H'', Has H'' ([(D, .lst M)] :: [(d, .frz o (dP mm))] :: L) → Q' (h z) H'') → te (t q z) H' Q')
    (q : ∀ D H', Has H' ([(D, .lst (((mm.map (·.1)).filter c).map h))] :: [(d, dP mm)] :: L) → nx (σ.set l (some (.ref D))) H') : tLock (tAsg (tLc (iKeys td) g tt te vs) (gName l)) ⟨nx, rt, bk, ct⟩ σ H := by
  refine ⟨d, dP mm, hh.g0, trivial, fun o => ?_⟩
  have h1 : Has (upd H d (.frz o (dP mm))) ([(d, .frz o (dP mm))] :: L) := hh.s0
  have z : kLc g tt te vs σ (Itkt d o (mk g2 mm)) (upd H d (.frz o (dP mm))) (fun v H' => H' d = some (.frz o (dP mm)) ∧ nx (σ.set l (some v)) (upd H' d (dP mm))) :=
    lc_keysT h c t h1 (fun H' h' => h'.g0) hz hw (hg o) (ht o) (hs o) fun D H' h' => ⟨h'.g1, q D _ h'.s1⟩
  exact htd o _ _ h1 ⟨d, o, rfl, .inr ⟨mk g2 mm, h1.g0, z⟩⟩
/-- x in t, texts -/
theorem k_inS {neg : Bool} {ss : List Str} {x : Str} (hp : H p = some (.tup (ss.map V.str))) (q : Q (.bl (if neg then !decide (x ∈ ss) else decide (x ∈ ss))) H) : rIn K neg (.str x) (.ref p) H Q := by
  refine ⟨p, _, rfl, .inr (SqT.of hp), rfl, ?_, ?_⟩
  · rw [List.all_eq_true]
    intro y hy
    obtain ⟨z, _, rfl⟩ := List.mem_map.mp hy
    rfl
  · have e : inV (.str x) (ss.map V.str) = decide (x ∈ ss) := by
      unfold inV
      rw [List.any_map]
      by_cases h : x ∈ ss
      · rw [decide_eq_true h, List.any_eq_true]
        exact ⟨x, h, by simp [eqV]⟩
      · rw [decide_eq_false h, List.any_eq_false]
        intro z hz
        have : z ≠ x := fun e => h (e ▸ hz)
        simp [eqV, this]
    rw [e]
    exact q
end
end Sy
/-! Lists of pairs of whole numbers: sorted, ==; xs.remove, xs.count. -/
namespace Sy
open PySem L2
/-- new objects, each with what it bears -/
def fmU {β : Type} (ob : β → HO) (m : List (Addr × β)) : U := m.map fun q => (q.1, ob q.2)
def fmR {β : Type} (m : List (Addr × β)) : List V := m.map fun q => V.ref q.1
abbrev Prs := List (Addr × (Int × Int))
def obP (q : Int × Int) : HO := .tup [.int q.1, .int q.2]
abbrev prU (m : Prs) : U := fmU obP m
abbrev prR (m : Prs) : List V := fmR m
theorem fmU_snoc {β : Type} (ob : β → HO) (m : List (Addr × β)) (t : Addr) (b : β) : fmU ob (m ++ [(t, b)]) = fmU ob m ++ [(t, ob b)] := by unfold fmU; rw [List.map_append]; rfl
theorem fmR_snoc {β : Type} (m : List (Addr × β)) (t : Addr) (b : β) : fmR (m ++ [(t, b)]) = fmR m ++ [.ref t] := by unfold fmR; rw [List.map_append]; rfl
theorem Has.fms {β : Type} {ob : β → HO} {H : Hp} {zs : List (Addr × β)} {L : List U} (h : Has H (fmU ob zs :: L)) : ∀ q ∈ zs, H q.1 = some (ob q.2) := fun q hq => h.2 (q.1, ob q.2) (List.mem_append.mpr (.inl (List.mem_map.mpr ⟨q, hq, rfl⟩)))
/-- a before b, or alike -/
def leP (a b : Int × Int) : Prop := a.1 < b.1 ∨ (a.1 = b.1 ∧ a.2 ≤ b.2)
section
variable {K : PySem.W.Frag} {σ : St} {H H1 : Hp} {L : List U} {Q : VK} {a b d p : Addr}
theorem Has.prs {zs : Prs} (h : Has H (prU zs :: L)) : ∀ q ∈ zs, H q.1 = some (.tup [.int q.2.1, .int q.2.2]) := fun q hq => h.2 (q.1, .tup [.int q.2.1, .int q.2.2]) (List.mem_append.mpr (.inl (List.mem_map.mpr ⟨q, hq, rfl⟩)))
def keyP (zs : Prs) (x : V) : Int × Int := ((zs.find? fun q => match x with | .ref t => decide (q.1 = t) | _ => false).map (·.2)).getD (0, 0)
theorem keyP_of : ∀ {zs : Prs}, (zs.map (·.1)).Nodup → ∀ q ∈ zs, keyP zs (.ref q.1) = q.2
  | [], _, q, hq => by cases hq
  | z :: r, nd, q, hq => by
    have nd2 := List.nodup_cons.mp (show (z.1 :: r.map (·.1)).Nodup from nd)
    rcases List.mem_cons.mp hq with e | e
    · subst e
      simp [keyP, List.find?_cons]
    · have hne : ¬ z.1 = q.1 := fun h => nd2.1 (h ▸ List.mem_map.mpr ⟨q, e, rfl⟩)
      have ih := keyP_of nd2.2 q e
      unfold keyP at ih ⊢
      rw [List.find?_cons]
      simp only [decide_eq_false hne]
      exact ih
theorem k_sortP {zs : Prs} (hh : Has H (prU zs :: L)) (hp : H p = some (.lst (prR zs)))
    (q : ∀ (ys : Prs) d H', ys.Perm zs → (ys.map (·.2)).Pairwise leP → Has H' ([(d, .lst (prR ys))] :: prU zs :: L) → Q (.ref d) H') : rSortedPO K [.ref p] H Q := by
  have nd : (zs.map (·.1)).Nodup := by
    have h1 := hh.1
    rw [show (prU zs :: L).flatten = prU zs ++ L.flatten from rfl, List.map_append] at h1
    have h2 := (List.nodup_append.mp h1).1
    unfold prU fmU at h2
    rw [List.map_map] at h2
    exact h2
  have key := keyP_of nd
  have fam := hh.prs
  refine ⟨p, prR zs, keyP zs, rfl, SqL.of hp, fun x hx => ?_, fun vs d hs ht hd => ?_⟩
  · obtain ⟨z, hz, rfl⟩ := List.mem_map.mp hx
    refine ⟨z.1, rfl, ?_⟩
    rw [key z hz]
    exact fam z hz
  · obtain ⟨ys, py, ey⟩ := perm_lift (fun q : Addr × (Int × Int) => V.ref q.1) ht.perm zs rfl
    subst ey
    refine q ys d _ py ?_ (hh.nw hd)
    have hs2 : (ys.map fun q : Addr × (Int × Int) => V.ref q.1).Pairwise fun x y => SrtO.lexB (keyP zs y) (keyP zs x) = false := hs
    rw [List.pairwise_map] at hs2 ⊢
    refine List.Pairwise.imp_of_mem (fun {x y} hx hy h => ?_) hs2
    rw [key x (py.mem_iff.mp hx), key y (py.mem_iff.mp hy)] at h
    have h2 := SrtO.lexB_no.mp h
    unfold leP
    omega
theorem leP_uniq {xs ys : List (Int × Int)} (h1 : xs.Pairwise leP) (h2 : ys.Pairwise leP) (p : xs.Perm ys) : xs = ys := p.eq_of_pairwise (fun a b _ _ h h' => by
  unfold leP at h h'
  exact Prod.ext (by omega) (by omega)) h1 h2
theorem dpAll_prs {zs : Prs} (f : ∀ q ∈ zs, H q.1 = some (.tup [.int q.2.1, .int q.2.2])) : DpAll K H (prR zs) ((zs.map (·.2)).map fun q => PyData.tuple [.int q.1, .int q.2]) := by
  induction zs with
  | nil => exact .nil
  | cons z r ih => exact .cons (.tup (SqT.of (f z (List.mem_cons.mpr (.inl rfl)))) (.cons (.int _) (.cons (.int _) .nil))) (ih fun q hq => f q (List.mem_cons_of_mem _ hq))
def pd (q : Int × Int) : PyData := .tuple [.int q.1, .int q.2]
theorem eqv_prs (ns : List (Int × Int)) : ∀ ms : List (Int × Int), PyData.eqv (.list (ns.map pd)) (.list (ms.map pd)) = decide (ns = ms) := by
  induction ns with
  | nil =>
    intro ms
    cases ms with
    | nil => rfl
    | cons m r => rfl
  | cons n r ih =>
    intro ms
    cases ms with
    | nil => rfl
    | cons m s =>
      have h := ih s
      simp [PyData.eqv, PyData.eqvAll, pd] at h ⊢
      rw [h]
      by_cases e1 : n = m
      · subst e1; by_cases e2 : r = s <;> simp [e2]
      · have e3 : ¬ (n.1 = m.1 ∧ n.2 = m.2) := fun z => e1 (Prod.ext z.1 z.2)
        simp [e1]
        intro z1 z2
        exact absurd ⟨z1, z2⟩ e3
theorem lay_prs (ns : List (Int × Int)) : PyData.canLayAll0 (ns.map pd) = true := by
  induction ns with
  | nil => simp [PyData.canLayAll0]
  | cons n r ih => simp [PyData.canLayAll0, PyData.canLay0, pd] ; exact ih
theorem deep_prs (ns : List (Int × Int)) : PyData.depthAll (ns.map pd) ≤ 2 := by
  induction ns with
  | nil => simp [PyData.depthAll]
  | cons n r ih => simp [PyData.depthAll, PyData.depth, pd]; omega
theorem shaped_prs (ns : List (Int × Int)) : SeqAt.shaped (.list (ns.map pd)) = true := by
  have h := deep_prs ns
  simp [SeqAt.shaped, PyData.canLay0, lay_prs, PyData.depth]
  omega
theorem k_eqLP {zs ws : Prs} (hp : H a = some (.lst (prR zs))) (hq : H b = some (.lst (prR ws))) (fz : ∀ q ∈ zs, H q.1 = some (.tup [.int q.2.1, .int q.2.2])) (fw : ∀ q ∈ ws, H q.1 = some (.tup [.int q.2.1, .int q.2.2])) (q : Q (.bl (decide (zs.map (·.2) = ws.map (·.2)))) H) : rEqD K (.ref a) (.ref b) H Q :=
  ⟨_, _, .lst (SqL.of hp) (dpAll_prs fz), .lst (SqL.of hq) (dpAll_prs fw), shaped_prs _, shaped_prs _, by rw [show (fun q : Int × Int => PyData.tuple [.int q.1, .int q.2]) = pd from rfl, eqv_prs]; exact q⟩
theorem k_neLP {zs ws : Prs} (hp : H a = some (.lst (prR zs))) (hq : H b = some (.lst (prR ws))) (fz : ∀ q ∈ zs, H q.1 = some (.tup [.int q.2.1, .int q.2.2])) (fw : ∀ q ∈ ws, H q.1 = some (.tup [.int q.2.1, .int q.2.2])) (q : Q (.bl (!decide (zs.map (·.2) = ws.map (·.2)))) H) : rNeD K (.ref a) (.ref b) H Q :=
  ⟨_, _, .lst (SqL.of hp) (dpAll_prs fz), .lst (SqL.of hq) (dpAll_prs fw), shaped_prs _, shaped_prs _, by rw [show (fun q : Int × Int => PyData.tuple [.int q.1, .int q.2]) = pd from rfl, eqv_prs]; exact q⟩
/-- one more of the new objects -/
theorem fm_add {β : Type} {ob : β → HO} {D t : Addr} {m : List (Addr × β)} {b : β} (h : Has H ([(t, ob b)] :: [(D, .lst (fmR m))] :: fmU ob m :: L)) : Has (upd H D (.lst (fmR m ++ [.ref t]))) ([(D, .lst (fmR (m ++ [(t, b)])))] :: fmU ob (m ++ [(t, b)]) :: L) := by
  have h1 : Has (upd H D (.lst (fmR m ++ [.ref t]))) ([(t, ob b)] :: [(D, .lst (fmR m ++ [.ref t]))] :: fmU ob m :: L) := h.s1
  rw [fmR_snoc, fmU_snoc]
  exact (Has.op.mpr (h1.sub (show Sub (fmU ob m :: [(t, ob b)] :: _) _ from Sub.p2 (Sub.p0 Sub.rf)))).sub (Sub.p1 (Sub.p0 Sub.rf))
/-- [new object for .. in zs if c z] -/
theorem k_lcN {α β : Type} {g : TG} {tt : TT} {te : TE} {vs : List Nat} (zs : List α) (e : α → V) (ob : β → HO) (h : α → β) (c : α → Bool) (t : α → St) (hh : Has H L) (ha : ∀ H', Has H' L → H' a = some (.lst (zs.map e))) (hz : zs.length ≤ 100000) (hw : ∀ z ∈ zs, wipe (t z) vs = wipe σ vs)
    (hg : ∀ z ∈ zs, ∀ D m H' (Q' : St → Hp → Prop), Has H' ([(D, .lst (fmR m))] :: fmU ob m :: L) → Q' (t z) H' → g (e z) (wipe σ vs) H' Q')
    (ht : ∀ z ∈ zs, ∀ D m H' (Q' : Bool → Hp → Prop), Has H' ([(D, .lst (fmR m))] :: fmU ob m :: L) → (∀ H'', Has H'' ([(D, .lst (fmR m))] :: fmU ob m :: L) → Q' (c z) H'') → tt (t z) H' Q')
    (hs : ∀ z ∈ zs, c z = true → ∀ D m H' (Q' : VK), Has H' ([(D, .lst (fmR m))] :: fmU ob m :: L) → (∀ u H'', Has H'' ([(u, ob (h z))] :: [(D, .lst (fmR m))] :: fmU ob m :: L) → Q' (.ref u) H'') → te (t z) H' Q')
    (q : ∀ D m H', m.map (·.2) = (zs.filter c).map h → Has H' ([(D, .lst (fmR m))] :: fmU ob m :: L) → Q (.ref D) H') : kLcL K g tt te vs σ (.ref a) H Q := by
  refine k_lcL (L := L) hh (fun D i H' => ∃ m : List (Addr × β), m.map (·.2) = ((zs.take i).filter c).map h ∧ Has H' ([(D, .lst (fmR m))] :: fmU ob m :: L)) (ha H hh) (fun D H' h' => ⟨[], rfl, (Has.nilU.mpr h').sub (Sub.p1 (Sub.p0 Sub.rf))⟩) (fun D i H' h' => ha H' (h'.choose_spec.2.sub (Sub.skip (Sub.skip Sub.rf)))) (fun D i x H' hi h' => ?_) (fun D H' h' => ?_)
  · obtain ⟨m, em, h'⟩ := h'
    rw [List.getElem?_map] at hi
    obtain ⟨z, hz1, rfl⟩ := Option.map_eq_some_iff.mp hi
    have hm : z ∈ zs := List.mem_of_getElem? hz1
    have et : zs.take (i + 1) = zs.take i ++ [z] := by rw [List.take_add_one, hz1]; rfl
    refine hg z hm D m H' _ h' ⟨hw z hm, ht z hm D m H' _ h' fun H2 h2 => ?_⟩
    refine ifB (fun e => ?_) (fun e => ?_)
    · refine hs z hm e D m H2 _ h2 fun u H3 h3 => ?_
      refine ⟨_, h3.g1, ?_, m ++ [(u, h z)], ?_, fm_add h3⟩
      · rw [sizeLine_eq]
        unfold fmR
        rw [List.length_map]
        have l0 := congrArg List.length em
        rw [List.length_map, List.length_map] at l0
        have l1 := List.length_filter_le c (zs.take i)
        have l3 := List.length_take_le' i zs
        omega
      · rw [et, List.filter_append, List.map_append, List.map_append, em, List.filter_cons, if_pos e]
        rfl
    · refine ⟨m, ?_, h2⟩
      rw [et, List.filter_append, List.filter_cons, if_neg (by rw [e]; decide), em]
      simp
  · obtain ⟨m, em, h'⟩ := h'
    rw [List.length_map, List.take_length] at em
    exact q D m H' em h'
/-- the keys of a locked dict, pairs, with a test; the elements are new objects -/
theorem lc_keysTN {β : Type} {g : TG} {tt : TT} {te : TE} {o : Obj} {vs : List Nat} {mm : List ((Int × Int) × V)} (ob : β → HO) (h : Int × Int → β) (c : Int × Int → Bool) (t : Addr → Int × Int → St) (hh : Has H L) (hd : ∀ H', Has H' L → H' d = some (.frz o (dP mm))) (hz : mm.length ≤ 100000)
    (hw : ∀ q, ∀ z ∈ mm.map (·.1), wipe (t q z) vs = wipe σ vs)
    (hg : ∀ q, ∀ z ∈ mm.map (·.1), ∀ D m H' (Q' : St → Hp → Prop), H' q = some (.tup [.int z.1, .int z.2]) → Has H' ([(D, .lst (fmR m))] :: fmU ob m :: L) → Q' (t q z) H' → g (.ref q) (wipe σ vs) H' Q')
    (ht : ∀ q, ∀ z ∈ mm.map (·.1), ∀ D m H' (Q' : Bool → Hp → Prop), H' q = some (.tup [.int z.1, .int z.2]) → Has H' ([(D, .lst (fmR m))] :: fmU ob m :: L) → (∀ H'', H'' q = some (.tup [.int z.1, .int z.2]) → Has H'' ([(D, .lst (fmR m))] :: fmU ob m :: L) → Q' (c z) H'') → tt (t q z) H' Q')
    (hs : ∀ q, ∀ z ∈ mm.map (·.1), c z = true → ∀ D m H' (Q' : VK), H' q = some (.tup [.int z.1, .int z.2]) → Has H' ([(D, .lst (fmR m))] :: fmU ob m :: L) → (∀ u H'', Has H'' ([(u, ob (h z))] :: [(D, .lst (fmR m))] :: fmU ob m :: L) → Q' (.ref u) H'') → te (t q z) H' Q')
    (q : ∀ D m H', m.map (·.2) = ((mm.map (·.1)).filter c).map h → Has H' ([(D, .lst (fmR m))] :: fmU ob m :: L) → Q (.ref D) H') : kLc g tt te vs σ (Itkt d o (mk g2 mm)) H Q := by
  intro D hD
  have hl : (mk g2 mm).length = mm.length := mk_len _ _
  refine ⟨fun i m H' => m = mm.length - i ∧ i ≤ mm.length ∧ ∃ ms : List (Addr × β), ms.map (·.2) = (((mm.map (·.1)).take i).filter c).map h ∧ Has H' ([(D, .lst (fmR ms))] :: fmU ob ms :: L), ⟨mm.length, by simp, Nat.zero_le _, [], rfl, (Has.nilU.mpr (hh.nw hD)).sub (Sub.p1 (Sub.p0 Sub.rf))⟩, ?_⟩
  rintro i m H' ⟨rfl, hi, ms, em, p⟩
  have pl := hd H' (p.sub (Sub.skip (Sub.skip Sub.rf)))
  by_cases hlt : i < mm.length
  · refine .inr ⟨⟨pl, by rw [hl]; exact hlt⟩, fun H2 => ∃ ms : List (Addr × β), ms.map (·.2) = (((mm.map (·.1)).take (i + 1)).filter c).map h ∧ Has H2 ([(D, .lst (fmR ms))] :: fmU ob ms :: L), fun H2 p2 => ⟨mm.length - (i + 1), by omega, rfl, hlt, p2⟩, fun x H2 y => ?_⟩
    obtain ⟨e, kk, vv, r, hk, ex, hr⟩ := y
    subst e
    have hz1 : (mm.map (·.1))[i]? = some (mm[i]).1 := by rw [List.getElem?_map, List.getElem?_eq_getElem hlt]; rfl
    have hkk : kk = g2 (mm[i]).1 := by
      unfold mk at hk
      rw [List.getElem?_map, List.getElem?_eq_getElem hlt] at hk
      exact (congrArg Prod.fst (Option.some.inj hk)).symm
    subst hkk ex
    have hr : H2 r = some (.tup [.int (mm[i]).1.1, .int (mm[i]).1.2]) := hr
    have hm : (mm[i]).1 ∈ mm.map (·.1) := List.mem_of_getElem? hz1
    have et : (mm.map (·.1)).take (i + 1) = (mm.map (·.1)).take i ++ [(mm[i]).1] := by rw [List.take_add_one, hz1]; rfl
    refine hg r _ hm D ms H2 _ hr p ⟨hw r _ hm, ht r _ hm D ms H2 _ hr p fun H3 hr3 h3 => ?_⟩
    refine ifB (fun e => ?_) (fun e => ?_)
    · refine hs r _ hm e D ms H3 _ hr3 h3 fun u H4 h4 => ?_
      refine ⟨_, h4.g1, ?_, ms ++ [(u, h (mm[i]).1)], ?_, fm_add h4⟩
      · rw [sizeLine_eq]
        unfold fmR
        rw [List.length_map]
        have l0 := congrArg List.length em
        rw [List.length_map, List.length_map] at l0
        have l1 := List.length_filter_le c ((mm.map (·.1)).take i)
        have l3 := List.length_take_le' i (mm.map (·.1))
        rw [List.length_map] at l3
        omega
      · rw [et, List.filter_append, List.map_append, List.map_append, em, List.filter_cons, if_pos e]
        rfl
    · refine ⟨ms, ?_, h3⟩
      rw [et, List.filter_append, List.filter_cons, if_neg (by rw [e]; decide), em]
      simp
  · have e : i = mm.length := by omega
    subst e
    have e2 : (mm.map (·.1)).take mm.length = mm.map (·.1) := List.take_of_length_le (by rw [List.length_map]; exact Nat.le_refl _)
    rw [e2] at em
    exact .inl ⟨⟨pl, by rw [hl]; exact Nat.le_refl _⟩, q D ms H' em p⟩
theorem x_lcTN {β : Type} {td te : TE} {g : TG} {tt : TT} {vs : List Nat} {mm : List ((Int × Int) × V)} (ob : β → HO) (h : Int × Int → β) (c : Int × Int → Bool) (t : Addr → Int × Int → St) (hh : Has H ([(d, dP mm)] :: L)) (hz : mm.length ≤ 100000)
    (hw : ∀ q, ∀ z ∈ mm.map (·.1), wipe (t q z) vs = wipe σ vs)
    (htd : ∀ o H' (Q' : VK), Has H' ([(d, .frz o (dP mm))] :: L) → Q' (.ref d) H' → td σ H' Q')
    (hg : ∀ o q, ∀ z ∈ mm.map (·.1), ∀ D m H' (Q' : St → Hp → Prop), H' q = some (.tup [.int z.1, .int z.2]) → Has H' ([(D, .lst (fmR m))] :: fmU ob m :: [(d, .frz o (dP mm))] :: L) → Q' (t q z) H' → g (.ref q) (wipe σ vs) H' Q')
    (ht : ∀ o q, ∀ z ∈ mm.map (·.1), ∀ D m H' (Q' : Bool → Hp → Prop), H' q = some (.tup [.int z.1, .int z.2]) → Has H' ([(D, .lst (fmR m))] :: fmU ob m :: [(d, .frz o (dP mm))] :: L) → (∀ H'', H'' q = some (.tup [.int z.1, .int z.2]) → Has H'' ([(D, .lst (fmR m))] :: fmU ob m :: [(d, .frz o (dP mm))] :: L) → Q' (c z) H'') → tt (t q z) H' Q')
    (hs : ∀ o q, ∀ z ∈ mm.map (·.1), c z = true → ∀ D m H' (Q' : VK), H' q = some (.tup [.int z.1, .int z.2]) → Has H' ([(D, .lst (fmR m))] :: fmU ob m :: [(d, .frz o (dP mm))] :: L) → (∀ u H'', Has H'' ([(u, ob (h z))] :: [(D, .lst (fmR m))] :: fmU ob m :: [(d, .frz o (dP mm))] :: L) → Q' (.ref u) H'') → te (t q z) H' Q')
    (q : ∀ D m H', m.map (·.2) = ((mm.map (·.1)).filter c).map h → Has H' ([(D, .lst (fmR m))] :: fmU ob m :: [(d, dP mm)] :: L) → Q (.ref D) H') : tLockE (tLc (iKeys td) g tt te vs) σ H Q := by
  refine ⟨d, dP mm, hh.g0, trivial, fun o => ?_⟩
  have h1 : Has (upd H d (.frz o (dP mm))) ([(d, .frz o (dP mm))] :: L) := hh.s0
  have z : kLc g tt te vs σ (Itkt d o (mk g2 mm)) (upd H d (.frz o (dP mm))) (fun v H' => H' d = some (.frz o (dP mm)) ∧ Q v (upd H' d (dP mm))) :=
    lc_keysTN ob h c t h1 (fun H' h' => h'.g0) hz hw (hg o) (ht o) (hs o) fun D m H' em h' => ⟨h'.g2, q D m _ em h'.s2⟩
  exact htd o _ _ h1 ⟨d, o, rfl, .inr ⟨mk g2 mm, h1.g0, z⟩⟩
/-- xs.remove(k), xs.count(k) -/
theorem k_rem {ns : List Int} {k : Int} {M : List U} (hp : H a = some (.lst (ns.map V.int))) (hk : k ∈ ns) (hh : Has (upd H a (.lst ((ns.erase k).map V.int))) M) (q : ∀ H', Has H' M → Q .non H') : rRemI (.ref a) [.int k] H Q := by
  obtain ⟨j, h1, h2, h3, h4⟩ : ∃ j, j < ns.length ∧ ns[j]? = some k ∧ (∀ i, i < j → ns[i]? ≠ some k) ∧ ns.eraseIdx j = ns.erase k := by
    clear hp hh q
    induction ns with
    | nil => cases hk
    | cons z r ih =>
      by_cases e : z = k
      · exact ⟨0, Nat.succ_pos _, by rw [e]; rfl, fun i hi => absurd hi (Nat.not_lt_zero _), by rw [e, List.erase_cons_head]; rfl⟩
      · obtain ⟨j, h1, h2, h3, h4⟩ := ih ((List.mem_cons.mp hk).resolve_left fun z => e z.symm)
        refine ⟨j + 1, Nat.succ_lt_succ h1, h2, fun i hi => ?_, ?_⟩
        · cases i with
          | zero => exact fun z => e (Option.some.inj z)
          | succ i => exact h3 i (Nat.lt_of_succ_lt_succ hi)
        · rw [List.erase_cons_tail (by simpa using e), ← h4]
          rfl
  refine ⟨a, ns, k, j, rfl, rfl, hp, h2, h3, ?_⟩
  rw [h4]
  exact q _ hh
theorem k_cnt {ns : List Int} {k : Int} (hp : H a = some (.lst (ns.map V.int))) (q : Q (.int (ns.count k : Nat)) H) : rCntI K (.ref a) [.int k] H Q := ⟨a, ns, k, rfl, rfl, SqL.of hp, q⟩
/-! ### rows: a list of lists, each by itself -/
abbrev Rows := List (Addr × List Int)
def obL (l : List Int) : HO := .lst (l.map V.int)
theorem fm_out {β : Type} {ob : β → HO} {A B : List (Addr × β)} {b : β} (h : Has H (fmU ob (A ++ (a, b) :: B) :: L)) : Has H ([(a, ob b)] :: fmU ob A :: fmU ob B :: L) := by
  have e : fmU ob (A ++ (a, b) :: B) = fmU ob A ++ ([(a, ob b)] ++ fmU ob B) := by unfold fmU; rw [List.map_append]; rfl
  rw [e] at h
  exact (Has.op.mp ((Has.op.mp h).sub (show Sub ((_ ++ _) :: fmU ob A :: L) _ from Sub.p1 (Sub.p0 Sub.rf)))).sub (Sub.p0 (Sub.p1 (Sub.p0 Sub.rf)))
theorem fm_in {β : Type} {ob : β → HO} {A B : List (Addr × β)} {b : β} (h : Has H ([(a, ob b)] :: fmU ob A :: fmU ob B :: L)) : Has H (fmU ob (A ++ (a, b) :: B) :: L) := by
  have e : fmU ob (A ++ (a, b) :: B) = fmU ob A ++ ([(a, ob b)] ++ fmU ob B) := by unfold fmU; rw [List.map_append]; rfl
  rw [e]
  refine Has.op.mpr ?_
  exact (Has.op.mpr (h.sub (show Sub ([(a, ob b)] :: fmU ob B :: fmU ob A :: L) _ from Sub.p0 (Sub.p1 (Sub.p0 Sub.rf))))).sub (Sub.p1 (Sub.p0 Sub.rf))
theorem split_at {α : Type} : ∀ {l : List α} {k : Nat} {q : α}, l[k]? = some q → ∃ A B, l = A ++ q :: B ∧ A.length = k
  | [], k, q, h => by simp at h
  | x :: r, 0, q, h => ⟨[], r, by rw [show x = q from Option.some.inj h]; rfl, rfl⟩
  | x :: r, k + 1, q, h => by
    obtain ⟨A, B, e, el⟩ := split_at (l := r) (k := k) (q := q) h
    exact ⟨x :: A, B, by rw [e]; rfl, by rw [← el]; rfl⟩
theorem fmR_mid {β : Type} {A B : List (Addr × β)} {b c : β} : fmR (A ++ (a, b) :: B) = fmR (A ++ (a, c) :: B) := by unfold fmR; rw [List.map_append, List.map_append]; rfl
theorem fmR_at {β : Type} {A B : List (Addr × β)} {b : β} {k : Int} (k0 : 0 ≤ k) (h : A.length = k.toNat) : atI (fmR (A ++ (a, b) :: B)) k = some (.ref a) := by
  refine at_n k0 ?_
  unfold fmR
  rw [List.map_append, List.getElem?_append_right (by rw [List.length_map]; omega), List.length_map, h, Nat.sub_self]
  rfl
theorem k_lcRN {β : Type} {te : TE} {k : Nat} {n : Int} (ob : β → HO) (h : Int → β) (hh : Has H L) (hn : 0 ≤ n ∧ n ≤ 100000)
    (hs : ∀ z : Int, 0 ≤ z → z < n → ∀ D m H' (Q' : VK), Has H' ([(D, .lst (fmR m))] :: fmU ob m :: L) → (∀ u H'', Has H'' ([(u, ob (h z))] :: [(D, .lst (fmR m))] :: fmU ob m :: L) → Q' (.ref u) H'') → te ((wipe σ [k]).set k (some (.int z))) H' Q')
    (q : ∀ D m H', m.map (·.2) = (rgI n).map h → Has H' ([(D, .lst (fmR m))] :: fmU ob m :: L) → Q (.ref D) H') : kLcR (gName k) tYes te [k] σ [.int n] H Q := by
  have hw : ∀ x, wipe ((wipe σ [k]).set k (some x)) [k] = wipe σ [k] := fun x => by
    show ((σ.set k none).set k (some x)).set k none = σ.set k none
    rw [List.set_set, List.set_set]
  refine k_lcR (L := L) hh (fun D i H' => ∃ m : List (Addr × β), m.map (·.2) = (rgI i).map h ∧ Has H' ([(D, .lst (fmR m))] :: fmU ob m :: L)) hn (fun D H' h' => ⟨[], rfl, (Has.nilU.mpr h').sub (Sub.p1 (Sub.p0 Sub.rf))⟩) (fun D i H' hi h' => ?_) (fun D H' h' => ?_)
  · obtain ⟨m, em, h'⟩ := h'
    have et : rgI ((i + 1 : Nat) : Int) = rgI i ++ [(i : Int)] := by
      unfold rgI
      rw [Int.toNat_natCast, Int.toNat_natCast, List.range_succ, List.map_append]
      rfl
    have lr : (rgI (i : Int)).length = i := by rw [rgI_len, Int.toNat_natCast]
    refine ⟨hw _, ?_⟩
    refine x_yes (ifT (hs i (by omega) hi D m H' _ h' fun u H3 h3 => ?_))
    refine ⟨_, h3.g1, ?_, m ++ [(u, h i)], ?_, fm_add h3⟩
    · rw [sizeLine_eq]
      unfold fmR
      rw [List.length_map]
      have l0 := congrArg List.length em
      rw [List.length_map, List.length_map] at l0
      omega
    · rw [et, List.map_append, List.map_append, em]
      rfl
  · obtain ⟨m, em, h'⟩ := h'
    rw [Int.toNat_of_nonneg hn.1] at em
    exact q D m H' em h'
/-- b in bs, truths -/
theorem k_inB {neg : Bool} {bs : List Bool} {b : Bool} (hp : H p = some (.lst (bs.map V.bl))) (q : Q (.bl (if neg then !decide (b ∈ bs) else decide (b ∈ bs))) H) : rIn K neg (.bl b) (.ref p) H Q := by
  refine ⟨p, _, rfl, .inl (SqL.of hp), rfl, ?_, ?_⟩
  · rw [List.all_eq_true]
    intro y hy
    obtain ⟨z, _, rfl⟩ := List.mem_map.mp hy
    rfl
  · have e : inV (.bl b) (bs.map V.bl) = decide (b ∈ bs) := by
      unfold inV
      rw [List.any_map]
      by_cases h : b ∈ bs
      · rw [decide_eq_true h, List.any_eq_true]
        exact ⟨b, h, by simp [eqV]⟩
      · rw [decide_eq_false h, List.any_eq_false]
        intro z hz
        have : z ≠ b := fun e => h (e ▸ hz)
        cases b <;> cases z <;> simp_all [eqV]
    rw [e]
    exact q
theorem perm_mem {α : Type} [DecidableEq α] : ∀ {l m : List α}, l.Nodup → m.Nodup → (∀ z, z ∈ l ↔ z ∈ m) → l.Perm m
  | [], m, _, _, h => by
    cases m with
    | nil => exact .refl _
    | cons a r => exact absurd ((h a).mpr (List.mem_cons.mpr (.inl rfl))) List.not_mem_nil
  | a :: r, m, nl, nm, h => by
    have ha : a ∈ m := (h a).mp (List.mem_cons.mpr (.inl rfl))
    have nl2 := List.nodup_cons.mp nl
    have ih := perm_mem (l := r) (m := m.erase a) nl2.2 (nm.erase _) fun z => by
      rw [nm.mem_erase_iff]
      constructor
      · intro hz
        exact ⟨fun e => nl2.1 (e ▸ hz), (h z).mp (List.mem_cons_of_mem _ hz)⟩
      · intro hz
        rcases List.mem_cons.mp ((h z).mpr hz.2) with e | e
        · exact absurd e hz.1
        · exact e
    exact (ih.cons a).trans (List.perm_cons_erase ha).symm
theorem rise_nodup {l : List Int} (h : l.Pairwise (· < ·)) : l.Nodup := h.imp fun h => Int.ne_of_lt h
theorem rise_eq {l m : List Int} (h1 : l.Pairwise (· < ·)) (h2 : m.Pairwise (· < ·)) (h : ∀ z, z ∈ l ↔ z ∈ m) : l = m :=
  (perm_mem (rise_nodup h1) (rise_nodup h2) h).eq_of_pairwise (fun a b _ _ h h' => Int.le_antisymm h h') (h1.imp fun h => Int.le_of_lt h) (h2.imp fun h => Int.le_of_lt h)
end
end Sy
/-! More rules: C(e, k = v), a list taken apart, while. -/
namespace Sy
open PySem L2
abbrev gKw : List V → List V → List V := fun vs zs => vs ++ zs
/-- one of two readings of the same expression -/
def tOrE (t u : TE) : TE := fun σ H Q => t σ H Q ∨ u σ H Q
theorem pe_orE {X : Cx} {e : Expr} {t u : TE} (h1 : PE X e t) (h2 : PE X e u) : PE X e (tOrE t u) := ⟨fun pins s σ H Q I h => h.elim (h1.run pins s σ H Q I) (h2.run pins s σ H Q I)⟩
section
variable {K : PySem.W.Frag} {σ : St} {H H1 : Hp} {L : List U} {Q : VK} {QS : St → Hp → Prop} {a b d p C : Addr} {nx bk ct : St → Hp → Prop} {rt : VK} {xs : List V} {tr tk : TA}
def kMakeN (C : Addr) (n m : Nat) (sp : Sp) (gV : List V → List V → List V) (E : XK) (vs zs : List V) (H2 : Hp) (Q : VK) : Prop := vs.length = n ∧ zs.length = m ∧
  ∀ x dx, H2 x = none → H2 dx = none → dx ≠ x → sp (gV (.ref x :: vs) zs) (upd (upd H2 dx (.own x)) x (.ins C dx [])) (fun v H3 => v = .non ∧ Q (.ref x) H3) E
theorem x_makeN {n m : Nat} {sp : Sp} {gV : List V → List V → List V} {E : XK} (q : tr σ H fun vs H1 => tk σ H1 fun zs H2 => kMakeN C n m sp gV E vs zs H2 Q) : tMakeN C n m sp gV E tr tk σ H Q := q
theorem k_makeN {n m : Nat} {sp : Sp} {gV : List V → List V → List V} {E : XK} {vs zs : List V} (hh : Has H L) (hn : vs.length = n) (hm : zs.length = m) (q : ∀ x dx H', Has H' ([(x, .ins C dx [])] :: L) → sp (gV (.ref x :: vs) zs) H' (fun v H2 => v = .non ∧ Q (.ref x) H2) E) : kMakeN C n m sp gV E vs zs H Q :=
  ⟨hn, hm, fun x dx hx hd ne => q x dx _ ((hh.nw hd (o := .own x)).nw (p := x) (o := .ins C dx []) (by rw [upd_ne (Ne.symm ne)]; exact hx) |>.sub (Sub.p0 (Sub.skip Sub.rf)))⟩
theorem x_or1 {t u : TE} (q : t σ H Q) : tOrE t u σ H Q := .inl q
theorem x_or2 {t u : TE} (q : u σ H Q) : tOrE t u σ H Q := .inr q
theorem k_isB {b c : Bool} (q : Q (.bl (decide (b = c))) H) : rIsB (.bl b) (.bl c) H Q := ⟨b, c, rfl, rfl, q⟩
theorem k_notB {b c : Bool} (q : Q (.bl (!decide (b = c))) H) : rNotB (.bl b) (.bl c) H Q := ⟨b, c, rfl, rfl, q⟩
/-- None in xs, whole numbers -/
theorem k_inNon {ns : List Int} (hp : H p = some (.lst (ns.map V.int))) (q : Q (.bl false) H) : rIn K false .non (.ref p) H Q := by
  refine ⟨p, _, rfl, .inl (SqL.of hp), rfl, ?_, ?_⟩
  · rw [List.all_eq_true]
    intro y hy
    obtain ⟨z, _, rfl⟩ := List.mem_map.mp hy
    rfl
  · have e : inV .non (ns.map V.int) = false := by
      unfold inV
      rw [List.any_map, List.any_eq_false]
      intro z hz
      simp [eqV]
    rw [e]
    exact q
theorem x_glst {k : Nat} {g : TGs} (hp : H a = some (.lst xs)) (hl : xs.length = k) (q : g xs σ H QS) : gLst K k g (.ref a) σ H QS := ⟨a, xs, rfl, SqL.of hp, hl, q⟩
def kPar3 (i j l : Nat) (nx : St → Hp → Prop) (σ : St) (vs : List V) (H1 : Hp) : Prop := ∃ u v w, vs = [u, v, w] ∧ nx (((σ.set i (some u)).set j (some v)).set l (some w)) H1
theorem x_par3 {i j l : Nat} (q : tr σ H fun vs H1 => kPar3 i j l nx σ vs H1) : tPar3 i j l tr ⟨nx, rt, bk, ct⟩ σ H := q
theorem k_par3 {i j l : Nat} {u v w : V} (q : nx (((σ.set i (some u)).set j (some v)).set l (some w)) H) : kPar3 i j l nx σ [u, v, w] H := ⟨u, v, w, rfl, q⟩
/-- while: W m with the measure m -/
def kWb (W : Nat → St → Hp → Prop) (m : Nat) (tb : TS) (nx : St → Hp → Prop) (rt : VK) (σ : St) (H1 : Hp) : Prop := ∃ N : St → Hp → Prop, (∀ σ' H', N σ' H' → ∃ m', m' < m ∧ W m' σ' H') ∧ tb ⟨N, rt, nx, N⟩ σ H1
theorem k_while {c : TT} {tb : TS} (W : Nat → St → Hp → Prop) (m : Nat) (h0 : W m σ H)
    (hs : ∀ m σ H, W m σ H → c σ H fun b H1 => if b = true then kWb W m tb nx rt σ H1 else nx σ H1) : tWhile c tb ⟨nx, rt, bk, ct⟩ σ H := ⟨W, ⟨m, h0⟩, hs⟩
theorem k_wb {tb : TS} {W : Nat → St → Hp → Prop} {m : Nat} (q : tb ⟨fun σ' H' => ∃ m', m' < m ∧ W m' σ' H', rt, nx, fun σ' H' => ∃ m', m' < m ∧ W m' σ' H'⟩ σ H) : kWb W m tb nx rt σ H := ⟨_, fun _ _ h => h, q⟩
end
end Sy
/-! list(d.values()). -/
namespace Sy
open PySem PySem.W PySem.Calls PySem.Spec PyProof.Rows L2
def tListVals (te : TE) : TE := fun σ H Q => te σ H fun x H1 => ∃ (d : Addr) (kvs : List (Key × V)), x = .ref d ∧ H1 d = some (.dK kvs) ∧ ∀ p, H1 p = none → Q (.ref p) (upd H1 p (.lst (kvs.map (·.2))))
section
variable {X : Cx} {e : Expr} {te : TE} {p apos cpos pos : Pos}
theorem vals_snd : ∀ {kvs : List (Key × V)} {vs : List (Key × Value)}, KV kvs vs → Vals (kvs.map (·.2)) (vs.map (·.2))
  | _, _, .nil => .nil
  | _, _, .cons h t => .cons h.2 (vals_snd t)
theorem pe_listVals (hc : X.calm = true) (he : PE X e te) (hg : Gl X "list") (hm : X.mg "list" = none) (hv : bootBuiltins "list" = some (.type "list")) (hbase : attributeBase e "values" X.env (eval e X.env) = eval e X.env := by rfl) (hline : (apos.endLine == cpos.line) = true := by rfl)
    (hs : starEach [.Call (.Attribute e "values" apos) [] [] cpos] X.env = (false, eval (.Call (.Attribute e "values" apos) [] [] cpos) X.env) :: starEach [] X.env := by rfl) :
    PE X (.Call (.Name "list" p) [.Call (.Attribute e "values" apos) [] [] cpos] [] pos) (tListVals te) := by
  refine ⟨fun pins s σ H Q I hq => ?_⟩
  refine wpAny_Call_Name_kw (ld_blt I hg hm hv ?_)
  refine PyProof.Rows.callWith_type1 ?_ hs rfl
  rw [hs]
  show wpAny _ _ (spliced ((false, eval (.Call (.Attribute e "values" apos) [] [] cpos) X.env) :: backTo pos (starEach [] X.env))) _ _ s
  refine Calls.spliced_cons ?_
  refine wpAny_Call_method (T := "dict") (id := "dict.values") hbase rfl hline F.plainAttrs_dict F.slot_dict_values F.type_dict_values (thn (he.run pins s σ H _ I hq) fun u s1 ⟨x, H1, I1, rx, d, kvs, ex, hd, q⟩ => ?_)
  subst ex
  obtain rfl : u = Value.ref d := rx
  obtain ⟨hz, hs0, vs, kv, hdo⟩ := I1.hok d _ hd
  obtain ⟨ep, hat⟩ := hdo.dictAt
  have lk : kvs.length = vs.length := Paired.length kv
  have I2 : Inv X pins σ H1 { s1 with heap := s1.heap.push { cls := .type "dict_values", data := .fields #[.ref d] } } := I1.kept (t' := s1.toks) fun b ob q => Heap.get?_push_of_some _ q
  refine ⟨hdo.typeIs, hdo.mapOf.noDict, ?_⟩
  show wpAny _ _ (callWith cpos (.builtin "dict.values") [.ref d] [] []) _ X.xe s1
  refine method_meetsIn F.slot_dict_values F.entry_dict_values rfl (PySem.evalArgs_none ⟨rfl, hdo.typeIs, F.args_dict_values_1 _, _, meets_dict_values (mixKind X.prog X.w) d hs0, ⟨vs, hdo⟩, ?_⟩)
  refine Calls.spliced_nil ?_
  refine PySem.W.kdl_call (PySem.W.kdl_values (knd := mixKind X.prog X.w) (d := d) (r := s1.heap.objs.size) (kvs := vs) (ep := ep)) (I1.ok.hd hc) ⟨⟨_, Heap.get?_push_size _ rfl, rfl, rfl⟩, hat.push _⟩ (by omega) fun h' tk acc c hk hD hacc => ?_
  have ea : acc.toList = vs.map (·.2) := PySem.W.kdl_vals_eq acc.toList (by rw [Array.length_toList]; exact hacc.1) fun j v e => hacc.2 j v (by rw [← Array.getElem?_toList]; exact e)
  refine ⟨.ref _, _, I2.laid (t' := tk) (o := .lst (kvs.map (·.2))) hk (Nat.le_refl _) ⟨by rw [List.length_map]; omega, acc.toList, c, by rw [ea]; exact vals_snd kv, by rw [Array.toArray_toList]; exact hD⟩, rfl, q _ (I2.hok.fresh (Nat.le_refl _))⟩
end
end Sy
namespace Sy
open PySem L2
section
variable {K : PySem.W.Frag} {σ : St} {H H1 : Hp} {L : List U} {Q : VK} {a b d p C : Addr} {te : TE}
def kListVals (x : V) (H1 : Hp) (Q : VK) : Prop := ∃ (d : Addr) (kvs : List (Key × V)), x = .ref d ∧ H1 d = some (.dK kvs) ∧ ∀ p, H1 p = none → Q (.ref p) (upd H1 p (.lst (kvs.map (·.2))))
theorem x_listVals (q : te σ H fun x H1 => kListVals x H1 Q) : tListVals te σ H Q := q
theorem k_listVals {mm : List (Int × V)} (hh : Has H L) (hp : H d = some (dI mm)) (q : ∀ p H', Has H' ([(p, .lst (mm.map (·.2)))] :: L) → Q (.ref p) H') : kListVals (.ref d) H Q := by
  refine ⟨d, _, rfl, hp, fun p hp => ?_⟩
  have e : (mk g1 mm).map (·.2) = mm.map (·.2) := by unfold mk; rw [List.map_map]; rfl
  rw [e]
  exact q p _ (hh.nw hp)
end
end Sy
/-! More rules: xs[::-1], == of alike data, a place of a dict set. -/
namespace Sy
open PySem L2
theorem Has.permU {H : Hp} {u u' : U} {L : List U} (h : Has H (u :: L)) (p : u.Perm u') : Has H (u' :: L) := by
  obtain ⟨n, a⟩ := h
  have e : (u :: L).flatten.Perm (u' :: L).flatten := p.append_right L.flatten
  exact ⟨(e.map (·.1)).nodup_iff.mp n, fun q hq => a q (e.mem_iff.mpr hq)⟩
theorem fmU_perm {β : Type} {ob : β → HO} {m m' : List (Addr × β)} (p : m.Perm m') : (fmU ob m).Perm (fmU ob m') := p.map _
section
variable {K : PySem.W.Frag} {σ : St} {H H1 : Hp} {L : List U} {Q : VK} {a b d p C : Addr} {te : TE} {x y v : V} {i : Int}
def kRevL (K : PySem.W.Frag) (x : V) (H1 : Hp) (Q : VK) : Prop := ∃ a xs, x = .ref a ∧ SqL K H1 a xs ∧ ∀ p, H1 p = none → Q (.ref p) (upd H1 p (.lst xs.reverse))
theorem x_revL (q : te σ H fun x H1 => kRevL K x H1 Q) : tRevL K te σ H Q := q
theorem k_revL {xs : List V} (hh : Has H L) (hp : H a = some (.lst xs)) (q : ∀ p H', Has H' ([(p, .lst xs.reverse)] :: L) → Q (.ref p) H') : kRevL K (.ref a) H Q := ⟨a, xs, rfl, SqL.of hp, fun p hp => q p _ (hh.nw hp)⟩
theorem shaped_lay {d : PyData} (h : SeqAt.shaped d = true) : d.canLay0 = true := by
  unfold SeqAt.shaped at h
  exact (Bool.and_eq_true_iff.mp h).1
theorem k_neSame {dd : PyData} (hx : Dp K H x dd) (hy : Dp K H y dd) (hs : SeqAt.shaped dd = true) (q : Q (.bl false) H) : rNeD K x y H Q :=
  ⟨dd, dd, hx, hy, hs, hs, by rw [SeqAt.eqv_refl dd (shaped_lay hs)]; exact q⟩
theorem k_eqSame {dd : PyData} (hx : Dp K H x dd) (hy : Dp K H y dd) (hs : SeqAt.shaped dd = true) (q : Q (.bl true) H) : rEqD K x y H Q :=
  ⟨dd, dd, hx, hy, hs, hs, by rw [SeqAt.eqv_refl dd (shaped_lay hs)]; exact q⟩
theorem k_setD {mm : List (Int × V)} {M : List U} {Q : Hp → Prop} (hp : H a = some (dI mm)) (hl : mm.length < sizeLine) (hh : Has (upd H a (dI (putK mm i v))) M) (q : ∀ H', Has H' M → Q H') : rSetD (.ref a) (.int i) v H Q := by
  refine ⟨a, _, rfl, DPut.k (k := g1 i) hp (by rw [mk_len]; exact hl), ?_⟩
  rw [mk_put g1_inj]
  exact q _ hh
theorem x_ifAnd {t u : TT} {s1 s2 : TS} {nx bk ct : St → Hp → Prop} {rt : VK} {b1 b2 : Bool} (ht : ∀ Q' : Bool → Hp → Prop, Q' b1 H → t σ H Q') (hu : ∀ Q' : Bool → Hp → Prop, Q' b2 H → u σ H Q') (q1 : b1 = true → b2 = true → s1 ⟨nx, rt, bk, ct⟩ σ H) (q2 : ¬ (b1 = true ∧ b2 = true) → s2 ⟨nx, rt, bk, ct⟩ σ H) : tIfS (tAnd t u) s1 s2 ⟨nx, rt, bk, ct⟩ σ H := by
  refine x_if (x_and (ht _ ?_))
  cases b1 with
  | false => exact ifF (ifF (q2 (by simp)))
  | true =>
    refine ifT (hu _ ?_)
    cases b2 with
    | false => exact ifF (q2 (by simp))
    | true => exact ifT (q1 rfl rfl)
def srtI (l : List Int) : List Int := l.mergeSort (fun a b => decide (a ≤ b))
theorem srtI_eq {l ys : List Int} (p : ys.Perm l) (s : ys.Pairwise (· ≤ ·)) : ys = srtI l := by
  have p2 : (srtI l).Perm l := List.mergeSort_perm _ _
  have s2 : (srtI l).Pairwise (fun a b => decide (a ≤ b) = true) := List.pairwise_mergeSort (fun a b c h1 h2 => by simp at h1 h2 ⊢; omega) (fun a b => by simp; omega) l
  exact (p.trans p2.symm).eq_of_pairwise (fun a b _ _ h h' => Int.le_antisymm h h') s (s2.imp of_decide_eq_true)
end
end Sy
/-! len(x) of an own class with its own __len__; {k: v}. -/
namespace Sy
open PySem PySem.Spec PyProof.Rows L2
def rLenO (C : Addr) (sp : Sp) (E : XK) : List V → Hp → VK → Prop := fun xs H Q => ∃ (a dx : Addr) (fs : List (Str × V)), xs = [.ref a] ∧ H a = some (.ins C dx fs) ∧ sp [.ref a] H (fun v H' => ∃ n : Int, v = .int n ∧ 0 ≤ n ∧ n < 2 ^ 63 ∧ Q (.int n) H') E
theorem call_lenO {X : Cx} {CX : CXT} {C f : Addr} {fd : FuncData} {ps : List Str} {sp : Sp} {E : XK} {n : Nat} (F : FnOk X.prog X.w X.K X.mg X.base CX n f fd ps sp) (hr : Room (n + 1) X.A) (M : Meth X.K C "__len__" f) (hb : Binds X.K fd ps []) (hx : Passes CX X E) : CallR X (.builtin "len") (rLenO C sp E) := by
  intro pins s σ H xs us Q I r h
  obtain ⟨a, dx, fs, rfl, ha, hsp⟩ := h
  obtain ⟨u, rfl, ru⟩ := vals1 r
  obtain rfl : u = Value.ref a := ru
  obtain ⟨mA, J, _⟩ := ins_get I.hok ha
  obtain ⟨od, J, _⟩ := J.look
  obtain ⟨m, hF⟩ := I.fr
  refine PySem.W.len_K hF I.ok.mod.kin J M.at_ M.fn ?_
  have e0 : Env0 X.prog X.w X.K X.mg X.base X.A.in1 X.stack s H := by
    have e := I.env0
    exact ⟨e.frames, e.mod, e.bs, e.bsz, e.funs, e.frf, e.hok, e.bare⟩
  have hl := F.len _ _ _ _ hsp
  have r2 : Vals [V.ref a] [Value.ref a] := .cons rfl .nil
  refine wpAny_call (codeAny_mono (F.run X.A.in1 X.stack s H ⟨[.ref a], []⟩ [.ref a] [.ref a] _ E hr.in1 e0 (by
    have := hb s [.ref a] I.kIn (by simpa using hl)
    simpa using this) r2 hsp) fun r s' hq => ?_)
  cases r with
  | error e => exact hx pins σ H s e s' I hq
  | ok fl =>
    cases fl with
    | ret w =>
      obtain ⟨z, H', I', rz, k, ez, h0, h1, q⟩ := I.after hq
      subst ez
      obtain ⟨tk, rfl⟩ := rz
      exact ⟨⟨h0, h1⟩, .int k, H', I'.tok _, ⟨_, rfl⟩, q⟩
    | next => exact False.elim hq
    | brk => exact False.elim hq
    | cont => exact False.elim hq
end Sy
namespace Sy
open PySem L2
section
variable {σ : St} {H : Hp} {L : List U} {Q : VK} {a C dx p : Addr} {fs : List (Str × V)} {sp : Sp} {E : XK} {tk tv : TE} {i : Int} {v : V}
theorem k_lenO (hp : H a = some (.ins C dx fs)) (q : sp [.ref a] H (fun v H' => ∃ n : Int, v = .int n ∧ 0 ≤ n ∧ n < 2 ^ 63 ∧ Q (.int n) H') E) : rLenO C sp E [.ref a] H Q := ⟨a, dx, fs, rfl, hp, q⟩
def kDisp (p : Addr) (x v : V) (H2 : Hp) (Q : VK) : Prop := H2 p = some (.dK []) ∧ ∃ kvs : List (Key × V), [(x, v)] = kvs.map (fun kv => (kV kv.1, kv.2)) ∧ kvs.length ≤ 15 ∧ Q (.ref p) (upd H2 p (.dK (mergeK [] kvs)))
theorem x_disp1 (hh : Has H L) (q : ∀ p H', Has H' ([(p, dI [])] :: L) → tk σ H' fun x H1 => tv σ H1 fun v H2 => kDisp p x v H2 Q) : tDisp [(tk, tv)] σ H Q := fun p hp => q p _ (hh.nw hp)
theorem k_disp {M : List U} (hp : H p = some (dI [])) (hh : Has (upd H p (dI [(i, v)])) M) (q : ∀ H', Has H' M → Q (.ref p) H') : kDisp p (.int i) v H Q := by
  refine ⟨hp, [(g1 i, v)], rfl, (show 1 ≤ 15 by decide), ?_⟩
  have e : (HO.dK (mergeK [] [(g1 i, v)])) = dI [(i, v)] := by
    unfold mergeK
    rw [List.foldl_cons, List.foldl_nil]
    unfold putK
    simp [mk]
  rw [e]
  exact q _ hh
end
end Sy
/-! for k in d, d locked. -/
namespace Sy
open PySem L2
theorem x_forD {σ : St} {H : Hp} {L : List U} {k : Nat} {d : Addr} {mm : List (Int × V)} {tb : TS} {td : TE} {nx bk ct : St → Hp → Prop} {rt : VK} (Pv : Obj → Nat → St → Hp → Prop) (hh : Has H ([(d, dI mm)] :: L))
    (htd : ∀ o H' (Q' : VK), Has H' ([(d, .frz o (dI mm))] :: L) → Q' (.ref d) H' → td σ H' Q')
    (h0 : ∀ o H', Has H' ([(d, .frz o (dI mm))] :: L) → Pv o 0 σ H')
    (hl : ∀ o i σ' H', Pv o i σ' H' → H' d = some (.frz o (dI mm)))
    (hs : ∀ o (i : Nat) (z : Int) σ' H', (mm.map (·.1))[i]? = some z → Pv o i σ' H' → tb ⟨Pv o (i + 1), fun v H' => H' d = some (.frz o (dI mm)) ∧ rt v (upd H' d (dI mm)), fun σ' H' => H' d = some (.frz o (dI mm)) ∧ nx σ' (upd H' d (dI mm)), Pv o (i + 1)⟩ (σ'.set k (some (.int z))) H')
    (hd : ∀ o σ' H', Pv o mm.length σ' H' → nx σ' (upd H' d (dI mm))) : tLock (tFor (iKeys td) (gName k) tb) ⟨nx, rt, bk, ct⟩ σ H := by
  refine ⟨d, dI mm, hh.g0, trivial, fun o => ?_⟩
  have h1 : Has (upd H d (.frz o (dI mm))) ([(d, .frz o (dI mm))] :: L) := hh.s0
  have hlen : (mk g1 mm).length = mm.length := mk_len _ _
  refine htd o _ _ h1 ⟨d, o, rfl, .inl ⟨mk g1 mm, h1.g0, fun i m σ' H' => m = mm.length - i ∧ i ≤ mm.length ∧ Pv o i σ' H', ⟨mm.length, by simp, Nat.zero_le _, h0 o _ h1⟩, ?_⟩⟩
  rintro i m σ' H' ⟨rfl, hi, p⟩
  have pl := hl o i σ' H' p
  by_cases hlt : i < mm.length
  · refine .inr ⟨⟨pl, by rw [hlen]; exact hlt⟩, Pv o (i + 1), fun σ2 H2 p2 => ⟨mm.length - (i + 1), by omega, rfl, hlt, p2⟩, fun x H2 y => ?_⟩
    obtain ⟨e, kk, vv, hk, ex⟩ := y
    subst e
    have hz1 : (mm.map (·.1))[i]? = some (mm[i]).1 := by rw [List.getElem?_map, List.getElem?_eq_getElem hlt]; rfl
    have hkk : kk = g1 (mm[i]).1 := by
      unfold mk at hk
      rw [List.getElem?_map, List.getElem?_eq_getElem hlt] at hk
      exact (congrArg Prod.fst (Option.some.inj hk)).symm
    subst hkk
    have ex : x = .int (mm[i]).1 := ex
    subst ex
    exact hs o i _ σ' H2 hz1 p
  · have e : i = mm.length := by omega
    subst e
    exact .inl ⟨⟨pl, by rw [hlen]; exact Nat.le_refl _⟩, pl, hd o σ' H' p⟩
end Sy
/-! Exceptions that are kept: try .. except X as e: caught = e; isinstance of what was caught; defs with two promises. -/
namespace Sy
open PySem PySem.Spec PyProof.Rows L2
/-- a caught exception, at a -/
def ExK (cls : Value) (d : Option Addr) (a : Addr) : HO := .ext fun h => ∃ (oe : Obj) (vs : Array Value), h.get? a = some oe ∧ Zc cls d oe ∧ oe.data = .fields vs
theorem exK_ok {P : Program} {w : World} {H : Hp} {h : Heap} {a : Addr} {cls : Value} {d : Option Addr} {oe : Obj} {vs : Array Value} (e : h.get? a = some oe) (z : Zc cls d oe) (hd : oe.data = .fields vs) : ObjOk P w H h a (ExK cls d a) :=
  ⟨⟨oe, vs, e, z, hd⟩, ⟨oe, e⟩, fun _ _ ⟨o, v, q, r⟩ k => ⟨o, v, k o q, r⟩⟩
section
variable {X : Cx} {pins : List (Addr × Obj)} {σ : L2.St} {H : Hp} {s : Shared}
theorem Inv_track {a : Addr} {φ : Heap → Prop} (I : Inv X pins σ H s) (na : H a = none) (n0 : X.s_0.heap.get? a = none) (nL : a ≠ X.env.locals) (nC : ∀ x c, X.env.cells.lookup x = some c → c ≠ a) (nP : ∀ p ∈ X.pn ++ pins, p.1 ≠ a)
    (new : ObjOk X.prog X.w (upd H a (.ext φ)) s.heap a (.ext φ)) : Inv X pins σ (upd H a (.ext φ)) s := by
  refine ⟨I.ok, I.os, I.bare, ⟨I.base.keep, I.base.slot, fun b o e n hq => ?_, I.base.there, fun b xs e => ?_, fun b o u e => ?_, fun b ps e => ?_⟩, I.loc, I.cell, ?_, fun x c e => ?_, fun p hp => ?_, I.hok.laidN (fun _ _ q => q) na new, I.len⟩
  · rw [upd_ne (fun z => by rw [z, n0] at e; cases e)]
    exact I.base.free b o e n hq
  · have q := I.base.tups b xs e
    rw [upd_ne (ne_of_none q na)]
    exact q
  · have q := I.base.frzs b o u e
    rw [upd_ne (ne_of_none q na)]
    exact q
  · obtain ⟨m, q⟩ := I.base.tbls b ps e
    exact ⟨m, by rw [upd_ne (ne_of_none q na)]; exact q⟩
  · rw [upd_ne (Ne.symm nL)]
    exact I.free
  · rw [upd_ne (nC x c e)]
    exact I.freeC x c e
  · obtain ⟨e, n, ne, nf, d⟩ := I.pin p hp
    exact ⟨e, by rw [upd_ne (nP p hp)]; exact n, ne, nf, d⟩
end
/-- what the clause 'except x as n' wishes of an exception of the body, the exception kept behind it -/
def wKeep (K : PySem.W.Frag) (c : Value) (i : Nat) (ts : Addr → Value → Option Addr → TS) (Wout : WX) (D : Ends) : WX := fun cls d σ H =>
  ∃ b, PySem.W.exmOne K cls c = some b ∧ (b = true → ∀ a, H a = none → ts a cls d { nx := fun σ' H' => D.nx (σ'.set i none) (upd H' a (ExK cls d a)), rt := fun _ _ => False, bk := fun _ _ => False, ct := fun _ _ => False } (σ.set i (some (.ref a))) H) ∧
    (b = false → Wout cls d σ H)
section
variable {X : Cx} {x n : Str} {c : Value} {i : Nat} {body suite : List Stmt} {b₀ : Stmt} {np pos pos' : Pos} {tb : WX → TS} {ts : Addr → Value → Option Addr → TS} {Wout : WX}
theorem ps_try_keep (hs : X.stack = X.env :: X.outer) (hf : X.env.frame = some X.env.locals) (hex : X.ex = []) (hN : X.N.Nodup) (hi : X.N[i]? = some n) (hln : X.env.kindOf n = some .local) (hc : Names X x c) (tk : Takes X Wout)
    (hb : ∀ (W : WX) (pn : List (Addr × Obj)) (xe : Value → Shared → Prop), Takes (X.tr pn xe) W → PassesOwn (model X.prog X.w) X.A X.env xe → PSs (X.tr pn xe) body (tb W))
    (hsu : ∀ (a : Addr) (oe : Obj) (cls : Value) (d : Option Addr) (pn : List (Addr × Obj)), Zc cls d oe → (∃ vs, oe.data = .fields vs) → PSs (X.suite a ((a, oe) :: pn)) (b₀ :: suite) (ts a cls d)) :
    PS X (.Try body [.ExceptHandler (some (.Name x np)) (some n) (b₀ :: suite) pos'] [] [] pos) (fun D σ H => tb (wKeep X.K c i ts Wout D) D σ H) := by
  refine ⟨fun pins s σ H D I h => ?_⟩
  have ok := I.ok
  have hfr : X.A.frames = some (X.env :: X.outer) := by rw [ok.frames, hs]
  have hloc : Loc X.env.scope n := .inl hln
  refine wpAny_Try_except ?_
  refine wpAny_mono ((hb (wKeep X.K c i ts Wout D) (X.pn ++ pins) (fun e s₁ => wpAny (model X.prog X.w) X.A (noteFrame e X.env) (fun _ s₂ => wpAny (model X.prog X.w) X.A (setFlight e none) (fun _ s₃ =>
    wpAny (model X.prog X.w) X.A (handleBy e X.env [.ExceptHandler (some (.Name x np)) (some n) (b₀ :: suite) pos']) (SP X pins D) X.xe s₃) X.xe s₂) X.xe s₁) (fun u s' xx => ?_) PassesOwn.looking).run [] s σ H D (I.toTry _) h) (fun f s1 hsp => ?_) (fun e s1 he => he)
  · -- the catch
    obtain ⟨a, B, sI, pins', σ', H', cls, d, rfl, J', nb, up, sky, na, os, ag, b, hb1, hyes, hno⟩ := xx
    have J : Inv X pins σ' H' sI := J'.ofTry ok
    have sky' : Sky B (X.env :: X.outer) a (Zc cls d) X.env.locals s'.heap := by rw [← hs]; exact sky
    show wpAny (model X.prog X.w) X.A (noteFrame (.ref a) X.env) _ _ _
    refine Sky.land Zc.steady hfr hf sky' fun h3 fl3 up3 => ?_
    have J3 : Inv X pins σ' H' { s' with heap := h3 } := J.landed nb fl3.1 (up.trans up3) os ag
    obtain ⟨oe3, vs3, he3, hz3, hd3⟩ := fl3.there
    have notFr : ∀ {h : Heap} {o : Obj} {vs : Array Value}, h.FunFrames B (X.env :: X.outer) → h.get? a = some o → o.data = .fields vs → a ∉ frs (X.env :: X.outer) := fun {h o vs} ff e dd hm => by
      obtain ⟨_, o', e', hnf⟩ := ff.mem hm
      rw [e] at e'; cases e'
      exact hnf _ dd
    have nfr := notFr fl3.2.2.1 he3 hd3
    have nL : a ≠ X.env.locals := fun z => nfr (List.mem_filterMap.mpr ⟨X.env, List.mem_cons_self, by rw [hf, z]⟩)
    have nF : a ∉ X.fs := fun hm => by
      obtain ⟨e, he, q⟩ := List.mem_filterMap.mp hm
      exact nfr (List.mem_filterMap.mpr ⟨e, List.mem_cons_of_mem _ he, q⟩)
    have nI : sI.heap.get? a = none := by
      cases e : sI.heap.get? a with
      | none => rfl
      | some o =>
        have z := nb a o e (by rw [hs]; exact nfr)
        rw [fl3.2.1] at z
        cases z
    have n0 : X.s_0.heap.get? a = none := by
      cases e : X.s_0.heap.get? a with
      | none => rfl
      | some o =>
        obtain ⟨o', z⟩ := J.base.there a o e (by rw [hex]; exact fun z => nomatch z)
        rw [nI] at z
        cases z
    have nP : ∀ p ∈ X.pn ++ pins, p.1 ≠ a := fun p hp z => by
      obtain ⟨e, _⟩ := J.pin p hp
      rw [z, nI] at e
      cases e
    have S3 := J3.suite he3 hd3 na nL nF
    refine wpAny_handleBy_cons (codeAny_handlers_test ?_) (by intro q; cases q)
    have LT : PySem.W.Looks (model X.prog X.w) h3 (typeOf (.ref a)) cls := fun A Q E s k q => wpAny_typeOf_ref (k _ _ he3) (by rw [hz3.1]; exact q)
    have LM := PySem.W.exm_one (M := model X.prog X.w) (J3.kIn) LT hb1
    have test : ∀ {Q : Value → Shared → Prop} {E : Value → Shared → Prop}, Q c { s' with heap := h3 } → wpAny (model X.prog X.w) (X.A.mark (some (.ref a))) (eval (.Name x np) X.env) Q E { s' with heap := h3 } := fun {Q E} q => by
      obtain ⟨hg, hdbg, hm | ⟨hm, hv, hnn⟩⟩ := hc
      · exact ld_glob (X := X.suite a ((a, oe3) :: (X.pn ++ pins))) S3 hg hm q hdbg
      · exact ld_blt (X := X.suite a ((a, oe3) :: (X.pn ++ pins))) S3 hg hm hv q hnn hdbg
    refine test (LM.here ?_)
    cases b with
    | true =>
      refine codeAny_handlers_suite_as ?_
      refine HandSPX.lands_againZ fl3 fun h4 fl4 up4 => ?_
      have J4 : Inv X pins σ' H' { s' with heap := h4 } := J.landed nb fl4.1 ((up.trans up3).trans up4) os ag
      obtain ⟨oe4, vs4, he4, hz4, hd4⟩ := fl4.there
      have S4 := J4.suite he4 hd4 na nL nF
      refine store_ok (X := X.suite a ((a, oe4) :: (X.pn ++ pins))) (v := .ref a) S4 hN hi hloc rfl (fun s5 S5 => ?_) (.inr hln)
      refine wpAny_mono ((hsu a oe4 cls d (X.pn ++ pins) hz4 ⟨_, hd4⟩).run [] s5 _ H' _ S5 (hyes rfl a na)) (fun f s6 hsp => ?_) (fun _ _ z => False.elim z)
      cases f with
      | next =>
        obtain ⟨σ6, H6, S6, q6⟩ := hsp
        refine gone_ok (X := X.suite a ((a, oe4) :: (X.pn ++ pins))) S6 hN hi hln fun s7 S7 => ?_
        obtain ⟨e7, n7, _, _, d7⟩ := S7.pin (a, oe4) (List.mem_append.mpr (.inl List.mem_cons_self))
        have J7 := S7.unsuite ok
        refine ⟨_, _, Inv_track J7 n7 n0 nL (fun y c e z => ?_) nP (exK_ok e7 hz4 hd4), q6⟩
        obtain ⟨v, o, ho, hd⟩ := J7.cell y c e
        rw [z] at ho
        have ho : s7.heap.get? a = some o := ho
        rw [e7] at ho
        have := Option.some.inj ho
        subst this
        exact d7 _ hd
      | brk =>
        obtain ⟨_, _, _, q6⟩ := hsp
        exact q6.elim
      | cont =>
        obtain ⟨_, _, _, q6⟩ := hsp
        exact q6.elim
      | ret u =>
        obtain ⟨_, _, _, _, _, q6⟩ := hsp
        exact q6.elim
    | false =>
      show wpAny _ X.A (handleBy (.ref a) X.env []) _ _ _
      refine wpAny_handleBy_nil ?_
      obtain ⟨k1, k2, k3, oe, vs, T, oT, ts', he, hz, hd, h1, hr⟩ := id fl3
      unfold PySem.passOn
      refine wpAny_bind (wpAny_field he hd h1 ?_)
      rw [if_neg (show ¬ ((Value.ref T == Value.none) = true) from by simp)]
      have fin : wpAny (model X.prog X.w) X.A (setFlight (.ref a) X.env.frame) (fun _ s4 => wpAny (model X.prog X.w) X.A (throw (.ref a) : Sem Flow) (SP X pins D) X.xe s4) X.xe { s' with heap := h3 } := by
        rw [hf]
        refine HandSPX.setFlight_upZ fl3 fun h4 hh4 up4 => wpAny_throw (tk _ _ ?_)
        exact ⟨a, B, sI, pins, σ', H', cls, d, rfl, J, nb, (up.trans up3).trans up4, .inr (.inr (by rw [hs]; exact hh4)), na, os, ag, hno rfl⟩
      first
        | exact wpAny_bind (wpAny_pure (wpAny_bind fin))
        | exact wpAny_bind fin
  · cases f with
    | next => obtain ⟨σ6, H6, S6, q6⟩ := hsp; exact wpAny_execs_nil ⟨σ6, H6, S6.ofTry ok, q6⟩
    | brk => obtain ⟨σ6, H6, S6, q6⟩ := hsp; exact ⟨σ6, H6, S6.ofTry ok, q6⟩
    | cont => obtain ⟨σ6, H6, S6, q6⟩ := hsp; exact ⟨σ6, H6, S6.ofTry ok, q6⟩
    | ret u => obtain ⟨v6, σ6, H6, S6, r6, q6⟩ := hsp; exact ⟨v6, σ6, H6, S6.ofTry ok, r6, q6⟩
end
/-- isinstance(x, c), x an exception that was caught -/
def rIsK (K : PySem.W.Frag) : List V → Hp → VK → Prop := fun xs H Q => ∃ (a D : Addr) (c : V) (cv : Value) (b : Bool), xs = [.ref a, c] ∧ H a = some (ExK (.ref D) none a) ∧ ExcC K D ∧ (∀ u, RelV c u → u = cv) ∧ PySem.W.kitOne K (.ref D) cv = some b ∧ Q (.bl b) H
theorem call_isK {X : Cx} : CallR X (.builtin "isinstance") (rIsK X.K) := by
  intro pins s σ H xs us Q I r h
  obtain ⟨a, D, c, cv, b, rfl, ha, C, hcv, e, q⟩ := h
  cases r with
  | cons rx rr =>
    cases rr with
    | cons rt rr =>
      cases rr
      cases rx
      have ec := hcv _ rt
      subst ec
      obtain ⟨⟨oe, vs, hget, hz, hv⟩, _, _⟩ := I.hok a _ ha
      have J : PySem.W.InstAt s.heap a oe D none := by
        obtain ⟨oc, od, oda, osl⟩ := oe
        obtain ⟨h1, h2⟩ := hz
        dsimp only at h1 h2 hv
        subst h1 h2 hv
        exact ⟨hget, rfl, rfl, trivial⟩
      exact PySem.W.kia_one (PySem.W.handS_kitx_exc C.hg C.hk C.hs C.hd C.ha C.hn C.ht C.hm) I.kIn J e (fun z => nomatch z) fun tk => ⟨.bl b, H, I.kept (t' := tk) fun _ _ z => z, rfl, q⟩
/-! ### a def with two promises; a def that lets nothing out -/
section
variable {P : Program} {w : World} {K : PySem.W.Frag} {mg : Str → Option Value} {base : Heap} {CX CX' : CXT} {n m : Nat} {f : Addr} {fd : FuncData} {ps : List Str} {sp sp' : Sp}
theorem fn_mono (F : FnOk P w K mg base CX n f fd ps sp) (h : n ≤ m) : FnOk P w K mg base CX m f fd ps sp := ⟨F.len, fun A outer s H args us vs Q E hr e0 b r hsp => F.run A outer s H args us vs Q E (hr.mono h) e0 b r hsp⟩
theorem fn_or (F : FnOk P w K mg base CX n f fd ps sp) (G : FnOk P w K mg base CX m f fd ps sp') : FnOk P w K mg base CX (max n m) f fd ps (fun vs H Q E => sp vs H Q E ∨ sp' vs H Q E) :=
  ⟨fun vs H Q E h => h.elim (F.len vs H Q E) (G.len vs H Q E), fun A outer s H args us vs Q E hr e0 b r hsp => hsp.elim (fun h => F.run A outer s H args us vs Q E (hr.mono (Nat.le_max_left _ _)) e0 b r h) fun h => G.run A outer s H args us vs Q E (hr.mono (Nat.le_max_right _ _)) e0 b r h⟩
end
/-- both promises -/
def spOr (a b : Sp) : Sp := fun vs H Q E => a vs H Q E ∨ b vs H Q E
theorem fn_up {P : Program} {w : World} {K : PySem.W.Frag} {mg : Str → Option Value} {base : Heap} {CX : CXT} {n : Nat} {f : Addr} {fd : FuncData} {ps : List Str} {sp : Sp} (F : FnOk P w K mg base CX0 n f fd ps sp) : FnOk P w K mg base CX n f fd ps sp :=
  ⟨F.len, fun A outer s H args us vs Q E hr e0 b r hsp => codeAny_mono (F.run A outer s H args us vs Q E hr e0 b r hsp) fun r s' hq => by
    cases r with
    | error e => exact hq.elim
    | ok fl => cases fl <;> exact hq⟩
/-! ### xs.count(v), flat items -/
def rCntV (K : PySem.W.Frag) : V → List V → Hp → VK → Prop := fun x xs H Q => ∃ (a : Addr) (ys : List V) (y : V), x = V.ref a ∧ xs = [y] ∧ SqL K H a ys ∧ flatV y = true ∧ ys.all flatV = true ∧ Q (.int ((ys.countP fun z => eqV z y) : Nat)) H
theorem cnt_vals {y : V} : ∀ {ys : List V} {its : List Value}, Vals ys its → ys.all flatV = true → its.countP (eqU y) = ys.countP fun z => eqV z y
  | _, _, .nil, _ => rfl
  | _, _, .cons (a := z) (b := u) h t, f => by
    rw [List.all_cons, Bool.and_eq_true] at f
    rw [List.countP_cons, List.countP_cons, cnt_vals t f.2, eqU_of h f.1]
theorem mt_countV {X : Cx} : MtR X "list.count" (rCntV X.K) := by
  intro pins s σ H x xs v us Q I rx rxs h
  obtain ⟨a, ys, y, rfl, rfl, hs, fy, fys, q⟩ := h
  cases rx
  cases rxs with
  | cons ry rt =>
    rename_i uy ut
    cases rt
    obtain ⟨its, rv, ⟨⟨cls, dd, data, sl⟩, n, ho, hc, hdn, hd⟩, hlen⟩ := I.list hs
    simp only at hc hd
    subst hc hd
    refine call_meets PySem.F.slot_list_count ⟨_, ho, rfl⟩ PySem.F.entry_list_count (PySem.F.args_list_count_2 _ _)
      (SeqAt.list_countAt a its.toArray n dd sl uy (eqU y)) ⟨ho, fun u' hu' => mem_eqAt ry fy rv fys u' (by simpa using hu'), ?_⟩
    have ec : its.toArray.toList.countP (eqU y) = ys.countP fun z => eqV z y := cnt_vals rv fys
    refine ⟨.int ((ys.countP fun z => eqV z y) : Nat), H, I.tok _, ⟨s.toks, ?_⟩, q⟩
    show Value.int ((its.toArray.toList.countP (eqU y) : Nat) : Int) s.toks = _
    rw [ec]
/-! ### calls that may raise, within a try -/
section
variable {X : Cx} {CX : CXT} {k : Nat} {f C : Addr} {fd : FuncData} {ps : List Str} {sp : Sp} {E : L2.St → XK} {x m : Str} {p pos apos : Pos} {e o : Expr} {es : List Expr} {ta : TE} {t : TA}
def tMethS' (C : Addr) (m : Str) (sp : Sp) (E : L2.St → XK) (ta : TE) (t : TA) : TE := fun σ H Q => ta σ H fun x H1 => ∃ a dx fs, x = .ref a ∧ H1 a = some (.ins C dx fs) ∧ fs.lookup m = none ∧ t σ H1 fun vs H2 => sp (x :: vs) H2 Q (E σ)
theorem pe_methS' {pl : Sem Bool} (he : PE X o ta) (c : Cls X.K C) (hm : Meth X.K C m f) (F : FnOk X.prog X.w X.K X.mg X.base CX k f fd ps sp) (hr : Room k X.A) (hb : Binds X.K fd ps []) (hx : ∀ σ, PassesAt CX X σ (E σ)) (ha : PA X (e :: es) t)
    (hst : starEach (e :: es) X.env = (false, eval e X.env) :: starEach es X.env := by rfl) (hpl : (backTo pos (starEach es X.env)).any (·.1) = false := by rfl)
    (ht : eval (.Call (.Attribute o m apos) (e :: es) [] pos) X.env = (do
      let ov ← eval o X.env
      standAt apos.atName
      let (f, first) ← holding [ov] (getMethod ov m pl)
      callWith pos f first (backTo pos (starEach (e :: es) X.env)) (backToKw pos (keywordEach [] X.env))) := by rfl) :
    PE X (.Call (.Attribute o m apos) (e :: es) [] pos) (tMethS' C m sp E ta t) := by
  refine ⟨fun pins s σ H Q I h => ?_⟩
  refine PySem.W.methodCall_KW (pl := pl) (thn (he.run pins s σ H _ I h) fun u s1 ⟨x, H1, I1, rx, a, dx, fs, ex, ea, l, q⟩ => ?_) ht
  subst ex
  obtain rfl : u = Value.ref a := rx
  refine getmeth_ok I1 ea c hm l ?_
  refine PySem.W.callWith_K (first := [.ref a]) (h₀ := X.base) I.ok.mod.kin hm.kp (thn (ha.run pos pins s1 σ H1 _ I1 q) fun us s2 ⟨vs, H2, I2, r, q2⟩ => ⟨I2.kIn, ?_⟩) hst hpl
  exact run_fnS (us := .ref a :: us) (vs := .ref a :: vs) F hr hb (hx σ) I2 (.cons rfl r) q2
end
end Sy
namespace Sy
open PySem L2
/-- raise C('..') in a def whose way out is E -/
def tRaise (E : XK) (C : Addr) : TS := fun _ _ H => E (.ref C) none H
/-- try: .. except c as e: x = e (e in slot i, x in slot j) -/
def tTryK (K : PySem.W.Frag) (c : Value) (i j : Nat) (tb : WX → TS) : TS := fun D σ H => tb (wKeep K c i (fun _ _ _ => tAsg (tVar i) (gName j)) (fun _ _ _ _ => False) D) D σ H
section
variable {K : PySem.W.Frag} {σ : St} {H : Hp} {L : List U} {Q : VK} {nx bk ct : St → Hp → Prop} {rt : VK} {E : XK} {C : Addr} {cls c : Value} {d : Option Addr} {i j : Nat} {tb : WX → TS} {tr : TA} {ta : TE} {sp : Sp} {Es : St → XK} {a dx : Addr} {fs : List (Str × V)} {m : Str} {D : Ends} {Wout : WX}
theorem x_raise (q : E (.ref C) none H) : tRaise E C D σ H := q
theorem x_tryK (q : tb (wKeep K c i (fun _ _ _ => tAsg (tVar i) (gName j)) (fun _ _ _ _ => False) ⟨nx, rt, bk, ct⟩) ⟨nx, rt, bk, ct⟩ σ H) : tTryK K c i j tb ⟨nx, rt, bk, ct⟩ σ H := q
theorem k_keep (he : PySem.W.exmOne K cls c = some true) (hi : i < σ.length) (hh : Has H L) (q : ∀ a H', Has H' ([(a, ExK cls d a)] :: L) → nx (((σ.set i (some (.ref a))).set j (some (.ref a))).set i none) H') : wKeep K c i (fun _ _ _ => tAsg (tVar i) (gName j)) Wout ⟨nx, rt, bk, ct⟩ cls d σ H := by
  refine ⟨true, he, fun _ a ha => ⟨.ref a, ?_, ?_⟩, fun h => by cases h⟩
  · rw [List.getElem?_set_self hi]
  · exact q a _ (hh.nw ha)
theorem x_callS (q : tr σ H fun vs H1 => sp vs H1 Q (Es σ)) : tCallS sp Es tr σ H Q := q
def kMethS (C : Addr) (m : Str) (sp : Sp) (Es : St → XK) (t : TA) (σ : St) (x : V) (H1 : Hp) (Q : VK) : Prop := ∃ a dx fs, x = .ref a ∧ H1 a = some (.ins C dx fs) ∧ fs.lookup m = none ∧ t σ H1 fun vs H2 => sp (x :: vs) H2 Q (Es σ)
theorem x_methS (q : ta σ H fun x H1 => kMethS C m sp Es tr σ x H1 Q) : tMethS' C m sp Es ta tr σ H Q := q
theorem k_methS (hp : H a = some (.ins C dx fs)) (hl : fs.lookup m = none) (q : tr σ H fun vs H2 => sp (.ref a :: vs) H2 Q (Es σ)) : kMethS C m sp Es tr σ (.ref a) H Q := ⟨a, dx, fs, rfl, hp, hl, q⟩
theorem k_isK {D : Addr} {c : V} {cv : Value} {b : Bool} (hp : H a = some (ExK (.ref D) none a)) (hC : ExcC K D) (hc : ∀ u, RelV c u → u = cv) (hk : PySem.W.kitOne K (.ref D) cv = some b) (q : Q (.bl b) H) : rIsK K [.ref a, c] H Q := ⟨a, D, c, cv, b, rfl, hp, hC, hc, hk, q⟩
theorem k_isKR {D C : Addr} {b : Bool} (hp : H a = some (ExK (.ref D) none a)) (hC : ExcC K D) (hk : PySem.W.kitOne K (.ref D) (.ref C) = some b) (q : Q (.bl b) H) : rIsK K [.ref a, .ref C] H Q := k_isK hp hC (fun u r => r) hk q
theorem k_isKT {D : Addr} {t : String} {b : Bool} (hp : H a = some (ExK (.ref D) none a)) (hC : ExcC K D) (hk : PySem.W.kitOne K (.ref D) (.type t) = some b) (q : Q (.bl b) H) : rIsK K [.ref a, .ty t] H Q := k_isK hp hC (fun u r => r) hk q
theorem k_cntV {y : V} {ys : List V} (hp : H a = some (.lst ys)) (f1 : flatV y = true) (f2 : ys.all flatV = true) (q : Q (.int ((ys.countP fun z => eqV z y) : Nat)) H) : rCntV K (.ref a) [y] H Q := ⟨a, ys, y, rfl, rfl, SqL.of hp, f1, f2, q⟩
end
end Sy
local macro_rules | `(tactic| walk_at "hp") => `(tactic| first | assumption | exact Sy.Has.g0 (by assumption) | exact Sy.Has.g1 (by assumption) | exact Sy.Has.g2 (by assumption) | exact Sy.Has.g3 (by assumption) | exact Sy.Has.g4 (by assumption) | exact Sy.Has.g5 (by assumption) | exact Sy.Has.g6 (by assumption) | exact Sy.Has.g7 (by assumption) | exact Sy.Has.g8 (by assumption) | exact Sy.Has.g9 (by assumption) | exact Sy.Has.g10 (by assumption) | exact Sy.Has.g11 (by assumption) | exact Sy.Has.g12 (by assumption) | exact Sy.Has.g13 (by assumption) | exact Sy.Has.g14 (by assumption) | exact Sy.Has.g15 (by assumption))
local macro_rules | `(tactic| walk_at "hs") => `(tactic| first | exact Sy.Has.s0 (by assumption) | exact Sy.Has.s1 (by assumption) | exact Sy.Has.s2 (by assumption) | exact Sy.Has.s3 (by assumption) | exact Sy.Has.s4 (by assumption) | exact Sy.Has.s5 (by assumption) | exact Sy.Has.s6 (by assumption) | exact Sy.Has.s7 (by assumption) | exact Sy.Has.s8 (by assumption) | exact Sy.Has.s9 (by assumption) | exact Sy.Has.s10 (by assumption) | exact Sy.Has.s11 (by assumption) | exact Sy.Has.s12 (by assumption) | exact Sy.Has.s13 (by assumption) | exact Sy.Has.s14 (by assumption) | exact Sy.Has.s15 (by assumption))
local macro_rules | `(tactic| walk_at "sub1") => `(tactic| first | exact Sy.Sub.rf | apply Sy.Sub.p0 | apply Sy.Sub.p1 | apply Sy.Sub.p2 | apply Sy.Sub.p3 | apply Sy.Sub.p4 | apply Sy.Sub.p5 | apply Sy.Sub.p6 | apply Sy.Sub.p7 | apply Sy.Sub.p8 | apply Sy.Sub.p9 | apply Sy.Sub.p10 | apply Sy.Sub.p11 | apply Sy.Sub.p12 | apply Sy.Sub.p13 | apply Sy.Sub.p14 | apply Sy.Sub.p15 | apply Sy.Sub.skip)
local macro_rules | `(tactic| walk_at "sub") => `(tactic| repeat walk_at "sub1")
local macro_rules | `(tactic| walk_at "has") => `(tactic| (refine Sy.Has.sub (by assumption) ?_; repeat walk_at "sub1"))
local macro_rules | `(tactic| walk_at "sz") => `(tactic| first | (rw [PySem.sizeLine_eq]; first | decide | (simp; done) | (simp; omega) | omega) | omega)
local macro_rules | `(tactic| walk_at "cn") => `(tactic| first | assumption | omega | (unfold L2.CMul; omega) | (unfold L2.CDiv; omega) | (unfold L2.CPow; omega) | decide)
local macro_rules | `(tactic| walk_at "fl") => `(tactic| first | rfl | assumption)
local macro_rules | `(tactic| walk_at "ix") => `(tactic| first | assumption | rfl)
local macro_rules | `(tactic| walk_at "fsl") => `(tactic| first | assumption | decide | (simp; done))
local macro_rules | `(tactic| walk_at "put") => `(tactic| rfl)
local macro_rules | `(tactic| walk_at "st1") => `(tactic| first | with_reducible refine Sy.x_seq ?_ | with_reducible refine Sy.x_asg ?_ | with_reducible refine Sy.x_gname ?_ | with_reducible refine Sy.x_c ?_ | with_reducible refine Sy.x_op ?_ | with_reducible refine Sy.x_un ?_ | with_reducible refine Sy.x_test ?_ | with_reducible refine Sy.x_tB ?_ | with_reducible refine Sy.k_b ?_ | with_reducible refine Sy.x_if ?_ | with_reducible refine Sy.x_and ?_ | with_reducible refine Sy.x_or ?_ | with_reducible refine Sy.x_not ?_ | with_reducible refine Sy.x_andV ?_ | with_reducible refine Sy.x_orV ?_ | with_reducible refine Sy.x_notV ?_ | with_reducible refine Sy.k_andV ?_ | with_reducible refine Sy.k_orV ?_ | with_reducible refine Sy.k_notVt ?_ | with_reducible refine Sy.k_notVf ?_ | with_reducible refine Sy.k_notV ?_ | with_reducible refine Sy.ifNT ?_ | with_reducible refine Sy.ifNF ?_ | with_reducible refine Sy.x_ifE ?_ | with_reducible refine Sy.x_chain ?_ | with_reducible refine Sy.k_chain ?_ | with_reducible refine Sy.x_ret ?_ | with_reducible refine Sy.x_retN ?_ | with_reducible refine Sy.x_drop ?_ | with_reducible refine Sy.x_next ?_ | with_reducible refine Sy.x_brk ?_ | with_reducible refine Sy.x_ct ?_ | with_reducible refine Sy.x_cons ?_ | with_reducible refine Sy.x_nil ?_ | with_reducible refine Sy.x_call0 ?_ | with_reducible refine Sy.x_call ?_ | with_reducible refine Sy.x_meth ?_ | with_reducible refine Sy.x_cb ?_ | with_reducible refine Sy.x_fld ?_ | with_reducible refine Sy.x_sfld ?_ | with_reducible refine Sy.x_lst ?_ | with_reducible refine Sy.x_tup ?_ | with_reducible refine Sy.x_bm ?_ | with_reducible refine Sy.x_bm0 ?_ | with_reducible refine Sy.k_addI ?_ | with_reducible refine Sy.k_subI ?_ | with_reducible refine Sy.k_ltI ?_ | with_reducible refine Sy.k_leI ?_ | with_reducible refine Sy.k_gtI ?_ | with_reducible refine Sy.k_geI ?_ | with_reducible refine Sy.k_eqI ?_ | with_reducible refine Sy.k_neI ?_ | with_reducible refine Sy.k_eqB ?_ | with_reducible refine Sy.k_neB ?_ | with_reducible refine Sy.k_eqS ?_ | with_reducible refine Sy.k_neS ?_ | with_reducible refine Sy.k_isNo0 ?_ | with_reducible refine Sy.k_isNoI ?_ | with_reducible refine Sy.k_isNoR ?_ | with_reducible refine Sy.k_notNo0 ?_ | with_reducible refine Sy.k_notNoI ?_ | with_reducible refine Sy.k_notNoR ?_ | with_reducible refine Sy.k_eqIN ?_ | with_reducible refine Sy.k_eqNI ?_ | with_reducible refine Sy.k_eqNN ?_ | with_reducible refine Sy.k_neIN ?_ | with_reducible refine Sy.k_neNI ?_ | with_reducible refine Sy.k_neNN ?_ | with_reducible refine Sy.ifT ?_ | with_reducible refine Sy.ifF ?_ | with_reducible refine Sy.x_gcons ?_ | with_reducible refine Sy.x_gnil ?_ | with_reducible refine Sy.x_gsub ?_ | with_reducible refine Sy.x_rg1 ?_ | with_reducible refine Sy.k_rg1 ?_ | with_reducible refine Sy.x_lstRg ?_ | with_reducible refine Sy.x_make ?_ | with_reducible refine Sy.x_dget ?_ | with_reducible refine Sy.x_din ?_ | with_reducible refine Sy.x_dnot ?_ | with_reducible refine Sy.x_dput ?_ | with_reducible refine Sy.x_dpop1 ?_ | with_reducible refine Sy.x_dget2 ?_ | with_reducible refine Sy.x_dget1 ?_ | with_reducible refine Sy.x_forR ?_ | with_reducible refine Sy.x_forL ?_ | with_reducible refine Sy.x_lcL ?_ | with_reducible refine Sy.x_lcR ?_ | with_reducible refine Sy.x_yes ?_ | with_reducible refine Sy.k_isiII ?_ | with_reducible refine Sy.k_isiIB ?_ | with_reducible refine Sy.k_isiBI ?_ | with_reducible refine Sy.k_isiBB ?_ | with_reducible refine Sy.x_par ?_ | with_reducible refine Sy.k_par ?_ | with_reducible refine Sy.k_neDNN ?_ | with_reducible refine Sy.k_eqDNN ?_ | with_reducible refine Sy.x_cfn ?_ | with_reducible refine Sy.k_cfn0 ?_ | with_reducible refine Sy.x_dpopT ?_ | with_reducible refine Sy.x_makeN ?_ | with_reducible refine Sy.x_par3 ?_ | with_reducible refine Sy.k_par3 ?_ | with_reducible refine Sy.k_isB ?_ | with_reducible refine Sy.k_notB ?_ | with_reducible refine Sy.x_listVals ?_ | with_reducible refine Sy.x_revL ?_ | with_reducible refine Sy.x_raise ?_ | with_reducible refine Sy.x_tryK ?_ | with_reducible refine Sy.x_callS ?_ | with_reducible refine Sy.x_methS ?_ | with_reducible refine Sy.x_sset (fun _ => ?_))
local macro_rules | `(tactic| walk_at "st2") => `(tactic| first | ((with_reducible refine' Sy.x_var ?h ?q); (case h => rfl)) | ((with_reducible refine' Sy.k_fld ?hp ?hc ?hn ?hl ?q); (case hp => walk_at "hp"); (case hc => assumption); (case hn => assumption); (case hl => walk_at "fl")) | ((with_reducible refine' Sy.k_meth0 ?hp ?hl ?q); (case hp => walk_at "hp"); (case hl => walk_at "fl")) | ((with_reducible refine' Sy.k_meth ?hp ?hl ?q); (case hp => walk_at "hp"); (case hl => walk_at "fl")) | ((with_reducible refine' Sy.k_ixL ?hp ?hi ?q); (case hp => walk_at "hp"); (case hi => walk_at "ix")) | ((with_reducible refine' Sy.k_ixT ?hp ?hi ?q); (case hp => walk_at "hp"); (case hi => walk_at "ix")) | ((with_reducible refine' Sy.k_tyL ?hp ?q); (case hp => walk_at "hp")) | ((with_reducible refine' Sy.k_lenL ?hp ?q); (case hp => walk_at "hp")) | ((with_reducible refine' Sy.k_lenT ?hp ?q); (case hp => walk_at "hp")) | ((with_reducible refine' Sy.k_lenK ?hp ?q); (case hp => walk_at "hp")) | ((with_reducible refine' Sy.k_isiLL ?hp ?q); (case hp => walk_at "hp")) | ((with_reducible refine' Sy.k_isiTT ?hp ?q); (case hp => walk_at "hp")) | ((with_reducible refine' Sy.k_all ?hp ?q); (case hp => walk_at "hp")) | ((with_reducible refine' Sy.k_sum ?hp ?q); (case hp => walk_at "hp")) | ((with_reducible refine' Sy.k_isD ?hp ?q); (case hp => walk_at "hp")) | ((with_reducible refine' Sy.k_isDT ?hp ?q); (case hp => walk_at "hp")) | ((with_reducible refine' Sy.k_din ?hp ?q); (case hp => walk_at "hp")) | ((with_reducible refine' Sy.k_dnot ?hp ?q); (case hp => walk_at "hp")) | ((with_reducible refine' Sy.k_dget2 ?hp ?q); (case hp => walk_at "hp")) | ((with_reducible refine' Sy.k_dget1 ?hp ?q); (case hp => walk_at "hp")) | ((with_reducible refine' Sy.k_dinP ?hp ?hb ?q); (case hp => walk_at "hp"); (case hb => walk_at "hp")) | ((with_reducible refine' Sy.k_dnotP ?hp ?hb ?q); (case hp => walk_at "hp"); (case hb => walk_at "hp")) | ((with_reducible refine' Sy.k_dget2P ?hp ?hb ?q); (case hp => walk_at "hp"); (case hb => walk_at "hp")) | ((with_reducible refine' Sy.k_dget ?hp ?hv ?q); (case hp => walk_at "hp"); (case hv => walk_at "ix")) | ((with_reducible refine' Sy.k_dgetF ?hp ?hv ?q); (case hp => walk_at "hp"); (case hv => walk_at "ix")) | ((with_reducible refine' Sy.k_dgetP ?hp ?hb ?hv ?q); (case hp => walk_at "hp"); (case hb => walk_at "hp"); (case hv => walk_at "ix")) | ((with_reducible refine' Sy.k_mulI ?h ?q); (case h => walk_at "cn")) | ((with_reducible refine' Sy.k_divI ?h ?q); (case h => walk_at "cn")) | ((with_reducible refine' Sy.k_modI ?h ?q); (case h => walk_at "cn")) | ((with_reducible refine' Sy.k_powI ?h ?q); (case h => walk_at "cn")) | ((with_reducible refine' Sy.x_gtup ?hp ?hl ?q); (case hp => walk_at "hp"); (case hl => rfl)) | ((with_reducible refine' Sy.k_inIt ?hp ?q); (case hp => walk_at "hp")) | ((with_reducible refine' Sy.k_inIf ?hp ?q); (case hp => walk_at "hp")) | ((with_reducible refine' Sy.k_eqLN ?hp ?hq ?q); (case hp => walk_at "hp"); (case hq => walk_at "hp")) | ((with_reducible refine' Sy.k_neLN ?hp ?hq ?q); (case hp => walk_at "hp"); (case hq => walk_at "hp")) | ((with_reducible refine' Sy.k_eqLI ?hp ?hq ?q); (case hp => walk_at "hp"); (case hq => walk_at "hp")) | ((with_reducible refine' Sy.k_neLI ?hp ?hq ?q); (case hp => walk_at "hp"); (case hq => walk_at "hp")) | ((with_reducible refine' Sy.k_cnt ?hp ?q); (case hp => walk_at "hp")) | ((with_reducible refine' Sy.k_lenO ?hp ?q); (case hp => walk_at "hp")) | ((with_reducible refine' Sy.k_methS ?hp ?hl ?q); (case hp => walk_at "hp"); (case hl => walk_at "fl")) | ((with_reducible refine' Sy.k_isKR ?hp ?hC ?hk ?q); (case hp => walk_at "hp"); (case hC => assumption); (case hk => assumption)) | ((with_reducible refine' Sy.k_isKT ?hp ?hC ?hk ?q); (case hp => walk_at "hp"); (case hC => assumption); (case hk => assumption)) | ((with_reducible refine' Sy.x_glst ?hp ?hl ?q); (case hp => walk_at "hp"); (case hl => rfl)) | ((with_reducible refine' Sy.k_dgetFP ?hp ?hb ?hv ?q); (case hp => walk_at "hp"); (case hb => walk_at "hp"); (case hv => walk_at "ix")))
local macro_rules | `(tactic| walk_at "st3") => `(tactic| first | ((with_reducible refine' Sy.k_rem ?hp ?hk ?hh ?q); (case hp => walk_at "hp"); (case hk => assumption); (case hh => walk_at "hs"); intro _ _) | ((with_reducible refine' Sy.k_dpopT ?hp ?hb ?hv ?hh ?q); (case hp => walk_at "hp"); (case hb => walk_at "hp"); (case hv => walk_at "ix"); (case hh => walk_at "hs"); intro _ _) | ((with_reducible refine' Sy.k_sset ?hh ?hp ?hl ?q); (case hh => assumption); (case hp => walk_at "hp"); (case hl => first | assumption | omega | walk_at "sz"); intro _ _ _ _ _ _) | ((with_reducible refine' Sy.k_lst ?hh ?hl ?q); (case hh => assumption); (case hl => walk_at "sz"); intro _ _ _) | ((with_reducible refine' Sy.k_make0 ?hh ?q); (case hh => assumption); intro _ _ _ _) | ((with_reducible refine' Sy.k_listVals ?hh ?hp ?q); (case hh => assumption); (case hp => walk_at "hp"); intro _ _ _) | ((with_reducible refine' Sy.x_disp1 ?hh ?q); (case hh => assumption); intro _ _ _) | ((with_reducible refine' Sy.k_disp ?hp ?hh ?q); (case hp => walk_at "hp"); (case hh => walk_at "hs"); intro _ _) | ((with_reducible refine' Sy.k_revL ?hh ?hp ?q); (case hh => assumption); (case hp => walk_at "hp"); intro _ _ _) | ((with_reducible refine' Sy.k_setD ?hp ?hl ?hh ?q); (case hp => walk_at "hp"); (case hl => walk_at "sz"); (case hh => walk_at "hs"); intro _ _) | ((with_reducible refine' Sy.k_make ?hh ?q); (case hh => assumption); intro _ _ _ _) | ((with_reducible refine' Sy.k_makeN ?hh ?hn ?hm ?q); (case hh => assumption); (case hn => rfl); (case hm => rfl); intro _ _ _ _) | ((with_reducible refine' Sy.k_tupN ?hh ?hl ?q); (case hh => assumption); (case hl => walk_at "sz"); intro _ _ _) | ((with_reducible refine' Sy.k_setL ?hp ?hk ?hh ?q); (case hp => walk_at "hp"); (case hk => walk_at "ix"); (case hh => walk_at "hs"); intro _ _) | ((with_reducible refine' Sy.k_app ?hp ?hl ?hh ?q); (case hp => walk_at "hp"); (case hl => walk_at "sz"); (case hh => walk_at "hs"); intro _ _) | ((with_reducible refine' Sy.k_add ?hp ?hl ?hh ?q); (case hp => walk_at "hp"); (case hl => walk_at "sz"); (case hh => walk_at "hs"); intro _ _) | ((with_reducible refine' Sy.k_pop ?hp ?hl ?hh ?q); (case hp => walk_at "hp"); (case hl => walk_at "ix"); (case hh => walk_at "hs"); intro _ _) | ((with_reducible refine' Sy.k_sfld ?hp ?hc ?hn ?hl ?he ?hh ?q); (case hp => walk_at "hp"); (case hc => assumption); (case hn => assumption); (case hl => walk_at "fsl"); (case he => walk_at "put"); (case hh => walk_at "hs"); intro _ _) | ((with_reducible refine' Sy.k_cat ?hh ?hp ?hq ?hl ?q); (case hh => assumption); (case hp => walk_at "hp"); (case hq => walk_at "hp"); (case hl => walk_at "sz"); intro _ _ _) | ((with_reducible refine' Sy.k_rep ?hh ?hp ?h0 ?h1 ?q); (case hh => assumption); (case hp => walk_at "hp"); (case h0 => omega); (case h1 => omega); intro _ _ _) | ((with_reducible refine' Sy.k_lstRg ?hh ?h0 ?h1 ?q); (case hh => assumption); (case h0 => omega); (case h1 => omega); intro _ _ _) | ((with_reducible refine' Sy.x_dnewK ?hh ?q); (case hh => assumption); intro _ _ _) | ((with_reducible refine' Sy.x_dnewT ?hh ?q); (case hh => assumption); intro _ _ _) | ((with_reducible refine' Sy.k_dput ?hp ?hl ?hh ?q); (case hp => walk_at "hp"); (case hl => walk_at "sz"); (case hh => walk_at "hs"); intro _ _) | ((with_reducible refine' Sy.k_dputP ?hp ?hb ?hl ?hh ?q); (case hp => walk_at "hp"); (case hb => walk_at "hp"); (case hl => walk_at "sz"); (case hh => walk_at "hs"); intro _ _) | ((with_reducible refine' Sy.k_dpop1 ?hp ?hv ?hh ?q); (case hp => walk_at "hp"); (case hv => walk_at "ix"); (case hh => walk_at "hs"); intro _ _) | ((with_reducible refine' Sy.k_listOf ?hh ?hp ?q); (case hh => assumption); (case hp => walk_at "hp"); intro _ _ _) | ((with_reducible refine' Sy.k_sortI ?hh ?hp ?q); (case hh => assumption); (case hp => walk_at "hp"); intro _ _ _ _ _ _) | ((with_reducible refine' Sy.k_sortD ?hh ?hp ?hl ?q); (case hh => assumption); (case hp => walk_at "hp"); (case hl => first | assumption | omega | walk_at "sz"); intro _ _ _ _ _ _))
local macro_rules | `(tactic| walk_at "go1") => `(tactic| first | walk_at "st1" | walk_at "st2" | walk_at "st3")
local macro_rules | `(tactic| walk_at "go") => `(tactic| repeat walk_at "go1")
namespace La
open PySem L2 Sy
def t_is_whole (K : PySem.W.Frag) : TS :=
  tRet (tAndV (tCB (rIsi K) (tCons (tVar 0) (tCons (tC (.ty "int")) (tNil)))) (tAndV (tNotV (tCB (rIsi K) (tCons (tVar 0) (tCons (tC (.ty "bool")) (tNil))))) (tChain rLeI rLeI (tVar 1) (tVar 0) (tVar 2))))
def t_look_number (K : PySem.W.Frag) (sp_is_whole : Sp) : TS :=
  tIfS (tNot (tB (tCall sp_is_whole [] E0 (tCons (tVar 0) (tCons (tVar 1) (tCons (tVar 2) (tNil))))))) (tNever) (tNext)
def t_Store_init (K : PySem.W.Frag) (sp_look_number : Sp) : TS :=
  tSeq (tDrop (tCall sp_look_number [] E0 (tCons (tVar 1) (tCons (tC (.int 1)) (tCons (tC (.int 6)) (tNil))))))
    (tSeq (tDrop (tCall sp_look_number [] E0 (tCons (tVar 2) (tCons (tC (.int 1)) (tCons (tC (.int 5)) (tNil))))))
    (tSeq (sFld K (tVar 0) (tVar 1) "hands")
    (tSeq (sFld K (tVar 0) (tCB (rDictP K) (tCons (tLc (iRng1 (tCons (tVar 2) (tNil))) (gName 3) tYes (tTup (tCons (tVar 3) (tCons (tC (.int 0)) (tNil)))) [3]) (tNil))) "worth")
    (tSeq (sFld K (tVar 0) (tLstRg (tRg1 (tVar 2))) "cells")
    (sFld K (tVar 0) (tVar 2) "made")))))
def t_Store_look_cell (K : PySem.W.Frag) (sp_is_whole : Sp) : TS :=
  tIfS (tNot (tB (tCall sp_is_whole [] E0 (tCons (tVar 1) (tCons (tC (.int 0)) (tCons (tOp rSubI (tCB (rLenQ K) (tCons (tFld K (tVar 0) "cells") (tNil))) (tC (.int 1))) (tNil))))))) (tNever) (tNext)
def t_Store_after_swap (K : PySem.W.Frag) : TS :=
  tRet (tC .non)
def t_Store_swap (K : PySem.W.Frag) (C_Store : Addr) (sp_Store__Store_look_cell sp_look_number sp_Store__Store_after_swap : Sp) : TS :=
  tSeq (tDrop (tMeth C_Store "look_cell" sp_Store__Store_look_cell [] E0 (tVar 0) (tCons (tVar 1) (tNil))))
    (tSeq (tDrop (tCall sp_look_number [] E0 (tCons (tVar 2) (tCons (tC (.int 0)) (tCons (tC (.int 999)) (tNil))))))
    (tSeq (tAsg (tOp (rIxL K) (tFld K (tVar 0) "cells") (tVar 1)) (gName 3))
    (tSeq (sDPut (tFld K (tVar 0) "worth") (tFld K (tVar 0) "made") (tVar 2))
    (tSeq (tAsg (tFld K (tVar 0) "made") (gSub (tFld K (tVar 0) "cells") (tVar 1) rSetL))
    (tSeq (sFld K (tVar 0) (tOp rAddI (tFld K (tVar 0) "made") (tC (.int 1))) "made")
    (tSeq (tDrop (tMeth C_Store "after_swap" sp_Store__Store_after_swap [] E0 (tVar 0) (tCons (tVar 3) (tNil))))
    (tRet (tVar 3))))))))
def t_Store_now (K : PySem.W.Frag) : TS :=
  tRet (tLc (iList K (tFld K (tVar 0) "cells")) (gName 1) tYes (tDGet (tFld K (tVar 0) "worth") (tVar 1)) [1])
def t_Store_kept (K : PySem.W.Frag) : TS :=
  tRet (tCB rSortD (tCons (tFld K (tVar 0) "worth") (tNil)))
def t__law_town (K : PySem.W.Frag) : TS :=
  tRet (tLst (tCons (tIf (tTest (tOp (rNeD K) (tVar 0) (tLst (tNil)))) (tCB (rListOf K) (tCons (tVar 0) (tNil))) (tLst (tCons (tC (.int 0)) (tNil)))) (tCons (tC (.int 0)) (tNil))))
def t__law_draw (K : PySem.W.Frag) : TS :=
  tSeq (tAsg (tOp (rIxL K) (tVar 0) (tC (.int 0))) (gName 2))
    (tSeq (tAsg (tOp rAddI (tOp (rIxL K) (tVar 0) (tC (.int 1))) (tC (.int 1))) (gSub (tVar 0) (tC (.int 1)) rSetL))
    (tSeq (tAsg (tOp rModI (tOp (rIxL K) (tVar 0) (tC (.int 1))) (tCB (rLenQ K) (tCons (tVar 2) (tNil)))) (gName 3))
    (tSeq (tAsg (tOp (rIxL K) (tVar 2) (tVar 3)) (gName 4))
    (tSeq (tIfS (tTest (tOp rGeI (tVar 4) (tC (.int 1000000000000000000)))) (tSeq (tAsg (tOp rDivI (tVar 4) (tVar 1)) (gSub (tVar 2) (tVar 3) rSetL))
    (tRet (tOp rModI (tVar 4) (tVar 1)))) (tNext))
    (tSeq (tAsg (tOp rModI (tOp rAddI (tVar 4) (tOp rMulI (tC (.int 104729)) (tOp (rIxL K) (tVar 0) (tC (.int 1))))) (tC (.int 4294967291))) (gName 5))
    (tSeq (tAsg (tOp rModI (tOp rPowI (tVar 5) (tC (.int 5))) (tC (.int 4294967279))) (gName 5))
    (tRet (tOp rModI (tOp rDivI (tOp rModI (tOp rAddI (tOp rMulI (tOp rDivI (tVar 5) (tC (.int 64))) (tC (.int 69621))) (tVar 5)) (tC (.int 4294967231))) (tC (.int 8))) (tVar 1)))))))))
def t__law_pick (K : PySem.W.Frag) (sp__law_draw : Sp) : TS :=
  tRet (tOp (rIxL K) (tVar 1) (tCall sp__law_draw [] E0 (tCons (tVar 0) (tCons (tCB (rLenQ K) (tCons (tVar 1) (tNil))) (tNil)))))
def t__law_whole (K : PySem.W.Frag) : TS :=
  tRet (tAndV (tCB (rIsi K) (tCons (tVar 0) (tCons (tC (.ty "int")) (tNil)))) (tNotV (tCB (rIsi K) (tCons (tVar 0) (tCons (tC (.ty "bool")) (tNil))))))
def t__law_whole_list (K : PySem.W.Frag) (sp__law_whole : Sp) : TS :=
  tRet (tAndV (tCB (rIsi K) (tCons (tVar 0) (tCons (tC (.ty "list")) (tNil)))) (tCB (rAll K) (tCons (tLc (iList K (tVar 0)) (gName 1) tYes (tCall sp__law_whole [] E0 (tCons (tVar 1) (tNil))) [1]) (tNil))))
def t__law_value (K : PySem.W.Frag) (sp__law_pick sp__law_draw : Sp) : TS :=
  tRet (tCall sp__law_pick [] E0 (tCons (tVar 0) (tCons (tLst (tCons (tC (.int 0)) (tCons (tC (.int 999)) (tCons (tCall sp__law_draw [] E0 (tCons (tVar 0) (tCons (tC (.int 1000)) (tNil)))) (tCons (tCall sp__law_draw [] E0 (tCons (tVar 0) (tCons (tC (.int 5)) (tNil)))) (tNil)))))) (tNil))))
def t__law_things (K : PySem.W.Frag) : TS :=
  tRet (tLst (tCons (tLstRg (tRg1 (tVar 0))) (tCons (tOp rRep (tLst (tCons (tC (.int 0)) (tNil))) (tVar 0)) (tCons (tLstRg (tRg1 (tVar 0))) (tNil)))))
def t__law_swap (K : PySem.W.Frag) (C_Store : Addr) (sp__law_draw sp__law_value sp_Store__Store_swap : Sp) : TS :=
  tSeq (tAsg (tCall sp__law_draw [] E0 (tCons (tVar 0) (tCons (tCB (rLenQ K) (tCons (tOp (rIxL K) (tVar 2) (tC (.int 0))) (tNil))) (tNil)))) (gName 3))
    (tSeq (tAsg (tCall sp__law_value [] E0 (tCons (tVar 0) (tNil))) (gName 4))
    (tSeq (tAsg (tOp (rIxL K) (tOp (rIxL K) (tVar 2) (tC (.int 0))) (tVar 3)) (gName 5))
    (tSeq (tAsg (tCB (rLenQ K) (tCons (tOp (rIxL K) (tVar 2) (tC (.int 1))) (tNil))) (gSub (tOp (rIxL K) (tVar 2) (tC (.int 0))) (tVar 3) rSetL))
    (tSeq (tDrop (tBM K "list" rAppend (tOp (rIxL K) (tVar 2) (tC (.int 2))) (tCons (tCB (rLenQ K) (tCons (tOp (rIxL K) (tVar 2) (tC (.int 1))) (tNil))) (tNil))))
    (tSeq (tDrop (tBM K "list" rAppend (tOp (rIxL K) (tVar 2) (tC (.int 1))) (tCons (tVar 4) (tNil))))
    (tRet (tIf (tTest (tOp rEq (tMeth C_Store "swap" sp_Store__Store_swap [] E0 (tVar 1) (tCons (tVar 3) (tCons (tVar 4) (tNil)))) (tVar 5))) (tVar 5) (tC .non))))))))
def t__law_fits (K : PySem.W.Frag) (C_Store : Addr) (sp_Store__Store_now sp_Store__Store_kept sp__law_whole_list : Sp) : TS :=
  tSeq (tIfS (tTest (tOp (rNeD K) (tMeth C_Store "now" sp_Store__Store_now [] E0 (tVar 0) tNil) (tLc (iList K (tOp (rIxL K) (tVar 1) (tC (.int 0)))) (gName 2) tYes (tOp (rIxL K) (tOp (rIxL K) (tVar 1) (tC (.int 1))) (tVar 2)) [2]))) (tRet (tC (.bl false))) (tNext))
    (tRet (tAndV (tOp (rEqD K) (tMeth C_Store "kept" sp_Store__Store_kept [] E0 (tVar 0) tNil) (tCB (rSortedI K) (tCons (tOp (rIxL K) (tVar 1) (tC (.int 2))) (tNil)))) (tCall sp__law_whole_list [] E0 (tCons (tMeth C_Store "kept" sp_Store__Store_kept [] E0 (tVar 0) tNil) (tNil)))))
def t_Store_look_hand (K : PySem.W.Frag) (sp_is_whole : Sp) : TS :=
  tIfS (tNot (tB (tCall sp_is_whole [] E0 (tCons (tVar 1) (tCons (tC (.int 0)) (tCons (tOp rSubI (tFld K (tVar 0) "hands") (tC (.int 1))) (tNil))))))) (tNever) (tNext)
def t_Store_is_out (K : PySem.W.Frag) : TS :=
  tRet (tOp (rIn K true) (tVar 1) (tFld K (tVar 0) "cells"))
def t_Store_let_go (K : PySem.W.Frag) : TS :=
  tSeq (tFor (iList K (tVar 1)) (gName 2) (tDrop (tDPop1 (tFld K (tVar 0) "worth") (tVar 2))))
    (tRet (tCB (rSortedI K) (tCons (tVar 1) (tNil))))
def t_Store_value_of (K : PySem.W.Frag) : TS :=
  tSeq (tIfS (tB (tDNotIn (tVar 1) (tFld K (tVar 0) "worth"))) (tNever) (tNext))
    (tRet (tDGet (tFld K (tVar 0) "worth") (tVar 1)))
def t_Rounds_init (K : PySem.W.Frag) (C_Store : Addr) (sp_Rounds__Store_init : Sp) : TS :=
  tSeq (tDrop (tCFn C_Store sp_Rounds__Store_init [] E0 (tC (.ref C_Store)) (tCons (tVar 0) (tCons (tVar 1) (tCons (tVar 2) (tNil))))))
    (tSeq (sFld K (tVar 0) (tC (.int 0)) "era")
    (tSeq (sFld K (tVar 0) (tDNewK) "inside")
    (tSeq (sFld K (tVar 0) (tDNewK) "saw")
    (sFld K (tVar 0) (tDNewK) "waits"))))
def t_Rounds_look_in (K : PySem.W.Frag) (C_Rounds : Addr) (sp_Rounds__Store_look_hand : Sp) : TS :=
  tSeq (tDrop (tMeth C_Rounds "look_hand" sp_Rounds__Store_look_hand [] E0 (tVar 0) (tCons (tVar 1) (tNil))))
    (tIfS (tB (tDNotIn (tVar 1) (tFld K (tVar 0) "inside"))) (tNever) (tNext))
def t_Rounds_read (K : PySem.W.Frag) (C_Rounds : Addr) (sp_Rounds__Rounds_look_in sp_Rounds__Store_value_of : Sp) : TS :=
  tSeq (tDrop (tMeth C_Rounds "look_in" sp_Rounds__Rounds_look_in [] E0 (tVar 0) (tCons (tVar 1) (tNil))))
    (tSeq (tIfS (tOr (tB (tCB (rIsi K) (tCons (tVar 2) (tCons (tC (.ty "bool")) (tNil))))) (tTest (tOp (rIn K true) (tVar 2) (tDGet (tFld K (tVar 0) "saw") (tVar 1))))) (tNever) (tNext))
    (tRet (tMeth C_Rounds "value_of" sp_Rounds__Store_value_of [] E0 (tVar 0) (tCons (tVar 2) (tNil)))))
def t_Rounds_after_swap (K : PySem.W.Frag) : TS :=
  sDPut (tFld K (tVar 0) "waits") (tVar 1) (tFld K (tVar 0) "era")
def t_Rounds_enter (K : PySem.W.Frag) (C_Rounds : Addr) (sp_Rounds__Store_look_hand : Sp) : TS :=
  tSeq (tDrop (tMeth C_Rounds "look_hand" sp_Rounds__Store_look_hand [] E0 (tVar 0) (tCons (tVar 1) (tNil))))
    (tSeq (tIfS (tB (tDIn (tVar 1) (tFld K (tVar 0) "inside"))) (tNever) (tNext))
    (tSeq (sDPut (tFld K (tVar 0) "inside") (tVar 1) (tFld K (tVar 0) "era"))
    (tSeq (sDPut (tFld K (tVar 0) "saw") (tVar 1) (tLst (tNil)))
    (tRet (tFld K (tVar 0) "era")))))
def t_Rounds_leave (K : PySem.W.Frag) (C_Rounds : Addr) (sp_Rounds__Rounds_look_in : Sp) : TS :=
  tSeq (tDrop (tMeth C_Rounds "look_in" sp_Rounds__Rounds_look_in [] E0 (tVar 0) (tCons (tVar 1) (tNil))))
    (tSeq (tDrop (tDPop1 (tFld K (tVar 0) "inside") (tVar 1)))
    (tDrop (tDPop1 (tFld K (tVar 0) "saw") (tVar 1))))
def t_Rounds_look (K : PySem.W.Frag) (C_Rounds : Addr) (sp_Rounds__Rounds_look_in sp_Rounds__Store_look_cell : Sp) : TS :=
  tSeq (tDrop (tMeth C_Rounds "look_in" sp_Rounds__Rounds_look_in [] E0 (tVar 0) (tCons (tVar 1) (tNil))))
    (tSeq (tDrop (tMeth C_Rounds "look_cell" sp_Rounds__Store_look_cell [] E0 (tVar 0) (tCons (tVar 2) (tNil))))
    (tSeq (tDrop (tBM K "list" rAppend (tDGet (tFld K (tVar 0) "saw") (tVar 1)) (tCons (tOp (rIxL K) (tFld K (tVar 0) "cells") (tVar 2)) (tNil))))
    (tRet (tOp (rIxL K) (tFld K (tVar 0) "cells") (tVar 2)))))
def t_Rounds_go_on (K : PySem.W.Frag) (C_Rounds : Addr) (sp_Rounds__Store_let_go : Sp) : TS :=
  tSeq (tIfS (tNot (tB (tCB (rAll K) (tCons (tLockE (tLc (iKeys (tFld K (tVar 0) "inside")) (gName 1) tYes (tOp rEq (tDGet (tFld K (tVar 0) "inside") (tVar 1)) (tFld K (tVar 0) "era")) [1])) (tNil))))) (tRet (tC .non)) (tNext))
    (tSeq (sFld K (tVar 0) (tOp rAddI (tFld K (tVar 0) "era") (tC (.int 1))) "era")
    (tSeq (tLock (tAsg (tLc (iKeys (tFld K (tVar 0) "waits")) (gName 3) (tTest (tOp rLeI (tDGet (tFld K (tVar 0) "waits") (tVar 3)) (tOp rSubI (tFld K (tVar 0) "era") (tC (.int 2))))) (tVar 3) [3]) (gName 2)))
    (tSeq (tFor (iList K (tVar 2)) (gName 3) (tDrop (tDPop1 (tFld K (tVar 0) "waits") (tVar 3))))
    (tRet (tMeth C_Rounds "let_go" sp_Rounds__Store_let_go [] E0 (tVar 0) (tCons (tVar 2) (tNil)))))))
def t__law_read (K : PySem.W.Frag) (C_Rounds : Addr) (sp_Rounds__Rounds_read : Sp) : TS :=
  tSeq (tAsg (tC .non) (gName 3))
    (tSeq (tAsg (tC .non) (gName 4))
    (tSeq (tAsg (tMeth C_Rounds "read" sp_Rounds__Rounds_read [] E0 (tVar 0) (tCons (tVar 1) (tCons (tVar 2) (tNil)))) (gName 3))
    (tRet (tIf (tTest (tOp rIsNo (tVar 4) (tC .non))) (tVar 3) (tC .non)))))
def t_Rounds_round_now (K : PySem.W.Frag) : TS :=
  tRet (tFld K (tVar 0) "era")
def t_Rounds_hands_in (K : PySem.W.Frag) : TS :=
  tRet (tCB rSortD (tCons (tFld K (tVar 0) "inside") (tNil)))
def t__law_gone (K : PySem.W.Frag) : TS :=
  tAsg (tLc (iList K (tOp (rIxL K) (tVar 0) (tC (.int 2)))) (gName 2) (tTest (tOp (rIn K true) (tVar 2) (tVar 1))) (tVar 2) [2]) (gSub (tVar 0) (tC (.int 2)) rSetL)
def t__law_is (K : PySem.W.Frag) : TS :=
  tRet (tAndV (tCB (rIsi K) (tCons (tVar 0) (tCons (tC (.ty "bool")) (tNil)))) (tOp rEq (tVar 0) (tVar 1)))
end La
namespace La
open PySem L2 Sy
/-! ### numbers -/
def sp_is_whole : Sp := fun vs H Q _ => ∃ x lo hi : Int, vs = [.int x, .int lo, .int hi] ∧ Q (.bl (decide (lo ≤ x ∧ x ≤ hi))) H
theorem pure_is_whole {K : PySem.W.Frag} {vs : List V} {H : Hp} {Q : VK} {E : XK} (h : sp_is_whole vs H Q E) : t_is_whole K ⟨fun _ H' => Q .non H', Q, fun _ _ => False, fun _ _ => False⟩ (start ["thing", "low", "high"] vs) H := by
  obtain ⟨x, lo, hi, rfl, q⟩ := h
  unfold t_is_whole
  walk_at "go"
  refine ifD (fun h1 => ?_) (fun h1 => ?_)
  · walk_at "go"
    have e : decide (lo ≤ x ∧ x ≤ hi) = decide (x ≤ hi) := by simp [h1]
    rw [e] at q
    exact q
  · have e : decide (lo ≤ x ∧ x ≤ hi) = false := by simp [h1]
    rw [e] at q
    exact q
def sp_look_number : Sp := fun vs H Q _ => ∃ x lo hi : Int, vs = [.int x, .int lo, .int hi] ∧ lo ≤ x ∧ x ≤ hi ∧ Q .non H
theorem pure_look_number {K : PySem.W.Frag} {vs : List V} {H : Hp} {Q : VK} {E : XK} (h : sp_look_number vs H Q E) : t_look_number K sp_is_whole ⟨fun _ H' => Q .non H', Q, fun _ _ => False, fun _ _ => False⟩ (start ["thing", "low", "high"] vs) H := by
  obtain ⟨x, lo, hi, rfl, h1, h2, q⟩ := h
  unfold t_look_number
  walk_at "go"
  refine ⟨x, lo, hi, rfl, ?_⟩
  rw [decide_eq_true ⟨h1, h2⟩]
  walk_at "go"
  exact q
/-! ### the town: the script's numbers, and how many draws were made -/
structure Town where
  r : Addr
  ns : List Int
  n : Int
@[reducible] def townU (t : Addr) (s : Town) : U := [(t, .lst [.ref s.r, .int s.n]), (s.r, .lst (s.ns.map V.int))]
def Town.ok (s : Town) : Prop := 0 < s.ns.length ∧ s.ns.length ≤ 63
theorem at_ints {ns : List Int} {k : Int} (h0 : 0 ≤ k) (h1 : k < ns.length) : atI (ns.map V.int) k = some (.int (ns.getD k.toNat 0)) := by
  obtain ⟨j, rfl⟩ := Int.eq_ofNat_of_zero_le h0
  have hj : j < ns.length := by omega
  refine atI_nat ?_
  rw [List.getElem?_map]
  simp [hj]
theorem ix_ok {n : Nat} {k : Int} (h0 : 0 ≤ k) (h1 : k < n) : ixN n k = some k.toNat := by
  unfold ixN
  rw [if_pos h0, if_pos h1]
theorem map_set_int (ns : List Int) (k : Nat) (z : Int) : (ns.map V.int).set k (.int z) = (ns.set k z).map V.int := by rw [List.map_set]
def sp__law_draw : Sp := fun vs H Q _ => ∃ (t : Addr) (s : Town) (m : Int) (R : List U), vs = [.ref t, .int m] ∧ 0 < m ∧ m ≤ 100000 ∧ s.ok ∧ Has H (townU t s :: R) ∧
  ∀ (d : Int) (s' : Town) (H' : Hp), 0 ≤ d → d < m → s'.ok → Has H' (townU t s' :: R) → Q (.int d) H'
theorem pure__law_draw {K : PySem.W.Frag} {vs : List V} {H : Hp} {Q : VK} {E : XK} (h : sp__law_draw vs H Q E) : t__law_draw K ⟨fun _ H' => Q .non H', Q, fun _ _ => False, fun _ _ => False⟩ (start ["town", "many", "row", "at", "cell", "mixed"] vs) H := by
  obtain ⟨t, ⟨r, ns, n⟩, m, R, rfl, m0, m1, ⟨l0, l1⟩, hh, q⟩ := h
  replace hh := hh.cut
  have l0' : 0 < ns.length := l0
  have hl : ((ns.map V.int).length : Int) = ns.length := by rw [List.length_map]
  have k0 : 0 ≤ (n + 1) % ((ns.map V.int).length : Int) := Int.emod_nonneg _ (by omega)
  have k1 : (n + 1) % ((ns.map V.int).length : Int) < ns.length := by rw [hl]; exact Int.emod_lt_of_pos _ (by omega)
  have ea := at_ints k0 k1
  have ex : ixN (ns.map V.int).length ((n + 1) % ((ns.map V.int).length : Int)) = some ((n + 1) % ((ns.map V.int).length : Int)).toNat := ix_ok k0 (by omega)
  have lz : (0 : Int) < ((ns.map V.int).length : Int) := by omega
  unfold t__law_draw
  walk_at "go"
  refine ifD (fun hb => ?_) (fun hb => ?_)
  · walk_at "go"
    rename_i H1 h1 H2 h2
    rw [map_set_int] at h2
    exact q _ ⟨r, ns.set _ _, n + 1⟩ _ (Int.emod_nonneg _ (by omega)) (Int.emod_lt_of_pos _ m0) ⟨by show 0 < (ns.set _ _).length; rw [List.length_set]; exact l0, by show (ns.set _ _).length ≤ 63; rw [List.length_set]; exact l1⟩ h2.glue
  · walk_at "go"
    rename_i H1 h1
    exact q _ ⟨r, ns, n + 1⟩ _ (Int.emod_nonneg _ (by omega)) (Int.emod_lt_of_pos _ m0) ⟨l0, l1⟩ h1.glue
/-- a draw, as the caller uses it -/
theorem use_draw {H : Hp} {Q : VK} {E : XK} {L R : List U} {t : Addr} {s : Town} {m : Int} (hh : Has H L) (hs : Sub (townU t s :: R) L) (ok : s.ok) (m0 : 0 < m) (m1 : m ≤ 100000)
    (q : ∀ (d : Int) (s' : Town) (H' : Hp), 0 ≤ d → d < m → s'.ok → Has H' (townU t s' :: R) → Q (.int d) H') : sp__law_draw [.ref t, .int m] H Q E := ⟨t, s, m, R, rfl, m0, m1, ok, hh.sub hs, q⟩
/-! ### the script -/
/-- the script's list, as it stands in any heap that has the unit u -/
def Scr (K : PySem.W.Frag) (a : Addr) (xs : List V) (u : U) : Prop := ∀ H L, Has H (u :: L) → SqL K H a xs
theorem scr_of {K : PySem.W.Frag} {H : Hp} {a : Addr} {xs : List V} (h : SqL K H a xs) : ∃ u, Has H [u] ∧ Scr K a xs u := by
  rcases h with (h | ⟨o, h⟩) | h
  · exact ⟨[(a, .lst xs)], ⟨by simp, fun p hp => by simp at hp; subst hp; exact h⟩, fun H' L hh => .inl (.inl hh.g0)⟩
  · exact ⟨[(a, .frz o (.lst xs))], ⟨by simp, fun p hp => by simp at hp; subst hp; exact h⟩, fun H' L hh => .inl (.inr ⟨o, hh.g0⟩)⟩
  · exact ⟨[], Has.nilU.mpr Has.nil, fun H' L hh => .inr h⟩
def sp__law_town (K : PySem.W.Frag) : Sp := fun vs H Q _ => ∃ (a : Addr) (ns : List Int), vs = [.ref a] ∧ SqL K H a (ns.map V.int) ∧ ns.length ≤ 63 ∧
  ∀ (t : Addr) (s : Town) (H' : Hp), s.ok → Has H' [townU t s] → Q (.ref t) H'
theorem pure__law_town {K : PySem.W.Frag} {vs : List V} {H : Hp} {Q : VK} {E : XK} (h : sp__law_town K vs H Q E) : t__law_town K ⟨fun _ H' => Q .non H', Q, fun _ _ => False, fun _ _ => False⟩ (start ["script"] vs) H := by
  obtain ⟨a, ns, rfl, hs, hl, q⟩ := h
  obtain ⟨u, h0, hu⟩ := scr_of hs
  unfold t__law_town
  walk_at "go"
  rename_i p H1 h1
  have e := eqv_ints ns []
  refine ⟨_, _, .lst (hu H1 _ (by walk_at "has")) (dpAll_ints ns), .lst (SqL.of h1.g0) .nil, shaped_ints ns, by decide +kernel, ?_⟩
  have e : PyData.eqv (.list (ns.map PyData.int)) (.list []) = decide (ns = []) := e
  rw [e]
  walk_at "go"
  refine ifE (fun hn => ?_) (fun hn => ?_)
  · walk_at "go"
    refine k_listOfS h1 (hu H1 _ (by walk_at "has")) fun r H2 h2 => ?_
    walk_at "go"
    rename_i t H3 h3
    refine q t ⟨r, ns, 0⟩ H3 ⟨List.length_pos_iff.mpr hn, hl⟩ (Has.glue ?_)
    walk_at "has"
  · walk_at "go"
    rename_i r H2 h2 t H3 h3
    refine q t ⟨r, [0], 0⟩ H3 ⟨Nat.zero_lt_one, (by show 1 ≤ 63; decide)⟩ (Has.glue ?_)
    walk_at "has"
def sp__law_whole : Sp := fun vs H Q _ => ∃ x : Int, vs = [.int x] ∧ Q (.bl true) H
theorem pure__law_whole {K : PySem.W.Frag} {vs : List V} {H : Hp} {Q : VK} {E : XK} (h : sp__law_whole vs H Q E) : t__law_whole K ⟨fun _ H' => Q .non H', Q, fun _ _ => False, fun _ _ => False⟩ (start ["thing"] vs) H := by
  obtain ⟨x, rfl, q⟩ := h
  unfold t__law_whole
  walk_at "go"
  exact q
def sp__law_pick : Sp := fun vs H Q _ => ∃ (t p : Addr) (s : Town) (xs : List V) (R : List U), vs = [.ref t, .ref p] ∧ Has H (townU t s :: [(p, .lst xs)] :: R) ∧ 0 < xs.length ∧ xs.length ≤ 1000 ∧ s.ok ∧
  ∀ (d : Nat) (v : V) (s' : Town) (H' : Hp), xs[d]? = some v → s'.ok → Has H' (townU t s' :: [(p, .lst xs)] :: R) → Q v H'
theorem pure__law_pick {K : PySem.W.Frag} {vs : List V} {H : Hp} {Q : VK} {E : XK} (h : sp__law_pick vs H Q E) : t__law_pick K sp__law_draw ⟨fun _ H' => Q .non H', Q, fun _ _ => False, fun _ _ => False⟩ (start ["town", "some"] vs) H := by
  obtain ⟨t, p, s, xs, R, rfl, hh, h1, h2, ok, q⟩ := h
  unfold t__law_pick
  walk_at "go"
  refine use_draw hh Sub.rf ok (by omega) (by omega) fun d s' H' d0 d1 ok' hh' => ?_
  have ht : d.toNat < xs.length := by omega
  have e : atI xs d = some xs[d.toNat] := at_n d0 (by simp [ht])
  walk_at "go"
  exact q d.toNat _ s' H' (by simp [ht]) ok' hh'
def sp__law_value : Sp := fun vs H Q _ => ∃ (t : Addr) (s : Town) (R : List U), vs = [.ref t] ∧ s.ok ∧ Has H (townU t s :: R) ∧
  ∀ (d : Int) (s' : Town) (H' : Hp), 0 ≤ d → d ≤ 999 → s'.ok → Has H' (townU t s' :: R) → Q (.int d) H'
theorem pure__law_value {K : PySem.W.Frag} {vs : List V} {H : Hp} {Q : VK} {E : XK} (h : sp__law_value vs H Q E) : t__law_value K sp__law_pick sp__law_draw ⟨fun _ H' => Q .non H', Q, fun _ _ => False, fun _ _ => False⟩ (start ["town"] vs) H := by
  obtain ⟨t, s, R, rfl, ok, hh, q⟩ := h
  unfold t__law_value
  walk_at "go"
  refine use_draw hh Sub.rf ok (by decide) (by decide) fun d s1 H1 d0 d1 ok1 hh1 => ?_
  walk_at "go"
  refine use_draw hh1 Sub.rf ok1 (by decide) (by decide) fun e s2 H2 e0 e1 ok2 hh2 => ?_
  walk_at "go"
  rename_i p H3 hh3
  refine ⟨t, p, s2, _, R, rfl, by walk_at "has", by show 0 < 4; decide, by show 4 ≤ 1000; decide, ok2, fun k v s4 H4 hk ok4 hh4 => ?_⟩
  have hv : ∃ z : Int, v = .int z ∧ 0 ≤ z ∧ z ≤ 999 := by
    match k, hk with
    | 0, hk => exact ⟨0, (Option.some.inj hk).symm, by omega, by omega⟩
    | 1, hk => exact ⟨999, (Option.some.inj hk).symm, by omega, by omega⟩
    | 2, hk => exact ⟨d, (Option.some.inj hk).symm, by omega, by omega⟩
    | 3, hk => exact ⟨e, (Option.some.inj hk).symm, by omega, by omega⟩
  obtain ⟨z, rfl, z0, z1⟩ := hv
  exact q z s4 H4 z0 z1 ok4 (by walk_at "has")
end La
namespace La
open PySem L2 Sy
/-! ### dicts with whole-number keys, their values typed -/
section
variable {κ β : Type} [DecidableEq κ]
def mv (f : β → V) (m : List (κ × β)) : List (κ × V) := m.map fun q => (q.1, f q.2)
def fd (m : List (κ × β)) (k : κ) : Option β := (m.find? fun q => decide (q.1 = k)).map (·.2)
def rm (m : List (κ × β)) (k : κ) : List (κ × β) := m.filter fun q => decide (q.1 ≠ k)
def pu (m : List (κ × β)) (k : κ) (b : β) : List (κ × β) := if (fd m k).isSome then m.map (fun q => if q.1 = k then (q.1, b) else q) else m ++ [(k, b)]
theorem fd_nil (k : κ) : fd ([] : List (κ × β)) k = none := rfl
theorem fd_pos {p : κ × β} {r : List (κ × β)} {k : κ} (h : p.1 = k) : fd (p :: r) k = some p.2 := by simp [fd, List.find?_cons, h]
theorem fd_neg {p : κ × β} {r : List (κ × β)} {k : κ} (h : ¬ p.1 = k) : fd (p :: r) k = fd r k := by simp [fd, List.find?_cons, h]
theorem fd_none {m : List (κ × β)} {k : κ} : fd m k = none ↔ k ∉ m.map (·.1) := by
  induction m with
  | nil => simp [fd_nil]
  | cons p r ih =>
    by_cases h : p.1 = k
    · rw [fd_pos h]; simp [h]
    · rw [fd_neg h, ih]
      simp only [List.map_cons, List.mem_cons, not_or]
      exact ⟨fun q => ⟨fun e => h e.symm, q⟩, fun q => q.2⟩
theorem fd_isSome {m : List (κ × β)} {k : κ} : (fd m k).isSome = true ↔ k ∈ m.map (·.1) := by
  cases e : fd m k with
  | none => have := fd_none.mp e; simpa using this
  | some b => simp only [Option.isSome_some, true_iff]; exact Classical.byContradiction fun h => by rw [fd_none.mpr h] at e; cases e
theorem fd_mem {m : List (κ × β)} {k : κ} {b : β} (h : fd m k = some b) : (k, b) ∈ m := by
  unfold fd at h
  obtain ⟨q, hq, e⟩ := Option.map_eq_some_iff.mp h
  have h1 := List.mem_of_find?_eq_some hq
  have h2 := List.find?_some hq
  have h3 : q.1 = k := by simpa using h2
  rw [← h3, ← e]
  exact h1
theorem fd_of {m : List (κ × β)} {k : κ} {b : β} (nd : (m.map (·.1)).Nodup) (h : (k, b) ∈ m) : fd m k = some b := by
  induction m with
  | nil => cases h
  | cons p r ih =>
    obtain ⟨n1, n2⟩ := List.nodup_cons.mp (show (p.1 :: r.map (·.1)).Nodup from nd)
    rcases List.mem_cons.mp h with e | h
    · rw [← e, fd_pos rfl]
    · have : ¬ p.1 = k := fun e => n1 (e ▸ List.mem_map.mpr ⟨(k, b), h, rfl⟩)
      rw [fd_neg this]
      exact ih n2 h
theorem fd_split {m : List (κ × β)} {k : κ} {b : β} (h : fd m k = some b) : ∃ A B, m = A ++ (k, b) :: B ∧ k ∉ A.map (·.1) := by
  induction m with
  | nil => cases h
  | cons p r ih =>
    by_cases e : p.1 = k
    · rw [fd_pos e] at h
      cases h
      exact ⟨[], r, by rw [← e]; rfl, by simp⟩
    · rw [fd_neg e] at h
      obtain ⟨A, B, rfl, hk⟩ := ih h
      refine ⟨p :: A, B, rfl, ?_⟩
      simp only [List.map_cons, List.mem_cons, not_or]
      exact ⟨fun q => e q.symm, hk⟩
theorem mv_len (f : β → V) (m : List (κ × β)) : (mv f m).length = m.length := List.length_map ..
theorem mv_keys (f : β → V) (m : List (κ × β)) : (mv f m).map (fun x => x.1) = m.map (·.1) := by unfold mv; rw [List.map_map]; rfl
theorem mv_val (f : β → V) (m : List (κ × β)) (k : κ) : valV (mv f m) k = (fd m k).map f := by
  induction m with
  | nil => rfl
  | cons p r ih =>
    show valV ((p.1, f p.2) :: mv f r) k = _
    by_cases h : p.1 = k
    · rw [valV_pos (p := (p.1, f p.2)) h, fd_pos h]; rfl
    · rw [valV_neg (p := (p.1, f p.2)) h, fd_neg h, ih]
theorem mv_some {f : β → V} {m : List (κ × β)} {k : κ} {b : β} (h : fd m k = some b) : valV (mv f m) k = some (f b) := by rw [mv_val, h]; rfl
theorem mv_isSome (f : β → V) (m : List (κ × β)) (k : κ) : (valV (mv f m) k).isSome = (fd m k).isSome := by rw [mv_val, Option.isSome_map]
theorem mv_drop (f : β → V) (m : List (κ × β)) (k : κ) : dropK (mv f m) k = mv f (rm m k) := by
  unfold dropK mv rm
  rw [List.filter_map]
  rfl
theorem mv_put (f : β → V) (m : List (κ × β)) (k : κ) (b : β) : putK (mv f m) k (f b) = mv f (pu m k b) := by
  unfold putK pu
  rw [valV_any, mv_isSome]
  by_cases h : (fd m k).isSome = true
  · rw [if_pos h, if_pos h]
    unfold mv
    rw [List.map_map, List.map_map]
    refine List.map_congr_left fun q _ => ?_
    show (if q.1 = k then (q.1, f b) else (q.1, f q.2)) = ((if q.1 = k then (q.1, b) else q).1, f (if q.1 = k then (q.1, b) else q).2)
    split <;> rfl
  · rw [if_neg h, if_neg h]
    unfold mv
    rw [List.map_append]
    rfl
theorem pu_new {m : List (κ × β)} {k : κ} (b : β) (h : fd m k = none) : pu m k b = m ++ [(k, b)] := by unfold pu; rw [h]; rfl
theorem pu_keys_old {m : List (κ × β)} {k : κ} (b : β) (h : (fd m k).isSome = true) : (pu m k b).map (·.1) = m.map (·.1) := by
  unfold pu
  rw [if_pos h, List.map_map]
  refine List.map_congr_left fun q _ => ?_
  show (if q.1 = k then (q.1, b) else q).1 = q.1
  split <;> rfl
theorem fd_append {m n : List (κ × β)} {k : κ} : fd (m ++ n) k = (fd m k).or (fd n k) := by
  induction m with
  | nil => simp [fd_nil]
  | cons p r ih =>
    by_cases h : p.1 = k
    · rw [List.cons_append, fd_pos h, fd_pos h]; rfl
    · rw [List.cons_append, fd_neg h, fd_neg h, ih]
theorem fd_pu (m : List (κ × β)) (k j : κ) (b : β) : fd (pu m k b) j = if j = k then some b else fd m j := by
  unfold pu
  by_cases h : (fd m k).isSome = true
  · rw [if_pos h]
    induction m with
    | nil => cases h
    | cons p r ih =>
      rw [List.map_cons]
      by_cases e : p.1 = k
      · rw [if_pos e]
        by_cases ej : j = k
        · rw [fd_pos (p := (p.1, b)) (e.trans ej.symm), if_pos ej]
        · rw [fd_neg (p := (p.1, b)) (fun z => ej (z.symm.trans e)), if_neg ej, fd_neg (fun z => ej (z.symm.trans e))]
          by_cases hr : (fd r k).isSome = true
          · rw [ih hr, if_neg ej]
          · have hk : k ∉ r.map (·.1) := fun z => hr (fd_isSome.mpr z)
            congr 1
            refine List.map_congr_left (g := id) (fun q hq => ?_) |>.trans (List.map_id r)
            have : ¬ q.1 = k := fun z => hk (z ▸ List.mem_map.mpr ⟨q, hq, rfl⟩)
            rw [if_neg this]; rfl
      · rw [if_neg e]
        rw [fd_neg e] at h
        by_cases ep : p.1 = j
        · rw [fd_pos ep, fd_pos ep, if_neg (fun z => e (ep.trans z))]
        · rw [fd_neg ep, fd_neg ep, ih h]
  · rw [if_neg h, fd_append]
    by_cases ej : j = k
    · subst ej
      have hn : fd m j = none := by cases e : fd m j with
        | none => rfl
        | some v => rw [e] at h; exact absurd rfl h
      rw [hn, if_pos rfl, fd_pos rfl]; rfl
    · rw [if_neg ej, fd_neg (p := (k, b)) (fun z => ej z.symm), fd_nil, Option.or_none]
theorem fd_rm (m : List (κ × β)) (k j : κ) : fd (rm m k) j = if j = k then none else fd m j := by
  induction m with
  | nil => simp [rm, fd_nil]
  | cons p r ih =>
    have ih : fd (List.filter (fun q => decide (q.1 ≠ k)) r) j = _ := ih
    unfold rm
    by_cases e : p.1 = k
    · rw [List.filter_cons, if_neg (by simp [e]), ih]
      by_cases ej : j = k
      · rw [if_pos ej, if_pos ej]
      · rw [if_neg ej, if_neg ej, fd_neg (fun z => ej (z.symm.trans e))]
    · rw [List.filter_cons, if_pos (by simp [e])]
      by_cases ep : p.1 = j
      · rw [fd_pos ep, fd_pos ep, if_neg (fun z => e (ep.trans z))]
      · rw [fd_neg ep, fd_neg ep, ih]
theorem rm_len (m : List (κ × β)) (k : κ) : (rm m k).length ≤ m.length := List.length_filter_le _ _
theorem rm_sub (m : List (κ × β)) (k : κ) : (rm m k).Sublist m := List.filter_sublist
theorem rm_nodup {m : List (κ × β)} {k : κ} (h : (m.map (·.1)).Nodup) : ((rm m k).map (·.1)).Nodup := ((rm_sub m k).map _).nodup h
theorem rm_mem {m : List (κ × β)} {k : κ} {q : κ × β} : q ∈ rm m k ↔ q ∈ m ∧ q.1 ≠ k := by unfold rm; rw [List.mem_filter]; simp
theorem nodup_snoc {l : List Int} {k : Int} (h : l.Nodup) (hk : k ∉ l) : (l ++ [k]).Nodup := nd_snoc h hk
/-- several keys taken out -/
def rms (m : List (Int × β)) (ks : List Int) : List (Int × β) := m.filter fun q => decide (q.1 ∉ ks)
theorem rms_nil (m : List (Int × β)) : rms m [] = m := List.filter_eq_self.mpr fun _ _ => by simp
theorem rms_snoc (m : List (Int × β)) (ks : List Int) (k : Int) : rm (rms m ks) k = rms m (ks ++ [k]) := by
  unfold rm rms
  rw [List.filter_filter]
  refine List.filter_congr fun q _ => ?_
  by_cases h1 : q.1 ∈ ks <;> by_cases h2 : q.1 = k <;> simp [h1, h2]
end
/-! ### families of objects by keys -/
def famU {κ β : Type} (obs : β → U) (m : List (κ × β)) : U := m.flatMap fun q => obs q.2
theorem fam_app {κ β : Type} (obs : β → U) (A B : List (κ × β)) : famU obs (A ++ B) = famU obs A ++ famU obs B := by unfold famU; rw [List.flatMap_append]
theorem fam_out {κ β : Type} {obs : β → U} {A B : List (κ × β)} {k : κ} {b : β} {H : Hp} {L : List U} (h : Has H (famU obs (A ++ (k, b) :: B) :: L)) : Has H (obs b :: famU obs A :: famU obs B :: L) := by
  rw [fam_app, show famU obs ((k, b) :: B) = obs b ++ famU obs B from rfl] at h
  exact (Has.op.mp ((Has.op.mp h).sub (show Sub ((_ ++ _) :: famU obs A :: L) _ from Sub.p1 (Sub.p0 Sub.rf)))).sub (Sub.p0 (Sub.p1 (Sub.p0 Sub.rf)))
theorem fam_in {κ β : Type} {obs : β → U} {A B : List (κ × β)} {k : κ} {b : β} {H : Hp} {L : List U} (h : Has H (obs b :: famU obs A :: famU obs B :: L)) : Has H (famU obs (A ++ (k, b) :: B) :: L) := by
  rw [fam_app, show famU obs ((k, b) :: B) = obs b ++ famU obs B from rfl]
  refine Has.op.mpr ?_
  exact (Has.op.mpr (h.sub (show Sub (obs b :: famU obs B :: famU obs A :: L) _ from Sub.p0 (Sub.p1 (Sub.p0 Sub.rf))))).sub (Sub.p1 (Sub.p0 Sub.rf))
theorem fam_two {κ β : Type} {obs : β → U} {A B : List (κ × β)} {H : Hp} {L : List U} (h : Has H (famU obs A :: famU obs B :: L)) : Has H (famU obs (A ++ B) :: L) := by
  rw [fam_app]
  exact Has.op.mpr h
theorem fam_snoc {κ β : Type} {obs : β → U} {A : List (κ × β)} {k : κ} {b : β} {H : Hp} {L : List U} (h : Has H (obs b :: famU obs A :: L)) : Has H (famU obs (A ++ [(k, b)]) :: L) := by
  rw [fam_app, show famU obs [(k, b)] = obs b from List.append_nil _]
  exact Has.op.mpr (h.sub (Sub.p1 (Sub.p0 Sub.rf)))
theorem pu_split {κ β : Type} [DecidableEq κ] {m : List (κ × β)} {k : κ} {b : β} (nd : (m.map (·.1)).Nodup) (h : fd m k = some b) : ∃ A B, m = A ++ (k, b) :: B ∧ (∀ b', pu m k b' = A ++ (k, b') :: B) ∧ rm m k = A ++ B := by
  obtain ⟨A, B, e, ha⟩ := fd_split h
  have hb : k ∉ B.map (·.1) := by
    rw [e, List.map_append, List.map_cons] at nd
    exact (List.nodup_cons.mp (List.nodup_append.mp nd).2.1).1
  have key : ∀ (l : List (κ × β)), k ∉ l.map (·.1) → (∀ q ∈ l, ¬ q.1 = k) := fun l hl q hq e => hl (e ▸ List.mem_map.mpr ⟨q, hq, rfl⟩)
  have hid : ∀ (l : List (κ × β)) (b' : β), k ∉ l.map (·.1) → l.map (fun q => if q.1 = k then (q.1, b') else q) = l := fun l b' hl => (List.map_congr_left fun q hq => if_neg (key l hl q hq)).trans (List.map_id' l)
  have hfl : ∀ (l : List (κ × β)), k ∉ l.map (·.1) → l.filter (fun q => decide (q.1 ≠ k)) = l := fun l hl => List.filter_eq_self.mpr fun q hq => decide_eq_true (key l hl q hq)
  refine ⟨A, B, e, fun b' => ?_, ?_⟩
  · unfold pu
    rw [if_pos (by rw [h]; rfl), e, List.map_append, List.map_cons, hid A b' ha, hid B b' hb, if_pos rfl]
  · unfold rm
    rw [e, List.filter_append, List.filter_cons, if_neg (by simp), hfl A ha, hfl B hb]
theorem pu_mem {κ β : Type} [DecidableEq κ] {m : List (κ × β)} {k : κ} {b : β} {q : κ × β} (h : q ∈ pu m k b) : q ∈ m ∨ q = (k, b) := by
  unfold pu at h
  split at h
  · obtain ⟨z, hz, e⟩ := List.mem_map.mp h
    by_cases hk : z.1 = k
    · rw [if_pos hk] at e
      exact .inr (by rw [← e, hk])
    · rw [if_neg hk] at e
      exact .inl (e ▸ hz)
  · rcases List.mem_append.mp h with h | h
    · exact .inl h
    · exact .inr (List.mem_singleton.mp h)
theorem pu_nd {κ β : Type} [DecidableEq κ] {m : List (κ × β)} {k : κ} (b : β) (h : (m.map (·.1)).Nodup) : ((pu m k b).map (·.1)).Nodup := by
  by_cases e : (fd m k).isSome = true
  · rw [pu_keys_old b e]
    exact h
  · have hn : fd m k = none := by cases e2 : fd m k with
      | none => rfl
      | some v => rw [e2] at e; exact absurd rfl e
    rw [pu_new b hn, List.map_append]
    refine List.nodup_append.mpr ⟨h, List.pairwise_singleton _ _, fun a ha b hb e3 => ?_⟩
    have hb : b = k := List.mem_singleton.mp hb
    rw [e3, hb] at ha
    exact fd_none.mp hn ha
theorem pu_len' {κ β : Type} [DecidableEq κ] (m : List (κ × β)) (k : κ) (b : β) : (pu m k b).length ≤ m.length + 1 := by
  unfold pu
  split
  · rw [List.length_map]; omega
  · rw [List.length_append]; exact Nat.le_refl _
theorem nodup_sub_len : ∀ {l m : List Int}, l.Nodup → (∀ z ∈ l, z ∈ m) → l.length ≤ m.length
  | [], m, _, _ => Nat.zero_le _
  | a :: r, m, nd, h => by
    have nd2 := List.nodup_cons.mp nd
    have ha : a ∈ m := h a (List.mem_cons.mpr (.inl rfl))
    have ih := nodup_sub_len (l := r) (m := m.erase a) nd2.2 fun z hz => (List.mem_erase_of_ne (show z ≠ a from fun e => nd2.1 (e ▸ hz))).mpr (h z (List.mem_cons_of_mem _ hz))
    have e := List.length_erase_of_mem ha
    have := List.length_pos_of_mem ha
    rw [List.length_cons]
    omega
end La
namespace La
open PySem L2 Sy
def t_Link_init (K : PySem.W.Frag) : TS :=
  tSeq (sFld K (tVar 0) (tVar 1) "key")
    (sFld K (tVar 0) (tVar 2) "after")
def t_Chain_init (K : PySem.W.Frag) (C_Link : Addr) (sp_look_number sp_mk_Link : Sp) : TS :=
  tSeq (tDrop (tCall sp_look_number [] E0 (tCons (tVar 1) (tCons (tC (.int 1)) (tCons (tC (.int 6)) (tNil))))))
    (tSeq (sFld K (tVar 0) (tVar 1) "hands")
    (tSeq (sFld K (tVar 0) (tDisp [(tC (.int 0), tMake C_Link sp_mk_Link [] E0 (tCons (tC (.int (-1))) (tCons (tC .non) (tNil))))]) "links")
    (tSeq (sFld K (tVar 0) (tC (.int 1)) "made")
    (tSeq (sFld K (tVar 0) (tC (.int 0)) "era")
    (tSeq (sFld K (tVar 0) (tDNewK) "inside")
    (tSeq (sFld K (tVar 0) (tDNewK) "at")
    (sFld K (tVar 0) (tDNewK) "waits")))))))
def t_Chain_place_of (K : PySem.W.Frag) : TS :=
  tSeq (tAsg (tC (.int 0)) (gName 2))
    (tSeq (tAsg (tFld K (tDGet (tFld K (tVar 0) "links") (tVar 2)) "after") (gName 3))
    (tSeq (tWhile (tAnd (tTest (tOp rNotNo (tVar 3) (tC .non))) (tTest (tOp rLtI (tFld K (tDGet (tFld K (tVar 0) "links") (tVar 3)) "key") (tVar 1)))) (tSeq (tAsg (tVar 3) (gName 2))
    (tAsg (tFld K (tDGet (tFld K (tVar 0) "links") (tVar 2)) "after") (gName 3))))
    (tRet (tVar 2))))
def t_Chain_has (K : PySem.W.Frag) (C_Chain : Addr) (sp_look_number sp_Chain__Chain_place_of : Sp) : TS :=
  tSeq (tDrop (tCall sp_look_number [] E0 (tCons (tVar 1) (tCons (tC (.int 0)) (tCons (tC (.int 999)) (tNil))))))
    (tSeq (tAsg (tFld K (tDGet (tFld K (tVar 0) "links") (tMeth C_Chain "place_of" sp_Chain__Chain_place_of [] E0 (tVar 0) (tCons (tVar 1) (tNil)))) "after") (gName 2))
    (tRet (tAndV (tOp rNotNo (tVar 2) (tC .non)) (tOp rEq (tFld K (tDGet (tFld K (tVar 0) "links") (tVar 2)) "key") (tVar 1)))))
def t_Chain_put (K : PySem.W.Frag) (C_Chain C_Link : Addr) (sp_Chain__Chain_has sp_Chain__Chain_place_of sp_mk_Link : Sp) : TS :=
  tSeq (tIfS (tB (tMeth C_Chain "has" sp_Chain__Chain_has [] E0 (tVar 0) (tCons (tVar 1) (tNil)))) (tRet (tC (.bl false))) (tNext))
    (tSeq (tAsg (tDGet (tFld K (tVar 0) "links") (tMeth C_Chain "place_of" sp_Chain__Chain_place_of [] E0 (tVar 0) (tCons (tVar 1) (tNil)))) (gName 2))
    (tSeq (sDPut (tFld K (tVar 0) "links") (tFld K (tVar 0) "made") (tMake C_Link sp_mk_Link [] E0 (tCons (tVar 1) (tCons (tFld K (tVar 2) "after") (tNil)))))
    (tSeq (sFld K (tVar 2) (tFld K (tVar 0) "made") "after")
    (tSeq (sFld K (tVar 0) (tOp rAddI (tFld K (tVar 0) "made") (tC (.int 1))) "made")
    (tRet (tC (.bl true)))))))
def t_Chain_take_out (K : PySem.W.Frag) (C_Chain : Addr) (sp_Chain__Chain_has sp_Chain__Chain_place_of : Sp) : TS :=
  tSeq (tIfS (tNot (tB (tMeth C_Chain "has" sp_Chain__Chain_has [] E0 (tVar 0) (tCons (tVar 1) (tNil))))) (tRet (tC (.bl false))) (tNext))
    (tSeq (tAsg (tDGet (tFld K (tVar 0) "links") (tMeth C_Chain "place_of" sp_Chain__Chain_place_of [] E0 (tVar 0) (tCons (tVar 1) (tNil)))) (gName 2))
    (tSeq (tAsg (tFld K (tVar 2) "after") (gName 3))
    (tSeq (sFld K (tVar 2) (tFld K (tDGet (tFld K (tVar 0) "links") (tVar 3)) "after") "after")
    (tSeq (sDPut (tFld K (tVar 0) "waits") (tVar 3) (tFld K (tVar 0) "era"))
    (tRet (tC (.bl true)))))))
def t_Chain_keys_in (K : PySem.W.Frag) : TS :=
  tSeq (tAsg (tLst (tNil)) (gName 1))
    (tSeq (tAsg (tFld K (tDGet (tFld K (tVar 0) "links") (tC (.int 0))) "after") (gName 2))
    (tSeq (tWhile (tTest (tOp rNotNo (tVar 2) (tC .non))) (tSeq (tDrop (tBM K "list" rAppend (tVar 1) (tCons (tFld K (tDGet (tFld K (tVar 0) "links") (tVar 2)) "key") (tNil))))
    (tAsg (tFld K (tDGet (tFld K (tVar 0) "links") (tVar 2)) "after") (gName 2))))
    (tRet (tVar 1))))
def t_Chain_go_on (K : PySem.W.Frag) : TS :=
  tSeq (tIfS (tNot (tB (tCB (rAll K) (tCons (tLockE (tLc (iKeys (tFld K (tVar 0) "inside")) (gName 1) tYes (tOp rEq (tDGet (tFld K (tVar 0) "inside") (tVar 1)) (tFld K (tVar 0) "era")) [1])) (tNil))))) (tRet (tC .non)) (tNext))
    (tSeq (sFld K (tVar 0) (tOp rAddI (tFld K (tVar 0) "era") (tC (.int 1))) "era")
    (tSeq (tLock (tAsg (tLc (iKeys (tFld K (tVar 0) "waits")) (gName 3) (tTest (tOp rLeI (tDGet (tFld K (tVar 0) "waits") (tVar 3)) (tOp rSubI (tFld K (tVar 0) "era") (tC (.int 2))))) (tVar 3) [3]) (gName 2)))
    (tSeq (tFor (iList K (tVar 2)) (gName 3) (tSeq (tDrop (tDPop1 (tFld K (tVar 0) "waits") (tVar 3)))
    (tDrop (tDPop1 (tFld K (tVar 0) "links") (tVar 3)))))
    (tRet (tCB (rLenQ K) (tCons (tVar 2) (tNil)))))))
def t_Chain_len (K : PySem.W.Frag) : TS :=
  tRet (tCB rLenK (tCons (tFld K (tVar 0) "links") (tNil)))
def t_Chain_look_hand (K : PySem.W.Frag) (sp_is_whole : Sp) : TS :=
  tIfS (tNot (tB (tCall sp_is_whole [] E0 (tCons (tVar 1) (tCons (tC (.int 0)) (tCons (tOp rSubI (tFld K (tVar 0) "hands") (tC (.int 1))) (tNil))))))) (tNever) (tNext)
def t_Chain_look_in (K : PySem.W.Frag) (C_Chain : Addr) (sp_Chain__Chain_look_hand : Sp) : TS :=
  tSeq (tDrop (tMeth C_Chain "look_hand" sp_Chain__Chain_look_hand [] E0 (tVar 0) (tCons (tVar 1) (tNil))))
    (tIfS (tB (tDNotIn (tVar 1) (tFld K (tVar 0) "inside"))) (tNever) (tNext))
def t_Chain_start (K : PySem.W.Frag) (C_Chain : Addr) (sp_Chain__Chain_look_hand : Sp) : TS :=
  tSeq (tDrop (tMeth C_Chain "look_hand" sp_Chain__Chain_look_hand [] E0 (tVar 0) (tCons (tVar 1) (tNil))))
    (tSeq (tIfS (tB (tDIn (tVar 1) (tFld K (tVar 0) "inside"))) (tNever) (tNext))
    (tSeq (sDPut (tFld K (tVar 0) "inside") (tVar 1) (tFld K (tVar 0) "era"))
    (sDPut (tFld K (tVar 0) "at") (tVar 1) (tC (.int 0)))))
def t_Chain_step (K : PySem.W.Frag) (C_Chain : Addr) (sp_Chain__Chain_look_in sp_Chain__Chain_stop : Sp) : TS :=
  tSeq (tDrop (tMeth C_Chain "look_in" sp_Chain__Chain_look_in [] E0 (tVar 0) (tCons (tVar 1) (tNil))))
    (tSeq (tAsg (tFld K (tDGet (tFld K (tVar 0) "links") (tDGet (tFld K (tVar 0) "at") (tVar 1))) "after") (gName 2))
    (tSeq (tIfS (tTest (tOp rIsNo (tVar 2) (tC .non))) (tSeq (tDrop (tMeth C_Chain "stop" sp_Chain__Chain_stop [] E0 (tVar 0) (tCons (tVar 1) (tNil))))
    (tRet (tC .non))) (tNext))
    (tSeq (tIfS (tB (tDNotIn (tVar 2) (tFld K (tVar 0) "links"))) (tNever) (tNext))
    (tSeq (sDPut (tFld K (tVar 0) "at") (tVar 1) (tVar 2))
    (tRet (tFld K (tDGet (tFld K (tVar 0) "links") (tVar 2)) "key"))))))
def t_Chain_stop (K : PySem.W.Frag) (C_Chain : Addr) (sp_Chain__Chain_look_in : Sp) : TS :=
  tSeq (tDrop (tMeth C_Chain "look_in" sp_Chain__Chain_look_in [] E0 (tVar 0) (tCons (tVar 1) (tNil))))
    (tSeq (tDrop (tDPop1 (tFld K (tVar 0) "inside") (tVar 1)))
    (tDrop (tDPop1 (tFld K (tVar 0) "at") (tVar 1))))
def t_Chain_walkers (K : PySem.W.Frag) : TS :=
  tRet (tCB rSortD (tCons (tFld K (tVar 0) "inside") (tNil)))
def lkF (v0 v1 : V) : List (Str × V) := [("key", v0), ("after", v1)]
theorem lk_key {v0 v1 : V} : (lkF v0 v1).lookup ("key" : Str) = some v0 := by kernel_rfl
theorem lk_put_key {v0 v1 u : V} : putF "key" u (lkF v0 v1) = lkF u v1 := by kernel_rfl
theorem lk_after {v0 v1 : V} : (lkF v0 v1).lookup ("after" : Str) = some v1 := by kernel_rfl
theorem lk_put_after {v0 v1 u : V} : putF "after" u (lkF v0 v1) = lkF v0 u := by kernel_rfl
theorem lk_p1 { u : V} : putF "key" u ([] : List (Str × V)) = ([("key", u)] : List (Str × V)) := by kernel_rfl
theorem lk_p2 {v0 u : V} : putF "after" u ([("key", v0)] : List (Str × V)) = ((lkF v0 u) : List (Str × V)) := by kernel_rfl
theorem lk_len {v0 v1 : V} : (lkF v0 v1).length < 1000 := by show 2 < 1000; decide
def chF (v0 v1 v2 v3 v4 v5 v6 : V) : List (Str × V) := [("hands", v0), ("links", v1), ("made", v2), ("era", v3), ("inside", v4), ("at", v5), ("waits", v6)]
theorem ch_hands {v0 v1 v2 v3 v4 v5 v6 : V} : (chF v0 v1 v2 v3 v4 v5 v6).lookup ("hands" : Str) = some v0 := by kernel_rfl
theorem ch_put_hands {v0 v1 v2 v3 v4 v5 v6 u : V} : putF "hands" u (chF v0 v1 v2 v3 v4 v5 v6) = chF u v1 v2 v3 v4 v5 v6 := by kernel_rfl
theorem ch_links {v0 v1 v2 v3 v4 v5 v6 : V} : (chF v0 v1 v2 v3 v4 v5 v6).lookup ("links" : Str) = some v1 := by kernel_rfl
theorem ch_put_links {v0 v1 v2 v3 v4 v5 v6 u : V} : putF "links" u (chF v0 v1 v2 v3 v4 v5 v6) = chF v0 u v2 v3 v4 v5 v6 := by kernel_rfl
theorem ch_made {v0 v1 v2 v3 v4 v5 v6 : V} : (chF v0 v1 v2 v3 v4 v5 v6).lookup ("made" : Str) = some v2 := by kernel_rfl
theorem ch_put_made {v0 v1 v2 v3 v4 v5 v6 u : V} : putF "made" u (chF v0 v1 v2 v3 v4 v5 v6) = chF v0 v1 u v3 v4 v5 v6 := by kernel_rfl
theorem ch_era {v0 v1 v2 v3 v4 v5 v6 : V} : (chF v0 v1 v2 v3 v4 v5 v6).lookup ("era" : Str) = some v3 := by kernel_rfl
theorem ch_put_era {v0 v1 v2 v3 v4 v5 v6 u : V} : putF "era" u (chF v0 v1 v2 v3 v4 v5 v6) = chF v0 v1 v2 u v4 v5 v6 := by kernel_rfl
theorem ch_inside {v0 v1 v2 v3 v4 v5 v6 : V} : (chF v0 v1 v2 v3 v4 v5 v6).lookup ("inside" : Str) = some v4 := by kernel_rfl
theorem ch_put_inside {v0 v1 v2 v3 v4 v5 v6 u : V} : putF "inside" u (chF v0 v1 v2 v3 v4 v5 v6) = chF v0 v1 v2 v3 u v5 v6 := by kernel_rfl
theorem ch_at {v0 v1 v2 v3 v4 v5 v6 : V} : (chF v0 v1 v2 v3 v4 v5 v6).lookup ("at" : Str) = some v5 := by kernel_rfl
theorem ch_put_at {v0 v1 v2 v3 v4 v5 v6 u : V} : putF "at" u (chF v0 v1 v2 v3 v4 v5 v6) = chF v0 v1 v2 v3 v4 u v6 := by kernel_rfl
theorem ch_waits {v0 v1 v2 v3 v4 v5 v6 : V} : (chF v0 v1 v2 v3 v4 v5 v6).lookup ("waits" : Str) = some v6 := by kernel_rfl
theorem ch_put_waits {v0 v1 v2 v3 v4 v5 v6 u : V} : putF "waits" u (chF v0 v1 v2 v3 v4 v5 v6) = chF v0 v1 v2 v3 v4 v5 u := by kernel_rfl
theorem ch_m_place_of {v0 v1 v2 v3 v4 v5 v6 : V} : (chF v0 v1 v2 v3 v4 v5 v6).lookup ("place_of" : Str) = none := by kernel_rfl
theorem ch_m_has {v0 v1 v2 v3 v4 v5 v6 : V} : (chF v0 v1 v2 v3 v4 v5 v6).lookup ("has" : Str) = none := by kernel_rfl
theorem ch_m_put {v0 v1 v2 v3 v4 v5 v6 : V} : (chF v0 v1 v2 v3 v4 v5 v6).lookup ("put" : Str) = none := by kernel_rfl
theorem ch_m_take_out {v0 v1 v2 v3 v4 v5 v6 : V} : (chF v0 v1 v2 v3 v4 v5 v6).lookup ("take_out" : Str) = none := by kernel_rfl
theorem ch_m_keys_in {v0 v1 v2 v3 v4 v5 v6 : V} : (chF v0 v1 v2 v3 v4 v5 v6).lookup ("keys_in" : Str) = none := by kernel_rfl
theorem ch_m_look_hand {v0 v1 v2 v3 v4 v5 v6 : V} : (chF v0 v1 v2 v3 v4 v5 v6).lookup ("look_hand" : Str) = none := by kernel_rfl
theorem ch_m_look_in {v0 v1 v2 v3 v4 v5 v6 : V} : (chF v0 v1 v2 v3 v4 v5 v6).lookup ("look_in" : Str) = none := by kernel_rfl
theorem ch_m_start {v0 v1 v2 v3 v4 v5 v6 : V} : (chF v0 v1 v2 v3 v4 v5 v6).lookup ("start" : Str) = none := by kernel_rfl
theorem ch_m_step {v0 v1 v2 v3 v4 v5 v6 : V} : (chF v0 v1 v2 v3 v4 v5 v6).lookup ("step" : Str) = none := by kernel_rfl
theorem ch_m_stop {v0 v1 v2 v3 v4 v5 v6 : V} : (chF v0 v1 v2 v3 v4 v5 v6).lookup ("stop" : Str) = none := by kernel_rfl
theorem ch_m_go_on {v0 v1 v2 v3 v4 v5 v6 : V} : (chF v0 v1 v2 v3 v4 v5 v6).lookup ("go_on" : Str) = none := by kernel_rfl
theorem ch_m_walkers {v0 v1 v2 v3 v4 v5 v6 : V} : (chF v0 v1 v2 v3 v4 v5 v6).lookup ("walkers" : Str) = none := by kernel_rfl
theorem ch_m___len__ {v0 v1 v2 v3 v4 v5 v6 : V} : (chF v0 v1 v2 v3 v4 v5 v6).lookup ("__len__" : Str) = none := by kernel_rfl
theorem ch_p1 { u : V} : putF "hands" u ([] : List (Str × V)) = ([("hands", u)] : List (Str × V)) := by kernel_rfl
theorem ch_p2 {v0 u : V} : putF "links" u ([("hands", v0)] : List (Str × V)) = ([("hands", v0), ("links", u)] : List (Str × V)) := by kernel_rfl
theorem ch_p3 {v0 v1 u : V} : putF "made" u ([("hands", v0), ("links", v1)] : List (Str × V)) = ([("hands", v0), ("links", v1), ("made", u)] : List (Str × V)) := by kernel_rfl
theorem ch_p4 {v0 v1 v2 u : V} : putF "era" u ([("hands", v0), ("links", v1), ("made", v2)] : List (Str × V)) = ([("hands", v0), ("links", v1), ("made", v2), ("era", u)] : List (Str × V)) := by kernel_rfl
theorem ch_p5 {v0 v1 v2 v3 u : V} : putF "inside" u ([("hands", v0), ("links", v1), ("made", v2), ("era", v3)] : List (Str × V)) = ([("hands", v0), ("links", v1), ("made", v2), ("era", v3), ("inside", u)] : List (Str × V)) := by kernel_rfl
theorem ch_p6 {v0 v1 v2 v3 v4 u : V} : putF "at" u ([("hands", v0), ("links", v1), ("made", v2), ("era", v3), ("inside", v4)] : List (Str × V)) = ([("hands", v0), ("links", v1), ("made", v2), ("era", v3), ("inside", v4), ("at", u)] : List (Str × V)) := by kernel_rfl
theorem ch_p7 {v0 v1 v2 v3 v4 v5 u : V} : putF "waits" u ([("hands", v0), ("links", v1), ("made", v2), ("era", v3), ("inside", v4), ("at", v5)] : List (Str × V)) = ((chF v0 v1 v2 v3 v4 v5 u) : List (Str × V)) := by kernel_rfl
theorem ch_len {v0 v1 v2 v3 v4 v5 v6 : V} : (chF v0 v1 v2 v3 v4 v5 v6).length < 1000 := by show 7 < 1000; decide
local macro_rules | `(tactic| walk_at "fl") => `(tactic| first | assumption | exact lk_key | exact lk_after)
local macro_rules | `(tactic| walk_at "put") => `(tactic| first | exact lk_put_key | exact lk_put_after | exact lk_p1 | exact lk_p2)
local macro_rules | `(tactic| walk_at "fsl") => `(tactic| first | assumption | exact lk_len | (show 0 < 1000; decide) | (show 1 < 1000; decide))
local macro_rules | `(tactic| walk_at "fl") => `(tactic| first | assumption | exact ch_hands | exact ch_links | exact ch_made | exact ch_era | exact ch_inside | exact ch_at | exact ch_waits | exact ch_m_place_of | exact ch_m_has | exact ch_m_put | exact ch_m_take_out | exact ch_m_keys_in | exact ch_m_look_hand | exact ch_m_look_in | exact ch_m_start | exact ch_m_step | exact ch_m_stop | exact ch_m_go_on | exact ch_m_walkers | exact ch_m___len__)
local macro_rules | `(tactic| walk_at "put") => `(tactic| first | exact ch_put_hands | exact ch_put_links | exact ch_put_made | exact ch_put_era | exact ch_put_inside | exact ch_put_at | exact ch_put_waits | exact ch_p1 | exact ch_p2 | exact ch_p3 | exact ch_p4 | exact ch_p5 | exact ch_p6 | exact ch_p7)
local macro_rules | `(tactic| walk_at "fsl") => `(tactic| first | assumption | exact ch_len | (show 0 < 1000; decide) | (show 1 < 1000; decide) | (show 2 < 1000; decide) | (show 3 < 1000; decide) | (show 4 < 1000; decide) | (show 5 < 1000; decide) | (show 6 < 1000; decide))
/-! ### chains -/
structure ChC (K : PySem.W.Frag) (C CL : Addr) : Prop where
  cl : Cls K C
  n1 : NoAttr K C "hands"
  n2 : NoAttr K C "links"
  n3 : NoAttr K C "made"
  n4 : NoAttr K C "era"
  n5 : NoAttr K C "inside"
  n6 : NoAttr K C "at"
  n7 : NoAttr K C "waits"
  cll : Cls K CL
  k1 : NoAttr K CL "key"
  k2 : NoAttr K CL "after"
structure LkC (K : PySem.W.Frag) (CL : Addr) : Prop where
  cl : Cls K CL
  k1 : NoAttr K CL "key"
  k2 : NoAttr K CL "after"
structure Lk where
  ad : Addr
  dx : Addr
  key : Int
  after : Option Int
def opV : Option Int → V
  | none => .non
  | some i => .int i
def obK (CL : Addr) (l : Lk) : U := [(l.ad, .ins CL l.dx (lkF (.int l.key) (opV l.after)))]
def lkR (l : Lk) : V := .ref l.ad
abbrev Lks := List (Int × Lk)
structure Cha where
  dx : Addr
  la : Addr
  ia : Addr
  aa : Addr
  wa : Addr
  hands : Int
  made : Int
  era : Int
  links : Lks
  inside : List (Int × Int)
  wh : List (Int × Int)
  waits : List (Int × Int)
def chaU (C CL p : Addr) (s : Cha) : U := (p, .ins C s.dx (chF (.int s.hands) (.ref s.la) (.int s.made) (.int s.era) (.ref s.ia) (.ref s.aa) (.ref s.wa))) :: (s.la, dI (mv lkR s.links)) :: (s.ia, dI (mv V.int s.inside)) :: (s.aa, dI (mv V.int s.wh)) :: (s.wa, dI (mv V.int s.waits)) :: famU (obK CL) s.links
abbrev chaL (C CL p : Addr) (s : Cha) (R : List U) : List U := [(p, .ins C s.dx (chF (.int s.hands) (.ref s.la) (.int s.made) (.int s.era) (.ref s.ia) (.ref s.aa) (.ref s.wa)))] :: [(s.la, dI (mv lkR s.links))] :: [(s.ia, dI (mv V.int s.inside))] :: [(s.aa, dI (mv V.int s.wh))] :: [(s.wa, dI (mv V.int s.waits))] :: famU (obK CL) s.links :: R
theorem ch_cut {H : Hp} {C CL p : Addr} {s : Cha} {R : List U} (h : Has H (chaU C CL p s :: R)) : Has H (chaL C CL p s R) := by
  have h1 := Has.cut3 h
  have h2 := Has.cut2 (h1.sub (Sub.p3 Sub.rf))
  exact h2.sub (Sub.p3 (Sub.p3 (Sub.p3 (Sub.p0 (Sub.p0 (Sub.p0 Sub.rf))))))
theorem ch_in {H : Hp} {C CL p : Addr} {s : Cha} {R : List U} (h : Has H (chaL C CL p s R)) : Has H (chaU C CL p s :: R) := by
  have h1 := Has.glue2 (h.sub (show Sub ([(s.aa, _)] :: [(s.wa, _)] :: famU (obK CL) s.links :: _) _ from Sub.p3 (Sub.p3 (Sub.p3 Sub.rf))))
  exact Has.glue3 (h1.sub (show Sub ([(p, _)] :: [(s.la, _)] :: [(s.ia, _)] :: _ :: R) _ from Sub.p1 (Sub.p1 (Sub.p1 (Sub.p0 Sub.rf)))))
theorem fam_get {κ β : Type} {obs : β → U} {H : Hp} {m : List (κ × β)} {L : List U} (h : Has H (famU obs m :: L)) {q : κ × β} (hq : q ∈ m) {x : Addr × HO} (hx : x ∈ obs q.2) : H x.1 = some x.2 :=
  h.at' x (List.mem_append.mpr (.inl (List.mem_flatMap.mpr ⟨q, hq, hx⟩)))
theorem lk_get {H : Hp} {CL : Addr} {m : Lks} {L : List U} {n : Int} {l : Lk} (h : Has H (famU (obK CL) m :: L)) (hf : fd m n = some l) : H l.ad = some (.ins CL l.dx (lkF (.int l.key) (opV l.after))) :=
  fam_get h (fd_mem hf) (x := (l.ad, _)) (List.mem_singleton.mpr rfl)
/-! #### ways along the links -/
def Path (L : Lks) : Option Int → List (Int × Int) → Prop
  | o, [] => o = none
  | o, (n, k) :: r => o = some n ∧ ∃ l, fd L n = some l ∧ l.key = k ∧ Path L l.after r
theorem path_det {L : Lks} : ∀ {pl pl' : List (Int × Int)} {o : Option Int}, Path L o pl → Path L o pl' → pl = pl'
  | [], [], _, _, _ => rfl
  | [], (n, k) :: r, o, h, h' => by
    have h : o = none := h
    rw [h] at h'
    exact absurd h'.1 (by simp)
  | (n, k) :: r, [], o, h, h' => by
    have h' : o = none := h'
    rw [h'] at h
    exact absurd h.1 (by simp)
  | (n, k) :: r, (n', k') :: r', o, h, h' => by
    obtain ⟨e, l, f, ek, hr⟩ := h
    obtain ⟨e', l', f', ek', hr'⟩ := h'
    rw [e] at e'
    have en := Option.some.inj e'
    subst en
    rw [f] at f'
    have el := Option.some.inj f'
    subst el
    rw [path_det hr hr', ← ek, ← ek']
theorem path_at {L : Lks} : ∀ {A : List (Int × Int)} {o : Option Int} {n k : Int} {B : List (Int × Int)}, Path L o (A ++ (n, k) :: B) → Path L (some n) ((n, k) :: B)
  | [], o, n, k, B, h => by
    have h : Path L o ((n, k) :: B) := h
    rw [← h.1]
    exact h
  | (a, c) :: A, o, n, k, B, h => by
    obtain ⟨_, l, _, _, hr⟩ := h
    exact path_at hr
theorem path_mem {L : Lks} : ∀ {pl : List (Int × Int)} {o : Option Int}, Path L o pl → ∀ q ∈ pl, ∃ l, fd L q.1 = some l ∧ l.key = q.2
  | [], _, _, q, hq => absurd hq List.not_mem_nil
  | (n, k) :: r, o, h, q, hq => by
    obtain ⟨_, l, f, ek, hr⟩ := h
    rcases List.mem_cons.mp hq with e | e
    · rw [e]; exact ⟨l, f, ek⟩
    · exact path_mem hr q e
theorem path_head {L : Lks} {pl : List (Int × Int)} {o : Option Int} (h : Path L o pl) : o = pl.head?.map (·.1) := by
  cases pl with
  | nil => exact h
  | cons q r => exact h.1
theorem path_next {L : Lks} {n k : Int} {B : List (Int × Int)} {o : Option Int} (h : Path L o ((n, k) :: B)) : ∃ l, fd L n = some l ∧ l.key = k ∧ l.after = B.head?.map (·.1) ∧ Path L l.after B := by
  obtain ⟨_, l, f, ek, hr⟩ := h
  exact ⟨l, f, ek, path_head hr, hr⟩
theorem path_congr {L L' : Lks} : ∀ {pl : List (Int × Int)} {o : Option Int}, (∀ q ∈ pl, fd L' q.1 = fd L q.1) → Path L o pl → Path L' o pl
  | [], _, _, h => h
  | (n, k) :: r, o, he, h => by
    obtain ⟨e, l, f, ek, hr⟩ := h
    exact ⟨e, l, (he (n, k) (List.mem_cons.mpr (.inl rfl))).trans f, ek, path_congr (fun q hq => he q (List.mem_cons_of_mem _ hq)) hr⟩
/-- a link m put in behind n -/
def ins (n m k : Int) (pl : List (Int × Int)) : List (Int × Int) := pl.flatMap fun q => if q.1 = n then [q, (m, k)] else [q]
theorem ins_cons (n m k : Int) (q : Int × Int) (r : List (Int × Int)) : ins n m k (q :: r) = (if q.1 = n then [q, (m, k)] else [q]) ++ ins n m k r := rfl
theorem path_ins {L L' : Lks} {n m k : Int} {l new : Lk} (hn : fd L n = some l) (hm : fd L m = none) (h1 : fd L' n = some { l with after := some m }) (h2 : fd L' m = some new) (hk : new.key = k) (ha : new.after = l.after) (h3 : ∀ j, j ≠ n → j ≠ m → fd L' j = fd L j) :
    ∀ {pl : List (Int × Int)} {o : Option Int}, Path L o pl → Path L' o (ins n m k pl)
  | [], _, h => h
  | (a, c) :: r, o, h => by
    obtain ⟨e, la, f, ek, hr⟩ := h
    have ih := path_ins hn hm h1 h2 hk ha h3 hr
    rw [ins_cons]
    by_cases ea : a = n
    · subst ea
      rw [if_pos rfl]
      rw [hn] at f
      have el := Option.some.inj f
      subst el
      exact ⟨e, _, h1, ek, rfl, new, h2, hk, by rw [ha]; exact ih⟩
    · rw [if_neg (show ¬ ((a, c) : Int × Int).1 = n from ea)]
      have em : a ≠ m := fun z => by rw [z, hm] at f; cases f
      exact ⟨e, la, (h3 a ea em).trans f, ek, ih⟩
theorem ins_mem {n m k : Int} {pl : List (Int × Int)} {z : Int × Int} (h : z ∈ ins n m k pl) : z ∈ pl ∨ z = (m, k) := by
  obtain ⟨q, hq, hz⟩ := List.mem_flatMap.mp h
  by_cases e : q.1 = n
  · rw [if_pos e] at hz
    rcases List.mem_cons.mp hz with h | h
    · rw [h]; exact .inl hq
    · exact .inr (List.mem_singleton.mp h)
  · rw [if_neg e] at hz
    rw [List.mem_singleton.mp hz]; exact .inl hq
theorem mem_ins {n m k : Int} {pl : List (Int × Int)} {z : Int × Int} (h : z ∈ pl) : z ∈ ins n m k pl := by
  refine List.mem_flatMap.mpr ⟨z, h, ?_⟩
  split <;> simp
theorem ins_mid {n m k : Int} : ∀ {A B : List (Int × Int)} {c : Int}, (∀ q ∈ A, q.1 ≠ n) → (∀ q ∈ B, q.1 ≠ n) → ins n m k (A ++ (n, c) :: B) = A ++ (n, c) :: (m, k) :: B := by
  have key : ∀ {A : List (Int × Int)}, (∀ q ∈ A, q.1 ≠ n) → ins n m k A = A := by
    intro A
    induction A with
    | nil => exact fun _ => rfl
    | cons q r ih =>
      intro h
      rw [ins_cons, if_neg (h q (List.mem_cons.mpr (.inl rfl))), ih fun z hz => h z (List.mem_cons_of_mem _ hz)]
      rfl
  intro A B c hA hB
  have e : ins n m k (A ++ (n, c) :: B) = ins n m k A ++ ins n m k ((n, c) :: B) := by unfold ins; rw [List.flatMap_append]
  rw [e, key hA, ins_cons, if_pos rfl, key hB]
  rfl
/-- the link behind n taken out -/
def del (n : Int) : List (Int × Int) → List (Int × Int)
  | [] => []
  | [q] => [q]
  | q :: x :: r => if q.1 = n then q :: del n r else q :: del n (x :: r)
theorem path_del {L L' : Lks} {n m : Int} {l l2 : Lk} (hn : fd L n = some l) (hl : l.after = some m) (hm : fd L m = some l2) (h1 : fd L' n = some { l with after := l2.after }) (h3 : ∀ j, j ≠ n → fd L' j = fd L j) :
    ∀ (pl : List (Int × Int)) (o : Option Int), Path L o pl → Path L' o (del n pl)
  | [], _, h => h
  | [(a, c)], o, h => by
    obtain ⟨e, la, f, ek, hr⟩ := h
    have ea : a ≠ n := fun z => by
      rw [z, hn] at f
      have el := Option.some.inj f
      subst el
      have hr : l.after = none := hr
      rw [hl] at hr
      cases hr
    exact ⟨e, la, (h3 a ea).trans f, ek, hr⟩
  | (a, c) :: x :: r, o, h => by
    obtain ⟨e, la, f, ek, hr⟩ := h
    unfold del
    by_cases ea : a = n
    · rw [if_pos (show ((a, c) : Int × Int).1 = n from ea)]
      subst ea
      rw [hn] at f
      have el := Option.some.inj f
      subst el
      obtain ⟨e2, lb, f2, ek2, hr2⟩ := hr
      rw [hl] at e2
      have em := Option.some.inj e2
      rw [← em, hm] at f2
      have el2 := Option.some.inj f2
      subst el2
      exact ⟨e, _, h1, ek, path_del hn hl hm h1 h3 r _ hr2⟩
    · rw [if_neg (show ¬ ((a, c) : Int × Int).1 = n from ea)]
      exact ⟨e, la, (h3 a ea).trans f, ek, path_del hn hl hm h1 h3 (x :: r) _ hr⟩
theorem del_sub (n : Int) : ∀ pl : List (Int × Int), (del n pl).Sublist pl
  | [] => .slnil
  | [q] => List.Sublist.refl _
  | q :: x :: r => by
    unfold del
    split
    · exact List.Sublist.cons_cons _ ((del_sub n r).cons _)
    · exact List.Sublist.cons_cons _ (del_sub n (x :: r))
theorem mem_del {L : Lks} {n m : Int} {l : Lk} (hn : fd L n = some l) (hl : l.after = some m) : ∀ (pl : List (Int × Int)) (o : Option Int), Path L o pl → ∀ z ∈ pl, z ∈ del n pl ∨ z.1 = m
  | [], _, _, z, hz => absurd hz List.not_mem_nil
  | [q], _, _, z, hz => .inl hz
  | (a, c) :: x :: r, o, h, z, hz => by
    obtain ⟨e, la, f, ek, hr⟩ := h
    unfold del
    by_cases ea : a = n
    · rw [if_pos (show ((a, c) : Int × Int).1 = n from ea)]
      rcases List.mem_cons.mp hz with hz | hz
      · exact .inl (List.mem_cons.mpr (.inl hz))
      · subst ea
        rw [hn] at f
        have el := Option.some.inj f
        subst el
        rcases List.mem_cons.mp hz with hz | hz
        · obtain ⟨e2, _⟩ := hr
          rw [hl] at e2
          rw [hz]
          exact .inr (Option.some.inj e2).symm
        · obtain ⟨_, lb, _, _, hr2⟩ := hr
          rcases mem_del hn hl r _ hr2 z hz with h | h
          · exact .inl (List.mem_cons_of_mem _ h)
          · exact .inr h
    · rw [if_neg (show ¬ ((a, c) : Int × Int).1 = n from ea)]
      rcases List.mem_cons.mp hz with hz | hz
      · exact .inl (List.mem_cons.mpr (.inl hz))
      · rcases mem_del hn hl (x :: r) _ hr z hz with h | h
        · exact .inl (List.mem_cons_of_mem _ h)
        · exact .inr h
theorem del_mid {n : Int} : ∀ {A B : List (Int × Int)} {c : Int} {q : Int × Int}, (∀ q ∈ A, q.1 ≠ n) → (∀ q ∈ B, q.1 ≠ n) → del n (A ++ (n, c) :: q :: B) = A ++ (n, c) :: B := by
  have key : ∀ A : List (Int × Int), (∀ q ∈ A, q.1 ≠ n) → del n A = A := by
    intro A
    induction A with
    | nil => exact fun _ => rfl
    | cons q r ih =>
      intro h
      cases r with
      | nil => rfl
      | cons x r =>
        unfold del
        rw [if_neg (h q (List.mem_cons.mpr (.inl rfl))), ih fun z hz => h z (List.mem_cons_of_mem _ hz)]
  intro A
  induction A with
  | nil =>
    intro B c q _ hB
    show del n ((n, c) :: q :: B) = (n, c) :: B
    unfold del
    rw [if_pos rfl, key B hB]
  | cons a r ih =>
    intro B c q hA hB
    have h1 := ih (B := B) (c := c) (q := q) (fun z hz => hA z (List.mem_cons_of_mem _ hz)) hB
    cases r with
    | nil =>
      show del n (a :: (n, c) :: q :: B) = a :: (n, c) :: B
      unfold del
      rw [if_neg (hA a (List.mem_cons.mpr (.inl rfl)))]
      exact congrArg (a :: ·) h1
    | cons x r =>
      show del n (a :: x :: (r ++ (n, c) :: q :: B)) = a :: x :: (r ++ (n, c) :: B)
      unfold del
      rw [if_neg (hA a (List.mem_cons.mpr (.inl rfl)))]
      exact congrArg (a :: ·) h1
/-! #### the chain as a whole -/
structure ChOk (s : Cha) (live : List (Int × Int)) : Prop where
  pa : Path s.links (some 0) ((0, -1) :: live)
  so : (live.map (·.2)).Pairwise (· < ·)
  kr : ∀ q ∈ live, 0 ≤ q.2 ∧ q.2 ≤ 999
  nd : (s.links.map (·.1)).Nodup
  nm : ∀ z ∈ s.links.map (·.1), z < s.made
  nw : (s.waits.map (·.1)).Nodup
  lw : ∀ q ∈ (0, -1) :: live, q.1 ∉ s.waits.map (·.1)
  wl : ∀ z ∈ s.waits.map (·.1), z ∈ s.links.map (·.1)
  ln : s.links.length = 1 + live.length + s.waits.length
  bd : s.links.length ≤ 5000
/-- where a number is, or would be -/
structure At (live : List (Int × Int)) (key : Int) (A : List (Int × Int)) (n c : Int) (B : List (Int × Int)) : Prop where
  e : (0, -1) :: live = A ++ (n, c) :: B
  lo : ∀ q ∈ A ++ [(n, c)], q.2 < key
  hi : ∀ q ∈ B, key ≤ q.2
theorem ChOk.so2 {s : Cha} {live : List (Int × Int)} (w : ChOk s live) : (((0, -1) :: live : List (Int × Int)).map (·.2)).Pairwise (· < ·) := by
  rw [List.map_cons]
  refine List.pairwise_cons.mpr ⟨fun z hz => ?_, w.so⟩
  obtain ⟨q, hq, rfl⟩ := List.mem_map.mp hz
  have := (w.kr q hq).1
  show (-1 : Int) < q.2
  omega
theorem At.not_in {s : Cha} {live : List (Int × Int)} {key : Int} {A B : List (Int × Int)} {n c : Int} (w : ChOk s live) (h : At live key A n c B) (k0 : 0 ≤ key) : key ∈ live.map (·.2) ↔ ∃ q r, B = q :: r ∧ q.2 = key := by
  have e := h.e
  have so := w.so2
  rw [e, List.map_append, List.map_cons] at so
  have hB := (List.pairwise_cons.mp (List.pairwise_append.mp so).2.1).2
  have e1 : key ∈ live.map (·.2) ↔ key ∈ ((0, -1) :: live : List (Int × Int)).map (·.2) := by
    rw [List.map_cons, List.mem_cons]
    refine ⟨fun h => .inr h, fun h => h.resolve_left fun z => ?_⟩
    have z : key = -1 := z
    omega
  rw [e1, e, List.map_append, List.map_cons]
  constructor
  · intro hk
    rcases List.mem_append.mp hk with hk | hk
    · obtain ⟨q, hq, e2⟩ := List.mem_map.mp hk
      have := h.lo q (List.mem_append.mpr (.inl hq))
      omega
    · rcases List.mem_cons.mp hk with hk | hk
      · have := h.lo (n, c) (List.mem_append.mpr (.inr (List.mem_singleton.mpr rfl)))
        have : c < key := this
        have hk : key = c := hk
        omega
      · cases B with
        | nil => exact absurd hk List.not_mem_nil
        | cons q r =>
          refine ⟨q, r, rfl, ?_⟩
          rcases List.mem_cons.mp hk with e2 | e2
          · exact e2.symm
          · rw [List.map_cons] at hB
            have h1 := (List.pairwise_cons.mp hB).1 key e2
            have h2 := h.hi q (List.mem_cons.mpr (.inl rfl))
            omega
  · rintro ⟨q, r, rfl, e2⟩
    exact List.mem_append.mpr (.inr (List.mem_cons_of_mem _ (by rw [List.map_cons, ← e2]; exact List.mem_cons.mpr (.inl rfl))))
def sp_lkinit (CL : Addr) : Sp := fun vs H Q _ => ∃ (p dx : Addr) (k : Int) (o : Option Int) (R : List U), vs = [.ref p, .int k, opV o] ∧ Has H ([(p, .ins CL dx [])] :: R) ∧ ∀ H', Has H' ([(p, .ins CL dx (lkF (.int k) (opV o)))] :: R) → Q .non H'
theorem pure_lkinit {K : PySem.W.Frag} {CL : Addr} (hC : LkC K CL) {vs : List V} {H : Hp} {Q : VK} {E : XK} (h : sp_lkinit CL vs H Q E) : t_Link_init K ⟨fun _ H' => Q .non H', Q, fun _ _ => False, fun _ _ => False⟩ (start ["self", "key", "after"] vs) H := by
  obtain ⟨p, dx, k, o, R, rfl, hh, q⟩ := h
  obtain ⟨cl, k1, k2⟩ := hC
  unfold t_Link_init
  walk_at "go"
  rename_i H1 h1 H2 h2
  exact q H2 h2
def sp_chinit (C CL : Addr) : Sp := fun vs H Q _ => ∃ (p dx : Addr) (h : Int) (R : List U), vs = [.ref p, .int h] ∧ Has H ([(p, .ins C dx [])] :: R) ∧ 1 ≤ h ∧ h ≤ 6 ∧
  ∀ la ia aa wa x xd H', Has H' (chaU C CL p ⟨dx, la, ia, aa, wa, h, 1, 0, [(0, ⟨x, xd, -1, none⟩)], [], [], []⟩ :: R) → Q .non H'
theorem pure_chinit {K : PySem.W.Frag} {C CL : Addr} (hC : ChC K C CL) {vs : List V} {H : Hp} {Q : VK} {E : XK} (h : sp_chinit C CL vs H Q E) : t_Chain_init K CL sp_look_number (sp_lkinit CL) ⟨fun _ H' => Q .non H', Q, fun _ _ => False, fun _ _ => False⟩ (start ["self", "hands"] vs) H := by
  obtain ⟨p, dx, h, R, rfl, hh, h1, h6, q⟩ := h
  obtain ⟨cl, n1, n2, n3, n4, n5, n6, n7, cll, k1, k2⟩ := hC
  unfold t_Chain_init
  walk_at "go"
  refine ⟨h, 1, 6, rfl, h1, h6, ?_⟩
  walk_at "go"
  rename_i H1 g1 la H2 g2 x xd H3 g3
  refine ⟨x, xd, -1, none, _, rfl, g3, fun H4 g4 => ⟨rfl, ?_⟩⟩
  clear hh g1 g2 g3
  walk_at "go"
  rename_i H5 g5 H6 g6 H7 g7 H8 g8 ia H9 g9 H10 g10 aa H11 g11 H12 g12 wa H13 g13 H14 g14
  exact q la ia aa wa x xd H14 (ch_in (g14.sub (show Sub ([(p, _)] :: [(la, dI (mv lkR [(0, ⟨x, xd, -1, none⟩)]))] :: [(ia, dI (mv V.int []))] :: [(aa, dI (mv V.int []))] :: [(wa, dI (mv V.int []))] :: famU (obK CL) [(0, ⟨x, xd, -1, none⟩)] :: R) _ by walk_at "sub")))
def sp_place_of (C CL : Addr) : Sp := fun vs H Q _ => ∃ (p : Addr) (s : Cha) (live : List (Int × Int)) (key : Int) (R : List U), vs = [.ref p, .int key] ∧ Has H (chaU C CL p s :: R) ∧ ChOk s live ∧ 0 ≤ key ∧ ∀ A n c B, At live key A n c B → Q (.int n) H
theorem pure_place_of {K : PySem.W.Frag} {C CL : Addr} (hC : ChC K C CL) {vs : List V} {H : Hp} {Q : VK} {E : XK} (h : sp_place_of C CL vs H Q E) : t_Chain_place_of K ⟨fun _ H' => Q .non H', Q, fun _ _ => False, fun _ _ => False⟩ (start ["self", "key", "here", "after"] vs) H := by
  obtain ⟨p, s, live, key, R, rfl, hh, w, kk, q⟩ := h
  obtain ⟨cl, n1, n2, n3, n4, n5, n6, n7, cll, k1, k2⟩ := hC
  replace hh := ch_cut hh
  obtain ⟨l0, f0, _, a0, _⟩ := path_next w.pa
  have v0 : valV (mv lkR s.links) 0 = some (.ref l0.ad) := mv_some f0
  have g0 : H l0.ad = some (.ins CL l0.dx (lkF (.int l0.key) (opV l0.after))) := lk_get (hh.sub (show Sub (famU (obK CL) s.links :: _) _ by walk_at "sub")) f0
  have so := w.so2
  unfold t_Chain_place_of
  walk_at "go"
  refine k_while (fun m σ H' => H' = H ∧ ∃ A n c B, (0, -1) :: live = A ++ (n, c) :: B ∧ (∀ q ∈ A ++ [(n, c)], q.2 < key) ∧ m = B.length ∧ ∃ vo, vo = opV (B.head?.map (·.1)) ∧ σ = [some (.ref p), some (.int key), some (.int n), some vo]) live.length ⟨rfl, [], 0, -1, live, rfl, fun z hz => by rw [List.mem_singleton.mp hz]; show (-1 : Int) < key; omega, rfl, _, by rw [a0], rfl⟩ (fun m σ H' hw => ?_)
  obtain ⟨rfl, A, n, c, B, eB, lo, rfl, vo, ev, rfl⟩ := hw
  cases B with
  | nil =>
    have ev : vo = .non := ev
    subst ev
    refine x_and ?_
    walk_at "go"
    exact q A n c [] ⟨eB, lo, fun z hz => absurd hz List.not_mem_nil⟩
  | cons z B =>
    obtain ⟨m2, c2⟩ := z
    have hp2 : Path s.links (some m2) ((m2, c2) :: B) := path_at (A := A ++ [(n, c)]) (by have := w.pa; rw [eB] at this; simpa using this)
    obtain ⟨l2, f2, e2, a2, _⟩ := path_next hp2
    have v2 : valV (mv lkR s.links) m2 = some (.ref l2.ad) := mv_some f2
    have g2 : H' l2.ad = some (.ins CL l2.dx (lkF (.int l2.key) (opV l2.after))) := lk_get (hh.sub (show Sub (famU (obK CL) s.links :: _) _ by walk_at "sub")) f2
    have ev : vo = .int m2 := ev
    subst ev
    refine x_and ?_
    walk_at "go"
    refine ifD (fun hb => ?_) (fun hb => ?_)
    · rw [e2] at hb
      refine k_wb ?_
      walk_at "go"
      refine ⟨B.length, by simp, rfl, A ++ [(n, c)], m2, c2, B, by rw [eB]; simp, fun z hz => ?_, rfl, _, by rw [a2], rfl⟩
      rcases List.mem_append.mp hz with h | h
      · exact lo z h
      · rw [List.mem_singleton.mp h]; exact hb
    · rw [e2] at hb
      walk_at "go"
      refine q A n c _ ⟨eB, lo, fun z hz => ?_⟩
      rcases List.mem_cons.mp hz with h | h
      · rw [h]; show key ≤ c2; omega
      · rw [eB, List.map_append, List.map_cons, List.map_cons] at so
        have h1 := (List.pairwise_cons.mp (List.pairwise_cons.mp (List.pairwise_append.mp so).2.1).2).1 z.2 (List.mem_map.mpr ⟨z, h, rfl⟩)
        have h1 : c2 < z.2 := h1
        omega
end La
namespace La
open PySem L2 Sy
local macro_rules | `(tactic| walk_at "fl") => `(tactic| first | assumption | exact lk_key | exact lk_after)
local macro_rules | `(tactic| walk_at "put") => `(tactic| first | exact lk_put_key | exact lk_put_after | exact lk_p1 | exact lk_p2)
local macro_rules | `(tactic| walk_at "fsl") => `(tactic| first | assumption | exact lk_len | (show 0 < 1000; decide) | (show 1 < 1000; decide))
local macro_rules | `(tactic| walk_at "fl") => `(tactic| first | assumption | exact ch_hands | exact ch_links | exact ch_made | exact ch_era | exact ch_inside | exact ch_at | exact ch_waits | exact ch_m_place_of | exact ch_m_has | exact ch_m_put | exact ch_m_take_out | exact ch_m_keys_in | exact ch_m_look_hand | exact ch_m_look_in | exact ch_m_start | exact ch_m_step | exact ch_m_stop | exact ch_m_go_on | exact ch_m_walkers | exact ch_m___len__)
local macro_rules | `(tactic| walk_at "put") => `(tactic| first | exact ch_put_hands | exact ch_put_links | exact ch_put_made | exact ch_put_era | exact ch_put_inside | exact ch_put_at | exact ch_put_waits | exact ch_p1 | exact ch_p2 | exact ch_p3 | exact ch_p4 | exact ch_p5 | exact ch_p6 | exact ch_p7)
local macro_rules | `(tactic| walk_at "fsl") => `(tactic| first | assumption | exact ch_len | (show 0 < 1000; decide) | (show 1 < 1000; decide) | (show 2 < 1000; decide) | (show 3 < 1000; decide) | (show 4 < 1000; decide) | (show 5 < 1000; decide) | (show 6 < 1000; decide))
def sp_chhas (C CL : Addr) : Sp := fun vs H Q _ => ∃ (p : Addr) (s : Cha) (live : List (Int × Int)) (key : Int) (R : List U), vs = [.ref p, .int key] ∧ Has H (chaU C CL p s :: R) ∧ ChOk s live ∧ 0 ≤ key ∧ key ≤ 999 ∧ Q (.bl (decide (key ∈ live.map (·.2)))) H
theorem pure_chhas {K : PySem.W.Frag} {C CL : Addr} (hC : ChC K C CL) {vs : List V} {H : Hp} {Q : VK} {E : XK} (h : sp_chhas C CL vs H Q E) : t_Chain_has K C sp_look_number (sp_place_of C CL) ⟨fun _ H' => Q .non H', Q, fun _ _ => False, fun _ _ => False⟩ (start ["self", "key", "after"] vs) H := by
  obtain ⟨p, s, live, key, R, rfl, h0, w, kk, k9, q⟩ := h
  obtain ⟨cl, n1, n2, n3, n4, n5, n6, n7, cll, k1, k2⟩ := hC
  have hh := ch_cut h0
  unfold t_Chain_has
  walk_at "go"
  refine ⟨key, 0, 999, rfl, kk, k9, ?_⟩
  walk_at "go"
  refine ⟨p, s, live, key, R, rfl, h0, w, kk, fun A n c B hA => ?_⟩
  have hni := hA.not_in w kk
  have hpn : Path s.links (some n) ((n, c) :: B) := path_at (A := A) (by have := w.pa; rw [hA.e] at this; exact this)
  obtain ⟨l, f, _, ha, hpB⟩ := path_next hpn
  have v1 : valV (mv lkR s.links) n = some (.ref l.ad) := mv_some f
  have g1 := lk_get (hh.sub (show Sub (famU (obK CL) s.links :: _) _ by walk_at "sub")) f
  rw [ha] at g1 hpB
  cases B with
  | nil =>
    have g1 : H l.ad = some (.ins CL l.dx (lkF (.int l.key) .non)) := g1
    rw [decide_eq_false (fun h => by obtain ⟨_, _, e, _⟩ := hni.mp h; cases e)] at q
    walk_at "go"
    exact q
  | cons z B =>
    obtain ⟨m2, c2⟩ := z
    have g1 : H l.ad = some (.ins CL l.dx (lkF (.int l.key) (.int m2))) := g1
    obtain ⟨l2, f2, e2, _, _⟩ := path_next hpB
    have v2 : valV (mv lkR s.links) m2 = some (.ref l2.ad) := mv_some f2
    have g2 := lk_get (hh.sub (show Sub (famU (obK CL) s.links :: _) _ by walk_at "sub")) f2
    have eq : decide (key ∈ live.map (·.2)) = decide (l2.key = key) := by
      rw [e2]
      exact decide_eq_decide.mpr (hni.trans ⟨fun ⟨q, r, e, h⟩ => by cases e; exact h, fun h => ⟨_, _, rfl, h⟩⟩)
    rw [eq] at q
    walk_at "go"
    exact q
def Cha.put (s : Cha) (n key : Int) (l : Lk) (x xd : Addr) : Cha := { s with links := pu (pu s.links n { l with after := some s.made }) s.made ⟨x, xd, key, l.after⟩, made := s.made + 1 }
def sp_chput (C CL : Addr) : Sp := fun vs H Q _ => ∃ (p : Addr) (s : Cha) (live : List (Int × Int)) (key : Int) (R : List U), vs = [.ref p, .int key] ∧ Has H (chaU C CL p s :: R) ∧ ChOk s live ∧ 0 ≤ key ∧ key ≤ 999 ∧
  (key ∈ live.map (·.2) → Q (.bl false) H) ∧ (¬ key ∈ live.map (·.2) → ∀ A n c B l x xd H', At live key A n c B → fd s.links n = some l → Has H' (chaU C CL p (s.put n key l x xd) :: R) → Q (.bl true) H')
theorem mvL_same {m : Lks} {n : Int} {l l' : Lk} (nd : (m.map (·.1)).Nodup) (h : fd m n = some l) (e : l'.ad = l.ad) : mv lkR (pu m n l') = mv lkR m := by
  obtain ⟨A, B, em, ep, _⟩ := pu_split nd h
  rw [ep, em]
  unfold mv
  rw [List.map_append, List.map_append, List.map_cons, List.map_cons]
  show _ ++ (n, V.ref l'.ad) :: _ = _ ++ (n, V.ref l.ad) :: _
  rw [e]
theorem made_new {s : Cha} {live : List (Int × Int)} (w : ChOk s live) : fd s.links s.made = none := fd_none.mpr fun h => by have := w.nm _ h; omega
theorem pure_chput {K : PySem.W.Frag} {C CL : Addr} (hC : ChC K C CL) {vs : List V} {H : Hp} {Q : VK} {E : XK} (h : sp_chput C CL vs H Q E) : t_Chain_put K C CL (sp_chhas C CL) (sp_place_of C CL) (sp_lkinit CL) ⟨fun _ H' => Q .non H', Q, fun _ _ => False, fun _ _ => False⟩ (start ["self", "key", "ahead"] vs) H := by
  obtain ⟨p, s, live, key, R, rfl, h0, w, kk, k9, q1, q2⟩ := h
  obtain ⟨cl, n1, n2, n3, n4, n5, n6, n7, cll, k1, k2⟩ := hC
  have hp := (ch_cut h0).g0
  have hbd := w.bd
  unfold t_Chain_put
  walk_at "go"
  refine ⟨p, s, live, key, R, rfl, h0, w, kk, k9, ?_⟩
  walk_at "go"
  refine ifD (fun hb => ?_) (fun hb => ?_)
  · walk_at "go"
    exact q1 hb
  have hh := ch_cut h0
  walk_at "go"
  refine ⟨p, s, live, key, R, rfl, h0, w, kk, fun A n c B hA => ?_⟩
  have hpn : Path s.links (some n) ((n, c) :: B) := path_at (A := A) (by have := w.pa; rw [hA.e] at this; exact this)
  obtain ⟨l, f, _, ha, hpB⟩ := path_next hpn
  have v1 : valV (mv lkR s.links) n = some (.ref l.ad) := mv_some f
  obtain ⟨A2, B2, em, ep, _⟩ := pu_split w.nd f
  have e1 : (mv lkR s.links).length < sizeLine := by rw [mv_len, sizeLine_eq]; omega
  unfold chaL at hh
  rw [show famU (obK CL) s.links = famU (obK CL) (A2 ++ (n, l) :: B2) by rw [em]] at hh
  have h1 := fam_out (hh.sub (show Sub (famU (obK CL) (A2 ++ (n, l) :: B2) :: _) _ by walk_at "sub"))
  have h1 : Has H ([(l.ad, .ins CL l.dx (lkF (.int l.key) (opV l.after)))] :: _) := h1
  clear hh hp h0
  walk_at "go"
  rename_i x xd H1 h2
  refine ⟨x, xd, key, l.after, _, rfl, h2, fun H2 h3 => ⟨rfl, ?_⟩⟩
  clear h1 h2
  walk_at "go"
  rename_i H4 h4 H5 h5 H6 h6
  refine q2 hb A n c B l x xd H6 hA f ?_
  rw [show V.ref x = lkR ⟨x, xd, key, l.after⟩ from rfl, mv_put, pu_new _ (made_new w)] at h6
  have hn2 : fd (pu s.links n { l with after := some s.made }) s.made = none := by
    rw [fd_pu, if_neg (fun e => by have := made_new w; rw [e, f] at this; cases this)]
    exact made_new w
  have e2 : mv lkR (s.links ++ [(s.made, (⟨x, xd, key, l.after⟩ : Lk))]) = mv lkR (pu (pu s.links n { l with after := some s.made }) s.made ⟨x, xd, key, l.after⟩) := by
    rw [pu_new _ hn2]
    show (s.links ++ _).map _ = (pu s.links n _ ++ _).map _
    rw [List.map_append, List.map_append]
    exact congrArg (· ++ _) (mvL_same (l' := { l with after := some s.made }) w.nd f rfl).symm
  rw [e2] at h6
  have h7 := fam_in (obs := obK CL) (k := n) (b := { l with after := some s.made }) (h6.sub (show Sub (obK CL { l with after := some s.made } :: famU (obK CL) A2 :: famU (obK CL) B2 :: _) _ by walk_at "sub"))
  have h8 := fam_snoc (obs := obK CL) (k := s.made) (b := ⟨x, xd, key, l.after⟩) (h7.sub (show Sub (obK CL ⟨x, xd, key, l.after⟩ :: famU (obK CL) (A2 ++ (n, { l with after := some s.made }) :: B2) :: _) _ by walk_at "sub"))
  rw [← ep, ← pu_new _ hn2] at h8
  exact ch_in (s := s.put n key l x xd) (h8.sub (show Sub ([(p, _)] :: [(s.la, _)] :: [(s.ia, _)] :: [(s.aa, _)] :: [(s.wa, _)] :: famU (obK CL) (pu (pu s.links n { l with after := some s.made }) s.made ⟨x, xd, key, l.after⟩) :: R) _ by walk_at "sub"))
def Cha.out (s : Cha) (n m : Int) (l l2 : Lk) : Cha := { s with links := pu s.links n { l with after := l2.after }, waits := pu s.waits m s.era }
def sp_chout (C CL : Addr) : Sp := fun vs H Q _ => ∃ (p : Addr) (s : Cha) (live : List (Int × Int)) (key : Int) (R : List U), vs = [.ref p, .int key] ∧ Has H (chaU C CL p s :: R) ∧ ChOk s live ∧ 0 ≤ key ∧ key ≤ 999 ∧
  (¬ key ∈ live.map (·.2) → Q (.bl false) H) ∧ (key ∈ live.map (·.2) → ∀ A n c m B l l2 H', At live key A n c ((m, key) :: B) → fd s.links n = some l → l.after = some m → fd s.links m = some l2 → Has H' (chaU C CL p (s.out n m l l2) :: R) → Q (.bl true) H')
theorem pure_chout {K : PySem.W.Frag} {C CL : Addr} (hC : ChC K C CL) {vs : List V} {H : Hp} {Q : VK} {E : XK} (h : sp_chout C CL vs H Q E) : t_Chain_take_out K C (sp_chhas C CL) (sp_place_of C CL) ⟨fun _ H' => Q .non H', Q, fun _ _ => False, fun _ _ => False⟩ (start ["self", "key", "ahead", "name"] vs) H := by
  obtain ⟨p, s, live, key, R, rfl, h0, w, kk, k9, q1, q2⟩ := h
  obtain ⟨cl, n1, n2, n3, n4, n5, n6, n7, cll, k1, k2⟩ := hC
  have hp := (ch_cut h0).g0
  have hbd := w.bd
  have hln := w.ln
  unfold t_Chain_take_out
  walk_at "go"
  refine ⟨p, s, live, key, R, rfl, h0, w, kk, k9, ?_⟩
  walk_at "go"
  refine ifE (fun hb => ?_) (fun hb => ?_)
  · walk_at "go"
    exact q1 hb
  have hh := ch_cut h0
  walk_at "go"
  refine ⟨p, s, live, key, R, rfl, h0, w, kk, fun A n c B hA => ?_⟩
  obtain ⟨⟨m, c2⟩, B, rfl, hk2⟩ := (hA.not_in w kk).mp hb
  have hk2 : c2 = key := hk2
  subst hk2
  have hpn : Path s.links (some n) ((n, c) :: (m, c2) :: B) := path_at (A := A) (by have := w.pa; rw [hA.e] at this; exact this)
  obtain ⟨l, f, _, ha, hpB⟩ := path_next hpn
  have ha : l.after = some m := ha
  rw [ha] at hpB
  obtain ⟨l2, f2, e2, _, _⟩ := path_next hpB
  have v1 : valV (mv lkR s.links) n = some (.ref l.ad) := mv_some f
  have v2 : valV (mv lkR s.links) m = some (.ref l2.ad) := mv_some f2
  obtain ⟨A2, B2, em, ep, _⟩ := pu_split w.nd f
  have e1 : (mv V.int s.waits).length < sizeLine := by rw [mv_len, sizeLine_eq]; omega
  have g2 := lk_get (hh.sub (show Sub (famU (obK CL) s.links :: _) _ by walk_at "sub")) f2
  unfold chaL at hh
  rw [show famU (obK CL) s.links = famU (obK CL) (A2 ++ (n, l) :: B2) by rw [em]] at hh
  have h1 := fam_out (hh.sub (show Sub (famU (obK CL) (A2 ++ (n, l) :: B2) :: _) _ by walk_at "sub"))
  have h1 : Has H ([(l.ad, .ins CL l.dx (lkF (.int l.key) (opV l.after)))] :: _) := h1
  rw [ha] at h1
  have h1 : Has H ([(l.ad, .ins CL l.dx (lkF (.int l.key) (.int m)))] :: _) := h1
  clear hh hp h0
  walk_at "go"
  rename_i H2 h2 H3 h3
  rw [mv_put] at h3
  refine q2 hb A n c m B l l2 H3 hA f ha f2 ?_
  have h7 := fam_in (obs := obK CL) (k := n) (b := { l with after := l2.after }) (h3.sub (show Sub (obK CL { l with after := l2.after } :: famU (obK CL) A2 :: famU (obK CL) B2 :: _) _ by walk_at "sub"))
  rw [← ep] at h7
  rw [← mvL_same (l' := { l with after := l2.after }) w.nd f rfl] at h7
  exact ch_in (s := s.out n m l l2) (h7.sub (show Sub ([(p, _)] :: [(s.la, _)] :: [(s.ia, _)] :: [(s.aa, _)] :: [(s.wa, _)] :: famU (obK CL) (pu s.links n { l with after := l2.after }) :: R) _ by walk_at "sub"))
def sp_keys_in (C CL : Addr) : Sp := fun vs H Q _ => ∃ (p : Addr) (s : Cha) (live : List (Int × Int)) (R : List U), vs = [.ref p] ∧ Has H (chaU C CL p s :: R) ∧ ChOk s live ∧ ∀ d H', Has H' ([(d, .lst ((live.map (·.2)).map V.int))] :: chaU C CL p s :: R) → Q (.ref d) H'
theorem pure_keys_in {K : PySem.W.Frag} {C CL : Addr} (hC : ChC K C CL) {vs : List V} {H : Hp} {Q : VK} {E : XK} (h : sp_keys_in C CL vs H Q E) : t_Chain_keys_in K ⟨fun _ H' => Q .non H', Q, fun _ _ => False, fun _ _ => False⟩ (start ["self", "found", "here"] vs) H := by
  obtain ⟨p, s, live, R, rfl, h0, w, q⟩ := h
  obtain ⟨cl, n1, n2, n3, n4, n5, n6, n7, cll, k1, k2⟩ := hC
  have hbd := w.bd
  have hln := w.ln
  have hh := ch_cut h0
  clear h0
  obtain ⟨l0, f0, _, a0, _⟩ := path_next w.pa
  have v0 : valV (mv lkR s.links) 0 = some (.ref l0.ad) := mv_some f0
  unfold t_Chain_keys_in
  walk_at "go"
  rename_i d H1 h1
  have g0 := lk_get (h1.sub (show Sub (famU (obK CL) s.links :: _) _ by walk_at "sub")) f0
  clear hh
  walk_at "go"
  refine k_while (fun m σ H' => ∃ A B, live = A ++ B ∧ m = B.length ∧ (∃ vo, vo = opV (B.head?.map (·.1)) ∧ σ = [some (.ref p), some (.ref d), some vo]) ∧ Has H' ([(d, .lst ((A.map (·.2)).map V.int))] :: chaL C CL p s R)) live.length ⟨[], live, rfl, rfl, ⟨_, by rw [a0], rfl⟩, h1⟩ (fun m σ H' hw => ?_)
  obtain ⟨A, B, eB, rfl, ⟨vo, ev, rfl⟩, h'⟩ := hw
  clear h1 g0
  cases B with
  | nil =>
    have ev : vo = .non := ev
    subst ev
    walk_at "go"
    rw [show A = live by rw [eB, List.append_nil]] at h'
    exact q d H' ((ch_in (h'.sub (Sub.p1 (Sub.p1 (Sub.p1 (Sub.p1 (Sub.p1 (Sub.p1 Sub.rf)))))))).sub (Sub.p1 (Sub.p0 Sub.rf)))
  | cons z B =>
    obtain ⟨m2, c2⟩ := z
    have ev : vo = .int m2 := ev
    subst ev
    have hp2 : Path s.links (some m2) ((m2, c2) :: B) := path_at (A := (0, -1) :: A) (by have := w.pa; rw [eB] at this; exact this)
    obtain ⟨l2, f2, e2, a2, _⟩ := path_next hp2
    have v2 : valV (mv lkR s.links) m2 = some (.ref l2.ad) := mv_some f2
    have hl : A.length ≤ live.length := by rw [eB, List.length_append]; omega
    have e1 : ((A.map (·.2)).map V.int).length < sizeLine := by rw [List.length_map, List.length_map, sizeLine_eq]; omega
    walk_at "go"
    refine k_wb ?_
    have g2 := lk_get (h'.sub (show Sub (famU (obK CL) s.links :: _) _ by walk_at "sub")) f2
    walk_at "go"
    rename_i H2 h2
    have g2 := lk_get (h2.sub (show Sub (famU (obK CL) s.links :: _) _ by walk_at "sub")) f2
    clear h'
    walk_at "go"
    refine ⟨B.length, by simp, A ++ [(m2, c2)], B, by rw [eB]; simp, rfl, ⟨_, by rw [a2], rfl⟩, ?_⟩
    rw [show (A.map (·.2)).map V.int ++ [V.int l2.key] = ((A ++ [(m2, c2)]).map (·.2)).map V.int by rw [List.map_append, List.map_append, e2]; rfl] at h2
    exact h2
def sp_chlook_hand (C CL : Addr) : Sp := fun vs H Q _ => ∃ (p : Addr) (s : Cha) (k : Int) (R : List U), vs = [.ref p, .int k] ∧ Has H (chaU C CL p s :: R) ∧ 0 ≤ k ∧ k < s.hands ∧ Q .non H
theorem pure_chlook_hand {K : PySem.W.Frag} {C CL : Addr} (hC : ChC K C CL) {vs : List V} {H : Hp} {Q : VK} {E : XK} (h : sp_chlook_hand C CL vs H Q E) : t_Chain_look_hand K sp_is_whole ⟨fun _ H' => Q .non H', Q, fun _ _ => False, fun _ _ => False⟩ (start ["self", "hand"] vs) H := by
  obtain ⟨p, s, k, R, rfl, hh, c0, c1, q⟩ := h
  obtain ⟨cl, n1, n2, n3, n4, n5, n6, n7, cll, k1, k2⟩ := hC
  replace hh := ch_cut hh
  unfold t_Chain_look_hand
  walk_at "go"
  refine ⟨k, 0, _, rfl, ?_⟩
  rw [decide_eq_true (by omega)]
  walk_at "go"
  exact q
def sp_chlook_in (C CL : Addr) : Sp := fun vs H Q _ => ∃ (p : Addr) (s : Cha) (k : Int) (R : List U), vs = [.ref p, .int k] ∧ Has H (chaU C CL p s :: R) ∧ 0 ≤ k ∧ k < s.hands ∧ (fd s.inside k).isSome = true ∧ Q .non H
theorem pure_chlook_in {K : PySem.W.Frag} {C CL : Addr} (hC : ChC K C CL) {vs : List V} {H : Hp} {Q : VK} {E : XK} (h : sp_chlook_in C CL vs H Q E) : t_Chain_look_in K C (sp_chlook_hand C CL) ⟨fun _ H' => Q .non H', Q, fun _ _ => False, fun _ _ => False⟩ (start ["self", "hand"] vs) H := by
  obtain ⟨p, s, k, R, rfl, h0, c0, c1, hf, q⟩ := h
  obtain ⟨cl, n1, n2, n3, n4, n5, n6, n7, cll, k1, k2⟩ := hC
  have hh := ch_cut h0
  unfold t_Chain_look_in
  walk_at "go"
  refine ⟨p, s, k, R, rfl, h0, c0, c1, ?_⟩
  walk_at "go"
  rw [mv_isSome, hf]
  walk_at "go"
  exact q
def Cha.start (s : Cha) (k : Int) : Cha := { s with inside := pu s.inside k s.era, wh := pu s.wh k 0 }
def sp_chstart (C CL : Addr) : Sp := fun vs H Q _ => ∃ (p : Addr) (s : Cha) (k : Int) (R : List U), vs = [.ref p, .int k] ∧ Has H (chaU C CL p s :: R) ∧ 0 ≤ k ∧ k < s.hands ∧ fd s.inside k = none ∧ s.inside.length ≤ 500 ∧ s.wh.length ≤ 500 ∧ ∀ H', Has H' (chaU C CL p (s.start k) :: R) → Q .non H'
theorem pure_chstart {K : PySem.W.Frag} {C CL : Addr} (hC : ChC K C CL) {vs : List V} {H : Hp} {Q : VK} {E : XK} (h : sp_chstart C CL vs H Q E) : t_Chain_start K C (sp_chlook_hand C CL) ⟨fun _ H' => Q .non H', Q, fun _ _ => False, fun _ _ => False⟩ (start ["self", "hand"] vs) H := by
  obtain ⟨p, s, k, R, rfl, h0, c0, c1, hf, l1, l2, q⟩ := h
  obtain ⟨cl, n1, n2, n3, n4, n5, n6, n7, cll, k1, k2⟩ := hC
  have e1 : (mv V.int s.inside).length < sizeLine := by rw [mv_len, sizeLine_eq]; omega
  have e2 : (mv V.int s.wh).length < sizeLine := by rw [mv_len, sizeLine_eq]; omega
  have hh := ch_cut h0
  unfold t_Chain_start
  walk_at "go"
  refine ⟨p, s, k, R, rfl, h0, c0, c1, ?_⟩
  clear h0
  walk_at "go"
  rw [mv_isSome, hf]
  refine ifF ?_
  walk_at "go"
  rename_i H1 h1 H2 h2
  rw [mv_put, mv_put] at h2
  exact q H2 (ch_in (s := s.start k) h2)
def Cha.stop (s : Cha) (k : Int) : Cha := { s with inside := rm s.inside k, wh := rm s.wh k }
def sp_chstop (C CL : Addr) : Sp := fun vs H Q _ => ∃ (p : Addr) (s : Cha) (k : Int) (R : List U), vs = [.ref p, .int k] ∧ Has H (chaU C CL p s :: R) ∧ 0 ≤ k ∧ k < s.hands ∧ (fd s.inside k).isSome = true ∧ (fd s.wh k).isSome = true ∧ ∀ H', Has H' (chaU C CL p (s.stop k) :: R) → Q .non H'
theorem pure_chstop {K : PySem.W.Frag} {C CL : Addr} (hC : ChC K C CL) {vs : List V} {H : Hp} {Q : VK} {E : XK} (h : sp_chstop C CL vs H Q E) : t_Chain_stop K C (sp_chlook_in C CL) ⟨fun _ H' => Q .non H', Q, fun _ _ => False, fun _ _ => False⟩ (start ["self", "hand"] vs) H := by
  obtain ⟨p, s, k, R, rfl, h0, c0, c1, hf, hg, q⟩ := h
  obtain ⟨cl, n1, n2, n3, n4, n5, n6, n7, cll, k1, k2⟩ := hC
  obtain ⟨b, hb⟩ := Option.isSome_iff_exists.mp hf
  obtain ⟨a, ha⟩ := Option.isSome_iff_exists.mp hg
  have v1 : valV (mv V.int s.inside) k = some (.int b) := mv_some hb
  have v2 : valV (mv V.int s.wh) k = some (.int a) := mv_some ha
  have hh := ch_cut h0
  unfold t_Chain_stop
  walk_at "go"
  refine ⟨p, s, k, R, rfl, h0, c0, c1, hf, ?_⟩
  clear h0
  walk_at "go"
  rename_i H1 h1 H2 h2
  rw [mv_drop, mv_drop] at h2
  exact q H2 (ch_in (s := s.stop k) h2)
def sp_chstep (C CL : Addr) : Sp := fun vs H Q _ => ∃ (p : Addr) (s : Cha) (k a c : Int) (pl : List (Int × Int)) (R : List U), vs = [.ref p, .int k] ∧ Has H (chaU C CL p s :: R) ∧ 0 ≤ k ∧ k < s.hands ∧ (fd s.inside k).isSome = true ∧ fd s.wh k = some a ∧ s.wh.length ≤ 500 ∧ Path s.links (some a) ((a, c) :: pl) ∧
  (pl = [] → ∀ H', Has H' (chaU C CL p (s.stop k) :: R) → Q .non H') ∧ (∀ m c2 r, pl = (m, c2) :: r → ∀ H', Has H' (chaU C CL p { s with wh := pu s.wh k m } :: R) → Q (.int c2) H')
theorem pure_chstep {K : PySem.W.Frag} {C CL : Addr} (hC : ChC K C CL) {vs : List V} {H : Hp} {Q : VK} {E : XK} (h : sp_chstep C CL vs H Q E) : t_Chain_step K C (sp_chlook_in C CL) (sp_chstop C CL) ⟨fun _ H' => Q .non H', Q, fun _ _ => False, fun _ _ => False⟩ (start ["self", "hand", "after"] vs) H := by
  obtain ⟨p, s, k, a, c, pl, R, rfl, h0, c0, c1, hf, ha, l1, hpa, q1, q2⟩ := h
  obtain ⟨cl, n1, n2, n3, n4, n5, n6, n7, cll, k1, k2⟩ := hC
  obtain ⟨l, f, _, hla, hpB⟩ := path_next hpa
  have v1 : valV (mv V.int s.wh) k = some (.int a) := mv_some ha
  have v2 : valV (mv lkR s.links) a = some (.ref l.ad) := mv_some f
  have e1 : (mv V.int s.wh).length < sizeLine := by rw [mv_len, sizeLine_eq]; omega
  have hh := ch_cut h0
  have g1 := lk_get (hh.sub (show Sub (famU (obK CL) s.links :: _) _ by walk_at "sub")) f
  rw [hla] at g1 hpB
  unfold t_Chain_step
  walk_at "go"
  refine ⟨p, s, k, R, rfl, h0, c0, c1, hf, ?_⟩
  cases pl with
  | nil =>
    have g1 : H l.ad = some (.ins CL l.dx (lkF (.int l.key) .non)) := g1
    walk_at "go"
    refine ⟨p, s, k, R, rfl, h0, c0, c1, hf, by rw [ha]; rfl, fun H1 h1 => ?_⟩
    walk_at "go"
    exact q1 rfl H1 h1
  | cons z r =>
    obtain ⟨m, c2⟩ := z
    have g1 : H l.ad = some (.ins CL l.dx (lkF (.int l.key) (.int m))) := g1
    obtain ⟨l2, f2, e2, _, _⟩ := path_next hpB
    have v3 : valV (mv lkR s.links) m = some (.ref l2.ad) := mv_some f2
    clear h0
    walk_at "go"
    rw [mv_isSome, f2]
    refine ifF ?_
    walk_at "go"
    rename_i H1 h1
    rw [mv_put] at h1
    have g2 := lk_get (h1.sub (show Sub (famU (obK CL) s.links :: _) _ by walk_at "sub")) f2
    clear hh
    walk_at "go"
    rw [e2]
    exact q2 m c2 r rfl H1 (ch_in (s := { s with wh := pu s.wh k m }) h1)
def sp_walkers (C CL : Addr) : Sp := fun vs H Q _ => ∃ (p : Addr) (s : Cha) (R : List U), vs = [.ref p] ∧ Has H (chaU C CL p s :: R) ∧ s.inside.length < 64 ∧ ∀ d H', Has H' ([(d, .lst ((srtI (s.inside.map (·.1))).map V.int))] :: chaU C CL p s :: R) → Q (.ref d) H'
theorem pure_walkers {K : PySem.W.Frag} {C CL : Addr} (hC : ChC K C CL) {vs : List V} {H : Hp} {Q : VK} {E : XK} (h : sp_walkers C CL vs H Q E) : t_Chain_walkers K ⟨fun _ H' => Q .non H', Q, fun _ _ => False, fun _ _ => False⟩ (start ["self"] vs) H := by
  obtain ⟨p, s, R, rfl, h0, l1, q⟩ := h
  obtain ⟨cl, n1, n2, n3, n4, n5, n6, n7, cll, k1, k2⟩ := hC
  have hh := ch_cut h0
  have e1 : (mv V.int s.inside).length < 64 := by rw [mv_len]; exact l1
  clear h0
  unfold t_Chain_walkers
  walk_at "go"
  rename_i ys d H1 y1 y2 h1
  rw [mv_keys] at y1
  rw [srtI_eq y1 y2] at h1
  exact q d H1 ((ch_in (h1.sub (Sub.p1 (Sub.p1 (Sub.p1 (Sub.p1 (Sub.p1 (Sub.p1 Sub.rf)))))))).sub (Sub.p1 (Sub.p0 Sub.rf)))
def sp_chlen (C CL : Addr) : Sp := fun vs H Q _ => ∃ (p : Addr) (s : Cha) (R : List U), vs = [.ref p] ∧ Has H (chaU C CL p s :: R) ∧ Q (.int s.links.length) H
theorem pure_chlen {K : PySem.W.Frag} {C CL : Addr} (hC : ChC K C CL) {vs : List V} {H : Hp} {Q : VK} {E : XK} (h : sp_chlen C CL vs H Q E) : t_Chain_len K ⟨fun _ H' => Q .non H', Q, fun _ _ => False, fun _ _ => False⟩ (start ["self"] vs) H := by
  obtain ⟨p, s, R, rfl, h0, q⟩ := h
  obtain ⟨cl, n1, n2, n3, n4, n5, n6, n7, cll, k1, k2⟩ := hC
  have hh := ch_cut h0
  unfold t_Chain_len
  walk_at "go"
  rw [mk_len, mv_len]
  exact q
/-- rounds go on -/
def Cha.free (s : Cha) : Prop := ∀ q ∈ s.inside, q.2 = s.era
def Cha.gone (s : Cha) : List Int := (s.waits.map (·.1)).filter fun z => decide ((fd s.waits z).getD 0 ≤ s.era + 1 - 2)
def Cha.went (s : Cha) : Cha := { s with era := s.era + 1, waits := rms s.waits s.gone, links := rms s.links s.gone }
def sp_chgo (C CL : Addr) : Sp := fun vs H Q _ => ∃ (p : Addr) (s : Cha) (R : List U), vs = [.ref p] ∧ Has H (chaU C CL p s :: R) ∧ (s.inside.map (·.1)).Nodup ∧ (s.waits.map (·.1)).Nodup ∧ (s.links.map (·.1)).Nodup ∧ (∀ z ∈ s.waits.map (·.1), z ∈ s.links.map (·.1)) ∧ s.inside.length ≤ 500 ∧ s.waits.length ≤ 5000 ∧
  (¬ s.free → ∀ H', Has H' (chaU C CL p s :: R) → Q .non H') ∧ (s.free → ∀ H', Has H' (chaU C CL p s.went :: R) → Q (.int s.gone.length) H')
theorem rms_has {β : Type} {m : List (Int × β)} {ks : List Int} {k : Int} (h : k ∈ m.map (·.1)) (hk : k ∉ ks) : (fd (rms m ks) k).isSome = true := by
  rw [fd_isSome]
  obtain ⟨q, hq, e⟩ := List.mem_map.mp h
  exact List.mem_map.mpr ⟨q, List.mem_filter.mpr ⟨hq, by rw [e]; simpa using hk⟩, e⟩
theorem rms_sub {β : Type} (m : List (Int × β)) (ks : List Int) : (rms m ks).Sublist m := List.filter_sublist
theorem pure_chgo {K : PySem.W.Frag} {C CL : Addr} (hC : ChC K C CL) {vs : List V} {H : Hp} {Q : VK} {E : XK} (h : sp_chgo C CL vs H Q E) : t_Chain_go_on K ⟨fun _ H' => Q .non H', Q, fun _ _ => False, fun _ _ => False⟩ (start ["self", "hand", "found", "name"] vs) H := by
  obtain ⟨p, s, R, rfl, h0, ni, nw, nl, wl, l1, l2, q1, q2⟩ := h
  obtain ⟨cl, n1, n2, n3, n4, n5, n6, n7, cll, k1, k2⟩ := hC
  have hh := ch_cut h0
  clear h0
  unfold t_Chain_go_on
  walk_at "go"
  refine x_lcD (d := s.ia) (fun z => .bl (decide ((fd s.inside z).getD 0 = s.era))) (fun _ => true) (hh.sub (show Sub ([(s.ia, _)] :: _) _ by walk_at "sub")) (by rw [mv_len]; omega) (fun o H' Q' h' q' => ?_) (fun o z hz D M H' Q' h' q' => q' H' h') (fun o z hz _ D M H' Q' h' q' => ?_) fun D H1 h1 => ?_
  · walk_at "go"
    exact q'
  · rw [mv_keys] at hz
    obtain ⟨e, he⟩ := Option.isSome_iff_exists.mp (fd_isSome.mpr hz)
    have hv : valV (mv V.int s.inside) z = some (.int e) := mv_some he
    rw [he] at q'
    walk_at "go"
    exact q' H' h'
  have eb : ((mv V.int s.inside).map (·.1)).filter (fun _ => true) = s.inside.map (·.1) := by rw [filt_true, mv_keys]
  have eb2 : (s.inside.map (·.1)).map (fun z => V.bl (decide ((fd s.inside z).getD 0 = s.era))) = ((s.inside.map (·.1)).map fun z => decide ((fd s.inside z).getD 0 = s.era)).map V.bl := by rw [List.map_map (g := V.bl)]; rfl
  rw [eb, eb2] at h1
  clear hh
  walk_at "go"
  have ef : (((s.inside.map (·.1)).map fun z => decide ((fd s.inside z).getD 0 = s.era)).all id = true) ↔ s.free := by
    rw [List.all_map, List.all_map, List.all_eq_true]
    constructor
    · intro hA q hq
      have h4 : decide ((fd s.inside q.1).getD 0 = s.era) = true := hA q hq
      rw [fd_of ni (show (q.1, q.2) ∈ s.inside from hq)] at h4
      simpa using h4
    · intro hA q hq
      show decide ((fd s.inside q.1).getD 0 = s.era) = true
      rw [fd_of ni (show (q.1, q.2) ∈ s.inside from hq)]
      simpa using hA q hq
  refine ifB (fun hb => ?_) (fun hb => ?_)
  · have hnf : ¬ s.free := fun z => by rw [ef.mpr z] at hb; cases hb
    walk_at "go"
    exact q1 hnf H1 (ch_in (h1.sub (show Sub ([(p, _)] :: [(s.la, _)] :: [(s.ia, _)] :: [(s.aa, _)] :: [(s.wa, _)] :: famU (obK CL) s.links :: R) _ by walk_at "sub")))
  · have hf : s.free := ef.mp (by simpa using hb)
    walk_at "go"
    rename_i H2 h2
    clear h1
    refine x_asgD (d := s.wa) (fun z => .int z) (fun z => decide ((fd s.waits z).getD 0 ≤ s.era + 1 - 2)) (h2.sub (show Sub ([(s.wa, dI (mv V.int s.waits))] :: _) _ by walk_at "sub")) (by rw [mv_len]; omega) (fun o H' Q' h' q' => ?_) (fun o z hz D M H' Q' h' q' => ?_) (fun o z hz _ D M H' Q' h' q' => ?_) fun f H4 h4 => ?_
    · walk_at "go"
      exact q'
    · rw [mv_keys] at hz
      obtain ⟨e, he⟩ := Option.isSome_iff_exists.mp (fd_isSome.mpr hz)
      have hv : valV (mv V.int s.waits) z = some (.int e) := mv_some he
      rw [he] at q'
      walk_at "go"
      exact q' H' h'
    · walk_at "go"
      exact q' H' h'
    · rw [mv_keys] at h4
      have eg : (s.waits.map (·.1)).filter (fun z => decide ((fd s.waits z).getD 0 ≤ s.era + 1 - 2)) = s.gone := rfl
      rw [eg] at h4
      have hgn : s.gone.Nodup := (List.filter_sublist).nodup nw
      have hgm : ∀ k ∈ s.gone, k ∈ s.waits.map (·.1) := fun k hk => (List.mem_filter.mp hk).1
      clear h2
      walk_at "go"
      refine k_forL (fun i σ H' => ∃ v : Option V, σ = [some (.ref p), none, some (.ref f), v] ∧ Has H' ([(f, .lst (s.gone.map V.int))] :: chaL C CL p { s with era := s.era + 1, waits := rms s.waits (s.gone.take i), links := rms s.links (s.gone.take i) } R)) (by walk_at "hp") ⟨none, rfl, ?_⟩ ?_ ?_ ?_
      · rw [List.take_zero]
        show Has H4 ([(f, .lst (s.gone.map V.int))] :: [(p, _)] :: [(s.la, dI (mv lkR (rms s.links [])))] :: [(s.ia, _)] :: [(s.aa, _)] :: [(s.wa, dI (mv V.int (rms s.waits [])))] :: famU (obK CL) (rms s.links []) :: R)
        rw [rms_nil, rms_nil]
        exact h4.sub (show Sub ([(f, _)] :: [(p, _)] :: [(s.la, _)] :: [(s.ia, _)] :: [(s.aa, _)] :: [(s.wa, _)] :: famU (obK CL) s.links :: R) _ by walk_at "sub")
      · rintro i σ H' ⟨v, rfl, h'⟩
        walk_at "hp"
      · rintro i y σ H' hi ⟨v, rfl, h'⟩
        rw [List.getElem?_map] at hi
        obtain ⟨k, hk1, rfl⟩ := Option.map_eq_some_iff.mp hi
        have hm : k ∈ s.gone := List.mem_of_getElem? hk1
        have et : s.gone.take (i + 1) = s.gone.take i ++ [k] := by rw [List.take_add_one, hk1]; rfl
        have hnt : k ∉ s.gone.take i := fun z => by
          have h2 : (s.gone.take i ++ [k]).Nodup := et ▸ ((List.take_sublist (i + 1) s.gone).nodup hgn)
          rw [List.nodup_append] at h2
          exact h2.2.2 k z k (List.mem_singleton.mpr rfl) rfl
        obtain ⟨b, hb2⟩ := Option.isSome_iff_exists.mp (rms_has (m := s.waits) (hgm k hm) hnt)
        obtain ⟨l, hl2⟩ := Option.isSome_iff_exists.mp (rms_has (m := s.links) (wl k (hgm k hm)) hnt)
        have hv : valV (mv V.int (rms s.waits (s.gone.take i))) k = some (.int b) := mv_some hb2
        have hv2 : valV (mv lkR (rms s.links (s.gone.take i))) k = some (.ref l.ad) := mv_some hl2
        obtain ⟨A, B, em, _, er⟩ := pu_split (((rms_sub s.links _).map _).nodup nl) hl2
        have h' : Has H' ([(f, .lst (s.gone.map V.int))] :: [(p, .ins C s.dx (chF (.int s.hands) (.ref s.la) (.int s.made) (.int (s.era + 1)) (.ref s.ia) (.ref s.aa) (.ref s.wa)))] :: [(s.la, dI (mv lkR (rms s.links (s.gone.take i))))] :: [(s.ia, dI (mv V.int s.inside))] :: [(s.aa, dI (mv V.int s.wh))] :: [(s.wa, dI (mv V.int (rms s.waits (s.gone.take i))))] :: famU (obK CL) (rms s.links (s.gone.take i)) :: R) := h'
        walk_at "go"
        rename_i H5 h5 H6 h6
        refine ⟨_, rfl, ?_⟩
        rw [mv_drop, mv_drop, rms_snoc, rms_snoc, ← et, show famU (obK CL) (rms s.links (s.gone.take i)) = famU (obK CL) (A ++ (k, l) :: B) by rw [em]] at h6
        have h7 := fam_out (h6.sub (show Sub (famU (obK CL) (A ++ (k, l) :: B) :: _) _ by walk_at "sub"))
        have h8 := fam_two (h7.sub (show Sub (famU (obK CL) A :: famU (obK CL) B :: _) _ from Sub.skip Sub.rf))
        rw [← er, rms_snoc, ← et] at h8
        exact h8.sub (show Sub ([(f, _)] :: [(p, _)] :: [(s.la, _)] :: [(s.ia, _)] :: [(s.aa, _)] :: [(s.wa, _)] :: famU (obK CL) (rms s.links (s.gone.take (i + 1))) :: R) _ by walk_at "sub")
      · rintro σ H' ⟨v, rfl, h'⟩
        have e : s.gone.take (s.gone.map V.int).length = s.gone := List.take_of_length_le (by rw [List.length_map]; exact Nat.le_refl _)
        rw [e] at h'
        walk_at "go"
        rw [List.length_map]
        exact q2 hf H' (ch_in (s := s.went) (h'.sub (Sub.skip Sub.rf)))
end La
namespace La
open PySem L2 Sy
local macro_rules | `(tactic| walk_at "fl") => `(tactic| first | assumption | exact lk_key | exact lk_after)
local macro_rules | `(tactic| walk_at "put") => `(tactic| first | exact lk_put_key | exact lk_put_after | exact lk_p1 | exact lk_p2)
local macro_rules | `(tactic| walk_at "fsl") => `(tactic| first | assumption | exact lk_len | (show 0 < 1000; decide) | (show 1 < 1000; decide))
local macro_rules | `(tactic| walk_at "fl") => `(tactic| first | assumption | exact ch_hands | exact ch_links | exact ch_made | exact ch_era | exact ch_inside | exact ch_at | exact ch_waits | exact ch_m_place_of | exact ch_m_has | exact ch_m_put | exact ch_m_take_out | exact ch_m_keys_in | exact ch_m_look_hand | exact ch_m_look_in | exact ch_m_start | exact ch_m_step | exact ch_m_stop | exact ch_m_go_on | exact ch_m_walkers | exact ch_m___len__)
local macro_rules | `(tactic| walk_at "put") => `(tactic| first | exact ch_put_hands | exact ch_put_links | exact ch_put_made | exact ch_put_era | exact ch_put_inside | exact ch_put_at | exact ch_put_waits | exact ch_p1 | exact ch_p2 | exact ch_p3 | exact ch_p4 | exact ch_p5 | exact ch_p6 | exact ch_p7)
local macro_rules | `(tactic| walk_at "fsl") => `(tactic| first | assumption | exact ch_len | (show 0 < 1000; decide) | (show 1 < 1000; decide) | (show 2 < 1000; decide) | (show 3 < 1000; decide) | (show 4 < 1000; decide) | (show 5 < 1000; decide) | (show 6 < 1000; decide))
/-! #### what deeds do to a chain, in numbers -/
section
variable {s : Cha} {live : List (Int × Int)} {key : Int} {A B : List (Int × Int)} {n c m : Int} {l l2 : Lk} {x xd : Addr}
theorem pu_len_old {κ β : Type} [DecidableEq κ] {m : List (κ × β)} {k : κ} {b b' : β} (h : fd m k = some b) : (pu m k b').length = m.length := by
  unfold pu
  rw [if_pos (by rw [h]; rfl), List.length_map]
theorem pu_keys_mem {β : Type} {m : List (Int × β)} {k z : Int} {b : β} (h : z ∈ (pu m k b).map (·.1)) : z ∈ m.map (·.1) ∨ z = k := by
  obtain ⟨q, hq, e⟩ := List.mem_map.mp h
  rcases pu_mem hq with h1 | h1
  · exact .inl (List.mem_map.mpr ⟨q, h1, e⟩)
  · rw [h1] at e; exact .inr e.symm
theorem keys_pu_mem {β : Type} {m : List (Int × β)} {k z : Int} {b : β} (h : z ∈ m.map (·.1) ∨ z = k) : z ∈ (pu m k b).map (·.1) := by
  rw [← fd_isSome, fd_pu]
  by_cases e : z = k
  · rw [if_pos e]; rfl
  · rw [if_neg e]; exact fd_isSome.mpr (h.resolve_right e)
/-- the same name, the same number -/
theorem ChOk.same (w : ChOk s live) {q r : Int × Int} (hq : q ∈ (0, -1) :: live) (hr : r ∈ (0, -1) :: live) (e : q.1 = r.1) : q.2 = r.2 := by
  obtain ⟨l1, f1, e1⟩ := path_mem w.pa q hq
  obtain ⟨l2, f2, e2⟩ := path_mem w.pa r hr
  rw [e, f2] at f1
  have := Option.some.inj f1
  subst this
  rw [← e1, ← e2]
theorem At.names (w : ChOk s live) (h : At live key A n c B) : (∀ q ∈ A, q.1 ≠ n) ∧ (∀ q ∈ B, q.1 ≠ n) := by
  have so := w.so2
  have hm : ∀ q ∈ A ++ (n, c) :: B, q ∈ ((0, -1) :: live : List (Int × Int)) := fun q hq => by rw [h.e]; exact hq
  have hn := hm (n, c) (List.mem_append.mpr (.inr (List.mem_cons.mpr (.inl rfl))))
  rw [h.e, List.map_append, List.map_cons] at so
  have h1 := List.pairwise_append.mp so
  refine ⟨fun q hq e => ?_, fun q hq e => ?_⟩
  · have h2 := h1.2.2 q.2 (List.mem_map.mpr ⟨q, hq, rfl⟩) c (List.mem_cons.mpr (.inl rfl))
    have h3 := w.same (hm q (List.mem_append.mpr (.inl hq))) hn e
    have h3 : q.2 = c := h3
    omega
  · have h2 := (List.pairwise_cons.mp h1.2.1).1 q.2 (List.mem_map.mpr ⟨q, hq, rfl⟩)
    have h2 : c < q.2 := h2
    have h3 := w.same (hm q (List.mem_append.mpr (.inr (List.mem_cons_of_mem _ hq)))) hn e
    have h3 : q.2 = c := h3
    omega
theorem fd_put (hf : fd s.links n = some l) (hm : fd s.links s.made = none) (key : Int) (x xd : Addr) : fd (s.put n key l x xd).links n = some { l with after := some s.made } ∧ fd (s.put n key l x xd).links s.made = some ⟨x, xd, key, l.after⟩ ∧ ∀ j, j ≠ n → j ≠ s.made → fd (s.put n key l x xd).links j = fd s.links j := by
  have hne : n ≠ s.made := fun e => by rw [← e, hf] at hm; cases hm
  show fd (pu (pu s.links n _) s.made _) n = _ ∧ fd (pu (pu s.links n _) s.made _) s.made = _ ∧ ∀ j, j ≠ n → j ≠ s.made → fd (pu (pu s.links n _) s.made _) j = _
  refine ⟨?_, ?_, fun j h1 h2 => ?_⟩
  · rw [fd_pu, if_neg hne, fd_pu, if_pos rfl]
  · rw [fd_pu, if_pos rfl]
  · rw [fd_pu, if_neg h2, fd_pu, if_neg h1]
theorem put_len' (hf : fd s.links n = some l) (hm : fd s.links s.made = none) (key : Int) (x xd : Addr) : (s.put n key l x xd).links.length = s.links.length + 1 := by
  have hne : s.made ≠ n := fun e => by rw [e, hf] at hm; cases hm
  show (pu (pu s.links n _) s.made _).length = _
  rw [pu_new _ (by rw [fd_pu, if_neg hne]; exact hm), List.length_append, pu_len_old hf]
  rfl
/-- what is in the chain once a number was put in -/
theorem ChOk.put (w : ChOk s live) (h : At live key A n c B) (hf : fd s.links n = some l) (k0 : 0 ≤ key) (k9 : key ≤ 999) (hk : ¬ key ∈ live.map (·.2)) (bd : s.links.length < 5000) (x xd : Addr) :
    ∃ live', (0, -1) :: live' = A ++ (n, c) :: (s.made, key) :: B ∧ ChOk (s.put n key l x xd) live' ∧ (∀ q, q ∈ live' ↔ q ∈ live ∨ q = (s.made, key)) ∧ live'.length = live.length + 1 := by
  obtain ⟨live', e'⟩ : ∃ live', (0, -1) :: live' = A ++ (n, c) :: (s.made, key) :: B := by
    have e := h.e
    cases A with
    | nil =>
      have e : (0, -1) :: live = (n, c) :: B := e
      injection e with e1 e2
      exact ⟨(s.made, key) :: B, by rw [e1]; rfl⟩
    | cons a A' =>
      have e : (0, -1) :: live = a :: (A' ++ (n, c) :: B) := e
      injection e with e1 e2
      exact ⟨A' ++ (n, c) :: (s.made, key) :: B, by rw [e1]; rfl⟩
  have hmn := made_new w
  obtain ⟨f1, f2, f3⟩ := fd_put hf hmn key x xd
  obtain ⟨nA, nB⟩ := h.names w
  have so := w.so2
  have hi : ∀ q ∈ B, key < q.2 := fun q hq => by
    have h1 := h.hi q hq
    have h2 : q.2 ≠ key := fun e => hk (by
      rw [← e]
      have : q ∈ ((0, -1) :: live : List (Int × Int)) := by rw [h.e]; exact List.mem_append.mpr (.inr (List.mem_cons_of_mem _ hq))
      rcases List.mem_cons.mp this with z | z
      · rw [z] at h1
        have h1 : key ≤ -1 := h1
        omega
      · exact List.mem_map.mpr ⟨q, z, rfl⟩)
    omega
  have hmem : ∀ q, q ∈ live' ↔ q ∈ live ∨ q = (s.made, key) := by
    have hnot : ∀ q ∈ live', q ≠ ((0, -1) : Int × Int) := by
      have so' : (((0, -1) :: live' : List (Int × Int)).map (·.2)).Pairwise (· < ·) := by
        rw [e', List.map_append, List.map_cons, List.map_cons]
        rw [h.e, List.map_append, List.map_cons] at so
        obtain ⟨p1, p2, p3⟩ := List.pairwise_append.mp so
        obtain ⟨p4, p5⟩ := List.pairwise_cons.mp p2
        refine List.pairwise_append.mpr ⟨p1, List.pairwise_cons.mpr ⟨fun z hz => ?_, List.pairwise_cons.mpr ⟨fun z hz => ?_, p5⟩⟩, fun a ha b hb => ?_⟩
        · rcases List.mem_cons.mp hz with z1 | z1
          · rw [z1]; exact h.lo (n, c) (List.mem_append.mpr (.inr (List.mem_singleton.mpr rfl)))
          · exact p4 z z1
        · obtain ⟨q, hq, rfl⟩ := List.mem_map.mp hz
          exact hi q hq
        · rcases List.mem_cons.mp hb with z1 | z1
          · exact p3 a ha b (List.mem_cons.mpr (.inl z1))
          · rcases List.mem_cons.mp z1 with z2 | z2
            · obtain ⟨q, hq, rfl⟩ := List.mem_map.mp ha
              rw [z2]
              exact h.lo q (List.mem_append.mpr (.inl hq))
            · exact p3 a ha b (List.mem_cons_of_mem _ z2)
      intro q hq e
      rw [List.map_cons] at so'
      have := (List.pairwise_cons.mp so').1 q.2 (List.mem_map.mpr ⟨q, hq, rfl⟩)
      rw [e] at this
      exact absurd this (by decide)
    have hnot0 : ∀ q ∈ live, q ≠ ((0, -1) : Int × Int) := fun q hq e => by
      have := (w.kr q hq).1
      rw [e] at this
      exact absurd this (by decide)
    have hne : ((s.made, key) : Int × Int) ≠ (0, -1) := fun e => by
      have : key = -1 := congrArg Prod.snd e
      omega
    intro q
    have a1 : q ∈ ((0, -1) :: live' : List (Int × Int)) ↔ q ∈ ((0, -1) :: live : List (Int × Int)) ∨ q = (s.made, key) := by
      rw [e', h.e]
      simp only [List.mem_append, List.mem_cons]
      constructor
      · rintro (h | h | h | h)
        · exact .inl (.inl h)
        · exact .inl (.inr (.inl h))
        · exact .inr h
        · exact .inl (.inr (.inr h))
      · rintro ((h | h | h) | h)
        · exact .inl h
        · exact .inr (.inl h)
        · exact .inr (.inr (.inr h))
        · exact .inr (.inr (.inl h))
    constructor
    · intro hq
      rcases a1.mp (List.mem_cons_of_mem _ hq) with z | z
      · rcases List.mem_cons.mp z with z | z
        · exact absurd z (hnot q hq)
        · exact .inl z
      · exact .inr z
    · intro hq
      have : q ∈ ((0, -1) :: live' : List (Int × Int)) := a1.mpr (hq.imp (List.mem_cons_of_mem _) id)
      rcases List.mem_cons.mp this with z | z
      · rcases hq with hq | hq
        · exact absurd z (hnot0 q hq)
        · rw [hq] at z; exact absurd z hne
      · exact z
  have hlen : live'.length = live.length + 1 := by
    have h1 := congrArg List.length e'
    have h2 := congrArg List.length h.e
    simp only [List.length_cons, List.length_append] at h1 h2
    omega
  refine ⟨live', e', ⟨?_, ?_, fun q hq => ?_, ?_, fun z hz => ?_, w.nw, fun q hq => ?_, fun z hz => ?_, ?_, ?_⟩, hmem, hlen⟩
  · rw [e', ← ins_mid (m := s.made) (k := key) nA nB, ← h.e]
    exact path_ins hf hmn f1 f2 rfl rfl f3 w.pa
  · have so' : (((0, -1) :: live' : List (Int × Int)).map (·.2)).Pairwise (· < ·) := by
      rw [e', List.map_append, List.map_cons, List.map_cons]
      rw [h.e, List.map_append, List.map_cons] at so
      obtain ⟨p1, p2, p3⟩ := List.pairwise_append.mp so
      obtain ⟨p4, p5⟩ := List.pairwise_cons.mp p2
      refine List.pairwise_append.mpr ⟨p1, List.pairwise_cons.mpr ⟨fun z hz => ?_, List.pairwise_cons.mpr ⟨fun z hz => ?_, p5⟩⟩, fun a ha b hb => ?_⟩
      · rcases List.mem_cons.mp hz with z1 | z1
        · rw [z1]; exact h.lo (n, c) (List.mem_append.mpr (.inr (List.mem_singleton.mpr rfl)))
        · exact p4 z z1
      · obtain ⟨q, hq, rfl⟩ := List.mem_map.mp hz
        exact hi q hq
      · rcases List.mem_cons.mp hb with z1 | z1
        · exact p3 a ha b (List.mem_cons.mpr (.inl z1))
        · rcases List.mem_cons.mp z1 with z2 | z2
          · obtain ⟨q, hq, rfl⟩ := List.mem_map.mp ha
            rw [z2]
            exact h.lo q (List.mem_append.mpr (.inl hq))
          · exact p3 a ha b (List.mem_cons_of_mem _ z2)
    rw [List.map_cons] at so'
    exact (List.pairwise_cons.mp so').2
  · rcases (hmem q).mp hq with z | z
    · exact w.kr q z
    · rw [z]; exact ⟨k0, k9⟩
  · exact pu_nd _ (pu_nd _ w.nd)
  · show z < s.made + 1
    rcases pu_keys_mem hz with z1 | z1
    · rcases pu_keys_mem z1 with z2 | z2
      · have := w.nm z z2; omega
      · have := w.nm n (fd_isSome.mp (by rw [hf]; rfl)); omega
    · omega
  · have hq2 : q ∈ ((0, -1) :: live : List (Int × Int)) ∨ q = (s.made, key) := by
      rcases List.mem_cons.mp hq with z | z
      · exact .inl (List.mem_cons.mpr (.inl z))
      · exact ((hmem q).mp z).imp (List.mem_cons_of_mem _) id
    rcases hq2 with z | z
    · exact w.lw q z
    · rw [z]
      intro z2
      have := w.nm _ (w.wl _ z2)
      have : s.made < s.made := this
      omega
  · exact keys_pu_mem (.inl (keys_pu_mem (.inl (w.wl z hz))))
  · rw [put_len' hf hmn, hlen]
    have := w.ln
    show _ = 1 + (live.length + 1) + s.waits.length
    omega
  · rw [put_len' hf hmn]; omega
/-- .. once a number was taken out -/
theorem ChOk.out (w : ChOk s live) (h : At live key A n c ((m, key) :: B)) (hf : fd s.links n = some l) (hl : l.after = some m) (hm : fd s.links m = some l2) :
    ∃ live', (0, -1) :: live' = A ++ (n, c) :: B ∧ ChOk (s.out n m l l2) live' ∧ (∀ q, q ∈ live' ↔ q ∈ live ∧ q.2 ≠ key) ∧ live.length = live'.length + 1 ∧ fd s.waits m = none := by
  obtain ⟨live', e'⟩ : ∃ live', (0, -1) :: live' = A ++ (n, c) :: B := by
    have e := h.e
    cases A with
    | nil =>
      have e : (0, -1) :: live = (n, c) :: (m, key) :: B := e
      injection e with e1 e2
      exact ⟨B, by rw [e1]; rfl⟩
    | cons a A' =>
      have e : (0, -1) :: live = a :: (A' ++ (n, c) :: (m, key) :: B) := e
      injection e with e1 e2
      exact ⟨A' ++ (n, c) :: B, by rw [e1]; rfl⟩
  obtain ⟨nA, nB⟩ := h.names w
  have so := w.so2
  have hsub : ((0, -1) :: live' : List (Int × Int)).Sublist ((0, -1) :: live) := by
    rw [e', h.e]
    exact List.Sublist.append_left (List.Sublist.cons_cons _ (List.sublist_cons_self _ _)) A
  have hsub2 : live'.Sublist live := hsub.of_cons_cons
  have hmw : m ∉ s.waits.map (·.1) := w.lw (m, key) (by rw [h.e]; simp)
  have hk0 : (m, key) ∈ live := by
    have : ((m, key) : Int × Int) ∈ ((0, -1) :: live : List (Int × Int)) := by rw [h.e]; simp
    rcases List.mem_cons.mp this with z | z
    · have e1 : key = -1 := congrArg Prod.snd z
      have := h.lo (n, c) (by simp)
      have : c < key := this
      have hc : (n, c) ∈ ((0, -1) :: live : List (Int × Int)) := by rw [h.e]; simp
      rcases List.mem_cons.mp hc with z2 | z2
      · have : c = -1 := congrArg Prod.snd z2
        omega
      · have := (w.kr _ z2).1
        have : 0 ≤ c := this
        omega
    · exact z
  have hkr := (w.kr _ hk0).1
  have hkr : 0 ≤ key := hkr
  have so3 := so
  rw [h.e, List.map_append, List.map_cons, List.map_cons] at so3
  obtain ⟨p1, p2, p3⟩ := List.pairwise_append.mp so3
  obtain ⟨p4, p5⟩ := List.pairwise_cons.mp p2
  obtain ⟨p6, p7⟩ := List.pairwise_cons.mp p5
  have hmem : ∀ q, q ∈ live' ↔ q ∈ live ∧ q.2 ≠ key := fun q => by
    constructor
    · intro hq
      refine ⟨hsub2.subset hq, fun e => ?_⟩
      have : q ∈ ((0, -1) :: live' : List (Int × Int)) := List.mem_cons_of_mem _ hq
      rw [e'] at this
      rcases List.mem_append.mp this with z | z
      · have := h.lo q (List.mem_append.mpr (.inl z)); omega
      · rcases List.mem_cons.mp z with z | z
        · have := h.lo (n, c) (by simp)
          have : c < key := this
          rw [z] at e
          have e : c = key := e
          omega
        · have := p6 q.2 (List.mem_map.mpr ⟨q, z, rfl⟩)
          have : key < q.2 := this
          omega
    · rintro ⟨hq, e⟩
      have : q ∈ ((0, -1) :: live : List (Int × Int)) := List.mem_cons_of_mem _ hq
      rw [h.e] at this
      have h2 : q ∈ ((0, -1) :: live' : List (Int × Int)) := by
        rw [e']
        rcases List.mem_append.mp this with z | z
        · exact List.mem_append.mpr (.inl z)
        · rcases List.mem_cons.mp z with z | z
          · exact List.mem_append.mpr (.inr (List.mem_cons.mpr (.inl z)))
          · rcases List.mem_cons.mp z with z | z
            · rw [z] at e; exact absurd rfl e
            · exact List.mem_append.mpr (.inr (List.mem_cons_of_mem _ z))
      rcases List.mem_cons.mp h2 with z | z
      · have := (w.kr q hq).1
        rw [z] at this
        exact absurd this (by decide)
      · exact z
  have hlen : live.length = live'.length + 1 := by
    have h1 := congrArg List.length e'
    have h2 := congrArg List.length h.e
    simp only [List.length_cons, List.length_append] at h1 h2
    omega
  have fw : fd s.waits m = none := fd_none.mpr hmw
  have f1 : fd (s.out n m l l2).links n = some { l with after := l2.after } := by show fd (pu s.links n _) n = _; rw [fd_pu, if_pos rfl]
  have f3 : ∀ j, j ≠ n → fd (s.out n m l l2).links j = fd s.links j := fun j hj => by show fd (pu s.links n _) j = _; rw [fd_pu, if_neg hj]
  have hwk : ∀ z, z ∈ (s.out n m l l2).waits.map (·.1) ↔ z ∈ s.waits.map (·.1) ∨ z = m := fun z => ⟨pu_keys_mem, keys_pu_mem⟩
  refine ⟨live', e', ⟨?_, w.so.sublist (hsub2.map _), fun q hq => w.kr q (hsub2.subset hq), pu_nd _ w.nd, fun z hz => ?_, pu_nd _ w.nw, fun q hq hz => ?_, fun z hz => ?_, ?_, ?_⟩, hmem, hlen, fw⟩
  · rw [e', ← del_mid (q := (m, key)) nA (fun q hq => nB q (List.mem_cons_of_mem _ hq)), ← h.e]
    exact path_del hf hl hm f1 f3 _ _ w.pa
  · rcases pu_keys_mem hz with z1 | z1
    · exact w.nm z z1
    · rw [z1]; exact w.nm n (fd_isSome.mp (by rw [hf]; rfl))
  · rcases (hwk q.1).mp hz with z | z
    · exact w.lw q (hsub.subset hq) z
    · have h1 := w.same (hsub.subset hq) (List.mem_cons_of_mem _ hk0) z
      have h1 : q.2 = key := h1
      rcases List.mem_cons.mp hq with z2 | z2
      · rw [z2] at h1
        have h1 : (-1 : Int) = key := h1
        omega
      · exact ((hmem q).mp z2).2 h1
  · refine keys_pu_mem (.inl ?_)
    rcases (hwk z).mp hz with z1 | z1
    · exact w.wl z z1
    · rw [z1]; exact fd_isSome.mp (by rw [hm]; rfl)
  · show (pu s.links n _).length = 1 + live'.length + (pu s.waits m s.era).length
    rw [pu_len_old hf, pu_new _ fw, List.length_append]
    have := w.ln
    show _ = _ + (s.waits.length + 1)
    omega
  · show (pu s.links n _).length ≤ _
    rw [pu_len_old hf]
    exact w.bd
theorem rms_len {β : Type} {m : List (Int × β)} {ks : List Int} (nd : (m.map (·.1)).Nodup) (nk : ks.Nodup) (h : ∀ k ∈ ks, k ∈ m.map (·.1)) : (rms m ks).length + ks.length = m.length := by
  have h1 := List.length_eq_countP_add_countP (l := m) (fun q : Int × β => decide (q.1 ∉ ks))
  rw [List.countP_eq_length_filter, List.countP_eq_length_filter] at h1
  have h2 : ((m.filter fun q => decide ¬ (decide (q.1 ∉ ks) = true)).map (·.1)).Perm ks := perm_mem ((List.filter_sublist.map _).nodup nd) nk fun z => by
    constructor
    · intro hz
      obtain ⟨q, hq, e⟩ := List.mem_map.mp hz
      have h3 := (List.mem_filter.mp hq).2
      rw [← e]
      simpa using h3
    · intro hz
      obtain ⟨q, hq, e⟩ := List.mem_map.mp (h z hz)
      exact List.mem_map.mpr ⟨q, List.mem_filter.mpr ⟨hq, by rw [e]; simpa using hz⟩, e⟩
  have h3 := h2.length_eq
  rw [List.length_map] at h3
  unfold rms
  omega
theorem gone_mem {z : Int} (h : z ∈ s.gone) : z ∈ s.waits.map (·.1) := (List.mem_filter.mp h).1
theorem rms_keys {β : Type} {m : List (Int × β)} {ks : List Int} {z : Int} : z ∈ (rms m ks).map (·.1) ↔ z ∈ m.map (·.1) ∧ z ∉ ks := by
  constructor
  · intro h
    obtain ⟨q, hq, e⟩ := List.mem_map.mp h
    have := List.mem_filter.mp hq
    exact ⟨List.mem_map.mpr ⟨q, this.1, e⟩, by rw [← e]; simpa using this.2⟩
  · rintro ⟨h, h2⟩
    obtain ⟨q, hq, e⟩ := List.mem_map.mp h
    exact List.mem_map.mpr ⟨q, List.mem_filter.mpr ⟨hq, by rw [e]; simpa using h2⟩, e⟩
theorem fd_rms' {β : Type} {m : List (Int × β)} {ks : List Int} {k : Int} (h : k ∉ ks) : fd (rms m ks) k = fd m k := by
  induction m with
  | nil => rfl
  | cons p r ih =>
    have ih : fd (List.filter (fun q => decide (q.1 ∉ ks)) r) k = fd r k := ih
    unfold rms
    by_cases e : p.1 = k
    · rw [List.filter_cons, if_pos (by rw [e]; simpa using h), fd_pos e, fd_pos e]
    · rw [fd_neg e, List.filter_cons]
      split
      · rw [fd_neg e, ih]
      · exact ih
theorem ChOk.went (w : ChOk s live) : ChOk s.went live where
  pa := path_congr (fun q hq => fd_rms' fun z => w.lw q hq (gone_mem z)) w.pa
  so := w.so
  kr := w.kr
  nd := ((rms_sub _ _).map _).nodup w.nd
  nm := fun z hz => w.nm z (rms_keys.mp hz).1
  nw := ((rms_sub _ _).map _).nodup w.nw
  lw := fun q hq hz => w.lw q hq (rms_keys.mp hz).1
  wl := fun z hz => rms_keys.mpr ⟨w.wl z (rms_keys.mp hz).1, (rms_keys.mp hz).2⟩
  ln := by
    have gn : s.gone.Nodup := List.filter_sublist.nodup w.nw
    have h1 := rms_len w.nd gn fun k hk => w.wl k (gone_mem hk)
    have h2 := rms_len w.nw gn fun k hk => gone_mem hk
    have h3 := w.ln
    show (rms s.links s.gone).length = 1 + live.length + (rms s.waits s.gone).length
    omega
  bd := by have h1 := (rms_sub s.links s.gone).length_le; have := w.bd; show (rms s.links s.gone).length ≤ _; omega
theorem ChOk.zero {dx la ia aa wa x xd : Addr} {h : Int} : ChOk ⟨dx, la, ia, aa, wa, h, 1, 0, [(0, ⟨x, xd, -1, none⟩)], [], [], []⟩ [] where
  pa := ⟨rfl, ⟨x, xd, -1, none⟩, rfl, rfl, rfl⟩
  so := .nil
  kr := fun q hq => absurd hq List.not_mem_nil
  nd := List.pairwise_singleton _ _
  nm := fun z hz => by have hz : z ∈ [(0 : Int)] := hz; rw [List.mem_singleton.mp hz]; show (0 : Int) < 1; decide
  nw := .nil
  lw := fun q hq => List.not_mem_nil
  wl := fun z hz => absurd hz List.not_mem_nil
  ln := rfl
  bd := by show 1 ≤ 5000; decide
end
/-! #### walks -/
structure Wp (s : Cha) (k a c : Int) (pl : List (Int × Int)) (st : Int) : Prop where
  fi : fd s.inside k = some st
  fw : fd s.wh k = some a
  pa : Path s.links (some a) ((a, c) :: pl)
  so : (c :: pl.map (·.2)).Pairwise (· < ·)
  ok : ∀ q ∈ (a, c) :: pl, ∀ w, fd s.waits q.1 = some w → st ≤ w
section
variable {s : Cha} {live : List (Int × Int)} {key : Int} {A B : List (Int × Int)} {n cn m : Int} {l l2 : Lk} {x xd : Addr} {k a c st j : Int} {pl : List (Int × Int)}
theorem ins_none {n m k : Int} : ∀ {A : List (Int × Int)}, (∀ q ∈ A, q.1 ≠ n) → ins n m k A = A := by
  intro A
  induction A with
  | nil => exact fun _ => rfl
  | cons q r ih =>
    intro h
    rw [ins_cons, if_neg (h q (List.mem_cons.mpr (.inl rfl))), ih fun z hz => h z (List.mem_cons_of_mem _ hz)]
    rfl
theorem ins_head (n m k : Int) (q : Int × Int) (r : List (Int × Int)) : ∃ r', ins n m k (q :: r) = q :: r' ∧ (∀ z ∈ r', z ∈ r ∨ z = (m, k)) ∧ ∀ z ∈ r, z ∈ r' := by
  rw [ins_cons]
  split
  · refine ⟨(m, k) :: ins n m k r, rfl, fun z hz => ?_, fun z hz => List.mem_cons_of_mem _ (mem_ins hz)⟩
    rcases List.mem_cons.mp hz with h | h
    · exact .inr h
    · exact ins_mem h
  · exact ⟨ins n m k r, rfl, fun z hz => ins_mem hz, fun z hz => mem_ins hz⟩
theorem Wp.put (W : Wp s k a c pl st) (w : ChOk s live) (h : At live key A n cn B) (hf : fd s.links n = some l) (hk : ¬ key ∈ live.map (·.2)) (k0 : 0 ≤ key) (x xd : Addr) :
    ∃ pl', Wp (s.put n key l x xd) k a c pl' st ∧ (∀ q ∈ pl', q ∈ pl ∨ q = (s.made, key)) ∧ ∀ q ∈ pl, q ∈ pl' := by
  have hmn := made_new w
  obtain ⟨f1, f2, f3⟩ := fd_put hf hmn key x xd
  have hpath := path_ins hf hmn f1 f2 (rfl : (⟨x, xd, key, l.after⟩ : Lk).key = key) rfl f3 W.pa
  obtain ⟨pl', e, m1, m2⟩ := ins_head n s.made key (a, c) pl
  rw [e] at hpath
  refine ⟨pl', ⟨W.fi, W.fw, hpath, ?_, fun q hq u hu => ?_⟩, m1, m2⟩
  · have so : (((a, c) :: pl : List (Int × Int)).map (·.2)).Pairwise (· < ·) := W.so
    suffices h2 : ((ins n s.made key ((a, c) :: pl)).map (·.2)).Pairwise (· < ·) by rw [e] at h2; exact h2
    by_cases hn : ∃ q ∈ ((a, c) :: pl : List (Int × Int)), q.1 = n
    · obtain ⟨⟨n', c'⟩, hq, en⟩ := hn
      have en : n' = n := en
      subst en
      obtain ⟨A', B', eq⟩ := List.append_of_mem hq
      have hp2 := W.pa
      rw [eq] at hp2
      have hlv := w.pa
      rw [h.e] at hlv
      have d1 := path_at hp2
      have d2 := path_at hlv
      have d3 := path_det d1 d2
      injection d3 with d4 d5
      have d4 : c' = cn := congrArg Prod.snd d4
      subst d4 d5
      obtain ⟨_, nB⟩ := h.names w
      rw [eq] at so ⊢
      rw [List.map_append, List.map_cons] at so
      obtain ⟨p1, p2, p3⟩ := List.pairwise_append.mp so
      obtain ⟨p4, p5⟩ := List.pairwise_cons.mp p2
      have nA : ∀ q ∈ A', q.1 ≠ n' := fun q hq e2 => by
        have h1 := p3 q.2 (List.mem_map.mpr ⟨q, hq, rfl⟩) c' (List.mem_cons.mpr (.inl rfl))
        obtain ⟨la, fa, ea⟩ := path_mem W.pa q (by rw [eq]; exact List.mem_append.mpr (.inl hq))
        obtain ⟨lb, fb, eb⟩ := path_mem W.pa (n', c') (by rw [eq]; simp)
        have fb : fd s.links n' = some lb := fb
        rw [e2, fb] at fa
        have := Option.some.inj fa
        subst this
        have eb : lb.key = c' := eb
        omega
      rw [ins_mid nA nB, List.map_append, List.map_cons, List.map_cons]
      have lo := h.lo (n', c') (by simp)
      have lo : c' < key := lo
      have hi : ∀ q ∈ B', key < q.2 := fun q hq => by
        have h1 := h.hi q hq
        have h2 : q.2 ≠ key := fun e => hk (by
          rw [← e]
          have : q ∈ ((0, -1) :: live : List (Int × Int)) := by rw [h.e]; exact List.mem_append.mpr (.inr (List.mem_cons_of_mem _ hq))
          rcases List.mem_cons.mp this with z | z
          · rw [z] at h1
            have h1 : key ≤ -1 := h1
            omega
          · exact List.mem_map.mpr ⟨q, z, rfl⟩)
        omega
      refine List.pairwise_append.mpr ⟨p1, List.pairwise_cons.mpr ⟨fun z hz => ?_, List.pairwise_cons.mpr ⟨fun z hz => ?_, p5⟩⟩, fun y hy z hz => ?_⟩
      · rcases List.mem_cons.mp hz with z1 | z1
        · rw [z1]; exact lo
        · exact p4 z z1
      · obtain ⟨q, hq, rfl⟩ := List.mem_map.mp hz
        exact hi q hq
      · rcases List.mem_cons.mp hz with z1 | z1
        · exact p3 y hy z (List.mem_cons.mpr (.inl z1))
        · rcases List.mem_cons.mp z1 with z2 | z2
          · have := p3 y hy c' (List.mem_cons.mpr (.inl rfl))
            rw [z2]
            show y < key
            omega
          · exact p3 y hy z (List.mem_cons_of_mem _ z2)
    · rw [ins_none (fun q hq e => hn ⟨q, hq, e⟩)]
      exact so
  · have hq2 : q ∈ ((a, c) :: pl : List (Int × Int)) ∨ q = (s.made, key) := by
      rcases List.mem_cons.mp hq with z | z
      · exact .inl (List.mem_cons.mpr (.inl z))
      · exact (m1 q z).imp (List.mem_cons_of_mem _) id
    rcases hq2 with z | z
    · exact W.ok q z u hu
    · have hu : fd s.waits q.1 = some u := hu
      rw [z] at hu
      have h1 := w.nm _ (w.wl _ (fd_isSome.mp (by rw [hu]; rfl)))
      have h1 : s.made < s.made := h1
      omega
theorem del_head (n : Int) (q : Int × Int) : ∀ r : List (Int × Int), ∃ r', del n (q :: r) = q :: r'
  | [] => ⟨[], rfl⟩
  | x :: r => by
    unfold del
    split
    · exact ⟨_, rfl⟩
    · exact ⟨_, rfl⟩
theorem Wp.out (W : Wp s k a c pl st) (w : ChOk s live) (h : At live key A n cn ((m, key) :: B)) (hf : fd s.links n = some l) (hl : l.after = some m) (hm : fd s.links m = some l2) (hst : st ≤ s.era) (ha : a ≠ m ∨ True) :
    ∃ pl', Wp (s.out n m l l2) k a c pl' st ∧ (∀ q ∈ pl', q ∈ pl) ∧ ∀ q ∈ pl, q ∈ pl' ∨ q.2 = key := by
  have f1 : fd (s.out n m l l2).links n = some { l with after := l2.after } := by show fd (pu s.links n _) n = _; rw [fd_pu, if_pos rfl]
  have f3 : ∀ j, j ≠ n → fd (s.out n m l l2).links j = fd s.links j := fun j hj => by show fd (pu s.links n _) j = _; rw [fd_pu, if_neg hj]
  have hpath := path_del hf hl hm f1 f3 _ _ W.pa
  have hsub := del_sub n ((a, c) :: pl)
  have hmd := mem_del hf hl _ _ W.pa
  obtain ⟨pl', e⟩ := del_head n (a, c) pl
  rw [e] at hpath hsub hmd
  have hsub2 := hsub.of_cons_cons
  have key2 : l2.key = key := by
    obtain ⟨lb, fb, eb⟩ := path_mem w.pa (m, key) (by rw [h.e]; simp)
    have fb : fd s.links m = some lb := fb
    rw [hm] at fb
    have := Option.some.inj fb
    subst this
    exact eb
  refine ⟨pl', ⟨W.fi, W.fw, hpath, ?_, fun q hq u hu => ?_⟩, fun q hq => hsub2.subset hq, fun q hq => ?_⟩
  · have so : (((a, c) :: pl : List (Int × Int)).map (·.2)).Pairwise (· < ·) := W.so
    exact (so.sublist (hsub.map _) : (((a, c) :: pl' : List (Int × Int)).map (·.2)).Pairwise (· < ·))
  · have hu : fd (pu s.waits m s.era) q.1 = some u := hu
    rw [fd_pu] at hu
    by_cases e2 : q.1 = m
    · rw [if_pos e2] at hu
      rw [← Option.some.inj hu]
      exact hst
    · rw [if_neg e2] at hu
      exact W.ok q (hsub.subset hq) u hu
  · have so : (((a, c) :: pl : List (Int × Int)).map (·.2)).Pairwise (· < ·) := W.so
    rcases hmd q (List.mem_cons_of_mem _ hq) with z | z
    · rcases List.mem_cons.mp z with z | z
      · rw [List.map_cons] at so
        have h1 := (List.pairwise_cons.mp so).1 q.2 (List.mem_map.mpr ⟨q, hq, rfl⟩)
        rw [z] at h1
        have h1 : c < c := h1
        omega
      · exact .inl z
    · obtain ⟨lb, fb, eb⟩ := path_mem W.pa q (List.mem_cons_of_mem _ hq)
      rw [z, hm] at fb
      have := Option.some.inj fb
      subst this
      exact .inr (eb.symm.trans key2)
theorem fd_rms_some {β : Type} {m : List (Int × β)} {ks : List Int} {k : Int} {b : β} (nd : (m.map (·.1)).Nodup) (h : fd (rms m ks) k = some b) : fd m k = some b ∧ k ∉ ks := by
  have h1 := List.mem_filter.mp (fd_mem h)
  exact ⟨fd_of nd h1.1, by simpa using h1.2⟩
theorem Wp.went (W : Wp s k a c pl st) (nw : (s.waits.map (·.1)).Nodup) (hst : st = s.era) : Wp s.went k a c pl st := by
  have hng : ∀ q ∈ ((a, c) :: pl : List (Int × Int)), q.1 ∉ s.gone := fun q hq z => by
    have h1 := List.mem_filter.mp z
    obtain ⟨u, hu⟩ := Option.isSome_iff_exists.mp (fd_isSome.mpr h1.1)
    have h2 := W.ok q hq u hu
    have h3 := h1.2
    rw [hu] at h3
    have h3 : decide (u ≤ s.era + 1 - 2) = true := h3
    have h3 := of_decide_eq_true h3
    omega
  exact ⟨W.fi, W.fw, path_congr (fun q hq => fd_rms' (hng q hq)) W.pa, W.so, fun q hq u hu => W.ok q hq u (fd_rms_some nw hu).1⟩
theorem Wp.start (w : ChOk s live) (k : Int) : Wp (s.start k) k 0 (-1) live s.era := by
  refine ⟨?_, ?_, w.pa, w.so2, fun q hq u hu => ?_⟩
  · show fd (pu s.inside k s.era) k = _; rw [fd_pu, if_pos rfl]
  · show fd (pu s.wh k 0) k = _; rw [fd_pu, if_pos rfl]
  · have hu : fd s.waits q.1 = some u := hu
    exact absurd (fd_isSome.mp (by rw [hu]; rfl)) (w.lw q hq)
theorem Wp.starts (W : Wp s k a c pl st) (h : k ≠ j) : Wp (s.start j) k a c pl st := by
  refine ⟨?_, ?_, W.pa, W.so, W.ok⟩
  · show fd (pu s.inside j s.era) k = _; rw [fd_pu, if_neg h]; exact W.fi
  · show fd (pu s.wh j 0) k = _; rw [fd_pu, if_neg h]; exact W.fw
theorem Wp.stops (W : Wp s k a c pl st) (h : k ≠ j) : Wp (s.stop j) k a c pl st := by
  refine ⟨?_, ?_, W.pa, W.so, W.ok⟩
  · show fd (rm s.inside j) k = _; rw [fd_rm, if_neg h]; exact W.fi
  · show fd (rm s.wh j) k = _; rw [fd_rm, if_neg h]; exact W.fw
theorem Wp.step {c2 : Int} {r : List (Int × Int)} (W : Wp s k a c ((m, c2) :: r) st) : Wp { s with wh := pu s.wh k m } k m c2 r st := by
  obtain ⟨l, _, _, e, hp⟩ := path_next W.pa
  have e : l.after = some m := e
  rw [e] at hp
  refine ⟨W.fi, ?_, hp, (List.pairwise_cons.mp W.so).2, fun q hq => W.ok q (List.mem_cons_of_mem _ hq)⟩
  show fd (pu s.wh k m) k = _; rw [fd_pu, if_pos rfl]
theorem Wp.steps (W : Wp s k a c pl st) (h : k ≠ j) (m : Int) : Wp { s with wh := pu s.wh j m } k a c pl st := by
  refine ⟨W.fi, ?_, W.pa, W.so, W.ok⟩
  show fd (pu s.wh j m) k = _; rw [fd_pu, if_neg h]; exact W.fw
end
def sp__law_whole_list : Sp := fun vs H Q _ => ∃ (p : Addr) (ns : List Int) (R : List U), vs = [.ref p] ∧ Has H ([(p, .lst (ns.map V.int))] :: R) ∧ ns.length ≤ 1000 ∧
  ∀ H', Has H' ([(p, .lst (ns.map V.int))] :: R) → Q (.bl true) H'
theorem pure__law_whole_list {K : PySem.W.Frag} {vs : List V} {H : Hp} {Q : VK} {E : XK} (h : sp__law_whole_list vs H Q E) : t__law_whole_list K sp__law_whole ⟨fun _ H' => Q .non H', Q, fun _ _ => False, fun _ _ => False⟩ (start ["thing", "one"] vs) H := by
  obtain ⟨p, ns, R, rfl, hh, hl, q⟩ := h
  unfold t__law_whole_list
  walk_at "go"
  refine k_lcM ns V.int (fun _ => V.bl true) hh (fun H' h' => by walk_at "hp") (by omega) (fun z hz D M H' Q' h' q' => ?_) fun D H' h' => ?_
  · walk_at "go"
    exact ⟨z, rfl, q' H' h'⟩
  · have e : ns.map (fun _ => V.bl true) = (ns.map fun _ => true).map V.bl := by rw [List.map_map]; rfl
    rw [e] at h'
    walk_at "go"
    have e2 : (ns.map fun _ => true).all id = true := by
      rw [List.all_eq_true]
      intro b hb
      obtain ⟨_, _, rfl⟩ := List.mem_map.mp hb
      rfl
    rw [e2]
    refine q H' ?_
    walk_at "has"
end La
namespace La
open PySem L2 Sy
def t__law_odd (K : PySem.W.Frag) (sp__law_pick sp__law_draw : Sp) : TS :=
  tRet (tCall sp__law_pick [] E0 (tCons (tVar 0) (tCons (tLst (tCons (tVar 1) (tCons (tOp rSubI (tC (.int 0)) (tC (.int 1))) (tCons (tC (.bl true)) (tCons (tC .non) (tCons (tC (.str "0")) (tCons (tLst (tCons (tC (.int 0)) (tNil))) (tCons (tC (.bl false)) (tCons (tOp rAddI (tVar 1) (tCall sp__law_draw [] E0 (tCons (tVar 0) (tCons (tC (.int 9)) (tNil))))) (tNil)))))))))) (tNil))))
def tr_is_whole (K : PySem.W.Frag) (EE : XK) : TS :=
  tRet (tAndV (tCB (rIsi K) (tCons (tVar 0) (tCons (tC (.ty "int")) (tNil)))) (tAndV (tNotV (tCB (rIsi K) (tCons (tVar 0) (tCons (tC (.ty "bool")) (tNil))))) (tChain rLeI rLeI (tVar 1) (tVar 0) (tVar 2))))
def tr_look_number (K : PySem.W.Frag) (C_BadNumber : Addr) (sr_is_whole : Sp) (EE : XK) : TS :=
  tIfS (tNot (tB (tCall sr_is_whole [] EE (tCons (tVar 0) (tCons (tVar 1) (tCons (tVar 2) (tNil))))))) (tRaise EE C_BadNumber) (tNext)
def tr_Chain_has (K : PySem.W.Frag) (C_Chain : Addr) (sr_look_number sp_Chain__Chain_place_of : Sp) (EE : XK) : TS :=
  tSeq (tDrop (tCall sr_look_number [] EE (tCons (tVar 1) (tCons (tC (.int 0)) (tCons (tC (.int 999)) (tNil))))))
    (tSeq (tAsg (tFld K (tDGet (tFld K (tVar 0) "links") (tMeth C_Chain "place_of" sp_Chain__Chain_place_of [] E0 (tVar 0) (tCons (tVar 1) (tNil)))) "after") (gName 2))
    (tRet (tAndV (tOp rNotNo (tVar 2) (tC .non)) (tOp rEq (tFld K (tDGet (tFld K (tVar 0) "links") (tVar 2)) "key") (tVar 1)))))
def tr_Chain_put (K : PySem.W.Frag) (C_Chain C_Link : Addr) (sr_Chain__Chain_has sp_Chain__Chain_place_of sp_mk_Link : Sp) (EE : XK) : TS :=
  tSeq (tIfS (tB (tMeth C_Chain "has" sr_Chain__Chain_has [] EE (tVar 0) (tCons (tVar 1) (tNil)))) (tRet (tC (.bl false))) (tNext))
    (tSeq (tAsg (tDGet (tFld K (tVar 0) "links") (tMeth C_Chain "place_of" sp_Chain__Chain_place_of [] E0 (tVar 0) (tCons (tVar 1) (tNil)))) (gName 2))
    (tSeq (sDPut (tFld K (tVar 0) "links") (tFld K (tVar 0) "made") (tMake C_Link sp_mk_Link [] E0 (tCons (tVar 1) (tCons (tFld K (tVar 2) "after") (tNil)))))
    (tSeq (sFld K (tVar 2) (tFld K (tVar 0) "made") "after")
    (tSeq (sFld K (tVar 0) (tOp rAddI (tFld K (tVar 0) "made") (tC (.int 1))) "made")
    (tRet (tC (.bl true)))))))
def tr_Chain_take_out (K : PySem.W.Frag) (C_Chain : Addr) (sr_Chain__Chain_has sp_Chain__Chain_place_of : Sp) (EE : XK) : TS :=
  tSeq (tIfS (tNot (tB (tMeth C_Chain "has" sr_Chain__Chain_has [] EE (tVar 0) (tCons (tVar 1) (tNil))))) (tRet (tC (.bl false))) (tNext))
    (tSeq (tAsg (tDGet (tFld K (tVar 0) "links") (tMeth C_Chain "place_of" sp_Chain__Chain_place_of [] E0 (tVar 0) (tCons (tVar 1) (tNil)))) (gName 2))
    (tSeq (tAsg (tFld K (tVar 2) "after") (gName 3))
    (tSeq (sFld K (tVar 2) (tFld K (tDGet (tFld K (tVar 0) "links") (tVar 3)) "after") "after")
    (tSeq (sDPut (tFld K (tVar 0) "waits") (tVar 3) (tFld K (tVar 0) "era"))
    (tRet (tC (.bl true)))))))
def tr_Chain_init (K : PySem.W.Frag) (C_Link : Addr) (sr_look_number sp_mk_Link : Sp) (EE : XK) : TS :=
  tSeq (tDrop (tCall sr_look_number [] EE (tCons (tVar 1) (tCons (tC (.int 1)) (tCons (tC (.int 6)) (tNil))))))
    (tSeq (sFld K (tVar 0) (tVar 1) "hands")
    (tSeq (sFld K (tVar 0) (tDisp [(tC (.int 0), tMake C_Link sp_mk_Link [] E0 (tCons (tC (.int (-1))) (tCons (tC .non) (tNil))))]) "links")
    (tSeq (sFld K (tVar 0) (tC (.int 1)) "made")
    (tSeq (sFld K (tVar 0) (tC (.int 0)) "era")
    (tSeq (sFld K (tVar 0) (tDNewK) "inside")
    (tSeq (sFld K (tVar 0) (tDNewK) "at")
    (sFld K (tVar 0) (tDNewK) "waits")))))))
def tr_Chain_look_hand (K : PySem.W.Frag) (C_NoHand : Addr) (sr_is_whole : Sp) (EE : XK) : TS :=
  tIfS (tNot (tB (tCall sr_is_whole [] EE (tCons (tVar 1) (tCons (tC (.int 0)) (tCons (tOp rSubI (tFld K (tVar 0) "hands") (tC (.int 1))) (tNil))))))) (tRaise EE C_NoHand) (tNext)
def tr_Chain_start (K : PySem.W.Frag) (C_Chain C_IsIn : Addr) (sr_Chain__Chain_look_hand : Sp) (EE : XK) : TS :=
  tSeq (tDrop (tMeth C_Chain "look_hand" sr_Chain__Chain_look_hand [] EE (tVar 0) (tCons (tVar 1) (tNil))))
    (tSeq (tIfS (tB (tDIn (tVar 1) (tFld K (tVar 0) "inside"))) (tRaise EE C_IsIn) (tNext))
    (tSeq (sDPut (tFld K (tVar 0) "inside") (tVar 1) (tFld K (tVar 0) "era"))
    (sDPut (tFld K (tVar 0) "at") (tVar 1) (tC (.int 0)))))
def tr_Chain_look_in (K : PySem.W.Frag) (C_Chain C_NotIn : Addr) (sr_Chain__Chain_look_hand : Sp) (EE : XK) : TS :=
  tSeq (tDrop (tMeth C_Chain "look_hand" sr_Chain__Chain_look_hand [] EE (tVar 0) (tCons (tVar 1) (tNil))))
    (tIfS (tB (tDNotIn (tVar 1) (tFld K (tVar 0) "inside"))) (tRaise EE C_NotIn) (tNext))
def tr_Chain_stop (K : PySem.W.Frag) (C_Chain : Addr) (sr_Chain__Chain_look_in : Sp) (EE : XK) : TS :=
  tSeq (tDrop (tMeth C_Chain "look_in" sr_Chain__Chain_look_in [] EE (tVar 0) (tCons (tVar 1) (tNil))))
    (tSeq (tDrop (tDPop1 (tFld K (tVar 0) "inside") (tVar 1)))
    (tDrop (tDPop1 (tFld K (tVar 0) "at") (tVar 1))))
def tr_Chain_step (K : PySem.W.Frag) (C_Chain : Addr) (sr_Chain__Chain_look_in sr_Chain__Chain_stop : Sp) (EE : XK) : TS :=
  tSeq (tDrop (tMeth C_Chain "look_in" sr_Chain__Chain_look_in [] EE (tVar 0) (tCons (tVar 1) (tNil))))
    (tSeq (tAsg (tFld K (tDGet (tFld K (tVar 0) "links") (tDGet (tFld K (tVar 0) "at") (tVar 1))) "after") (gName 2))
    (tSeq (tIfS (tTest (tOp rIsNo (tVar 2) (tC .non))) (tSeq (tDrop (tMeth C_Chain "stop" sr_Chain__Chain_stop [] EE (tVar 0) (tCons (tVar 1) (tNil))))
    (tRet (tC .non))) (tNext))
    (tSeq (tIfS (tB (tDNotIn (tVar 2) (tFld K (tVar 0) "links"))) (tNever) (tNext))
    (tSeq (sDPut (tFld K (tVar 0) "at") (tVar 1) (tVar 2))
    (tRet (tFld K (tDGet (tFld K (tVar 0) "links") (tVar 2)) "key"))))))
def tr__law_did (K : PySem.W.Frag) (C_Chain : Addr) (sr_Chain__Chain_put sr_Chain__Chain_take_out sr_Chain__Chain_has sr_mk_Chain sr_Chain__Chain_start sr_Chain__Chain_step sr_Chain__Chain_stop : Sp) (EE : XK) : TS :=
  tSeq (tIfS (tTest (tOp rEq (tVar 1) (tC (.int 0)))) (tRet (tMeth C_Chain "put" sr_Chain__Chain_put [] EE (tVar 0) (tCons (tVar 2) (tNil)))) (tNext))
    (tSeq (tIfS (tTest (tOp rEq (tVar 1) (tC (.int 1)))) (tRet (tMeth C_Chain "take_out" sr_Chain__Chain_take_out [] EE (tVar 0) (tCons (tVar 2) (tNil)))) (tNext))
    (tSeq (tIfS (tTest (tOp rEq (tVar 1) (tC (.int 2)))) (tRet (tMeth C_Chain "has" sr_Chain__Chain_has [] EE (tVar 0) (tCons (tVar 2) (tNil)))) (tNext))
    (tSeq (tIfS (tTest (tOp rEq (tVar 1) (tC (.int 3)))) (tRet (tMake C_Chain sr_mk_Chain [] EE (tCons (tVar 2) (tNil)))) (tNext))
    (tSeq (tIfS (tTest (tOp rEq (tVar 1) (tC (.int 4)))) (tRet (tMeth C_Chain "start" sr_Chain__Chain_start [] EE (tVar 0) (tCons (tVar 2) (tNil)))) (tNext))
    (tRet (tIf (tTest (tOp rEq (tVar 1) (tC (.int 5)))) (tMeth C_Chain "step" sr_Chain__Chain_step [] EE (tVar 0) (tCons (tVar 2) (tNil))) (tMeth C_Chain "stop" sr_Chain__Chain_stop [] EE (tVar 0) (tCons (tVar 2) (tNil)))))))))
def t__law_refusal (K : PySem.W.Frag) (C_NoCell C_NoHand C_BadNumber C_NotIn C_IsIn C_NoMark C_BadPairs C_Gone C_NotHeld C_NotNow C_StoreError : Addr) : TS :=
  tSeq (tAsg (tLst (tCons (tCB (rIsK K) (tCons (tVar 0) (tCons (tC (.ref C_BadNumber)) (tNil)))) (tCons (tCB (rIsK K) (tCons (tVar 0) (tCons (tC (.ref C_NoHand)) (tNil)))) (tCons (tCB (rIsK K) (tCons (tVar 0) (tCons (tC (.ref C_NoCell)) (tNil)))) (tNil))))) (gName 1))
    (tSeq (tAsg (tOp rCat (tVar 1) (tLst (tCons (tCB (rIsK K) (tCons (tVar 0) (tCons (tC (.ref C_NoMark)) (tNil)))) (tCons (tCB (rIsK K) (tCons (tVar 0) (tCons (tC (.ref C_IsIn)) (tNil)))) (tCons (tCB (rIsK K) (tCons (tVar 0) (tCons (tC (.ref C_NotIn)) (tNil)))) (tNil)))))) (gName 1))
    (tSeq (tAsg (tOp rCat (tVar 1) (tLst (tCons (tCB (rIsK K) (tCons (tVar 0) (tCons (tC (.ref C_NotHeld)) (tNil)))) (tCons (tCB (rIsK K) (tCons (tVar 0) (tCons (tC (.ref C_Gone)) (tNil)))) (tCons (tCB (rIsK K) (tCons (tVar 0) (tCons (tC (.ref C_BadPairs)) (tNil)))) (tNil)))))) (gName 1))
    (tSeq (tAsg (tOp rCat (tVar 1) (tLst (tCons (tCB (rIsK K) (tCons (tVar 0) (tCons (tC (.ref C_NotNow)) (tNil)))) (tNil)))) (gName 1))
    (tSeq (tIfS (tOr (tTest (tOp rNe (tBM K "list" (rCntV K) (tVar 1) (tCons (tC (.bl true)) (tNil))) (tC (.int 1)))) (tOr (tNot (tB (tCB (rIsK K) (tCons (tVar 0) (tCons (tC (.ref C_StoreError)) (tNil)))))) (tNot (tB (tCB (rIsK K) (tCons (tVar 0) (tCons (tC (.ty "ValueError")) (tNil)))))))) (tRet (tC (.str "odd"))) (tNext))
    (tSeq (tAsg (tLst (tCons (tC (.str "number")) (tCons (tC (.str "hand")) (tCons (tC (.str "cell")) (tCons (tC (.str "mark")) (tCons (tC (.str "in")) (tCons (tC (.str "not in")) (tCons (tC (.str "not held")) (tCons (tC (.str "gone")) (tCons (tC (.str "pairs")) (tCons (tC (.str "now")) (tNil)))))))))))) (gName 2))
    (tRet (tOp (rIxL K) (tVar 2) (tBM K "list" (rIndex K) (tVar 1) (tCons (tC (.bl true)) (tNil))))))))))
def t__law_asked (K : PySem.W.Frag) (C_StoreError : Addr) (sr__law_did sp__law_refusal : Sp) : TS :=
  tSeq (tAsg (tC .non) (gName 3))
    (tSeq (tTryK K (.ref C_StoreError) 4 3 (fun W => tDrop (tCallS sr__law_did (WE W) (tCons (tVar 0) (tCons (tVar 1) (tCons (tVar 2) (tNil)))))))
    (tRet (tIf (tTest (tOp rIsNo (tVar 3) (tC .non))) (tC (.str "told")) (tCall sp__law_refusal [] E0 (tCons (tVar 3) (tNil))))))
def t_law_b0 (K : PySem.W.Frag) (C_Chain : Addr) (sp__law_town sp__law_draw sp_mk_Chain sp_Chain__Chain_put sp_Chain__Chain_start sp_Chain__Chain_step sp__law_odd sp__law_asked sp__law_pick sp_Chain__Chain_keys_in sp_Chain__Chain_walkers : Sp) : TS :=
  tDrop (tMeth C_Chain "put" sp_Chain__Chain_put [] E0 (tVar 3) (tCons (tVar 8) (tNil)))
def t_law_b1 (K : PySem.W.Frag) (C_Chain : Addr) (sp__law_town sp__law_draw sp_mk_Chain sp_Chain__Chain_put sp_Chain__Chain_start sp_Chain__Chain_step sp__law_odd sp__law_asked sp__law_pick sp_Chain__Chain_keys_in sp_Chain__Chain_walkers : Sp) : TS :=
  tSeq (tAsg (tCall sp__law_odd [] E0 (tCons (tVar 1) (tCons (tC (.int 1000)) (tNil)))) (gName 11))
    (tSeq (tIfS (tTest (tOp (rNeD K) (tLc (iRng1 (tCons (tC (.int 3)) (tNil))) (gName 12) tYes (tCall sp__law_asked [] E0 (tCons (tVar 3) (tCons (tVar 12) (tCons (tVar 11) (tNil))))) [12]) (tOp rRep (tLst (tCons (tC (.str "number")) (tNil))) (tC (.int 3))))) (tRet (tC (.bl false))) (tNext))
    (tSeq (tIfS (tTest (tOp rNe (tCall sp__law_asked [] E0 (tCons (tVar 3) (tCons (tC (.int 3)) (tCons (tCall sp__law_pick [] E0 (tCons (tVar 1) (tCons (tLst (tCons (tC (.int 0)) (tCons (tC (.int 7)) (tCons (tOp rSubI (tC (.int 0)) (tC (.int 1))) (tCons (tC (.bl true)) (tCons (tC .non) (tCons (tC (.str "1")) (tCons (tLst (tCons (tC (.int 1)) (tNil))) (tNil))))))))) (tNil)))) (tNil))))) (tC (.str "number")))) (tRet (tC (.bl false))) (tNext))
    (tSeq (tAsg (tCall sp__law_odd [] E0 (tCons (tVar 1) (tCons (tVar 2) (tNil)))) (gName 11))
    (tSeq (tIfS (tTest (tOp (rNeD K) (tLc (iList K (tLst (tCons (tC (.int 4)) (tCons (tC (.int 5)) (tCons (tC (.int 6)) (tNil)))))) (gName 12) tYes (tCall sp__law_asked [] E0 (tCons (tVar 3) (tCons (tVar 12) (tCons (tVar 11) (tNil))))) [12]) (tOp rRep (tLst (tCons (tC (.str "hand")) (tNil))) (tC (.int 3))))) (tRet (tC (.bl false))) (tNext))
    (tIfS (tOr (tTest (tOp (rNeD K) (tLc (iList K (tLst (tCons (tC (.int 5)) (tCons (tC (.int 6)) (tNil))))) (gName 12) tYes (tCall sp__law_asked [] E0 (tCons (tVar 3) (tCons (tVar 12) (tCons (tVar 5) (tNil))))) [12]) (tOp rRep (tLst (tCons (tC (.str "not in")) (tNil))) (tC (.int 2))))) (tTest (tOp rNe (tCall sp__law_asked [] E0 (tCons (tVar 3) (tCons (tC (.int 4)) (tCons (tVar 4) (tNil))))) (tC (.str "in"))))) (tRet (tC (.bl false))) (tNext))))))
def t_law (K : PySem.W.Frag) (C_Chain : Addr) (sp__law_town sp__law_draw sp_mk_Chain sp_Chain__Chain_put sp_Chain__Chain_start sp_Chain__Chain_step sp__law_odd sp__law_asked sp__law_pick sp_Chain__Chain_keys_in sp_Chain__Chain_walkers : Sp) : TS :=
  tSeq (tAsg (tCall sp__law_town [] E0 (tCons (tVar 0) (tNil))) (gName 1))
    (tSeq (tAsg (tOp rAddI (tC (.int 2)) (tCall sp__law_draw [] E0 (tCons (tVar 1) (tCons (tC (.int 5)) (tNil))))) (gName 2))
    (tSeq (tAsg (tMake C_Chain sp_mk_Chain [] E0 (tCons (tVar 2) (tNil))) (gName 3))
    (tSeq (tAsg (tCall sp__law_draw [] E0 (tCons (tVar 1) (tCons (tVar 2) (tNil)))) (gName 4))
    (tSeq (tAsg (tOp rModI (tOp rAddI (tVar 4) (tC (.int 1))) (tVar 2)) (gName 5))
    (tSeq (tAsg (tSSet K (tCons (tLc (iRng1 (tCons (tC (.int 4)) (tNil))) (gName 7) tYes (tCall sp__law_draw [] E0 (tCons (tVar 1) (tCons (tC (.int 1000)) (tNil)))) [7]) (tNil))) (gName 6))
    (tSeq (tFor (iList K (tVar 6)) (gName 8) (t_law_b0 K C_Chain sp__law_town sp__law_draw sp_mk_Chain sp_Chain__Chain_put sp_Chain__Chain_start sp_Chain__Chain_step sp__law_odd sp__law_asked sp__law_pick sp_Chain__Chain_keys_in sp_Chain__Chain_walkers))
    (tSeq (tDrop (tMeth C_Chain "start" sp_Chain__Chain_start [] E0 (tVar 3) (tCons (tVar 4) (tNil))))
    (tSeq (tAsg (tMeth C_Chain "step" sp_Chain__Chain_step [] E0 (tVar 3) (tCons (tVar 4) (tNil))) (gName 9))
    (tSeq (tFor (iRng1 (tCons (tC (.int 6)) (tNil))) (gName 10) (t_law_b1 K C_Chain sp__law_town sp__law_draw sp_mk_Chain sp_Chain__Chain_put sp_Chain__Chain_start sp_Chain__Chain_step sp__law_odd sp__law_asked sp__law_pick sp_Chain__Chain_keys_in sp_Chain__Chain_walkers))
    (tSeq (tIfS (tOr (tTest (tOp (rNeD K) (tMeth C_Chain "keys_in" sp_Chain__Chain_keys_in [] E0 (tVar 3) tNil) (tVar 6))) (tOr (tTest (tOp (rNeD K) (tMeth C_Chain "walkers" sp_Chain__Chain_walkers [] E0 (tVar 3) tNil) (tLst (tCons (tVar 4) (tNil))))) (tTest (tOp rNe (tVar 9) (tOp (rIxL K) (tVar 6) (tC (.int 0))))))) (tRet (tC (.bl false))) (tNext))
    (tSeq (tAsg (tLc (iList K (tVar 6)) (gName 8) tYes (tMeth C_Chain "step" sp_Chain__Chain_step [] E0 (tVar 3) (tCons (tVar 4) (tNil))) [8]) (gName 13))
    (tSeq (tIfS (tOr (tTest (tOp (rNeD K) (tVar 13) (tOp rCat (tSl (rSlL K) (tVar 6) (tPart (tC (.int 1))) (tNoPart)) (tLst (tCons (tC .non) (tNil)))))) (tOr (tTest (tOp (rNeD K) (tMeth C_Chain "walkers" sp_Chain__Chain_walkers [] E0 (tVar 3) tNil) (tLst (tNil)))) (tTest (tOp rNe (tCall sp__law_asked [] E0 (tCons (tVar 3) (tCons (tC (.int 5)) (tCons (tVar 4) (tNil))))) (tC (.str "not in")))))) (tRet (tC (.bl false))) (tNext))
    (tRet (tAndV (tOp rEq (tCall sp__law_asked [] E0 (tCons (tVar 3) (tCons (tC (.int 6)) (tCons (tVar 4) (tNil))))) (tC (.str "not in"))) (tOp rEq (tCall sp__law_asked [] E0 (tCons (tVar 3) (tCons (tC (.int 4)) (tCons (tVar 4) (tNil))))) (tC (.str "told")))))))))))))))))
end La
namespace La
open PySem L2 Sy
/-! ### refusals: what is no number; the classes; what a refusal is called -/
inductive Odd (lo hi : Int) : V → U → Prop where
  | non : Odd lo hi .non []
  | str (s : Str) : Odd lo hi (.str s) []
  | bl (b : Bool) : Odd lo hi (.bl b) []
  | int (i : Int) (h : ¬ (lo ≤ i ∧ i ≤ hi)) : Odd lo hi (.int i) []
  | lst (a : Addr) (xs : List V) : Odd lo hi (.ref a) [(a, .lst xs)]
  | tup (a : Addr) (xs : List V) : Odd lo hi (.ref a) [(a, .tup xs)]
theorem kb_ni : kitB "NoneType" "int" = some false := by decide +kernel
theorem kb_si : kitB "str" "int" = some false := by decide +kernel
theorem kb_li : kitB "list" "int" = some false := by decide +kernel
theorem kb_ti : kitB "tuple" "int" = some false := by decide +kernel
def sr_is_whole : Sp := fun vs H Q _ => ∃ (v : V) (u : U) (lo hi : Int) (R : List U), vs = [v, .int lo, .int hi] ∧ Odd lo hi v u ∧ Has H (u :: R) ∧ Q (.bl false) H
theorem purer_is_whole {K : PySem.W.Frag} {vs : List V} {H : Hp} {Q : VK} {E : XK} (h : sr_is_whole vs H Q E) : tr_is_whole K E ⟨fun _ H' => Q .non H', Q, fun _ _ => False, fun _ _ => False⟩ (start ["thing", "low", "high"] vs) H := by
  obtain ⟨v, u, lo, hi, R, rfl, ho, hh, q⟩ := h
  unfold tr_is_whole
  cases ho with
  | non =>
    walk_at "go"
    refine k_isi .non kb_ni ?_
    walk_at "go"
    exact q
  | str s =>
    walk_at "go"
    refine k_isi (.str s) kb_si ?_
    walk_at "go"
    exact q
  | bl b =>
    walk_at "go"
    exact q
  | int i h =>
    walk_at "go"
    refine ifD (fun h1 => ?_) (fun h1 => ?_)
    · walk_at "go"
      rw [decide_eq_false (fun h2 => h ⟨h1, h2⟩)]
      exact q
    · exact q
  | lst a xs =>
    walk_at "go"
    refine k_isi (.lst hh.g0) kb_li ?_
    walk_at "go"
    exact q
  | tup a xs =>
    walk_at "go"
    refine k_isi (.tup hh.g0) kb_ti ?_
    walk_at "go"
    exact q
def sr_look_number (CB : Addr) : Sp := fun vs H _ E => ∃ (v : V) (u : U) (lo hi : Int) (R : List U), vs = [v, .int lo, .int hi] ∧ Odd lo hi v u ∧ Has H (u :: R) ∧ E (.ref CB) none H
theorem purer_look_number {K : PySem.W.Frag} {CB : Addr} {vs : List V} {H : Hp} {Q : VK} {E : XK} (h : sr_look_number CB vs H Q E) : tr_look_number K CB (spOr sp_is_whole sr_is_whole) E ⟨fun _ H' => Q .non H', Q, fun _ _ => False, fun _ _ => False⟩ (start ["thing", "low", "high"] vs) H := by
  obtain ⟨v, u, lo, hi, R, rfl, ho, hh, q⟩ := h
  unfold tr_look_number
  walk_at "go"
  refine .inr ⟨v, u, lo, hi, R, rfl, ho, hh, ?_⟩
  walk_at "go"
  exact q
structure Exs where
  bn : Addr
  nh : Addr
  nc : Addr
  nm : Addr
  ii : Addr
  ni : Addr
  nt : Addr
  go : Addr
  bp : Addr
  nn : Addr
  se : Addr
def Exs.of (X : Exs) : Nat → Addr
  | 0 => X.bn | 1 => X.nh | 2 => X.nc | 3 => X.nm | 4 => X.ii | 5 => X.ni | 6 => X.nt | 7 => X.go | 8 => X.bp | _ => X.nn
def word : Nat → Str
  | 0 => "number" | 1 => "hand" | 2 => "cell" | 3 => "mark" | 4 => "in" | 5 => "not in" | 6 => "not held" | 7 => "gone" | 8 => "pairs" | _ => "now"
/-- what the classes say of one of them -/
structure RefK (K : PySem.W.Frag) (X : Exs) (i : Nat) : Prop where
  lt : i < 10
  ec : ExcC K (X.of i)
  k0 : PySem.W.kitOne K (.ref (X.of i)) (.ref X.bn) = some (decide (i = 0))
  k1 : PySem.W.kitOne K (.ref (X.of i)) (.ref X.nh) = some (decide (i = 1))
  k2 : PySem.W.kitOne K (.ref (X.of i)) (.ref X.nc) = some (decide (i = 2))
  k3 : PySem.W.kitOne K (.ref (X.of i)) (.ref X.nm) = some (decide (i = 3))
  k4 : PySem.W.kitOne K (.ref (X.of i)) (.ref X.ii) = some (decide (i = 4))
  k5 : PySem.W.kitOne K (.ref (X.of i)) (.ref X.ni) = some (decide (i = 5))
  k6 : PySem.W.kitOne K (.ref (X.of i)) (.ref X.nt) = some (decide (i = 6))
  k7 : PySem.W.kitOne K (.ref (X.of i)) (.ref X.go) = some (decide (i = 7))
  k8 : PySem.W.kitOne K (.ref (X.of i)) (.ref X.bp) = some (decide (i = 8))
  k9 : PySem.W.kitOne K (.ref (X.of i)) (.ref X.nn) = some (decide (i = 9))
  ks : PySem.W.kitOne K (.ref (X.of i)) (.ref X.se) = some true
  kv : PySem.W.kitOne K (.ref (X.of i)) (.type "ValueError") = some true
  em : PySem.W.exmOne K (.ref (X.of i)) (.ref X.se) = some true
theorem k_index {K : PySem.W.Frag} {H : Hp} {Q : VK} {a : Addr} {ys : List V} {y z : V} (hp : H a = some (.lst ys)) (j : Nat) (f1 : flatV y = true) (f2 : ys.all flatV = true) (hz : ys[j]? = some z) (he : eqV z y = true) (hn : (ys.take j).all (fun z => !eqV z y) = true) (q : Q (.int (j : Nat)) H) : rIndex K (.ref a) [y] H Q := by
  refine ⟨a, ys, y, j, z, rfl, rfl, SqL.of hp, f1, f2, hz, he, fun m z' hm hz' => ?_, q⟩
  have h1 : z' ∈ ys.take j := List.mem_of_getElem? (i := m) (by rw [List.getElem?_take, if_pos hm]; exact hz')
  have h2 := List.all_eq_true.mp hn z' h1
  simpa using h2
def sp__law_refusal (X : Exs) (ok : List Nat) : Sp := fun vs H Q _ => ∃ (a : Addr) (i : Nat) (R : List U), i ∈ ok ∧ vs = [.ref a] ∧ Has H ([(a, ExK (.ref (X.of i)) none a)] :: R) ∧ ∀ H', Has H' ([(a, ExK (.ref (X.of i)) none a)] :: R) → Q (.str (word i)) H'
theorem pure__law_refusal {K : PySem.W.Frag} {X : Exs} {ok : List Nat} (hk : ∀ i ∈ ok, RefK K X i) {vs : List V} {H : Hp} {Q : VK} {E : XK} (h : sp__law_refusal X ok vs H Q E) :
    t__law_refusal (C_NoCell := X.nc) (C_NoHand := X.nh) (C_BadNumber := X.bn) (C_NotIn := X.ni) (C_IsIn := X.ii) (C_NoMark := X.nm) (C_BadPairs := X.bp) (C_Gone := X.go) (C_NotHeld := X.nt) (C_NotNow := X.nn) (C_StoreError := X.se) K ⟨fun _ H' => Q .non H', Q, fun _ _ => False, fun _ _ => False⟩ (start ["caught", "kinds", "words"] vs) H := by
  obtain ⟨a, i, R, hi, rfl, hh, q⟩ := h
  obtain ⟨lt, ec, k0, k1, k2, k3, k4, k5, k6, k7, k8, k9, ks, kv, em⟩ := hk i hi
  generalize hD : X.of i = D at *
  unfold t__law_refusal
  walk_at "go"
  rename_i p1 H1 h1 p2 H2 h2 p3 H3 h3 p4 H4 h4 p5 H5 h5 p6 H6 h6 p7 H7 h7
  clear hh h1 h2 h3 h4 h5 h6
  refine k_cntV (by walk_at "hp") rfl rfl ?_
  have hc : ((([V.bl (decide (i = 0)), V.bl (decide (i = 1)), V.bl (decide (i = 2))] ++ [V.bl (decide (i = 3)), V.bl (decide (i = 4)), V.bl (decide (i = 5))] ++ [V.bl (decide (i = 6)), V.bl (decide (i = 7)), V.bl (decide (i = 8))] ++ [V.bl (decide (i = 9))]).countP fun z => eqV z (.bl true) : Nat) : Int) = 1 := by
    have : i = 0 ∨ i = 1 ∨ i = 2 ∨ i = 3 ∨ i = 4 ∨ i = 5 ∨ i = 6 ∨ i = 7 ∨ i = 8 ∨ i = 9 := by omega
    rcases this with h | h | h | h | h | h | h | h | h | h <;> subst h <;> rfl
  walk_at "go"
  refine ifN (by rw [hc]; rfl) ?_
  walk_at "go"
  rename_i p8 H8 h8
  have h9 := h8.sub (show Sub ([(a, ExK (.ref D) none a)] :: R) _ by walk_at "sub")
  have : i = 0 ∨ i = 1 ∨ i = 2 ∨ i = 3 ∨ i = 4 ∨ i = 5 ∨ i = 6 ∨ i = 7 ∨ i = 8 ∨ i = 9 := by omega
  rcases this with h | h | h | h | h | h | h | h | h | h
  all_goals subst h
  · refine k_index (by walk_at "hp") 0 rfl rfl rfl rfl rfl (k_ixL (by walk_at "hp") rfl (q H8 h9))
  · refine k_index (by walk_at "hp") 1 rfl rfl rfl rfl rfl (k_ixL (by walk_at "hp") rfl (q H8 h9))
  · refine k_index (by walk_at "hp") 2 rfl rfl rfl rfl rfl (k_ixL (by walk_at "hp") rfl (q H8 h9))
  · refine k_index (by walk_at "hp") 3 rfl rfl rfl rfl rfl (k_ixL (by walk_at "hp") rfl (q H8 h9))
  · refine k_index (by walk_at "hp") 4 rfl rfl rfl rfl rfl (k_ixL (by walk_at "hp") rfl (q H8 h9))
  · refine k_index (by walk_at "hp") 5 rfl rfl rfl rfl rfl (k_ixL (by walk_at "hp") rfl (q H8 h9))
  · refine k_index (by walk_at "hp") 6 rfl rfl rfl rfl rfl (k_ixL (by walk_at "hp") rfl (q H8 h9))
  · refine k_index (by walk_at "hp") 7 rfl rfl rfl rfl rfl (k_ixL (by walk_at "hp") rfl (q H8 h9))
  · refine k_index (by walk_at "hp") 8 rfl rfl rfl rfl rfl (k_ixL (by walk_at "hp") rfl (q H8 h9))
  · refine k_index (by walk_at "hp") 9 rfl rfl rfl rfl rfl (k_ixL (by walk_at "hp") rfl (q H8 h9))
def sp__law_odd : Sp := fun vs H Q _ => ∃ (t : Addr) (ts : Town) (n : Int) (R : List U), vs = [.ref t, .int n] ∧ 0 ≤ n ∧ Has H (townU t ts :: R) ∧ ts.ok ∧ ∀ (v : V) (u : U) (ts' : Town) H', Odd 0 (n - 1) v u → ts'.ok → Has H' (u :: townU t ts' :: R) → Q v H'
theorem pure__law_odd {K : PySem.W.Frag} {vs : List V} {H : Hp} {Q : VK} {E : XK} (h : sp__law_odd vs H Q E) : t__law_odd K sp__law_pick sp__law_draw ⟨fun _ H' => Q .non H', Q, fun _ _ => False, fun _ _ => False⟩ (start ["town", "most"] vs) H := by
  obtain ⟨t, ts, n, R, rfl, n0, hh, tok, q⟩ := h
  unfold t__law_odd
  walk_at "go"
  rename_i l1 H1 h1
  refine use_draw (h1.sub (show Sub (townU t ts :: _) _ by walk_at "sub")) Sub.rf tok (by omega) (by omega) fun d ts2 H2 d0 d1 tok2 h2 => ?_
  clear hh h1
  walk_at "go"
  rename_i l3 H3 h3
  refine ⟨t, l3, ts2, _, _, rfl, h3.sub (show Sub (townU t ts2 :: [(l3, _)] :: _) _ by walk_at "sub"), by show 0 < 8; decide, by show 8 ≤ 1000; decide, tok2, fun k v ts4 H4 hk tok4 h4 => ?_⟩
  have h5 := Has.nilU.mpr h4
  match k, hk with
  | 0, hk => rw [← Option.some.inj hk]; exact q _ [] ts4 H4 (.int n (by omega)) tok4 (h5.sub (show Sub ([] :: townU t ts4 :: R) _ by walk_at "sub"))
  | 1, hk => rw [← Option.some.inj hk]; exact q _ [] ts4 H4 (.int _ (by omega)) tok4 (h5.sub (show Sub ([] :: townU t ts4 :: R) _ by walk_at "sub"))
  | 2, hk => rw [← Option.some.inj hk]; exact q _ [] ts4 H4 (.bl true) tok4 (h5.sub (show Sub ([] :: townU t ts4 :: R) _ by walk_at "sub"))
  | 3, hk => rw [← Option.some.inj hk]; exact q _ [] ts4 H4 .non tok4 (h5.sub (show Sub ([] :: townU t ts4 :: R) _ by walk_at "sub"))
  | 4, hk => rw [← Option.some.inj hk]; exact q _ [] ts4 H4 (.str _) tok4 (h5.sub (show Sub ([] :: townU t ts4 :: R) _ by walk_at "sub"))
  | 5, hk => rw [← Option.some.inj hk]; exact q _ _ ts4 H4 (.lst l1 _) tok4 (h5.sub (show Sub ([(l1, _)] :: townU t ts4 :: R) _ by walk_at "sub"))
  | 6, hk => rw [← Option.some.inj hk]; exact q _ [] ts4 H4 (.bl false) tok4 (h5.sub (show Sub ([] :: townU t ts4 :: R) _ by walk_at "sub"))
  | 7, hk => rw [← Option.some.inj hk]; exact q _ [] ts4 H4 (.int _ (by omega)) tok4 (h5.sub (show Sub ([] :: townU t ts4 :: R) _ by walk_at "sub"))
end La
namespace La
open PySem L2 Sy
local macro_rules | `(tactic| walk_at "fl") => `(tactic| first | assumption | exact lk_key | exact lk_after)
local macro_rules | `(tactic| walk_at "put") => `(tactic| first | exact lk_put_key | exact lk_put_after | exact lk_p1 | exact lk_p2)
local macro_rules | `(tactic| walk_at "fsl") => `(tactic| first | assumption | exact lk_len | (show 0 < 1000; decide) | (show 1 < 1000; decide))
local macro_rules | `(tactic| walk_at "fl") => `(tactic| first | assumption | exact ch_hands | exact ch_links | exact ch_made | exact ch_era | exact ch_inside | exact ch_at | exact ch_waits | exact ch_m_place_of | exact ch_m_has | exact ch_m_put | exact ch_m_take_out | exact ch_m_keys_in | exact ch_m_look_hand | exact ch_m_look_in | exact ch_m_start | exact ch_m_step | exact ch_m_stop | exact ch_m_go_on | exact ch_m_walkers | exact ch_m___len__)
local macro_rules | `(tactic| walk_at "put") => `(tactic| first | exact ch_put_hands | exact ch_put_links | exact ch_put_made | exact ch_put_era | exact ch_put_inside | exact ch_put_at | exact ch_put_waits | exact ch_p1 | exact ch_p2 | exact ch_p3 | exact ch_p4 | exact ch_p5 | exact ch_p6 | exact ch_p7)
local macro_rules | `(tactic| walk_at "fsl") => `(tactic| first | assumption | exact ch_len | (show 0 < 1000; decide) | (show 1 < 1000; decide) | (show 2 < 1000; decide) | (show 3 < 1000; decide) | (show 4 < 1000; decide) | (show 5 < 1000; decide) | (show 6 < 1000; decide))
/-! ### a chain's refusals -/
section
variable {K : PySem.W.Frag} {C CL CB CN CI CO : Addr} {vs : List V} {H : Hp} {Q : VK} {E : XK}
def sr_chinit (C _CL CB : Addr) : Sp := fun vs H _ E => ∃ (p dx : Addr) (v : V) (u : U) (R : List U), vs = [.ref p, v] ∧ Odd 1 6 v u ∧ Has H ([(p, .ins C dx [])] :: u :: R) ∧ ∀ H', Has H' (u :: R) → E (.ref CB) none H'
theorem purer_chinit (hC : ChC K C CL) (h : sr_chinit C CL CB vs H Q E) : tr_Chain_init K CL (spOr sp_look_number (sr_look_number CB)) (sp_lkinit CL) E ⟨fun _ H' => Q .non H', Q, fun _ _ => False, fun _ _ => False⟩ (start ["self", "hands"] vs) H := by
  obtain ⟨p, dx, v, u, R, rfl, ho, hh, q⟩ := h
  unfold tr_Chain_init
  walk_at "go"
  exact .inr ⟨v, u, 1, 6, R, rfl, ho, hh.sub (Sub.skip Sub.rf), q H (hh.sub (Sub.skip Sub.rf))⟩
def sr_chhas (C CL CB : Addr) : Sp := fun vs H _ E => ∃ (p : Addr) (s : Cha) (v : V) (u : U) (R : List U), vs = [.ref p, v] ∧ Odd 0 999 v u ∧ Has H (chaU C CL p s :: u :: R) ∧ E (.ref CB) none H
theorem purer_chhas (hC : ChC K C CL) (h : sr_chhas C CL CB vs H Q E) : tr_Chain_has K C (spOr sp_look_number (sr_look_number CB)) (sp_place_of C CL) E ⟨fun _ H' => Q .non H', Q, fun _ _ => False, fun _ _ => False⟩ (start ["self", "key", "after"] vs) H := by
  obtain ⟨p, s, v, u, R, rfl, ho, hh, q⟩ := h
  unfold tr_Chain_has
  walk_at "go"
  exact .inr ⟨v, u, 0, 999, _, rfl, ho, hh.sub (show Sub (u :: _) _ by walk_at "sub"), q⟩
def sr_chput (C CL CB : Addr) : Sp := sr_chhas C CL CB
theorem purer_chput (hC : ChC K C CL) (h : sr_chput C CL CB vs H Q E) : tr_Chain_put K C CL (spOr (sp_chhas C CL) (sr_chhas C CL CB)) (sp_place_of C CL) (sp_lkinit CL) E ⟨fun _ H' => Q .non H', Q, fun _ _ => False, fun _ _ => False⟩ (start ["self", "key", "ahead"] vs) H := by
  obtain ⟨p, s, v, u, R, rfl, ho, hh, q⟩ := h
  have hp := (ch_cut hh).g0
  unfold tr_Chain_put
  walk_at "go"
  exact .inr ⟨p, s, v, u, R, rfl, ho, hh, q⟩
def sr_chout (C CL CB : Addr) : Sp := sr_chhas C CL CB
theorem purer_chout (hC : ChC K C CL) (h : sr_chout C CL CB vs H Q E) : tr_Chain_take_out K C (spOr (sp_chhas C CL) (sr_chhas C CL CB)) (sp_place_of C CL) E ⟨fun _ H' => Q .non H', Q, fun _ _ => False, fun _ _ => False⟩ (start ["self", "key", "ahead", "name"] vs) H := by
  obtain ⟨p, s, v, u, R, rfl, ho, hh, q⟩ := h
  have hp := (ch_cut hh).g0
  unfold tr_Chain_take_out
  walk_at "go"
  exact .inr ⟨p, s, v, u, R, rfl, ho, hh, q⟩
def sr_chlook_hand (C CL CN : Addr) : Sp := fun vs H _ E => ∃ (p : Addr) (s : Cha) (v : V) (u : U) (R : List U), vs = [.ref p, v] ∧ Odd 0 (s.hands - 1) v u ∧ Has H (chaU C CL p s :: u :: R) ∧ E (.ref CN) none H
theorem purer_chlook_hand (hC : ChC K C CL) (h : sr_chlook_hand C CL CN vs H Q E) : tr_Chain_look_hand K CN (spOr sp_is_whole sr_is_whole) E ⟨fun _ H' => Q .non H', Q, fun _ _ => False, fun _ _ => False⟩ (start ["self", "hand"] vs) H := by
  obtain ⟨p, s, v, u, R, rfl, ho, h0, q⟩ := h
  obtain ⟨cl, n1, n2, n3, n4, n5, n6, n7, cll, k1, k2⟩ := hC
  have hh := ch_cut h0
  unfold tr_Chain_look_hand
  walk_at "go"
  refine .inr ⟨v, u, 0, _, _, rfl, ho, h0.sub (show Sub (u :: _) _ by walk_at "sub"), ?_⟩
  walk_at "go"
  exact q
/-- no hand, or one that does not walk -/
def sr_chlook_in (C CL CN CO : Addr) : Sp := fun vs H _ E => (∃ (p : Addr) (s : Cha) (v : V) (u : U) (R : List U), vs = [.ref p, v] ∧ Odd 0 (s.hands - 1) v u ∧ Has H (chaU C CL p s :: u :: R) ∧ E (.ref CN) none H) ∨ ∃ (p : Addr) (s : Cha) (k : Int) (R : List U), vs = [.ref p, .int k] ∧ 0 ≤ k ∧ k < s.hands ∧ fd s.inside k = none ∧ Has H (chaU C CL p s :: R) ∧ E (.ref CO) none H
theorem purer_chlook_in (hC : ChC K C CL) (h : sr_chlook_in C CL CN CO vs H Q E) : tr_Chain_look_in K C CO (spOr (sp_chlook_hand C CL) (sr_chlook_hand C CL CN)) E ⟨fun _ H' => Q .non H', Q, fun _ _ => False, fun _ _ => False⟩ (start ["self", "hand"] vs) H := by
  obtain ⟨cl, n1, n2, n3, n4, n5, n6, n7, cll, k1, k2⟩ := hC
  rcases h with ⟨p, s, v, u, R, rfl, ho, h0, q⟩ | ⟨p, s, k, R, rfl, c0, c1, hf, h0, q⟩
  · have hp := (ch_cut h0).g0
    unfold tr_Chain_look_in
    walk_at "go"
    exact .inr ⟨p, s, v, u, R, rfl, ho, h0, q⟩
  · have hh := ch_cut h0
    unfold tr_Chain_look_in
    walk_at "go"
    refine .inl ⟨p, s, k, R, rfl, h0, c0, c1, ?_⟩
    walk_at "go"
    rw [mv_isSome, hf]
    refine ifT ?_
    walk_at "go"
    exact q
def sr_chstart (C CL CN CI : Addr) : Sp := fun vs H _ E => (∃ (p : Addr) (s : Cha) (v : V) (u : U) (R : List U), vs = [.ref p, v] ∧ Odd 0 (s.hands - 1) v u ∧ Has H (chaU C CL p s :: u :: R) ∧ E (.ref CN) none H) ∨ ∃ (p : Addr) (s : Cha) (k : Int) (R : List U), vs = [.ref p, .int k] ∧ 0 ≤ k ∧ k < s.hands ∧ (fd s.inside k).isSome = true ∧ Has H (chaU C CL p s :: R) ∧ E (.ref CI) none H
theorem purer_chstart (hC : ChC K C CL) (h : sr_chstart C CL CN CI vs H Q E) : tr_Chain_start K C CI (spOr (sp_chlook_hand C CL) (sr_chlook_hand C CL CN)) E ⟨fun _ H' => Q .non H', Q, fun _ _ => False, fun _ _ => False⟩ (start ["self", "hand"] vs) H := by
  obtain ⟨cl, n1, n2, n3, n4, n5, n6, n7, cll, k1, k2⟩ := hC
  rcases h with ⟨p, s, v, u, R, rfl, ho, h0, q⟩ | ⟨p, s, k, R, rfl, c0, c1, hf, h0, q⟩
  · have hp := (ch_cut h0).g0
    unfold tr_Chain_start
    walk_at "go"
    exact .inr ⟨p, s, v, u, R, rfl, ho, h0, q⟩
  · have hh := ch_cut h0
    unfold tr_Chain_start
    walk_at "go"
    refine .inl ⟨p, s, k, R, rfl, h0, c0, c1, ?_⟩
    walk_at "go"
    rw [mv_isSome, hf]
    refine ifT ?_
    walk_at "go"
    exact q
def sr_chstop (C CL CN CO : Addr) : Sp := sr_chlook_in C CL CN CO
theorem chin_p (h : sr_chlook_in C CL CN CO vs H Q E) : ∃ p v dx fs, vs = [.ref p, v] ∧ H p = some (.ins C dx fs) ∧ fs.lookup ("look_in" : Str) = none := by
  rcases h with ⟨p, s, v, u, R, rfl, ho, h0, q⟩ | ⟨p, s, k, R, rfl, c0, c1, hf, h0, q⟩
  · exact ⟨p, v, _, _, rfl, (ch_cut h0).g0, ch_m_look_in⟩
  · exact ⟨p, .int k, _, _, rfl, (ch_cut h0).g0, ch_m_look_in⟩
theorem purer_chstop (hC : ChC K C CL) (h : sr_chstop C CL CN CO vs H Q E) : tr_Chain_stop K C (spOr (sp_chlook_in C CL) (sr_chlook_in C CL CN CO)) E ⟨fun _ H' => Q .non H', Q, fun _ _ => False, fun _ _ => False⟩ (start ["self", "hand"] vs) H := by
  obtain ⟨p, v, dx, fs, rfl, hp, hl⟩ := chin_p h
  unfold tr_Chain_stop
  walk_at "go"
  refine .inr ?_
  rcases h with ⟨p, s, v, u, R, e, ho, h0, q⟩ | ⟨p, s, k, R, e, c0, c1, hf, h0, q⟩
  · exact .inl ⟨p, s, v, u, R, e, ho, h0, q⟩
  · exact .inr ⟨p, s, k, R, e, c0, c1, hf, h0, q⟩
def sr_chstep (C CL CN CO : Addr) : Sp := sr_chlook_in C CL CN CO
theorem purer_chstep (hC : ChC K C CL) (h : sr_chstep C CL CN CO vs H Q E) : tr_Chain_step K C (spOr (sp_chlook_in C CL) (sr_chlook_in C CL CN CO)) (spOr (sp_chstop C CL) (sr_chstop C CL CN CO)) E ⟨fun _ H' => Q .non H', Q, fun _ _ => False, fun _ _ => False⟩ (start ["self", "hand", "after"] vs) H := by
  obtain ⟨p, v, dx, fs, rfl, hp, hl⟩ := chin_p h
  unfold tr_Chain_step
  walk_at "go"
  refine .inr ?_
  rcases h with ⟨p, s, v, u, R, e, ho, h0, q⟩ | ⟨p, s, k, R, e, c0, c1, hf, h0, q⟩
  · exact .inl ⟨p, s, v, u, R, e, ho, h0, q⟩
  · exact .inr ⟨p, s, k, R, e, c0, c1, hf, h0, q⟩
end
/-! ### asks that are refused -/
inductive ChRef (s : Cha) : Int → V → U → Nat → Prop where
  | p0 {v : V} {u : U} : Odd 0 999 v u → ChRef s 0 v u 0
  | p1 {v : V} {u : U} : Odd 0 999 v u → ChRef s 1 v u 0
  | p2 {v : V} {u : U} : Odd 0 999 v u → ChRef s 2 v u 0
  | p3 {v : V} {u : U} : Odd 1 6 v u → ChRef s 3 v u 0
  | h4 {v : V} {u : U} : Odd 0 (s.hands - 1) v u → ChRef s 4 v u 1
  | h5 {v : V} {u : U} : Odd 0 (s.hands - 1) v u → ChRef s 5 v u 1
  | h6 {v : V} {u : U} : Odd 0 (s.hands - 1) v u → ChRef s 6 v u 1
  | i4 {k : Int} : 0 ≤ k → k < s.hands → (fd s.inside k).isSome = true → ChRef s 4 (.int k) [] 4
  | n5 {k : Int} : 0 ≤ k → k < s.hands → fd s.inside k = none → ChRef s 5 (.int k) [] 5
  | n6 {k : Int} : 0 ≤ k → k < s.hands → fd s.inside k = none → ChRef s 6 (.int k) [] 5
theorem ChRef.ok {s : Cha} {kd : Int} {v : V} {u : U} {i : Nat} (h : ChRef s kd v u i) : i ∈ [0, 1, 4, 5] := by cases h <;> decide
def sr__law_did (C CL : Addr) (X : Exs) : Sp := fun vs H Q E => (∃ (p : Addr) (s : Cha) (kd : Int) (v : V) (u : U) (i : Nat) (R : List U), vs = [.ref p, .int kd, v] ∧ ChRef s kd v u i ∧ Has H (chaU C CL p s :: u :: R) ∧ ∀ H', Has H' (chaU C CL p s :: u :: R) → E (.ref (X.of i)) none H') ∨
  ∃ (p : Addr) (s : Cha) (k : Int) (R : List U), vs = [.ref p, .int 4, .int k] ∧ Has H (chaU C CL p s :: R) ∧ 0 ≤ k ∧ k < s.hands ∧ fd s.inside k = none ∧ s.inside.length ≤ 500 ∧ s.wh.length ≤ 500 ∧ ∀ H', Has H' (chaU C CL p (s.start k) :: R) → Q .non H'
theorem purer__law_did {K : PySem.W.Frag} {C CL : Addr} {X : Exs} {vs : List V} {H : Hp} {Q : VK} {E : XK} (h : sr__law_did C CL X vs H Q E) :
    tr__law_did K C (spOr (sp_chput C CL) (sr_chput C CL X.bn)) (spOr (sp_chout C CL) (sr_chout C CL X.bn)) (spOr (sp_chhas C CL) (sr_chhas C CL X.bn)) (spOr (sp_chinit C CL) (sr_chinit C CL X.bn)) (spOr (sp_chstart C CL) (sr_chstart C CL X.nh X.ii)) (spOr (sp_chstep C CL) (sr_chstep C CL X.nh X.ni)) (spOr (sp_chstop C CL) (sr_chstop C CL X.nh X.ni)) E ⟨fun _ H' => Q .non H', Q, fun _ _ => False, fun _ _ => False⟩ (start ["chain", "kind", "what"] vs) H := by
  rcases h with ⟨p, s, kd, v, u, i, R, rfl, hr, hh, q⟩ | ⟨p, s, k, R, rfl, hh, c0, c1, hf, l1, l2, q⟩
  · have hp := (ch_cut hh).g0
    unfold tr__law_did
    cases hr with
    | p0 ho =>
      walk_at "go"
      repeat ((first | refine ifT ?_ | refine ifF ?_); (try walk_at "go"))
      exact .inr ⟨p, s, v, u, R, rfl, ho, hh, q H hh⟩
    | p1 ho =>
      walk_at "go"
      repeat ((first | refine ifT ?_ | refine ifF ?_); (try walk_at "go"))
      exact .inr ⟨p, s, v, u, R, rfl, ho, hh, q H hh⟩
    | p2 ho =>
      walk_at "go"
      repeat ((first | refine ifT ?_ | refine ifF ?_); (try walk_at "go"))
      exact .inr ⟨p, s, v, u, R, rfl, ho, hh, q H hh⟩
    | p3 ho =>
      walk_at "go"
      repeat ((first | refine ifT ?_ | refine ifF ?_); (try walk_at "go"))
      rename_i p2 dx H2 h2
      exact .inr ⟨p2, dx, v, u, _, rfl, ho, h2.sub (show Sub ([(p2, _)] :: u :: _) _ by walk_at "sub"), fun H3 h3 => q H3 (h3.sub (show Sub (chaU C CL p s :: u :: R) _ by walk_at "sub"))⟩
    | h4 ho =>
      walk_at "go"
      repeat ((first | refine ifT ?_ | refine ifF ?_); (try walk_at "go"))
      exact .inr (.inl ⟨p, s, v, u, R, rfl, ho, hh, q H hh⟩)
    | h5 ho =>
      walk_at "go"
      repeat ((first | refine ifT ?_ | refine ifF ?_); (try walk_at "go"))
      exact .inr (.inl ⟨p, s, v, u, R, rfl, ho, hh, q H hh⟩)
    | h6 ho =>
      walk_at "go"
      repeat ((first | refine ifT ?_ | refine ifF ?_); (try walk_at "go"))
      exact .inr (.inl ⟨p, s, v, u, R, rfl, ho, hh, q H hh⟩)
    | i4 c0 c1 hf =>
      walk_at "go"
      repeat ((first | refine ifT ?_ | refine ifF ?_); (try walk_at "go"))
      exact .inr (.inr ⟨p, s, _, _, rfl, c0, c1, hf, hh, q H hh⟩)
    | n5 c0 c1 hf =>
      walk_at "go"
      repeat ((first | refine ifT ?_ | refine ifF ?_); (try walk_at "go"))
      exact .inr (.inr ⟨p, s, _, _, rfl, c0, c1, hf, hh, q H hh⟩)
    | n6 c0 c1 hf =>
      walk_at "go"
      repeat ((first | refine ifT ?_ | refine ifF ?_); (try walk_at "go"))
      exact .inr (.inr ⟨p, s, _, _, rfl, c0, c1, hf, hh, q H hh⟩)
  · have hp := (ch_cut hh).g0
    unfold tr__law_did
    walk_at "go"
    repeat ((first | refine ifT ?_ | refine ifF ?_); (try walk_at "go"))
    exact .inl ⟨p, s, k, R, rfl, hh, c0, c1, hf, l1, l2, q⟩
def sp__law_asked (C CL : Addr) (X : Exs) : Sp := fun vs H Q _ => (∃ (p : Addr) (s : Cha) (kd : Int) (v : V) (u : U) (i : Nat) (R : List U), vs = [.ref p, .int kd, v] ∧ ChRef s kd v u i ∧ Has H (chaU C CL p s :: u :: R) ∧ ∀ H', Has H' (chaU C CL p s :: u :: R) → Q (.str (word i)) H') ∨
  ∃ (p : Addr) (s : Cha) (k : Int) (R : List U), vs = [.ref p, .int 4, .int k] ∧ Has H (chaU C CL p s :: R) ∧ 0 ≤ k ∧ k < s.hands ∧ fd s.inside k = none ∧ s.inside.length ≤ 500 ∧ s.wh.length ≤ 500 ∧ ∀ H', Has H' (chaU C CL p (s.start k) :: R) → Q (.str "told") H'
theorem pure__law_asked {K : PySem.W.Frag} {C CL : Addr} {X : Exs} (hk : ∀ i ∈ [0, 1, 4, 5], RefK K X i) {vs : List V} {H : Hp} {Q : VK} {E : XK} (h : sp__law_asked C CL X vs H Q E) :
    t__law_asked K X.se (sr__law_did C CL X) (sp__law_refusal X [0, 1, 4, 5]) ⟨fun _ H' => Q .non H', Q, fun _ _ => False, fun _ _ => False⟩ (start ["chain", "kind", "what", "caught", "e"] vs) H := by
  rcases h with ⟨p, s, kd, v, u, i, R, rfl, hr, hh, q⟩ | ⟨p, s, k, R, rfl, hh, c0, c1, hf, l1, l2, q⟩
  · have RK := hk i hr.ok
    unfold t__law_asked
    walk_at "go"
    refine .inl ⟨p, s, kd, v, u, i, R, rfl, hr, hh, fun H1 h1 => ?_⟩
    refine k_keep RK.em (show 4 < 5 by decide) h1 fun a H2 h2 => ?_
    walk_at "go"
    exact ⟨a, i, _, hr.ok, rfl, h2, fun H3 h3 => q H3 (h3.sub (Sub.skip Sub.rf))⟩
  · unfold t__law_asked
    walk_at "go"
    refine .inr ⟨p, s, k, R, rfl, hh, c0, c1, hf, l1, l2, fun H1 h1 => ?_⟩
    walk_at "go"
    exact q H1 h1
end La
namespace La
open PySem L2 Sy
local macro_rules | `(tactic| walk_at "fl") => `(tactic| first | assumption | exact lk_key | exact lk_after)
local macro_rules | `(tactic| walk_at "put") => `(tactic| first | exact lk_put_key | exact lk_put_after | exact lk_p1 | exact lk_p2)
local macro_rules | `(tactic| walk_at "fsl") => `(tactic| first | assumption | exact lk_len | (show 0 < 1000; decide) | (show 1 < 1000; decide))
local macro_rules | `(tactic| walk_at "fl") => `(tactic| first | assumption | exact ch_hands | exact ch_links | exact ch_made | exact ch_era | exact ch_inside | exact ch_at | exact ch_waits | exact ch_m_place_of | exact ch_m_has | exact ch_m_put | exact ch_m_take_out | exact ch_m_keys_in | exact ch_m_look_hand | exact ch_m_look_in | exact ch_m_start | exact ch_m_step | exact ch_m_stop | exact ch_m_go_on | exact ch_m_walkers | exact ch_m___len__)
local macro_rules | `(tactic| walk_at "put") => `(tactic| first | exact ch_put_hands | exact ch_put_links | exact ch_put_made | exact ch_put_era | exact ch_put_inside | exact ch_put_at | exact ch_put_waits | exact ch_p1 | exact ch_p2 | exact ch_p3 | exact ch_p4 | exact ch_p5 | exact ch_p6 | exact ch_p7)
local macro_rules | `(tactic| walk_at "fsl") => `(tactic| first | assumption | exact ch_len | (show 0 < 1000; decide) | (show 1 < 1000; decide) | (show 2 < 1000; decide) | (show 3 < 1000; decide) | (show 4 < 1000; decide) | (show 5 < 1000; decide) | (show 6 < 1000; decide))
/-! ### the law -/
def sp_law (K : PySem.W.Frag) : Sp := fun vs H Q _ => ∃ (a : Addr) (ns : List Int), vs = [.ref a] ∧ SqL K H a (ns.map V.int) ∧ ns.length ≤ 63 ∧ ∀ H', Q (.bl true) H'
abbrev TL (K : PySem.W.Frag) (C CL : Addr) (X : Exs) (f : PySem.W.Frag → Addr → Sp → Sp → Sp → Sp → Sp → Sp → Sp → Sp → Sp → Sp → Sp → TS) : TS := f K C (sp__law_town K) sp__law_draw (sp_chinit C CL) (sp_chput C CL) (sp_chstart C CL) (sp_chstep C CL) sp__law_odd (sp__law_asked C CL X) sp__law_pick (sp_keys_in C CL) (sp_walkers C CL)
structure I19 (s : Cha) (live : List (Int × Int)) (ks : List Int) (hn : Int) : Prop where
  w : ChOk s live
  ek : live.map (·.2) = ks
  ins : s.inside = []
  wh : s.wh = []
  hh : s.hands = hn
  bl : s.links.length ≤ 1 + ks.length
theorem I19.put {s : Cha} {live : List (Int × Int)} {ks : List Int} {hn : Int} (I : I19 s live ks hn) (hl : ks.length < 40) {key : Int} {A B : List (Int × Int)} {n c : Int} {l : Lk} {x xd : Addr} (h : At live key A n c B) (hf : fd s.links n = some l) (k0 : 0 ≤ key) (k9 : key ≤ 999) (hk : ∀ z ∈ ks, z < key) : ∃ live', I19 (s.put n key l x xd) live' (ks ++ [key]) hn := by
  have hbl := I.bl
  have hk2 : ¬ key ∈ live.map (·.2) := fun h => by rw [I.ek] at h; exact Int.lt_irrefl _ (hk _ h)
  obtain ⟨live', e, w', hm, hl⟩ := I.w.put h hf k0 k9 hk2 (by omega) x xd
  refine ⟨live', w', ?_, I.ins, I.wh, I.hh, ?_⟩
  · refine rise_eq w'.so (List.pairwise_append.mpr ⟨by rw [← I.ek]; exact I.w.so, List.pairwise_singleton _ _, fun a ha b hb => by rw [List.mem_singleton.mp hb]; exact hk a ha⟩) fun z => ?_
    rw [List.mem_append, List.mem_singleton, ← I.ek]
    constructor
    · intro hz
      obtain ⟨q, hq, rfl⟩ := List.mem_map.mp hz
      rcases (hm q).mp hq with h1 | h1
      · exact .inl (List.mem_map.mpr ⟨q, h1, rfl⟩)
      · rw [h1]; exact .inr rfl
    · rintro (hz | hz)
      · obtain ⟨q, hq, rfl⟩ := List.mem_map.mp hz
        exact List.mem_map.mpr ⟨q, (hm q).mpr (.inl hq), rfl⟩
      · rw [hz]
        exact List.mem_map.mpr ⟨(s.made, key), (hm _).mpr (.inr rfl), rfl⟩
  · rw [put_len' hf (made_new I.w), List.length_append]
    show _ ≤ 1 + (ks.length + 1)
    omega
theorem I19.zero {dx la ia aa wa x xd : Addr} {h : Int} : I19 ⟨dx, la, ia, aa, wa, h, 1, 0, [(0, ⟨x, xd, -1, none⟩)], [], [], []⟩ [] [] h := ⟨ChOk.zero, rfl, rfl, rfl, rfl, Nat.le_refl _⟩
/-- the chain while the asks are refused -/
structure J19 (s : Cha) (live : List (Int × Int)) (hn hand : Int) (e : Int) : Prop where
  w : ChOk s live
  hh : s.hands = hn
  ins : s.inside = [(hand, e)]
  wl : s.wh.length ≤ 1
theorem I19.start {s : Cha} {live : List (Int × Int)} {ks : List Int} {hn : Int} (I : I19 s live ks hn) (hand : Int) : J19 (s.start hand) live hn hand s.era := by
  refine ⟨⟨I.w.pa, I.w.so, I.w.kr, I.w.nd, I.w.nm, I.w.nw, I.w.lw, I.w.wl, I.w.ln, I.w.bd⟩, I.hh, ?_, ?_⟩
  · show pu s.inside hand s.era = _
    rw [I.ins]; rfl
  · show (pu s.wh hand 0).length ≤ 1
    rw [I.wh]; exact Nat.le_refl _
theorem J19.step {s : Cha} {live : List (Int × Int)} {hn hand e a c m c2 : Int} {r : List (Int × Int)} (J : J19 s live hn hand e) (W : Wp s hand a c ((m, c2) :: r) e) : J19 { s with wh := pu s.wh hand m } live hn hand e := by
  refine ⟨⟨J.w.pa, J.w.so, J.w.kr, J.w.nd, J.w.nm, J.w.nw, J.w.lw, J.w.wl, J.w.ln, J.w.bd⟩, J.hh, J.ins, ?_⟩
  show (pu s.wh hand m).length ≤ 1
  rw [pu_len_old W.fw]
  exact J.wl
theorem J19.other {s : Cha} {live : List (Int × Int)} {hn hand e k : Int} (J : J19 s live hn hand e) (h : k ≠ hand) : fd s.inside k = none := by
  rw [J.ins, fd_neg (fun h2 => h h2.symm)]; rfl
theorem J19.own {s : Cha} {live : List (Int × Int)} {hn hand e : Int} (J : J19 s live hn hand e) : fd s.inside hand = some e := by
  rw [J.ins, fd_pos rfl]
theorem dpInts {K : PySem.W.Frag} {H : Hp} : ∀ (ns : List Int) {ys : List V} {ds : List PyData}, DpAll K H ys ds → DpAll K H (ns.map V.int ++ ys) (ns.map PyData.int ++ ds)
  | [], _, _, h => h
  | n :: r, _, _, h => .cons (.int n) (dpInts r h)
theorem neStr3 {K : PySem.W.Frag} {H : Hp} {Q : VK} {a b : Addr} {s : Str} (ok : PyData.strOk s = true) (ha : H a = some (.lst [.str s, .str s, .str s])) (hb : H b = some (.lst [.str s, .str s, .str s])) (q : Q (.bl false) H) : rNeD K (.ref a) (.ref b) H Q :=
  k_neSame (dd := .list [.str s, .str s, .str s]) (.lst (SqL.of ha) (.cons (.str s) (.cons (.str s) (.cons (.str s) .nil)))) (.lst (SqL.of hb) (.cons (.str s) (.cons (.str s) (.cons (.str s) .nil)))) (by simp [SeqAt.shaped, PyData.canLay0, PyData.canLayAll0, PyData.depth, PyData.depthAll, ok]) q
theorem neStr2 {K : PySem.W.Frag} {H : Hp} {Q : VK} {a b : Addr} {s : Str} (ok : PyData.strOk s = true) (ha : H a = some (.lst [.str s, .str s])) (hb : H b = some (.lst [.str s, .str s])) (q : Q (.bl false) H) : rNeD K (.ref a) (.ref b) H Q :=
  k_neSame (dd := .list [.str s, .str s]) (.lst (SqL.of ha) (.cons (.str s) (.cons (.str s) .nil))) (.lst (SqL.of hb) (.cons (.str s) (.cons (.str s) .nil))) (by simp [SeqAt.shaped, PyData.canLay0, PyData.canLayAll0, PyData.depth, PyData.depthAll, ok]) q
/-- an ask within the law, what is asked of it at hand -/
theorem use_asked {C CL : Addr} {X : Exs} {p : Addr} {s : Cha} {kd : Int} {v : V} {u : U} {i : Nat} {H : Hp} {L R : List U} {Q : VK} {E : XK} (hr : ChRef s kd v u i) (hh : Has H L) (hs : Sub (chaU C CL p s :: u :: R) L) (q : ∀ H', Has H' (chaU C CL p s :: u :: R) → Q (.str (word i)) H') : sp__law_asked C CL X [.ref p, .int kd, v] H Q E :=
  .inl ⟨p, s, kd, v, u, i, R, rfl, hr, hh.sub hs, q⟩
def P19 (C CL a t p ka : Addr) (hn hand other first : Int) (ys : List Int) (s : Cha) (σ : St) (H : Hp) : Prop := ∃ (ts : Town) (w7 w8 w10 w11 w12 w13 : Option V), σ = [some (.ref a), some (.ref t), some (.int hn), some (.ref p), some (.int hand), some (.int other), some (.ref ka), w7, w8, some (.int first), w10, w11, w12, w13] ∧ Has H [chaU C CL p s, townU t ts, [(ka, .lst (ys.map V.int))]] ∧ ts.ok
theorem k19_turn {K : PySem.W.Frag} {C CL a t p ka : Addr} {X : Exs} {hn hand other first e : Int} {ys : List Int} {s : Cha} {live : List (Int × Int)} {Q : VK} {bk ct : St → Hp → Prop} {σ : St} {H : Hp} (J : J19 s live hn hand e) (n2 : 2 ≤ hn) (n6 : hn ≤ 6) (h0 : 0 ≤ hand) (h1 : hand < hn) (o0 : 0 ≤ other) (o1 : other < hn) (ho : other ≠ hand) (h : P19 C CL a t p ka hn hand other first ys s σ H) :
    TL K C CL X t_law_b1 ⟨P19 C CL a t p ka hn hand other first ys s, Q, bk, ct⟩ σ H := by
  obtain ⟨ts, w7, w8, w10, w11, w12, w13, rfl, hh, tok⟩ := h
  have hJ := J.hh
  unfold TL t_law_b1
  walk_at "go"
  refine ⟨t, ts, 1000, _, rfl, by omega, hh.sub (show Sub (townU t ts :: _) _ by walk_at "sub"), tok, fun v u ts1 H1 hv tok1 h1' => ?_⟩
  have hv : Odd 0 999 v u := hv
  clear hh
  walk_at "go"
  refine k_lcRM (fun _ => .str "number") h1' (by omega) (fun z z0 z1 D M H' Q' h' q' => ?_) fun D H2 h2 => ?_
  · have hr : ChRef s z v u 0 := by
      rcases (by omega : z = 0 ∨ z = 1 ∨ z = 2) with h | h | h <;> subst h
      · exact .p0 hv
      · exact .p1 hv
      · exact .p2 hv
    walk_at "go"
    refine use_asked hr h' (show Sub (chaU C CL p s :: u :: _) _ by walk_at "sub") fun H3 h3 => q' H3 (h3.sub (show Sub ([(D, .lst M)] :: u :: townU t ts1 :: chaU C CL p s :: [(ka, .lst (ys.map V.int))] :: []) _ by walk_at "sub"))
  clear h1'
  walk_at "go"
  rename_i d3 H3 h3 d4 H4 h4
  refine neStr3 (s := "number") (by decide +kernel) h4.g2 h4.g0 ?_
  walk_at "go"
  rename_i d5 H5 h5 d6 H6 h6
  clear h2 h3 h4 h5
  refine ⟨t, d6, ts1, _, _, rfl, h6.sub (show Sub (townU t ts1 :: [(d6, _)] :: _) _ by walk_at "sub"), by show 0 < 7; decide, by show 7 ≤ 1000; decide, tok1, fun k v2 ts2 H7 hk tok2 h7 => ?_⟩
  obtain ⟨u2, hv2, h8⟩ : ∃ u2, Odd 1 6 v2 u2 ∧ Has H7 (chaU C CL p s :: u2 :: townU t ts2 :: [(ka, .lst (ys.map V.int))] :: []) := by
    have h9 := Has.nilU.mpr h7
    match k, hk with
    | 0, hk => rw [← Option.some.inj hk]; exact ⟨[], .int 0 (by omega), h9.sub (show Sub (chaU C CL p s :: [] :: townU t ts2 :: [(ka, _)] :: []) _ by walk_at "sub")⟩
    | 1, hk => rw [← Option.some.inj hk]; exact ⟨[], .int 7 (by omega), h9.sub (show Sub (chaU C CL p s :: [] :: townU t ts2 :: [(ka, _)] :: []) _ by walk_at "sub")⟩
    | 2, hk => rw [← Option.some.inj hk]; exact ⟨[], .int _ (by omega), h9.sub (show Sub (chaU C CL p s :: [] :: townU t ts2 :: [(ka, _)] :: []) _ by walk_at "sub")⟩
    | 3, hk => rw [← Option.some.inj hk]; exact ⟨[], .bl true, h9.sub (show Sub (chaU C CL p s :: [] :: townU t ts2 :: [(ka, _)] :: []) _ by walk_at "sub")⟩
    | 4, hk => rw [← Option.some.inj hk]; exact ⟨[], .non, h9.sub (show Sub (chaU C CL p s :: [] :: townU t ts2 :: [(ka, _)] :: []) _ by walk_at "sub")⟩
    | 5, hk => rw [← Option.some.inj hk]; exact ⟨[], .str _, h9.sub (show Sub (chaU C CL p s :: [] :: townU t ts2 :: [(ka, _)] :: []) _ by walk_at "sub")⟩
    | 6, hk => rw [← Option.some.inj hk]; exact ⟨[(d5, _)], .lst d5 _, h9.sub (show Sub (chaU C CL p s :: [(d5, _)] :: townU t ts2 :: [(ka, _)] :: []) _ by walk_at "sub")⟩
  clear h6 h7
  walk_at "go"
  refine use_asked (.p3 hv2) h8 Sub.rf fun H9 h9 => ?_
  clear h8
  walk_at "go"
  refine ifN (by decide +kernel) ?_
  walk_at "go"
  refine ⟨t, ts2, hn, _, rfl, by omega, h9.sub (show Sub (townU t ts2 :: _) _ by walk_at "sub"), tok2, fun v3 u3 ts3 H10 hv3 tok3 h10 => ?_⟩
  clear h9
  rw [← hJ] at hv3
  walk_at "go"
  rename_i d11 H11 h11
  refine k_lcM [4, 5, 6] V.int (fun _ => .str "hand") h11 (fun H' h' => h'.g0) (by decide) (fun z hz D M H' Q' h' q' => ?_) fun D12 H12 h12 => ?_
  · have hr : ChRef s z v3 u3 1 := by
      rcases (by simpa using hz : z = 4 ∨ z = 5 ∨ z = 6) with h | h | h <;> subst h
      · exact .h4 hv3
      · exact .h5 hv3
      · exact .h6 hv3
    walk_at "go"
    refine use_asked hr h' (show Sub (chaU C CL p s :: u3 :: _) _ by walk_at "sub") fun H3 h3 => q' H3 (h3.sub (by walk_at "sub"))
  clear h10 h11
  walk_at "go"
  rename_i d13 H13 h13 d14 H14 h14
  refine neStr3 (s := "hand") (by decide +kernel) h14.g2 h14.g0 ?_
  clear h12 h13
  walk_at "go"
  rename_i d15 H15 h15
  have h15 := Has.nilU.mpr (h15.sub (show Sub (chaU C CL p s :: townU t ts3 :: [(ka, _)] :: [(d15, .lst ([5, 6].map V.int))] :: []) _ by walk_at "sub"))
  clear h14
  refine k_lcM [5, 6] V.int (fun _ => .str "not in") h15 (fun H' h' => by walk_at "hp") (by decide) (fun z hz D M H' Q' h' q' => ?_) fun D16 H16 h16 => ?_
  · have hr : ChRef s z (.int other) [] 5 := by
      rcases (by simpa using hz : z = 5 ∨ z = 6) with h | h <;> subst h
      · exact .n5 o0 (by omega) (J.other ho)
      · exact .n6 o0 (by omega) (J.other ho)
    walk_at "go"
    refine use_asked hr h' (show Sub (chaU C CL p s :: [] :: _) _ from Sub.p2 (Sub.p1 Sub.rf)) fun H3 h3 => q' H3 (h3.sub (show Sub ([(D, .lst M)] :: [] :: chaU C CL p s :: _) _ from Sub.p2 (Sub.p1 (Sub.p0 Sub.rf))))
  clear h15
  walk_at "go"
  rename_i d17 H17 h17 d18 H18 h18
  refine neStr2 (s := "not in") (by decide +kernel) h18.g2 h18.g0 ?_
  clear h16 h17
  walk_at "go"
  have h19 := Has.nilU.mpr (h18.sub (show Sub (chaU C CL p s :: townU t ts3 :: [(ka, .lst (ys.map V.int))] :: []) _ by walk_at "sub"))
  refine use_asked (.i4 h0 (by omega) (by rw [J.own]; rfl)) h19 (show Sub (chaU C CL p s :: [] :: _) _ from Sub.p1 (Sub.p0 Sub.rf)) fun H20 h20 => ?_
  clear h18 h19
  walk_at "go"
  refine ifN (by decide +kernel) ?_
  walk_at "go"
  exact ⟨ts3, _, _, _, _, _, _, rfl, h20.sub (show Sub [chaU C CL p s, townU t ts3, [(ka, _)]] _ from Sub.p0 (Sub.skip Sub.rf)), tok3⟩
/-- the list's tail -/
theorem k_tail {K : PySem.W.Frag} {H : Hp} {L : List U} {Q : VK} {a : Addr} {xs : List V} (hh : Has H L) (hp : H a = some (.lst xs)) (hl : 1 ≤ xs.length) (q : ∀ p H', Has H' ([(p, .lst (xs.drop 1))] :: L) → Q (.ref p) H') : rSlL K (.ref a) (some 1) none H Q := by
  have e : cutV xs (some 1) none = xs.drop 1 := by
    unfold cutV
    rw [show HT.sIx xs.length 0 (some 1) = 1 by unfold HT.sIx; simp only []; rw [if_neg (by decide)]; show min 1 xs.length = 1; omega]
    exact List.take_of_length_le (by rw [List.length_drop]; exact Nat.le_refl _)
  refine ⟨a, xs, rfl, SqL.of hp, fun p hn => ?_⟩
  rw [e]
  exact q p _ (hh.nw hn)
theorem lay_iN (ns : List Int) : PyData.canLayAll0 (ns.map PyData.int ++ [.none]) = true := by
  induction ns with
  | nil => simp [PyData.canLayAll0, PyData.canLay0]
  | cons n r ih => rw [List.map_cons, List.cons_append]; simp only [PyData.canLayAll0, PyData.canLay0, ih, Bool.and_self]
theorem deep_iN (ns : List Int) : PyData.depthAll (ns.map PyData.int ++ [.none]) ≤ 1 := by
  induction ns with
  | nil => simp [PyData.depthAll, PyData.depth]
  | cons n r ih => rw [List.map_cons, List.cons_append]; simp only [PyData.depthAll, PyData.depth]; omega
theorem shaped_iN (ns : List Int) : SeqAt.shaped (.list (ns.map PyData.int ++ [.none])) = true := by
  have h := deep_iN ns
  simp only [SeqAt.shaped, PyData.canLay0, lay_iN, PyData.depth, Bool.true_and]
  exact decide_eq_true (by omega)
theorem ifY {b : Bool} {A B : Prop} (h : b = true) (a : A) : if b = true then A else B := by rw [if_pos h]; exact a
theorem take_lt {ys : List Int} (h : ys.Pairwise (· < ·)) {i : Nat} {key : Int} (hk : ys[i]? = some key) : ∀ z ∈ ys.take i, z < key := by
  intro z hz
  have e : ys.take i ++ ys.drop i = ys := List.take_append_drop i ys
  rw [← e] at h
  refine (List.pairwise_append.mp h).2.2 z hz key (List.mem_of_getElem? (i := 0) ?_)
  rw [List.getElem?_drop]
  exact hk
theorem x_sl {r : V → Option Int → Option Int → Hp → VK → Prop} {te : TE} {tl th : TO} {σ : St} {H : Hp} {Q : VK} (q : te σ H fun x H1 => tl σ H1 fun l H2 => th σ H2 fun u H3 => r x l u H3 Q) : L2.tSl r te tl th σ H Q := q
theorem x_nop {σ : St} {H : Hp} {Q : Option Int → Hp → Prop} (q : Q none H) : tNoPart σ H Q := q
theorem x_part1 {i : Int} {σ : St} {H : Hp} {Q : Option Int → Hp → Prop} (q : Q (some i) H) : tPart (tC (.int i)) σ H Q := ⟨i, rfl, q⟩
def Q19 (C CL t p ka D : Addr) (ts : Town) (ys : List Int) (live : List (Int × Int)) (hn hand e : Int) (i : Nat) (H : Hp) : Prop :=
  (i < live.length ∧ ∃ (s : Cha) (a c : Int), J19 s live hn hand e ∧ Wp s hand a c (live.drop (i + 1)) e ∧ Has H ([(D, .lst (((ys.drop 1).map V.int).take i))] :: [chaU C CL p s, townU t ts, [(ka, .lst (ys.map V.int))]])) ∨
  (i = live.length ∧ ∃ (s : Cha), s.hands = hn ∧ s.inside = [] ∧ s.wh.length ≤ 1 ∧ Has H ([(D, .lst ((ys.drop 1).map V.int ++ [.non]))] :: [chaU C CL p s, townU t ts, [(ka, .lst (ys.map V.int))]]))
def P19a (C CL a t p ka : Addr) (hn hand other : Int) (ys : List Int) (ts : Town) (i : Nat) (σ : St) (H : Hp) : Prop := ∃ (s : Cha) (live : List (Int × Int)) (w7 w8 : Option V), σ = [some (.ref a), some (.ref t), some (.int hn), some (.ref p), some (.int hand), some (.int other), some (.ref ka), w7, w8, none, none, none, none, none] ∧ Has H [chaU C CL p s, townU t ts, [(ka, .lst (ys.map V.int))]] ∧ I19 s live (ys.take i) hn
theorem pure_law {K : PySem.W.Frag} {C CL : Addr} {X : Exs} {vs : List V} {H : Hp} {Q : VK} {E : XK} (h : sp_law K vs H Q E) :
    TL K C CL X t_law ⟨fun _ H' => Q .non H', Q, fun _ _ => False, fun _ _ => False⟩ (start ["script", "town", "hands", "chain", "hand", "other", "keys", "k", "key", "first", "turn", "odd", "kind", "rest"] vs) H := by
  obtain ⟨a, ns, rfl, hs, hl, q⟩ := h
  unfold TL t_law
  walk_at "go"
  refine ⟨a, ns, rfl, hs, hl, fun t ts H1 tok h1 => ?_⟩
  walk_at "go"
  refine use_draw h1 Sub.rf tok (by decide) (by decide) fun d ts2 H2 n0 n1 tok2 h2 => ?_
  clear h1
  walk_at "go"
  rename_i p dx H3 h3
  refine ⟨p, dx, 2 + d, _, rfl, h3, by omega, by omega, fun la ia aa wa x xd H4 h4 => ⟨rfl, ?_⟩⟩
  clear h2 h3
  walk_at "go"
  refine use_draw (h4.sub (show Sub (townU t ts2 :: _) _ by walk_at "sub")) Sub.rf tok2 (by omega) (by omega) fun hand ts3 H5 a0 a1 tok3 h5 => ?_
  clear h4
  walk_at "go"
  have I0 : I19 ⟨dx, la, ia, aa, wa, 2 + d, 1, 0, [(0, ⟨x, xd, -1, none⟩)], [], [], []⟩ [] [] (2 + d) := I19.zero
  generalize (⟨dx, la, ia, aa, wa, 2 + d, 1, 0, [(0, ⟨x, xd, -1, none⟩)], [], [], []⟩ : Cha) = s0 at h5 I0
  have o0 : 0 ≤ (hand + 1) % (2 + d) := Int.emod_nonneg _ (by omega)
  have o1 : (hand + 1) % (2 + d) < 2 + d := Int.emod_lt_of_pos _ (by omega)
  have ho : (hand + 1) % (2 + d) ≠ hand := by
    by_cases h : hand + 1 < 2 + d
    · rw [Int.emod_eq_of_lt (by omega) h]; omega
    · have e : hand + 1 = 2 + d := by omega
      rw [e, Int.emod_self]; omega
  generalize (hand + 1) % (2 + d) = other at *
  refine k_lcR (L := townU t ts3 :: [chaU C CL p s0]) h5 (fun D i H' => ∃ (zs : List Int) (ts' : Town), ts'.ok ∧ zs.length = i ∧ (∀ z ∈ zs, 0 ≤ z ∧ z ≤ 999) ∧ Has H' ([(D, .lst (zs.map V.int))] :: townU t ts' :: [chaU C CL p s0])) (by omega) (fun D H' h' => ⟨[], ts3, tok3, rfl, fun q hq => absurd hq List.not_mem_nil, h'⟩) (fun D i H' hi h' => ?_) (fun D H' h' => ?_)
  · obtain ⟨zs, ts', tok', hl', hz, h'⟩ := h'
    refine x_gname ⟨rfl, ?_⟩
    walk_at "go"
    refine use_draw (h'.sub (show Sub (townU t ts' :: _) _ by walk_at "sub")) Sub.rf tok' (by omega) (by omega) fun dd ts4 H2 d0 d1 tok4 h2 => ?_
    refine ⟨_, h2.g1, by rw [List.length_map, sizeLine_eq]; omega, zs ++ [dd], ts4, tok4, by rw [List.length_append, hl']; rfl, fun z hz' => ?_, ?_⟩
    · rcases List.mem_append.mp hz' with h | h
      · exact hz z h
      · rw [List.mem_singleton.mp h]; omega
    · rw [show zs.map V.int ++ [V.int dd] = (zs ++ [dd]).map V.int by rw [List.map_append]; rfl]
      exact h2.s1.sub (Sub.p1 Sub.rf)
  clear h5
  obtain ⟨zs, ts4, tok4, hl', hz, h5⟩ := h'
  have hl' : zs.length = 4 := hl'
  have hl64 : zs.length < 64 := by omega
  walk_at "go"
  rename_i ys ka H6 hso hm h6
  clear h5
  have yl := nodup_sub_len (rise_nodup hso) fun k hk => (hm k).mp hk
  have h7 := h6.sub (show Sub [chaU C CL p s0, townU t ts4, [(ka, .lst (ys.map V.int))]] _ by walk_at "sub")
  clear h6
  refine k_forL (P19a C CL a t p ka (2 + d) hand other ys ts4) (by walk_at "hp") ⟨s0, [], _, _, rfl, h7, by rw [List.take_zero]; exact I0⟩ (fun i σ H ⟨_, _, _, _, _, h, _⟩ => h.g2) (fun i x σ H hx hP => ?_) (fun σ H hP => ?_)
  · rw [List.getElem?_map] at hx
    obtain ⟨key, hk, rfl⟩ := Option.map_eq_some_iff.mp hx
    obtain ⟨s, live, w7, w8, rfl, hh, I⟩ := hP
    obtain ⟨z0, z9⟩ := hz key ((hm key).mp (List.mem_of_getElem? hk))
    have hlt := take_lt hso hk
    have hp := (ch_cut hh).g0
    clear h7
    refine x_gname ?_
    unfold t_law_b0
    walk_at "go"
    refine ⟨p, s, live, key, _, rfl, hh, I.w, z0, z9, fun hb => absurd hb fun hb => ?_, fun hb A n c B l x xd H7 hA hf h7 => ?_⟩
    · rw [I.ek] at hb; exact Int.lt_irrefl _ (hlt _ hb)
    · walk_at "go"
      obtain ⟨live', I'⟩ := I.put (x := x) (xd := xd) (by rw [List.length_take]; omega) hA hf z0 z9 hlt
      refine ⟨_, live', _, _, rfl, h7, ?_⟩
      rw [List.take_add_one, hk]
      exact I'
  obtain ⟨s, live, w7, w8, rfl, hh, I⟩ := hP
  clear h7
  rw [List.length_map, List.take_length] at I
  have hlen : live.length = ys.length := by rw [← I.ek, List.length_map]
  have hne : live ≠ [] := fun h => by
    rw [h] at hlen
    have hz0 := List.getElem_mem (l := zs) (n := 0) (by omega)
    have := List.length_pos_of_mem ((hm _).mpr hz0)
    rw [← hlen] at this
    exact absurd this (by decide)
  obtain ⟨⟨m, c2⟩, r, el⟩ := List.exists_cons_of_ne_nil hne
  have ey : ys = c2 :: r.map (·.2) := by rw [← I.ek, el]; rfl
  have hp := (ch_cut hh).g0
  walk_at "go"
  refine ⟨p, s, hand, _, rfl, hh, a0, by rw [I.hh]; exact a1, by rw [I.ins]; rfl, by rw [I.ins]; exact Nat.zero_le _, by rw [I.wh]; exact Nat.zero_le _, fun H7 h7 => ?_⟩
  have J := I.start hand
  have W := Wp.start I.w hand
  generalize s.start hand = s1 at h7 J W
  generalize s.era = e at J W
  clear hh hp
  have hp := (ch_cut h7).g0
  rw [el] at W
  walk_at "go"
  refine ⟨p, s1, hand, 0, -1, _, _, rfl, h7, a0, by rw [J.hh]; exact a1, by rw [J.own]; rfl, W.fw, by have := J.wl; omega, W.pa, (fun e => by cases e), fun m' c' r' e' H8 h8 => ?_⟩
  cases e'
  have J2 := J.step W
  have W2 := W.step
  generalize ({ s1 with wh := pu s1.wh hand m } : Cha) = s2 at h8 J2 W2
  clear h7 hp
  walk_at "go"
  refine k_forR (fun _ => P19 C CL a t p ka (2 + d) hand other c2 ys s2) ⟨ts4, _, _, _, _, _, _, rfl, h8, tok4⟩ (by omega) (fun i σ H hi hP => ?_) (fun σ H hP => ?_)
  · obtain ⟨ts5, w7, w8, w10, w11, w12, w13, rfl, h9, tok5⟩ := hP
    exact k19_turn J2 (by omega) (by omega) a0 a1 o0 o1 ho ⟨ts5, _, _, _, _, _, _, rfl, h9, tok5⟩
  obtain ⟨ts5, w7, w8, w10, w11, w12, w13, rfl, h9, tok5⟩ := hP
  have hp := (ch_cut h9).g0
  clear h8
  walk_at "go"
  refine ⟨p, s2, _, _, rfl, h9, J2.w, fun d10 H10 h10 => ?_⟩
  rw [I.ek] at h10
  clear h9 hp
  have hp := (ch_cut (h10.sub (show Sub (chaU C CL p s2 :: _) _ by walk_at "sub"))).g0
  walk_at "go"
  refine ifN (by simp) ?_
  walk_at "go"
  refine ⟨p, s2, _, rfl, h10.sub (show Sub (chaU C CL p s2 :: _) _ by walk_at "sub"), by rw [J2.ins]; show 1 < 64; decide, fun d11 H11 h11 => ?_⟩
  rw [J2.ins, show srtI ([(hand, e)].map (·.1)) = [hand] from (srtI_eq (.refl _) (List.pairwise_singleton _ _)).symm] at h11
  clear h10 hp
  walk_at "go"
  rename_i d12 H12 h12
  clear h11
  refine k_neLI (ns := [hand]) (ms := [hand]) (by walk_at "hp") (by walk_at "hp") ?_
  walk_at "go"
  refine ifN (by simp) ?_
  have hix : atI (ys.map V.int) 0 = some (.int c2) := at_n (Int.le_refl 0) (by rw [ey]; rfl)
  walk_at "go"
  refine ifN (by simp) ?_
  have h13 := h12.sub (show Sub [chaU C CL p s2, townU t ts5, [(ka, .lst (ys.map V.int))]] _ by walk_at "sub")
  clear h12
  walk_at "go"
  refine k_lcL h13 (fun D i H' => Q19 C CL t p ka D ts5 ys live (2 + d) hand e i H') (by walk_at "hp") (fun D H' h' => .inl ⟨by rw [el]; exact Nat.zero_lt_succ _, s2, m, c2, J2, by rw [el]; exact W2, h'⟩) (fun D i H' hP => ?_) (fun D i x H' hx hP => ?_) (fun D H' hP => ?_)
  · rcases hP with ⟨_, s, _, _, _, _, h⟩ | ⟨_, s, _, _, _, h⟩ <;> exact h.g3
  · rw [List.getElem?_map] at hx
    obtain ⟨key, hk, rfl⟩ := Option.map_eq_some_iff.mp hx
    have hi : i < ys.length := (List.getElem?_eq_some_iff.mp hk).1
    rcases hP with ⟨_, s, a', c', J3, W3, h⟩ | ⟨e2, _⟩
    · have hp := (ch_cut (h.sub (show Sub (chaU C CL p s :: _) _ by walk_at "sub"))).g0
      have hl1 : (((ys.drop 1).map V.int).take i).length < sizeLine := by rw [sizeLine_eq, List.length_take, List.length_map, List.length_drop]; omega
      refine x_gname ⟨rfl, ?_⟩
      walk_at "go"
      refine ⟨p, s, hand, a', c', _, _, rfl, h.sub (show Sub (chaU C CL p s :: _) _ by walk_at "sub"), a0, by rw [J3.hh]; exact a1, by rw [J3.own]; rfl, W3.fw, by have := J3.wl; omega, W3.pa, fun e1 H14 h14 => ?_, fun m' c3 r' e1 H14 h14 => ?_⟩
      · have e1 := List.drop_eq_nil_iff.mp e1
        refine ⟨_, h14.g1, hl1, .inr ⟨by omega, s.stop hand, J3.hh, ?_, ?_, ?_⟩⟩
        · show rm s.inside hand = []
          rw [J3.ins]
          simp [rm]
        · have h1 := rm_len s.wh hand
          have h2 := J3.wl
          show (rm s.wh hand).length ≤ 1
          omega
        · rw [List.take_of_length_le (by rw [List.length_map, List.length_drop]; omega)]
          rw [List.take_of_length_le (by rw [List.length_map, List.length_drop]; omega)] at h14
          exact h14.s1.sub (Sub.p1 Sub.rf)
      · have hi2 : i + 1 < live.length := by
          have := congrArg List.length e1
          rw [List.length_drop, List.length_cons] at this
          omega
        have e3 : live[i + 1]? = some (m', c3) := by
          have := congrArg (fun l => l[0]?) e1
          simpa [List.getElem?_drop] using this
        have e4 : ((ys.drop 1).map V.int)[i]? = some (.int c3) := by
          rw [List.getElem?_map, List.getElem?_drop, ← I.ek, List.getElem?_map, Nat.add_comm 1 i, e3]
          rfl
        have e5 : live.drop (i + 1 + 1) = r' := by
          have := congrArg (List.drop 1) e1
          rw [List.drop_drop] at this
          exact this
        rw [e1] at W3
        refine ⟨_, h14.g1, hl1, .inl ⟨hi2, _, m', c3, J3.step W3, by rw [e5]; exact W3.step, ?_⟩⟩
        rw [List.take_add_one, e4]
        exact h14.s1.sub (Sub.p1 Sub.rf)
    · omega
  rcases hP with ⟨e2, _⟩ | ⟨_, s, s3, s4, s5, h14⟩
  · rw [List.length_map] at e2
    omega
  clear h13
  walk_at "go"
  refine x_sl (x_var rfl (x_part1 (x_nop (k_tail h14 h14.g3 (by rw [List.length_map]; have := List.length_pos_iff.mpr hne; omega) fun d15 H15 h15 => ?_))))
  rw [← List.map_drop] at h15
  clear h14
  walk_at "go"
  rename_i d16 H16 h16
  clear h15
  have h17 := h16
  clear h16
  have sh : SeqAt.shaped (.list ((ys.drop 1).map PyData.int ++ [.none])) = true := shaped_iN _
  refine k_neSame (dd := .list ((ys.drop 1).map PyData.int ++ [.none])) (.lst (SqL.of (by walk_at "hp")) (dpInts _ (.cons .non .nil))) (.lst (SqL.of (by walk_at "hp")) (dpInts _ (.cons .non .nil))) sh ?_
  have hp := (ch_cut (h17.sub (show Sub (chaU C CL p s :: _) _ by walk_at "sub"))).g0
  walk_at "go"
  refine ⟨p, s, _, rfl, h17.sub (show Sub (chaU C CL p s :: _) _ by walk_at "sub"), by rw [s4]; show 0 < 64; decide, fun d18 H18 h18 => ?_⟩
  rw [s4, show srtI (([] : List (Int × Int)).map (·.1)) = [] from (srtI_eq (.refl _) .nil).symm] at h18
  clear h17 hp
  walk_at "go"
  rename_i d19 H19 h19
  clear h18
  refine ifN (by simp) ?_
  have h20 := Has.nilU.mpr (h19.sub (show Sub (chaU C CL p s :: []) _ by walk_at "sub"))
  clear h19
  have hin : fd s.inside hand = none := by rw [s4]; rfl
  walk_at "go"
  refine use_asked (.n5 a0 (by omega) hin) h20 (show Sub (chaU C CL p s :: [] :: _) _ from Sub.p1 (Sub.p0 Sub.rf)) fun H21 h21 => ?_
  clear h20
  walk_at "go"
  refine ifN (by decide +kernel) ?_
  walk_at "go"
  refine use_asked (.n6 a0 (by omega) hin) h21 Sub.rf fun H22 h22 => ?_
  clear h21
  walk_at "go"
  refine ifY (by decide +kernel) ?_
  walk_at "go"
  refine .inr ⟨p, s, hand, _, rfl, h22, a0, by omega, hin, by rw [s4]; exact Nat.zero_le _, by omega, fun H23 h23 => ?_⟩
  walk_at "go"
  rw [show decide ((("told" : Str)) = ("told" : Str)) = true from by decide +kernel]
  exact q _
end La
namespace La
open PySem L2 Sy
def top (i : Nat) : Stmt := PySem.Challenge.pw_lastreader_k19_chains_refused.main.body.getD i (.Pass ⟨0, 0, 0, 0⟩)
abbrev s__law_town : Stmt := top 22
theorem sc__law_town : FnScope ["script"] ["script"] (defScope s__law_town) := ⟨rfl, rfl, rfl, by decide +kernel, rfl, by decide +kernel, by decide +kernel⟩
abbrev s__law_draw : Stmt := top 23
theorem sc__law_draw : FnScope ["town", "many", "row", "at", "cell", "mixed"] ["town", "many"] (defScope s__law_draw) := ⟨rfl, rfl, rfl, by decide +kernel, rfl, by decide +kernel, by decide +kernel⟩
abbrev s_is_whole : Stmt := top 13
theorem sc_is_whole : FnScope ["thing", "low", "high"] ["thing", "low", "high"] (defScope s_is_whole) := ⟨rfl, rfl, rfl, by decide +kernel, rfl, by decide +kernel, by decide +kernel⟩
abbrev s_look_number : Stmt := top 14
theorem sc_look_number : FnScope ["thing", "low", "high"] ["thing", "low", "high"] (defScope s_look_number) := ⟨rfl, rfl, rfl, by decide +kernel, rfl, by decide +kernel, by decide +kernel⟩
abbrev s_Link_init : Stmt := inClass (top 19) 0
theorem sc_Link_init : FnScope ["self", "key", "after"] ["self", "key", "after"] (defScope s_Link_init) := ⟨rfl, rfl, rfl, by decide +kernel, rfl, by decide +kernel, by decide +kernel⟩
abbrev s_Chain_init : Stmt := inClass (top 20) 0
theorem sc_Chain_init : FnScope ["self", "hands"] ["self", "hands"] (defScope s_Chain_init) := ⟨rfl, rfl, rfl, by decide +kernel, rfl, by decide +kernel, by decide +kernel⟩
abbrev s_Chain_place_of : Stmt := inClass (top 20) 1
theorem sc_Chain_place_of : FnScope ["self", "key", "here", "after"] ["self", "key"] (defScope s_Chain_place_of) := ⟨rfl, rfl, rfl, by decide +kernel, rfl, by decide +kernel, by decide +kernel⟩
abbrev s_Chain_has : Stmt := inClass (top 20) 2
theorem sc_Chain_has : FnScope ["self", "key", "after"] ["self", "key"] (defScope s_Chain_has) := ⟨rfl, rfl, rfl, by decide +kernel, rfl, by decide +kernel, by decide +kernel⟩
abbrev s_Chain_put : Stmt := inClass (top 20) 3
theorem sc_Chain_put : FnScope ["self", "key", "ahead"] ["self", "key"] (defScope s_Chain_put) := ⟨rfl, rfl, rfl, by decide +kernel, rfl, by decide +kernel, by decide +kernel⟩
abbrev s_Chain_look_hand : Stmt := inClass (top 20) 6
theorem sc_Chain_look_hand : FnScope ["self", "hand"] ["self", "hand"] (defScope s_Chain_look_hand) := ⟨rfl, rfl, rfl, by decide +kernel, rfl, by decide +kernel, by decide +kernel⟩
abbrev s_Chain_start : Stmt := inClass (top 20) 8
theorem sc_Chain_start : FnScope ["self", "hand"] ["self", "hand"] (defScope s_Chain_start) := ⟨rfl, rfl, rfl, by decide +kernel, rfl, by decide +kernel, by decide +kernel⟩
abbrev s_Chain_look_in : Stmt := inClass (top 20) 7
theorem sc_Chain_look_in : FnScope ["self", "hand"] ["self", "hand"] (defScope s_Chain_look_in) := ⟨rfl, rfl, rfl, by decide +kernel, rfl, by decide +kernel, by decide +kernel⟩
abbrev s_Chain_stop : Stmt := inClass (top 20) 10
theorem sc_Chain_stop : FnScope ["self", "hand"] ["self", "hand"] (defScope s_Chain_stop) := ⟨rfl, rfl, rfl, by decide +kernel, rfl, by decide +kernel, by decide +kernel⟩
abbrev s_Chain_step : Stmt := inClass (top 20) 9
theorem sc_Chain_step : FnScope ["self", "hand", "after"] ["self", "hand"] (defScope s_Chain_step) := ⟨rfl, rfl, rfl, by decide +kernel, rfl, by decide +kernel, by decide +kernel⟩
abbrev s__law_pick : Stmt := top 24
theorem sc__law_pick : FnScope ["town", "some"] ["town", "some"] (defScope s__law_pick) := ⟨rfl, rfl, rfl, by decide +kernel, rfl, by decide +kernel, by decide +kernel⟩
abbrev s__law_odd : Stmt := top 26
theorem sc__law_odd : FnScope ["town", "most"] ["town", "most"] (defScope s__law_odd) := ⟨rfl, rfl, rfl, by decide +kernel, rfl, by decide +kernel, by decide +kernel⟩
abbrev s_Chain_take_out : Stmt := inClass (top 20) 4
theorem sc_Chain_take_out : FnScope ["self", "key", "ahead", "name"] ["self", "key"] (defScope s_Chain_take_out) := ⟨rfl, rfl, rfl, by decide +kernel, rfl, by decide +kernel, by decide +kernel⟩
abbrev s__law_did : Stmt := top 27
theorem sc__law_did : FnScope ["chain", "kind", "what"] ["chain", "kind", "what"] (defScope s__law_did) := ⟨rfl, rfl, rfl, by decide +kernel, rfl, by decide +kernel, by decide +kernel⟩
abbrev s__law_refusal : Stmt := top 25
theorem sc__law_refusal : FnScope ["caught", "kinds", "words"] ["caught"] (defScope s__law_refusal) := ⟨rfl, rfl, rfl, by decide +kernel, rfl, by decide +kernel, by decide +kernel⟩
abbrev s__law_asked : Stmt := top 28
theorem sc__law_asked : FnScope ["chain", "kind", "what", "caught", "e"] ["chain", "kind", "what"] (defScope s__law_asked) := ⟨rfl, rfl, rfl, by decide +kernel, rfl, by decide +kernel, by decide +kernel⟩
abbrev s_Chain_keys_in : Stmt := inClass (top 20) 5
theorem sc_Chain_keys_in : FnScope ["self", "found", "here"] ["self"] (defScope s_Chain_keys_in) := ⟨rfl, rfl, rfl, by decide +kernel, rfl, by decide +kernel, by decide +kernel⟩
abbrev s_Chain_walkers : Stmt := inClass (top 20) 12
theorem sc_Chain_walkers : FnScope ["self"] ["self"] (defScope s_Chain_walkers) := ⟨rfl, rfl, rfl, by decide +kernel, rfl, by decide +kernel, by decide +kernel⟩
abbrev s_law : Stmt := top 29
theorem sc_law : FnScope ["script", "town", "hands", "chain", "hand", "other", "keys", "k", "key", "first", "turn", "odd", "kind", "rest"] ["script"] (defScope s_law) := ⟨rfl, rfl, rfl, by decide +kernel, rfl, by decide +kernel, by decide +kernel⟩
structure Adr where
  c_Link : Addr
  c_Chain : Addr
  c_BadNumber : Addr
  c_NoHand : Addr
  c_IsIn : Addr
  c_NotIn : Addr
  c_NoCell : Addr
  c_NoMark : Addr
  c_BadPairs : Addr
  c_Gone : Addr
  c_NotHeld : Addr
  c_NotNow : Addr
  c_StoreError : Addr
  f__law_town : Addr
  d__law_town : FuncData
  f__law_draw : Addr
  d__law_draw : FuncData
  f_is_whole : Addr
  d_is_whole : FuncData
  f_look_number : Addr
  d_look_number : FuncData
  f_Link_init : Addr
  d_Link_init : FuncData
  f_Chain_init : Addr
  d_Chain_init : FuncData
  f_Chain_place_of : Addr
  d_Chain_place_of : FuncData
  f_Chain_has : Addr
  d_Chain_has : FuncData
  f_Chain_put : Addr
  d_Chain_put : FuncData
  f_Chain_look_hand : Addr
  d_Chain_look_hand : FuncData
  f_Chain_start : Addr
  d_Chain_start : FuncData
  f_Chain_look_in : Addr
  d_Chain_look_in : FuncData
  f_Chain_stop : Addr
  d_Chain_stop : FuncData
  f_Chain_step : Addr
  d_Chain_step : FuncData
  f__law_pick : Addr
  d__law_pick : FuncData
  f__law_odd : Addr
  d__law_odd : FuncData
  f_Chain_take_out : Addr
  d_Chain_take_out : FuncData
  f__law_did : Addr
  d__law_did : FuncData
  f__law_refusal : Addr
  d__law_refusal : FuncData
  f__law_asked : Addr
  d__law_asked : FuncData
  f_Chain_keys_in : Addr
  d_Chain_keys_in : FuncData
  f_Chain_walkers : Addr
  d_Chain_walkers : FuncData
  f_law : Addr
  d_law : FuncData
  t_END : Tok
  t_MOST_HANDS : Tok
  t_MOST_KEY : Tok
structure Txt (K : PySem.W.Frag) (mg : Str → Option Value) (D : Adr) : Prop where
  F__law_town : Fun K "_law_town" "_law_town" s__law_town D.f__law_town D.d__law_town
  b__law_town : Binds K D.d__law_town ["script"] []
  g__law_town : mg "_law_town" = some (.ref D.f__law_town)
  F__law_draw : Fun K "_law_draw" "_law_draw" s__law_draw D.f__law_draw D.d__law_draw
  b__law_draw : Binds K D.d__law_draw ["town", "many"] []
  g__law_draw : mg "_law_draw" = some (.ref D.f__law_draw)
  F_is_whole : Fun K "is_whole" "is_whole" s_is_whole D.f_is_whole D.d_is_whole
  b_is_whole : Binds K D.d_is_whole ["thing", "low", "high"] []
  g_is_whole : mg "is_whole" = some (.ref D.f_is_whole)
  F_look_number : Fun K "look_number" "look_number" s_look_number D.f_look_number D.d_look_number
  b_look_number : Binds K D.d_look_number ["thing", "low", "high"] []
  g_look_number : mg "look_number" = some (.ref D.f_look_number)
  F_Link_init : Fun K "__init__" "Link.__init__" s_Link_init D.f_Link_init D.d_Link_init
  b_Link_init : Binds K D.d_Link_init ["self", "key", "after"] []
  F_Chain_init : Fun K "__init__" "Chain.__init__" s_Chain_init D.f_Chain_init D.d_Chain_init
  b_Chain_init : Binds K D.d_Chain_init ["self", "hands"] []
  F_Chain_place_of : Fun K "place_of" "Chain.place_of" s_Chain_place_of D.f_Chain_place_of D.d_Chain_place_of
  b_Chain_place_of : Binds K D.d_Chain_place_of ["self", "key"] []
  F_Chain_has : Fun K "has" "Chain.has" s_Chain_has D.f_Chain_has D.d_Chain_has
  b_Chain_has : Binds K D.d_Chain_has ["self", "key"] []
  F_Chain_put : Fun K "put" "Chain.put" s_Chain_put D.f_Chain_put D.d_Chain_put
  b_Chain_put : Binds K D.d_Chain_put ["self", "key"] []
  F_Chain_look_hand : Fun K "look_hand" "Chain.look_hand" s_Chain_look_hand D.f_Chain_look_hand D.d_Chain_look_hand
  b_Chain_look_hand : Binds K D.d_Chain_look_hand ["self", "hand"] []
  F_Chain_start : Fun K "start" "Chain.start" s_Chain_start D.f_Chain_start D.d_Chain_start
  b_Chain_start : Binds K D.d_Chain_start ["self", "hand"] []
  F_Chain_look_in : Fun K "look_in" "Chain.look_in" s_Chain_look_in D.f_Chain_look_in D.d_Chain_look_in
  b_Chain_look_in : Binds K D.d_Chain_look_in ["self", "hand"] []
  F_Chain_stop : Fun K "stop" "Chain.stop" s_Chain_stop D.f_Chain_stop D.d_Chain_stop
  b_Chain_stop : Binds K D.d_Chain_stop ["self", "hand"] []
  F_Chain_step : Fun K "step" "Chain.step" s_Chain_step D.f_Chain_step D.d_Chain_step
  b_Chain_step : Binds K D.d_Chain_step ["self", "hand"] []
  F__law_pick : Fun K "_law_pick" "_law_pick" s__law_pick D.f__law_pick D.d__law_pick
  b__law_pick : Binds K D.d__law_pick ["town", "some"] []
  g__law_pick : mg "_law_pick" = some (.ref D.f__law_pick)
  F__law_odd : Fun K "_law_odd" "_law_odd" s__law_odd D.f__law_odd D.d__law_odd
  b__law_odd : Binds K D.d__law_odd ["town", "most"] []
  g__law_odd : mg "_law_odd" = some (.ref D.f__law_odd)
  F_Chain_take_out : Fun K "take_out" "Chain.take_out" s_Chain_take_out D.f_Chain_take_out D.d_Chain_take_out
  b_Chain_take_out : Binds K D.d_Chain_take_out ["self", "key"] []
  F__law_did : Fun K "_law_did" "_law_did" s__law_did D.f__law_did D.d__law_did
  b__law_did : Binds K D.d__law_did ["chain", "kind", "what"] []
  g__law_did : mg "_law_did" = some (.ref D.f__law_did)
  F__law_refusal : Fun K "_law_refusal" "_law_refusal" s__law_refusal D.f__law_refusal D.d__law_refusal
  b__law_refusal : Binds K D.d__law_refusal ["caught"] []
  g__law_refusal : mg "_law_refusal" = some (.ref D.f__law_refusal)
  F__law_asked : Fun K "_law_asked" "_law_asked" s__law_asked D.f__law_asked D.d__law_asked
  b__law_asked : Binds K D.d__law_asked ["chain", "kind", "what"] []
  g__law_asked : mg "_law_asked" = some (.ref D.f__law_asked)
  F_Chain_keys_in : Fun K "keys_in" "Chain.keys_in" s_Chain_keys_in D.f_Chain_keys_in D.d_Chain_keys_in
  b_Chain_keys_in : Binds K D.d_Chain_keys_in ["self"] []
  F_Chain_walkers : Fun K "walkers" "Chain.walkers" s_Chain_walkers D.f_Chain_walkers D.d_Chain_walkers
  b_Chain_walkers : Binds K D.d_Chain_walkers ["self"] []
  F_law : Fun K "law" "law" s_law D.f_law D.d_law
  b_law : Binds K D.d_law ["script"] []
  g_law : mg "law" = some (.ref D.f_law)
  cl_Link : Cls K D.c_Link
  g_Link : mg "Link" = some (.ref D.c_Link)
  na_Link_key : NoAttr K D.c_Link "key"
  na_Link_after : NoAttr K D.c_Link "after"
  mk_Link : Mk K D.c_Link D.f_Link_init
  cl_Chain : Cls K D.c_Chain
  g_Chain : mg "Chain" = some (.ref D.c_Chain)
  na_Chain_hands : NoAttr K D.c_Chain "hands"
  na_Chain_links : NoAttr K D.c_Chain "links"
  na_Chain_made : NoAttr K D.c_Chain "made"
  na_Chain_era : NoAttr K D.c_Chain "era"
  na_Chain_inside : NoAttr K D.c_Chain "inside"
  na_Chain_at : NoAttr K D.c_Chain "at"
  na_Chain_waits : NoAttr K D.c_Chain "waits"
  mk_Chain : Mk K D.c_Chain D.f_Chain_init
  g_BadNumber : mg "BadNumber" = some (.ref D.c_BadNumber)
  xi_BadNumber : PySem.W.excIn K D.c_BadNumber [.type "ValueError", .type "Exception", .type "BaseException", .type "object"] "ValueError.__new__" = true
  kp_BadNumber : PySem.W.keepIn K (.ref D.c_BadNumber) = true
  sb_BadNumber : PySem.W.subIn K (.ref D.c_BadNumber) (.type "BaseException") = some true
  ty_BadNumber : PySem.W.typeIn K (.ref D.c_BadNumber) = some (.type "type")
  em_BadNumber : PySem.W.exmOne K (.ref D.c_BadNumber) (.ref D.c_StoreError) = some true
  ec_BadNumber : ExcC K D.c_BadNumber
  ki_BadNumber_BadNumber : PySem.W.kitOne K (.ref D.c_BadNumber) (.ref D.c_BadNumber) = some true
  ki_BadNumber_NoHand : PySem.W.kitOne K (.ref D.c_BadNumber) (.ref D.c_NoHand) = some false
  ki_BadNumber_NoCell : PySem.W.kitOne K (.ref D.c_BadNumber) (.ref D.c_NoCell) = some false
  ki_BadNumber_NoMark : PySem.W.kitOne K (.ref D.c_BadNumber) (.ref D.c_NoMark) = some false
  ki_BadNumber_IsIn : PySem.W.kitOne K (.ref D.c_BadNumber) (.ref D.c_IsIn) = some false
  ki_BadNumber_NotIn : PySem.W.kitOne K (.ref D.c_BadNumber) (.ref D.c_NotIn) = some false
  ki_BadNumber_NotHeld : PySem.W.kitOne K (.ref D.c_BadNumber) (.ref D.c_NotHeld) = some false
  ki_BadNumber_Gone : PySem.W.kitOne K (.ref D.c_BadNumber) (.ref D.c_Gone) = some false
  ki_BadNumber_BadPairs : PySem.W.kitOne K (.ref D.c_BadNumber) (.ref D.c_BadPairs) = some false
  ki_BadNumber_NotNow : PySem.W.kitOne K (.ref D.c_BadNumber) (.ref D.c_NotNow) = some false
  ki_BadNumber_StoreError : PySem.W.kitOne K (.ref D.c_BadNumber) (.ref D.c_StoreError) = some true
  kv_BadNumber : PySem.W.kitOne K (.ref D.c_BadNumber) (.type "ValueError") = some true
  g_NoHand : mg "NoHand" = some (.ref D.c_NoHand)
  xi_NoHand : PySem.W.excIn K D.c_NoHand [.type "ValueError", .type "Exception", .type "BaseException", .type "object"] "ValueError.__new__" = true
  kp_NoHand : PySem.W.keepIn K (.ref D.c_NoHand) = true
  sb_NoHand : PySem.W.subIn K (.ref D.c_NoHand) (.type "BaseException") = some true
  ty_NoHand : PySem.W.typeIn K (.ref D.c_NoHand) = some (.type "type")
  em_NoHand : PySem.W.exmOne K (.ref D.c_NoHand) (.ref D.c_StoreError) = some true
  ec_NoHand : ExcC K D.c_NoHand
  ki_NoHand_BadNumber : PySem.W.kitOne K (.ref D.c_NoHand) (.ref D.c_BadNumber) = some false
  ki_NoHand_NoHand : PySem.W.kitOne K (.ref D.c_NoHand) (.ref D.c_NoHand) = some true
  ki_NoHand_NoCell : PySem.W.kitOne K (.ref D.c_NoHand) (.ref D.c_NoCell) = some false
  ki_NoHand_NoMark : PySem.W.kitOne K (.ref D.c_NoHand) (.ref D.c_NoMark) = some false
  ki_NoHand_IsIn : PySem.W.kitOne K (.ref D.c_NoHand) (.ref D.c_IsIn) = some false
  ki_NoHand_NotIn : PySem.W.kitOne K (.ref D.c_NoHand) (.ref D.c_NotIn) = some false
  ki_NoHand_NotHeld : PySem.W.kitOne K (.ref D.c_NoHand) (.ref D.c_NotHeld) = some false
  ki_NoHand_Gone : PySem.W.kitOne K (.ref D.c_NoHand) (.ref D.c_Gone) = some false
  ki_NoHand_BadPairs : PySem.W.kitOne K (.ref D.c_NoHand) (.ref D.c_BadPairs) = some false
  ki_NoHand_NotNow : PySem.W.kitOne K (.ref D.c_NoHand) (.ref D.c_NotNow) = some false
  ki_NoHand_StoreError : PySem.W.kitOne K (.ref D.c_NoHand) (.ref D.c_StoreError) = some true
  kv_NoHand : PySem.W.kitOne K (.ref D.c_NoHand) (.type "ValueError") = some true
  g_IsIn : mg "IsIn" = some (.ref D.c_IsIn)
  xi_IsIn : PySem.W.excIn K D.c_IsIn [.type "ValueError", .type "Exception", .type "BaseException", .type "object"] "ValueError.__new__" = true
  kp_IsIn : PySem.W.keepIn K (.ref D.c_IsIn) = true
  sb_IsIn : PySem.W.subIn K (.ref D.c_IsIn) (.type "BaseException") = some true
  ty_IsIn : PySem.W.typeIn K (.ref D.c_IsIn) = some (.type "type")
  em_IsIn : PySem.W.exmOne K (.ref D.c_IsIn) (.ref D.c_StoreError) = some true
  ec_IsIn : ExcC K D.c_IsIn
  ki_IsIn_BadNumber : PySem.W.kitOne K (.ref D.c_IsIn) (.ref D.c_BadNumber) = some false
  ki_IsIn_NoHand : PySem.W.kitOne K (.ref D.c_IsIn) (.ref D.c_NoHand) = some false
  ki_IsIn_NoCell : PySem.W.kitOne K (.ref D.c_IsIn) (.ref D.c_NoCell) = some false
  ki_IsIn_NoMark : PySem.W.kitOne K (.ref D.c_IsIn) (.ref D.c_NoMark) = some false
  ki_IsIn_IsIn : PySem.W.kitOne K (.ref D.c_IsIn) (.ref D.c_IsIn) = some true
  ki_IsIn_NotIn : PySem.W.kitOne K (.ref D.c_IsIn) (.ref D.c_NotIn) = some false
  ki_IsIn_NotHeld : PySem.W.kitOne K (.ref D.c_IsIn) (.ref D.c_NotHeld) = some false
  ki_IsIn_Gone : PySem.W.kitOne K (.ref D.c_IsIn) (.ref D.c_Gone) = some false
  ki_IsIn_BadPairs : PySem.W.kitOne K (.ref D.c_IsIn) (.ref D.c_BadPairs) = some false
  ki_IsIn_NotNow : PySem.W.kitOne K (.ref D.c_IsIn) (.ref D.c_NotNow) = some false
  ki_IsIn_StoreError : PySem.W.kitOne K (.ref D.c_IsIn) (.ref D.c_StoreError) = some true
  kv_IsIn : PySem.W.kitOne K (.ref D.c_IsIn) (.type "ValueError") = some true
  g_NotIn : mg "NotIn" = some (.ref D.c_NotIn)
  xi_NotIn : PySem.W.excIn K D.c_NotIn [.type "ValueError", .type "Exception", .type "BaseException", .type "object"] "ValueError.__new__" = true
  kp_NotIn : PySem.W.keepIn K (.ref D.c_NotIn) = true
  sb_NotIn : PySem.W.subIn K (.ref D.c_NotIn) (.type "BaseException") = some true
  ty_NotIn : PySem.W.typeIn K (.ref D.c_NotIn) = some (.type "type")
  em_NotIn : PySem.W.exmOne K (.ref D.c_NotIn) (.ref D.c_StoreError) = some true
  ec_NotIn : ExcC K D.c_NotIn
  ki_NotIn_BadNumber : PySem.W.kitOne K (.ref D.c_NotIn) (.ref D.c_BadNumber) = some false
  ki_NotIn_NoHand : PySem.W.kitOne K (.ref D.c_NotIn) (.ref D.c_NoHand) = some false
  ki_NotIn_NoCell : PySem.W.kitOne K (.ref D.c_NotIn) (.ref D.c_NoCell) = some false
  ki_NotIn_NoMark : PySem.W.kitOne K (.ref D.c_NotIn) (.ref D.c_NoMark) = some false
  ki_NotIn_IsIn : PySem.W.kitOne K (.ref D.c_NotIn) (.ref D.c_IsIn) = some false
  ki_NotIn_NotIn : PySem.W.kitOne K (.ref D.c_NotIn) (.ref D.c_NotIn) = some true
  ki_NotIn_NotHeld : PySem.W.kitOne K (.ref D.c_NotIn) (.ref D.c_NotHeld) = some false
  ki_NotIn_Gone : PySem.W.kitOne K (.ref D.c_NotIn) (.ref D.c_Gone) = some false
  ki_NotIn_BadPairs : PySem.W.kitOne K (.ref D.c_NotIn) (.ref D.c_BadPairs) = some false
  ki_NotIn_NotNow : PySem.W.kitOne K (.ref D.c_NotIn) (.ref D.c_NotNow) = some false
  ki_NotIn_StoreError : PySem.W.kitOne K (.ref D.c_NotIn) (.ref D.c_StoreError) = some true
  kv_NotIn : PySem.W.kitOne K (.ref D.c_NotIn) (.type "ValueError") = some true
  g_NoCell : mg "NoCell" = some (.ref D.c_NoCell)
  g_NoMark : mg "NoMark" = some (.ref D.c_NoMark)
  g_BadPairs : mg "BadPairs" = some (.ref D.c_BadPairs)
  g_Gone : mg "Gone" = some (.ref D.c_Gone)
  g_NotHeld : mg "NotHeld" = some (.ref D.c_NotHeld)
  g_NotNow : mg "NotNow" = some (.ref D.c_NotNow)
  g_StoreError : mg "StoreError" = some (.ref D.c_StoreError)
  me_Chain_place_of : Meth K D.c_Chain "place_of" D.f_Chain_place_of
  me_Chain_has : Meth K D.c_Chain "has" D.f_Chain_has
  me_Chain_put : Meth K D.c_Chain "put" D.f_Chain_put
  me_Chain_look_hand : Meth K D.c_Chain "look_hand" D.f_Chain_look_hand
  me_Chain_start : Meth K D.c_Chain "start" D.f_Chain_start
  me_Chain_look_in : Meth K D.c_Chain "look_in" D.f_Chain_look_in
  me_Chain_stop : Meth K D.c_Chain "stop" D.f_Chain_stop
  me_Chain_step : Meth K D.c_Chain "step" D.f_Chain_step
  me_Chain_take_out : Meth K D.c_Chain "take_out" D.f_Chain_take_out
  me_Chain_keys_in : Meth K D.c_Chain "keys_in" D.f_Chain_keys_in
  me_Chain_walkers : Meth K D.c_Chain "walkers" D.f_Chain_walkers
  m_ValueError : mg "ValueError" = none
  m_bool : mg "bool" = none
  m_int : mg "int" = none
  m_isinstance : mg "isinstance" = none
  m_len : mg "len" = none
  m_list : mg "list" = none
  m_range : mg "range" = none
  m_set : mg "set" = none
  m_sorted : mg "sorted" = none
  k_END : mg "END" = some (.int (-1) D.t_END)
  k_MOST_HANDS : mg "MOST_HANDS" = some (.int (6) D.t_MOST_HANDS)
  k_MOST_KEY : mg "MOST_KEY" = some (.int (999) D.t_MOST_KEY)
section
variable {P : Program} {w : World} {K : PySem.W.Frag} {mg : Str → Option Value} {base : Heap} {D : Adr}
set_option maxHeartbeats 8000000 in
theorem ok__law_town (T : Txt K mg D) : FnOk P w K mg base CX0 1 D.f__law_town D.d__law_town ["script"] (sp__law_town K) := by
  refine T.F__law_town.ok sc__law_town (fun vs H Q E h => ?_) (fun cdv A outer s H vs Q E hr h => ⟨t__law_town K, ?_, ?_⟩)
  · first | (obtain ⟨_, rfl, _⟩ := h; rfl; done) | (obtain ⟨_, _, rfl, _⟩ := h; rfl; done) | (obtain ⟨_, _, _, rfl, _⟩ := h; rfl; done) | (obtain ⟨_, _, _, _, rfl, _⟩ := h; rfl; done) | (obtain ⟨_, _, _, _, _, rfl, _⟩ := h; rfl; done) | (obtain ⟨_, _, _, _, _, _, rfl, _⟩ := h; rfl; done) | (obtain ⟨_, _, _, _, _, _, _, rfl, _⟩ := h; rfl; done) | (obtain ⟨_, _, _, _, _, _, _, _, rfl, _⟩ := h; rfl; done) | (obtain ⟨_, _, _, _, _, _, _, _, _, rfl, _⟩ := h; rfl; done) | (obtain ⟨_, _, _, _, _, _, _, _, _, _, rfl, _⟩ := h; rfl; done) | (obtain ⟨_, _, _, _, _, _, _, _, _, _, _, rfl, _⟩ := h; rfl; done) | (obtain ⟨_, _, _, _, _, _, _, _, _, _, _, _, rfl, _⟩ := h; rfl; done) | (obtain ⟨_, _, _, _, _, _, _, _, _, _, _, _, _, rfl, _⟩ := h; rfl; done) | (obtain ⟨_, _, _, _, _, _, _, _, _, _, _, _, _, _, rfl, _⟩ := h; rfl; done) | (obtain ⟨_, _, _, _, _, _, _, _, _, _, _, _, _, _, _, rfl, _⟩ := h; rfl; done) | ((rcases h with h | h) <;> (first | (obtain ⟨_, rfl, _⟩ := h; rfl) | (obtain ⟨_, _, rfl, _⟩ := h; rfl) | (obtain ⟨_, _, _, rfl, _⟩ := h; rfl) | (obtain ⟨_, _, _, _, rfl, _⟩ := h; rfl) | (obtain ⟨_, _, _, _, _, rfl, _⟩ := h; rfl) | (obtain ⟨_, _, _, _, _, _, rfl, _⟩ := h; rfl) | (obtain ⟨_, _, _, _, _, _, _, rfl, _⟩ := h; rfl) | (obtain ⟨_, _, _, _, _, _, _, _, rfl, _⟩ := h; rfl) | (obtain ⟨_, _, _, _, _, _, _, _, _, rfl, _⟩ := h; rfl) | (obtain ⟨_, _, _, _, _, _, _, _, _, _, rfl, _⟩ := h; rfl) | (obtain ⟨_, _, _, _, _, _, _, _, _, _, _, rfl, _⟩ := h; rfl) | (obtain ⟨_, _, _, _, _, _, _, _, _, _, _, _, rfl, _⟩ := h; rfl) | (obtain ⟨_, _, _, _, _, _, _, _, _, _, _, _, _, rfl, _⟩ := h; rfl) | (obtain ⟨_, _, _, _, _, _, _, _, _, _, _, _, _, _, rfl, _⟩ := h; rfl) | (obtain ⟨_, _, _, _, _, _, _, _, _, _, _, _, _, _, _, rfl, _⟩ := h; rfl)))
  · have hu := hu_of hr
    exact pss_one (ps_ret (pe_lst (pa_cons (pe_ifExp (pt_cmpR (op_neD hr.units) (pv 0) (pe_lst (pa_nil)) (nomark _)) (pe_callTy call_listOf (by rfl) T.m_list (by decide +kernel) (pa_cons (pv 0) (pa_nil))) (pe_lst (pa_cons (pe_int) (pa_nil)))) (pa_cons (pe_int) (pa_nil)))))
  · exact pure__law_town h
set_option maxHeartbeats 8000000 in
theorem ok__law_draw (T : Txt K mg D) : FnOk P w K mg base CX0 1 D.f__law_draw D.d__law_draw ["town", "many"] (sp__law_draw) := by
  refine T.F__law_draw.ok sc__law_draw (fun vs H Q E h => ?_) (fun cdv A outer s H vs Q E hr h => ⟨t__law_draw K, ?_, ?_⟩)
  · first | (obtain ⟨_, rfl, _⟩ := h; rfl; done) | (obtain ⟨_, _, rfl, _⟩ := h; rfl; done) | (obtain ⟨_, _, _, rfl, _⟩ := h; rfl; done) | (obtain ⟨_, _, _, _, rfl, _⟩ := h; rfl; done) | (obtain ⟨_, _, _, _, _, rfl, _⟩ := h; rfl; done) | (obtain ⟨_, _, _, _, _, _, rfl, _⟩ := h; rfl; done) | (obtain ⟨_, _, _, _, _, _, _, rfl, _⟩ := h; rfl; done) | (obtain ⟨_, _, _, _, _, _, _, _, rfl, _⟩ := h; rfl; done) | (obtain ⟨_, _, _, _, _, _, _, _, _, rfl, _⟩ := h; rfl; done) | (obtain ⟨_, _, _, _, _, _, _, _, _, _, rfl, _⟩ := h; rfl; done) | (obtain ⟨_, _, _, _, _, _, _, _, _, _, _, rfl, _⟩ := h; rfl; done) | (obtain ⟨_, _, _, _, _, _, _, _, _, _, _, _, rfl, _⟩ := h; rfl; done) | (obtain ⟨_, _, _, _, _, _, _, _, _, _, _, _, _, rfl, _⟩ := h; rfl; done) | (obtain ⟨_, _, _, _, _, _, _, _, _, _, _, _, _, _, rfl, _⟩ := h; rfl; done) | (obtain ⟨_, _, _, _, _, _, _, _, _, _, _, _, _, _, _, rfl, _⟩ := h; rfl; done) | ((rcases h with h | h) <;> (first | (obtain ⟨_, rfl, _⟩ := h; rfl) | (obtain ⟨_, _, rfl, _⟩ := h; rfl) | (obtain ⟨_, _, _, rfl, _⟩ := h; rfl) | (obtain ⟨_, _, _, _, rfl, _⟩ := h; rfl) | (obtain ⟨_, _, _, _, _, rfl, _⟩ := h; rfl) | (obtain ⟨_, _, _, _, _, _, rfl, _⟩ := h; rfl) | (obtain ⟨_, _, _, _, _, _, _, rfl, _⟩ := h; rfl) | (obtain ⟨_, _, _, _, _, _, _, _, rfl, _⟩ := h; rfl) | (obtain ⟨_, _, _, _, _, _, _, _, _, rfl, _⟩ := h; rfl) | (obtain ⟨_, _, _, _, _, _, _, _, _, _, rfl, _⟩ := h; rfl) | (obtain ⟨_, _, _, _, _, _, _, _, _, _, _, rfl, _⟩ := h; rfl) | (obtain ⟨_, _, _, _, _, _, _, _, _, _, _, _, rfl, _⟩ := h; rfl) | (obtain ⟨_, _, _, _, _, _, _, _, _, _, _, _, _, rfl, _⟩ := h; rfl) | (obtain ⟨_, _, _, _, _, _, _, _, _, _, _, _, _, _, rfl, _⟩ := h; rfl) | (obtain ⟨_, _, _, _, _, _, _, _, _, _, _, _, _, _, _, rfl, _⟩ := h; rfl)))
  · have hu := hu_of hr
    exact pss_cons (ps_set (i := 2) sc__law_draw.nd rfl (by first | exact Or.inl rfl | exact Or.inr rfl) (pe_ix ix_list (pv 0) (pe_int) (fun _ _ => rfl)))
      (pss_cons (ps_asg (pe_op op_addI (pe_ix ix_list (pv 0) (pe_int) (fun _ _ => rfl)) (pe_int)) (pg_sub (pv 0) (pe_int) set_list))
      (pss_cons (ps_set (i := 3) sc__law_draw.nd rfl (by first | exact Or.inl rfl | exact Or.inr rfl) (pe_op op_modI (pe_ix ix_list (pv 0) (pe_int) (fun _ _ => rfl)) (pe_callB call_lenQ (by rfl) T.m_len PySem.boot_len (pa_cons (pv 2) (pa_nil)))))
      (pss_cons (ps_set (i := 4) sc__law_draw.nd rfl (by first | exact Or.inl rfl | exact Or.inr rfl) (pe_ix ix_list (pv 2) (pv 3) (fun _ _ => rfl)))
      (pss_cons (ps_if (pt_cmpR op_geI (pv 4) (pe_int) (nomark _)) (pss_cons (ps_asg (pe_op op_divI (pv 4) (pv 1)) (pg_sub (pv 2) (pv 3) set_list))
      (pss_one (ps_ret (pe_op op_modI (pv 4) (pv 1))))) (pss_nil))
      (pss_cons (ps_set (i := 5) sc__law_draw.nd rfl (by first | exact Or.inl rfl | exact Or.inr rfl) (pe_op op_modI (pe_op op_addI (pv 4) (pe_op op_mulI (pe_int) (pe_ix ix_list (pv 0) (pe_int) (fun _ _ => rfl)))) (pe_int)))
      (pss_cons (ps_set (i := 5) sc__law_draw.nd rfl (by first | exact Or.inl rfl | exact Or.inr rfl) (pe_op op_modI (pe_op op_powI (pv 5) (pe_int)) (pe_int)))
      (pss_one (ps_ret (pe_op op_modI (pe_op op_divI (pe_op op_modI (pe_op op_addI (pe_op op_mulI (pe_op op_divI (pv 5) (pe_int)) (pe_int)) (pv 5)) (pe_int)) (pe_int)) (pv 1))))))))))
  · exact pure__law_draw h
set_option maxHeartbeats 8000000 in
theorem ok_is_whole (T : Txt K mg D) : FnOk P w K mg base CX0 1 D.f_is_whole D.d_is_whole ["thing", "low", "high"] (sp_is_whole) := by
  refine T.F_is_whole.ok sc_is_whole (fun vs H Q E h => ?_) (fun cdv A outer s H vs Q E hr h => ⟨t_is_whole K, ?_, ?_⟩)
  · first | (obtain ⟨_, rfl, _⟩ := h; rfl; done) | (obtain ⟨_, _, rfl, _⟩ := h; rfl; done) | (obtain ⟨_, _, _, rfl, _⟩ := h; rfl; done) | (obtain ⟨_, _, _, _, rfl, _⟩ := h; rfl; done) | (obtain ⟨_, _, _, _, _, rfl, _⟩ := h; rfl; done) | (obtain ⟨_, _, _, _, _, _, rfl, _⟩ := h; rfl; done) | (obtain ⟨_, _, _, _, _, _, _, rfl, _⟩ := h; rfl; done) | (obtain ⟨_, _, _, _, _, _, _, _, rfl, _⟩ := h; rfl; done) | (obtain ⟨_, _, _, _, _, _, _, _, _, rfl, _⟩ := h; rfl; done) | (obtain ⟨_, _, _, _, _, _, _, _, _, _, rfl, _⟩ := h; rfl; done) | (obtain ⟨_, _, _, _, _, _, _, _, _, _, _, rfl, _⟩ := h; rfl; done) | (obtain ⟨_, _, _, _, _, _, _, _, _, _, _, _, rfl, _⟩ := h; rfl; done) | (obtain ⟨_, _, _, _, _, _, _, _, _, _, _, _, _, rfl, _⟩ := h; rfl; done) | (obtain ⟨_, _, _, _, _, _, _, _, _, _, _, _, _, _, rfl, _⟩ := h; rfl; done) | (obtain ⟨_, _, _, _, _, _, _, _, _, _, _, _, _, _, _, rfl, _⟩ := h; rfl; done) | ((rcases h with h | h) <;> (first | (obtain ⟨_, rfl, _⟩ := h; rfl) | (obtain ⟨_, _, rfl, _⟩ := h; rfl) | (obtain ⟨_, _, _, rfl, _⟩ := h; rfl) | (obtain ⟨_, _, _, _, rfl, _⟩ := h; rfl) | (obtain ⟨_, _, _, _, _, rfl, _⟩ := h; rfl) | (obtain ⟨_, _, _, _, _, _, rfl, _⟩ := h; rfl) | (obtain ⟨_, _, _, _, _, _, _, rfl, _⟩ := h; rfl) | (obtain ⟨_, _, _, _, _, _, _, _, rfl, _⟩ := h; rfl) | (obtain ⟨_, _, _, _, _, _, _, _, _, rfl, _⟩ := h; rfl) | (obtain ⟨_, _, _, _, _, _, _, _, _, _, rfl, _⟩ := h; rfl) | (obtain ⟨_, _, _, _, _, _, _, _, _, _, _, rfl, _⟩ := h; rfl) | (obtain ⟨_, _, _, _, _, _, _, _, _, _, _, _, rfl, _⟩ := h; rfl) | (obtain ⟨_, _, _, _, _, _, _, _, _, _, _, _, _, rfl, _⟩ := h; rfl) | (obtain ⟨_, _, _, _, _, _, _, _, _, _, _, _, _, _, rfl, _⟩ := h; rfl) | (obtain ⟨_, _, _, _, _, _, _, _, _, _, _, _, _, _, _, rfl, _⟩ := h; rfl)))
  · have hu := hu_of hr
    exact pss_one (ps_ret (pe_and (pe_callB call_isi (by rfl) T.m_isinstance (by decide +kernel) (pa_cons (pv 0) (pa_cons (pe_bltn (v := .ty "int") (by rfl) T.m_int (by decide +kernel) rfl) (pa_nil)))) (pe_and (pe_not (pe_callB call_isi (by rfl) T.m_isinstance (by decide +kernel) (pa_cons (pv 0) (pa_cons (pe_bltn (v := .ty "bool") (by rfl) T.m_bool (by decide +kernel) rfl) (pa_nil))))) (pe_one (pe_chain op_leI op_leI (pv 1) (pv 0) (pv 2))))))
  · exact pure_is_whole h
set_option maxHeartbeats 8000000 in
theorem ok_look_number (T : Txt K mg D) : FnOk P w K mg base CX0 2 D.f_look_number D.d_look_number ["thing", "low", "high"] (sp_look_number) := by
  have G_is_whole : FnOk P w K mg base CX0 1 D.f_is_whole D.d_is_whole ["thing", "low", "high"] (sp_is_whole) := ok_is_whole T
  refine T.F_look_number.ok sc_look_number (fun vs H Q E h => ?_) (fun cdv A outer s H vs Q E hr h => ⟨t_look_number K (sp_is_whole), ?_, ?_⟩)
  · first | (obtain ⟨_, rfl, _⟩ := h; rfl; done) | (obtain ⟨_, _, rfl, _⟩ := h; rfl; done) | (obtain ⟨_, _, _, rfl, _⟩ := h; rfl; done) | (obtain ⟨_, _, _, _, rfl, _⟩ := h; rfl; done) | (obtain ⟨_, _, _, _, _, rfl, _⟩ := h; rfl; done) | (obtain ⟨_, _, _, _, _, _, rfl, _⟩ := h; rfl; done) | (obtain ⟨_, _, _, _, _, _, _, rfl, _⟩ := h; rfl; done) | (obtain ⟨_, _, _, _, _, _, _, _, rfl, _⟩ := h; rfl; done) | (obtain ⟨_, _, _, _, _, _, _, _, _, rfl, _⟩ := h; rfl; done) | (obtain ⟨_, _, _, _, _, _, _, _, _, _, rfl, _⟩ := h; rfl; done) | (obtain ⟨_, _, _, _, _, _, _, _, _, _, _, rfl, _⟩ := h; rfl; done) | (obtain ⟨_, _, _, _, _, _, _, _, _, _, _, _, rfl, _⟩ := h; rfl; done) | (obtain ⟨_, _, _, _, _, _, _, _, _, _, _, _, _, rfl, _⟩ := h; rfl; done) | (obtain ⟨_, _, _, _, _, _, _, _, _, _, _, _, _, _, rfl, _⟩ := h; rfl; done) | (obtain ⟨_, _, _, _, _, _, _, _, _, _, _, _, _, _, _, rfl, _⟩ := h; rfl; done) | ((rcases h with h | h) <;> (first | (obtain ⟨_, rfl, _⟩ := h; rfl) | (obtain ⟨_, _, rfl, _⟩ := h; rfl) | (obtain ⟨_, _, _, rfl, _⟩ := h; rfl) | (obtain ⟨_, _, _, _, rfl, _⟩ := h; rfl) | (obtain ⟨_, _, _, _, _, rfl, _⟩ := h; rfl) | (obtain ⟨_, _, _, _, _, _, rfl, _⟩ := h; rfl) | (obtain ⟨_, _, _, _, _, _, _, rfl, _⟩ := h; rfl) | (obtain ⟨_, _, _, _, _, _, _, _, rfl, _⟩ := h; rfl) | (obtain ⟨_, _, _, _, _, _, _, _, _, rfl, _⟩ := h; rfl) | (obtain ⟨_, _, _, _, _, _, _, _, _, _, rfl, _⟩ := h; rfl) | (obtain ⟨_, _, _, _, _, _, _, _, _, _, _, rfl, _⟩ := h; rfl) | (obtain ⟨_, _, _, _, _, _, _, _, _, _, _, _, rfl, _⟩ := h; rfl) | (obtain ⟨_, _, _, _, _, _, _, _, _, _, _, _, _, rfl, _⟩ := h; rfl) | (obtain ⟨_, _, _, _, _, _, _, _, _, _, _, _, _, _, rfl, _⟩ := h; rfl) | (obtain ⟨_, _, _, _, _, _, _, _, _, _, _, _, _, _, _, rfl, _⟩ := h; rfl)))
  · have hu := hu_of hr
    exact pss_one (ps_if (pt_not (pt_val (pe_call G_is_whole (hr.mono (by decide)) (by rfl) T.g_is_whole T.F_is_whole.kp T.b_is_whole .nil pass0 (pa_cons (pv 0) (pa_cons (pv 1) (pa_cons (pv 2) (pa_nil))))))) (pss_one (ps_never)) (pss_nil))
  · exact pure_look_number h
set_option maxHeartbeats 8000000 in
theorem ok_mk_Link (T : Txt K mg D) : FnOk P w K mg base CX0 1 D.f_Link_init D.d_Link_init ["self", "key", "after"] (sp_lkinit D.c_Link) := by
  refine T.F_Link_init.ok sc_Link_init (fun vs H Q E h => ?_) (fun cdv A outer s H vs Q E hr h => ⟨t_Link_init K, ?_, ?_⟩)
  · first | (obtain ⟨_, rfl, _⟩ := h; rfl; done) | (obtain ⟨_, _, rfl, _⟩ := h; rfl; done) | (obtain ⟨_, _, _, rfl, _⟩ := h; rfl; done) | (obtain ⟨_, _, _, _, rfl, _⟩ := h; rfl; done) | (obtain ⟨_, _, _, _, _, rfl, _⟩ := h; rfl; done) | (obtain ⟨_, _, _, _, _, _, rfl, _⟩ := h; rfl; done) | (obtain ⟨_, _, _, _, _, _, _, rfl, _⟩ := h; rfl; done) | (obtain ⟨_, _, _, _, _, _, _, _, rfl, _⟩ := h; rfl; done) | (obtain ⟨_, _, _, _, _, _, _, _, _, rfl, _⟩ := h; rfl; done) | (obtain ⟨_, _, _, _, _, _, _, _, _, _, rfl, _⟩ := h; rfl; done) | (obtain ⟨_, _, _, _, _, _, _, _, _, _, _, rfl, _⟩ := h; rfl; done) | (obtain ⟨_, _, _, _, _, _, _, _, _, _, _, _, rfl, _⟩ := h; rfl; done) | (obtain ⟨_, _, _, _, _, _, _, _, _, _, _, _, _, rfl, _⟩ := h; rfl; done) | (obtain ⟨_, _, _, _, _, _, _, _, _, _, _, _, _, _, rfl, _⟩ := h; rfl; done) | (obtain ⟨_, _, _, _, _, _, _, _, _, _, _, _, _, _, _, rfl, _⟩ := h; rfl; done) | ((rcases h with h | h) <;> (first | (obtain ⟨_, rfl, _⟩ := h; rfl) | (obtain ⟨_, _, rfl, _⟩ := h; rfl) | (obtain ⟨_, _, _, rfl, _⟩ := h; rfl) | (obtain ⟨_, _, _, _, rfl, _⟩ := h; rfl) | (obtain ⟨_, _, _, _, _, rfl, _⟩ := h; rfl) | (obtain ⟨_, _, _, _, _, _, rfl, _⟩ := h; rfl) | (obtain ⟨_, _, _, _, _, _, _, rfl, _⟩ := h; rfl) | (obtain ⟨_, _, _, _, _, _, _, _, rfl, _⟩ := h; rfl) | (obtain ⟨_, _, _, _, _, _, _, _, _, rfl, _⟩ := h; rfl) | (obtain ⟨_, _, _, _, _, _, _, _, _, _, rfl, _⟩ := h; rfl) | (obtain ⟨_, _, _, _, _, _, _, _, _, _, _, rfl, _⟩ := h; rfl) | (obtain ⟨_, _, _, _, _, _, _, _, _, _, _, _, rfl, _⟩ := h; rfl) | (obtain ⟨_, _, _, _, _, _, _, _, _, _, _, _, _, rfl, _⟩ := h; rfl) | (obtain ⟨_, _, _, _, _, _, _, _, _, _, _, _, _, _, rfl, _⟩ := h; rfl) | (obtain ⟨_, _, _, _, _, _, _, _, _, _, _, _, _, _, _, rfl, _⟩ := h; rfl)))
  · have hu := hu_of hr
    exact pss_cons (ps_fld (pv 0) (pv 1) (by rfl))
      (pss_one (ps_fld (pv 0) (pv 2) (by rfl)))
  · exact pure_lkinit ⟨T.cl_Link, T.na_Link_key, T.na_Link_after⟩ h
set_option maxHeartbeats 8000000 in
theorem ok_mk_Chain (T : Txt K mg D) : FnOk P w K mg base CX0 3 D.f_Chain_init D.d_Chain_init ["self", "hands"] (sp_chinit D.c_Chain D.c_Link) := by
  have G_look_number : FnOk P w K mg base CX0 2 D.f_look_number D.d_look_number ["thing", "low", "high"] (sp_look_number) := ok_look_number T
  have G_mk_Link : FnOk P w K mg base CX0 1 D.f_Link_init D.d_Link_init ["self", "key", "after"] (sp_lkinit D.c_Link) := ok_mk_Link T
  refine T.F_Chain_init.ok sc_Chain_init (fun vs H Q E h => ?_) (fun cdv A outer s H vs Q E hr h => ⟨t_Chain_init K D.c_Link (sp_look_number) (sp_lkinit D.c_Link), ?_, ?_⟩)
  · first | (obtain ⟨_, rfl, _⟩ := h; rfl; done) | (obtain ⟨_, _, rfl, _⟩ := h; rfl; done) | (obtain ⟨_, _, _, rfl, _⟩ := h; rfl; done) | (obtain ⟨_, _, _, _, rfl, _⟩ := h; rfl; done) | (obtain ⟨_, _, _, _, _, rfl, _⟩ := h; rfl; done) | (obtain ⟨_, _, _, _, _, _, rfl, _⟩ := h; rfl; done) | (obtain ⟨_, _, _, _, _, _, _, rfl, _⟩ := h; rfl; done) | (obtain ⟨_, _, _, _, _, _, _, _, rfl, _⟩ := h; rfl; done) | (obtain ⟨_, _, _, _, _, _, _, _, _, rfl, _⟩ := h; rfl; done) | (obtain ⟨_, _, _, _, _, _, _, _, _, _, rfl, _⟩ := h; rfl; done) | (obtain ⟨_, _, _, _, _, _, _, _, _, _, _, rfl, _⟩ := h; rfl; done) | (obtain ⟨_, _, _, _, _, _, _, _, _, _, _, _, rfl, _⟩ := h; rfl; done) | (obtain ⟨_, _, _, _, _, _, _, _, _, _, _, _, _, rfl, _⟩ := h; rfl; done) | (obtain ⟨_, _, _, _, _, _, _, _, _, _, _, _, _, _, rfl, _⟩ := h; rfl; done) | (obtain ⟨_, _, _, _, _, _, _, _, _, _, _, _, _, _, _, rfl, _⟩ := h; rfl; done) | ((rcases h with h | h) <;> (first | (obtain ⟨_, rfl, _⟩ := h; rfl) | (obtain ⟨_, _, rfl, _⟩ := h; rfl) | (obtain ⟨_, _, _, rfl, _⟩ := h; rfl) | (obtain ⟨_, _, _, _, rfl, _⟩ := h; rfl) | (obtain ⟨_, _, _, _, _, rfl, _⟩ := h; rfl) | (obtain ⟨_, _, _, _, _, _, rfl, _⟩ := h; rfl) | (obtain ⟨_, _, _, _, _, _, _, rfl, _⟩ := h; rfl) | (obtain ⟨_, _, _, _, _, _, _, _, rfl, _⟩ := h; rfl) | (obtain ⟨_, _, _, _, _, _, _, _, _, rfl, _⟩ := h; rfl) | (obtain ⟨_, _, _, _, _, _, _, _, _, _, rfl, _⟩ := h; rfl) | (obtain ⟨_, _, _, _, _, _, _, _, _, _, _, rfl, _⟩ := h; rfl) | (obtain ⟨_, _, _, _, _, _, _, _, _, _, _, _, rfl, _⟩ := h; rfl) | (obtain ⟨_, _, _, _, _, _, _, _, _, _, _, _, _, rfl, _⟩ := h; rfl) | (obtain ⟨_, _, _, _, _, _, _, _, _, _, _, _, _, _, rfl, _⟩ := h; rfl) | (obtain ⟨_, _, _, _, _, _, _, _, _, _, _, _, _, _, _, rfl, _⟩ := h; rfl)))
  · have hu := hu_of hr
    exact pss_cons (ps_expr (pe_call G_look_number (hr.mono (by decide)) (by rfl) T.g_look_number T.F_look_number.kp T.b_look_number .nil pass0 (pa_cons (pv 1) (pa_cons (pe_int) (pa_cons (pe_glob (by rfl) T.k_MOST_HANDS ⟨_, rfl⟩) (pa_nil))))))
      (pss_cons (ps_fld (pv 0) (pv 1) (by rfl))
      (pss_cons (ps_fld (pv 0) (pe_disp (pps_cons (pe_int) (pe_make T.mk_Link G_mk_Link (hr.mono (by decide)) (by rfl) T.g_Link T.b_Link_init .nil pass0 (pa_cons (pe_glob (by rfl) T.k_END ⟨_, rfl⟩) (pa_cons (pe_non) (pa_nil)))) pps_nil) rfl rfl (List.cons_ne_nil _ _) (by decide)) (by rfl))
      (pss_cons (ps_fld (pv 0) (pe_int) (by rfl))
      (pss_cons (ps_fld (pv 0) (pe_int) (by rfl))
      (pss_cons (ps_fld (pv 0) (pe_dnewK) (by rfl))
      (pss_cons (ps_fld (pv 0) (pe_dnewK) (by rfl))
      (pss_one (ps_fld (pv 0) (pe_dnewK) (by rfl)))))))))
  · exact pure_chinit ⟨T.cl_Chain, T.na_Chain_hands, T.na_Chain_links, T.na_Chain_made, T.na_Chain_era, T.na_Chain_inside, T.na_Chain_at, T.na_Chain_waits, T.cl_Link, T.na_Link_key, T.na_Link_after⟩ h
set_option maxHeartbeats 8000000 in
theorem ok_Chain__Chain_place_of (T : Txt K mg D) : FnOk P w K mg base CX0 1 D.f_Chain_place_of D.d_Chain_place_of ["self", "key"] (sp_place_of D.c_Chain D.c_Link) := by
  refine T.F_Chain_place_of.ok sc_Chain_place_of (fun vs H Q E h => ?_) (fun cdv A outer s H vs Q E hr h => ⟨t_Chain_place_of K, ?_, ?_⟩)
  · first | (obtain ⟨_, rfl, _⟩ := h; rfl; done) | (obtain ⟨_, _, rfl, _⟩ := h; rfl; done) | (obtain ⟨_, _, _, rfl, _⟩ := h; rfl; done) | (obtain ⟨_, _, _, _, rfl, _⟩ := h; rfl; done) | (obtain ⟨_, _, _, _, _, rfl, _⟩ := h; rfl; done) | (obtain ⟨_, _, _, _, _, _, rfl, _⟩ := h; rfl; done) | (obtain ⟨_, _, _, _, _, _, _, rfl, _⟩ := h; rfl; done) | (obtain ⟨_, _, _, _, _, _, _, _, rfl, _⟩ := h; rfl; done) | (obtain ⟨_, _, _, _, _, _, _, _, _, rfl, _⟩ := h; rfl; done) | (obtain ⟨_, _, _, _, _, _, _, _, _, _, rfl, _⟩ := h; rfl; done) | (obtain ⟨_, _, _, _, _, _, _, _, _, _, _, rfl, _⟩ := h; rfl; done) | (obtain ⟨_, _, _, _, _, _, _, _, _, _, _, _, rfl, _⟩ := h; rfl; done) | (obtain ⟨_, _, _, _, _, _, _, _, _, _, _, _, _, rfl, _⟩ := h; rfl; done) | (obtain ⟨_, _, _, _, _, _, _, _, _, _, _, _, _, _, rfl, _⟩ := h; rfl; done) | (obtain ⟨_, _, _, _, _, _, _, _, _, _, _, _, _, _, _, rfl, _⟩ := h; rfl; done) | ((rcases h with h | h) <;> (first | (obtain ⟨_, rfl, _⟩ := h; rfl) | (obtain ⟨_, _, rfl, _⟩ := h; rfl) | (obtain ⟨_, _, _, rfl, _⟩ := h; rfl) | (obtain ⟨_, _, _, _, rfl, _⟩ := h; rfl) | (obtain ⟨_, _, _, _, _, rfl, _⟩ := h; rfl) | (obtain ⟨_, _, _, _, _, _, rfl, _⟩ := h; rfl) | (obtain ⟨_, _, _, _, _, _, _, rfl, _⟩ := h; rfl) | (obtain ⟨_, _, _, _, _, _, _, _, rfl, _⟩ := h; rfl) | (obtain ⟨_, _, _, _, _, _, _, _, _, rfl, _⟩ := h; rfl) | (obtain ⟨_, _, _, _, _, _, _, _, _, _, rfl, _⟩ := h; rfl) | (obtain ⟨_, _, _, _, _, _, _, _, _, _, _, rfl, _⟩ := h; rfl) | (obtain ⟨_, _, _, _, _, _, _, _, _, _, _, _, rfl, _⟩ := h; rfl) | (obtain ⟨_, _, _, _, _, _, _, _, _, _, _, _, _, rfl, _⟩ := h; rfl) | (obtain ⟨_, _, _, _, _, _, _, _, _, _, _, _, _, _, rfl, _⟩ := h; rfl) | (obtain ⟨_, _, _, _, _, _, _, _, _, _, _, _, _, _, _, rfl, _⟩ := h; rfl)))
  · have hu := hu_of hr
    exact pss_cons (ps_set (i := 2) sc_Chain_place_of.nd rfl (by first | exact Or.inl rfl | exact Or.inr rfl) (pe_int))
      (pss_cons (ps_set (i := 3) sc_Chain_place_of.nd rfl (by first | exact Or.inl rfl | exact Or.inr rfl) (pe_fld (pe_dget hu (pe_fld (pv 0) (by rfl)) (pv 2) (fun _ _ => rfl)) (by rfl)))
      (pss_cons (ps_while PassesOwn.never (PW.pt (pw_and (pt_cmpR op_notNo (pv 3) (pe_non) (nomark _)) (pw_and1 (pt_cmpR op_ltI (pe_fld (pe_dget hu (pe_fld (pv 0) (by rfl)) (pv 3) (fun _ _ => rfl)) (by rfl)) (pv 1) (nomark _))))) (pss_cons (ps_set (i := 2) sc_Chain_place_of.nd rfl (by first | exact Or.inl rfl | exact Or.inr rfl) (pv 3))
      (pss_one (ps_set (i := 3) sc_Chain_place_of.nd rfl (by first | exact Or.inl rfl | exact Or.inr rfl) (pe_fld (pe_dget hu (pe_fld (pv 0) (by rfl)) (pv 2) (fun _ _ => rfl)) (by rfl))))))
      (pss_one (ps_ret (pv 2)))))
  · exact pure_place_of ⟨T.cl_Chain, T.na_Chain_hands, T.na_Chain_links, T.na_Chain_made, T.na_Chain_era, T.na_Chain_inside, T.na_Chain_at, T.na_Chain_waits, T.cl_Link, T.na_Link_key, T.na_Link_after⟩ h
set_option maxHeartbeats 8000000 in
theorem ok_Chain__Chain_has (T : Txt K mg D) : FnOk P w K mg base CX0 3 D.f_Chain_has D.d_Chain_has ["self", "key"] (sp_chhas D.c_Chain D.c_Link) := by
  have G_look_number : FnOk P w K mg base CX0 2 D.f_look_number D.d_look_number ["thing", "low", "high"] (sp_look_number) := ok_look_number T
  have G_Chain__Chain_place_of : FnOk P w K mg base CX0 1 D.f_Chain_place_of D.d_Chain_place_of ["self", "key"] (sp_place_of D.c_Chain D.c_Link) := ok_Chain__Chain_place_of T
  refine T.F_Chain_has.ok sc_Chain_has (fun vs H Q E h => ?_) (fun cdv A outer s H vs Q E hr h => ⟨t_Chain_has K D.c_Chain (sp_look_number) (sp_place_of D.c_Chain D.c_Link), ?_, ?_⟩)
  · first | (obtain ⟨_, rfl, _⟩ := h; rfl; done) | (obtain ⟨_, _, rfl, _⟩ := h; rfl; done) | (obtain ⟨_, _, _, rfl, _⟩ := h; rfl; done) | (obtain ⟨_, _, _, _, rfl, _⟩ := h; rfl; done) | (obtain ⟨_, _, _, _, _, rfl, _⟩ := h; rfl; done) | (obtain ⟨_, _, _, _, _, _, rfl, _⟩ := h; rfl; done) | (obtain ⟨_, _, _, _, _, _, _, rfl, _⟩ := h; rfl; done) | (obtain ⟨_, _, _, _, _, _, _, _, rfl, _⟩ := h; rfl; done) | (obtain ⟨_, _, _, _, _, _, _, _, _, rfl, _⟩ := h; rfl; done) | (obtain ⟨_, _, _, _, _, _, _, _, _, _, rfl, _⟩ := h; rfl; done) | (obtain ⟨_, _, _, _, _, _, _, _, _, _, _, rfl, _⟩ := h; rfl; done) | (obtain ⟨_, _, _, _, _, _, _, _, _, _, _, _, rfl, _⟩ := h; rfl; done) | (obtain ⟨_, _, _, _, _, _, _, _, _, _, _, _, _, rfl, _⟩ := h; rfl; done) | (obtain ⟨_, _, _, _, _, _, _, _, _, _, _, _, _, _, rfl, _⟩ := h; rfl; done) | (obtain ⟨_, _, _, _, _, _, _, _, _, _, _, _, _, _, _, rfl, _⟩ := h; rfl; done) | ((rcases h with h | h) <;> (first | (obtain ⟨_, rfl, _⟩ := h; rfl) | (obtain ⟨_, _, rfl, _⟩ := h; rfl) | (obtain ⟨_, _, _, rfl, _⟩ := h; rfl) | (obtain ⟨_, _, _, _, rfl, _⟩ := h; rfl) | (obtain ⟨_, _, _, _, _, rfl, _⟩ := h; rfl) | (obtain ⟨_, _, _, _, _, _, rfl, _⟩ := h; rfl) | (obtain ⟨_, _, _, _, _, _, _, rfl, _⟩ := h; rfl) | (obtain ⟨_, _, _, _, _, _, _, _, rfl, _⟩ := h; rfl) | (obtain ⟨_, _, _, _, _, _, _, _, _, rfl, _⟩ := h; rfl) | (obtain ⟨_, _, _, _, _, _, _, _, _, _, rfl, _⟩ := h; rfl) | (obtain ⟨_, _, _, _, _, _, _, _, _, _, _, rfl, _⟩ := h; rfl) | (obtain ⟨_, _, _, _, _, _, _, _, _, _, _, _, rfl, _⟩ := h; rfl) | (obtain ⟨_, _, _, _, _, _, _, _, _, _, _, _, _, rfl, _⟩ := h; rfl) | (obtain ⟨_, _, _, _, _, _, _, _, _, _, _, _, _, _, rfl, _⟩ := h; rfl) | (obtain ⟨_, _, _, _, _, _, _, _, _, _, _, _, _, _, _, rfl, _⟩ := h; rfl)))
  · have hu := hu_of hr
    exact pss_cons (ps_expr (pe_call G_look_number (hr.mono (by decide)) (by rfl) T.g_look_number T.F_look_number.kp T.b_look_number .nil pass0 (pa_cons (pv 1) (pa_cons (pe_int) (pa_cons (pe_glob (by rfl) T.k_MOST_KEY ⟨_, rfl⟩) (pa_nil))))))
      (pss_cons (ps_set (i := 2) sc_Chain_has.nd rfl (by first | exact Or.inl rfl | exact Or.inr rfl) (pe_fld (pe_dget hu (pe_fld (pv 0) (by rfl)) (pe_meth (pv 0) T.cl_Chain T.me_Chain_place_of G_Chain__Chain_place_of (hr.mono (by decide)) T.b_Chain_place_of .nil pass0 (pa_cons (pv 1) (pa_nil))) (fun _ _ => rfl)) (by rfl)))
      (pss_one (ps_ret (pe_and (pe_cmpR op_notNo (pv 2) (pe_non) (nomark _)) (pe_one (pe_cmpR op_eq (pe_fld (pe_dget hu (pe_fld (pv 0) (by rfl)) (pv 2) (fun _ _ => rfl)) (by rfl)) (pv 1) (nomark _)))))))
  · exact pure_chhas ⟨T.cl_Chain, T.na_Chain_hands, T.na_Chain_links, T.na_Chain_made, T.na_Chain_era, T.na_Chain_inside, T.na_Chain_at, T.na_Chain_waits, T.cl_Link, T.na_Link_key, T.na_Link_after⟩ h
set_option maxHeartbeats 8000000 in
theorem ok_Chain__Chain_put (T : Txt K mg D) : FnOk P w K mg base CX0 4 D.f_Chain_put D.d_Chain_put ["self", "key"] (sp_chput D.c_Chain D.c_Link) := by
  have G_Chain__Chain_has : FnOk P w K mg base CX0 3 D.f_Chain_has D.d_Chain_has ["self", "key"] (sp_chhas D.c_Chain D.c_Link) := ok_Chain__Chain_has T
  have G_Chain__Chain_place_of : FnOk P w K mg base CX0 1 D.f_Chain_place_of D.d_Chain_place_of ["self", "key"] (sp_place_of D.c_Chain D.c_Link) := ok_Chain__Chain_place_of T
  have G_mk_Link : FnOk P w K mg base CX0 1 D.f_Link_init D.d_Link_init ["self", "key", "after"] (sp_lkinit D.c_Link) := ok_mk_Link T
  refine T.F_Chain_put.ok sc_Chain_put (fun vs H Q E h => ?_) (fun cdv A outer s H vs Q E hr h => ⟨t_Chain_put K D.c_Chain D.c_Link (sp_chhas D.c_Chain D.c_Link) (sp_place_of D.c_Chain D.c_Link) (sp_lkinit D.c_Link), ?_, ?_⟩)
  · first | (obtain ⟨_, rfl, _⟩ := h; rfl; done) | (obtain ⟨_, _, rfl, _⟩ := h; rfl; done) | (obtain ⟨_, _, _, rfl, _⟩ := h; rfl; done) | (obtain ⟨_, _, _, _, rfl, _⟩ := h; rfl; done) | (obtain ⟨_, _, _, _, _, rfl, _⟩ := h; rfl; done) | (obtain ⟨_, _, _, _, _, _, rfl, _⟩ := h; rfl; done) | (obtain ⟨_, _, _, _, _, _, _, rfl, _⟩ := h; rfl; done) | (obtain ⟨_, _, _, _, _, _, _, _, rfl, _⟩ := h; rfl; done) | (obtain ⟨_, _, _, _, _, _, _, _, _, rfl, _⟩ := h; rfl; done) | (obtain ⟨_, _, _, _, _, _, _, _, _, _, rfl, _⟩ := h; rfl; done) | (obtain ⟨_, _, _, _, _, _, _, _, _, _, _, rfl, _⟩ := h; rfl; done) | (obtain ⟨_, _, _, _, _, _, _, _, _, _, _, _, rfl, _⟩ := h; rfl; done) | (obtain ⟨_, _, _, _, _, _, _, _, _, _, _, _, _, rfl, _⟩ := h; rfl; done) | (obtain ⟨_, _, _, _, _, _, _, _, _, _, _, _, _, _, rfl, _⟩ := h; rfl; done) | (obtain ⟨_, _, _, _, _, _, _, _, _, _, _, _, _, _, _, rfl, _⟩ := h; rfl; done) | ((rcases h with h | h) <;> (first | (obtain ⟨_, rfl, _⟩ := h; rfl) | (obtain ⟨_, _, rfl, _⟩ := h; rfl) | (obtain ⟨_, _, _, rfl, _⟩ := h; rfl) | (obtain ⟨_, _, _, _, rfl, _⟩ := h; rfl) | (obtain ⟨_, _, _, _, _, rfl, _⟩ := h; rfl) | (obtain ⟨_, _, _, _, _, _, rfl, _⟩ := h; rfl) | (obtain ⟨_, _, _, _, _, _, _, rfl, _⟩ := h; rfl) | (obtain ⟨_, _, _, _, _, _, _, _, rfl, _⟩ := h; rfl) | (obtain ⟨_, _, _, _, _, _, _, _, _, rfl, _⟩ := h; rfl) | (obtain ⟨_, _, _, _, _, _, _, _, _, _, rfl, _⟩ := h; rfl) | (obtain ⟨_, _, _, _, _, _, _, _, _, _, _, rfl, _⟩ := h; rfl) | (obtain ⟨_, _, _, _, _, _, _, _, _, _, _, _, rfl, _⟩ := h; rfl) | (obtain ⟨_, _, _, _, _, _, _, _, _, _, _, _, _, rfl, _⟩ := h; rfl) | (obtain ⟨_, _, _, _, _, _, _, _, _, _, _, _, _, _, rfl, _⟩ := h; rfl) | (obtain ⟨_, _, _, _, _, _, _, _, _, _, _, _, _, _, _, rfl, _⟩ := h; rfl)))
  · have hu := hu_of hr
    exact pss_cons (ps_if (pt_val (pe_meth (pv 0) T.cl_Chain T.me_Chain_has G_Chain__Chain_has (hr.mono (by decide)) T.b_Chain_has .nil pass0 (pa_cons (pv 1) (pa_nil)))) (pss_one (ps_ret (pe_bl))) (pss_nil))
      (pss_cons (ps_set (i := 2) sc_Chain_put.nd rfl (by first | exact Or.inl rfl | exact Or.inr rfl) (pe_dget hu (pe_fld (pv 0) (by rfl)) (pe_meth (pv 0) T.cl_Chain T.me_Chain_place_of G_Chain__Chain_place_of (hr.mono (by decide)) T.b_Chain_place_of .nil pass0 (pa_cons (pv 1) (pa_nil))) (fun _ _ => rfl)))
      (pss_cons (ps_dput hu (pe_fld (pv 0) (by rfl)) (pe_fld (pv 0) (by rfl)) (pe_make T.mk_Link G_mk_Link (hr.mono (by decide)) (by rfl) T.g_Link T.b_Link_init .nil pass0 (pa_cons (pv 1) (pa_cons (pe_fld (pv 2) (by rfl)) (pa_nil)))) (by rfl))
      (pss_cons (ps_fld (pv 2) (pe_fld (pv 0) (by rfl)) (by rfl))
      (pss_cons (ps_fld (pv 0) (pe_op op_addI (pe_fld (pv 0) (by rfl)) (pe_int)) (by rfl))
      (pss_one (ps_ret (pe_bl)))))))
  · exact pure_chput ⟨T.cl_Chain, T.na_Chain_hands, T.na_Chain_links, T.na_Chain_made, T.na_Chain_era, T.na_Chain_inside, T.na_Chain_at, T.na_Chain_waits, T.cl_Link, T.na_Link_key, T.na_Link_after⟩ h
set_option maxHeartbeats 8000000 in
theorem ok_Chain__Chain_look_hand (T : Txt K mg D) : FnOk P w K mg base CX0 2 D.f_Chain_look_hand D.d_Chain_look_hand ["self", "hand"] (sp_chlook_hand D.c_Chain D.c_Link) := by
  have G_is_whole : FnOk P w K mg base CX0 1 D.f_is_whole D.d_is_whole ["thing", "low", "high"] (sp_is_whole) := ok_is_whole T
  refine T.F_Chain_look_hand.ok sc_Chain_look_hand (fun vs H Q E h => ?_) (fun cdv A outer s H vs Q E hr h => ⟨t_Chain_look_hand K (sp_is_whole), ?_, ?_⟩)
  · first | (obtain ⟨_, rfl, _⟩ := h; rfl; done) | (obtain ⟨_, _, rfl, _⟩ := h; rfl; done) | (obtain ⟨_, _, _, rfl, _⟩ := h; rfl; done) | (obtain ⟨_, _, _, _, rfl, _⟩ := h; rfl; done) | (obtain ⟨_, _, _, _, _, rfl, _⟩ := h; rfl; done) | (obtain ⟨_, _, _, _, _, _, rfl, _⟩ := h; rfl; done) | (obtain ⟨_, _, _, _, _, _, _, rfl, _⟩ := h; rfl; done) | (obtain ⟨_, _, _, _, _, _, _, _, rfl, _⟩ := h; rfl; done) | (obtain ⟨_, _, _, _, _, _, _, _, _, rfl, _⟩ := h; rfl; done) | (obtain ⟨_, _, _, _, _, _, _, _, _, _, rfl, _⟩ := h; rfl; done) | (obtain ⟨_, _, _, _, _, _, _, _, _, _, _, rfl, _⟩ := h; rfl; done) | (obtain ⟨_, _, _, _, _, _, _, _, _, _, _, _, rfl, _⟩ := h; rfl; done) | (obtain ⟨_, _, _, _, _, _, _, _, _, _, _, _, _, rfl, _⟩ := h; rfl; done) | (obtain ⟨_, _, _, _, _, _, _, _, _, _, _, _, _, _, rfl, _⟩ := h; rfl; done) | (obtain ⟨_, _, _, _, _, _, _, _, _, _, _, _, _, _, _, rfl, _⟩ := h; rfl; done) | ((rcases h with h | h) <;> (first | (obtain ⟨_, rfl, _⟩ := h; rfl) | (obtain ⟨_, _, rfl, _⟩ := h; rfl) | (obtain ⟨_, _, _, rfl, _⟩ := h; rfl) | (obtain ⟨_, _, _, _, rfl, _⟩ := h; rfl) | (obtain ⟨_, _, _, _, _, rfl, _⟩ := h; rfl) | (obtain ⟨_, _, _, _, _, _, rfl, _⟩ := h; rfl) | (obtain ⟨_, _, _, _, _, _, _, rfl, _⟩ := h; rfl) | (obtain ⟨_, _, _, _, _, _, _, _, rfl, _⟩ := h; rfl) | (obtain ⟨_, _, _, _, _, _, _, _, _, rfl, _⟩ := h; rfl) | (obtain ⟨_, _, _, _, _, _, _, _, _, _, rfl, _⟩ := h; rfl) | (obtain ⟨_, _, _, _, _, _, _, _, _, _, _, rfl, _⟩ := h; rfl) | (obtain ⟨_, _, _, _, _, _, _, _, _, _, _, _, rfl, _⟩ := h; rfl) | (obtain ⟨_, _, _, _, _, _, _, _, _, _, _, _, _, rfl, _⟩ := h; rfl) | (obtain ⟨_, _, _, _, _, _, _, _, _, _, _, _, _, _, rfl, _⟩ := h; rfl) | (obtain ⟨_, _, _, _, _, _, _, _, _, _, _, _, _, _, _, rfl, _⟩ := h; rfl)))
  · have hu := hu_of hr
    exact pss_one (ps_if (pt_not (pt_val (pe_call G_is_whole (hr.mono (by decide)) (by rfl) T.g_is_whole T.F_is_whole.kp T.b_is_whole .nil pass0 (pa_cons (pv 1) (pa_cons (pe_int) (pa_cons (pe_op op_subI (pe_fld (pv 0) (by rfl)) (pe_int)) (pa_nil))))))) (pss_one (ps_never)) (pss_nil))
  · exact pure_chlook_hand ⟨T.cl_Chain, T.na_Chain_hands, T.na_Chain_links, T.na_Chain_made, T.na_Chain_era, T.na_Chain_inside, T.na_Chain_at, T.na_Chain_waits, T.cl_Link, T.na_Link_key, T.na_Link_after⟩ h
set_option maxHeartbeats 8000000 in
theorem ok_Chain__Chain_start (T : Txt K mg D) : FnOk P w K mg base CX0 3 D.f_Chain_start D.d_Chain_start ["self", "hand"] (sp_chstart D.c_Chain D.c_Link) := by
  have G_Chain__Chain_look_hand : FnOk P w K mg base CX0 2 D.f_Chain_look_hand D.d_Chain_look_hand ["self", "hand"] (sp_chlook_hand D.c_Chain D.c_Link) := ok_Chain__Chain_look_hand T
  refine T.F_Chain_start.ok sc_Chain_start (fun vs H Q E h => ?_) (fun cdv A outer s H vs Q E hr h => ⟨t_Chain_start K D.c_Chain (sp_chlook_hand D.c_Chain D.c_Link), ?_, ?_⟩)
  · first | (obtain ⟨_, rfl, _⟩ := h; rfl; done) | (obtain ⟨_, _, rfl, _⟩ := h; rfl; done) | (obtain ⟨_, _, _, rfl, _⟩ := h; rfl; done) | (obtain ⟨_, _, _, _, rfl, _⟩ := h; rfl; done) | (obtain ⟨_, _, _, _, _, rfl, _⟩ := h; rfl; done) | (obtain ⟨_, _, _, _, _, _, rfl, _⟩ := h; rfl; done) | (obtain ⟨_, _, _, _, _, _, _, rfl, _⟩ := h; rfl; done) | (obtain ⟨_, _, _, _, _, _, _, _, rfl, _⟩ := h; rfl; done) | (obtain ⟨_, _, _, _, _, _, _, _, _, rfl, _⟩ := h; rfl; done) | (obtain ⟨_, _, _, _, _, _, _, _, _, _, rfl, _⟩ := h; rfl; done) | (obtain ⟨_, _, _, _, _, _, _, _, _, _, _, rfl, _⟩ := h; rfl; done) | (obtain ⟨_, _, _, _, _, _, _, _, _, _, _, _, rfl, _⟩ := h; rfl; done) | (obtain ⟨_, _, _, _, _, _, _, _, _, _, _, _, _, rfl, _⟩ := h; rfl; done) | (obtain ⟨_, _, _, _, _, _, _, _, _, _, _, _, _, _, rfl, _⟩ := h; rfl; done) | (obtain ⟨_, _, _, _, _, _, _, _, _, _, _, _, _, _, _, rfl, _⟩ := h; rfl; done) | ((rcases h with h | h) <;> (first | (obtain ⟨_, rfl, _⟩ := h; rfl) | (obtain ⟨_, _, rfl, _⟩ := h; rfl) | (obtain ⟨_, _, _, rfl, _⟩ := h; rfl) | (obtain ⟨_, _, _, _, rfl, _⟩ := h; rfl) | (obtain ⟨_, _, _, _, _, rfl, _⟩ := h; rfl) | (obtain ⟨_, _, _, _, _, _, rfl, _⟩ := h; rfl) | (obtain ⟨_, _, _, _, _, _, _, rfl, _⟩ := h; rfl) | (obtain ⟨_, _, _, _, _, _, _, _, rfl, _⟩ := h; rfl) | (obtain ⟨_, _, _, _, _, _, _, _, _, rfl, _⟩ := h; rfl) | (obtain ⟨_, _, _, _, _, _, _, _, _, _, rfl, _⟩ := h; rfl) | (obtain ⟨_, _, _, _, _, _, _, _, _, _, _, rfl, _⟩ := h; rfl) | (obtain ⟨_, _, _, _, _, _, _, _, _, _, _, _, rfl, _⟩ := h; rfl) | (obtain ⟨_, _, _, _, _, _, _, _, _, _, _, _, _, rfl, _⟩ := h; rfl) | (obtain ⟨_, _, _, _, _, _, _, _, _, _, _, _, _, _, rfl, _⟩ := h; rfl) | (obtain ⟨_, _, _, _, _, _, _, _, _, _, _, _, _, _, _, rfl, _⟩ := h; rfl)))
  · have hu := hu_of hr
    exact pss_cons (ps_expr (pe_meth (pv 0) T.cl_Chain T.me_Chain_look_hand G_Chain__Chain_look_hand (hr.mono (by decide)) T.b_Chain_look_hand .nil pass0 (pa_cons (pv 1) (pa_nil))))
      (pss_cons (ps_if (pt_cmp (pc_din hu (pv 1) (pe_fld (pv 0) (by rfl))) (by rfl)) (pss_one (ps_never)) (pss_nil))
      (pss_cons (ps_dput hu (pe_fld (pv 0) (by rfl)) (pv 1) (pe_fld (pv 0) (by rfl)) (by rfl))
      (pss_one (ps_dput hu (pe_fld (pv 0) (by rfl)) (pv 1) (pe_int) (by rfl)))))
  · exact pure_chstart ⟨T.cl_Chain, T.na_Chain_hands, T.na_Chain_links, T.na_Chain_made, T.na_Chain_era, T.na_Chain_inside, T.na_Chain_at, T.na_Chain_waits, T.cl_Link, T.na_Link_key, T.na_Link_after⟩ h
set_option maxHeartbeats 8000000 in
theorem ok_Chain__Chain_look_in (T : Txt K mg D) : FnOk P w K mg base CX0 3 D.f_Chain_look_in D.d_Chain_look_in ["self", "hand"] (sp_chlook_in D.c_Chain D.c_Link) := by
  have G_Chain__Chain_look_hand : FnOk P w K mg base CX0 2 D.f_Chain_look_hand D.d_Chain_look_hand ["self", "hand"] (sp_chlook_hand D.c_Chain D.c_Link) := ok_Chain__Chain_look_hand T
  refine T.F_Chain_look_in.ok sc_Chain_look_in (fun vs H Q E h => ?_) (fun cdv A outer s H vs Q E hr h => ⟨t_Chain_look_in K D.c_Chain (sp_chlook_hand D.c_Chain D.c_Link), ?_, ?_⟩)
  · first | (obtain ⟨_, rfl, _⟩ := h; rfl; done) | (obtain ⟨_, _, rfl, _⟩ := h; rfl; done) | (obtain ⟨_, _, _, rfl, _⟩ := h; rfl; done) | (obtain ⟨_, _, _, _, rfl, _⟩ := h; rfl; done) | (obtain ⟨_, _, _, _, _, rfl, _⟩ := h; rfl; done) | (obtain ⟨_, _, _, _, _, _, rfl, _⟩ := h; rfl; done) | (obtain ⟨_, _, _, _, _, _, _, rfl, _⟩ := h; rfl; done) | (obtain ⟨_, _, _, _, _, _, _, _, rfl, _⟩ := h; rfl; done) | (obtain ⟨_, _, _, _, _, _, _, _, _, rfl, _⟩ := h; rfl; done) | (obtain ⟨_, _, _, _, _, _, _, _, _, _, rfl, _⟩ := h; rfl; done) | (obtain ⟨_, _, _, _, _, _, _, _, _, _, _, rfl, _⟩ := h; rfl; done) | (obtain ⟨_, _, _, _, _, _, _, _, _, _, _, _, rfl, _⟩ := h; rfl; done) | (obtain ⟨_, _, _, _, _, _, _, _, _, _, _, _, _, rfl, _⟩ := h; rfl; done) | (obtain ⟨_, _, _, _, _, _, _, _, _, _, _, _, _, _, rfl, _⟩ := h; rfl; done) | (obtain ⟨_, _, _, _, _, _, _, _, _, _, _, _, _, _, _, rfl, _⟩ := h; rfl; done) | ((rcases h with h | h) <;> (first | (obtain ⟨_, rfl, _⟩ := h; rfl) | (obtain ⟨_, _, rfl, _⟩ := h; rfl) | (obtain ⟨_, _, _, rfl, _⟩ := h; rfl) | (obtain ⟨_, _, _, _, rfl, _⟩ := h; rfl) | (obtain ⟨_, _, _, _, _, rfl, _⟩ := h; rfl) | (obtain ⟨_, _, _, _, _, _, rfl, _⟩ := h; rfl) | (obtain ⟨_, _, _, _, _, _, _, rfl, _⟩ := h; rfl) | (obtain ⟨_, _, _, _, _, _, _, _, rfl, _⟩ := h; rfl) | (obtain ⟨_, _, _, _, _, _, _, _, _, rfl, _⟩ := h; rfl) | (obtain ⟨_, _, _, _, _, _, _, _, _, _, rfl, _⟩ := h; rfl) | (obtain ⟨_, _, _, _, _, _, _, _, _, _, _, rfl, _⟩ := h; rfl) | (obtain ⟨_, _, _, _, _, _, _, _, _, _, _, _, rfl, _⟩ := h; rfl) | (obtain ⟨_, _, _, _, _, _, _, _, _, _, _, _, _, rfl, _⟩ := h; rfl) | (obtain ⟨_, _, _, _, _, _, _, _, _, _, _, _, _, _, rfl, _⟩ := h; rfl) | (obtain ⟨_, _, _, _, _, _, _, _, _, _, _, _, _, _, _, rfl, _⟩ := h; rfl)))
  · have hu := hu_of hr
    exact pss_cons (ps_expr (pe_meth (pv 0) T.cl_Chain T.me_Chain_look_hand G_Chain__Chain_look_hand (hr.mono (by decide)) T.b_Chain_look_hand .nil pass0 (pa_cons (pv 1) (pa_nil))))
      (pss_one (ps_if (pt_cmp (pc_dnotin hu (pv 1) (pe_fld (pv 0) (by rfl))) (by rfl)) (pss_one (ps_never)) (pss_nil)))
  · exact pure_chlook_in ⟨T.cl_Chain, T.na_Chain_hands, T.na_Chain_links, T.na_Chain_made, T.na_Chain_era, T.na_Chain_inside, T.na_Chain_at, T.na_Chain_waits, T.cl_Link, T.na_Link_key, T.na_Link_after⟩ h
set_option maxHeartbeats 8000000 in
theorem ok_Chain__Chain_stop (T : Txt K mg D) : FnOk P w K mg base CX0 4 D.f_Chain_stop D.d_Chain_stop ["self", "hand"] (sp_chstop D.c_Chain D.c_Link) := by
  have G_Chain__Chain_look_in : FnOk P w K mg base CX0 3 D.f_Chain_look_in D.d_Chain_look_in ["self", "hand"] (sp_chlook_in D.c_Chain D.c_Link) := ok_Chain__Chain_look_in T
  refine T.F_Chain_stop.ok sc_Chain_stop (fun vs H Q E h => ?_) (fun cdv A outer s H vs Q E hr h => ⟨t_Chain_stop K D.c_Chain (sp_chlook_in D.c_Chain D.c_Link), ?_, ?_⟩)
  · first | (obtain ⟨_, rfl, _⟩ := h; rfl; done) | (obtain ⟨_, _, rfl, _⟩ := h; rfl; done) | (obtain ⟨_, _, _, rfl, _⟩ := h; rfl; done) | (obtain ⟨_, _, _, _, rfl, _⟩ := h; rfl; done) | (obtain ⟨_, _, _, _, _, rfl, _⟩ := h; rfl; done) | (obtain ⟨_, _, _, _, _, _, rfl, _⟩ := h; rfl; done) | (obtain ⟨_, _, _, _, _, _, _, rfl, _⟩ := h; rfl; done) | (obtain ⟨_, _, _, _, _, _, _, _, rfl, _⟩ := h; rfl; done) | (obtain ⟨_, _, _, _, _, _, _, _, _, rfl, _⟩ := h; rfl; done) | (obtain ⟨_, _, _, _, _, _, _, _, _, _, rfl, _⟩ := h; rfl; done) | (obtain ⟨_, _, _, _, _, _, _, _, _, _, _, rfl, _⟩ := h; rfl; done) | (obtain ⟨_, _, _, _, _, _, _, _, _, _, _, _, rfl, _⟩ := h; rfl; done) | (obtain ⟨_, _, _, _, _, _, _, _, _, _, _, _, _, rfl, _⟩ := h; rfl; done) | (obtain ⟨_, _, _, _, _, _, _, _, _, _, _, _, _, _, rfl, _⟩ := h; rfl; done) | (obtain ⟨_, _, _, _, _, _, _, _, _, _, _, _, _, _, _, rfl, _⟩ := h; rfl; done) | ((rcases h with h | h) <;> (first | (obtain ⟨_, rfl, _⟩ := h; rfl) | (obtain ⟨_, _, rfl, _⟩ := h; rfl) | (obtain ⟨_, _, _, rfl, _⟩ := h; rfl) | (obtain ⟨_, _, _, _, rfl, _⟩ := h; rfl) | (obtain ⟨_, _, _, _, _, rfl, _⟩ := h; rfl) | (obtain ⟨_, _, _, _, _, _, rfl, _⟩ := h; rfl) | (obtain ⟨_, _, _, _, _, _, _, rfl, _⟩ := h; rfl) | (obtain ⟨_, _, _, _, _, _, _, _, rfl, _⟩ := h; rfl) | (obtain ⟨_, _, _, _, _, _, _, _, _, rfl, _⟩ := h; rfl) | (obtain ⟨_, _, _, _, _, _, _, _, _, _, rfl, _⟩ := h; rfl) | (obtain ⟨_, _, _, _, _, _, _, _, _, _, _, rfl, _⟩ := h; rfl) | (obtain ⟨_, _, _, _, _, _, _, _, _, _, _, _, rfl, _⟩ := h; rfl) | (obtain ⟨_, _, _, _, _, _, _, _, _, _, _, _, _, rfl, _⟩ := h; rfl) | (obtain ⟨_, _, _, _, _, _, _, _, _, _, _, _, _, _, rfl, _⟩ := h; rfl) | (obtain ⟨_, _, _, _, _, _, _, _, _, _, _, _, _, _, _, rfl, _⟩ := h; rfl)))
  · have hu := hu_of hr
    exact pss_cons (ps_expr (pe_meth (pv 0) T.cl_Chain T.me_Chain_look_in G_Chain__Chain_look_in (hr.mono (by decide)) T.b_Chain_look_in .nil pass0 (pa_cons (pv 1) (pa_nil))))
      (pss_cons (ps_expr (pe_dpop1 (pe_fld (pv 0) (by rfl)) (pv 1) ⟨rfl, rfl, rfl, rfl⟩))
      (pss_one (ps_expr (pe_dpop1 (pe_fld (pv 0) (by rfl)) (pv 1) ⟨rfl, rfl, rfl, rfl⟩))))
  · exact pure_chstop ⟨T.cl_Chain, T.na_Chain_hands, T.na_Chain_links, T.na_Chain_made, T.na_Chain_era, T.na_Chain_inside, T.na_Chain_at, T.na_Chain_waits, T.cl_Link, T.na_Link_key, T.na_Link_after⟩ h
set_option maxHeartbeats 8000000 in
theorem ok_Chain__Chain_step (T : Txt K mg D) : FnOk P w K mg base CX0 5 D.f_Chain_step D.d_Chain_step ["self", "hand"] (sp_chstep D.c_Chain D.c_Link) := by
  have G_Chain__Chain_look_in : FnOk P w K mg base CX0 3 D.f_Chain_look_in D.d_Chain_look_in ["self", "hand"] (sp_chlook_in D.c_Chain D.c_Link) := ok_Chain__Chain_look_in T
  have G_Chain__Chain_stop : FnOk P w K mg base CX0 4 D.f_Chain_stop D.d_Chain_stop ["self", "hand"] (sp_chstop D.c_Chain D.c_Link) := ok_Chain__Chain_stop T
  refine T.F_Chain_step.ok sc_Chain_step (fun vs H Q E h => ?_) (fun cdv A outer s H vs Q E hr h => ⟨t_Chain_step K D.c_Chain (sp_chlook_in D.c_Chain D.c_Link) (sp_chstop D.c_Chain D.c_Link), ?_, ?_⟩)
  · first | (obtain ⟨_, rfl, _⟩ := h; rfl; done) | (obtain ⟨_, _, rfl, _⟩ := h; rfl; done) | (obtain ⟨_, _, _, rfl, _⟩ := h; rfl; done) | (obtain ⟨_, _, _, _, rfl, _⟩ := h; rfl; done) | (obtain ⟨_, _, _, _, _, rfl, _⟩ := h; rfl; done) | (obtain ⟨_, _, _, _, _, _, rfl, _⟩ := h; rfl; done) | (obtain ⟨_, _, _, _, _, _, _, rfl, _⟩ := h; rfl; done) | (obtain ⟨_, _, _, _, _, _, _, _, rfl, _⟩ := h; rfl; done) | (obtain ⟨_, _, _, _, _, _, _, _, _, rfl, _⟩ := h; rfl; done) | (obtain ⟨_, _, _, _, _, _, _, _, _, _, rfl, _⟩ := h; rfl; done) | (obtain ⟨_, _, _, _, _, _, _, _, _, _, _, rfl, _⟩ := h; rfl; done) | (obtain ⟨_, _, _, _, _, _, _, _, _, _, _, _, rfl, _⟩ := h; rfl; done) | (obtain ⟨_, _, _, _, _, _, _, _, _, _, _, _, _, rfl, _⟩ := h; rfl; done) | (obtain ⟨_, _, _, _, _, _, _, _, _, _, _, _, _, _, rfl, _⟩ := h; rfl; done) | (obtain ⟨_, _, _, _, _, _, _, _, _, _, _, _, _, _, _, rfl, _⟩ := h; rfl; done) | ((rcases h with h | h) <;> (first | (obtain ⟨_, rfl, _⟩ := h; rfl) | (obtain ⟨_, _, rfl, _⟩ := h; rfl) | (obtain ⟨_, _, _, rfl, _⟩ := h; rfl) | (obtain ⟨_, _, _, _, rfl, _⟩ := h; rfl) | (obtain ⟨_, _, _, _, _, rfl, _⟩ := h; rfl) | (obtain ⟨_, _, _, _, _, _, rfl, _⟩ := h; rfl) | (obtain ⟨_, _, _, _, _, _, _, rfl, _⟩ := h; rfl) | (obtain ⟨_, _, _, _, _, _, _, _, rfl, _⟩ := h; rfl) | (obtain ⟨_, _, _, _, _, _, _, _, _, rfl, _⟩ := h; rfl) | (obtain ⟨_, _, _, _, _, _, _, _, _, _, rfl, _⟩ := h; rfl) | (obtain ⟨_, _, _, _, _, _, _, _, _, _, _, rfl, _⟩ := h; rfl) | (obtain ⟨_, _, _, _, _, _, _, _, _, _, _, _, rfl, _⟩ := h; rfl) | (obtain ⟨_, _, _, _, _, _, _, _, _, _, _, _, _, rfl, _⟩ := h; rfl) | (obtain ⟨_, _, _, _, _, _, _, _, _, _, _, _, _, _, rfl, _⟩ := h; rfl) | (obtain ⟨_, _, _, _, _, _, _, _, _, _, _, _, _, _, _, rfl, _⟩ := h; rfl)))
  · have hu := hu_of hr
    exact pss_cons (ps_expr (pe_meth (pv 0) T.cl_Chain T.me_Chain_look_in G_Chain__Chain_look_in (hr.mono (by decide)) T.b_Chain_look_in .nil pass0 (pa_cons (pv 1) (pa_nil))))
      (pss_cons (ps_set (i := 2) sc_Chain_step.nd rfl (by first | exact Or.inl rfl | exact Or.inr rfl) (pe_fld (pe_dget hu (pe_fld (pv 0) (by rfl)) (pe_dget hu (pe_fld (pv 0) (by rfl)) (pv 1) (fun _ _ => rfl)) (fun _ _ => rfl)) (by rfl)))
      (pss_cons (ps_if (pt_cmpR op_isNo (pv 2) (pe_non) (nomark _)) (pss_cons (ps_expr (pe_meth (pv 0) T.cl_Chain T.me_Chain_stop G_Chain__Chain_stop (hr.mono (by decide)) T.b_Chain_stop .nil pass0 (pa_cons (pv 1) (pa_nil))))
      (pss_one (ps_ret (pe_non)))) (pss_nil))
      (pss_cons (ps_if (pt_cmp (pc_dnotin hu (pv 2) (pe_fld (pv 0) (by rfl))) (by rfl)) (pss_one (ps_never)) (pss_nil))
      (pss_cons (ps_dput hu (pe_fld (pv 0) (by rfl)) (pv 1) (pv 2) (by rfl))
      (pss_one (ps_ret (pe_fld (pe_dget hu (pe_fld (pv 0) (by rfl)) (pv 2) (fun _ _ => rfl)) (by rfl))))))))
  · exact pure_chstep ⟨T.cl_Chain, T.na_Chain_hands, T.na_Chain_links, T.na_Chain_made, T.na_Chain_era, T.na_Chain_inside, T.na_Chain_at, T.na_Chain_waits, T.cl_Link, T.na_Link_key, T.na_Link_after⟩ h
set_option maxHeartbeats 8000000 in
theorem ok__law_pick (T : Txt K mg D) : FnOk P w K mg base CX0 2 D.f__law_pick D.d__law_pick ["town", "some"] (sp__law_pick) := by
  have G__law_draw : FnOk P w K mg base CX0 1 D.f__law_draw D.d__law_draw ["town", "many"] (sp__law_draw) := ok__law_draw T
  refine T.F__law_pick.ok sc__law_pick (fun vs H Q E h => ?_) (fun cdv A outer s H vs Q E hr h => ⟨t__law_pick K (sp__law_draw), ?_, ?_⟩)
  · first | (obtain ⟨_, rfl, _⟩ := h; rfl; done) | (obtain ⟨_, _, rfl, _⟩ := h; rfl; done) | (obtain ⟨_, _, _, rfl, _⟩ := h; rfl; done) | (obtain ⟨_, _, _, _, rfl, _⟩ := h; rfl; done) | (obtain ⟨_, _, _, _, _, rfl, _⟩ := h; rfl; done) | (obtain ⟨_, _, _, _, _, _, rfl, _⟩ := h; rfl; done) | (obtain ⟨_, _, _, _, _, _, _, rfl, _⟩ := h; rfl; done) | (obtain ⟨_, _, _, _, _, _, _, _, rfl, _⟩ := h; rfl; done) | (obtain ⟨_, _, _, _, _, _, _, _, _, rfl, _⟩ := h; rfl; done) | (obtain ⟨_, _, _, _, _, _, _, _, _, _, rfl, _⟩ := h; rfl; done) | (obtain ⟨_, _, _, _, _, _, _, _, _, _, _, rfl, _⟩ := h; rfl; done) | (obtain ⟨_, _, _, _, _, _, _, _, _, _, _, _, rfl, _⟩ := h; rfl; done) | (obtain ⟨_, _, _, _, _, _, _, _, _, _, _, _, _, rfl, _⟩ := h; rfl; done) | (obtain ⟨_, _, _, _, _, _, _, _, _, _, _, _, _, _, rfl, _⟩ := h; rfl; done) | (obtain ⟨_, _, _, _, _, _, _, _, _, _, _, _, _, _, _, rfl, _⟩ := h; rfl; done) | ((rcases h with h | h) <;> (first | (obtain ⟨_, rfl, _⟩ := h; rfl) | (obtain ⟨_, _, rfl, _⟩ := h; rfl) | (obtain ⟨_, _, _, rfl, _⟩ := h; rfl) | (obtain ⟨_, _, _, _, rfl, _⟩ := h; rfl) | (obtain ⟨_, _, _, _, _, rfl, _⟩ := h; rfl) | (obtain ⟨_, _, _, _, _, _, rfl, _⟩ := h; rfl) | (obtain ⟨_, _, _, _, _, _, _, rfl, _⟩ := h; rfl) | (obtain ⟨_, _, _, _, _, _, _, _, rfl, _⟩ := h; rfl) | (obtain ⟨_, _, _, _, _, _, _, _, _, rfl, _⟩ := h; rfl) | (obtain ⟨_, _, _, _, _, _, _, _, _, _, rfl, _⟩ := h; rfl) | (obtain ⟨_, _, _, _, _, _, _, _, _, _, _, rfl, _⟩ := h; rfl) | (obtain ⟨_, _, _, _, _, _, _, _, _, _, _, _, rfl, _⟩ := h; rfl) | (obtain ⟨_, _, _, _, _, _, _, _, _, _, _, _, _, rfl, _⟩ := h; rfl) | (obtain ⟨_, _, _, _, _, _, _, _, _, _, _, _, _, _, rfl, _⟩ := h; rfl) | (obtain ⟨_, _, _, _, _, _, _, _, _, _, _, _, _, _, _, rfl, _⟩ := h; rfl)))
  · have hu := hu_of hr
    exact pss_one (ps_ret (pe_ix ix_list (pv 1) (pe_call G__law_draw (hr.mono (by decide)) (by rfl) T.g__law_draw T.F__law_draw.kp T.b__law_draw .nil pass0 (pa_cons (pv 0) (pa_cons (pe_callB call_lenQ (by rfl) T.m_len PySem.boot_len (pa_cons (pv 1) (pa_nil))) (pa_nil)))) (fun _ _ => rfl)))
  · exact pure__law_pick h
set_option maxHeartbeats 8000000 in
theorem ok__law_odd (T : Txt K mg D) : FnOk P w K mg base CX0 3 D.f__law_odd D.d__law_odd ["town", "most"] (sp__law_odd) := by
  have G__law_pick : FnOk P w K mg base CX0 2 D.f__law_pick D.d__law_pick ["town", "some"] (sp__law_pick) := ok__law_pick T
  have G__law_draw : FnOk P w K mg base CX0 1 D.f__law_draw D.d__law_draw ["town", "many"] (sp__law_draw) := ok__law_draw T
  refine T.F__law_odd.ok sc__law_odd (fun vs H Q E h => ?_) (fun cdv A outer s H vs Q E hr h => ⟨t__law_odd K (sp__law_pick) (sp__law_draw), ?_, ?_⟩)
  · first | (obtain ⟨_, rfl, _⟩ := h; rfl; done) | (obtain ⟨_, _, rfl, _⟩ := h; rfl; done) | (obtain ⟨_, _, _, rfl, _⟩ := h; rfl; done) | (obtain ⟨_, _, _, _, rfl, _⟩ := h; rfl; done) | (obtain ⟨_, _, _, _, _, rfl, _⟩ := h; rfl; done) | (obtain ⟨_, _, _, _, _, _, rfl, _⟩ := h; rfl; done) | (obtain ⟨_, _, _, _, _, _, _, rfl, _⟩ := h; rfl; done) | (obtain ⟨_, _, _, _, _, _, _, _, rfl, _⟩ := h; rfl; done) | (obtain ⟨_, _, _, _, _, _, _, _, _, rfl, _⟩ := h; rfl; done) | (obtain ⟨_, _, _, _, _, _, _, _, _, _, rfl, _⟩ := h; rfl; done) | (obtain ⟨_, _, _, _, _, _, _, _, _, _, _, rfl, _⟩ := h; rfl; done) | (obtain ⟨_, _, _, _, _, _, _, _, _, _, _, _, rfl, _⟩ := h; rfl; done) | (obtain ⟨_, _, _, _, _, _, _, _, _, _, _, _, _, rfl, _⟩ := h; rfl; done) | (obtain ⟨_, _, _, _, _, _, _, _, _, _, _, _, _, _, rfl, _⟩ := h; rfl; done) | (obtain ⟨_, _, _, _, _, _, _, _, _, _, _, _, _, _, _, rfl, _⟩ := h; rfl; done) | ((rcases h with h | h) <;> (first | (obtain ⟨_, rfl, _⟩ := h; rfl) | (obtain ⟨_, _, rfl, _⟩ := h; rfl) | (obtain ⟨_, _, _, rfl, _⟩ := h; rfl) | (obtain ⟨_, _, _, _, rfl, _⟩ := h; rfl) | (obtain ⟨_, _, _, _, _, rfl, _⟩ := h; rfl) | (obtain ⟨_, _, _, _, _, _, rfl, _⟩ := h; rfl) | (obtain ⟨_, _, _, _, _, _, _, rfl, _⟩ := h; rfl) | (obtain ⟨_, _, _, _, _, _, _, _, rfl, _⟩ := h; rfl) | (obtain ⟨_, _, _, _, _, _, _, _, _, rfl, _⟩ := h; rfl) | (obtain ⟨_, _, _, _, _, _, _, _, _, _, rfl, _⟩ := h; rfl) | (obtain ⟨_, _, _, _, _, _, _, _, _, _, _, rfl, _⟩ := h; rfl) | (obtain ⟨_, _, _, _, _, _, _, _, _, _, _, _, rfl, _⟩ := h; rfl) | (obtain ⟨_, _, _, _, _, _, _, _, _, _, _, _, _, rfl, _⟩ := h; rfl) | (obtain ⟨_, _, _, _, _, _, _, _, _, _, _, _, _, _, rfl, _⟩ := h; rfl) | (obtain ⟨_, _, _, _, _, _, _, _, _, _, _, _, _, _, _, rfl, _⟩ := h; rfl)))
  · have hu := hu_of hr
    exact pss_one (ps_ret (pe_call G__law_pick (hr.mono (by decide)) (by rfl) T.g__law_pick T.F__law_pick.kp T.b__law_pick .nil pass0 (pa_cons (pv 0) (pa_cons (pe_lst (pa_cons (pv 1) (pa_cons (pe_op op_subI (pe_int) (pe_int)) (pa_cons (pe_bl) (pa_cons (pe_non) (pa_cons (pe_str) (pa_cons (pe_lst (pa_cons (pe_int) (pa_nil))) (pa_cons (pe_bl) (pa_cons (pe_op op_addI (pv 1) (pe_call G__law_draw (hr.mono (by decide)) (by rfl) T.g__law_draw T.F__law_draw.kp T.b__law_draw .nil pass0 (pa_cons (pv 0) (pa_cons (pe_int) (pa_nil))))) (pa_nil)))))))))) (pa_nil)))))
  · exact pure__law_odd h
set_option maxHeartbeats 8000000 in
theorem okr_is_whole (T : Txt K mg D) : FnOk P w K mg base (L2.CX P w) 1 D.f_is_whole D.d_is_whole ["thing", "low", "high"] (sr_is_whole) := by
  refine T.F_is_whole.okX sc_is_whole (fun vs H Q E h => ?_) (fun cdv A outer s H vs Q E hr h => ⟨tr_is_whole K E, ?_, ?_⟩)
  · first | (obtain ⟨_, rfl, _⟩ := h; rfl; done) | (obtain ⟨_, _, rfl, _⟩ := h; rfl; done) | (obtain ⟨_, _, _, rfl, _⟩ := h; rfl; done) | (obtain ⟨_, _, _, _, rfl, _⟩ := h; rfl; done) | (obtain ⟨_, _, _, _, _, rfl, _⟩ := h; rfl; done) | (obtain ⟨_, _, _, _, _, _, rfl, _⟩ := h; rfl; done) | (obtain ⟨_, _, _, _, _, _, _, rfl, _⟩ := h; rfl; done) | (obtain ⟨_, _, _, _, _, _, _, _, rfl, _⟩ := h; rfl; done) | (obtain ⟨_, _, _, _, _, _, _, _, _, rfl, _⟩ := h; rfl; done) | (obtain ⟨_, _, _, _, _, _, _, _, _, _, rfl, _⟩ := h; rfl; done) | (obtain ⟨_, _, _, _, _, _, _, _, _, _, _, rfl, _⟩ := h; rfl; done) | (obtain ⟨_, _, _, _, _, _, _, _, _, _, _, _, rfl, _⟩ := h; rfl; done) | (obtain ⟨_, _, _, _, _, _, _, _, _, _, _, _, _, rfl, _⟩ := h; rfl; done) | (obtain ⟨_, _, _, _, _, _, _, _, _, _, _, _, _, _, rfl, _⟩ := h; rfl; done) | (obtain ⟨_, _, _, _, _, _, _, _, _, _, _, _, _, _, _, rfl, _⟩ := h; rfl; done) | ((rcases h with h | h) <;> (first | (obtain ⟨_, rfl, _⟩ := h; rfl) | (obtain ⟨_, _, rfl, _⟩ := h; rfl) | (obtain ⟨_, _, _, rfl, _⟩ := h; rfl) | (obtain ⟨_, _, _, _, rfl, _⟩ := h; rfl) | (obtain ⟨_, _, _, _, _, rfl, _⟩ := h; rfl) | (obtain ⟨_, _, _, _, _, _, rfl, _⟩ := h; rfl) | (obtain ⟨_, _, _, _, _, _, _, rfl, _⟩ := h; rfl) | (obtain ⟨_, _, _, _, _, _, _, _, rfl, _⟩ := h; rfl) | (obtain ⟨_, _, _, _, _, _, _, _, _, rfl, _⟩ := h; rfl) | (obtain ⟨_, _, _, _, _, _, _, _, _, _, rfl, _⟩ := h; rfl) | (obtain ⟨_, _, _, _, _, _, _, _, _, _, _, rfl, _⟩ := h; rfl) | (obtain ⟨_, _, _, _, _, _, _, _, _, _, _, _, rfl, _⟩ := h; rfl) | (obtain ⟨_, _, _, _, _, _, _, _, _, _, _, _, _, rfl, _⟩ := h; rfl) | (obtain ⟨_, _, _, _, _, _, _, _, _, _, _, _, _, _, rfl, _⟩ := h; rfl) | (obtain ⟨_, _, _, _, _, _, _, _, _, _, _, _, _, _, _, rfl, _⟩ := h; rfl)))
  · have hu := hu_of hr
    exact pss_one (ps_ret (pe_and (pe_callB call_isi (by rfl) T.m_isinstance (by decide +kernel) (pa_cons (pv 0) (pa_cons (pe_bltn (v := .ty "int") (by rfl) T.m_int (by decide +kernel) rfl) (pa_nil)))) (pe_and (pe_not (pe_callB call_isi (by rfl) T.m_isinstance (by decide +kernel) (pa_cons (pv 0) (pa_cons (pe_bltn (v := .ty "bool") (by rfl) T.m_bool (by decide +kernel) rfl) (pa_nil))))) (pe_one (pe_chain op_leI op_leI (pv 1) (pv 0) (pv 2))))))
  · exact purer_is_whole h
set_option maxHeartbeats 8000000 in
theorem okr_look_number (T : Txt K mg D) : FnOk P w K mg base (L2.CX P w) 2 D.f_look_number D.d_look_number ["thing", "low", "high"] (sr_look_number D.c_BadNumber) := by
  have GR_is_whole : FnOk P w K mg base (L2.CX P w) 1 D.f_is_whole D.d_is_whole ["thing", "low", "high"] (spOr (sp_is_whole) (sr_is_whole)) := fn_or (fn_up (ok_is_whole T)) (okr_is_whole T)
  refine T.F_look_number.okX sc_look_number (fun vs H Q E h => ?_) (fun cdv A outer s H vs Q E hr h => ⟨tr_look_number K D.c_BadNumber (spOr (sp_is_whole) (sr_is_whole)) E, ?_, ?_⟩)
  · first | (obtain ⟨_, rfl, _⟩ := h; rfl; done) | (obtain ⟨_, _, rfl, _⟩ := h; rfl; done) | (obtain ⟨_, _, _, rfl, _⟩ := h; rfl; done) | (obtain ⟨_, _, _, _, rfl, _⟩ := h; rfl; done) | (obtain ⟨_, _, _, _, _, rfl, _⟩ := h; rfl; done) | (obtain ⟨_, _, _, _, _, _, rfl, _⟩ := h; rfl; done) | (obtain ⟨_, _, _, _, _, _, _, rfl, _⟩ := h; rfl; done) | (obtain ⟨_, _, _, _, _, _, _, _, rfl, _⟩ := h; rfl; done) | (obtain ⟨_, _, _, _, _, _, _, _, _, rfl, _⟩ := h; rfl; done) | (obtain ⟨_, _, _, _, _, _, _, _, _, _, rfl, _⟩ := h; rfl; done) | (obtain ⟨_, _, _, _, _, _, _, _, _, _, _, rfl, _⟩ := h; rfl; done) | (obtain ⟨_, _, _, _, _, _, _, _, _, _, _, _, rfl, _⟩ := h; rfl; done) | (obtain ⟨_, _, _, _, _, _, _, _, _, _, _, _, _, rfl, _⟩ := h; rfl; done) | (obtain ⟨_, _, _, _, _, _, _, _, _, _, _, _, _, _, rfl, _⟩ := h; rfl; done) | (obtain ⟨_, _, _, _, _, _, _, _, _, _, _, _, _, _, _, rfl, _⟩ := h; rfl; done) | ((rcases h with h | h) <;> (first | (obtain ⟨_, rfl, _⟩ := h; rfl) | (obtain ⟨_, _, rfl, _⟩ := h; rfl) | (obtain ⟨_, _, _, rfl, _⟩ := h; rfl) | (obtain ⟨_, _, _, _, rfl, _⟩ := h; rfl) | (obtain ⟨_, _, _, _, _, rfl, _⟩ := h; rfl) | (obtain ⟨_, _, _, _, _, _, rfl, _⟩ := h; rfl) | (obtain ⟨_, _, _, _, _, _, _, rfl, _⟩ := h; rfl) | (obtain ⟨_, _, _, _, _, _, _, _, rfl, _⟩ := h; rfl) | (obtain ⟨_, _, _, _, _, _, _, _, _, rfl, _⟩ := h; rfl) | (obtain ⟨_, _, _, _, _, _, _, _, _, _, rfl, _⟩ := h; rfl) | (obtain ⟨_, _, _, _, _, _, _, _, _, _, _, rfl, _⟩ := h; rfl) | (obtain ⟨_, _, _, _, _, _, _, _, _, _, _, _, rfl, _⟩ := h; rfl) | (obtain ⟨_, _, _, _, _, _, _, _, _, _, _, _, _, rfl, _⟩ := h; rfl) | (obtain ⟨_, _, _, _, _, _, _, _, _, _, _, _, _, _, rfl, _⟩ := h; rfl) | (obtain ⟨_, _, _, _, _, _, _, _, _, _, _, _, _, _, _, rfl, _⟩ := h; rfl)))
  · have hu := hu_of hr
    exact pss_one (ps_if (pt_not (pt_val (pe_call GR_is_whole (hr.mono (by decide)) (by rfl) T.g_is_whole T.F_is_whole.kp T.b_is_whole .nil (passes_call (takes_of rfl rfl rfl rfl) fun _ _ _ _ h => h) (pa_cons (pv 0) (pa_cons (pv 1) (pa_cons (pv 2) (pa_nil))))))) (pss_one (ps_raise rfl (takes_of rfl rfl rfl rfl) (pmk_own PySem.F.excBase_ValueError T.xi_BadNumber T.g_BadNumber T.kp_BadNumber (raises_own T.sb_BadNumber T.ty_BadNumber) (by rfl)))) (pss_nil))
  · exact purer_look_number h
set_option maxHeartbeats 8000000 in
theorem okr_Chain__Chain_has (T : Txt K mg D) : FnOk P w K mg base (L2.CX P w) 3 D.f_Chain_has D.d_Chain_has ["self", "key"] (sr_chhas D.c_Chain D.c_Link D.c_BadNumber) := by
  have GR_look_number : FnOk P w K mg base (L2.CX P w) 2 D.f_look_number D.d_look_number ["thing", "low", "high"] (spOr (sp_look_number) (sr_look_number D.c_BadNumber)) := fn_or (fn_up (ok_look_number T)) (okr_look_number T)
  have G_Chain__Chain_place_of : FnOk P w K mg base (L2.CX P w) 1 D.f_Chain_place_of D.d_Chain_place_of ["self", "key"] (sp_place_of D.c_Chain D.c_Link) := fn_up (ok_Chain__Chain_place_of T)
  refine T.F_Chain_has.okX sc_Chain_has (fun vs H Q E h => ?_) (fun cdv A outer s H vs Q E hr h => ⟨tr_Chain_has K D.c_Chain (spOr (sp_look_number) (sr_look_number D.c_BadNumber)) (sp_place_of D.c_Chain D.c_Link) E, ?_, ?_⟩)
  · first | (obtain ⟨_, rfl, _⟩ := h; rfl; done) | (obtain ⟨_, _, rfl, _⟩ := h; rfl; done) | (obtain ⟨_, _, _, rfl, _⟩ := h; rfl; done) | (obtain ⟨_, _, _, _, rfl, _⟩ := h; rfl; done) | (obtain ⟨_, _, _, _, _, rfl, _⟩ := h; rfl; done) | (obtain ⟨_, _, _, _, _, _, rfl, _⟩ := h; rfl; done) | (obtain ⟨_, _, _, _, _, _, _, rfl, _⟩ := h; rfl; done) | (obtain ⟨_, _, _, _, _, _, _, _, rfl, _⟩ := h; rfl; done) | (obtain ⟨_, _, _, _, _, _, _, _, _, rfl, _⟩ := h; rfl; done) | (obtain ⟨_, _, _, _, _, _, _, _, _, _, rfl, _⟩ := h; rfl; done) | (obtain ⟨_, _, _, _, _, _, _, _, _, _, _, rfl, _⟩ := h; rfl; done) | (obtain ⟨_, _, _, _, _, _, _, _, _, _, _, _, rfl, _⟩ := h; rfl; done) | (obtain ⟨_, _, _, _, _, _, _, _, _, _, _, _, _, rfl, _⟩ := h; rfl; done) | (obtain ⟨_, _, _, _, _, _, _, _, _, _, _, _, _, _, rfl, _⟩ := h; rfl; done) | (obtain ⟨_, _, _, _, _, _, _, _, _, _, _, _, _, _, _, rfl, _⟩ := h; rfl; done) | ((rcases h with h | h) <;> (first | (obtain ⟨_, rfl, _⟩ := h; rfl) | (obtain ⟨_, _, rfl, _⟩ := h; rfl) | (obtain ⟨_, _, _, rfl, _⟩ := h; rfl) | (obtain ⟨_, _, _, _, rfl, _⟩ := h; rfl) | (obtain ⟨_, _, _, _, _, rfl, _⟩ := h; rfl) | (obtain ⟨_, _, _, _, _, _, rfl, _⟩ := h; rfl) | (obtain ⟨_, _, _, _, _, _, _, rfl, _⟩ := h; rfl) | (obtain ⟨_, _, _, _, _, _, _, _, rfl, _⟩ := h; rfl) | (obtain ⟨_, _, _, _, _, _, _, _, _, rfl, _⟩ := h; rfl) | (obtain ⟨_, _, _, _, _, _, _, _, _, _, rfl, _⟩ := h; rfl) | (obtain ⟨_, _, _, _, _, _, _, _, _, _, _, rfl, _⟩ := h; rfl) | (obtain ⟨_, _, _, _, _, _, _, _, _, _, _, _, rfl, _⟩ := h; rfl) | (obtain ⟨_, _, _, _, _, _, _, _, _, _, _, _, _, rfl, _⟩ := h; rfl) | (obtain ⟨_, _, _, _, _, _, _, _, _, _, _, _, _, _, rfl, _⟩ := h; rfl) | (obtain ⟨_, _, _, _, _, _, _, _, _, _, _, _, _, _, _, rfl, _⟩ := h; rfl)))
  · have hu := hu_of hr
    exact pss_cons (ps_expr (pe_call GR_look_number (hr.mono (by decide)) (by rfl) T.g_look_number T.F_look_number.kp T.b_look_number .nil (passes_call (takes_of rfl rfl rfl rfl) fun _ _ _ _ h => h) (pa_cons (pv 1) (pa_cons (pe_int) (pa_cons (pe_glob (by rfl) T.k_MOST_KEY ⟨_, rfl⟩) (pa_nil))))))
      (pss_cons (ps_set (i := 2) sc_Chain_has.nd rfl (by first | exact Or.inl rfl | exact Or.inr rfl) (pe_fld (pe_dget hu (pe_fld (pv 0) (by rfl)) (pe_meth (pv 0) T.cl_Chain T.me_Chain_place_of G_Chain__Chain_place_of (hr.mono (by decide)) T.b_Chain_place_of .nil passL (pa_cons (pv 1) (pa_nil))) (fun _ _ => rfl)) (by rfl)))
      (pss_one (ps_ret (pe_and (pe_cmpR op_notNo (pv 2) (pe_non) (nomark _)) (pe_one (pe_cmpR op_eq (pe_fld (pe_dget hu (pe_fld (pv 0) (by rfl)) (pv 2) (fun _ _ => rfl)) (by rfl)) (pv 1) (nomark _)))))))
  · exact purer_chhas ⟨T.cl_Chain, T.na_Chain_hands, T.na_Chain_links, T.na_Chain_made, T.na_Chain_era, T.na_Chain_inside, T.na_Chain_at, T.na_Chain_waits, T.cl_Link, T.na_Link_key, T.na_Link_after⟩ h
set_option maxHeartbeats 8000000 in
theorem okr_Chain__Chain_put (T : Txt K mg D) : FnOk P w K mg base (L2.CX P w) 4 D.f_Chain_put D.d_Chain_put ["self", "key"] (sr_chput D.c_Chain D.c_Link D.c_BadNumber) := by
  have GR_Chain__Chain_has : FnOk P w K mg base (L2.CX P w) 3 D.f_Chain_has D.d_Chain_has ["self", "key"] (spOr (sp_chhas D.c_Chain D.c_Link) (sr_chhas D.c_Chain D.c_Link D.c_BadNumber)) := fn_or (fn_up (ok_Chain__Chain_has T)) (okr_Chain__Chain_has T)
  have G_Chain__Chain_place_of : FnOk P w K mg base (L2.CX P w) 1 D.f_Chain_place_of D.d_Chain_place_of ["self", "key"] (sp_place_of D.c_Chain D.c_Link) := fn_up (ok_Chain__Chain_place_of T)
  have G_mk_Link : FnOk P w K mg base (L2.CX P w) 1 D.f_Link_init D.d_Link_init ["self", "key", "after"] (sp_lkinit D.c_Link) := fn_up (ok_mk_Link T)
  refine T.F_Chain_put.okX sc_Chain_put (fun vs H Q E h => ?_) (fun cdv A outer s H vs Q E hr h => ⟨tr_Chain_put K D.c_Chain D.c_Link (spOr (sp_chhas D.c_Chain D.c_Link) (sr_chhas D.c_Chain D.c_Link D.c_BadNumber)) (sp_place_of D.c_Chain D.c_Link) (sp_lkinit D.c_Link) E, ?_, ?_⟩)
  · first | (obtain ⟨_, rfl, _⟩ := h; rfl; done) | (obtain ⟨_, _, rfl, _⟩ := h; rfl; done) | (obtain ⟨_, _, _, rfl, _⟩ := h; rfl; done) | (obtain ⟨_, _, _, _, rfl, _⟩ := h; rfl; done) | (obtain ⟨_, _, _, _, _, rfl, _⟩ := h; rfl; done) | (obtain ⟨_, _, _, _, _, _, rfl, _⟩ := h; rfl; done) | (obtain ⟨_, _, _, _, _, _, _, rfl, _⟩ := h; rfl; done) | (obtain ⟨_, _, _, _, _, _, _, _, rfl, _⟩ := h; rfl; done) | (obtain ⟨_, _, _, _, _, _, _, _, _, rfl, _⟩ := h; rfl; done) | (obtain ⟨_, _, _, _, _, _, _, _, _, _, rfl, _⟩ := h; rfl; done) | (obtain ⟨_, _, _, _, _, _, _, _, _, _, _, rfl, _⟩ := h; rfl; done) | (obtain ⟨_, _, _, _, _, _, _, _, _, _, _, _, rfl, _⟩ := h; rfl; done) | (obtain ⟨_, _, _, _, _, _, _, _, _, _, _, _, _, rfl, _⟩ := h; rfl; done) | (obtain ⟨_, _, _, _, _, _, _, _, _, _, _, _, _, _, rfl, _⟩ := h; rfl; done) | (obtain ⟨_, _, _, _, _, _, _, _, _, _, _, _, _, _, _, rfl, _⟩ := h; rfl; done) | ((rcases h with h | h) <;> (first | (obtain ⟨_, rfl, _⟩ := h; rfl) | (obtain ⟨_, _, rfl, _⟩ := h; rfl) | (obtain ⟨_, _, _, rfl, _⟩ := h; rfl) | (obtain ⟨_, _, _, _, rfl, _⟩ := h; rfl) | (obtain ⟨_, _, _, _, _, rfl, _⟩ := h; rfl) | (obtain ⟨_, _, _, _, _, _, rfl, _⟩ := h; rfl) | (obtain ⟨_, _, _, _, _, _, _, rfl, _⟩ := h; rfl) | (obtain ⟨_, _, _, _, _, _, _, _, rfl, _⟩ := h; rfl) | (obtain ⟨_, _, _, _, _, _, _, _, _, rfl, _⟩ := h; rfl) | (obtain ⟨_, _, _, _, _, _, _, _, _, _, rfl, _⟩ := h; rfl) | (obtain ⟨_, _, _, _, _, _, _, _, _, _, _, rfl, _⟩ := h; rfl) | (obtain ⟨_, _, _, _, _, _, _, _, _, _, _, _, rfl, _⟩ := h; rfl) | (obtain ⟨_, _, _, _, _, _, _, _, _, _, _, _, _, rfl, _⟩ := h; rfl) | (obtain ⟨_, _, _, _, _, _, _, _, _, _, _, _, _, _, rfl, _⟩ := h; rfl) | (obtain ⟨_, _, _, _, _, _, _, _, _, _, _, _, _, _, _, rfl, _⟩ := h; rfl)))
  · have hu := hu_of hr
    exact pss_cons (ps_if (pt_val (pe_meth (pv 0) T.cl_Chain T.me_Chain_has GR_Chain__Chain_has (hr.mono (by decide)) T.b_Chain_has .nil (passes_call (takes_of rfl rfl rfl rfl) fun _ _ _ _ h => h) (pa_cons (pv 1) (pa_nil)))) (pss_one (ps_ret (pe_bl))) (pss_nil))
      (pss_cons (ps_set (i := 2) sc_Chain_put.nd rfl (by first | exact Or.inl rfl | exact Or.inr rfl) (pe_dget hu (pe_fld (pv 0) (by rfl)) (pe_meth (pv 0) T.cl_Chain T.me_Chain_place_of G_Chain__Chain_place_of (hr.mono (by decide)) T.b_Chain_place_of .nil passL (pa_cons (pv 1) (pa_nil))) (fun _ _ => rfl)))
      (pss_cons (ps_dput hu (pe_fld (pv 0) (by rfl)) (pe_fld (pv 0) (by rfl)) (pe_make T.mk_Link G_mk_Link (hr.mono (by decide)) (by rfl) T.g_Link T.b_Link_init .nil passL (pa_cons (pv 1) (pa_cons (pe_fld (pv 2) (by rfl)) (pa_nil)))) (by rfl))
      (pss_cons (ps_fld (pv 2) (pe_fld (pv 0) (by rfl)) (by rfl))
      (pss_cons (ps_fld (pv 0) (pe_op op_addI (pe_fld (pv 0) (by rfl)) (pe_int)) (by rfl))
      (pss_one (ps_ret (pe_bl)))))))
  · exact purer_chput ⟨T.cl_Chain, T.na_Chain_hands, T.na_Chain_links, T.na_Chain_made, T.na_Chain_era, T.na_Chain_inside, T.na_Chain_at, T.na_Chain_waits, T.cl_Link, T.na_Link_key, T.na_Link_after⟩ h
set_option maxHeartbeats 8000000 in
theorem ok_Chain__Chain_take_out (T : Txt K mg D) : FnOk P w K mg base CX0 4 D.f_Chain_take_out D.d_Chain_take_out ["self", "key"] (sp_chout D.c_Chain D.c_Link) := by
  have G_Chain__Chain_has : FnOk P w K mg base CX0 3 D.f_Chain_has D.d_Chain_has ["self", "key"] (sp_chhas D.c_Chain D.c_Link) := ok_Chain__Chain_has T
  have G_Chain__Chain_place_of : FnOk P w K mg base CX0 1 D.f_Chain_place_of D.d_Chain_place_of ["self", "key"] (sp_place_of D.c_Chain D.c_Link) := ok_Chain__Chain_place_of T
  refine T.F_Chain_take_out.ok sc_Chain_take_out (fun vs H Q E h => ?_) (fun cdv A outer s H vs Q E hr h => ⟨t_Chain_take_out K D.c_Chain (sp_chhas D.c_Chain D.c_Link) (sp_place_of D.c_Chain D.c_Link), ?_, ?_⟩)
  · first | (obtain ⟨_, rfl, _⟩ := h; rfl; done) | (obtain ⟨_, _, rfl, _⟩ := h; rfl; done) | (obtain ⟨_, _, _, rfl, _⟩ := h; rfl; done) | (obtain ⟨_, _, _, _, rfl, _⟩ := h; rfl; done) | (obtain ⟨_, _, _, _, _, rfl, _⟩ := h; rfl; done) | (obtain ⟨_, _, _, _, _, _, rfl, _⟩ := h; rfl; done) | (obtain ⟨_, _, _, _, _, _, _, rfl, _⟩ := h; rfl; done) | (obtain ⟨_, _, _, _, _, _, _, _, rfl, _⟩ := h; rfl; done) | (obtain ⟨_, _, _, _, _, _, _, _, _, rfl, _⟩ := h; rfl; done) | (obtain ⟨_, _, _, _, _, _, _, _, _, _, rfl, _⟩ := h; rfl; done) | (obtain ⟨_, _, _, _, _, _, _, _, _, _, _, rfl, _⟩ := h; rfl; done) | (obtain ⟨_, _, _, _, _, _, _, _, _, _, _, _, rfl, _⟩ := h; rfl; done) | (obtain ⟨_, _, _, _, _, _, _, _, _, _, _, _, _, rfl, _⟩ := h; rfl; done) | (obtain ⟨_, _, _, _, _, _, _, _, _, _, _, _, _, _, rfl, _⟩ := h; rfl; done) | (obtain ⟨_, _, _, _, _, _, _, _, _, _, _, _, _, _, _, rfl, _⟩ := h; rfl; done) | ((rcases h with h | h) <;> (first | (obtain ⟨_, rfl, _⟩ := h; rfl) | (obtain ⟨_, _, rfl, _⟩ := h; rfl) | (obtain ⟨_, _, _, rfl, _⟩ := h; rfl) | (obtain ⟨_, _, _, _, rfl, _⟩ := h; rfl) | (obtain ⟨_, _, _, _, _, rfl, _⟩ := h; rfl) | (obtain ⟨_, _, _, _, _, _, rfl, _⟩ := h; rfl) | (obtain ⟨_, _, _, _, _, _, _, rfl, _⟩ := h; rfl) | (obtain ⟨_, _, _, _, _, _, _, _, rfl, _⟩ := h; rfl) | (obtain ⟨_, _, _, _, _, _, _, _, _, rfl, _⟩ := h; rfl) | (obtain ⟨_, _, _, _, _, _, _, _, _, _, rfl, _⟩ := h; rfl) | (obtain ⟨_, _, _, _, _, _, _, _, _, _, _, rfl, _⟩ := h; rfl) | (obtain ⟨_, _, _, _, _, _, _, _, _, _, _, _, rfl, _⟩ := h; rfl) | (obtain ⟨_, _, _, _, _, _, _, _, _, _, _, _, _, rfl, _⟩ := h; rfl) | (obtain ⟨_, _, _, _, _, _, _, _, _, _, _, _, _, _, rfl, _⟩ := h; rfl) | (obtain ⟨_, _, _, _, _, _, _, _, _, _, _, _, _, _, _, rfl, _⟩ := h; rfl)))
  · have hu := hu_of hr
    exact pss_cons (ps_if (pt_not (pt_val (pe_meth (pv 0) T.cl_Chain T.me_Chain_has G_Chain__Chain_has (hr.mono (by decide)) T.b_Chain_has .nil pass0 (pa_cons (pv 1) (pa_nil))))) (pss_one (ps_ret (pe_bl))) (pss_nil))
      (pss_cons (ps_set (i := 2) sc_Chain_take_out.nd rfl (by first | exact Or.inl rfl | exact Or.inr rfl) (pe_dget hu (pe_fld (pv 0) (by rfl)) (pe_meth (pv 0) T.cl_Chain T.me_Chain_place_of G_Chain__Chain_place_of (hr.mono (by decide)) T.b_Chain_place_of .nil pass0 (pa_cons (pv 1) (pa_nil))) (fun _ _ => rfl)))
      (pss_cons (ps_set (i := 3) sc_Chain_take_out.nd rfl (by first | exact Or.inl rfl | exact Or.inr rfl) (pe_fld (pv 2) (by rfl)))
      (pss_cons (ps_fld (pv 2) (pe_fld (pe_dget hu (pe_fld (pv 0) (by rfl)) (pv 3) (fun _ _ => rfl)) (by rfl)) (by rfl))
      (pss_cons (ps_dput hu (pe_fld (pv 0) (by rfl)) (pv 3) (pe_fld (pv 0) (by rfl)) (by rfl))
      (pss_one (ps_ret (pe_bl)))))))
  · exact pure_chout ⟨T.cl_Chain, T.na_Chain_hands, T.na_Chain_links, T.na_Chain_made, T.na_Chain_era, T.na_Chain_inside, T.na_Chain_at, T.na_Chain_waits, T.cl_Link, T.na_Link_key, T.na_Link_after⟩ h
set_option maxHeartbeats 8000000 in
theorem okr_Chain__Chain_take_out (T : Txt K mg D) : FnOk P w K mg base (L2.CX P w) 4 D.f_Chain_take_out D.d_Chain_take_out ["self", "key"] (sr_chout D.c_Chain D.c_Link D.c_BadNumber) := by
  have GR_Chain__Chain_has : FnOk P w K mg base (L2.CX P w) 3 D.f_Chain_has D.d_Chain_has ["self", "key"] (spOr (sp_chhas D.c_Chain D.c_Link) (sr_chhas D.c_Chain D.c_Link D.c_BadNumber)) := fn_or (fn_up (ok_Chain__Chain_has T)) (okr_Chain__Chain_has T)
  have G_Chain__Chain_place_of : FnOk P w K mg base (L2.CX P w) 1 D.f_Chain_place_of D.d_Chain_place_of ["self", "key"] (sp_place_of D.c_Chain D.c_Link) := fn_up (ok_Chain__Chain_place_of T)
  refine T.F_Chain_take_out.okX sc_Chain_take_out (fun vs H Q E h => ?_) (fun cdv A outer s H vs Q E hr h => ⟨tr_Chain_take_out K D.c_Chain (spOr (sp_chhas D.c_Chain D.c_Link) (sr_chhas D.c_Chain D.c_Link D.c_BadNumber)) (sp_place_of D.c_Chain D.c_Link) E, ?_, ?_⟩)
  · first | (obtain ⟨_, rfl, _⟩ := h; rfl; done) | (obtain ⟨_, _, rfl, _⟩ := h; rfl; done) | (obtain ⟨_, _, _, rfl, _⟩ := h; rfl; done) | (obtain ⟨_, _, _, _, rfl, _⟩ := h; rfl; done) | (obtain ⟨_, _, _, _, _, rfl, _⟩ := h; rfl; done) | (obtain ⟨_, _, _, _, _, _, rfl, _⟩ := h; rfl; done) | (obtain ⟨_, _, _, _, _, _, _, rfl, _⟩ := h; rfl; done) | (obtain ⟨_, _, _, _, _, _, _, _, rfl, _⟩ := h; rfl; done) | (obtain ⟨_, _, _, _, _, _, _, _, _, rfl, _⟩ := h; rfl; done) | (obtain ⟨_, _, _, _, _, _, _, _, _, _, rfl, _⟩ := h; rfl; done) | (obtain ⟨_, _, _, _, _, _, _, _, _, _, _, rfl, _⟩ := h; rfl; done) | (obtain ⟨_, _, _, _, _, _, _, _, _, _, _, _, rfl, _⟩ := h; rfl; done) | (obtain ⟨_, _, _, _, _, _, _, _, _, _, _, _, _, rfl, _⟩ := h; rfl; done) | (obtain ⟨_, _, _, _, _, _, _, _, _, _, _, _, _, _, rfl, _⟩ := h; rfl; done) | (obtain ⟨_, _, _, _, _, _, _, _, _, _, _, _, _, _, _, rfl, _⟩ := h; rfl; done) | ((rcases h with h | h) <;> (first | (obtain ⟨_, rfl, _⟩ := h; rfl) | (obtain ⟨_, _, rfl, _⟩ := h; rfl) | (obtain ⟨_, _, _, rfl, _⟩ := h; rfl) | (obtain ⟨_, _, _, _, rfl, _⟩ := h; rfl) | (obtain ⟨_, _, _, _, _, rfl, _⟩ := h; rfl) | (obtain ⟨_, _, _, _, _, _, rfl, _⟩ := h; rfl) | (obtain ⟨_, _, _, _, _, _, _, rfl, _⟩ := h; rfl) | (obtain ⟨_, _, _, _, _, _, _, _, rfl, _⟩ := h; rfl) | (obtain ⟨_, _, _, _, _, _, _, _, _, rfl, _⟩ := h; rfl) | (obtain ⟨_, _, _, _, _, _, _, _, _, _, rfl, _⟩ := h; rfl) | (obtain ⟨_, _, _, _, _, _, _, _, _, _, _, rfl, _⟩ := h; rfl) | (obtain ⟨_, _, _, _, _, _, _, _, _, _, _, _, rfl, _⟩ := h; rfl) | (obtain ⟨_, _, _, _, _, _, _, _, _, _, _, _, _, rfl, _⟩ := h; rfl) | (obtain ⟨_, _, _, _, _, _, _, _, _, _, _, _, _, _, rfl, _⟩ := h; rfl) | (obtain ⟨_, _, _, _, _, _, _, _, _, _, _, _, _, _, _, rfl, _⟩ := h; rfl)))
  · have hu := hu_of hr
    exact pss_cons (ps_if (pt_not (pt_val (pe_meth (pv 0) T.cl_Chain T.me_Chain_has GR_Chain__Chain_has (hr.mono (by decide)) T.b_Chain_has .nil (passes_call (takes_of rfl rfl rfl rfl) fun _ _ _ _ h => h) (pa_cons (pv 1) (pa_nil))))) (pss_one (ps_ret (pe_bl))) (pss_nil))
      (pss_cons (ps_set (i := 2) sc_Chain_take_out.nd rfl (by first | exact Or.inl rfl | exact Or.inr rfl) (pe_dget hu (pe_fld (pv 0) (by rfl)) (pe_meth (pv 0) T.cl_Chain T.me_Chain_place_of G_Chain__Chain_place_of (hr.mono (by decide)) T.b_Chain_place_of .nil passL (pa_cons (pv 1) (pa_nil))) (fun _ _ => rfl)))
      (pss_cons (ps_set (i := 3) sc_Chain_take_out.nd rfl (by first | exact Or.inl rfl | exact Or.inr rfl) (pe_fld (pv 2) (by rfl)))
      (pss_cons (ps_fld (pv 2) (pe_fld (pe_dget hu (pe_fld (pv 0) (by rfl)) (pv 3) (fun _ _ => rfl)) (by rfl)) (by rfl))
      (pss_cons (ps_dput hu (pe_fld (pv 0) (by rfl)) (pv 3) (pe_fld (pv 0) (by rfl)) (by rfl))
      (pss_one (ps_ret (pe_bl)))))))
  · exact purer_chout ⟨T.cl_Chain, T.na_Chain_hands, T.na_Chain_links, T.na_Chain_made, T.na_Chain_era, T.na_Chain_inside, T.na_Chain_at, T.na_Chain_waits, T.cl_Link, T.na_Link_key, T.na_Link_after⟩ h
set_option maxHeartbeats 8000000 in
theorem okr_mk_Chain (T : Txt K mg D) : FnOk P w K mg base (L2.CX P w) 3 D.f_Chain_init D.d_Chain_init ["self", "hands"] (sr_chinit D.c_Chain D.c_Link D.c_BadNumber) := by
  have GR_look_number : FnOk P w K mg base (L2.CX P w) 2 D.f_look_number D.d_look_number ["thing", "low", "high"] (spOr (sp_look_number) (sr_look_number D.c_BadNumber)) := fn_or (fn_up (ok_look_number T)) (okr_look_number T)
  have G_mk_Link : FnOk P w K mg base (L2.CX P w) 1 D.f_Link_init D.d_Link_init ["self", "key", "after"] (sp_lkinit D.c_Link) := fn_up (ok_mk_Link T)
  refine T.F_Chain_init.okX sc_Chain_init (fun vs H Q E h => ?_) (fun cdv A outer s H vs Q E hr h => ⟨tr_Chain_init K D.c_Link (spOr (sp_look_number) (sr_look_number D.c_BadNumber)) (sp_lkinit D.c_Link) E, ?_, ?_⟩)
  · first | (obtain ⟨_, rfl, _⟩ := h; rfl; done) | (obtain ⟨_, _, rfl, _⟩ := h; rfl; done) | (obtain ⟨_, _, _, rfl, _⟩ := h; rfl; done) | (obtain ⟨_, _, _, _, rfl, _⟩ := h; rfl; done) | (obtain ⟨_, _, _, _, _, rfl, _⟩ := h; rfl; done) | (obtain ⟨_, _, _, _, _, _, rfl, _⟩ := h; rfl; done) | (obtain ⟨_, _, _, _, _, _, _, rfl, _⟩ := h; rfl; done) | (obtain ⟨_, _, _, _, _, _, _, _, rfl, _⟩ := h; rfl; done) | (obtain ⟨_, _, _, _, _, _, _, _, _, rfl, _⟩ := h; rfl; done) | (obtain ⟨_, _, _, _, _, _, _, _, _, _, rfl, _⟩ := h; rfl; done) | (obtain ⟨_, _, _, _, _, _, _, _, _, _, _, rfl, _⟩ := h; rfl; done) | (obtain ⟨_, _, _, _, _, _, _, _, _, _, _, _, rfl, _⟩ := h; rfl; done) | (obtain ⟨_, _, _, _, _, _, _, _, _, _, _, _, _, rfl, _⟩ := h; rfl; done) | (obtain ⟨_, _, _, _, _, _, _, _, _, _, _, _, _, _, rfl, _⟩ := h; rfl; done) | (obtain ⟨_, _, _, _, _, _, _, _, _, _, _, _, _, _, _, rfl, _⟩ := h; rfl; done) | ((rcases h with h | h) <;> (first | (obtain ⟨_, rfl, _⟩ := h; rfl) | (obtain ⟨_, _, rfl, _⟩ := h; rfl) | (obtain ⟨_, _, _, rfl, _⟩ := h; rfl) | (obtain ⟨_, _, _, _, rfl, _⟩ := h; rfl) | (obtain ⟨_, _, _, _, _, rfl, _⟩ := h; rfl) | (obtain ⟨_, _, _, _, _, _, rfl, _⟩ := h; rfl) | (obtain ⟨_, _, _, _, _, _, _, rfl, _⟩ := h; rfl) | (obtain ⟨_, _, _, _, _, _, _, _, rfl, _⟩ := h; rfl) | (obtain ⟨_, _, _, _, _, _, _, _, _, rfl, _⟩ := h; rfl) | (obtain ⟨_, _, _, _, _, _, _, _, _, _, rfl, _⟩ := h; rfl) | (obtain ⟨_, _, _, _, _, _, _, _, _, _, _, rfl, _⟩ := h; rfl) | (obtain ⟨_, _, _, _, _, _, _, _, _, _, _, _, rfl, _⟩ := h; rfl) | (obtain ⟨_, _, _, _, _, _, _, _, _, _, _, _, _, rfl, _⟩ := h; rfl) | (obtain ⟨_, _, _, _, _, _, _, _, _, _, _, _, _, _, rfl, _⟩ := h; rfl) | (obtain ⟨_, _, _, _, _, _, _, _, _, _, _, _, _, _, _, rfl, _⟩ := h; rfl)))
  · have hu := hu_of hr
    exact pss_cons (ps_expr (pe_call GR_look_number (hr.mono (by decide)) (by rfl) T.g_look_number T.F_look_number.kp T.b_look_number .nil (passes_call (takes_of rfl rfl rfl rfl) fun _ _ _ _ h => h) (pa_cons (pv 1) (pa_cons (pe_int) (pa_cons (pe_glob (by rfl) T.k_MOST_HANDS ⟨_, rfl⟩) (pa_nil))))))
      (pss_cons (ps_fld (pv 0) (pv 1) (by rfl))
      (pss_cons (ps_fld (pv 0) (pe_disp (pps_cons (pe_int) (pe_make T.mk_Link G_mk_Link (hr.mono (by decide)) (by rfl) T.g_Link T.b_Link_init .nil passL (pa_cons (pe_glob (by rfl) T.k_END ⟨_, rfl⟩) (pa_cons (pe_non) (pa_nil)))) pps_nil) rfl rfl (List.cons_ne_nil _ _) (by decide)) (by rfl))
      (pss_cons (ps_fld (pv 0) (pe_int) (by rfl))
      (pss_cons (ps_fld (pv 0) (pe_int) (by rfl))
      (pss_cons (ps_fld (pv 0) (pe_dnewK) (by rfl))
      (pss_cons (ps_fld (pv 0) (pe_dnewK) (by rfl))
      (pss_one (ps_fld (pv 0) (pe_dnewK) (by rfl)))))))))
  · exact purer_chinit ⟨T.cl_Chain, T.na_Chain_hands, T.na_Chain_links, T.na_Chain_made, T.na_Chain_era, T.na_Chain_inside, T.na_Chain_at, T.na_Chain_waits, T.cl_Link, T.na_Link_key, T.na_Link_after⟩ h
set_option maxHeartbeats 8000000 in
theorem okr_Chain__Chain_look_hand (T : Txt K mg D) : FnOk P w K mg base (L2.CX P w) 2 D.f_Chain_look_hand D.d_Chain_look_hand ["self", "hand"] (sr_chlook_hand D.c_Chain D.c_Link D.c_NoHand) := by
  have GR_is_whole : FnOk P w K mg base (L2.CX P w) 1 D.f_is_whole D.d_is_whole ["thing", "low", "high"] (spOr (sp_is_whole) (sr_is_whole)) := fn_or (fn_up (ok_is_whole T)) (okr_is_whole T)
  refine T.F_Chain_look_hand.okX sc_Chain_look_hand (fun vs H Q E h => ?_) (fun cdv A outer s H vs Q E hr h => ⟨tr_Chain_look_hand K D.c_NoHand (spOr (sp_is_whole) (sr_is_whole)) E, ?_, ?_⟩)
  · first | (obtain ⟨_, rfl, _⟩ := h; rfl; done) | (obtain ⟨_, _, rfl, _⟩ := h; rfl; done) | (obtain ⟨_, _, _, rfl, _⟩ := h; rfl; done) | (obtain ⟨_, _, _, _, rfl, _⟩ := h; rfl; done) | (obtain ⟨_, _, _, _, _, rfl, _⟩ := h; rfl; done) | (obtain ⟨_, _, _, _, _, _, rfl, _⟩ := h; rfl; done) | (obtain ⟨_, _, _, _, _, _, _, rfl, _⟩ := h; rfl; done) | (obtain ⟨_, _, _, _, _, _, _, _, rfl, _⟩ := h; rfl; done) | (obtain ⟨_, _, _, _, _, _, _, _, _, rfl, _⟩ := h; rfl; done) | (obtain ⟨_, _, _, _, _, _, _, _, _, _, rfl, _⟩ := h; rfl; done) | (obtain ⟨_, _, _, _, _, _, _, _, _, _, _, rfl, _⟩ := h; rfl; done) | (obtain ⟨_, _, _, _, _, _, _, _, _, _, _, _, rfl, _⟩ := h; rfl; done) | (obtain ⟨_, _, _, _, _, _, _, _, _, _, _, _, _, rfl, _⟩ := h; rfl; done) | (obtain ⟨_, _, _, _, _, _, _, _, _, _, _, _, _, _, rfl, _⟩ := h; rfl; done) | (obtain ⟨_, _, _, _, _, _, _, _, _, _, _, _, _, _, _, rfl, _⟩ := h; rfl; done) | ((rcases h with h | h) <;> (first | (obtain ⟨_, rfl, _⟩ := h; rfl) | (obtain ⟨_, _, rfl, _⟩ := h; rfl) | (obtain ⟨_, _, _, rfl, _⟩ := h; rfl) | (obtain ⟨_, _, _, _, rfl, _⟩ := h; rfl) | (obtain ⟨_, _, _, _, _, rfl, _⟩ := h; rfl) | (obtain ⟨_, _, _, _, _, _, rfl, _⟩ := h; rfl) | (obtain ⟨_, _, _, _, _, _, _, rfl, _⟩ := h; rfl) | (obtain ⟨_, _, _, _, _, _, _, _, rfl, _⟩ := h; rfl) | (obtain ⟨_, _, _, _, _, _, _, _, _, rfl, _⟩ := h; rfl) | (obtain ⟨_, _, _, _, _, _, _, _, _, _, rfl, _⟩ := h; rfl) | (obtain ⟨_, _, _, _, _, _, _, _, _, _, _, rfl, _⟩ := h; rfl) | (obtain ⟨_, _, _, _, _, _, _, _, _, _, _, _, rfl, _⟩ := h; rfl) | (obtain ⟨_, _, _, _, _, _, _, _, _, _, _, _, _, rfl, _⟩ := h; rfl) | (obtain ⟨_, _, _, _, _, _, _, _, _, _, _, _, _, _, rfl, _⟩ := h; rfl) | (obtain ⟨_, _, _, _, _, _, _, _, _, _, _, _, _, _, _, rfl, _⟩ := h; rfl)))
  · have hu := hu_of hr
    exact pss_one (ps_if (pt_not (pt_val (pe_call GR_is_whole (hr.mono (by decide)) (by rfl) T.g_is_whole T.F_is_whole.kp T.b_is_whole .nil (passes_call (takes_of rfl rfl rfl rfl) fun _ _ _ _ h => h) (pa_cons (pv 1) (pa_cons (pe_int) (pa_cons (pe_op op_subI (pe_fld (pv 0) (by rfl)) (pe_int)) (pa_nil))))))) (pss_one (ps_raise rfl (takes_of rfl rfl rfl rfl) (pmk_own PySem.F.excBase_ValueError T.xi_NoHand T.g_NoHand T.kp_NoHand (raises_own T.sb_NoHand T.ty_NoHand) (by rfl)))) (pss_nil))
  · exact purer_chlook_hand ⟨T.cl_Chain, T.na_Chain_hands, T.na_Chain_links, T.na_Chain_made, T.na_Chain_era, T.na_Chain_inside, T.na_Chain_at, T.na_Chain_waits, T.cl_Link, T.na_Link_key, T.na_Link_after⟩ h
set_option maxHeartbeats 8000000 in
theorem okr_Chain__Chain_start (T : Txt K mg D) : FnOk P w K mg base (L2.CX P w) 3 D.f_Chain_start D.d_Chain_start ["self", "hand"] (sr_chstart D.c_Chain D.c_Link D.c_NoHand D.c_IsIn) := by
  have GR_Chain__Chain_look_hand : FnOk P w K mg base (L2.CX P w) 2 D.f_Chain_look_hand D.d_Chain_look_hand ["self", "hand"] (spOr (sp_chlook_hand D.c_Chain D.c_Link) (sr_chlook_hand D.c_Chain D.c_Link D.c_NoHand)) := fn_or (fn_up (ok_Chain__Chain_look_hand T)) (okr_Chain__Chain_look_hand T)
  refine T.F_Chain_start.okX sc_Chain_start (fun vs H Q E h => ?_) (fun cdv A outer s H vs Q E hr h => ⟨tr_Chain_start K D.c_Chain D.c_IsIn (spOr (sp_chlook_hand D.c_Chain D.c_Link) (sr_chlook_hand D.c_Chain D.c_Link D.c_NoHand)) E, ?_, ?_⟩)
  · first | (obtain ⟨_, rfl, _⟩ := h; rfl; done) | (obtain ⟨_, _, rfl, _⟩ := h; rfl; done) | (obtain ⟨_, _, _, rfl, _⟩ := h; rfl; done) | (obtain ⟨_, _, _, _, rfl, _⟩ := h; rfl; done) | (obtain ⟨_, _, _, _, _, rfl, _⟩ := h; rfl; done) | (obtain ⟨_, _, _, _, _, _, rfl, _⟩ := h; rfl; done) | (obtain ⟨_, _, _, _, _, _, _, rfl, _⟩ := h; rfl; done) | (obtain ⟨_, _, _, _, _, _, _, _, rfl, _⟩ := h; rfl; done) | (obtain ⟨_, _, _, _, _, _, _, _, _, rfl, _⟩ := h; rfl; done) | (obtain ⟨_, _, _, _, _, _, _, _, _, _, rfl, _⟩ := h; rfl; done) | (obtain ⟨_, _, _, _, _, _, _, _, _, _, _, rfl, _⟩ := h; rfl; done) | (obtain ⟨_, _, _, _, _, _, _, _, _, _, _, _, rfl, _⟩ := h; rfl; done) | (obtain ⟨_, _, _, _, _, _, _, _, _, _, _, _, _, rfl, _⟩ := h; rfl; done) | (obtain ⟨_, _, _, _, _, _, _, _, _, _, _, _, _, _, rfl, _⟩ := h; rfl; done) | (obtain ⟨_, _, _, _, _, _, _, _, _, _, _, _, _, _, _, rfl, _⟩ := h; rfl; done) | ((rcases h with h | h) <;> (first | (obtain ⟨_, rfl, _⟩ := h; rfl) | (obtain ⟨_, _, rfl, _⟩ := h; rfl) | (obtain ⟨_, _, _, rfl, _⟩ := h; rfl) | (obtain ⟨_, _, _, _, rfl, _⟩ := h; rfl) | (obtain ⟨_, _, _, _, _, rfl, _⟩ := h; rfl) | (obtain ⟨_, _, _, _, _, _, rfl, _⟩ := h; rfl) | (obtain ⟨_, _, _, _, _, _, _, rfl, _⟩ := h; rfl) | (obtain ⟨_, _, _, _, _, _, _, _, rfl, _⟩ := h; rfl) | (obtain ⟨_, _, _, _, _, _, _, _, _, rfl, _⟩ := h; rfl) | (obtain ⟨_, _, _, _, _, _, _, _, _, _, rfl, _⟩ := h; rfl) | (obtain ⟨_, _, _, _, _, _, _, _, _, _, _, rfl, _⟩ := h; rfl) | (obtain ⟨_, _, _, _, _, _, _, _, _, _, _, _, rfl, _⟩ := h; rfl) | (obtain ⟨_, _, _, _, _, _, _, _, _, _, _, _, _, rfl, _⟩ := h; rfl) | (obtain ⟨_, _, _, _, _, _, _, _, _, _, _, _, _, _, rfl, _⟩ := h; rfl) | (obtain ⟨_, _, _, _, _, _, _, _, _, _, _, _, _, _, _, rfl, _⟩ := h; rfl)))
  · have hu := hu_of hr
    exact pss_cons (ps_expr (pe_meth (pv 0) T.cl_Chain T.me_Chain_look_hand GR_Chain__Chain_look_hand (hr.mono (by decide)) T.b_Chain_look_hand .nil (passes_call (takes_of rfl rfl rfl rfl) fun _ _ _ _ h => h) (pa_cons (pv 1) (pa_nil))))
      (pss_cons (ps_if (pt_cmp (pc_din hu (pv 1) (pe_fld (pv 0) (by rfl))) (by rfl)) (pss_one (ps_raise rfl (takes_of rfl rfl rfl rfl) (pmk_own PySem.F.excBase_ValueError T.xi_IsIn T.g_IsIn T.kp_IsIn (raises_own T.sb_IsIn T.ty_IsIn) (by rfl)))) (pss_nil))
      (pss_cons (ps_dput hu (pe_fld (pv 0) (by rfl)) (pv 1) (pe_fld (pv 0) (by rfl)) (by rfl))
      (pss_one (ps_dput hu (pe_fld (pv 0) (by rfl)) (pv 1) (pe_int) (by rfl)))))
  · exact purer_chstart ⟨T.cl_Chain, T.na_Chain_hands, T.na_Chain_links, T.na_Chain_made, T.na_Chain_era, T.na_Chain_inside, T.na_Chain_at, T.na_Chain_waits, T.cl_Link, T.na_Link_key, T.na_Link_after⟩ h
set_option maxHeartbeats 8000000 in
theorem okr_Chain__Chain_look_in (T : Txt K mg D) : FnOk P w K mg base (L2.CX P w) 3 D.f_Chain_look_in D.d_Chain_look_in ["self", "hand"] (sr_chlook_in D.c_Chain D.c_Link D.c_NoHand D.c_NotIn) := by
  have GR_Chain__Chain_look_hand : FnOk P w K mg base (L2.CX P w) 2 D.f_Chain_look_hand D.d_Chain_look_hand ["self", "hand"] (spOr (sp_chlook_hand D.c_Chain D.c_Link) (sr_chlook_hand D.c_Chain D.c_Link D.c_NoHand)) := fn_or (fn_up (ok_Chain__Chain_look_hand T)) (okr_Chain__Chain_look_hand T)
  refine T.F_Chain_look_in.okX sc_Chain_look_in (fun vs H Q E h => ?_) (fun cdv A outer s H vs Q E hr h => ⟨tr_Chain_look_in K D.c_Chain D.c_NotIn (spOr (sp_chlook_hand D.c_Chain D.c_Link) (sr_chlook_hand D.c_Chain D.c_Link D.c_NoHand)) E, ?_, ?_⟩)
  · first | (obtain ⟨_, rfl, _⟩ := h; rfl; done) | (obtain ⟨_, _, rfl, _⟩ := h; rfl; done) | (obtain ⟨_, _, _, rfl, _⟩ := h; rfl; done) | (obtain ⟨_, _, _, _, rfl, _⟩ := h; rfl; done) | (obtain ⟨_, _, _, _, _, rfl, _⟩ := h; rfl; done) | (obtain ⟨_, _, _, _, _, _, rfl, _⟩ := h; rfl; done) | (obtain ⟨_, _, _, _, _, _, _, rfl, _⟩ := h; rfl; done) | (obtain ⟨_, _, _, _, _, _, _, _, rfl, _⟩ := h; rfl; done) | (obtain ⟨_, _, _, _, _, _, _, _, _, rfl, _⟩ := h; rfl; done) | (obtain ⟨_, _, _, _, _, _, _, _, _, _, rfl, _⟩ := h; rfl; done) | (obtain ⟨_, _, _, _, _, _, _, _, _, _, _, rfl, _⟩ := h; rfl; done) | (obtain ⟨_, _, _, _, _, _, _, _, _, _, _, _, rfl, _⟩ := h; rfl; done) | (obtain ⟨_, _, _, _, _, _, _, _, _, _, _, _, _, rfl, _⟩ := h; rfl; done) | (obtain ⟨_, _, _, _, _, _, _, _, _, _, _, _, _, _, rfl, _⟩ := h; rfl; done) | (obtain ⟨_, _, _, _, _, _, _, _, _, _, _, _, _, _, _, rfl, _⟩ := h; rfl; done) | ((rcases h with h | h) <;> (first | (obtain ⟨_, rfl, _⟩ := h; rfl) | (obtain ⟨_, _, rfl, _⟩ := h; rfl) | (obtain ⟨_, _, _, rfl, _⟩ := h; rfl) | (obtain ⟨_, _, _, _, rfl, _⟩ := h; rfl) | (obtain ⟨_, _, _, _, _, rfl, _⟩ := h; rfl) | (obtain ⟨_, _, _, _, _, _, rfl, _⟩ := h; rfl) | (obtain ⟨_, _, _, _, _, _, _, rfl, _⟩ := h; rfl) | (obtain ⟨_, _, _, _, _, _, _, _, rfl, _⟩ := h; rfl) | (obtain ⟨_, _, _, _, _, _, _, _, _, rfl, _⟩ := h; rfl) | (obtain ⟨_, _, _, _, _, _, _, _, _, _, rfl, _⟩ := h; rfl) | (obtain ⟨_, _, _, _, _, _, _, _, _, _, _, rfl, _⟩ := h; rfl) | (obtain ⟨_, _, _, _, _, _, _, _, _, _, _, _, rfl, _⟩ := h; rfl) | (obtain ⟨_, _, _, _, _, _, _, _, _, _, _, _, _, rfl, _⟩ := h; rfl) | (obtain ⟨_, _, _, _, _, _, _, _, _, _, _, _, _, _, rfl, _⟩ := h; rfl) | (obtain ⟨_, _, _, _, _, _, _, _, _, _, _, _, _, _, _, rfl, _⟩ := h; rfl)))
  · have hu := hu_of hr
    exact pss_cons (ps_expr (pe_meth (pv 0) T.cl_Chain T.me_Chain_look_hand GR_Chain__Chain_look_hand (hr.mono (by decide)) T.b_Chain_look_hand .nil (passes_call (takes_of rfl rfl rfl rfl) fun _ _ _ _ h => h) (pa_cons (pv 1) (pa_nil))))
      (pss_one (ps_if (pt_cmp (pc_dnotin hu (pv 1) (pe_fld (pv 0) (by rfl))) (by rfl)) (pss_one (ps_raise rfl (takes_of rfl rfl rfl rfl) (pmk_own PySem.F.excBase_ValueError T.xi_NotIn T.g_NotIn T.kp_NotIn (raises_own T.sb_NotIn T.ty_NotIn) (by rfl)))) (pss_nil)))
  · exact purer_chlook_in ⟨T.cl_Chain, T.na_Chain_hands, T.na_Chain_links, T.na_Chain_made, T.na_Chain_era, T.na_Chain_inside, T.na_Chain_at, T.na_Chain_waits, T.cl_Link, T.na_Link_key, T.na_Link_after⟩ h
set_option maxHeartbeats 8000000 in
theorem okr_Chain__Chain_stop (T : Txt K mg D) : FnOk P w K mg base (L2.CX P w) 4 D.f_Chain_stop D.d_Chain_stop ["self", "hand"] (sr_chstop D.c_Chain D.c_Link D.c_NoHand D.c_NotIn) := by
  have GR_Chain__Chain_look_in : FnOk P w K mg base (L2.CX P w) 3 D.f_Chain_look_in D.d_Chain_look_in ["self", "hand"] (spOr (sp_chlook_in D.c_Chain D.c_Link) (sr_chlook_in D.c_Chain D.c_Link D.c_NoHand D.c_NotIn)) := fn_or (fn_up (ok_Chain__Chain_look_in T)) (okr_Chain__Chain_look_in T)
  refine T.F_Chain_stop.okX sc_Chain_stop (fun vs H Q E h => ?_) (fun cdv A outer s H vs Q E hr h => ⟨tr_Chain_stop K D.c_Chain (spOr (sp_chlook_in D.c_Chain D.c_Link) (sr_chlook_in D.c_Chain D.c_Link D.c_NoHand D.c_NotIn)) E, ?_, ?_⟩)
  · first | (obtain ⟨_, rfl, _⟩ := h; rfl; done) | (obtain ⟨_, _, rfl, _⟩ := h; rfl; done) | (obtain ⟨_, _, _, rfl, _⟩ := h; rfl; done) | (obtain ⟨_, _, _, _, rfl, _⟩ := h; rfl; done) | (obtain ⟨_, _, _, _, _, rfl, _⟩ := h; rfl; done) | (obtain ⟨_, _, _, _, _, _, rfl, _⟩ := h; rfl; done) | (obtain ⟨_, _, _, _, _, _, _, rfl, _⟩ := h; rfl; done) | (obtain ⟨_, _, _, _, _, _, _, _, rfl, _⟩ := h; rfl; done) | (obtain ⟨_, _, _, _, _, _, _, _, _, rfl, _⟩ := h; rfl; done) | (obtain ⟨_, _, _, _, _, _, _, _, _, _, rfl, _⟩ := h; rfl; done) | (obtain ⟨_, _, _, _, _, _, _, _, _, _, _, rfl, _⟩ := h; rfl; done) | (obtain ⟨_, _, _, _, _, _, _, _, _, _, _, _, rfl, _⟩ := h; rfl; done) | (obtain ⟨_, _, _, _, _, _, _, _, _, _, _, _, _, rfl, _⟩ := h; rfl; done) | (obtain ⟨_, _, _, _, _, _, _, _, _, _, _, _, _, _, rfl, _⟩ := h; rfl; done) | (obtain ⟨_, _, _, _, _, _, _, _, _, _, _, _, _, _, _, rfl, _⟩ := h; rfl; done) | ((rcases h with h | h) <;> (first | (obtain ⟨_, rfl, _⟩ := h; rfl) | (obtain ⟨_, _, rfl, _⟩ := h; rfl) | (obtain ⟨_, _, _, rfl, _⟩ := h; rfl) | (obtain ⟨_, _, _, _, rfl, _⟩ := h; rfl) | (obtain ⟨_, _, _, _, _, rfl, _⟩ := h; rfl) | (obtain ⟨_, _, _, _, _, _, rfl, _⟩ := h; rfl) | (obtain ⟨_, _, _, _, _, _, _, rfl, _⟩ := h; rfl) | (obtain ⟨_, _, _, _, _, _, _, _, rfl, _⟩ := h; rfl) | (obtain ⟨_, _, _, _, _, _, _, _, _, rfl, _⟩ := h; rfl) | (obtain ⟨_, _, _, _, _, _, _, _, _, _, rfl, _⟩ := h; rfl) | (obtain ⟨_, _, _, _, _, _, _, _, _, _, _, rfl, _⟩ := h; rfl) | (obtain ⟨_, _, _, _, _, _, _, _, _, _, _, _, rfl, _⟩ := h; rfl) | (obtain ⟨_, _, _, _, _, _, _, _, _, _, _, _, _, rfl, _⟩ := h; rfl) | (obtain ⟨_, _, _, _, _, _, _, _, _, _, _, _, _, _, rfl, _⟩ := h; rfl) | (obtain ⟨_, _, _, _, _, _, _, _, _, _, _, _, _, _, _, rfl, _⟩ := h; rfl)))
  · have hu := hu_of hr
    exact pss_cons (ps_expr (pe_meth (pv 0) T.cl_Chain T.me_Chain_look_in GR_Chain__Chain_look_in (hr.mono (by decide)) T.b_Chain_look_in .nil (passes_call (takes_of rfl rfl rfl rfl) fun _ _ _ _ h => h) (pa_cons (pv 1) (pa_nil))))
      (pss_cons (ps_expr (pe_dpop1 (pe_fld (pv 0) (by rfl)) (pv 1) ⟨rfl, rfl, rfl, rfl⟩))
      (pss_one (ps_expr (pe_dpop1 (pe_fld (pv 0) (by rfl)) (pv 1) ⟨rfl, rfl, rfl, rfl⟩))))
  · exact purer_chstop ⟨T.cl_Chain, T.na_Chain_hands, T.na_Chain_links, T.na_Chain_made, T.na_Chain_era, T.na_Chain_inside, T.na_Chain_at, T.na_Chain_waits, T.cl_Link, T.na_Link_key, T.na_Link_after⟩ h
set_option maxHeartbeats 8000000 in
theorem okr_Chain__Chain_step (T : Txt K mg D) : FnOk P w K mg base (L2.CX P w) 5 D.f_Chain_step D.d_Chain_step ["self", "hand"] (sr_chstep D.c_Chain D.c_Link D.c_NoHand D.c_NotIn) := by
  have GR_Chain__Chain_look_in : FnOk P w K mg base (L2.CX P w) 3 D.f_Chain_look_in D.d_Chain_look_in ["self", "hand"] (spOr (sp_chlook_in D.c_Chain D.c_Link) (sr_chlook_in D.c_Chain D.c_Link D.c_NoHand D.c_NotIn)) := fn_or (fn_up (ok_Chain__Chain_look_in T)) (okr_Chain__Chain_look_in T)
  have GR_Chain__Chain_stop : FnOk P w K mg base (L2.CX P w) 4 D.f_Chain_stop D.d_Chain_stop ["self", "hand"] (spOr (sp_chstop D.c_Chain D.c_Link) (sr_chstop D.c_Chain D.c_Link D.c_NoHand D.c_NotIn)) := fn_or (fn_up (ok_Chain__Chain_stop T)) (okr_Chain__Chain_stop T)
  refine T.F_Chain_step.okX sc_Chain_step (fun vs H Q E h => ?_) (fun cdv A outer s H vs Q E hr h => ⟨tr_Chain_step K D.c_Chain (spOr (sp_chlook_in D.c_Chain D.c_Link) (sr_chlook_in D.c_Chain D.c_Link D.c_NoHand D.c_NotIn)) (spOr (sp_chstop D.c_Chain D.c_Link) (sr_chstop D.c_Chain D.c_Link D.c_NoHand D.c_NotIn)) E, ?_, ?_⟩)
  · first | (obtain ⟨_, rfl, _⟩ := h; rfl; done) | (obtain ⟨_, _, rfl, _⟩ := h; rfl; done) | (obtain ⟨_, _, _, rfl, _⟩ := h; rfl; done) | (obtain ⟨_, _, _, _, rfl, _⟩ := h; rfl; done) | (obtain ⟨_, _, _, _, _, rfl, _⟩ := h; rfl; done) | (obtain ⟨_, _, _, _, _, _, rfl, _⟩ := h; rfl; done) | (obtain ⟨_, _, _, _, _, _, _, rfl, _⟩ := h; rfl; done) | (obtain ⟨_, _, _, _, _, _, _, _, rfl, _⟩ := h; rfl; done) | (obtain ⟨_, _, _, _, _, _, _, _, _, rfl, _⟩ := h; rfl; done) | (obtain ⟨_, _, _, _, _, _, _, _, _, _, rfl, _⟩ := h; rfl; done) | (obtain ⟨_, _, _, _, _, _, _, _, _, _, _, rfl, _⟩ := h; rfl; done) | (obtain ⟨_, _, _, _, _, _, _, _, _, _, _, _, rfl, _⟩ := h; rfl; done) | (obtain ⟨_, _, _, _, _, _, _, _, _, _, _, _, _, rfl, _⟩ := h; rfl; done) | (obtain ⟨_, _, _, _, _, _, _, _, _, _, _, _, _, _, rfl, _⟩ := h; rfl; done) | (obtain ⟨_, _, _, _, _, _, _, _, _, _, _, _, _, _, _, rfl, _⟩ := h; rfl; done) | ((rcases h with h | h) <;> (first | (obtain ⟨_, rfl, _⟩ := h; rfl) | (obtain ⟨_, _, rfl, _⟩ := h; rfl) | (obtain ⟨_, _, _, rfl, _⟩ := h; rfl) | (obtain ⟨_, _, _, _, rfl, _⟩ := h; rfl) | (obtain ⟨_, _, _, _, _, rfl, _⟩ := h; rfl) | (obtain ⟨_, _, _, _, _, _, rfl, _⟩ := h; rfl) | (obtain ⟨_, _, _, _, _, _, _, rfl, _⟩ := h; rfl) | (obtain ⟨_, _, _, _, _, _, _, _, rfl, _⟩ := h; rfl) | (obtain ⟨_, _, _, _, _, _, _, _, _, rfl, _⟩ := h; rfl) | (obtain ⟨_, _, _, _, _, _, _, _, _, _, rfl, _⟩ := h; rfl) | (obtain ⟨_, _, _, _, _, _, _, _, _, _, _, rfl, _⟩ := h; rfl) | (obtain ⟨_, _, _, _, _, _, _, _, _, _, _, _, rfl, _⟩ := h; rfl) | (obtain ⟨_, _, _, _, _, _, _, _, _, _, _, _, _, rfl, _⟩ := h; rfl) | (obtain ⟨_, _, _, _, _, _, _, _, _, _, _, _, _, _, rfl, _⟩ := h; rfl) | (obtain ⟨_, _, _, _, _, _, _, _, _, _, _, _, _, _, _, rfl, _⟩ := h; rfl)))
  · have hu := hu_of hr
    exact pss_cons (ps_expr (pe_meth (pv 0) T.cl_Chain T.me_Chain_look_in GR_Chain__Chain_look_in (hr.mono (by decide)) T.b_Chain_look_in .nil (passes_call (takes_of rfl rfl rfl rfl) fun _ _ _ _ h => h) (pa_cons (pv 1) (pa_nil))))
      (pss_cons (ps_set (i := 2) sc_Chain_step.nd rfl (by first | exact Or.inl rfl | exact Or.inr rfl) (pe_fld (pe_dget hu (pe_fld (pv 0) (by rfl)) (pe_dget hu (pe_fld (pv 0) (by rfl)) (pv 1) (fun _ _ => rfl)) (fun _ _ => rfl)) (by rfl)))
      (pss_cons (ps_if (pt_cmpR op_isNo (pv 2) (pe_non) (nomark _)) (pss_cons (ps_expr (pe_meth (pv 0) T.cl_Chain T.me_Chain_stop GR_Chain__Chain_stop (hr.mono (by decide)) T.b_Chain_stop .nil (passes_call (takes_of rfl rfl rfl rfl) fun _ _ _ _ h => h) (pa_cons (pv 1) (pa_nil))))
      (pss_one (ps_ret (pe_non)))) (pss_nil))
      (pss_cons (ps_if (pt_cmp (pc_dnotin hu (pv 2) (pe_fld (pv 0) (by rfl))) (by rfl)) (pss_one (ps_never)) (pss_nil))
      (pss_cons (ps_dput hu (pe_fld (pv 0) (by rfl)) (pv 1) (pv 2) (by rfl))
      (pss_one (ps_ret (pe_fld (pe_dget hu (pe_fld (pv 0) (by rfl)) (pv 2) (fun _ _ => rfl)) (by rfl))))))))
  · exact purer_chstep ⟨T.cl_Chain, T.na_Chain_hands, T.na_Chain_links, T.na_Chain_made, T.na_Chain_era, T.na_Chain_inside, T.na_Chain_at, T.na_Chain_waits, T.cl_Link, T.na_Link_key, T.na_Link_after⟩ h
set_option maxHeartbeats 8000000 in
theorem okr__law_did (T : Txt K mg D) : FnOk P w K mg base (L2.CX P w) 6 D.f__law_did D.d__law_did ["chain", "kind", "what"] (sr__law_did D.c_Chain D.c_Link (Exs.mk D.c_BadNumber D.c_NoHand D.c_NoCell D.c_NoMark D.c_IsIn D.c_NotIn D.c_NotHeld D.c_Gone D.c_BadPairs D.c_NotNow D.c_StoreError)) := by
  have GR_Chain__Chain_put : FnOk P w K mg base (L2.CX P w) 4 D.f_Chain_put D.d_Chain_put ["self", "key"] (spOr (sp_chput D.c_Chain D.c_Link) (sr_chput D.c_Chain D.c_Link D.c_BadNumber)) := fn_or (fn_up (ok_Chain__Chain_put T)) (okr_Chain__Chain_put T)
  have GR_Chain__Chain_take_out : FnOk P w K mg base (L2.CX P w) 4 D.f_Chain_take_out D.d_Chain_take_out ["self", "key"] (spOr (sp_chout D.c_Chain D.c_Link) (sr_chout D.c_Chain D.c_Link D.c_BadNumber)) := fn_or (fn_up (ok_Chain__Chain_take_out T)) (okr_Chain__Chain_take_out T)
  have GR_Chain__Chain_has : FnOk P w K mg base (L2.CX P w) 3 D.f_Chain_has D.d_Chain_has ["self", "key"] (spOr (sp_chhas D.c_Chain D.c_Link) (sr_chhas D.c_Chain D.c_Link D.c_BadNumber)) := fn_or (fn_up (ok_Chain__Chain_has T)) (okr_Chain__Chain_has T)
  have GR_mk_Chain : FnOk P w K mg base (L2.CX P w) 3 D.f_Chain_init D.d_Chain_init ["self", "hands"] (spOr (sp_chinit D.c_Chain D.c_Link) (sr_chinit D.c_Chain D.c_Link D.c_BadNumber)) := fn_or (fn_up (ok_mk_Chain T)) (okr_mk_Chain T)
  have GR_Chain__Chain_start : FnOk P w K mg base (L2.CX P w) 3 D.f_Chain_start D.d_Chain_start ["self", "hand"] (spOr (sp_chstart D.c_Chain D.c_Link) (sr_chstart D.c_Chain D.c_Link D.c_NoHand D.c_IsIn)) := fn_or (fn_up (ok_Chain__Chain_start T)) (okr_Chain__Chain_start T)
  have GR_Chain__Chain_step : FnOk P w K mg base (L2.CX P w) 5 D.f_Chain_step D.d_Chain_step ["self", "hand"] (spOr (sp_chstep D.c_Chain D.c_Link) (sr_chstep D.c_Chain D.c_Link D.c_NoHand D.c_NotIn)) := fn_or (fn_up (ok_Chain__Chain_step T)) (okr_Chain__Chain_step T)
  have GR_Chain__Chain_stop : FnOk P w K mg base (L2.CX P w) 4 D.f_Chain_stop D.d_Chain_stop ["self", "hand"] (spOr (sp_chstop D.c_Chain D.c_Link) (sr_chstop D.c_Chain D.c_Link D.c_NoHand D.c_NotIn)) := fn_or (fn_up (ok_Chain__Chain_stop T)) (okr_Chain__Chain_stop T)
  refine T.F__law_did.okX sc__law_did (fun vs H Q E h => ?_) (fun cdv A outer s H vs Q E hr h => ⟨tr__law_did K D.c_Chain (spOr (sp_chput D.c_Chain D.c_Link) (sr_chput D.c_Chain D.c_Link D.c_BadNumber)) (spOr (sp_chout D.c_Chain D.c_Link) (sr_chout D.c_Chain D.c_Link D.c_BadNumber)) (spOr (sp_chhas D.c_Chain D.c_Link) (sr_chhas D.c_Chain D.c_Link D.c_BadNumber)) (spOr (sp_chinit D.c_Chain D.c_Link) (sr_chinit D.c_Chain D.c_Link D.c_BadNumber)) (spOr (sp_chstart D.c_Chain D.c_Link) (sr_chstart D.c_Chain D.c_Link D.c_NoHand D.c_IsIn)) (spOr (sp_chstep D.c_Chain D.c_Link) (sr_chstep D.c_Chain D.c_Link D.c_NoHand D.c_NotIn)) (spOr (sp_chstop D.c_Chain D.c_Link) (sr_chstop D.c_Chain D.c_Link D.c_NoHand D.c_NotIn)) E, ?_, ?_⟩)
  · first | (obtain ⟨_, rfl, _⟩ := h; rfl; done) | (obtain ⟨_, _, rfl, _⟩ := h; rfl; done) | (obtain ⟨_, _, _, rfl, _⟩ := h; rfl; done) | (obtain ⟨_, _, _, _, rfl, _⟩ := h; rfl; done) | (obtain ⟨_, _, _, _, _, rfl, _⟩ := h; rfl; done) | (obtain ⟨_, _, _, _, _, _, rfl, _⟩ := h; rfl; done) | (obtain ⟨_, _, _, _, _, _, _, rfl, _⟩ := h; rfl; done) | (obtain ⟨_, _, _, _, _, _, _, _, rfl, _⟩ := h; rfl; done) | (obtain ⟨_, _, _, _, _, _, _, _, _, rfl, _⟩ := h; rfl; done) | (obtain ⟨_, _, _, _, _, _, _, _, _, _, rfl, _⟩ := h; rfl; done) | (obtain ⟨_, _, _, _, _, _, _, _, _, _, _, rfl, _⟩ := h; rfl; done) | (obtain ⟨_, _, _, _, _, _, _, _, _, _, _, _, rfl, _⟩ := h; rfl; done) | (obtain ⟨_, _, _, _, _, _, _, _, _, _, _, _, _, rfl, _⟩ := h; rfl; done) | (obtain ⟨_, _, _, _, _, _, _, _, _, _, _, _, _, _, rfl, _⟩ := h; rfl; done) | (obtain ⟨_, _, _, _, _, _, _, _, _, _, _, _, _, _, _, rfl, _⟩ := h; rfl; done) | ((rcases h with h | h) <;> (first | (obtain ⟨_, rfl, _⟩ := h; rfl) | (obtain ⟨_, _, rfl, _⟩ := h; rfl) | (obtain ⟨_, _, _, rfl, _⟩ := h; rfl) | (obtain ⟨_, _, _, _, rfl, _⟩ := h; rfl) | (obtain ⟨_, _, _, _, _, rfl, _⟩ := h; rfl) | (obtain ⟨_, _, _, _, _, _, rfl, _⟩ := h; rfl) | (obtain ⟨_, _, _, _, _, _, _, rfl, _⟩ := h; rfl) | (obtain ⟨_, _, _, _, _, _, _, _, rfl, _⟩ := h; rfl) | (obtain ⟨_, _, _, _, _, _, _, _, _, rfl, _⟩ := h; rfl) | (obtain ⟨_, _, _, _, _, _, _, _, _, _, rfl, _⟩ := h; rfl) | (obtain ⟨_, _, _, _, _, _, _, _, _, _, _, rfl, _⟩ := h; rfl) | (obtain ⟨_, _, _, _, _, _, _, _, _, _, _, _, rfl, _⟩ := h; rfl) | (obtain ⟨_, _, _, _, _, _, _, _, _, _, _, _, _, rfl, _⟩ := h; rfl) | (obtain ⟨_, _, _, _, _, _, _, _, _, _, _, _, _, _, rfl, _⟩ := h; rfl) | (obtain ⟨_, _, _, _, _, _, _, _, _, _, _, _, _, _, _, rfl, _⟩ := h; rfl)))
  · have hu := hu_of hr
    exact pss_cons (ps_if (pt_cmpR op_eq (pv 1) (pe_int) (nomark _)) (pss_one (ps_ret (pe_meth (pv 0) T.cl_Chain T.me_Chain_put GR_Chain__Chain_put (hr.mono (by decide)) T.b_Chain_put .nil (passes_call (takes_of rfl rfl rfl rfl) fun _ _ _ _ h => h) (pa_cons (pv 2) (pa_nil))))) (pss_nil))
      (pss_cons (ps_if (pt_cmpR op_eq (pv 1) (pe_int) (nomark _)) (pss_one (ps_ret (pe_meth (pv 0) T.cl_Chain T.me_Chain_take_out GR_Chain__Chain_take_out (hr.mono (by decide)) T.b_Chain_take_out .nil (passes_call (takes_of rfl rfl rfl rfl) fun _ _ _ _ h => h) (pa_cons (pv 2) (pa_nil))))) (pss_nil))
      (pss_cons (ps_if (pt_cmpR op_eq (pv 1) (pe_int) (nomark _)) (pss_one (ps_ret (pe_meth (pv 0) T.cl_Chain T.me_Chain_has GR_Chain__Chain_has (hr.mono (by decide)) T.b_Chain_has .nil (passes_call (takes_of rfl rfl rfl rfl) fun _ _ _ _ h => h) (pa_cons (pv 2) (pa_nil))))) (pss_nil))
      (pss_cons (ps_if (pt_cmpR op_eq (pv 1) (pe_int) (nomark _)) (pss_one (ps_ret (pe_make T.mk_Chain GR_mk_Chain (hr.mono (by decide)) (by rfl) T.g_Chain T.b_Chain_init .nil (passes_call (takes_of rfl rfl rfl rfl) fun _ _ _ _ h => h) (pa_cons (pv 2) (pa_nil))))) (pss_nil))
      (pss_cons (ps_if (pt_cmpR op_eq (pv 1) (pe_int) (nomark _)) (pss_one (ps_ret (pe_meth (pv 0) T.cl_Chain T.me_Chain_start GR_Chain__Chain_start (hr.mono (by decide)) T.b_Chain_start .nil (passes_call (takes_of rfl rfl rfl rfl) fun _ _ _ _ h => h) (pa_cons (pv 2) (pa_nil))))) (pss_nil))
      (pss_one (ps_ret (pe_ifExp (pt_cmpR op_eq (pv 1) (pe_int) (nomark _)) (pe_meth (pv 0) T.cl_Chain T.me_Chain_step GR_Chain__Chain_step (hr.mono (by decide)) T.b_Chain_step .nil (passes_call (takes_of rfl rfl rfl rfl) fun _ _ _ _ h => h) (pa_cons (pv 2) (pa_nil))) (pe_meth (pv 0) T.cl_Chain T.me_Chain_stop GR_Chain__Chain_stop (hr.mono (by decide)) T.b_Chain_stop .nil (passes_call (takes_of rfl rfl rfl rfl) fun _ _ _ _ h => h) (pa_cons (pv 2) (pa_nil))))))))))
  · exact purer__law_did (X := (Exs.mk D.c_BadNumber D.c_NoHand D.c_NoCell D.c_NoMark D.c_IsIn D.c_NotIn D.c_NotHeld D.c_Gone D.c_BadPairs D.c_NotNow D.c_StoreError)) h
set_option maxHeartbeats 8000000 in
theorem ok__law_refusal (T : Txt K mg D) : FnOk P w K mg base CX0 1 D.f__law_refusal D.d__law_refusal ["caught"] (sp__law_refusal (Exs.mk D.c_BadNumber D.c_NoHand D.c_NoCell D.c_NoMark D.c_IsIn D.c_NotIn D.c_NotHeld D.c_Gone D.c_BadPairs D.c_NotNow D.c_StoreError) [0, 1, 4, 5]) := by
  refine T.F__law_refusal.ok sc__law_refusal (fun vs H Q E h => ?_) (fun cdv A outer s H vs Q E hr h => ⟨t__law_refusal K D.c_NoCell D.c_NoHand D.c_BadNumber D.c_NotIn D.c_IsIn D.c_NoMark D.c_BadPairs D.c_Gone D.c_NotHeld D.c_NotNow D.c_StoreError, ?_, ?_⟩)
  · first | (obtain ⟨_, rfl, _⟩ := h; rfl; done) | (obtain ⟨_, _, rfl, _⟩ := h; rfl; done) | (obtain ⟨_, _, _, rfl, _⟩ := h; rfl; done) | (obtain ⟨_, _, _, _, rfl, _⟩ := h; rfl; done) | (obtain ⟨_, _, _, _, _, rfl, _⟩ := h; rfl; done) | (obtain ⟨_, _, _, _, _, _, rfl, _⟩ := h; rfl; done) | (obtain ⟨_, _, _, _, _, _, _, rfl, _⟩ := h; rfl; done) | (obtain ⟨_, _, _, _, _, _, _, _, rfl, _⟩ := h; rfl; done) | (obtain ⟨_, _, _, _, _, _, _, _, _, rfl, _⟩ := h; rfl; done) | (obtain ⟨_, _, _, _, _, _, _, _, _, _, rfl, _⟩ := h; rfl; done) | (obtain ⟨_, _, _, _, _, _, _, _, _, _, _, rfl, _⟩ := h; rfl; done) | (obtain ⟨_, _, _, _, _, _, _, _, _, _, _, _, rfl, _⟩ := h; rfl; done) | (obtain ⟨_, _, _, _, _, _, _, _, _, _, _, _, _, rfl, _⟩ := h; rfl; done) | (obtain ⟨_, _, _, _, _, _, _, _, _, _, _, _, _, _, rfl, _⟩ := h; rfl; done) | (obtain ⟨_, _, _, _, _, _, _, _, _, _, _, _, _, _, _, rfl, _⟩ := h; rfl; done) | ((rcases h with h | h) <;> (first | (obtain ⟨_, rfl, _⟩ := h; rfl) | (obtain ⟨_, _, rfl, _⟩ := h; rfl) | (obtain ⟨_, _, _, rfl, _⟩ := h; rfl) | (obtain ⟨_, _, _, _, rfl, _⟩ := h; rfl) | (obtain ⟨_, _, _, _, _, rfl, _⟩ := h; rfl) | (obtain ⟨_, _, _, _, _, _, rfl, _⟩ := h; rfl) | (obtain ⟨_, _, _, _, _, _, _, rfl, _⟩ := h; rfl) | (obtain ⟨_, _, _, _, _, _, _, _, rfl, _⟩ := h; rfl) | (obtain ⟨_, _, _, _, _, _, _, _, _, rfl, _⟩ := h; rfl) | (obtain ⟨_, _, _, _, _, _, _, _, _, _, rfl, _⟩ := h; rfl) | (obtain ⟨_, _, _, _, _, _, _, _, _, _, _, rfl, _⟩ := h; rfl) | (obtain ⟨_, _, _, _, _, _, _, _, _, _, _, _, rfl, _⟩ := h; rfl) | (obtain ⟨_, _, _, _, _, _, _, _, _, _, _, _, _, rfl, _⟩ := h; rfl) | (obtain ⟨_, _, _, _, _, _, _, _, _, _, _, _, _, _, rfl, _⟩ := h; rfl) | (obtain ⟨_, _, _, _, _, _, _, _, _, _, _, _, _, _, _, rfl, _⟩ := h; rfl)))
  · have hu := hu_of hr
    exact pss_cons (ps_set (i := 1) sc__law_refusal.nd rfl (by first | exact Or.inl rfl | exact Or.inr rfl) (pe_lst (pa_cons (pe_callB call_isK (by rfl) T.m_isinstance (by decide +kernel) (pa_cons (pv 0) (pa_cons (pe_glob (by rfl) T.g_BadNumber rfl) (pa_nil)))) (pa_cons (pe_callB call_isK (by rfl) T.m_isinstance (by decide +kernel) (pa_cons (pv 0) (pa_cons (pe_glob (by rfl) T.g_NoHand rfl) (pa_nil)))) (pa_cons (pe_callB call_isK (by rfl) T.m_isinstance (by decide +kernel) (pa_cons (pv 0) (pa_cons (pe_glob (by rfl) T.g_NoCell rfl) (pa_nil)))) (pa_nil))))))
      (pss_cons (ps_set (i := 1) sc__law_refusal.nd rfl (by first | exact Or.inl rfl | exact Or.inr rfl) (pe_op op_cat (pv 1) (pe_lst (pa_cons (pe_callB call_isK (by rfl) T.m_isinstance (by decide +kernel) (pa_cons (pv 0) (pa_cons (pe_glob (by rfl) T.g_NoMark rfl) (pa_nil)))) (pa_cons (pe_callB call_isK (by rfl) T.m_isinstance (by decide +kernel) (pa_cons (pv 0) (pa_cons (pe_glob (by rfl) T.g_IsIn rfl) (pa_nil)))) (pa_cons (pe_callB call_isK (by rfl) T.m_isinstance (by decide +kernel) (pa_cons (pv 0) (pa_cons (pe_glob (by rfl) T.g_NotIn rfl) (pa_nil)))) (pa_nil)))))))
      (pss_cons (ps_set (i := 1) sc__law_refusal.nd rfl (by first | exact Or.inl rfl | exact Or.inr rfl) (pe_op op_cat (pv 1) (pe_lst (pa_cons (pe_callB call_isK (by rfl) T.m_isinstance (by decide +kernel) (pa_cons (pv 0) (pa_cons (pe_glob (by rfl) T.g_NotHeld rfl) (pa_nil)))) (pa_cons (pe_callB call_isK (by rfl) T.m_isinstance (by decide +kernel) (pa_cons (pv 0) (pa_cons (pe_glob (by rfl) T.g_Gone rfl) (pa_nil)))) (pa_cons (pe_callB call_isK (by rfl) T.m_isinstance (by decide +kernel) (pa_cons (pv 0) (pa_cons (pe_glob (by rfl) T.g_BadPairs rfl) (pa_nil)))) (pa_nil)))))))
      (pss_cons (ps_set (i := 1) sc__law_refusal.nd rfl (by first | exact Or.inl rfl | exact Or.inr rfl) (pe_op op_cat (pv 1) (pe_lst (pa_cons (pe_callB call_isK (by rfl) T.m_isinstance (by decide +kernel) (pa_cons (pv 0) (pa_cons (pe_glob (by rfl) T.g_NotNow rfl) (pa_nil)))) (pa_nil)))))
      (pss_cons (ps_if (PW.pt (pw_or (pt_cmpR op_ne (pe_bm PySem.F.plainAttrs_list PySem.F.slot_list_count PySem.F.type_list_count mt_countV (pv 1) (pa_cons (pe_bl) (pa_nil))) (pe_int) (nomark _)) (pw_or (pt_not (pt_val (pe_callB call_isK (by rfl) T.m_isinstance (by decide +kernel) (pa_cons (pv 0) (pa_cons (pe_glob (by rfl) T.g_StoreError rfl) (pa_nil)))))) (pw_or1 (pt_not (pt_val (pe_callB call_isK (by rfl) T.m_isinstance (by decide +kernel) (pa_cons (pv 0) (pa_cons (pe_bltn (v := .ty "ValueError") (by rfl) T.m_ValueError (by decide +kernel) rfl) pa_nil))))))))) (pss_one (ps_ret (pe_str))) (pss_nil))
      (pss_cons (ps_set (i := 2) sc__law_refusal.nd rfl (by first | exact Or.inl rfl | exact Or.inr rfl) (pe_lst (pa_cons (pe_str) (pa_cons (pe_str) (pa_cons (pe_str) (pa_cons (pe_str) (pa_cons (pe_str) (pa_cons (pe_str) (pa_cons (pe_str) (pa_cons (pe_str) (pa_cons (pe_str) (pa_cons (pe_str) (pa_nil)))))))))))))
      (pss_one (ps_ret (pe_ix ix_list (pv 2) (pe_bm PySem.F.plainAttrs_list PySem.F.slot_list_index PySem.F.type_list_index mt_index (pv 1) (pa_cons (pe_bl) (pa_nil))) (fun _ _ => rfl)))))))))
  · exact pure__law_refusal (X := (Exs.mk D.c_BadNumber D.c_NoHand D.c_NoCell D.c_NoMark D.c_IsIn D.c_NotIn D.c_NotHeld D.c_Gone D.c_BadPairs D.c_NotNow D.c_StoreError)) (fun i hi => by rcases (by simpa using hi : i = 0 ∨ i = 1 ∨ i = 4 ∨ i = 5) with rfl | rfl | rfl | rfl <;> first | exact (⟨by decide, T.ec_BadNumber, T.ki_BadNumber_BadNumber, T.ki_BadNumber_NoHand, T.ki_BadNumber_NoCell, T.ki_BadNumber_NoMark, T.ki_BadNumber_IsIn, T.ki_BadNumber_NotIn, T.ki_BadNumber_NotHeld, T.ki_BadNumber_Gone, T.ki_BadNumber_BadPairs, T.ki_BadNumber_NotNow, T.ki_BadNumber_StoreError, T.kv_BadNumber, T.em_BadNumber⟩ : RefK K (Exs.mk D.c_BadNumber D.c_NoHand D.c_NoCell D.c_NoMark D.c_IsIn D.c_NotIn D.c_NotHeld D.c_Gone D.c_BadPairs D.c_NotNow D.c_StoreError) 0) | exact (⟨by decide, T.ec_NoHand, T.ki_NoHand_BadNumber, T.ki_NoHand_NoHand, T.ki_NoHand_NoCell, T.ki_NoHand_NoMark, T.ki_NoHand_IsIn, T.ki_NoHand_NotIn, T.ki_NoHand_NotHeld, T.ki_NoHand_Gone, T.ki_NoHand_BadPairs, T.ki_NoHand_NotNow, T.ki_NoHand_StoreError, T.kv_NoHand, T.em_NoHand⟩ : RefK K (Exs.mk D.c_BadNumber D.c_NoHand D.c_NoCell D.c_NoMark D.c_IsIn D.c_NotIn D.c_NotHeld D.c_Gone D.c_BadPairs D.c_NotNow D.c_StoreError) 1) | exact (⟨by decide, T.ec_IsIn, T.ki_IsIn_BadNumber, T.ki_IsIn_NoHand, T.ki_IsIn_NoCell, T.ki_IsIn_NoMark, T.ki_IsIn_IsIn, T.ki_IsIn_NotIn, T.ki_IsIn_NotHeld, T.ki_IsIn_Gone, T.ki_IsIn_BadPairs, T.ki_IsIn_NotNow, T.ki_IsIn_StoreError, T.kv_IsIn, T.em_IsIn⟩ : RefK K (Exs.mk D.c_BadNumber D.c_NoHand D.c_NoCell D.c_NoMark D.c_IsIn D.c_NotIn D.c_NotHeld D.c_Gone D.c_BadPairs D.c_NotNow D.c_StoreError) 4) | exact (⟨by decide, T.ec_NotIn, T.ki_NotIn_BadNumber, T.ki_NotIn_NoHand, T.ki_NotIn_NoCell, T.ki_NotIn_NoMark, T.ki_NotIn_IsIn, T.ki_NotIn_NotIn, T.ki_NotIn_NotHeld, T.ki_NotIn_Gone, T.ki_NotIn_BadPairs, T.ki_NotIn_NotNow, T.ki_NotIn_StoreError, T.kv_NotIn, T.em_NotIn⟩ : RefK K (Exs.mk D.c_BadNumber D.c_NoHand D.c_NoCell D.c_NoMark D.c_IsIn D.c_NotIn D.c_NotHeld D.c_Gone D.c_BadPairs D.c_NotNow D.c_StoreError) 5)) h
set_option maxHeartbeats 8000000 in
theorem ok__law_asked (T : Txt K mg D) : FnOk P w K mg base CX0 7 D.f__law_asked D.d__law_asked ["chain", "kind", "what"] (sp__law_asked D.c_Chain D.c_Link (Exs.mk D.c_BadNumber D.c_NoHand D.c_NoCell D.c_NoMark D.c_IsIn D.c_NotIn D.c_NotHeld D.c_Gone D.c_BadPairs D.c_NotNow D.c_StoreError)) := by
  have GR__law_did : FnOk P w K mg base (L2.CX P w) 6 D.f__law_did D.d__law_did ["chain", "kind", "what"] (sr__law_did D.c_Chain D.c_Link (Exs.mk D.c_BadNumber D.c_NoHand D.c_NoCell D.c_NoMark D.c_IsIn D.c_NotIn D.c_NotHeld D.c_Gone D.c_BadPairs D.c_NotNow D.c_StoreError)) := okr__law_did T
  have G__law_refusal : FnOk P w K mg base CX0 1 D.f__law_refusal D.d__law_refusal ["caught"] (sp__law_refusal (Exs.mk D.c_BadNumber D.c_NoHand D.c_NoCell D.c_NoMark D.c_IsIn D.c_NotIn D.c_NotHeld D.c_Gone D.c_BadPairs D.c_NotNow D.c_StoreError) [0, 1, 4, 5]) := ok__law_refusal T
  refine T.F__law_asked.ok sc__law_asked (fun vs H Q E h => ?_) (fun cdv A outer s H vs Q E hr h => ⟨t__law_asked K D.c_StoreError (sr__law_did D.c_Chain D.c_Link (Exs.mk D.c_BadNumber D.c_NoHand D.c_NoCell D.c_NoMark D.c_IsIn D.c_NotIn D.c_NotHeld D.c_Gone D.c_BadPairs D.c_NotNow D.c_StoreError)) (sp__law_refusal (Exs.mk D.c_BadNumber D.c_NoHand D.c_NoCell D.c_NoMark D.c_IsIn D.c_NotIn D.c_NotHeld D.c_Gone D.c_BadPairs D.c_NotNow D.c_StoreError) [0, 1, 4, 5]), ?_, ?_⟩)
  · first | (obtain ⟨_, rfl, _⟩ := h; rfl; done) | (obtain ⟨_, _, rfl, _⟩ := h; rfl; done) | (obtain ⟨_, _, _, rfl, _⟩ := h; rfl; done) | (obtain ⟨_, _, _, _, rfl, _⟩ := h; rfl; done) | (obtain ⟨_, _, _, _, _, rfl, _⟩ := h; rfl; done) | (obtain ⟨_, _, _, _, _, _, rfl, _⟩ := h; rfl; done) | (obtain ⟨_, _, _, _, _, _, _, rfl, _⟩ := h; rfl; done) | (obtain ⟨_, _, _, _, _, _, _, _, rfl, _⟩ := h; rfl; done) | (obtain ⟨_, _, _, _, _, _, _, _, _, rfl, _⟩ := h; rfl; done) | (obtain ⟨_, _, _, _, _, _, _, _, _, _, rfl, _⟩ := h; rfl; done) | (obtain ⟨_, _, _, _, _, _, _, _, _, _, _, rfl, _⟩ := h; rfl; done) | (obtain ⟨_, _, _, _, _, _, _, _, _, _, _, _, rfl, _⟩ := h; rfl; done) | (obtain ⟨_, _, _, _, _, _, _, _, _, _, _, _, _, rfl, _⟩ := h; rfl; done) | (obtain ⟨_, _, _, _, _, _, _, _, _, _, _, _, _, _, rfl, _⟩ := h; rfl; done) | (obtain ⟨_, _, _, _, _, _, _, _, _, _, _, _, _, _, _, rfl, _⟩ := h; rfl; done) | ((rcases h with h | h) <;> (first | (obtain ⟨_, rfl, _⟩ := h; rfl) | (obtain ⟨_, _, rfl, _⟩ := h; rfl) | (obtain ⟨_, _, _, rfl, _⟩ := h; rfl) | (obtain ⟨_, _, _, _, rfl, _⟩ := h; rfl) | (obtain ⟨_, _, _, _, _, rfl, _⟩ := h; rfl) | (obtain ⟨_, _, _, _, _, _, rfl, _⟩ := h; rfl) | (obtain ⟨_, _, _, _, _, _, _, rfl, _⟩ := h; rfl) | (obtain ⟨_, _, _, _, _, _, _, _, rfl, _⟩ := h; rfl) | (obtain ⟨_, _, _, _, _, _, _, _, _, rfl, _⟩ := h; rfl) | (obtain ⟨_, _, _, _, _, _, _, _, _, _, rfl, _⟩ := h; rfl) | (obtain ⟨_, _, _, _, _, _, _, _, _, _, _, rfl, _⟩ := h; rfl) | (obtain ⟨_, _, _, _, _, _, _, _, _, _, _, _, rfl, _⟩ := h; rfl) | (obtain ⟨_, _, _, _, _, _, _, _, _, _, _, _, _, rfl, _⟩ := h; rfl) | (obtain ⟨_, _, _, _, _, _, _, _, _, _, _, _, _, _, rfl, _⟩ := h; rfl) | (obtain ⟨_, _, _, _, _, _, _, _, _, _, _, _, _, _, _, rfl, _⟩ := h; rfl)))
  · have hu := hu_of hr
    exact pss_cons (ps_set (i := 3) sc__law_asked.nd rfl (by first | exact Or.inl rfl | exact Or.inr rfl) (pe_non))
      (pss_cons (ps_try_keep (i := 4) rfl rfl rfl sc__law_asked.nd rfl rfl ⟨by rfl, by decide, .inl T.g_StoreError⟩ takes0 (fun W pn xe tk _ => pss_one (ps_expr (pe_callS GR__law_did (hr.mono (by decide)) (by rfl) T.g__law_did T.F__law_did.kp T.b__law_did (fun σ => passAt tk σ) (pa_cons (pv 0) (pa_cons (pv 1) (pa_cons (pv 2) (pa_nil))))))) (fun a oe cls d pn hz hf => pss_one (ps_set (i := 3) sc__law_asked.nd rfl (by first | exact Or.inl rfl | exact Or.inr rfl) (pv 4))))
      (pss_one (ps_ret (pe_ifExp (pt_cmpR op_isNo (pv 3) (pe_non) (nomark _)) (pe_str) (pe_call G__law_refusal (hr.mono (by decide)) (by rfl) T.g__law_refusal T.F__law_refusal.kp T.b__law_refusal .nil pass0 (pa_cons (pv 3) (pa_nil)))))))
  · exact pure__law_asked (X := (Exs.mk D.c_BadNumber D.c_NoHand D.c_NoCell D.c_NoMark D.c_IsIn D.c_NotIn D.c_NotHeld D.c_Gone D.c_BadPairs D.c_NotNow D.c_StoreError)) (fun i hi => by rcases (by simpa using hi : i = 0 ∨ i = 1 ∨ i = 4 ∨ i = 5) with rfl | rfl | rfl | rfl <;> first | exact (⟨by decide, T.ec_BadNumber, T.ki_BadNumber_BadNumber, T.ki_BadNumber_NoHand, T.ki_BadNumber_NoCell, T.ki_BadNumber_NoMark, T.ki_BadNumber_IsIn, T.ki_BadNumber_NotIn, T.ki_BadNumber_NotHeld, T.ki_BadNumber_Gone, T.ki_BadNumber_BadPairs, T.ki_BadNumber_NotNow, T.ki_BadNumber_StoreError, T.kv_BadNumber, T.em_BadNumber⟩ : RefK K (Exs.mk D.c_BadNumber D.c_NoHand D.c_NoCell D.c_NoMark D.c_IsIn D.c_NotIn D.c_NotHeld D.c_Gone D.c_BadPairs D.c_NotNow D.c_StoreError) 0) | exact (⟨by decide, T.ec_NoHand, T.ki_NoHand_BadNumber, T.ki_NoHand_NoHand, T.ki_NoHand_NoCell, T.ki_NoHand_NoMark, T.ki_NoHand_IsIn, T.ki_NoHand_NotIn, T.ki_NoHand_NotHeld, T.ki_NoHand_Gone, T.ki_NoHand_BadPairs, T.ki_NoHand_NotNow, T.ki_NoHand_StoreError, T.kv_NoHand, T.em_NoHand⟩ : RefK K (Exs.mk D.c_BadNumber D.c_NoHand D.c_NoCell D.c_NoMark D.c_IsIn D.c_NotIn D.c_NotHeld D.c_Gone D.c_BadPairs D.c_NotNow D.c_StoreError) 1) | exact (⟨by decide, T.ec_IsIn, T.ki_IsIn_BadNumber, T.ki_IsIn_NoHand, T.ki_IsIn_NoCell, T.ki_IsIn_NoMark, T.ki_IsIn_IsIn, T.ki_IsIn_NotIn, T.ki_IsIn_NotHeld, T.ki_IsIn_Gone, T.ki_IsIn_BadPairs, T.ki_IsIn_NotNow, T.ki_IsIn_StoreError, T.kv_IsIn, T.em_IsIn⟩ : RefK K (Exs.mk D.c_BadNumber D.c_NoHand D.c_NoCell D.c_NoMark D.c_IsIn D.c_NotIn D.c_NotHeld D.c_Gone D.c_BadPairs D.c_NotNow D.c_StoreError) 4) | exact (⟨by decide, T.ec_NotIn, T.ki_NotIn_BadNumber, T.ki_NotIn_NoHand, T.ki_NotIn_NoCell, T.ki_NotIn_NoMark, T.ki_NotIn_IsIn, T.ki_NotIn_NotIn, T.ki_NotIn_NotHeld, T.ki_NotIn_Gone, T.ki_NotIn_BadPairs, T.ki_NotIn_NotNow, T.ki_NotIn_StoreError, T.kv_NotIn, T.em_NotIn⟩ : RefK K (Exs.mk D.c_BadNumber D.c_NoHand D.c_NoCell D.c_NoMark D.c_IsIn D.c_NotIn D.c_NotHeld D.c_Gone D.c_BadPairs D.c_NotNow D.c_StoreError) 5)) h
set_option maxHeartbeats 8000000 in
theorem ok_Chain__Chain_keys_in (T : Txt K mg D) : FnOk P w K mg base CX0 1 D.f_Chain_keys_in D.d_Chain_keys_in ["self"] (sp_keys_in D.c_Chain D.c_Link) := by
  refine T.F_Chain_keys_in.ok sc_Chain_keys_in (fun vs H Q E h => ?_) (fun cdv A outer s H vs Q E hr h => ⟨t_Chain_keys_in K, ?_, ?_⟩)
  · first | (obtain ⟨_, rfl, _⟩ := h; rfl; done) | (obtain ⟨_, _, rfl, _⟩ := h; rfl; done) | (obtain ⟨_, _, _, rfl, _⟩ := h; rfl; done) | (obtain ⟨_, _, _, _, rfl, _⟩ := h; rfl; done) | (obtain ⟨_, _, _, _, _, rfl, _⟩ := h; rfl; done) | (obtain ⟨_, _, _, _, _, _, rfl, _⟩ := h; rfl; done) | (obtain ⟨_, _, _, _, _, _, _, rfl, _⟩ := h; rfl; done) | (obtain ⟨_, _, _, _, _, _, _, _, rfl, _⟩ := h; rfl; done) | (obtain ⟨_, _, _, _, _, _, _, _, _, rfl, _⟩ := h; rfl; done) | (obtain ⟨_, _, _, _, _, _, _, _, _, _, rfl, _⟩ := h; rfl; done) | (obtain ⟨_, _, _, _, _, _, _, _, _, _, _, rfl, _⟩ := h; rfl; done) | (obtain ⟨_, _, _, _, _, _, _, _, _, _, _, _, rfl, _⟩ := h; rfl; done) | (obtain ⟨_, _, _, _, _, _, _, _, _, _, _, _, _, rfl, _⟩ := h; rfl; done) | (obtain ⟨_, _, _, _, _, _, _, _, _, _, _, _, _, _, rfl, _⟩ := h; rfl; done) | (obtain ⟨_, _, _, _, _, _, _, _, _, _, _, _, _, _, _, rfl, _⟩ := h; rfl; done) | ((rcases h with h | h) <;> (first | (obtain ⟨_, rfl, _⟩ := h; rfl) | (obtain ⟨_, _, rfl, _⟩ := h; rfl) | (obtain ⟨_, _, _, rfl, _⟩ := h; rfl) | (obtain ⟨_, _, _, _, rfl, _⟩ := h; rfl) | (obtain ⟨_, _, _, _, _, rfl, _⟩ := h; rfl) | (obtain ⟨_, _, _, _, _, _, rfl, _⟩ := h; rfl) | (obtain ⟨_, _, _, _, _, _, _, rfl, _⟩ := h; rfl) | (obtain ⟨_, _, _, _, _, _, _, _, rfl, _⟩ := h; rfl) | (obtain ⟨_, _, _, _, _, _, _, _, _, rfl, _⟩ := h; rfl) | (obtain ⟨_, _, _, _, _, _, _, _, _, _, rfl, _⟩ := h; rfl) | (obtain ⟨_, _, _, _, _, _, _, _, _, _, _, rfl, _⟩ := h; rfl) | (obtain ⟨_, _, _, _, _, _, _, _, _, _, _, _, rfl, _⟩ := h; rfl) | (obtain ⟨_, _, _, _, _, _, _, _, _, _, _, _, _, rfl, _⟩ := h; rfl) | (obtain ⟨_, _, _, _, _, _, _, _, _, _, _, _, _, _, rfl, _⟩ := h; rfl) | (obtain ⟨_, _, _, _, _, _, _, _, _, _, _, _, _, _, _, rfl, _⟩ := h; rfl)))
  · have hu := hu_of hr
    exact pss_cons (ps_set (i := 1) sc_Chain_keys_in.nd rfl (by first | exact Or.inl rfl | exact Or.inr rfl) (pe_lst (pa_nil)))
      (pss_cons (ps_set (i := 2) sc_Chain_keys_in.nd rfl (by first | exact Or.inl rfl | exact Or.inr rfl) (pe_fld (pe_dget hu (pe_fld (pv 0) (by rfl)) (pe_int) (fun _ _ => rfl)) (by rfl)))
      (pss_cons (ps_while PassesOwn.never (pt_cmpR op_notNo (pv 2) (pe_non) (nomark _)) (pss_cons (ps_expr (pe_bm PySem.F.plainAttrs_list PySem.F.slot_list_append PySem.F.type_list_append mt_append (pv 1) (pa_cons (pe_fld (pe_dget hu (pe_fld (pv 0) (by rfl)) (pv 2) (fun _ _ => rfl)) (by rfl)) (pa_nil))))
      (pss_one (ps_set (i := 2) sc_Chain_keys_in.nd rfl (by first | exact Or.inl rfl | exact Or.inr rfl) (pe_fld (pe_dget hu (pe_fld (pv 0) (by rfl)) (pv 2) (fun _ _ => rfl)) (by rfl))))))
      (pss_one (ps_ret (pv 1)))))
  · exact pure_keys_in ⟨T.cl_Chain, T.na_Chain_hands, T.na_Chain_links, T.na_Chain_made, T.na_Chain_era, T.na_Chain_inside, T.na_Chain_at, T.na_Chain_waits, T.cl_Link, T.na_Link_key, T.na_Link_after⟩ h
set_option maxHeartbeats 8000000 in
theorem ok_Chain__Chain_walkers (T : Txt K mg D) : FnOk P w K mg base CX0 1 D.f_Chain_walkers D.d_Chain_walkers ["self"] (sp_walkers D.c_Chain D.c_Link) := by
  refine T.F_Chain_walkers.ok sc_Chain_walkers (fun vs H Q E h => ?_) (fun cdv A outer s H vs Q E hr h => ⟨t_Chain_walkers K, ?_, ?_⟩)
  · first | (obtain ⟨_, rfl, _⟩ := h; rfl; done) | (obtain ⟨_, _, rfl, _⟩ := h; rfl; done) | (obtain ⟨_, _, _, rfl, _⟩ := h; rfl; done) | (obtain ⟨_, _, _, _, rfl, _⟩ := h; rfl; done) | (obtain ⟨_, _, _, _, _, rfl, _⟩ := h; rfl; done) | (obtain ⟨_, _, _, _, _, _, rfl, _⟩ := h; rfl; done) | (obtain ⟨_, _, _, _, _, _, _, rfl, _⟩ := h; rfl; done) | (obtain ⟨_, _, _, _, _, _, _, _, rfl, _⟩ := h; rfl; done) | (obtain ⟨_, _, _, _, _, _, _, _, _, rfl, _⟩ := h; rfl; done) | (obtain ⟨_, _, _, _, _, _, _, _, _, _, rfl, _⟩ := h; rfl; done) | (obtain ⟨_, _, _, _, _, _, _, _, _, _, _, rfl, _⟩ := h; rfl; done) | (obtain ⟨_, _, _, _, _, _, _, _, _, _, _, _, rfl, _⟩ := h; rfl; done) | (obtain ⟨_, _, _, _, _, _, _, _, _, _, _, _, _, rfl, _⟩ := h; rfl; done) | (obtain ⟨_, _, _, _, _, _, _, _, _, _, _, _, _, _, rfl, _⟩ := h; rfl; done) | (obtain ⟨_, _, _, _, _, _, _, _, _, _, _, _, _, _, _, rfl, _⟩ := h; rfl; done) | ((rcases h with h | h) <;> (first | (obtain ⟨_, rfl, _⟩ := h; rfl) | (obtain ⟨_, _, rfl, _⟩ := h; rfl) | (obtain ⟨_, _, _, rfl, _⟩ := h; rfl) | (obtain ⟨_, _, _, _, rfl, _⟩ := h; rfl) | (obtain ⟨_, _, _, _, _, rfl, _⟩ := h; rfl) | (obtain ⟨_, _, _, _, _, _, rfl, _⟩ := h; rfl) | (obtain ⟨_, _, _, _, _, _, _, rfl, _⟩ := h; rfl) | (obtain ⟨_, _, _, _, _, _, _, _, rfl, _⟩ := h; rfl) | (obtain ⟨_, _, _, _, _, _, _, _, _, rfl, _⟩ := h; rfl) | (obtain ⟨_, _, _, _, _, _, _, _, _, _, rfl, _⟩ := h; rfl) | (obtain ⟨_, _, _, _, _, _, _, _, _, _, _, rfl, _⟩ := h; rfl) | (obtain ⟨_, _, _, _, _, _, _, _, _, _, _, _, rfl, _⟩ := h; rfl) | (obtain ⟨_, _, _, _, _, _, _, _, _, _, _, _, _, rfl, _⟩ := h; rfl) | (obtain ⟨_, _, _, _, _, _, _, _, _, _, _, _, _, _, rfl, _⟩ := h; rfl) | (obtain ⟨_, _, _, _, _, _, _, _, _, _, _, _, _, _, _, rfl, _⟩ := h; rfl)))
  · have hu := hu_of hr
    exact pss_one (ps_ret (pe_callB (call_sortD rfl) (by rfl) T.m_sorted (by decide +kernel) (pa_cons (pe_fld (pv 0) (by rfl)) (pa_nil))))
  · exact pure_walkers ⟨T.cl_Chain, T.na_Chain_hands, T.na_Chain_links, T.na_Chain_made, T.na_Chain_era, T.na_Chain_inside, T.na_Chain_at, T.na_Chain_waits, T.cl_Link, T.na_Link_key, T.na_Link_after⟩ h
set_option maxHeartbeats 8000000 in
theorem ok_law (T : Txt K mg D) : FnOk P w K mg base CX0 8 D.f_law D.d_law ["script"] (sp_law K) := by
  have G__law_town : FnOk P w K mg base CX0 1 D.f__law_town D.d__law_town ["script"] (sp__law_town K) := ok__law_town T
  have G__law_draw : FnOk P w K mg base CX0 1 D.f__law_draw D.d__law_draw ["town", "many"] (sp__law_draw) := ok__law_draw T
  have G_mk_Chain : FnOk P w K mg base CX0 3 D.f_Chain_init D.d_Chain_init ["self", "hands"] (sp_chinit D.c_Chain D.c_Link) := ok_mk_Chain T
  have G_Chain__Chain_put : FnOk P w K mg base CX0 4 D.f_Chain_put D.d_Chain_put ["self", "key"] (sp_chput D.c_Chain D.c_Link) := ok_Chain__Chain_put T
  have G_Chain__Chain_start : FnOk P w K mg base CX0 3 D.f_Chain_start D.d_Chain_start ["self", "hand"] (sp_chstart D.c_Chain D.c_Link) := ok_Chain__Chain_start T
  have G_Chain__Chain_step : FnOk P w K mg base CX0 5 D.f_Chain_step D.d_Chain_step ["self", "hand"] (sp_chstep D.c_Chain D.c_Link) := ok_Chain__Chain_step T
  have G__law_odd : FnOk P w K mg base CX0 3 D.f__law_odd D.d__law_odd ["town", "most"] (sp__law_odd) := ok__law_odd T
  have G__law_asked : FnOk P w K mg base CX0 7 D.f__law_asked D.d__law_asked ["chain", "kind", "what"] (sp__law_asked D.c_Chain D.c_Link (Exs.mk D.c_BadNumber D.c_NoHand D.c_NoCell D.c_NoMark D.c_IsIn D.c_NotIn D.c_NotHeld D.c_Gone D.c_BadPairs D.c_NotNow D.c_StoreError)) := ok__law_asked T
  have G__law_pick : FnOk P w K mg base CX0 2 D.f__law_pick D.d__law_pick ["town", "some"] (sp__law_pick) := ok__law_pick T
  have G_Chain__Chain_keys_in : FnOk P w K mg base CX0 1 D.f_Chain_keys_in D.d_Chain_keys_in ["self"] (sp_keys_in D.c_Chain D.c_Link) := ok_Chain__Chain_keys_in T
  have G_Chain__Chain_walkers : FnOk P w K mg base CX0 1 D.f_Chain_walkers D.d_Chain_walkers ["self"] (sp_walkers D.c_Chain D.c_Link) := ok_Chain__Chain_walkers T
  refine T.F_law.ok sc_law (fun vs H Q E h => ?_) (fun cdv A outer s H vs Q E hr h => ⟨t_law K D.c_Chain (sp__law_town K) (sp__law_draw) (sp_chinit D.c_Chain D.c_Link) (sp_chput D.c_Chain D.c_Link) (sp_chstart D.c_Chain D.c_Link) (sp_chstep D.c_Chain D.c_Link) (sp__law_odd) (sp__law_asked D.c_Chain D.c_Link (Exs.mk D.c_BadNumber D.c_NoHand D.c_NoCell D.c_NoMark D.c_IsIn D.c_NotIn D.c_NotHeld D.c_Gone D.c_BadPairs D.c_NotNow D.c_StoreError)) (sp__law_pick) (sp_keys_in D.c_Chain D.c_Link) (sp_walkers D.c_Chain D.c_Link), ?_, ?_⟩)
  · first | (obtain ⟨_, rfl, _⟩ := h; rfl; done) | (obtain ⟨_, _, rfl, _⟩ := h; rfl; done) | (obtain ⟨_, _, _, rfl, _⟩ := h; rfl; done) | (obtain ⟨_, _, _, _, rfl, _⟩ := h; rfl; done) | (obtain ⟨_, _, _, _, _, rfl, _⟩ := h; rfl; done) | (obtain ⟨_, _, _, _, _, _, rfl, _⟩ := h; rfl; done) | (obtain ⟨_, _, _, _, _, _, _, rfl, _⟩ := h; rfl; done) | (obtain ⟨_, _, _, _, _, _, _, _, rfl, _⟩ := h; rfl; done) | (obtain ⟨_, _, _, _, _, _, _, _, _, rfl, _⟩ := h; rfl; done) | (obtain ⟨_, _, _, _, _, _, _, _, _, _, rfl, _⟩ := h; rfl; done) | (obtain ⟨_, _, _, _, _, _, _, _, _, _, _, rfl, _⟩ := h; rfl; done) | (obtain ⟨_, _, _, _, _, _, _, _, _, _, _, _, rfl, _⟩ := h; rfl; done) | (obtain ⟨_, _, _, _, _, _, _, _, _, _, _, _, _, rfl, _⟩ := h; rfl; done) | (obtain ⟨_, _, _, _, _, _, _, _, _, _, _, _, _, _, rfl, _⟩ := h; rfl; done) | (obtain ⟨_, _, _, _, _, _, _, _, _, _, _, _, _, _, _, rfl, _⟩ := h; rfl; done) | ((rcases h with h | h) <;> (first | (obtain ⟨_, rfl, _⟩ := h; rfl) | (obtain ⟨_, _, rfl, _⟩ := h; rfl) | (obtain ⟨_, _, _, rfl, _⟩ := h; rfl) | (obtain ⟨_, _, _, _, rfl, _⟩ := h; rfl) | (obtain ⟨_, _, _, _, _, rfl, _⟩ := h; rfl) | (obtain ⟨_, _, _, _, _, _, rfl, _⟩ := h; rfl) | (obtain ⟨_, _, _, _, _, _, _, rfl, _⟩ := h; rfl) | (obtain ⟨_, _, _, _, _, _, _, _, rfl, _⟩ := h; rfl) | (obtain ⟨_, _, _, _, _, _, _, _, _, rfl, _⟩ := h; rfl) | (obtain ⟨_, _, _, _, _, _, _, _, _, _, rfl, _⟩ := h; rfl) | (obtain ⟨_, _, _, _, _, _, _, _, _, _, _, rfl, _⟩ := h; rfl) | (obtain ⟨_, _, _, _, _, _, _, _, _, _, _, _, rfl, _⟩ := h; rfl) | (obtain ⟨_, _, _, _, _, _, _, _, _, _, _, _, _, rfl, _⟩ := h; rfl) | (obtain ⟨_, _, _, _, _, _, _, _, _, _, _, _, _, _, rfl, _⟩ := h; rfl) | (obtain ⟨_, _, _, _, _, _, _, _, _, _, _, _, _, _, _, rfl, _⟩ := h; rfl)))
  · have hu := hu_of hr
    exact pss_cons (ps_set (i := 1) sc_law.nd rfl (by first | exact Or.inl rfl | exact Or.inr rfl) (pe_call G__law_town (hr.mono (by decide)) (by rfl) T.g__law_town T.F__law_town.kp T.b__law_town .nil pass0 (pa_cons (pv 0) (pa_nil))))
      (pss_cons (ps_set (i := 2) sc_law.nd rfl (by first | exact Or.inl rfl | exact Or.inr rfl) (pe_op op_addI (pe_int) (pe_call G__law_draw (hr.mono (by decide)) (by rfl) T.g__law_draw T.F__law_draw.kp T.b__law_draw .nil pass0 (pa_cons (pv 1) (pa_cons (pe_int) (pa_nil))))))
      (pss_cons (ps_set (i := 3) sc_law.nd rfl (by first | exact Or.inl rfl | exact Or.inr rfl) (pe_make T.mk_Chain G_mk_Chain (hr.mono (by decide)) (by rfl) T.g_Chain T.b_Chain_init .nil pass0 (pa_cons (pv 2) (pa_nil))))
      (pss_cons (ps_set (i := 4) sc_law.nd rfl (by first | exact Or.inl rfl | exact Or.inr rfl) (pe_call G__law_draw (hr.mono (by decide)) (by rfl) T.g__law_draw T.F__law_draw.kp T.b__law_draw .nil pass0 (pa_cons (pv 1) (pa_cons (pv 2) (pa_nil)))))
      (pss_cons (ps_set (i := 5) sc_law.nd rfl (by first | exact Or.inl rfl | exact Or.inr rfl) (pe_op op_modI (pe_op op_addI (pv 4) (pe_int)) (pv 2)))
      (pss_cons (ps_set (i := 6) sc_law.nd rfl (by first | exact Or.inl rfl | exact Or.inr rfl) (pe_sset rfl (by rfl) T.m_sorted (by rfl) T.m_set (pa_cons (pe_lc (own := [("k", 7)]) (by rfl) sc_law.nd (pi_range1 (by rfl) T.m_range (pa_cons (pe_int) (pa_nil))) (blkOk_by (own := [("k", 7)]) (N := ["script", "town", "hands", "chain", "hand", "other", "keys", "k", "key", "first", "turn", "odd", "kind", "rest"]) (sc := defScope s_law) (by decide +kernel)) (fun _ _ _ _ _ => pg_name (i := 7) sc_law.nd rfl (by first | exact Or.inl rfl | exact Or.inr rfl)) (fun _ _ _ _ _ => pts_nil) (fun _ _ _ _ _ => pe_call G__law_draw (hr.mono (by decide)) (by rfl) T.g__law_draw T.F__law_draw.kp T.b__law_draw .nil pass0 (pa_cons (pv 1) (pa_cons (pe_int) (pa_nil))))) (pa_nil))))
      (pss_cons (ps_for PassesOwn.never rfl (pi_list (pv 6)) (pg_name (i := 8) sc_law.nd rfl (by first | exact Or.inl rfl | exact Or.inr rfl)) (pss_one (ps_expr (pe_meth (pv 3) T.cl_Chain T.me_Chain_put G_Chain__Chain_put (hr.mono (by decide)) T.b_Chain_put .nil pass0 (pa_cons (pv 8) (pa_nil))))))
      (pss_cons (ps_expr (pe_meth (pv 3) T.cl_Chain T.me_Chain_start G_Chain__Chain_start (hr.mono (by decide)) T.b_Chain_start .nil pass0 (pa_cons (pv 4) (pa_nil))))
      (pss_cons (ps_set (i := 9) sc_law.nd rfl (by first | exact Or.inl rfl | exact Or.inr rfl) (pe_meth (pv 3) T.cl_Chain T.me_Chain_step G_Chain__Chain_step (hr.mono (by decide)) T.b_Chain_step .nil pass0 (pa_cons (pv 4) (pa_nil))))
      (pss_cons (ps_for PassesOwn.never rfl (pi_range1 (by rfl) T.m_range (pa_cons (pe_int) (pa_nil))) (pg_name (i := 10) sc_law.nd rfl (by first | exact Or.inl rfl | exact Or.inr rfl)) (pss_cons (ps_set (i := 11) sc_law.nd rfl (by first | exact Or.inl rfl | exact Or.inr rfl) (pe_call G__law_odd (hr.mono (by decide)) (by rfl) T.g__law_odd T.F__law_odd.kp T.b__law_odd .nil pass0 (pa_cons (pv 1) (pa_cons (pe_int) (pa_nil)))))
      (pss_cons (ps_if (pt_cmpR (op_neD hr.units) (pe_lc (own := [("kind", 12)]) (by rfl) sc_law.nd (pi_range1 (by rfl) T.m_range (pa_cons (pe_int) (pa_nil))) (blkOk_by (own := [("kind", 12)]) (N := ["script", "town", "hands", "chain", "hand", "other", "keys", "k", "key", "first", "turn", "odd", "kind", "rest"]) (sc := defScope s_law) (by decide +kernel)) (fun _ _ _ _ _ => pg_name (i := 12) sc_law.nd rfl (by first | exact Or.inl rfl | exact Or.inr rfl)) (fun _ _ _ _ _ => pts_nil) (fun _ _ _ _ _ => pe_call G__law_asked (hr.mono (by decide)) (by rfl) T.g__law_asked T.F__law_asked.kp T.b__law_asked .nil pass0 (pa_cons (pv 3) (pa_cons (pv 12) (pa_cons (pv 11) (pa_nil)))))) (pe_op op_rep (pe_lst (pa_cons (pe_str) (pa_nil))) (pe_int)) (nomark _)) (pss_one (ps_ret (pe_bl))) (pss_nil))
      (pss_cons (ps_if (pt_cmpR op_ne (pe_call G__law_asked (hr.mono (by decide)) (by rfl) T.g__law_asked T.F__law_asked.kp T.b__law_asked .nil pass0 (pa_cons (pv 3) (pa_cons (pe_int) (pa_cons (pe_call G__law_pick (hr.mono (by decide)) (by rfl) T.g__law_pick T.F__law_pick.kp T.b__law_pick .nil pass0 (pa_cons (pv 1) (pa_cons (pe_lst (pa_cons (pe_int) (pa_cons (pe_int) (pa_cons (pe_op op_subI (pe_int) (pe_int)) (pa_cons (pe_bl) (pa_cons (pe_non) (pa_cons (pe_str) (pa_cons (pe_lst (pa_cons (pe_int) (pa_nil))) (pa_nil))))))))) (pa_nil)))) (pa_nil))))) (pe_str) (nomark _)) (pss_one (ps_ret (pe_bl))) (pss_nil))
      (pss_cons (ps_set (i := 11) sc_law.nd rfl (by first | exact Or.inl rfl | exact Or.inr rfl) (pe_call G__law_odd (hr.mono (by decide)) (by rfl) T.g__law_odd T.F__law_odd.kp T.b__law_odd .nil pass0 (pa_cons (pv 1) (pa_cons (pv 2) (pa_nil)))))
      (pss_cons (ps_if (pt_cmpR (op_neD hr.units) (pe_lc (own := [("kind", 12)]) (by rfl) sc_law.nd (pi_list (pe_lst (pa_cons (pe_int) (pa_cons (pe_int) (pa_cons (pe_int) (pa_nil)))))) (blkOk_by (own := [("kind", 12)]) (N := ["script", "town", "hands", "chain", "hand", "other", "keys", "k", "key", "first", "turn", "odd", "kind", "rest"]) (sc := defScope s_law) (by decide +kernel)) (fun _ _ _ _ _ => pg_name (i := 12) sc_law.nd rfl (by first | exact Or.inl rfl | exact Or.inr rfl)) (fun _ _ _ _ _ => pts_nil) (fun _ _ _ _ _ => pe_call G__law_asked (hr.mono (by decide)) (by rfl) T.g__law_asked T.F__law_asked.kp T.b__law_asked .nil pass0 (pa_cons (pv 3) (pa_cons (pv 12) (pa_cons (pv 11) (pa_nil)))))) (pe_op op_rep (pe_lst (pa_cons (pe_str) (pa_nil))) (pe_int)) (nomark _)) (pss_one (ps_ret (pe_bl))) (pss_nil))
      (pss_one (ps_if (PW.pt (pw_or (pt_cmpR (op_neD hr.units) (pe_lc (own := [("kind", 12)]) (by rfl) sc_law.nd (pi_list (pe_lst (pa_cons (pe_int) (pa_cons (pe_int) (pa_nil))))) (blkOk_by (own := [("kind", 12)]) (N := ["script", "town", "hands", "chain", "hand", "other", "keys", "k", "key", "first", "turn", "odd", "kind", "rest"]) (sc := defScope s_law) (by decide +kernel)) (fun _ _ _ _ _ => pg_name (i := 12) sc_law.nd rfl (by first | exact Or.inl rfl | exact Or.inr rfl)) (fun _ _ _ _ _ => pts_nil) (fun _ _ _ _ _ => pe_call G__law_asked (hr.mono (by decide)) (by rfl) T.g__law_asked T.F__law_asked.kp T.b__law_asked .nil pass0 (pa_cons (pv 3) (pa_cons (pv 12) (pa_cons (pv 5) (pa_nil)))))) (pe_op op_rep (pe_lst (pa_cons (pe_str) (pa_nil))) (pe_int)) (nomark _)) (pw_or1 (pt_cmpR op_ne (pe_call G__law_asked (hr.mono (by decide)) (by rfl) T.g__law_asked T.F__law_asked.kp T.b__law_asked .nil pass0 (pa_cons (pv 3) (pa_cons (pe_int) (pa_cons (pv 4) (pa_nil))))) (pe_str) (nomark _))))) (pss_one (ps_ret (pe_bl))) (pss_nil)))))))))
      (pss_cons (ps_if (PW.pt (pw_or (pt_cmpR (op_neD hr.units) (pe_meth0 (pv 3) T.cl_Chain T.me_Chain_keys_in G_Chain__Chain_keys_in (hr.mono (by decide)) T.b_Chain_keys_in .nil pass0) (pv 6) (nomark _)) (pw_or (pt_cmpR (op_neD hr.units) (pe_meth0 (pv 3) T.cl_Chain T.me_Chain_walkers G_Chain__Chain_walkers (hr.mono (by decide)) T.b_Chain_walkers .nil pass0) (pe_lst (pa_cons (pv 4) (pa_nil))) (nomark _)) (pw_or1 (pt_cmpR op_ne (pv 9) (pe_ix ix_list (pv 6) (pe_int) (fun _ _ => rfl)) (nomark _)))))) (pss_one (ps_ret (pe_bl))) (pss_nil))
      (pss_cons (ps_setLc (i := 13) (own := [("key", 8)]) (by rfl) sc_law.nd rfl rfl (sw_true rfl rfl rfl (by decide +kernel)) (pi_list (pv 6)) (blkOk_by (own := [("key", 8)]) (N := ["script", "town", "hands", "chain", "hand", "other", "keys", "k", "key", "first", "turn", "odd", "kind", "rest"]) (sc := defScope s_law) (by decide +kernel)) (fun _ _ _ _ _ => pg_name (i := 8) sc_law.nd rfl (by first | exact Or.inl rfl | exact Or.inr rfl)) (fun _ _ _ _ _ => pts_nil) (fun _ _ _ _ _ => pe_meth (pv 3) T.cl_Chain T.me_Chain_step G_Chain__Chain_step (hr.mono (by decide)) T.b_Chain_step .nil pass0 (pa_cons (pv 4) (pa_nil))))
      (pss_cons (ps_if (PW.pt (pw_or (pt_cmpR (op_neD hr.units) (pv 13) (pe_op op_cat (pe_slice sl_list (pv 6) (po_some (pe_int)) (po_none)) (pe_lst (pa_cons (pe_non) (pa_nil)))) (nomark _)) (pw_or (pt_cmpR (op_neD hr.units) (pe_meth0 (pv 3) T.cl_Chain T.me_Chain_walkers G_Chain__Chain_walkers (hr.mono (by decide)) T.b_Chain_walkers .nil pass0) (pe_lst (pa_nil)) (nomark _)) (pw_or1 (pt_cmpR op_ne (pe_call G__law_asked (hr.mono (by decide)) (by rfl) T.g__law_asked T.F__law_asked.kp T.b__law_asked .nil pass0 (pa_cons (pv 3) (pa_cons (pe_int) (pa_cons (pv 4) (pa_nil))))) (pe_str) (nomark _)))))) (pss_one (ps_ret (pe_bl))) (pss_nil))
      (pss_one (ps_ret (pe_and (pe_cmpR op_eq (pe_call G__law_asked (hr.mono (by decide)) (by rfl) T.g__law_asked T.F__law_asked.kp T.b__law_asked .nil pass0 (pa_cons (pv 3) (pa_cons (pe_int) (pa_cons (pv 4) (pa_nil))))) (pe_str) (nomark _)) (pe_one (pe_cmpR op_eq (pe_call G__law_asked (hr.mono (by decide)) (by rfl) T.g__law_asked T.F__law_asked.kp T.b__law_asked .nil pass0 (pa_cons (pv 3) (pa_cons (pe_int) (pa_cons (pv 4) (pa_nil))))) (pe_str) (nomark _))))))))))))))))))
  · exact pure_law h
end
theorem all_mk {l : PySem.W.OpenLaw} {w : World} {K : PySem.W.Frag} {h : Heap} {mg : Str → Option Value} {fa c_Link c_Chain c_BadNumber c_NoHand c_IsIn c_NotIn c_NoCell c_NoMark c_BadPairs c_Gone c_NotHeld c_NotNow c_StoreError f__law_town f__law_draw f_is_whole f_look_number f_Link_init f_Chain_init f_Chain_place_of f_Chain_has f_Chain_put f_Chain_look_hand f_Chain_start f_Chain_look_in f_Chain_stop f_Chain_step f__law_pick f__law_odd f_Chain_take_out f__law_did f__law_refusal f__law_asked f_Chain_keys_in f_Chain_walkers f_law : Addr} (X : K.In h) (G : h.Ns mainGlobals mg) (hfa : mg "law" = some (.ref fa))
    {od__law_town an__law_town od__law_draw an__law_draw od_is_whole an_is_whole od_look_number an_look_number od_Link_init an_Link_init od_Chain_init an_Chain_init od_Chain_place_of an_Chain_place_of od_Chain_has an_Chain_has od_Chain_put an_Chain_put od_Chain_look_hand an_Chain_look_hand od_Chain_start an_Chain_start od_Chain_look_in an_Chain_look_in od_Chain_stop an_Chain_stop od_Chain_step an_Chain_step od__law_pick an__law_pick od__law_odd an__law_odd od_Chain_take_out an_Chain_take_out od__law_did an__law_did od__law_refusal an__law_refusal od__law_asked an__law_asked od_Chain_keys_in an_Chain_keys_in od_Chain_walkers an_Chain_walkers od_law an_law : Option Addr} {sl__law_town sl__law_draw sl_is_whole sl_look_number sl_Link_init sl_Chain_init sl_Chain_place_of sl_Chain_has sl_Chain_put sl_Chain_look_hand sl_Chain_start sl_Chain_look_in sl_Chain_stop sl_Chain_step sl__law_pick sl__law_odd sl_Chain_take_out sl__law_did sl__law_refusal sl__law_asked sl_Chain_keys_in sl_Chain_walkers sl_law : Array (Option Value)} {oc__law_town kV__law_town dc__law_town pm__law_town cd__law_town ct__law_town oc__law_draw kV__law_draw dc__law_draw pm__law_draw cd__law_draw ct__law_draw oc_is_whole kV_is_whole dc_is_whole pm_is_whole cd_is_whole ct_is_whole oc_look_number kV_look_number dc_look_number pm_look_number cd_look_number ct_look_number oc_Link_init kV_Link_init dc_Link_init pm_Link_init cd_Link_init ct_Link_init oc_Chain_init kV_Chain_init dc_Chain_init pm_Chain_init cd_Chain_init ct_Chain_init oc_Chain_place_of kV_Chain_place_of dc_Chain_place_of pm_Chain_place_of cd_Chain_place_of ct_Chain_place_of oc_Chain_has kV_Chain_has dc_Chain_has pm_Chain_has cd_Chain_has ct_Chain_has oc_Chain_put kV_Chain_put dc_Chain_put pm_Chain_put cd_Chain_put ct_Chain_put oc_Chain_look_hand kV_Chain_look_hand dc_Chain_look_hand pm_Chain_look_hand cd_Chain_look_hand ct_Chain_look_hand oc_Chain_start kV_Chain_start dc_Chain_start pm_Chain_start cd_Chain_start ct_Chain_start oc_Chain_look_in kV_Chain_look_in dc_Chain_look_in pm_Chain_look_in cd_Chain_look_in ct_Chain_look_in oc_Chain_stop kV_Chain_stop dc_Chain_stop pm_Chain_stop cd_Chain_stop ct_Chain_stop oc_Chain_step kV_Chain_step dc_Chain_step pm_Chain_step cd_Chain_step ct_Chain_step oc__law_pick kV__law_pick dc__law_pick pm__law_pick cd__law_pick ct__law_pick oc__law_odd kV__law_odd dc__law_odd pm__law_odd cd__law_odd ct__law_odd oc_Chain_take_out kV_Chain_take_out dc_Chain_take_out pm_Chain_take_out cd_Chain_take_out ct_Chain_take_out oc__law_did kV__law_did dc__law_did pm__law_did cd__law_did ct__law_did oc__law_refusal kV__law_refusal dc__law_refusal pm__law_refusal cd__law_refusal ct__law_refusal oc__law_asked kV__law_asked dc__law_asked pm__law_asked cd__law_asked ct__law_asked oc_Chain_keys_in kV_Chain_keys_in dc_Chain_keys_in pm_Chain_keys_in cd_Chain_keys_in ct_Chain_keys_in oc_Chain_walkers kV_Chain_walkers dc_Chain_walkers pm_Chain_walkers cd_Chain_walkers ct_Chain_walkers oc_law kV_law dc_law pm_law cd_law ct_law : Value}
    {t_END t_MOST_HANDS t_MOST_KEY : Tok}
    (aC_Link : PySem.W.nsIn K mainGlobals "Link" = some (some (.ref c_Link)))
    (aC_Chain : PySem.W.nsIn K mainGlobals "Chain" = some (some (.ref c_Chain)))
    (aC_BadNumber : PySem.W.nsIn K mainGlobals "BadNumber" = some (some (.ref c_BadNumber)))
    (aC_NoHand : PySem.W.nsIn K mainGlobals "NoHand" = some (some (.ref c_NoHand)))
    (aC_IsIn : PySem.W.nsIn K mainGlobals "IsIn" = some (some (.ref c_IsIn)))
    (aC_NotIn : PySem.W.nsIn K mainGlobals "NotIn" = some (some (.ref c_NotIn)))
    (aC_NoCell : PySem.W.nsIn K mainGlobals "NoCell" = some (some (.ref c_NoCell)))
    (aC_NoMark : PySem.W.nsIn K mainGlobals "NoMark" = some (some (.ref c_NoMark)))
    (aC_BadPairs : PySem.W.nsIn K mainGlobals "BadPairs" = some (some (.ref c_BadPairs)))
    (aC_Gone : PySem.W.nsIn K mainGlobals "Gone" = some (some (.ref c_Gone)))
    (aC_NotHeld : PySem.W.nsIn K mainGlobals "NotHeld" = some (some (.ref c_NotHeld)))
    (aC_NotNow : PySem.W.nsIn K mainGlobals "NotNow" = some (some (.ref c_NotNow)))
    (aC_StoreError : PySem.W.nsIn K mainGlobals "StoreError" = some (some (.ref c_StoreError)))
    (pg_Link : PySem.W.plainGet K c_Link Str.empty = true)
    (hd_Link : PySem.W.hasDictIn K c_Link = true)
    (po_Link : PySem.W.plainOver K c_Link = true)
    (sa_Link : PySem.W.findIn K (.ref c_Link) "__setattr__" = some (some (.builtin "object.__setattr__")))
    (mk_Link : PySem.W.makesIn K c_Link = true)
    (kc_Link : PySem.W.keepIn K (.ref c_Link) = true)
    (ai_Link : PySem.W.findIn K (.ref c_Link) "__init__" = some (some (.ref f_Link_init)))
    (ii_Link : PySem.W.isFn K (.ref f_Link_init) = true)
    (na_Link_key : PySem.W.findIn K (.ref c_Link) "key" = some none)
    (na_Link_after : PySem.W.findIn K (.ref c_Link) "after" = some none)
    (pg_Chain : PySem.W.plainGet K c_Chain Str.empty = true)
    (hd_Chain : PySem.W.hasDictIn K c_Chain = true)
    (po_Chain : PySem.W.plainOver K c_Chain = true)
    (sa_Chain : PySem.W.findIn K (.ref c_Chain) "__setattr__" = some (some (.builtin "object.__setattr__")))
    (mk_Chain : PySem.W.makesIn K c_Chain = true)
    (kc_Chain : PySem.W.keepIn K (.ref c_Chain) = true)
    (ai_Chain : PySem.W.findIn K (.ref c_Chain) "__init__" = some (some (.ref f_Chain_init)))
    (ii_Chain : PySem.W.isFn K (.ref f_Chain_init) = true)
    (na_Chain_hands : PySem.W.findIn K (.ref c_Chain) "hands" = some none)
    (na_Chain_links : PySem.W.findIn K (.ref c_Chain) "links" = some none)
    (na_Chain_made : PySem.W.findIn K (.ref c_Chain) "made" = some none)
    (na_Chain_era : PySem.W.findIn K (.ref c_Chain) "era" = some none)
    (na_Chain_inside : PySem.W.findIn K (.ref c_Chain) "inside" = some none)
    (na_Chain_at : PySem.W.findIn K (.ref c_Chain) "at" = some none)
    (na_Chain_waits : PySem.W.findIn K (.ref c_Chain) "waits" = some none)
    (xi_BadNumber : PySem.W.excIn K c_BadNumber [.type "ValueError", .type "Exception", .type "BaseException", .type "object"] "ValueError.__new__" = true)
    (kp_BadNumber : PySem.W.keepIn K (.ref c_BadNumber) = true)
    (sb_BadNumber : PySem.W.subIn K (.ref c_BadNumber) (.type "BaseException") = some true)
    (ty_BadNumber : PySem.W.typeIn K (.ref c_BadNumber) = some (.type "type"))
    (em_BadNumber : PySem.W.exmOne K (.ref c_BadNumber) (.ref c_StoreError) = some true)
    (e1_BadNumber : PySem.W.findIn K (.ref c_BadNumber) "__getattribute__" = some (some (.builtin "BaseException.__getattribute__")))
    (e2_BadNumber : PySem.W.findIn K (.ref c_BadNumber) "__getattr__" = some none)
    (e4_BadNumber : PySem.W.hasDictIn K c_BadNumber = true)
    (e5_BadNumber : PySem.W.findIn K (.ref c_BadNumber) "__class__" = some (some (.builtin "object.__class__")))
    (e6_BadNumber : PySem.W.specialIn K (.builtin "object.__class__") "__get__" = some (some (.builtin "getset_descriptor.__get__")))
    (e7_BadNumber : PySem.W.takesIn K (.builtin "object.__class__") = some true)
    (e8_BadNumber : PySem.W.mroIn K c_BadNumber (.type "object") = some true)
    (ki_BadNumber_BadNumber : PySem.W.kitOne K (.ref c_BadNumber) (.ref c_BadNumber) = some true)
    (ki_BadNumber_NoHand : PySem.W.kitOne K (.ref c_BadNumber) (.ref c_NoHand) = some false)
    (ki_BadNumber_NoCell : PySem.W.kitOne K (.ref c_BadNumber) (.ref c_NoCell) = some false)
    (ki_BadNumber_NoMark : PySem.W.kitOne K (.ref c_BadNumber) (.ref c_NoMark) = some false)
    (ki_BadNumber_IsIn : PySem.W.kitOne K (.ref c_BadNumber) (.ref c_IsIn) = some false)
    (ki_BadNumber_NotIn : PySem.W.kitOne K (.ref c_BadNumber) (.ref c_NotIn) = some false)
    (ki_BadNumber_NotHeld : PySem.W.kitOne K (.ref c_BadNumber) (.ref c_NotHeld) = some false)
    (ki_BadNumber_Gone : PySem.W.kitOne K (.ref c_BadNumber) (.ref c_Gone) = some false)
    (ki_BadNumber_BadPairs : PySem.W.kitOne K (.ref c_BadNumber) (.ref c_BadPairs) = some false)
    (ki_BadNumber_NotNow : PySem.W.kitOne K (.ref c_BadNumber) (.ref c_NotNow) = some false)
    (ki_BadNumber_StoreError : PySem.W.kitOne K (.ref c_BadNumber) (.ref c_StoreError) = some true)
    (kv_BadNumber : PySem.W.kitOne K (.ref c_BadNumber) (.type "ValueError") = some true)
    (xi_NoHand : PySem.W.excIn K c_NoHand [.type "ValueError", .type "Exception", .type "BaseException", .type "object"] "ValueError.__new__" = true)
    (kp_NoHand : PySem.W.keepIn K (.ref c_NoHand) = true)
    (sb_NoHand : PySem.W.subIn K (.ref c_NoHand) (.type "BaseException") = some true)
    (ty_NoHand : PySem.W.typeIn K (.ref c_NoHand) = some (.type "type"))
    (em_NoHand : PySem.W.exmOne K (.ref c_NoHand) (.ref c_StoreError) = some true)
    (e1_NoHand : PySem.W.findIn K (.ref c_NoHand) "__getattribute__" = some (some (.builtin "BaseException.__getattribute__")))
    (e2_NoHand : PySem.W.findIn K (.ref c_NoHand) "__getattr__" = some none)
    (e4_NoHand : PySem.W.hasDictIn K c_NoHand = true)
    (e5_NoHand : PySem.W.findIn K (.ref c_NoHand) "__class__" = some (some (.builtin "object.__class__")))
    (e6_NoHand : PySem.W.specialIn K (.builtin "object.__class__") "__get__" = some (some (.builtin "getset_descriptor.__get__")))
    (e7_NoHand : PySem.W.takesIn K (.builtin "object.__class__") = some true)
    (e8_NoHand : PySem.W.mroIn K c_NoHand (.type "object") = some true)
    (ki_NoHand_BadNumber : PySem.W.kitOne K (.ref c_NoHand) (.ref c_BadNumber) = some false)
    (ki_NoHand_NoHand : PySem.W.kitOne K (.ref c_NoHand) (.ref c_NoHand) = some true)
    (ki_NoHand_NoCell : PySem.W.kitOne K (.ref c_NoHand) (.ref c_NoCell) = some false)
    (ki_NoHand_NoMark : PySem.W.kitOne K (.ref c_NoHand) (.ref c_NoMark) = some false)
    (ki_NoHand_IsIn : PySem.W.kitOne K (.ref c_NoHand) (.ref c_IsIn) = some false)
    (ki_NoHand_NotIn : PySem.W.kitOne K (.ref c_NoHand) (.ref c_NotIn) = some false)
    (ki_NoHand_NotHeld : PySem.W.kitOne K (.ref c_NoHand) (.ref c_NotHeld) = some false)
    (ki_NoHand_Gone : PySem.W.kitOne K (.ref c_NoHand) (.ref c_Gone) = some false)
    (ki_NoHand_BadPairs : PySem.W.kitOne K (.ref c_NoHand) (.ref c_BadPairs) = some false)
    (ki_NoHand_NotNow : PySem.W.kitOne K (.ref c_NoHand) (.ref c_NotNow) = some false)
    (ki_NoHand_StoreError : PySem.W.kitOne K (.ref c_NoHand) (.ref c_StoreError) = some true)
    (kv_NoHand : PySem.W.kitOne K (.ref c_NoHand) (.type "ValueError") = some true)
    (xi_IsIn : PySem.W.excIn K c_IsIn [.type "ValueError", .type "Exception", .type "BaseException", .type "object"] "ValueError.__new__" = true)
    (kp_IsIn : PySem.W.keepIn K (.ref c_IsIn) = true)
    (sb_IsIn : PySem.W.subIn K (.ref c_IsIn) (.type "BaseException") = some true)
    (ty_IsIn : PySem.W.typeIn K (.ref c_IsIn) = some (.type "type"))
    (em_IsIn : PySem.W.exmOne K (.ref c_IsIn) (.ref c_StoreError) = some true)
    (e1_IsIn : PySem.W.findIn K (.ref c_IsIn) "__getattribute__" = some (some (.builtin "BaseException.__getattribute__")))
    (e2_IsIn : PySem.W.findIn K (.ref c_IsIn) "__getattr__" = some none)
    (e4_IsIn : PySem.W.hasDictIn K c_IsIn = true)
    (e5_IsIn : PySem.W.findIn K (.ref c_IsIn) "__class__" = some (some (.builtin "object.__class__")))
    (e6_IsIn : PySem.W.specialIn K (.builtin "object.__class__") "__get__" = some (some (.builtin "getset_descriptor.__get__")))
    (e7_IsIn : PySem.W.takesIn K (.builtin "object.__class__") = some true)
    (e8_IsIn : PySem.W.mroIn K c_IsIn (.type "object") = some true)
    (ki_IsIn_BadNumber : PySem.W.kitOne K (.ref c_IsIn) (.ref c_BadNumber) = some false)
    (ki_IsIn_NoHand : PySem.W.kitOne K (.ref c_IsIn) (.ref c_NoHand) = some false)
    (ki_IsIn_NoCell : PySem.W.kitOne K (.ref c_IsIn) (.ref c_NoCell) = some false)
    (ki_IsIn_NoMark : PySem.W.kitOne K (.ref c_IsIn) (.ref c_NoMark) = some false)
    (ki_IsIn_IsIn : PySem.W.kitOne K (.ref c_IsIn) (.ref c_IsIn) = some true)
    (ki_IsIn_NotIn : PySem.W.kitOne K (.ref c_IsIn) (.ref c_NotIn) = some false)
    (ki_IsIn_NotHeld : PySem.W.kitOne K (.ref c_IsIn) (.ref c_NotHeld) = some false)
    (ki_IsIn_Gone : PySem.W.kitOne K (.ref c_IsIn) (.ref c_Gone) = some false)
    (ki_IsIn_BadPairs : PySem.W.kitOne K (.ref c_IsIn) (.ref c_BadPairs) = some false)
    (ki_IsIn_NotNow : PySem.W.kitOne K (.ref c_IsIn) (.ref c_NotNow) = some false)
    (ki_IsIn_StoreError : PySem.W.kitOne K (.ref c_IsIn) (.ref c_StoreError) = some true)
    (kv_IsIn : PySem.W.kitOne K (.ref c_IsIn) (.type "ValueError") = some true)
    (xi_NotIn : PySem.W.excIn K c_NotIn [.type "ValueError", .type "Exception", .type "BaseException", .type "object"] "ValueError.__new__" = true)
    (kp_NotIn : PySem.W.keepIn K (.ref c_NotIn) = true)
    (sb_NotIn : PySem.W.subIn K (.ref c_NotIn) (.type "BaseException") = some true)
    (ty_NotIn : PySem.W.typeIn K (.ref c_NotIn) = some (.type "type"))
    (em_NotIn : PySem.W.exmOne K (.ref c_NotIn) (.ref c_StoreError) = some true)
    (e1_NotIn : PySem.W.findIn K (.ref c_NotIn) "__getattribute__" = some (some (.builtin "BaseException.__getattribute__")))
    (e2_NotIn : PySem.W.findIn K (.ref c_NotIn) "__getattr__" = some none)
    (e4_NotIn : PySem.W.hasDictIn K c_NotIn = true)
    (e5_NotIn : PySem.W.findIn K (.ref c_NotIn) "__class__" = some (some (.builtin "object.__class__")))
    (e6_NotIn : PySem.W.specialIn K (.builtin "object.__class__") "__get__" = some (some (.builtin "getset_descriptor.__get__")))
    (e7_NotIn : PySem.W.takesIn K (.builtin "object.__class__") = some true)
    (e8_NotIn : PySem.W.mroIn K c_NotIn (.type "object") = some true)
    (ki_NotIn_BadNumber : PySem.W.kitOne K (.ref c_NotIn) (.ref c_BadNumber) = some false)
    (ki_NotIn_NoHand : PySem.W.kitOne K (.ref c_NotIn) (.ref c_NoHand) = some false)
    (ki_NotIn_NoCell : PySem.W.kitOne K (.ref c_NotIn) (.ref c_NoCell) = some false)
    (ki_NotIn_NoMark : PySem.W.kitOne K (.ref c_NotIn) (.ref c_NoMark) = some false)
    (ki_NotIn_IsIn : PySem.W.kitOne K (.ref c_NotIn) (.ref c_IsIn) = some false)
    (ki_NotIn_NotIn : PySem.W.kitOne K (.ref c_NotIn) (.ref c_NotIn) = some true)
    (ki_NotIn_NotHeld : PySem.W.kitOne K (.ref c_NotIn) (.ref c_NotHeld) = some false)
    (ki_NotIn_Gone : PySem.W.kitOne K (.ref c_NotIn) (.ref c_Gone) = some false)
    (ki_NotIn_BadPairs : PySem.W.kitOne K (.ref c_NotIn) (.ref c_BadPairs) = some false)
    (ki_NotIn_NotNow : PySem.W.kitOne K (.ref c_NotIn) (.ref c_NotNow) = some false)
    (ki_NotIn_StoreError : PySem.W.kitOne K (.ref c_NotIn) (.ref c_StoreError) = some true)
    (kv_NotIn : PySem.W.kitOne K (.ref c_NotIn) (.type "ValueError") = some true)
    (am_Chain_place_of : PySem.W.findIn K (.ref c_Chain) "place_of" = some (some (.ref f_Chain_place_of)))
    (am_Chain_has : PySem.W.findIn K (.ref c_Chain) "has" = some (some (.ref f_Chain_has)))
    (am_Chain_put : PySem.W.findIn K (.ref c_Chain) "put" = some (some (.ref f_Chain_put)))
    (am_Chain_look_hand : PySem.W.findIn K (.ref c_Chain) "look_hand" = some (some (.ref f_Chain_look_hand)))
    (am_Chain_start : PySem.W.findIn K (.ref c_Chain) "start" = some (some (.ref f_Chain_start)))
    (am_Chain_look_in : PySem.W.findIn K (.ref c_Chain) "look_in" = some (some (.ref f_Chain_look_in)))
    (am_Chain_stop : PySem.W.findIn K (.ref c_Chain) "stop" = some (some (.ref f_Chain_stop)))
    (am_Chain_step : PySem.W.findIn K (.ref c_Chain) "step" = some (some (.ref f_Chain_step)))
    (am_Chain_take_out : PySem.W.findIn K (.ref c_Chain) "take_out" = some (some (.ref f_Chain_take_out)))
    (am_Chain_keys_in : PySem.W.findIn K (.ref c_Chain) "keys_in" = some (some (.ref f_Chain_keys_in)))
    (am_Chain_walkers : PySem.W.findIn K (.ref c_Chain) "walkers" = some (some (.ref f_Chain_walkers)))
    (im_Chain_place_of : PySem.W.isFn K (.ref f_Chain_place_of) = true)
    (im_Chain_has : PySem.W.isFn K (.ref f_Chain_has) = true)
    (im_Chain_put : PySem.W.isFn K (.ref f_Chain_put) = true)
    (im_Chain_look_hand : PySem.W.isFn K (.ref f_Chain_look_hand) = true)
    (im_Chain_start : PySem.W.isFn K (.ref f_Chain_start) = true)
    (im_Chain_look_in : PySem.W.isFn K (.ref f_Chain_look_in) = true)
    (im_Chain_stop : PySem.W.isFn K (.ref f_Chain_stop) = true)
    (im_Chain_step : PySem.W.isFn K (.ref f_Chain_step) = true)
    (im_Chain_take_out : PySem.W.isFn K (.ref f_Chain_take_out) = true)
    (im_Chain_keys_in : PySem.W.isFn K (.ref f_Chain_keys_in) = true)
    (im_Chain_walkers : PySem.W.isFn K (.ref f_Chain_walkers) = true)
    (a__law_town : PySem.W.nsIn K mainGlobals "_law_town" = some (some (.ref f__law_town)))
    (l__law_town : K.lookup f__law_town = some ⟨oc__law_town, od__law_town, .func (PySem.W.fnOf "_law_town" "_law_town" (defArgs s__law_town) (defBody s__law_town) (defScope s__law_town) .none kV__law_town dc__law_town pm__law_town an__law_town cd__law_town ct__law_town), sl__law_town⟩)
    (c__law_town : PySem.W.codeIn K cd__law_town "_law_town" = true)
    (k__law_town : PySem.W.keepIn K (.ref f__law_town) = true)
    (a__law_draw : PySem.W.nsIn K mainGlobals "_law_draw" = some (some (.ref f__law_draw)))
    (l__law_draw : K.lookup f__law_draw = some ⟨oc__law_draw, od__law_draw, .func (PySem.W.fnOf "_law_draw" "_law_draw" (defArgs s__law_draw) (defBody s__law_draw) (defScope s__law_draw) .none kV__law_draw dc__law_draw pm__law_draw an__law_draw cd__law_draw ct__law_draw), sl__law_draw⟩)
    (c__law_draw : PySem.W.codeIn K cd__law_draw "_law_draw" = true)
    (k__law_draw : PySem.W.keepIn K (.ref f__law_draw) = true)
    (a_is_whole : PySem.W.nsIn K mainGlobals "is_whole" = some (some (.ref f_is_whole)))
    (l_is_whole : K.lookup f_is_whole = some ⟨oc_is_whole, od_is_whole, .func (PySem.W.fnOf "is_whole" "is_whole" (defArgs s_is_whole) (defBody s_is_whole) (defScope s_is_whole) .none kV_is_whole dc_is_whole pm_is_whole an_is_whole cd_is_whole ct_is_whole), sl_is_whole⟩)
    (c_is_whole : PySem.W.codeIn K cd_is_whole "is_whole" = true)
    (k_is_whole : PySem.W.keepIn K (.ref f_is_whole) = true)
    (a_look_number : PySem.W.nsIn K mainGlobals "look_number" = some (some (.ref f_look_number)))
    (l_look_number : K.lookup f_look_number = some ⟨oc_look_number, od_look_number, .func (PySem.W.fnOf "look_number" "look_number" (defArgs s_look_number) (defBody s_look_number) (defScope s_look_number) .none kV_look_number dc_look_number pm_look_number an_look_number cd_look_number ct_look_number), sl_look_number⟩)
    (c_look_number : PySem.W.codeIn K cd_look_number "look_number" = true)
    (k_look_number : PySem.W.keepIn K (.ref f_look_number) = true)
    (l_Link_init : K.lookup f_Link_init = some ⟨oc_Link_init, od_Link_init, .func (PySem.W.fnOf "__init__" "Link.__init__" (defArgs s_Link_init) (defBody s_Link_init) (defScope s_Link_init) .none kV_Link_init dc_Link_init pm_Link_init an_Link_init cd_Link_init ct_Link_init), sl_Link_init⟩)
    (c_Link_init : PySem.W.codeIn K cd_Link_init "Link.__init__" = true)
    (k_Link_init : PySem.W.keepIn K (.ref f_Link_init) = true)
    (l_Chain_init : K.lookup f_Chain_init = some ⟨oc_Chain_init, od_Chain_init, .func (PySem.W.fnOf "__init__" "Chain.__init__" (defArgs s_Chain_init) (defBody s_Chain_init) (defScope s_Chain_init) .none kV_Chain_init dc_Chain_init pm_Chain_init an_Chain_init cd_Chain_init ct_Chain_init), sl_Chain_init⟩)
    (c_Chain_init : PySem.W.codeIn K cd_Chain_init "Chain.__init__" = true)
    (k_Chain_init : PySem.W.keepIn K (.ref f_Chain_init) = true)
    (l_Chain_place_of : K.lookup f_Chain_place_of = some ⟨oc_Chain_place_of, od_Chain_place_of, .func (PySem.W.fnOf "place_of" "Chain.place_of" (defArgs s_Chain_place_of) (defBody s_Chain_place_of) (defScope s_Chain_place_of) .none kV_Chain_place_of dc_Chain_place_of pm_Chain_place_of an_Chain_place_of cd_Chain_place_of ct_Chain_place_of), sl_Chain_place_of⟩)
    (c_Chain_place_of : PySem.W.codeIn K cd_Chain_place_of "Chain.place_of" = true)
    (k_Chain_place_of : PySem.W.keepIn K (.ref f_Chain_place_of) = true)
    (l_Chain_has : K.lookup f_Chain_has = some ⟨oc_Chain_has, od_Chain_has, .func (PySem.W.fnOf "has" "Chain.has" (defArgs s_Chain_has) (defBody s_Chain_has) (defScope s_Chain_has) .none kV_Chain_has dc_Chain_has pm_Chain_has an_Chain_has cd_Chain_has ct_Chain_has), sl_Chain_has⟩)
    (c_Chain_has : PySem.W.codeIn K cd_Chain_has "Chain.has" = true)
    (k_Chain_has : PySem.W.keepIn K (.ref f_Chain_has) = true)
    (l_Chain_put : K.lookup f_Chain_put = some ⟨oc_Chain_put, od_Chain_put, .func (PySem.W.fnOf "put" "Chain.put" (defArgs s_Chain_put) (defBody s_Chain_put) (defScope s_Chain_put) .none kV_Chain_put dc_Chain_put pm_Chain_put an_Chain_put cd_Chain_put ct_Chain_put), sl_Chain_put⟩)
    (c_Chain_put : PySem.W.codeIn K cd_Chain_put "Chain.put" = true)
    (k_Chain_put : PySem.W.keepIn K (.ref f_Chain_put) = true)
    (l_Chain_look_hand : K.lookup f_Chain_look_hand = some ⟨oc_Chain_look_hand, od_Chain_look_hand, .func (PySem.W.fnOf "look_hand" "Chain.look_hand" (defArgs s_Chain_look_hand) (defBody s_Chain_look_hand) (defScope s_Chain_look_hand) .none kV_Chain_look_hand dc_Chain_look_hand pm_Chain_look_hand an_Chain_look_hand cd_Chain_look_hand ct_Chain_look_hand), sl_Chain_look_hand⟩)
    (c_Chain_look_hand : PySem.W.codeIn K cd_Chain_look_hand "Chain.look_hand" = true)
    (k_Chain_look_hand : PySem.W.keepIn K (.ref f_Chain_look_hand) = true)
    (l_Chain_start : K.lookup f_Chain_start = some ⟨oc_Chain_start, od_Chain_start, .func (PySem.W.fnOf "start" "Chain.start" (defArgs s_Chain_start) (defBody s_Chain_start) (defScope s_Chain_start) .none kV_Chain_start dc_Chain_start pm_Chain_start an_Chain_start cd_Chain_start ct_Chain_start), sl_Chain_start⟩)
    (c_Chain_start : PySem.W.codeIn K cd_Chain_start "Chain.start" = true)
    (k_Chain_start : PySem.W.keepIn K (.ref f_Chain_start) = true)
    (l_Chain_look_in : K.lookup f_Chain_look_in = some ⟨oc_Chain_look_in, od_Chain_look_in, .func (PySem.W.fnOf "look_in" "Chain.look_in" (defArgs s_Chain_look_in) (defBody s_Chain_look_in) (defScope s_Chain_look_in) .none kV_Chain_look_in dc_Chain_look_in pm_Chain_look_in an_Chain_look_in cd_Chain_look_in ct_Chain_look_in), sl_Chain_look_in⟩)
    (c_Chain_look_in : PySem.W.codeIn K cd_Chain_look_in "Chain.look_in" = true)
    (k_Chain_look_in : PySem.W.keepIn K (.ref f_Chain_look_in) = true)
    (l_Chain_stop : K.lookup f_Chain_stop = some ⟨oc_Chain_stop, od_Chain_stop, .func (PySem.W.fnOf "stop" "Chain.stop" (defArgs s_Chain_stop) (defBody s_Chain_stop) (defScope s_Chain_stop) .none kV_Chain_stop dc_Chain_stop pm_Chain_stop an_Chain_stop cd_Chain_stop ct_Chain_stop), sl_Chain_stop⟩)
    (c_Chain_stop : PySem.W.codeIn K cd_Chain_stop "Chain.stop" = true)
    (k_Chain_stop : PySem.W.keepIn K (.ref f_Chain_stop) = true)
    (l_Chain_step : K.lookup f_Chain_step = some ⟨oc_Chain_step, od_Chain_step, .func (PySem.W.fnOf "step" "Chain.step" (defArgs s_Chain_step) (defBody s_Chain_step) (defScope s_Chain_step) .none kV_Chain_step dc_Chain_step pm_Chain_step an_Chain_step cd_Chain_step ct_Chain_step), sl_Chain_step⟩)
    (c_Chain_step : PySem.W.codeIn K cd_Chain_step "Chain.step" = true)
    (k_Chain_step : PySem.W.keepIn K (.ref f_Chain_step) = true)
    (a__law_pick : PySem.W.nsIn K mainGlobals "_law_pick" = some (some (.ref f__law_pick)))
    (l__law_pick : K.lookup f__law_pick = some ⟨oc__law_pick, od__law_pick, .func (PySem.W.fnOf "_law_pick" "_law_pick" (defArgs s__law_pick) (defBody s__law_pick) (defScope s__law_pick) .none kV__law_pick dc__law_pick pm__law_pick an__law_pick cd__law_pick ct__law_pick), sl__law_pick⟩)
    (c__law_pick : PySem.W.codeIn K cd__law_pick "_law_pick" = true)
    (k__law_pick : PySem.W.keepIn K (.ref f__law_pick) = true)
    (a__law_odd : PySem.W.nsIn K mainGlobals "_law_odd" = some (some (.ref f__law_odd)))
    (l__law_odd : K.lookup f__law_odd = some ⟨oc__law_odd, od__law_odd, .func (PySem.W.fnOf "_law_odd" "_law_odd" (defArgs s__law_odd) (defBody s__law_odd) (defScope s__law_odd) .none kV__law_odd dc__law_odd pm__law_odd an__law_odd cd__law_odd ct__law_odd), sl__law_odd⟩)
    (c__law_odd : PySem.W.codeIn K cd__law_odd "_law_odd" = true)
    (k__law_odd : PySem.W.keepIn K (.ref f__law_odd) = true)
    (l_Chain_take_out : K.lookup f_Chain_take_out = some ⟨oc_Chain_take_out, od_Chain_take_out, .func (PySem.W.fnOf "take_out" "Chain.take_out" (defArgs s_Chain_take_out) (defBody s_Chain_take_out) (defScope s_Chain_take_out) .none kV_Chain_take_out dc_Chain_take_out pm_Chain_take_out an_Chain_take_out cd_Chain_take_out ct_Chain_take_out), sl_Chain_take_out⟩)
    (c_Chain_take_out : PySem.W.codeIn K cd_Chain_take_out "Chain.take_out" = true)
    (k_Chain_take_out : PySem.W.keepIn K (.ref f_Chain_take_out) = true)
    (a__law_did : PySem.W.nsIn K mainGlobals "_law_did" = some (some (.ref f__law_did)))
    (l__law_did : K.lookup f__law_did = some ⟨oc__law_did, od__law_did, .func (PySem.W.fnOf "_law_did" "_law_did" (defArgs s__law_did) (defBody s__law_did) (defScope s__law_did) .none kV__law_did dc__law_did pm__law_did an__law_did cd__law_did ct__law_did), sl__law_did⟩)
    (c__law_did : PySem.W.codeIn K cd__law_did "_law_did" = true)
    (k__law_did : PySem.W.keepIn K (.ref f__law_did) = true)
    (a__law_refusal : PySem.W.nsIn K mainGlobals "_law_refusal" = some (some (.ref f__law_refusal)))
    (l__law_refusal : K.lookup f__law_refusal = some ⟨oc__law_refusal, od__law_refusal, .func (PySem.W.fnOf "_law_refusal" "_law_refusal" (defArgs s__law_refusal) (defBody s__law_refusal) (defScope s__law_refusal) .none kV__law_refusal dc__law_refusal pm__law_refusal an__law_refusal cd__law_refusal ct__law_refusal), sl__law_refusal⟩)
    (c__law_refusal : PySem.W.codeIn K cd__law_refusal "_law_refusal" = true)
    (k__law_refusal : PySem.W.keepIn K (.ref f__law_refusal) = true)
    (a__law_asked : PySem.W.nsIn K mainGlobals "_law_asked" = some (some (.ref f__law_asked)))
    (l__law_asked : K.lookup f__law_asked = some ⟨oc__law_asked, od__law_asked, .func (PySem.W.fnOf "_law_asked" "_law_asked" (defArgs s__law_asked) (defBody s__law_asked) (defScope s__law_asked) .none kV__law_asked dc__law_asked pm__law_asked an__law_asked cd__law_asked ct__law_asked), sl__law_asked⟩)
    (c__law_asked : PySem.W.codeIn K cd__law_asked "_law_asked" = true)
    (k__law_asked : PySem.W.keepIn K (.ref f__law_asked) = true)
    (l_Chain_keys_in : K.lookup f_Chain_keys_in = some ⟨oc_Chain_keys_in, od_Chain_keys_in, .func (PySem.W.fnOf "keys_in" "Chain.keys_in" (defArgs s_Chain_keys_in) (defBody s_Chain_keys_in) (defScope s_Chain_keys_in) .none kV_Chain_keys_in dc_Chain_keys_in pm_Chain_keys_in an_Chain_keys_in cd_Chain_keys_in ct_Chain_keys_in), sl_Chain_keys_in⟩)
    (c_Chain_keys_in : PySem.W.codeIn K cd_Chain_keys_in "Chain.keys_in" = true)
    (k_Chain_keys_in : PySem.W.keepIn K (.ref f_Chain_keys_in) = true)
    (l_Chain_walkers : K.lookup f_Chain_walkers = some ⟨oc_Chain_walkers, od_Chain_walkers, .func (PySem.W.fnOf "walkers" "Chain.walkers" (defArgs s_Chain_walkers) (defBody s_Chain_walkers) (defScope s_Chain_walkers) .none kV_Chain_walkers dc_Chain_walkers pm_Chain_walkers an_Chain_walkers cd_Chain_walkers ct_Chain_walkers), sl_Chain_walkers⟩)
    (c_Chain_walkers : PySem.W.codeIn K cd_Chain_walkers "Chain.walkers" = true)
    (k_Chain_walkers : PySem.W.keepIn K (.ref f_Chain_walkers) = true)
    (a_law : PySem.W.nsIn K mainGlobals "law" = some (some (.ref f_law)))
    (l_law : K.lookup f_law = some ⟨oc_law, od_law, .func (PySem.W.fnOf "law" "law" (defArgs s_law) (defBody s_law) (defScope s_law) .none kV_law dc_law pm_law an_law cd_law ct_law), sl_law⟩)
    (c_law : PySem.W.codeIn K cd_law "law" = true)
    (k_law : PySem.W.keepIn K (.ref f_law) = true)
    (z_ValueError : PySem.W.nsIn K mainGlobals "ValueError" = some none)
    (z_bool : PySem.W.nsIn K mainGlobals "bool" = some none)
    (z_int : PySem.W.nsIn K mainGlobals "int" = some none)
    (z_isinstance : PySem.W.nsIn K mainGlobals "isinstance" = some none)
    (z_len : PySem.W.nsIn K mainGlobals "len" = some none)
    (z_list : PySem.W.nsIn K mainGlobals "list" = some none)
    (z_range : PySem.W.nsIn K mainGlobals "range" = some none)
    (z_set : PySem.W.nsIn K mainGlobals "set" = some none)
    (z_sorted : PySem.W.nsIn K mainGlobals "sorted" = some none)
    (zk_END : PySem.W.nsIn K mainGlobals "END" = some (some (.int (-1) t_END)))
    (zk_MOST_HANDS : PySem.W.nsIn K mainGlobals "MOST_HANDS" = some (some (.int (6) t_MOST_HANDS)))
    (zk_MOST_KEY : PySem.W.nsIn K mainGlobals "MOST_KEY" = some (some (.int (999) t_MOST_KEY))) :
    ∃ fd : FuncData, (∀ (s : Shared) (v : Value), BindsTo s fd ⟨[v], []⟩ [("script", v)]) ∧ ∀ base : Heap, K.In base → base.Ns mainGlobals mg → FnOk l.prog w K mg base CX0 8 fa fd ["script"] (sp_law K) := by
  have e := hfa.symm.trans (PySem.W.mg_of X G a_law)
  cases e
  have F__law_town := fun_mk (st := s__law_town) l__law_town c__law_town k__law_town
  have F__law_draw := fun_mk (st := s__law_draw) l__law_draw c__law_draw k__law_draw
  have F_is_whole := fun_mk (st := s_is_whole) l_is_whole c_is_whole k_is_whole
  have F_look_number := fun_mk (st := s_look_number) l_look_number c_look_number k_look_number
  have F_Link_init := fun_mk (st := s_Link_init) l_Link_init c_Link_init k_Link_init
  have F_Chain_init := fun_mk (st := s_Chain_init) l_Chain_init c_Chain_init k_Chain_init
  have F_Chain_place_of := fun_mk (st := s_Chain_place_of) l_Chain_place_of c_Chain_place_of k_Chain_place_of
  have F_Chain_has := fun_mk (st := s_Chain_has) l_Chain_has c_Chain_has k_Chain_has
  have F_Chain_put := fun_mk (st := s_Chain_put) l_Chain_put c_Chain_put k_Chain_put
  have F_Chain_look_hand := fun_mk (st := s_Chain_look_hand) l_Chain_look_hand c_Chain_look_hand k_Chain_look_hand
  have F_Chain_start := fun_mk (st := s_Chain_start) l_Chain_start c_Chain_start k_Chain_start
  have F_Chain_look_in := fun_mk (st := s_Chain_look_in) l_Chain_look_in c_Chain_look_in k_Chain_look_in
  have F_Chain_stop := fun_mk (st := s_Chain_stop) l_Chain_stop c_Chain_stop k_Chain_stop
  have F_Chain_step := fun_mk (st := s_Chain_step) l_Chain_step c_Chain_step k_Chain_step
  have F__law_pick := fun_mk (st := s__law_pick) l__law_pick c__law_pick k__law_pick
  have F__law_odd := fun_mk (st := s__law_odd) l__law_odd c__law_odd k__law_odd
  have F_Chain_take_out := fun_mk (st := s_Chain_take_out) l_Chain_take_out c_Chain_take_out k_Chain_take_out
  have F__law_did := fun_mk (st := s__law_did) l__law_did c__law_did k__law_did
  have F__law_refusal := fun_mk (st := s__law_refusal) l__law_refusal c__law_refusal k__law_refusal
  have F__law_asked := fun_mk (st := s__law_asked) l__law_asked c__law_asked k__law_asked
  have F_Chain_keys_in := fun_mk (st := s_Chain_keys_in) l_Chain_keys_in c_Chain_keys_in k_Chain_keys_in
  have F_Chain_walkers := fun_mk (st := s_Chain_walkers) l_Chain_walkers c_Chain_walkers k_Chain_walkers
  have F_law := fun_mk (st := s_law) l_law c_law k_law
  have b__law_town := F__law_town.binds (ps := ["script"]) fun _ _ _ _ _ _ us hl => match us, hl with | [_], _ => rfl
  have b__law_draw := F__law_draw.binds (ps := ["town", "many"]) fun _ _ _ _ _ _ us hl => match us, hl with | [_, _], _ => rfl
  have b_is_whole := F_is_whole.binds (ps := ["thing", "low", "high"]) fun _ _ _ _ _ _ us hl => match us, hl with | [_, _, _], _ => rfl
  have b_look_number := F_look_number.binds (ps := ["thing", "low", "high"]) fun _ _ _ _ _ _ us hl => match us, hl with | [_, _, _], _ => rfl
  have b_Link_init := F_Link_init.binds (ps := ["self", "key", "after"]) fun _ _ _ _ _ _ us hl => match us, hl with | [_, _, _], _ => rfl
  have b_Chain_init := F_Chain_init.binds (ps := ["self", "hands"]) fun _ _ _ _ _ _ us hl => match us, hl with | [_, _], _ => rfl
  have b_Chain_place_of := F_Chain_place_of.binds (ps := ["self", "key"]) fun _ _ _ _ _ _ us hl => match us, hl with | [_, _], _ => rfl
  have b_Chain_has := F_Chain_has.binds (ps := ["self", "key"]) fun _ _ _ _ _ _ us hl => match us, hl with | [_, _], _ => rfl
  have b_Chain_put := F_Chain_put.binds (ps := ["self", "key"]) fun _ _ _ _ _ _ us hl => match us, hl with | [_, _], _ => rfl
  have b_Chain_look_hand := F_Chain_look_hand.binds (ps := ["self", "hand"]) fun _ _ _ _ _ _ us hl => match us, hl with | [_, _], _ => rfl
  have b_Chain_start := F_Chain_start.binds (ps := ["self", "hand"]) fun _ _ _ _ _ _ us hl => match us, hl with | [_, _], _ => rfl
  have b_Chain_look_in := F_Chain_look_in.binds (ps := ["self", "hand"]) fun _ _ _ _ _ _ us hl => match us, hl with | [_, _], _ => rfl
  have b_Chain_stop := F_Chain_stop.binds (ps := ["self", "hand"]) fun _ _ _ _ _ _ us hl => match us, hl with | [_, _], _ => rfl
  have b_Chain_step := F_Chain_step.binds (ps := ["self", "hand"]) fun _ _ _ _ _ _ us hl => match us, hl with | [_, _], _ => rfl
  have b__law_pick := F__law_pick.binds (ps := ["town", "some"]) fun _ _ _ _ _ _ us hl => match us, hl with | [_, _], _ => rfl
  have b__law_odd := F__law_odd.binds (ps := ["town", "most"]) fun _ _ _ _ _ _ us hl => match us, hl with | [_, _], _ => rfl
  have b_Chain_take_out := F_Chain_take_out.binds (ps := ["self", "key"]) fun _ _ _ _ _ _ us hl => match us, hl with | [_, _], _ => rfl
  have b__law_did := F__law_did.binds (ps := ["chain", "kind", "what"]) fun _ _ _ _ _ _ us hl => match us, hl with | [_, _, _], _ => rfl
  have b__law_refusal := F__law_refusal.binds (ps := ["caught"]) fun _ _ _ _ _ _ us hl => match us, hl with | [_], _ => rfl
  have b__law_asked := F__law_asked.binds (ps := ["chain", "kind", "what"]) fun _ _ _ _ _ _ us hl => match us, hl with | [_, _, _], _ => rfl
  have b_Chain_keys_in := F_Chain_keys_in.binds (ps := ["self"]) fun _ _ _ _ _ _ us hl => match us, hl with | [_], _ => rfl
  have b_Chain_walkers := F_Chain_walkers.binds (ps := ["self"]) fun _ _ _ _ _ _ us hl => match us, hl with | [_], _ => rfl
  have b_law := F_law.binds (ps := ["script"]) fun _ _ _ _ _ _ us hl => match us, hl with | [_], _ => rfl
  let D : Adr := { c_Link := c_Link, c_Chain := c_Chain, c_BadNumber := c_BadNumber, c_NoHand := c_NoHand, c_IsIn := c_IsIn, c_NotIn := c_NotIn, c_NoCell := c_NoCell, c_NoMark := c_NoMark, c_BadPairs := c_BadPairs, c_Gone := c_Gone, c_NotHeld := c_NotHeld, c_NotNow := c_NotNow, c_StoreError := c_StoreError, f__law_town := f__law_town, d__law_town := PySem.W.fnOf "_law_town" "_law_town" (defArgs s__law_town) (defBody s__law_town) (defScope s__law_town) .none kV__law_town dc__law_town pm__law_town an__law_town cd__law_town ct__law_town, f__law_draw := f__law_draw, d__law_draw := PySem.W.fnOf "_law_draw" "_law_draw" (defArgs s__law_draw) (defBody s__law_draw) (defScope s__law_draw) .none kV__law_draw dc__law_draw pm__law_draw an__law_draw cd__law_draw ct__law_draw, f_is_whole := f_is_whole, d_is_whole := PySem.W.fnOf "is_whole" "is_whole" (defArgs s_is_whole) (defBody s_is_whole) (defScope s_is_whole) .none kV_is_whole dc_is_whole pm_is_whole an_is_whole cd_is_whole ct_is_whole, f_look_number := f_look_number, d_look_number := PySem.W.fnOf "look_number" "look_number" (defArgs s_look_number) (defBody s_look_number) (defScope s_look_number) .none kV_look_number dc_look_number pm_look_number an_look_number cd_look_number ct_look_number, f_Link_init := f_Link_init, d_Link_init := PySem.W.fnOf "__init__" "Link.__init__" (defArgs s_Link_init) (defBody s_Link_init) (defScope s_Link_init) .none kV_Link_init dc_Link_init pm_Link_init an_Link_init cd_Link_init ct_Link_init, f_Chain_init := f_Chain_init, d_Chain_init := PySem.W.fnOf "__init__" "Chain.__init__" (defArgs s_Chain_init) (defBody s_Chain_init) (defScope s_Chain_init) .none kV_Chain_init dc_Chain_init pm_Chain_init an_Chain_init cd_Chain_init ct_Chain_init, f_Chain_place_of := f_Chain_place_of, d_Chain_place_of := PySem.W.fnOf "place_of" "Chain.place_of" (defArgs s_Chain_place_of) (defBody s_Chain_place_of) (defScope s_Chain_place_of) .none kV_Chain_place_of dc_Chain_place_of pm_Chain_place_of an_Chain_place_of cd_Chain_place_of ct_Chain_place_of, f_Chain_has := f_Chain_has, d_Chain_has := PySem.W.fnOf "has" "Chain.has" (defArgs s_Chain_has) (defBody s_Chain_has) (defScope s_Chain_has) .none kV_Chain_has dc_Chain_has pm_Chain_has an_Chain_has cd_Chain_has ct_Chain_has, f_Chain_put := f_Chain_put, d_Chain_put := PySem.W.fnOf "put" "Chain.put" (defArgs s_Chain_put) (defBody s_Chain_put) (defScope s_Chain_put) .none kV_Chain_put dc_Chain_put pm_Chain_put an_Chain_put cd_Chain_put ct_Chain_put, f_Chain_look_hand := f_Chain_look_hand, d_Chain_look_hand := PySem.W.fnOf "look_hand" "Chain.look_hand" (defArgs s_Chain_look_hand) (defBody s_Chain_look_hand) (defScope s_Chain_look_hand) .none kV_Chain_look_hand dc_Chain_look_hand pm_Chain_look_hand an_Chain_look_hand cd_Chain_look_hand ct_Chain_look_hand, f_Chain_start := f_Chain_start, d_Chain_start := PySem.W.fnOf "start" "Chain.start" (defArgs s_Chain_start) (defBody s_Chain_start) (defScope s_Chain_start) .none kV_Chain_start dc_Chain_start pm_Chain_start an_Chain_start cd_Chain_start ct_Chain_start, f_Chain_look_in := f_Chain_look_in, d_Chain_look_in := PySem.W.fnOf "look_in" "Chain.look_in" (defArgs s_Chain_look_in) (defBody s_Chain_look_in) (defScope s_Chain_look_in) .none kV_Chain_look_in dc_Chain_look_in pm_Chain_look_in an_Chain_look_in cd_Chain_look_in ct_Chain_look_in, f_Chain_stop := f_Chain_stop, d_Chain_stop := PySem.W.fnOf "stop" "Chain.stop" (defArgs s_Chain_stop) (defBody s_Chain_stop) (defScope s_Chain_stop) .none kV_Chain_stop dc_Chain_stop pm_Chain_stop an_Chain_stop cd_Chain_stop ct_Chain_stop, f_Chain_step := f_Chain_step, d_Chain_step := PySem.W.fnOf "step" "Chain.step" (defArgs s_Chain_step) (defBody s_Chain_step) (defScope s_Chain_step) .none kV_Chain_step dc_Chain_step pm_Chain_step an_Chain_step cd_Chain_step ct_Chain_step, f__law_pick := f__law_pick, d__law_pick := PySem.W.fnOf "_law_pick" "_law_pick" (defArgs s__law_pick) (defBody s__law_pick) (defScope s__law_pick) .none kV__law_pick dc__law_pick pm__law_pick an__law_pick cd__law_pick ct__law_pick, f__law_odd := f__law_odd, d__law_odd := PySem.W.fnOf "_law_odd" "_law_odd" (defArgs s__law_odd) (defBody s__law_odd) (defScope s__law_odd) .none kV__law_odd dc__law_odd pm__law_odd an__law_odd cd__law_odd ct__law_odd, f_Chain_take_out := f_Chain_take_out, d_Chain_take_out := PySem.W.fnOf "take_out" "Chain.take_out" (defArgs s_Chain_take_out) (defBody s_Chain_take_out) (defScope s_Chain_take_out) .none kV_Chain_take_out dc_Chain_take_out pm_Chain_take_out an_Chain_take_out cd_Chain_take_out ct_Chain_take_out, f__law_did := f__law_did, d__law_did := PySem.W.fnOf "_law_did" "_law_did" (defArgs s__law_did) (defBody s__law_did) (defScope s__law_did) .none kV__law_did dc__law_did pm__law_did an__law_did cd__law_did ct__law_did, f__law_refusal := f__law_refusal, d__law_refusal := PySem.W.fnOf "_law_refusal" "_law_refusal" (defArgs s__law_refusal) (defBody s__law_refusal) (defScope s__law_refusal) .none kV__law_refusal dc__law_refusal pm__law_refusal an__law_refusal cd__law_refusal ct__law_refusal, f__law_asked := f__law_asked, d__law_asked := PySem.W.fnOf "_law_asked" "_law_asked" (defArgs s__law_asked) (defBody s__law_asked) (defScope s__law_asked) .none kV__law_asked dc__law_asked pm__law_asked an__law_asked cd__law_asked ct__law_asked, f_Chain_keys_in := f_Chain_keys_in, d_Chain_keys_in := PySem.W.fnOf "keys_in" "Chain.keys_in" (defArgs s_Chain_keys_in) (defBody s_Chain_keys_in) (defScope s_Chain_keys_in) .none kV_Chain_keys_in dc_Chain_keys_in pm_Chain_keys_in an_Chain_keys_in cd_Chain_keys_in ct_Chain_keys_in, f_Chain_walkers := f_Chain_walkers, d_Chain_walkers := PySem.W.fnOf "walkers" "Chain.walkers" (defArgs s_Chain_walkers) (defBody s_Chain_walkers) (defScope s_Chain_walkers) .none kV_Chain_walkers dc_Chain_walkers pm_Chain_walkers an_Chain_walkers cd_Chain_walkers ct_Chain_walkers, f_law := fa, d_law := PySem.W.fnOf "law" "law" (defArgs s_law) (defBody s_law) (defScope s_law) .none kV_law dc_law pm_law an_law cd_law ct_law, t_END := t_END, t_MOST_HANDS := t_MOST_HANDS, t_MOST_KEY := t_MOST_KEY }
  have T : Txt K mg D :=
    { F__law_town := F__law_town, b__law_town := b__law_town,
      g__law_town := PySem.W.mg_of X G a__law_town,
      F__law_draw := F__law_draw, b__law_draw := b__law_draw,
      g__law_draw := PySem.W.mg_of X G a__law_draw,
      F_is_whole := F_is_whole, b_is_whole := b_is_whole,
      g_is_whole := PySem.W.mg_of X G a_is_whole,
      F_look_number := F_look_number, b_look_number := b_look_number,
      g_look_number := PySem.W.mg_of X G a_look_number,
      F_Link_init := F_Link_init, b_Link_init := b_Link_init,
      F_Chain_init := F_Chain_init, b_Chain_init := b_Chain_init,
      F_Chain_place_of := F_Chain_place_of, b_Chain_place_of := b_Chain_place_of,
      F_Chain_has := F_Chain_has, b_Chain_has := b_Chain_has,
      F_Chain_put := F_Chain_put, b_Chain_put := b_Chain_put,
      F_Chain_look_hand := F_Chain_look_hand, b_Chain_look_hand := b_Chain_look_hand,
      F_Chain_start := F_Chain_start, b_Chain_start := b_Chain_start,
      F_Chain_look_in := F_Chain_look_in, b_Chain_look_in := b_Chain_look_in,
      F_Chain_stop := F_Chain_stop, b_Chain_stop := b_Chain_stop,
      F_Chain_step := F_Chain_step, b_Chain_step := b_Chain_step,
      F__law_pick := F__law_pick, b__law_pick := b__law_pick,
      g__law_pick := PySem.W.mg_of X G a__law_pick,
      F__law_odd := F__law_odd, b__law_odd := b__law_odd,
      g__law_odd := PySem.W.mg_of X G a__law_odd,
      F_Chain_take_out := F_Chain_take_out, b_Chain_take_out := b_Chain_take_out,
      F__law_did := F__law_did, b__law_did := b__law_did,
      g__law_did := PySem.W.mg_of X G a__law_did,
      F__law_refusal := F__law_refusal, b__law_refusal := b__law_refusal,
      g__law_refusal := PySem.W.mg_of X G a__law_refusal,
      F__law_asked := F__law_asked, b__law_asked := b__law_asked,
      g__law_asked := PySem.W.mg_of X G a__law_asked,
      F_Chain_keys_in := F_Chain_keys_in, b_Chain_keys_in := b_Chain_keys_in,
      F_Chain_walkers := F_Chain_walkers, b_Chain_walkers := b_Chain_walkers,
      F_law := F_law, b_law := b_law,
      g_law := PySem.W.mg_of X G a_law,
      cl_Link := ⟨pg_Link, hd_Link, po_Link, sa_Link⟩, g_Link := PySem.W.mg_of X G aC_Link,
      na_Link_key := na_Link_key,
      na_Link_after := na_Link_after,
      mk_Link := ⟨mk_Link, ai_Link, ii_Link, kc_Link⟩,
      cl_Chain := ⟨pg_Chain, hd_Chain, po_Chain, sa_Chain⟩, g_Chain := PySem.W.mg_of X G aC_Chain,
      na_Chain_hands := na_Chain_hands,
      na_Chain_links := na_Chain_links,
      na_Chain_made := na_Chain_made,
      na_Chain_era := na_Chain_era,
      na_Chain_inside := na_Chain_inside,
      na_Chain_at := na_Chain_at,
      na_Chain_waits := na_Chain_waits,
      mk_Chain := ⟨mk_Chain, ai_Chain, ii_Chain, kc_Chain⟩,
      g_BadNumber := PySem.W.mg_of X G aC_BadNumber,
      xi_BadNumber := xi_BadNumber, kp_BadNumber := kp_BadNumber, sb_BadNumber := sb_BadNumber, ty_BadNumber := ty_BadNumber, em_BadNumber := em_BadNumber, kv_BadNumber := kv_BadNumber,
      ec_BadNumber := ⟨e1_BadNumber, e2_BadNumber, sb_BadNumber, e4_BadNumber, e5_BadNumber, e6_BadNumber, e7_BadNumber, e8_BadNumber⟩,
      ki_BadNumber_BadNumber := ki_BadNumber_BadNumber,
      ki_BadNumber_NoHand := ki_BadNumber_NoHand,
      ki_BadNumber_NoCell := ki_BadNumber_NoCell,
      ki_BadNumber_NoMark := ki_BadNumber_NoMark,
      ki_BadNumber_IsIn := ki_BadNumber_IsIn,
      ki_BadNumber_NotIn := ki_BadNumber_NotIn,
      ki_BadNumber_NotHeld := ki_BadNumber_NotHeld,
      ki_BadNumber_Gone := ki_BadNumber_Gone,
      ki_BadNumber_BadPairs := ki_BadNumber_BadPairs,
      ki_BadNumber_NotNow := ki_BadNumber_NotNow,
      ki_BadNumber_StoreError := ki_BadNumber_StoreError,
      g_NoHand := PySem.W.mg_of X G aC_NoHand,
      xi_NoHand := xi_NoHand, kp_NoHand := kp_NoHand, sb_NoHand := sb_NoHand, ty_NoHand := ty_NoHand, em_NoHand := em_NoHand, kv_NoHand := kv_NoHand,
      ec_NoHand := ⟨e1_NoHand, e2_NoHand, sb_NoHand, e4_NoHand, e5_NoHand, e6_NoHand, e7_NoHand, e8_NoHand⟩,
      ki_NoHand_BadNumber := ki_NoHand_BadNumber,
      ki_NoHand_NoHand := ki_NoHand_NoHand,
      ki_NoHand_NoCell := ki_NoHand_NoCell,
      ki_NoHand_NoMark := ki_NoHand_NoMark,
      ki_NoHand_IsIn := ki_NoHand_IsIn,
      ki_NoHand_NotIn := ki_NoHand_NotIn,
      ki_NoHand_NotHeld := ki_NoHand_NotHeld,
      ki_NoHand_Gone := ki_NoHand_Gone,
      ki_NoHand_BadPairs := ki_NoHand_BadPairs,
      ki_NoHand_NotNow := ki_NoHand_NotNow,
      ki_NoHand_StoreError := ki_NoHand_StoreError,
      g_IsIn := PySem.W.mg_of X G aC_IsIn,
      xi_IsIn := xi_IsIn, kp_IsIn := kp_IsIn, sb_IsIn := sb_IsIn, ty_IsIn := ty_IsIn, em_IsIn := em_IsIn, kv_IsIn := kv_IsIn,
      ec_IsIn := ⟨e1_IsIn, e2_IsIn, sb_IsIn, e4_IsIn, e5_IsIn, e6_IsIn, e7_IsIn, e8_IsIn⟩,
      ki_IsIn_BadNumber := ki_IsIn_BadNumber,
      ki_IsIn_NoHand := ki_IsIn_NoHand,
      ki_IsIn_NoCell := ki_IsIn_NoCell,
      ki_IsIn_NoMark := ki_IsIn_NoMark,
      ki_IsIn_IsIn := ki_IsIn_IsIn,
      ki_IsIn_NotIn := ki_IsIn_NotIn,
      ki_IsIn_NotHeld := ki_IsIn_NotHeld,
      ki_IsIn_Gone := ki_IsIn_Gone,
      ki_IsIn_BadPairs := ki_IsIn_BadPairs,
      ki_IsIn_NotNow := ki_IsIn_NotNow,
      ki_IsIn_StoreError := ki_IsIn_StoreError,
      g_NotIn := PySem.W.mg_of X G aC_NotIn,
      xi_NotIn := xi_NotIn, kp_NotIn := kp_NotIn, sb_NotIn := sb_NotIn, ty_NotIn := ty_NotIn, em_NotIn := em_NotIn, kv_NotIn := kv_NotIn,
      ec_NotIn := ⟨e1_NotIn, e2_NotIn, sb_NotIn, e4_NotIn, e5_NotIn, e6_NotIn, e7_NotIn, e8_NotIn⟩,
      ki_NotIn_BadNumber := ki_NotIn_BadNumber,
      ki_NotIn_NoHand := ki_NotIn_NoHand,
      ki_NotIn_NoCell := ki_NotIn_NoCell,
      ki_NotIn_NoMark := ki_NotIn_NoMark,
      ki_NotIn_IsIn := ki_NotIn_IsIn,
      ki_NotIn_NotIn := ki_NotIn_NotIn,
      ki_NotIn_NotHeld := ki_NotIn_NotHeld,
      ki_NotIn_Gone := ki_NotIn_Gone,
      ki_NotIn_BadPairs := ki_NotIn_BadPairs,
      ki_NotIn_NotNow := ki_NotIn_NotNow,
      ki_NotIn_StoreError := ki_NotIn_StoreError,
      g_NoCell := PySem.W.mg_of X G aC_NoCell,
      g_NoMark := PySem.W.mg_of X G aC_NoMark,
      g_BadPairs := PySem.W.mg_of X G aC_BadPairs,
      g_Gone := PySem.W.mg_of X G aC_Gone,
      g_NotHeld := PySem.W.mg_of X G aC_NotHeld,
      g_NotNow := PySem.W.mg_of X G aC_NotNow,
      g_StoreError := PySem.W.mg_of X G aC_StoreError,
      me_Chain_place_of := ⟨am_Chain_place_of, im_Chain_place_of, k_Chain_place_of⟩,
      me_Chain_has := ⟨am_Chain_has, im_Chain_has, k_Chain_has⟩,
      me_Chain_put := ⟨am_Chain_put, im_Chain_put, k_Chain_put⟩,
      me_Chain_look_hand := ⟨am_Chain_look_hand, im_Chain_look_hand, k_Chain_look_hand⟩,
      me_Chain_start := ⟨am_Chain_start, im_Chain_start, k_Chain_start⟩,
      me_Chain_look_in := ⟨am_Chain_look_in, im_Chain_look_in, k_Chain_look_in⟩,
      me_Chain_stop := ⟨am_Chain_stop, im_Chain_stop, k_Chain_stop⟩,
      me_Chain_step := ⟨am_Chain_step, im_Chain_step, k_Chain_step⟩,
      me_Chain_take_out := ⟨am_Chain_take_out, im_Chain_take_out, k_Chain_take_out⟩,
      me_Chain_keys_in := ⟨am_Chain_keys_in, im_Chain_keys_in, k_Chain_keys_in⟩,
      me_Chain_walkers := ⟨am_Chain_walkers, im_Chain_walkers, k_Chain_walkers⟩,
      m_ValueError := PySem.W.mg_none_of X G z_ValueError,
      m_bool := PySem.W.mg_none_of X G z_bool,
      m_int := PySem.W.mg_none_of X G z_int,
      m_isinstance := PySem.W.mg_none_of X G z_isinstance,
      m_len := PySem.W.mg_none_of X G z_len,
      m_list := PySem.W.mg_none_of X G z_list,
      m_range := PySem.W.mg_none_of X G z_range,
      m_set := PySem.W.mg_none_of X G z_set,
      m_sorted := PySem.W.mg_none_of X G z_sorted,
      k_END := PySem.W.mg_of X G zk_END,
      k_MOST_HANDS := PySem.W.mg_of X G zk_MOST_HANDS,
      k_MOST_KEY := PySem.W.mg_of X G zk_MOST_KEY }
  exact ⟨_, fun s v => .of_eq rfl, fun base _ _ => ok_law T⟩
theorem walk {l : PySem.W.OpenLaw} {q : Program} {loose : List Str} {XP : (Str → Option Value) → Heap → Prop} {YP : World → Heap → Prop} {d : DefRec} {K : Params → PySem.W.Frag} (hn : l.most = some 63) (hdf : d.params.defaults = [])
    (hY : ∀ (w : World) (h : Heap), YP w h → (K w.params).In h)
    (F : ∀ (w : World) (mg : Str → Option Value) (fa : Addr) (h : Heap), (K w.params).In h → h.Ns mainGlobals mg → mg d.name = some (.ref fa) →
      ∃ fd : FuncData, (∀ (s : Shared) (u : Value), BindsTo s fd ⟨[u], []⟩ [("script", u)]) ∧ ∀ base : Heap, (K w.params).In base → base.Ns mainGlobals mg → FnOk l.prog w (K w.params) mg base CX0 8 fa fd ["script"] (sp_law (K w.params))) :
    PySem.W.WalkO q loose XP YP l.row.toRowW d [] (fun f vs => PySem.call f vs) :=
  L2.walk_of (n := 63) (k := 8) (x := "script") (CX := fun _ => CX0) (sp := fun w => sp_law (K w.params)) hn (by decide) hdf ⟨rfl, by decide, by decide⟩ hY F (fun _ _ a ns hl _ hS => ⟨a, ns, rfl, hS, hl, fun _ => rfl⟩) fun _ _ _ _ _ z => z
end La
open PySem PySem.W PyProof.Rows in
set_option maxRecDepth 100000 in
set_option maxHeartbeats 0 in
theorem PySem.Challenge.cw_lastreader_k19_chains_refused_holds : PySem.Challenge.rw_lastreader_k19_chains_refused.Holds := by
  w_on; o_law; k_head; (case hw => w_witness2)
  k_fill
  refine La.walk (l := PySem.Challenge.rw_lastreader_k19_chains_refused) rfl rfl (fun w h Y => PySem.W.kIn_of Y) ?F
  case F =>
    intro w mg fa h KX G hmg
    refine' La.all_mk KX G hmg ?aC_Link ?aC_Chain ?aC_BadNumber ?aC_NoHand ?aC_IsIn ?aC_NotIn ?aC_NoCell ?aC_NoMark ?aC_BadPairs ?aC_Gone ?aC_NotHeld ?aC_NotNow ?aC_StoreError ?pg_Link ?hd_Link ?po_Link ?sa_Link ?mk_Link ?kc_Link ?ai_Link ?ii_Link ?na_Link_key ?na_Link_after ?pg_Chain ?hd_Chain ?po_Chain ?sa_Chain ?mk_Chain ?kc_Chain ?ai_Chain ?ii_Chain ?na_Chain_hands ?na_Chain_links ?na_Chain_made ?na_Chain_era ?na_Chain_inside ?na_Chain_at ?na_Chain_waits ?xi_BadNumber ?kp_BadNumber ?sb_BadNumber ?ty_BadNumber ?em_BadNumber ?e1_BadNumber ?e2_BadNumber ?e4_BadNumber ?e5_BadNumber ?e6_BadNumber ?e7_BadNumber ?e8_BadNumber ?ki_BadNumber_BadNumber ?ki_BadNumber_NoHand ?ki_BadNumber_NoCell ?ki_BadNumber_NoMark ?ki_BadNumber_IsIn ?ki_BadNumber_NotIn ?ki_BadNumber_NotHeld ?ki_BadNumber_Gone ?ki_BadNumber_BadPairs ?ki_BadNumber_NotNow ?ki_BadNumber_StoreError ?kv_BadNumber ?xi_NoHand ?kp_NoHand ?sb_NoHand ?ty_NoHand ?em_NoHand ?e1_NoHand ?e2_NoHand ?e4_NoHand ?e5_NoHand ?e6_NoHand ?e7_NoHand ?e8_NoHand ?ki_NoHand_BadNumber ?ki_NoHand_NoHand ?ki_NoHand_NoCell ?ki_NoHand_NoMark ?ki_NoHand_IsIn ?ki_NoHand_NotIn ?ki_NoHand_NotHeld ?ki_NoHand_Gone ?ki_NoHand_BadPairs ?ki_NoHand_NotNow ?ki_NoHand_StoreError ?kv_NoHand ?xi_IsIn ?kp_IsIn ?sb_IsIn ?ty_IsIn ?em_IsIn ?e1_IsIn ?e2_IsIn ?e4_IsIn ?e5_IsIn ?e6_IsIn ?e7_IsIn ?e8_IsIn ?ki_IsIn_BadNumber ?ki_IsIn_NoHand ?ki_IsIn_NoCell ?ki_IsIn_NoMark ?ki_IsIn_IsIn ?ki_IsIn_NotIn ?ki_IsIn_NotHeld ?ki_IsIn_Gone ?ki_IsIn_BadPairs ?ki_IsIn_NotNow ?ki_IsIn_StoreError ?kv_IsIn ?xi_NotIn ?kp_NotIn ?sb_NotIn ?ty_NotIn ?em_NotIn ?e1_NotIn ?e2_NotIn ?e4_NotIn ?e5_NotIn ?e6_NotIn ?e7_NotIn ?e8_NotIn ?ki_NotIn_BadNumber ?ki_NotIn_NoHand ?ki_NotIn_NoCell ?ki_NotIn_NoMark ?ki_NotIn_IsIn ?ki_NotIn_NotIn ?ki_NotIn_NotHeld ?ki_NotIn_Gone ?ki_NotIn_BadPairs ?ki_NotIn_NotNow ?ki_NotIn_StoreError ?kv_NotIn ?am_Chain_place_of ?am_Chain_has ?am_Chain_put ?am_Chain_look_hand ?am_Chain_start ?am_Chain_look_in ?am_Chain_stop ?am_Chain_step ?am_Chain_take_out ?am_Chain_keys_in ?am_Chain_walkers ?im_Chain_place_of ?im_Chain_has ?im_Chain_put ?im_Chain_look_hand ?im_Chain_start ?im_Chain_look_in ?im_Chain_stop ?im_Chain_step ?im_Chain_take_out ?im_Chain_keys_in ?im_Chain_walkers ?a__law_town ?l__law_town ?c__law_town ?k__law_town ?a__law_draw ?l__law_draw ?c__law_draw ?k__law_draw ?a_is_whole ?l_is_whole ?c_is_whole ?k_is_whole ?a_look_number ?l_look_number ?c_look_number ?k_look_number ?l_Link_init ?c_Link_init ?k_Link_init ?l_Chain_init ?c_Chain_init ?k_Chain_init ?l_Chain_place_of ?c_Chain_place_of ?k_Chain_place_of ?l_Chain_has ?c_Chain_has ?k_Chain_has ?l_Chain_put ?c_Chain_put ?k_Chain_put ?l_Chain_look_hand ?c_Chain_look_hand ?k_Chain_look_hand ?l_Chain_start ?c_Chain_start ?k_Chain_start ?l_Chain_look_in ?c_Chain_look_in ?k_Chain_look_in ?l_Chain_stop ?c_Chain_stop ?k_Chain_stop ?l_Chain_step ?c_Chain_step ?k_Chain_step ?a__law_pick ?l__law_pick ?c__law_pick ?k__law_pick ?a__law_odd ?l__law_odd ?c__law_odd ?k__law_odd ?l_Chain_take_out ?c_Chain_take_out ?k_Chain_take_out ?a__law_did ?l__law_did ?c__law_did ?k__law_did ?a__law_refusal ?l__law_refusal ?c__law_refusal ?k__law_refusal ?a__law_asked ?l__law_asked ?c__law_asked ?k__law_asked ?l_Chain_keys_in ?c_Chain_keys_in ?k_Chain_keys_in ?l_Chain_walkers ?c_Chain_walkers ?k_Chain_walkers ?a_law ?l_law ?c_law ?k_law ?z_ValueError ?z_bool ?z_int ?z_isinstance ?z_len ?z_list ?z_range ?z_set ?z_sorted ?zk_END ?zk_MOST_HANDS ?zk_MOST_KEY
    (case aC_Link => k_is)
    (case aC_Chain => k_is)
    (case aC_BadNumber => k_is)
    (case aC_NoHand => k_is)
    (case aC_IsIn => k_is)
    (case aC_NotIn => k_is)
    (case aC_NoCell => k_is)
    (case aC_NoMark => k_is)
    (case aC_BadPairs => k_is)
    (case aC_Gone => k_is)
    (case aC_NotHeld => k_is)
    (case aC_NotNow => k_is)
    (case aC_StoreError => k_is)
    (case pg_Link => k_is)
    (case hd_Link => k_is)
    (case po_Link => k_is)
    (case sa_Link => k_is)
    (case mk_Link => k_is)
    (case kc_Link => k_is)
    (case ai_Link => k_is)
    (case ii_Link => k_is)
    (case na_Link_key => k_is)
    (case na_Link_after => k_is)
    (case pg_Chain => k_is)
    (case hd_Chain => k_is)
    (case po_Chain => k_is)
    (case sa_Chain => k_is)
    (case mk_Chain => k_is)
    (case kc_Chain => k_is)
    (case ai_Chain => k_is)
    (case ii_Chain => k_is)
    (case na_Chain_hands => k_is)
    (case na_Chain_links => k_is)
    (case na_Chain_made => k_is)
    (case na_Chain_era => k_is)
    (case na_Chain_inside => k_is)
    (case na_Chain_at => k_is)
    (case na_Chain_waits => k_is)
    (case xi_BadNumber => k_exc)
    (case kp_BadNumber => k_is)
    (case sb_BadNumber => k_is)
    (case ty_BadNumber => k_is)
    (case em_BadNumber => kts_exm)
    (case e1_BadNumber => k_is)
    (case e2_BadNumber => k_is)
    (case e4_BadNumber => k_is)
    (case e5_BadNumber => k_is)
    (case e6_BadNumber => k_is)
    (case e7_BadNumber => k_is)
    (case e8_BadNumber => k_is)
    (case ki_BadNumber_BadNumber => kit_is)
    (case ki_BadNumber_NoHand => kit_is)
    (case ki_BadNumber_NoCell => kit_is)
    (case ki_BadNumber_NoMark => kit_is)
    (case ki_BadNumber_IsIn => kit_is)
    (case ki_BadNumber_NotIn => kit_is)
    (case ki_BadNumber_NotHeld => kit_is)
    (case ki_BadNumber_Gone => kit_is)
    (case ki_BadNumber_BadPairs => kit_is)
    (case ki_BadNumber_NotNow => kit_is)
    (case ki_BadNumber_StoreError => kit_is)
    (case kv_BadNumber => kit_is)
    (case xi_NoHand => k_exc)
    (case kp_NoHand => k_is)
    (case sb_NoHand => k_is)
    (case ty_NoHand => k_is)
    (case em_NoHand => kts_exm)
    (case e1_NoHand => k_is)
    (case e2_NoHand => k_is)
    (case e4_NoHand => k_is)
    (case e5_NoHand => k_is)
    (case e6_NoHand => k_is)
    (case e7_NoHand => k_is)
    (case e8_NoHand => k_is)
    (case ki_NoHand_BadNumber => kit_is)
    (case ki_NoHand_NoHand => kit_is)
    (case ki_NoHand_NoCell => kit_is)
    (case ki_NoHand_NoMark => kit_is)
    (case ki_NoHand_IsIn => kit_is)
    (case ki_NoHand_NotIn => kit_is)
    (case ki_NoHand_NotHeld => kit_is)
    (case ki_NoHand_Gone => kit_is)
    (case ki_NoHand_BadPairs => kit_is)
    (case ki_NoHand_NotNow => kit_is)
    (case ki_NoHand_StoreError => kit_is)
    (case kv_NoHand => kit_is)
    (case xi_IsIn => k_exc)
    (case kp_IsIn => k_is)
    (case sb_IsIn => k_is)
    (case ty_IsIn => k_is)
    (case em_IsIn => kts_exm)
    (case e1_IsIn => k_is)
    (case e2_IsIn => k_is)
    (case e4_IsIn => k_is)
    (case e5_IsIn => k_is)
    (case e6_IsIn => k_is)
    (case e7_IsIn => k_is)
    (case e8_IsIn => k_is)
    (case ki_IsIn_BadNumber => kit_is)
    (case ki_IsIn_NoHand => kit_is)
    (case ki_IsIn_NoCell => kit_is)
    (case ki_IsIn_NoMark => kit_is)
    (case ki_IsIn_IsIn => kit_is)
    (case ki_IsIn_NotIn => kit_is)
    (case ki_IsIn_NotHeld => kit_is)
    (case ki_IsIn_Gone => kit_is)
    (case ki_IsIn_BadPairs => kit_is)
    (case ki_IsIn_NotNow => kit_is)
    (case ki_IsIn_StoreError => kit_is)
    (case kv_IsIn => kit_is)
    (case xi_NotIn => k_exc)
    (case kp_NotIn => k_is)
    (case sb_NotIn => k_is)
    (case ty_NotIn => k_is)
    (case em_NotIn => kts_exm)
    (case e1_NotIn => k_is)
    (case e2_NotIn => k_is)
    (case e4_NotIn => k_is)
    (case e5_NotIn => k_is)
    (case e6_NotIn => k_is)
    (case e7_NotIn => k_is)
    (case e8_NotIn => k_is)
    (case ki_NotIn_BadNumber => kit_is)
    (case ki_NotIn_NoHand => kit_is)
    (case ki_NotIn_NoCell => kit_is)
    (case ki_NotIn_NoMark => kit_is)
    (case ki_NotIn_IsIn => kit_is)
    (case ki_NotIn_NotIn => kit_is)
    (case ki_NotIn_NotHeld => kit_is)
    (case ki_NotIn_Gone => kit_is)
    (case ki_NotIn_BadPairs => kit_is)
    (case ki_NotIn_NotNow => kit_is)
    (case ki_NotIn_StoreError => kit_is)
    (case kv_NotIn => kit_is)
    (case am_Chain_place_of => k_is)
    (case am_Chain_has => k_is)
    (case am_Chain_put => k_is)
    (case am_Chain_look_hand => k_is)
    (case am_Chain_start => k_is)
    (case am_Chain_look_in => k_is)
    (case am_Chain_stop => k_is)
    (case am_Chain_step => k_is)
    (case am_Chain_take_out => k_is)
    (case am_Chain_keys_in => k_is)
    (case am_Chain_walkers => k_is)
    (case im_Chain_place_of => k_is)
    (case im_Chain_has => k_is)
    (case im_Chain_put => k_is)
    (case im_Chain_look_hand => k_is)
    (case im_Chain_start => k_is)
    (case im_Chain_look_in => k_is)
    (case im_Chain_stop => k_is)
    (case im_Chain_step => k_is)
    (case im_Chain_take_out => k_is)
    (case im_Chain_keys_in => k_is)
    (case im_Chain_walkers => k_is)
    (case a__law_town => k_is)
    (case l__law_town => k_is)
    (case c__law_town => k_is)
    (case k__law_town => k_is)
    (case a__law_draw => k_is)
    (case l__law_draw => k_is)
    (case c__law_draw => k_is)
    (case k__law_draw => k_is)
    (case a_is_whole => k_is)
    (case l_is_whole => k_is)
    (case c_is_whole => k_is)
    (case k_is_whole => k_is)
    (case a_look_number => k_is)
    (case l_look_number => k_is)
    (case c_look_number => k_is)
    (case k_look_number => k_is)
    (case l_Link_init => k_is)
    (case c_Link_init => k_is)
    (case k_Link_init => k_is)
    (case l_Chain_init => k_is)
    (case c_Chain_init => k_is)
    (case k_Chain_init => k_is)
    (case l_Chain_place_of => k_is)
    (case c_Chain_place_of => k_is)
    (case k_Chain_place_of => k_is)
    (case l_Chain_has => k_is)
    (case c_Chain_has => k_is)
    (case k_Chain_has => k_is)
    (case l_Chain_put => k_is)
    (case c_Chain_put => k_is)
    (case k_Chain_put => k_is)
    (case l_Chain_look_hand => k_is)
    (case c_Chain_look_hand => k_is)
    (case k_Chain_look_hand => k_is)
    (case l_Chain_start => k_is)
    (case c_Chain_start => k_is)
    (case k_Chain_start => k_is)
    (case l_Chain_look_in => k_is)
    (case c_Chain_look_in => k_is)
    (case k_Chain_look_in => k_is)
    (case l_Chain_stop => k_is)
    (case c_Chain_stop => k_is)
    (case k_Chain_stop => k_is)
    (case l_Chain_step => k_is)
    (case c_Chain_step => k_is)
    (case k_Chain_step => k_is)
    (case a__law_pick => k_is)
    (case l__law_pick => k_is)
    (case c__law_pick => k_is)
    (case k__law_pick => k_is)
    (case a__law_odd => k_is)
    (case l__law_odd => k_is)
    (case c__law_odd => k_is)
    (case k__law_odd => k_is)
    (case l_Chain_take_out => k_is)
    (case c_Chain_take_out => k_is)
    (case k_Chain_take_out => k_is)
    (case a__law_did => k_is)
    (case l__law_did => k_is)
    (case c__law_did => k_is)
    (case k__law_did => k_is)
    (case a__law_refusal => k_is)
    (case l__law_refusal => k_is)
    (case c__law_refusal => k_is)
    (case k__law_refusal => k_is)
    (case a__law_asked => k_is)
    (case l__law_asked => k_is)
    (case c__law_asked => k_is)
    (case k__law_asked => k_is)
    (case l_Chain_keys_in => k_is)
    (case c_Chain_keys_in => k_is)
    (case k_Chain_keys_in => k_is)
    (case l_Chain_walkers => k_is)
    (case c_Chain_walkers => k_is)
    (case k_Chain_walkers => k_is)
    (case a_law => k_is)
    (case l_law => k_is)
    (case c_law => k_is)
    (case k_law => k_is)
    (case z_ValueError => k_is)
    (case z_bool => k_is)
    (case z_int => k_is)
    (case z_isinstance => k_is)
    (case z_len => k_is)
    (case z_list => k_is)
    (case z_range => k_is)
    (case z_set => k_is)
    (case z_sorted => k_is)
    (case zk_END => k_is)
    (case zk_MOST_HANDS => k_is)
    (case zk_MOST_KEY => k_is)
