import PyProof.Rows.All
import Wide.All
import OpenK.AllK
import Wide.FinOn
import HandS.ForMost
import HandS.IsInst
import HandS.SortInts
import HandS.Conv
import HandS.More
import HandS.ClsMeth
import HandS.Exc
import HandS.WordsExc
import HandS.ExcValue
import HandS.ExcIs
import HandS.ExcInit
import HandS.ExcField
import HandS.Deep
import HandS.DictComp
import HandS.DictTup
import HandS.Strs
import HandS.SetFor
import HandS.SortRule
import HandS.MakeKw
import HandS.TryOnly
import HandS.Style
import KE.KDictList
import HandS.Small
import PySem.Challenge.RW_lastreader_k02_stores_refused
set_option Elab.async false
set_option linter.all false
set_option maxRecDepth 100000
set_option maxHeartbeats 4000000
/-! The symbolic heap: what stands in H, unit by unit. -/
namespace Sy
open PySem L2
abbrev U := List (Addr × HO)
structure Has (H : Hp) (L : List U) : Prop where
  nd : (L.flatten.map (·.1)).Nodup
  at' : ∀ p ∈ L.flatten, H p.1 = some p.2
theorem Has.all {H : Hp} {L : List U} (h : Has H L) : ∀ p ∈ L.flatten, H p.1 = some p.2 := h.at'
theorem Has.set_at {H : Hp} {A : List U} {a : Addr} {o o2 : HO} {us : U} {L : List U} (h : Has H (A ++ ((a, o) :: us) :: L)) : Has (upd H a o2) (A ++ ((a, o2) :: us) :: L) := by
  have e1 : (A ++ ((a, o) :: us) :: L).flatten = A.flatten ++ (a, o) :: (us ++ L.flatten) := by simp
  have e2 : (A ++ ((a, o2) :: us) :: L).flatten = A.flatten ++ (a, o2) :: (us ++ L.flatten) := by simp
  have hn := h.nd
  have ha := h.at'
  rw [e1] at hn ha
  refine ⟨?_, ?_⟩
  · rw [e2]
    simpa using hn
  · rw [e2]
    rw [List.map_append, List.map_cons, List.nodup_append] at hn
    obtain ⟨n1, n2, n3⟩ := hn
    obtain ⟨n4, n5⟩ := List.nodup_cons.mp n2
    intro p hp
    rcases List.mem_append.mp hp with q | q
    · have ne : p.1 ≠ a := n3 p.1 (List.mem_map.mpr ⟨p, q, rfl⟩) a (List.mem_cons.mpr (.inl rfl))
      rw [upd_ne ne]
      exact ha p (List.mem_append.mpr (.inl q))
    · rcases List.mem_cons.mp q with e | q
      · subst e
        exact upd_same
      · have ne : p.1 ≠ a := fun z => n4 (List.mem_map.mpr ⟨p, q, z⟩)
        rw [upd_ne ne]
        exact ha p (List.mem_append.mpr (.inr (List.mem_cons.mpr (.inr q))))
theorem Has.nw {H : Hp} {L : List U} (h : Has H L) {p : Addr} {o : HO} (hp : H p = none) : Has (upd H p o) ([(p, o)] :: L) := by
  have np : ∀ q ∈ L.flatten, q.1 ≠ p := fun q hq => ne_of_none (h.at' q hq) hp
  refine ⟨?_, ?_⟩
  · show ((p :: L.flatten.map (·.1))).Nodup
    exact List.nodup_cons.mpr ⟨fun m => by obtain ⟨q, hq, e⟩ := List.mem_map.mp m; exact np q hq e, h.nd⟩
  · intro q hq
    have hq : q ∈ (p, o) :: L.flatten := hq
    rcases List.mem_cons.mp hq with e | hq
    · subst e
      exact upd_same
    · rw [upd_ne (np q hq)]
      exact h.at' q hq
theorem Has.nil {H : Hp} : Has H [] := ⟨List.nodup_nil, fun _ h => by cases h⟩
def Sub (T L : List U) : Prop := ∃ G, L.Perm (T ++ G)
theorem Sub.rf {L : List U} : Sub L L := ⟨[], by rw [List.append_nil]⟩
theorem Sub.skip {T L : List U} {u : U} (h : Sub T L) : Sub T (u :: L) := by
  obtain ⟨G, p⟩ := h
  exact ⟨u :: G, ((List.Perm.cons u p).trans List.perm_middle.symm)⟩
theorem Sub.pull {A : List U} {u : U} {T L : List U} (h : Sub T (A ++ L)) : Sub (u :: T) (A ++ u :: L) := by
  obtain ⟨G, p⟩ := h
  exact ⟨G, List.perm_middle.trans (List.Perm.cons u p)⟩
theorem Sub.trans {A B C : List U} (h : Sub A B) (k : Sub B C) : Sub A C := by
  obtain ⟨G, p⟩ := h
  obtain ⟨F, q⟩ := k
  refine ⟨G ++ F, q.trans ?_⟩
  rw [← List.append_assoc]
  exact p.append_right F
theorem flatten_perm {L M : List U} (p : L.Perm M) : L.flatten.Perm M.flatten := by
  induction p with
  | nil => exact List.Perm.refl _
  | cons x _ ih =>
    show (x ++ _).Perm (x ++ _)
    exact ih.append_left x
  | swap x y l =>
    show (y ++ (x ++ l.flatten)).Perm (x ++ (y ++ l.flatten))
    rw [← List.append_assoc, ← List.append_assoc]
    exact List.perm_append_comm.append_right _
  | trans _ _ a b => exact a.trans b
theorem Has.perm {H : Hp} {L M : List U} (h : Has H L) (p : L.Perm M) : Has H M :=
  ⟨((flatten_perm p).map (·.1)).nodup_iff.mp h.nd, fun q hq => h.at' q ((flatten_perm p).mem_iff.mpr hq)⟩
theorem Has.left {H : Hp} {L M : List U} (h : Has H (L ++ M)) : Has H L := by
  obtain ⟨n, a⟩ := h
  rw [List.flatten_append] at n a
  rw [List.map_append] at n
  exact ⟨(List.nodup_append.mp n).1, fun p hp => a p (List.mem_append.mpr (.inl hp))⟩
theorem Has.sub {H : Hp} {T L : List U} (h : Has H L) (s : Sub T L) : Has H T := by
  obtain ⟨G, p⟩ := s
  exact (h.perm p).left
/-- a unit is opened, closed -/
theorem Has.op {H : Hp} {A B : U} {L : List U} : Has H ((A ++ B) :: L) ↔ Has H (A :: B :: L) := by
  constructor
  · rintro ⟨n, a⟩
    exact ⟨by simpa using n, fun p hp => a p (by simpa [or_assoc] using hp)⟩
  · rintro ⟨n, a⟩
    exact ⟨by simpa using n, fun p hp => a p (by simpa [or_assoc] using hp)⟩
theorem Has.cut {H : Hp} {p : Addr × HO} {B : U} {L : List U} (h : Has H ((p :: B) :: L)) : Has H ([p] :: B :: L) := Has.op.mp h
theorem Has.glue {H : Hp} {p : Addr × HO} {B : U} {L : List U} (h : Has H ([p] :: B :: L)) : Has H ((p :: B) :: L) := Has.op.mpr h
theorem Has.nilU {H : Hp} {L : List U} : Has H ([] :: L) ↔ Has H L := ⟨fun ⟨n, a⟩ => ⟨n, a⟩, fun ⟨n, a⟩ => ⟨n, a⟩⟩
theorem Has.cut2 {H : Hp} {p q : Addr × HO} {B : U} {L : List U} (h : Has H ((p :: q :: B) :: L)) : Has H ([p] :: [q] :: B :: L) := Has.perm (Has.cut (Has.perm h.cut (List.Perm.swap _ _ _))) ((List.Perm.cons _ (List.Perm.swap _ _ _)).trans ((List.Perm.swap _ _ _)))
theorem Has.glue2 {H : Hp} {p q : Addr × HO} {B : U} {L : List U} (h : Has H ([p] :: [q] :: B :: L)) : Has H ((p :: q :: B) :: L) := Has.glue (Has.perm (Has.glue (Has.perm h ((List.Perm.swap _ _ _).trans (List.Perm.cons _ (List.Perm.swap _ _ _))))) (List.Perm.swap _ _ _))
theorem Has.g0 {H : Hp} {a : Addr} {o : HO} {us : U} {L : List U} (h : Has H (((a, o) :: us) :: L)) : H a = some o := h.2 (a, o) (by simp)
theorem Has.g1 {H : Hp} {u0 : U} {a : Addr} {o : HO} {us : U} {L : List U} (h : Has H (u0 :: ((a, o) :: us) :: L)) : H a = some o := h.2 (a, o) (by simp)
theorem Has.g2 {H : Hp} {u0 u1 : U} {a : Addr} {o : HO} {us : U} {L : List U} (h : Has H (u0 :: u1 :: ((a, o) :: us) :: L)) : H a = some o := h.2 (a, o) (by simp)
theorem Has.g3 {H : Hp} {u0 u1 u2 : U} {a : Addr} {o : HO} {us : U} {L : List U} (h : Has H (u0 :: u1 :: u2 :: ((a, o) :: us) :: L)) : H a = some o := h.2 (a, o) (by simp)
theorem Has.g4 {H : Hp} {u0 u1 u2 u3 : U} {a : Addr} {o : HO} {us : U} {L : List U} (h : Has H (u0 :: u1 :: u2 :: u3 :: ((a, o) :: us) :: L)) : H a = some o := h.2 (a, o) (by simp)
theorem Has.g5 {H : Hp} {u0 u1 u2 u3 u4 : U} {a : Addr} {o : HO} {us : U} {L : List U} (h : Has H (u0 :: u1 :: u2 :: u3 :: u4 :: ((a, o) :: us) :: L)) : H a = some o := h.2 (a, o) (by simp)
theorem Has.g6 {H : Hp} {u0 u1 u2 u3 u4 u5 : U} {a : Addr} {o : HO} {us : U} {L : List U} (h : Has H (u0 :: u1 :: u2 :: u3 :: u4 :: u5 :: ((a, o) :: us) :: L)) : H a = some o := h.2 (a, o) (by simp)
theorem Has.g7 {H : Hp} {u0 u1 u2 u3 u4 u5 u6 : U} {a : Addr} {o : HO} {us : U} {L : List U} (h : Has H (u0 :: u1 :: u2 :: u3 :: u4 :: u5 :: u6 :: ((a, o) :: us) :: L)) : H a = some o := h.2 (a, o) (by simp)
theorem Has.g8 {H : Hp} {u0 u1 u2 u3 u4 u5 u6 u7 : U} {a : Addr} {o : HO} {us : U} {L : List U} (h : Has H (u0 :: u1 :: u2 :: u3 :: u4 :: u5 :: u6 :: u7 :: ((a, o) :: us) :: L)) : H a = some o := h.2 (a, o) (by simp)
theorem Has.g9 {H : Hp} {u0 u1 u2 u3 u4 u5 u6 u7 u8 : U} {a : Addr} {o : HO} {us : U} {L : List U} (h : Has H (u0 :: u1 :: u2 :: u3 :: u4 :: u5 :: u6 :: u7 :: u8 :: ((a, o) :: us) :: L)) : H a = some o := h.2 (a, o) (by simp)
theorem Has.g10 {H : Hp} {u0 u1 u2 u3 u4 u5 u6 u7 u8 u9 : U} {a : Addr} {o : HO} {us : U} {L : List U} (h : Has H (u0 :: u1 :: u2 :: u3 :: u4 :: u5 :: u6 :: u7 :: u8 :: u9 :: ((a, o) :: us) :: L)) : H a = some o := h.2 (a, o) (by simp)
theorem Has.g11 {H : Hp} {u0 u1 u2 u3 u4 u5 u6 u7 u8 u9 u10 : U} {a : Addr} {o : HO} {us : U} {L : List U} (h : Has H (u0 :: u1 :: u2 :: u3 :: u4 :: u5 :: u6 :: u7 :: u8 :: u9 :: u10 :: ((a, o) :: us) :: L)) : H a = some o := h.2 (a, o) (by simp)
theorem Has.g12 {H : Hp} {u0 u1 u2 u3 u4 u5 u6 u7 u8 u9 u10 u11 : U} {a : Addr} {o : HO} {us : U} {L : List U} (h : Has H (u0 :: u1 :: u2 :: u3 :: u4 :: u5 :: u6 :: u7 :: u8 :: u9 :: u10 :: u11 :: ((a, o) :: us) :: L)) : H a = some o := h.2 (a, o) (by simp)
theorem Has.g13 {H : Hp} {u0 u1 u2 u3 u4 u5 u6 u7 u8 u9 u10 u11 u12 : U} {a : Addr} {o : HO} {us : U} {L : List U} (h : Has H (u0 :: u1 :: u2 :: u3 :: u4 :: u5 :: u6 :: u7 :: u8 :: u9 :: u10 :: u11 :: u12 :: ((a, o) :: us) :: L)) : H a = some o := h.2 (a, o) (by simp)
theorem Has.g14 {H : Hp} {u0 u1 u2 u3 u4 u5 u6 u7 u8 u9 u10 u11 u12 u13 : U} {a : Addr} {o : HO} {us : U} {L : List U} (h : Has H (u0 :: u1 :: u2 :: u3 :: u4 :: u5 :: u6 :: u7 :: u8 :: u9 :: u10 :: u11 :: u12 :: u13 :: ((a, o) :: us) :: L)) : H a = some o := h.2 (a, o) (by simp)
theorem Has.g15 {H : Hp} {u0 u1 u2 u3 u4 u5 u6 u7 u8 u9 u10 u11 u12 u13 u14 : U} {a : Addr} {o : HO} {us : U} {L : List U} (h : Has H (u0 :: u1 :: u2 :: u3 :: u4 :: u5 :: u6 :: u7 :: u8 :: u9 :: u10 :: u11 :: u12 :: u13 :: u14 :: ((a, o) :: us) :: L)) : H a = some o := h.2 (a, o) (by simp)
theorem Has.s0 {H : Hp} {a : Addr} {o o2 : HO} {us : U} {L : List U} (h : Has H (((a, o) :: us) :: L)) : Has (upd H a o2) (((a, o2) :: us) :: L) := Has.set_at (A := []) h
theorem Has.s1 {H : Hp} {u0 : U} {a : Addr} {o o2 : HO} {us : U} {L : List U} (h : Has H (u0 :: ((a, o) :: us) :: L)) : Has (upd H a o2) (u0 :: ((a, o2) :: us) :: L) := Has.set_at (A := [u0]) h
theorem Has.s2 {H : Hp} {u0 u1 : U} {a : Addr} {o o2 : HO} {us : U} {L : List U} (h : Has H (u0 :: u1 :: ((a, o) :: us) :: L)) : Has (upd H a o2) (u0 :: u1 :: ((a, o2) :: us) :: L) := Has.set_at (A := [u0, u1]) h
theorem Has.s3 {H : Hp} {u0 u1 u2 : U} {a : Addr} {o o2 : HO} {us : U} {L : List U} (h : Has H (u0 :: u1 :: u2 :: ((a, o) :: us) :: L)) : Has (upd H a o2) (u0 :: u1 :: u2 :: ((a, o2) :: us) :: L) := Has.set_at (A := [u0, u1, u2]) h
theorem Has.s4 {H : Hp} {u0 u1 u2 u3 : U} {a : Addr} {o o2 : HO} {us : U} {L : List U} (h : Has H (u0 :: u1 :: u2 :: u3 :: ((a, o) :: us) :: L)) : Has (upd H a o2) (u0 :: u1 :: u2 :: u3 :: ((a, o2) :: us) :: L) := Has.set_at (A := [u0, u1, u2, u3]) h
theorem Has.s5 {H : Hp} {u0 u1 u2 u3 u4 : U} {a : Addr} {o o2 : HO} {us : U} {L : List U} (h : Has H (u0 :: u1 :: u2 :: u3 :: u4 :: ((a, o) :: us) :: L)) : Has (upd H a o2) (u0 :: u1 :: u2 :: u3 :: u4 :: ((a, o2) :: us) :: L) := Has.set_at (A := [u0, u1, u2, u3, u4]) h
theorem Has.s6 {H : Hp} {u0 u1 u2 u3 u4 u5 : U} {a : Addr} {o o2 : HO} {us : U} {L : List U} (h : Has H (u0 :: u1 :: u2 :: u3 :: u4 :: u5 :: ((a, o) :: us) :: L)) : Has (upd H a o2) (u0 :: u1 :: u2 :: u3 :: u4 :: u5 :: ((a, o2) :: us) :: L) := Has.set_at (A := [u0, u1, u2, u3, u4, u5]) h
theorem Has.s7 {H : Hp} {u0 u1 u2 u3 u4 u5 u6 : U} {a : Addr} {o o2 : HO} {us : U} {L : List U} (h : Has H (u0 :: u1 :: u2 :: u3 :: u4 :: u5 :: u6 :: ((a, o) :: us) :: L)) : Has (upd H a o2) (u0 :: u1 :: u2 :: u3 :: u4 :: u5 :: u6 :: ((a, o2) :: us) :: L) := Has.set_at (A := [u0, u1, u2, u3, u4, u5, u6]) h
theorem Has.s8 {H : Hp} {u0 u1 u2 u3 u4 u5 u6 u7 : U} {a : Addr} {o o2 : HO} {us : U} {L : List U} (h : Has H (u0 :: u1 :: u2 :: u3 :: u4 :: u5 :: u6 :: u7 :: ((a, o) :: us) :: L)) : Has (upd H a o2) (u0 :: u1 :: u2 :: u3 :: u4 :: u5 :: u6 :: u7 :: ((a, o2) :: us) :: L) := Has.set_at (A := [u0, u1, u2, u3, u4, u5, u6, u7]) h
theorem Has.s9 {H : Hp} {u0 u1 u2 u3 u4 u5 u6 u7 u8 : U} {a : Addr} {o o2 : HO} {us : U} {L : List U} (h : Has H (u0 :: u1 :: u2 :: u3 :: u4 :: u5 :: u6 :: u7 :: u8 :: ((a, o) :: us) :: L)) : Has (upd H a o2) (u0 :: u1 :: u2 :: u3 :: u4 :: u5 :: u6 :: u7 :: u8 :: ((a, o2) :: us) :: L) := Has.set_at (A := [u0, u1, u2, u3, u4, u5, u6, u7, u8]) h
theorem Has.s10 {H : Hp} {u0 u1 u2 u3 u4 u5 u6 u7 u8 u9 : U} {a : Addr} {o o2 : HO} {us : U} {L : List U} (h : Has H (u0 :: u1 :: u2 :: u3 :: u4 :: u5 :: u6 :: u7 :: u8 :: u9 :: ((a, o) :: us) :: L)) : Has (upd H a o2) (u0 :: u1 :: u2 :: u3 :: u4 :: u5 :: u6 :: u7 :: u8 :: u9 :: ((a, o2) :: us) :: L) := Has.set_at (A := [u0, u1, u2, u3, u4, u5, u6, u7, u8, u9]) h
theorem Has.s11 {H : Hp} {u0 u1 u2 u3 u4 u5 u6 u7 u8 u9 u10 : U} {a : Addr} {o o2 : HO} {us : U} {L : List U} (h : Has H (u0 :: u1 :: u2 :: u3 :: u4 :: u5 :: u6 :: u7 :: u8 :: u9 :: u10 :: ((a, o) :: us) :: L)) : Has (upd H a o2) (u0 :: u1 :: u2 :: u3 :: u4 :: u5 :: u6 :: u7 :: u8 :: u9 :: u10 :: ((a, o2) :: us) :: L) := Has.set_at (A := [u0, u1, u2, u3, u4, u5, u6, u7, u8, u9, u10]) h
theorem Has.s12 {H : Hp} {u0 u1 u2 u3 u4 u5 u6 u7 u8 u9 u10 u11 : U} {a : Addr} {o o2 : HO} {us : U} {L : List U} (h : Has H (u0 :: u1 :: u2 :: u3 :: u4 :: u5 :: u6 :: u7 :: u8 :: u9 :: u10 :: u11 :: ((a, o) :: us) :: L)) : Has (upd H a o2) (u0 :: u1 :: u2 :: u3 :: u4 :: u5 :: u6 :: u7 :: u8 :: u9 :: u10 :: u11 :: ((a, o2) :: us) :: L) := Has.set_at (A := [u0, u1, u2, u3, u4, u5, u6, u7, u8, u9, u10, u11]) h
theorem Has.s13 {H : Hp} {u0 u1 u2 u3 u4 u5 u6 u7 u8 u9 u10 u11 u12 : U} {a : Addr} {o o2 : HO} {us : U} {L : List U} (h : Has H (u0 :: u1 :: u2 :: u3 :: u4 :: u5 :: u6 :: u7 :: u8 :: u9 :: u10 :: u11 :: u12 :: ((a, o) :: us) :: L)) : Has (upd H a o2) (u0 :: u1 :: u2 :: u3 :: u4 :: u5 :: u6 :: u7 :: u8 :: u9 :: u10 :: u11 :: u12 :: ((a, o2) :: us) :: L) := Has.set_at (A := [u0, u1, u2, u3, u4, u5, u6, u7, u8, u9, u10, u11, u12]) h
theorem Has.s14 {H : Hp} {u0 u1 u2 u3 u4 u5 u6 u7 u8 u9 u10 u11 u12 u13 : U} {a : Addr} {o o2 : HO} {us : U} {L : List U} (h : Has H (u0 :: u1 :: u2 :: u3 :: u4 :: u5 :: u6 :: u7 :: u8 :: u9 :: u10 :: u11 :: u12 :: u13 :: ((a, o) :: us) :: L)) : Has (upd H a o2) (u0 :: u1 :: u2 :: u3 :: u4 :: u5 :: u6 :: u7 :: u8 :: u9 :: u10 :: u11 :: u12 :: u13 :: ((a, o2) :: us) :: L) := Has.set_at (A := [u0, u1, u2, u3, u4, u5, u6, u7, u8, u9, u10, u11, u12, u13]) h
theorem Has.s15 {H : Hp} {u0 u1 u2 u3 u4 u5 u6 u7 u8 u9 u10 u11 u12 u13 u14 : U} {a : Addr} {o o2 : HO} {us : U} {L : List U} (h : Has H (u0 :: u1 :: u2 :: u3 :: u4 :: u5 :: u6 :: u7 :: u8 :: u9 :: u10 :: u11 :: u12 :: u13 :: u14 :: ((a, o) :: us) :: L)) : Has (upd H a o2) (u0 :: u1 :: u2 :: u3 :: u4 :: u5 :: u6 :: u7 :: u8 :: u9 :: u10 :: u11 :: u12 :: u13 :: u14 :: ((a, o2) :: us) :: L) := Has.set_at (A := [u0, u1, u2, u3, u4, u5, u6, u7, u8, u9, u10, u11, u12, u13, u14]) h
theorem Sub.p0 {u : U} {T L : List U} (h : Sub T L) : Sub (u :: T) (u :: L) := Sub.pull (A := []) h
theorem Sub.p1 {u0 u : U} {T L : List U} (h : Sub T (u0 :: L)) : Sub (u :: T) (u0 :: u :: L) := Sub.pull (A := [u0]) h
theorem Sub.p2 {u0 u1 u : U} {T L : List U} (h : Sub T (u0 :: u1 :: L)) : Sub (u :: T) (u0 :: u1 :: u :: L) := Sub.pull (A := [u0, u1]) h
theorem Sub.p3 {u0 u1 u2 u : U} {T L : List U} (h : Sub T (u0 :: u1 :: u2 :: L)) : Sub (u :: T) (u0 :: u1 :: u2 :: u :: L) := Sub.pull (A := [u0, u1, u2]) h
theorem Sub.p4 {u0 u1 u2 u3 u : U} {T L : List U} (h : Sub T (u0 :: u1 :: u2 :: u3 :: L)) : Sub (u :: T) (u0 :: u1 :: u2 :: u3 :: u :: L) := Sub.pull (A := [u0, u1, u2, u3]) h
theorem Sub.p5 {u0 u1 u2 u3 u4 u : U} {T L : List U} (h : Sub T (u0 :: u1 :: u2 :: u3 :: u4 :: L)) : Sub (u :: T) (u0 :: u1 :: u2 :: u3 :: u4 :: u :: L) := Sub.pull (A := [u0, u1, u2, u3, u4]) h
theorem Sub.p6 {u0 u1 u2 u3 u4 u5 u : U} {T L : List U} (h : Sub T (u0 :: u1 :: u2 :: u3 :: u4 :: u5 :: L)) : Sub (u :: T) (u0 :: u1 :: u2 :: u3 :: u4 :: u5 :: u :: L) := Sub.pull (A := [u0, u1, u2, u3, u4, u5]) h
theorem Sub.p7 {u0 u1 u2 u3 u4 u5 u6 u : U} {T L : List U} (h : Sub T (u0 :: u1 :: u2 :: u3 :: u4 :: u5 :: u6 :: L)) : Sub (u :: T) (u0 :: u1 :: u2 :: u3 :: u4 :: u5 :: u6 :: u :: L) := Sub.pull (A := [u0, u1, u2, u3, u4, u5, u6]) h
theorem Sub.p8 {u0 u1 u2 u3 u4 u5 u6 u7 u : U} {T L : List U} (h : Sub T (u0 :: u1 :: u2 :: u3 :: u4 :: u5 :: u6 :: u7 :: L)) : Sub (u :: T) (u0 :: u1 :: u2 :: u3 :: u4 :: u5 :: u6 :: u7 :: u :: L) := Sub.pull (A := [u0, u1, u2, u3, u4, u5, u6, u7]) h
theorem Sub.p9 {u0 u1 u2 u3 u4 u5 u6 u7 u8 u : U} {T L : List U} (h : Sub T (u0 :: u1 :: u2 :: u3 :: u4 :: u5 :: u6 :: u7 :: u8 :: L)) : Sub (u :: T) (u0 :: u1 :: u2 :: u3 :: u4 :: u5 :: u6 :: u7 :: u8 :: u :: L) := Sub.pull (A := [u0, u1, u2, u3, u4, u5, u6, u7, u8]) h
theorem Sub.p10 {u0 u1 u2 u3 u4 u5 u6 u7 u8 u9 u : U} {T L : List U} (h : Sub T (u0 :: u1 :: u2 :: u3 :: u4 :: u5 :: u6 :: u7 :: u8 :: u9 :: L)) : Sub (u :: T) (u0 :: u1 :: u2 :: u3 :: u4 :: u5 :: u6 :: u7 :: u8 :: u9 :: u :: L) := Sub.pull (A := [u0, u1, u2, u3, u4, u5, u6, u7, u8, u9]) h
theorem Sub.p11 {u0 u1 u2 u3 u4 u5 u6 u7 u8 u9 u10 u : U} {T L : List U} (h : Sub T (u0 :: u1 :: u2 :: u3 :: u4 :: u5 :: u6 :: u7 :: u8 :: u9 :: u10 :: L)) : Sub (u :: T) (u0 :: u1 :: u2 :: u3 :: u4 :: u5 :: u6 :: u7 :: u8 :: u9 :: u10 :: u :: L) := Sub.pull (A := [u0, u1, u2, u3, u4, u5, u6, u7, u8, u9, u10]) h
theorem Sub.p12 {u0 u1 u2 u3 u4 u5 u6 u7 u8 u9 u10 u11 u : U} {T L : List U} (h : Sub T (u0 :: u1 :: u2 :: u3 :: u4 :: u5 :: u6 :: u7 :: u8 :: u9 :: u10 :: u11 :: L)) : Sub (u :: T) (u0 :: u1 :: u2 :: u3 :: u4 :: u5 :: u6 :: u7 :: u8 :: u9 :: u10 :: u11 :: u :: L) := Sub.pull (A := [u0, u1, u2, u3, u4, u5, u6, u7, u8, u9, u10, u11]) h
theorem Sub.p13 {u0 u1 u2 u3 u4 u5 u6 u7 u8 u9 u10 u11 u12 u : U} {T L : List U} (h : Sub T (u0 :: u1 :: u2 :: u3 :: u4 :: u5 :: u6 :: u7 :: u8 :: u9 :: u10 :: u11 :: u12 :: L)) : Sub (u :: T) (u0 :: u1 :: u2 :: u3 :: u4 :: u5 :: u6 :: u7 :: u8 :: u9 :: u10 :: u11 :: u12 :: u :: L) := Sub.pull (A := [u0, u1, u2, u3, u4, u5, u6, u7, u8, u9, u10, u11, u12]) h
theorem Sub.p14 {u0 u1 u2 u3 u4 u5 u6 u7 u8 u9 u10 u11 u12 u13 u : U} {T L : List U} (h : Sub T (u0 :: u1 :: u2 :: u3 :: u4 :: u5 :: u6 :: u7 :: u8 :: u9 :: u10 :: u11 :: u12 :: u13 :: L)) : Sub (u :: T) (u0 :: u1 :: u2 :: u3 :: u4 :: u5 :: u6 :: u7 :: u8 :: u9 :: u10 :: u11 :: u12 :: u13 :: u :: L) := Sub.pull (A := [u0, u1, u2, u3, u4, u5, u6, u7, u8, u9, u10, u11, u12, u13]) h
theorem Sub.p15 {u0 u1 u2 u3 u4 u5 u6 u7 u8 u9 u10 u11 u12 u13 u14 u : U} {T L : List U} (h : Sub T (u0 :: u1 :: u2 :: u3 :: u4 :: u5 :: u6 :: u7 :: u8 :: u9 :: u10 :: u11 :: u12 :: u13 :: u14 :: L)) : Sub (u :: T) (u0 :: u1 :: u2 :: u3 :: u4 :: u5 :: u6 :: u7 :: u8 :: u9 :: u10 :: u11 :: u12 :: u13 :: u14 :: u :: L) := Sub.pull (A := [u0, u1, u2, u3, u4, u5, u6, u7, u8, u9, u10, u11, u12, u13, u14]) h
/-! Steps: a reading, rule by rule, over the symbolic heap. -/
theorem Has.cut3 {H : Hp} {p q r : Addr × HO} {B : U} {L : List U} (h : Has H ((p :: q :: r :: B) :: L)) : Has H ([p] :: [q] :: [r] :: B :: L) := (Has.cut (h.cut2.sub (Sub.p2 Sub.rf))).sub (Sub.p2 (Sub.p2 (Sub.p0 (Sub.p0 Sub.rf))))
theorem Has.glue3 {H : Hp} {p q r : Addr × HO} {B : U} {L : List U} (h : Has H ([p] :: [q] :: [r] :: B :: L)) : Has H ((p :: q :: r :: B) :: L) := Has.glue2 ((Has.glue (h.sub (Sub.p2 (Sub.p2 Sub.rf)))).sub (Sub.p1 (Sub.p1 (Sub.p0 Sub.rf))))
section
variable {K : PySem.W.Frag} {σ : St} {H H1 : Hp} {L : List U} {Q : VK} {QT : Bool → Hp → Prop} {QA : List V → Hp → Prop} {QS : St → Hp → Prop} {ta tb tc te tv td ty tx : TE} {t u c : TT} {tr : TA} {v w x y z : V} {xs ys : List V} {i j n m : Int} {a b p : Addr} {f : Str} {C dx : Addr} {fs : List (Str × V)} {nx bk ct : St → Hp → Prop} {rt : VK} {s1 s2 : TS} {A B : Prop} {k : Nat} {D : Ends}
/-! ### names, constants, operators -/
theorem x_var {k : Nat} (h : σ[k]? = some (some v)) (q : Q v H) : tVar k σ H Q := ⟨v, h, q⟩
theorem x_c (q : Q v H) : tC v σ H Q := q
theorem x_op {r : R2} (q : ta σ H fun x H1 => tb σ H1 fun y H2 => r x y H2 Q) : tOp r ta tb σ H Q := q
theorem x_un {r : V → Hp → VK → Prop} (q : ta σ H fun x H1 => r x H1 Q) : tUn r ta σ H Q := q
def rAddI : R2 := rI0 fun i j => .int (i + j)
def rSubI : R2 := rI0 fun i j => .int (i - j)
def rMulI : R2 := rI CMul fun i j => .int (i * j)
def rDivI : R2 := rI CDiv fun i j => .int (i / j)
def rModI : R2 := rI (fun _ j => 0 < j) fun i j => .int (i % j)
def rPowI : R2 := rI CPow fun i j => .int (i ^ j.toNat)
def rLtI : R2 := rI0 fun i j => .bl (decide (i < j))
def rLeI : R2 := rI0 fun i j => .bl (decide (i ≤ j))
def rGtI : R2 := rI0 fun i j => .bl (decide (j < i))
def rGeI : R2 := rI0 fun i j => .bl (decide (j ≤ i))
def rIsNo : R2 := fun x y H Q => y = .non ∧ Q (.bl (decide (x = .non))) H
def rNotNo : R2 := fun x y H Q => y = .non ∧ Q (.bl (!decide (x = .non))) H
theorem op_addI {X : Cx} : OpR X (binaryOp .Add) rAddI := op_add
theorem op_subI {X : Cx} : OpR X (binaryOp .Sub) rSubI := op_sub
theorem op_mulI {X : Cx} : OpR X (binaryOp .Mult) rMulI := op_mul
theorem op_divI {X : Cx} : OpR X (binaryOp .FloorDiv) rDivI := op_fdiv
theorem op_modI {X : Cx} : OpR X (binaryOp .Mod) rModI := op_mod
theorem op_powI {X : Cx} : OpR X (binaryOp .Pow) rPowI := op_pow
theorem op_ltI {X : Cx} : OpR X (compareOp .Lt) rLtI := op_lt
theorem op_leI {X : Cx} : OpR X (compareOp .LtE) rLeI := op_le
theorem op_gtI {X : Cx} : OpR X (compareOp .Gt) rGtI := op_gt
theorem op_geI {X : Cx} : OpR X (compareOp .GtE) rGeI := op_ge
theorem op_isNo {X : Cx} : OpR X (compareOp .Is) rIsNo := op_isN
theorem op_notNo {X : Cx} : OpR X (compareOp .IsNot) rNotNo := op_notN
theorem k_addI (q : Q (.int (i + j)) H) : rAddI (.int i) (.int j) H Q := ⟨i, j, rfl, rfl, q⟩
theorem k_subI (q : Q (.int (i - j)) H) : rSubI (.int i) (.int j) H Q := ⟨i, j, rfl, rfl, q⟩
theorem k_mulI (h : CMul i j) (q : Q (.int (i * j)) H) : rMulI (.int i) (.int j) H Q := ⟨i, j, rfl, rfl, h, q⟩
theorem k_divI (h : CDiv i j) (q : Q (.int (i / j)) H) : rDivI (.int i) (.int j) H Q := ⟨i, j, rfl, rfl, h, q⟩
theorem k_modI (h : 0 < j) (q : Q (.int (i % j)) H) : rModI (.int i) (.int j) H Q := ⟨i, j, rfl, rfl, h, q⟩
theorem k_powI (h : CPow i j) (q : Q (.int (i ^ j.toNat)) H) : rPowI (.int i) (.int j) H Q := ⟨i, j, rfl, rfl, h, q⟩
theorem k_ltI (q : Q (.bl (decide (i < j))) H) : rLtI (.int i) (.int j) H Q := ⟨i, j, rfl, rfl, q⟩
theorem k_leI (q : Q (.bl (decide (i ≤ j))) H) : rLeI (.int i) (.int j) H Q := ⟨i, j, rfl, rfl, q⟩
theorem k_gtI (q : Q (.bl (decide (j < i))) H) : rGtI (.int i) (.int j) H Q := ⟨i, j, rfl, rfl, q⟩
theorem k_geI (q : Q (.bl (decide (j ≤ i))) H) : rGeI (.int i) (.int j) H Q := ⟨i, j, rfl, rfl, q⟩
theorem k_isNo (q : Q (.bl (decide (x = .non))) H) : rIsNo x .non H Q := ⟨rfl, q⟩
theorem k_isNo0 (q : Q (.bl true) H) : rIsNo .non .non H Q := ⟨rfl, q⟩
theorem k_isNoI (q : Q (.bl false) H) : rIsNo (.int i) .non H Q := ⟨rfl, q⟩
theorem k_isNoR (q : Q (.bl false) H) : rIsNo (.ref a) .non H Q := ⟨rfl, q⟩
theorem k_notNo0 (q : Q (.bl false) H) : rNotNo .non .non H Q := ⟨rfl, q⟩
theorem k_notNoI (q : Q (.bl true) H) : rNotNo (.int i) .non H Q := ⟨rfl, q⟩
theorem k_notNoR (q : Q (.bl true) H) : rNotNo (.ref a) .non H Q := ⟨rfl, q⟩
theorem k_notNo (q : Q (.bl (!decide (x = .non))) H) : rNotNo x .non H Q := ⟨rfl, q⟩
theorem dI_eq : decide (V.int i = V.int j) = decide (i = j) := by
  by_cases h : i = j
  · subst h; simp
  · rw [decide_eq_false h, decide_eq_false fun q => h (V.int.inj q)]
theorem dB_eq {i j : Bool} : decide (V.bl i = V.bl j) = decide (i = j) := by
  by_cases h : i = j
  · subst h; simp
  · rw [decide_eq_false h, decide_eq_false fun q => h (V.bl.inj q)]
theorem dS_eq {i j : Str} : decide (V.str i = V.str j) = decide (i = j) := by
  by_cases h : i = j
  · subst h; simp
  · rw [decide_eq_false h, decide_eq_false fun q => h (V.str.inj q)]
theorem k_eqI (q : Q (.bl (decide (i = j))) H) : rEq (.int i) (.int j) H Q := ⟨rfl, by rw [dI_eq]; exact q⟩
theorem k_neI (q : Q (.bl (!decide (i = j))) H) : rNe (.int i) (.int j) H Q := ⟨rfl, by rw [dI_eq]; exact q⟩
theorem k_eqB {i j : Bool} (q : Q (.bl (decide (i = j))) H) : rEq (.bl i) (.bl j) H Q := ⟨rfl, by rw [dB_eq]; exact q⟩
theorem k_neB {i j : Bool} (q : Q (.bl (!decide (i = j))) H) : rNe (.bl i) (.bl j) H Q := ⟨rfl, by rw [dB_eq]; exact q⟩
theorem k_eqS {i j : Str} (q : Q (.bl (decide (i = j))) H) : rEq (.str i) (.str j) H Q := ⟨rfl, by rw [dS_eq]; exact q⟩
theorem k_neS {i j : Str} (q : Q (.bl (!decide (i = j))) H) : rNe (.str i) (.str j) H Q := ⟨rfl, by rw [dS_eq]; exact q⟩
theorem k_eqIN (q : Q (.bl false) H) : rEq (.int i) .non H Q := ⟨rfl, q⟩
theorem k_eqNI (q : Q (.bl false) H) : rEq .non (.int i) H Q := ⟨rfl, q⟩
theorem k_eqNN (q : Q (.bl true) H) : rEq .non .non H Q := ⟨rfl, q⟩
theorem k_neIN (q : Q (.bl true) H) : rNe (.int i) .non H Q := ⟨rfl, q⟩
theorem k_neNI (q : Q (.bl true) H) : rNe .non (.int i) H Q := ⟨rfl, q⟩
theorem k_neNN (q : Q (.bl false) H) : rNe .non .non H Q := ⟨rfl, q⟩
/-! ### tests -/
def kB (x : V) (H : Hp) (Q : Bool → Hp → Prop) : Prop := ∃ k, x = .bl k ∧ Q k H
theorem x_test (q : te σ H fun x H' => kB x H' QT) : tTest te σ H QT := q
theorem x_tB (q : te σ H fun x H' => kB x H' QT) : tB te σ H QT := q
theorem k_b {b : Bool} (q : QT b H) : kB (.bl b) H QT := ⟨b, rfl, q⟩
theorem x_and (q : t σ H fun c H1 => if c = true then u σ H1 QT else QT false H1) : tAnd t u σ H QT := q
theorem x_or (q : t σ H fun c H1 => if c = true then QT true H1 else u σ H1 QT) : tOr t u σ H QT := q
theorem x_not (q : t σ H fun c H1 => QT (!c) H1) : tNot t σ H QT := q
def kAndV (tb : TE) (σ : St) (x : V) (H1 : Hp) (Q : VK) : Prop := ∃ c, x = .bl c ∧ if c = true then tb σ H1 Q else Q (.bl false) H1
def kOrV (tb : TE) (σ : St) (x : V) (H1 : Hp) (Q : VK) : Prop := ∃ c, x = .bl c ∧ if c = true then Q (.bl true) H1 else tb σ H1 Q
def kNotV (x : V) (H1 : Hp) (Q : VK) : Prop := ∃ c, x = .bl c ∧ Q (.bl (!c)) H1
theorem x_andV (q : ta σ H fun x H1 => kAndV tb σ x H1 Q) : tAndV ta tb σ H Q := q
theorem x_orV (q : ta σ H fun x H1 => kOrV tb σ x H1 Q) : tOrV ta tb σ H Q := q
theorem x_notV (q : ta σ H fun x H1 => kNotV x H1 Q) : tNotV ta σ H Q := q
theorem k_andV {c : Bool} (q : if c = true then tb σ H Q else Q (.bl false) H) : kAndV tb σ (.bl c) H Q := ⟨c, rfl, q⟩
theorem k_orV {c : Bool} (q : if c = true then Q (.bl true) H else tb σ H Q) : kOrV tb σ (.bl c) H Q := ⟨c, rfl, q⟩
theorem k_notV {c : Bool} (q : Q (.bl (!c)) H) : kNotV (.bl c) H Q := ⟨c, rfl, q⟩
theorem k_notVt (q : Q (.bl false) H) : kNotV (.bl true) H Q := ⟨true, rfl, q⟩
theorem k_notVf (q : Q (.bl true) H) : kNotV (.bl false) H Q := ⟨false, rfl, q⟩
theorem x_ifE (q : t σ H fun c H1 => if c = true then ta σ H1 Q else tb σ H1 Q) : tIf t ta tb σ H Q := q
def kChain (r' : R2) (tc : TE) (σ : St) (y z : V) (H3 : Hp) (Q : VK) : Prop := ∃ k, z = .bl k ∧ (if k = true then tc σ H3 fun w' H4 => r' y w' H4 Q else Q (.bl false) H3)
theorem x_chain {r r' : R2} (q : ta σ H fun x H1 => tb σ H1 fun y H2 => r x y H2 fun z H3 => kChain r' tc σ y z H3 Q) : tChain r r' ta tb tc σ H Q := q
theorem k_chain {r' : R2} {c : Bool} (q : if c = true then tc σ H fun w' H4 => r' y w' H4 Q else Q (.bl false) H) : kChain r' tc σ y (.bl c) H Q := ⟨c, rfl, q⟩
theorem ifT (q : A) : if true = true then A else B := by rw [if_pos rfl]; exact q
theorem ifF (q : B) : if false = true then A else B := by rw [if_neg Bool.false_ne_true]; exact q
theorem ifNT (q : B) : if (!true) = true then A else B := ifF q
theorem ifNF (q : A) : if (!false) = true then A else B := ifT q
theorem ifY {c : Bool} (h : c = true) (q : A) : if c = true then A else B := by rw [if_pos h]; exact q
theorem ifN {c : Bool} (h : c = false) (q : B) : if c = true then A else B := by rw [h, if_neg Bool.false_ne_true]; exact q
theorem ifB {c : Bool} (h : c = true → A) (g : c = false → B) : if c = true then A else B := by
  cases c with
  | true => rw [if_pos rfl]; exact h rfl
  | false => rw [if_neg Bool.false_ne_true]; exact g rfl
theorem ifD {c : Prop} [Decidable c] (h : c → A) (g : ¬ c → B) : if decide c = true then A else B := ifB (fun q => h (of_decide_eq_true q)) fun q => g (of_decide_eq_false q)
theorem ifE {c : Prop} [Decidable c] (h : ¬ c → A) (g : c → B) : if (!decide c) = true then A else B := ifB (fun q => h (by simpa using q)) fun q => g (by simpa using q)
/-! ### statements -/
theorem x_seq (q : s1 ⟨s2 ⟨nx, rt, bk, ct⟩, rt, bk, ct⟩ σ H) : tSeq s1 s2 ⟨nx, rt, bk, ct⟩ σ H := q
theorem x_next (q : nx σ H) : tNext ⟨nx, rt, bk, ct⟩ σ H := q
theorem x_brk (q : bk σ H) : tBreak ⟨nx, rt, bk, ct⟩ σ H := q
theorem x_ct (q : ct σ H) : tCont ⟨nx, rt, bk, ct⟩ σ H := q
theorem x_drop (q : te σ H fun _ H1 => nx σ H1) : tDrop te ⟨nx, rt, bk, ct⟩ σ H := q
theorem x_ret (q : te σ H rt) : tRet te ⟨nx, rt, bk, ct⟩ σ H := q
theorem x_retN (q : rt .non H) : tRetN ⟨nx, rt, bk, ct⟩ σ H := q
theorem x_if (q : c σ H fun b H1 => if b = true then s1 ⟨nx, rt, bk, ct⟩ σ H1 else s2 ⟨nx, rt, bk, ct⟩ σ H1) : tIfS c s1 s2 ⟨nx, rt, bk, ct⟩ σ H := q
theorem x_asg {g : TG} (q : te σ H fun x H1 => g x σ H1 nx) : tAsg te g ⟨nx, rt, bk, ct⟩ σ H := q
theorem x_gname {k : Nat} (q : QS (σ.set k (some v)) H) : gName k v σ H QS := q
theorem x_gtup {k : Nat} {g : TGs} (hp : H a = some (.tup xs)) (hl : xs.length = k) (q : g xs σ H QS) : gTup K k g (.ref a) σ H QS := ⟨a, xs, rfl, SqT.of hp, hl, q⟩
theorem x_gcons {g : TG} {gs : TGs} (q : g v σ H fun σ' H' => gs xs σ' H' QS) : gCons g gs (v :: xs) σ H QS := ⟨v, xs, rfl, q⟩
theorem x_gnil (q : QS σ H) : gNil [] σ H QS := ⟨rfl, q⟩
theorem x_gsub {s : TSet} (q : ta σ H fun o H1 => tb σ H1 fun i H2 => s o i v H2 fun H3 => QS σ H3) : gSub ta tb s v σ H QS := q
theorem k_setL {Q : Hp → Prop} {k : Nat} {M : List U} (hp : H p = some (.lst xs)) (hk : ixN xs.length i = some k) (hh : Has (upd H p (.lst (xs.set k v))) M) (q : ∀ H', Has H' M → Q H') : rSetL (.ref p) (.int i) v H Q := ⟨p, xs, i, k, rfl, rfl, hp, hk, q _ hh⟩
def kPar (i j : Nat) (nx : St → Hp → Prop) (σ : St) (vs : List V) (H1 : Hp) : Prop := ∃ v w, vs = [v, w] ∧ nx ((σ.set i (some v)).set j (some w)) H1
theorem x_par {i j : Nat} (q : tr σ H fun vs H1 => kPar i j nx σ vs H1) : tPar i j tr ⟨nx, rt, bk, ct⟩ σ H := q
theorem k_par {i j : Nat} (q : nx ((σ.set i (some v)).set j (some w)) H) : kPar i j nx σ [v, w] H := ⟨v, w, rfl, q⟩
/-! ### fields -/
def kFld (K : PySem.W.Frag) (f : Str) (x : V) (H1 : Hp) (Q : VK) : Prop := ∃ a C dx fs v, x = .ref a ∧ H1 a = some (.ins C dx fs) ∧ Cls K C ∧ NoAttr K C f ∧ fs.lookup f = some v ∧ Q v H1
theorem x_fld (q : ta σ H fun x H1 => kFld K f x H1 Q) : tFld K ta f σ H Q := q
theorem k_fld (hp : H a = some (.ins C dx fs)) (hc : Cls K C) (hn : NoAttr K C f) (hl : fs.lookup f = some v) (q : Q v H) : kFld K f (.ref a) H Q := ⟨a, C, dx, fs, v, rfl, hp, hc, hn, hl, q⟩
def kSFld (K : PySem.W.Frag) (f : Str) (nx : St → Hp → Prop) (σ : St) (y x : V) (H2 : Hp) : Prop := ∃ a C dx fs, x = .ref a ∧ H2 a = some (.ins C dx fs) ∧ Cls K C ∧ NoAttr K C f ∧ fs.length < 1000 ∧ nx σ (upd H2 a (.ins C dx (putF f y fs)))
theorem x_sfld (q : tv σ H fun y H1 => ta σ H1 fun x H2 => kSFld K f nx σ y x H2) : sFld K ta tv f ⟨nx, rt, bk, ct⟩ σ H := q
theorem k_sfld {M : List U} {gs : List (Str × V)} (hp : H a = some (.ins C dx fs)) (hc : Cls K C) (hn : NoAttr K C f) (hl : fs.length < 1000) (he : putF f y fs = gs) (hh : Has (upd H a (.ins C dx gs)) M) (q : ∀ H', Has H' M → nx σ H') : kSFld K f nx σ y (.ref a) H :=
  ⟨a, C, dx, fs, rfl, hp, hc, hn, hl, by rw [he]; exact q _ hh⟩
/-! ### lists, tuples -/
theorem x_nil (q : QA [] H) : tNil σ H QA := q
theorem x_cons (q : ta σ H fun x H1 => tr σ H1 fun xs H2 => QA (x :: xs) H2) : tCons ta tr σ H QA := q
def kLst (xs : List V) (H1 : Hp) (Q : VK) : Prop := xs.length ≤ sizeLine ∧ ∀ p, H1 p = none → Q (.ref p) (upd H1 p (.lst xs))
def kTupN (xs : List V) (H1 : Hp) (Q : VK) : Prop := xs.length ≤ sizeLine ∧ ∀ p, H1 p = none → Q (.ref p) (upd H1 p (.tup xs))
theorem x_lst (q : tr σ H fun xs H1 => kLst xs H1 Q) : tLst tr σ H Q := q
theorem x_tup (q : tr σ H fun xs H1 => kTupN xs H1 Q) : tTup tr σ H Q := q
theorem k_lst (hh : Has H L) (hl : xs.length ≤ sizeLine) (q : ∀ p H', Has H' ([(p, .lst xs)] :: L) → Q (.ref p) H') : kLst xs H Q := ⟨hl, fun p hp => q p _ (hh.nw hp)⟩
theorem k_tupN (hh : Has H L) (hl : xs.length ≤ sizeLine) (q : ∀ p H', Has H' ([(p, .tup xs)] :: L) → Q (.ref p) H') : kTupN xs H Q := ⟨hl, fun p hp => q p _ (hh.nw hp)⟩
theorem k_ixL (hp : H p = some (.lst xs)) (hi : atI xs i = some v) (q : Q v H) : rIxL K (.ref p) (.int i) H Q := ⟨p, xs, i, v, rfl, rfl, SqL.of hp, hi, q⟩
theorem k_ixT (hp : H p = some (.tup xs)) (hi : atI xs i = some v) (q : Q v H) : rIxT K (.ref p) (.int i) H Q := ⟨p, xs, i, v, rfl, rfl, SqT.of hp, hi, q⟩
theorem at_n {α : Type} {zs : List α} {d : Int} {v : α} (h0 : 0 ≤ d) (h : zs[d.toNat]? = some v) : atI zs d = some v := by
  obtain ⟨j, rfl⟩ := Int.eq_ofNat_of_zero_le h0
  exact atI_nat h
def kTy (K : PySem.W.Frag) (T : String) (x : V) (H1 : Hp) (A : Prop) : Prop := tyV K T x H1 ∧ A
theorem x_bm {T : String} {r : V → List V → Hp → VK → Prop} (q : ta σ H fun x H1 => kTy K T x H1 (tr σ H1 fun xs H2 => r x xs H2 Q)) : tBM K T r ta tr σ H Q := q
theorem x_bm0 {T : String} {r : V → List V → Hp → VK → Prop} (q : ta σ H fun x H1 => kTy K T x H1 (r x [] H1 Q)) : tBM0 K T r ta σ H Q := q
theorem k_tyL (hp : H a = some (.lst xs)) (q : A) : kTy K "list" (.ref a) H A := ⟨.inl ⟨rfl, _, SqL.of hp⟩, q⟩
theorem k_app {M : List U} (hp : H a = some (.lst xs)) (hl : xs.length < sizeLine) (hh : Has (upd H a (.lst (xs ++ [v]))) M) (q : ∀ H', Has H' M → Q .non H') : rAppend (.ref a) [v] H Q := ⟨a, xs, v, rfl, rfl, hp, hl, q _ hh⟩
theorem k_pop {M : List U} (hp : H a = some (.lst xs)) (hl : xs[xs.length - 1]? = some y) (hh : Has (upd H a (.lst xs.dropLast)) M) (q : ∀ H', Has H' M → Q y H') : rPop (.ref a) [] H Q := ⟨a, xs, y, rfl, rfl, hp, hl, q _ hh⟩
theorem k_cat (hh : Has H L) (hp : H a = some (.lst xs)) (hq : H b = some (.lst ys)) (hl : xs.length + ys.length ≤ sizeLine) (q : ∀ p H', Has H' ([(p, .lst (xs ++ ys))] :: L) → Q (.ref p) H') : rCat (.ref a) (.ref b) H Q :=
  ⟨a, b, xs, ys, rfl, rfl, hp, hq, hl, fun p hp => q p _ (hh.nw hp)⟩
theorem k_rep (hh : Has H L) (hp : H a = some (.lst [v])) (h0 : 0 ≤ i) (h1 : i ≤ 100000) (q : ∀ p H', Has H' ([(p, .lst (List.replicate i.toNat v))] :: L) → Q (.ref p) H') : rRep (.ref a) (.int i) H Q := by
  have e : (List.replicate i.toNat [v]).flatten = List.replicate i.toNat v := by
    generalize i.toNat = n
    induction n with
    | zero => rfl
    | succ n ih => rw [List.replicate_succ, List.flatten_cons, ih]; rfl
  refine ⟨a, i, [v], rfl, rfl, hp, by omega, by omega, ?_, fun p hp => ?_⟩
  · rw [sizeLine_eq]; show 1 * i.toNat ≤ _; omega
  · rw [e]; exact q p _ (hh.nw hp)
def kRg (Qr : Int → Int → Hp → Prop) (x : V) (H1 : Hp) : Prop := ∃ n, x = .int n ∧ Qr 0 n H1
def kLstRg (a b : Int) (H1 : Hp) (Q : VK) : Prop := RgOk a b ∧ ∀ q, H1 q = none → Q (.ref q) (upd H1 q (.lst (rgV a b)))
theorem x_rg1 {Qr : Int → Int → Hp → Prop} (q : ta σ H fun x H1 => kRg Qr x H1) : tRg1 ta σ H Qr := q
theorem k_rg1 {Qr : Int → Int → Hp → Prop} (q : Qr 0 i H) : kRg Qr (.int i) H := ⟨i, rfl, q⟩
theorem x_lstRg {te : St → Hp → (Int → Int → Hp → Prop) → Prop} (q : te σ H fun a b H1 => kLstRg a b H1 Q) : tLstRg te σ H Q := q
def rgI (n : Int) : List Int := (List.range n.toNat).map fun (i : Nat) => (i : Int)
theorem rgV_I (n : Int) : rgV 0 n = (rgI n).map V.int := by
  unfold rgV rgI
  rw [List.map_map, Int.sub_zero]
  refine List.map_congr_left fun i _ => ?_
  show V.int (0 + (i : Int)) = V.int i
  rw [Int.zero_add]
theorem rgI_len (n : Int) : (rgI n).length = n.toNat := by unfold rgI; rw [List.length_map, List.length_range]
theorem k_lstRg (hh : Has H L) (h0 : 0 ≤ n) (h1 : n ≤ 100000) (q : ∀ p H', Has H' ([(p, .lst ((rgI n).map V.int))] :: L) → Q (.ref p) H') : kLstRg 0 n H Q :=
  ⟨RgOk.of_le (by omega) (by omega) (by omega) h0, fun p hp => by rw [rgV_I]; exact q p _ (hh.nw hp)⟩
/-! ### calls of built-ins -/
theorem x_cb {r : List V → Hp → VK → Prop} (q : tr σ H fun vs H1 => r vs H1 Q) : tCB r tr σ H Q := q
def rLenQ (K : PySem.W.Frag) : List V → Hp → VK → Prop := fun xs H Q => ∃ p ys, xs = [.ref p] ∧ (SqL K H p ys ∨ SqT K H p ys) ∧ Q (.int ys.length) H
theorem call_lenQ {X : Cx} : CallR X (.builtin "len") (rLenQ X.K) := call_len_seq
theorem k_lenL (hp : H p = some (.lst xs)) (q : Q (.int xs.length) H) : rLenQ K [.ref p] H Q := ⟨p, xs, rfl, .inl (SqL.of hp), q⟩
theorem k_lenT (hp : H p = some (.tup xs)) (q : Q (.int xs.length) H) : rLenQ K [.ref p] H Q := ⟨p, xs, rfl, .inr (SqT.of hp), q⟩
def rLenK : List V → Hp → VK → Prop := fun xs H Q => ∃ a kvs, xs = [V.ref a] ∧ H a = some (.dK kvs) ∧ Q (.int kvs.length) H
theorem call_lenK {X : Cx} : CallR X (.builtin "len") rLenK := call_lenD
theorem k_lenK {kvs : List (Key × V)} (hp : H p = some (.dK kvs)) (q : Q (.int kvs.length) H) : rLenK [.ref p] H Q := ⟨p, kvs, rfl, hp, q⟩
theorem k_isi {ta' tb' : String} {r : Bool} (hx : TyOf K H x (.type ta')) (hk : kitB ta' tb' = some r) (q : Q (.bl r) H) : rIsi K [x, .ty tb'] H Q := ⟨x, .ty tb', .type ta', .type tb', r, rfl, .ty tb', .base hx, kit_ty hk, q⟩
theorem kb_ii : kitB "int" "int" = some true := by decide +kernel
theorem kb_ib : kitB "int" "bool" = some false := by decide +kernel
theorem kb_bi : kitB "bool" "int" = some true := by decide +kernel
theorem kb_bb : kitB "bool" "bool" = some true := by decide +kernel
theorem kb_ll : kitB "list" "list" = some true := by decide +kernel
theorem kb_tt : kitB "tuple" "tuple" = some true := by decide +kernel
theorem k_isiII (q : Q (.bl true) H) : rIsi K [.int i, .ty "int"] H Q := k_isi (.int i) kb_ii q
theorem k_isiIB (q : Q (.bl false) H) : rIsi K [.int i, .ty "bool"] H Q := k_isi (.int i) kb_ib q
theorem k_isiBI {b : Bool} (q : Q (.bl true) H) : rIsi K [.bl b, .ty "int"] H Q := k_isi (.bl b) kb_bi q
theorem k_isiBB {b : Bool} (q : Q (.bl true) H) : rIsi K [.bl b, .ty "bool"] H Q := k_isi (.bl b) kb_bb q
theorem k_isiLL (hp : H p = some (.lst xs)) (q : Q (.bl true) H) : rIsi K [.ref p, .ty "list"] H Q := k_isi (.lst hp) kb_ll q
theorem k_isiTT (hp : H p = some (.tup xs)) (q : Q (.bl true) H) : rIsi K [.ref p, .ty "tuple"] H Q := k_isi (.tup hp) kb_tt q
theorem k_all {bs : List Bool} (hp : H p = some (.lst (bs.map V.bl))) (q : Q (.bl (bs.all id)) H) : rAll K [.ref p] H Q := ⟨p, bs, rfl, SqL.of hp, q⟩
theorem k_sum {ns : List Int} (hp : H p = some (.lst (ns.map V.int))) (q : Q (.int ns.sum) H) : rSum K [.ref p] H Q := ⟨p, ns, rfl, SqL.of hp, q⟩
def rSortD : List V → Hp → VK → Prop := fun xs H Q => ∃ (a : Addr) (kvs : List (Key × V)) (ks : List Int), xs = [.ref a] ∧ Rd H a (.dK kvs) ∧ kvs.map (·.1) = ks.map Sum.inl ∧ ks.length < 64 ∧
    ∀ (ys : List Int) (p : Addr), ys.Perm ks → ys.Pairwise (· ≤ ·) → H p = none → Q (.ref p) (upd H p (.lst (ys.map V.int)))
theorem call_sortD {X : Cx} (hc : X.calm = true) : CallR X (.builtin "sorted") rSortD := call_sortedDI hc
def rListOf (K : PySem.W.Frag) : List V → Hp → VK → Prop := fun xs H Q => ∃ p ys, xs = [.ref p] ∧ (SqL K H p ys ∨ SqT K H p ys) ∧ ∀ l, H l = none → Q (.ref l) (upd H l (.lst ys))
theorem call_listOf {X : Cx} : CallR X (.type "list") (rListOf X.K) := call_list_of
theorem k_listOf (hh : Has H L) (hp : H p = some (.lst xs)) (q : ∀ p H', Has H' ([(p, .lst xs)] :: L) → Q (.ref p) H') : rListOf K [.ref p] H Q := ⟨p, xs, rfl, .inl (SqL.of hp), fun l hl => q l _ (hh.nw hl)⟩
theorem k_listOfS (hh : Has H L) (hp : SqL K H p xs) (q : ∀ p H', Has H' ([(p, .lst xs)] :: L) → Q (.ref p) H') : rListOf K [.ref p] H Q := ⟨p, xs, rfl, .inl hp, fun l hl => q l _ (hh.nw hl)⟩
def rDictP (K : PySem.W.Frag) : List V → Hp → VK → Prop := fun xs H Q => ∃ (a : Addr) (ps : List Addr) (kvs : List (Key × V)), xs = [.ref a] ∧ SqL K H a (ps.map V.ref) ∧ Paired (fun p kv => SqT K H p [kV kv.1, kv.2]) ps kvs ∧
    ∀ p, H p = none → Q (.ref p) (upd H p (.dK (mergeK [] kvs)))
theorem call_dictPr {X : Cx} (hc : X.calm = true) : CallR X (.type "dict") (rDictP X.K) := call_dictP hc
theorem k_sortI {ns : List Int} (hh : Has H L) (hp : H p = some (.lst (ns.map V.int))) (q : ∀ (ys : List Int) p H', ys.Perm ns → ys.Pairwise (· ≤ ·) → Has H' ([(p, .lst (ys.map V.int))] :: L) → Q (.ref p) H') : rSortedI K [.ref p] H Q :=
  ⟨p, ns, rfl, SqL.of hp, fun ys l h1 h2 hl => q ys l _ h1 h2 (hh.nw hl)⟩
/-! ### own calls -/
theorem x_call {sp : Sp} {dvs : List V} {E : XK} (q : tr σ H fun vs H1 => sp (vs ++ dvs) H1 Q E) : tCall sp dvs E tr σ H Q := q
theorem x_call0 {sp : Sp} {E : XK} (q : tr σ H fun vs H1 => sp vs H1 Q E) : tCall sp [] E tr σ H Q := by
  have e : (fun vs H1 => sp (vs ++ []) H1 Q E) = fun vs H1 => sp vs H1 Q E := by funext vs H1; rw [List.append_nil]
  show tr σ H fun vs H1 => sp (vs ++ []) H1 Q E
  rw [e]
  exact q
def kMeth (C : Addr) (m : Str) (sp : Sp) (dvs : List V) (E : XK) (t : TA) (σ : St) (x : V) (H1 : Hp) (Q : VK) : Prop := ∃ a dx fs, x = .ref a ∧ H1 a = some (.ins C dx fs) ∧ fs.lookup m = none ∧ t σ H1 fun vs H2 => sp (x :: (vs ++ dvs)) H2 Q E
theorem x_meth {m : Str} {sp : Sp} {dvs : List V} {E : XK} (q : ta σ H fun x H1 => kMeth C m sp dvs E tr σ x H1 Q) : tMeth C m sp dvs E ta tr σ H Q := q
theorem k_meth {m : Str} {sp : Sp} {dvs : List V} {E : XK} (hp : H a = some (.ins C dx fs)) (hl : fs.lookup m = none) (q : tr σ H fun vs H2 => sp (.ref a :: (vs ++ dvs)) H2 Q E) : kMeth C m sp dvs E tr σ (.ref a) H Q := ⟨a, dx, fs, rfl, hp, hl, q⟩
theorem k_meth0 {m : Str} {sp : Sp} {E : XK} (hp : H a = some (.ins C dx fs)) (hl : fs.lookup m = none) (q : tr σ H fun vs H2 => sp (.ref a :: vs) H2 Q E) : kMeth C m sp [] E tr σ (.ref a) H Q := by
  have e : (fun vs H2 => sp (.ref a :: (vs ++ [])) H2 Q E) = fun vs H2 => sp (.ref a :: vs) H2 Q E := by funext vs H1; rw [List.append_nil]
  refine ⟨a, dx, fs, rfl, hp, hl, ?_⟩
  rw [e]
  exact q
def kMake (C : Addr) (sp : Sp) (dvs : List V) (E : XK) (vs : List V) (H1 : Hp) (Q : VK) : Prop := ∀ x dx, H1 x = none → H1 dx = none → dx ≠ x → sp (.ref x :: (vs ++ dvs)) (upd (upd H1 dx (.own x)) x (.ins C dx [])) (fun v H2 => v = .non ∧ Q (.ref x) H2) E
theorem x_make {sp : Sp} {dvs : List V} {E : XK} (q : tr σ H fun vs H1 => kMake C sp dvs E vs H1 Q) : tMake C sp dvs E tr σ H Q := q
theorem k_make {sp : Sp} {dvs vs : List V} {E : XK} (hh : Has H L) (q : ∀ x dx H', Has H' ([(x, .ins C dx [])] :: L) → sp (.ref x :: (vs ++ dvs)) H' (fun v H2 => v = .non ∧ Q (.ref x) H2) E) : kMake C sp dvs E vs H Q :=
  fun x dx hx hd ne => q x dx _ ((hh.nw hd (o := .own x)).nw (p := x) (o := .ins C dx []) (by rw [upd_ne (Ne.symm ne)]; exact hx) |>.sub (Sub.p0 (Sub.skip Sub.rf)))
theorem k_make0 {sp : Sp} {vs : List V} {E : XK} (hh : Has H L) (q : ∀ x dx H', Has H' ([(x, .ins C dx [])] :: L) → sp (.ref x :: vs) H' (fun v H2 => v = .non ∧ Q (.ref x) H2) E) : kMake C sp [] E vs H Q :=
  k_make hh (by rw [List.append_nil]; exact q)
/-! ### dicts with int keys, with keys that are pairs of ints -/
section
variable {κ κ' : Type} [DecidableEq κ] [DecidableEq κ']
def mk (g : κ → κ') (m : List (κ × V)) : List (κ' × V) := m.map fun p => (g p.1, p.2)
theorem mk_len (g : κ → κ') (m : List (κ × V)) : (mk g m).length = m.length := List.length_map ..
theorem mk_keys (g : κ → κ') (m : List (κ × V)) : (mk g m).map (·.1) = (m.map (·.1)).map g := by
  unfold mk
  rw [List.map_map, List.map_map]
  rfl
theorem mk_val {g : κ → κ'} (hg : ∀ a b, g a = g b → a = b) (m : List (κ × V)) (k : κ) : valV (mk g m) (g k) = valV m k := by
  induction m with
  | nil => rfl
  | cons p r ih =>
    show valV ((g p.1, p.2) :: mk g r) (g k) = _
    by_cases h : p.1 = k
    · rw [valV_pos (p := (g p.1, p.2)) (congrArg g h), valV_pos h]
    · rw [valV_neg (p := (g p.1, p.2)) (fun q => h (hg _ _ q)), valV_neg h, ih]
theorem mk_drop {g : κ → κ'} (hg : ∀ a b, g a = g b → a = b) (m : List (κ × V)) (k : κ) : dropK (mk g m) (g k) = mk g (dropK m k) := by
  induction m with
  | nil => rfl
  | cons p r ih =>
    show dropK ((g p.1, p.2) :: mk g r) (g k) = _
    by_cases h : p.1 = k
    · rw [dropK_pos (p := (g p.1, p.2)) (congrArg g h), dropK_pos h, ih]
    · rw [dropK_neg (p := (g p.1, p.2)) (fun q => h (hg _ _ q)), dropK_neg h, ih]
      rfl
theorem mk_any {g : κ → κ'} (hg : ∀ a b, g a = g b → a = b) (m : List (κ × V)) (k : κ) : ((mk g m).any fun kv => decide (kv.1 = g k)) = m.any fun kv => decide (kv.1 = k) := by
  rw [valV_any, valV_any, mk_val hg]
theorem mk_put {g : κ → κ'} (hg : ∀ a b, g a = g b → a = b) (m : List (κ × V)) (k : κ) (v : V) : putK (mk g m) (g k) v = mk g (putK m k v) := by
  unfold putK
  rw [mk_any hg]
  split
  · unfold mk
    rw [List.map_map, List.map_map]
    refine List.map_congr_left fun p _ => ?_
    show (if g p.1 = g k then (g p.1, v) else (g p.1, p.2)) = _
    by_cases h : p.1 = k
    · rw [if_pos (congrArg g h)]
      show _ = (g (if p.1 = k then (p.1, v) else p).1, (if p.1 = k then (p.1, v) else p).2)
      rw [if_pos h]
    · rw [if_neg (fun q => h (hg _ _ q))]
      show _ = (g (if p.1 = k then (p.1, v) else p).1, (if p.1 = k then (p.1, v) else p).2)
      rw [if_neg h]
  · unfold mk
    rw [List.map_append]
    rfl
end
def g1 : Int → Key := Sum.inl
def g2 (p : Int × Int) : List Key := [Sum.inl p.1, Sum.inl p.2]
theorem g1_inj : ∀ a b, g1 a = g1 b → a = b := fun _ _ h => Sum.inl.inj h
theorem g2_inj : ∀ a b, g2 a = g2 b → a = b := fun a b h => by
  obtain ⟨a1, a2⟩ := a
  obtain ⟨b1, b2⟩ := b
  unfold g2 at h
  simp only [List.cons.injEq, Sum.inl.injEq, and_true] at h
  rw [h.1, h.2]
abbrev dI (m : List (Int × V)) : HO := .dK (mk g1 m)
abbrev dP (m : List ((Int × Int) × V)) : HO := .dT (mk g2 m)
def kDGet (x y : V) (H2 : Hp) (Q : VK) : Prop := ∃ a v, x = .ref a ∧ DGet H2 a y (some v) ∧ Q v H2
theorem x_dget (q : td σ H fun x H1 => ty σ H1 fun y H2 => kDGet x y H2 Q) : tDGet td ty σ H Q := q
theorem dget_I {mm : List (Int × V)} (hp : H a = some (dI mm)) : DGet H a (.int i) (valV mm i) := by
  rw [← mk_val g1_inj mm i]
  exact DGet.k (k := g1 i) hp
theorem dget_P {mm : List ((Int × Int) × V)} (hp : H a = some (dP mm)) (hb : H b = some (.tup [.int i, .int j])) : DGet H a (.ref b) (valV mm (i, j)) := by
  rw [← mk_val g2_inj mm (i, j)]
  exact DGet.t (k := g2 (i, j)) hp hb
theorem k_dget {mm : List (Int × V)} (hp : H a = some (dI mm)) (hv : valV mm i = some v) (q : Q v H) : kDGet (.ref a) (.int i) H Q := ⟨a, v, rfl, hv ▸ dget_I hp, q⟩
theorem k_dgetP {mm : List ((Int × Int) × V)} (hp : H a = some (dP mm)) (hb : H b = some (.tup [.int i, .int j])) (hv : valV mm (i, j) = some v) (q : Q v H) : kDGet (.ref a) (.ref b) H Q := ⟨a, v, rfl, hv ▸ dget_P hp hb, q⟩
def kDIn (y x : V) (H2 : Hp) (Q : VK) : Prop := ∃ a o, x = .ref a ∧ DGet H2 a y o ∧ Q (.bl o.isSome) H2
def kDNot (y x : V) (H2 : Hp) (Q : VK) : Prop := ∃ a o, x = .ref a ∧ DGet H2 a y o ∧ Q (.bl (!o.isSome)) H2
theorem x_din (q : ty σ H fun y H1 => td σ H1 fun x H2 => kDIn y x H2 Q) : tDIn ty td σ H Q := q
theorem x_dnot (q : ty σ H fun y H1 => td σ H1 fun x H2 => kDNot y x H2 Q) : tDNotIn ty td σ H Q := q
theorem k_din {mm : List (Int × V)} (hp : H a = some (dI mm)) (q : Q (.bl (valV mm i).isSome) H) : kDIn (.int i) (.ref a) H Q := ⟨a, _, rfl, dget_I hp, q⟩
theorem k_dnot {mm : List (Int × V)} (hp : H a = some (dI mm)) (q : Q (.bl (!(valV mm i).isSome)) H) : kDNot (.int i) (.ref a) H Q := ⟨a, _, rfl, dget_I hp, q⟩
theorem k_dinP {mm : List ((Int × Int) × V)} (hp : H a = some (dP mm)) (hb : H b = some (.tup [.int i, .int j])) (q : Q (.bl (valV mm (i, j)).isSome) H) : kDIn (.ref b) (.ref a) H Q := ⟨a, _, rfl, dget_P hp hb, q⟩
theorem k_dnotP {mm : List ((Int × Int) × V)} (hp : H a = some (dP mm)) (hb : H b = some (.tup [.int i, .int j])) (q : Q (.bl (!(valV mm (i, j)).isSome)) H) : kDNot (.ref b) (.ref a) H Q := ⟨a, _, rfl, dget_P hp hb, q⟩
def kDPut (nx : St → Hp → Prop) (σ : St) (v x y : V) (H3 : Hp) : Prop := ∃ a H4, x = .ref a ∧ DPut H3 a y v H4 ∧ nx σ H4
theorem x_dput (q : tv σ H fun v H1 => td σ H1 fun x H2 => ty σ H2 fun y H3 => kDPut nx σ v x y H3) : sDPut td ty tv ⟨nx, rt, bk, ct⟩ σ H := q
theorem k_dput {mm : List (Int × V)} {M : List U} (hp : H a = some (dI mm)) (hl : mm.length < sizeLine) (hh : Has (upd H a (dI (putK mm i v))) M) (q : ∀ H', Has H' M → nx σ H') : kDPut nx σ v (.ref a) (.int i) H := by
  refine ⟨a, _, rfl, DPut.k (k := g1 i) hp (by rw [mk_len]; exact hl), ?_⟩
  rw [mk_put g1_inj]
  exact q _ hh
theorem k_dputP {mm : List ((Int × Int) × V)} {M : List U} (hp : H a = some (dP mm)) (hb : H b = some (.tup [.int i, .int j])) (hl : mm.length < sizeLine) (hh : Has (upd H a (dP (putK mm (i, j) v))) M) (q : ∀ H', Has H' M → nx σ H') : kDPut nx σ v (.ref a) (.ref b) H := by
  refine ⟨a, _, rfl, DPut.t (k := g2 (i, j)) hp hb (by rw [mk_len]; exact hl), ?_⟩
  rw [mk_put g2_inj]
  exact q _ hh
def kIsD (x : V) (H1 : Hp) (F : Addr → Prop) : Prop := ∃ a, x = .ref a ∧ IsD H1 a ∧ F a
theorem k_isD {kvs : List (Key × V)} {F : Addr → Prop} (hp : H a = some (.dK kvs)) (q : F a) : kIsD (.ref a) H F := ⟨a, rfl, .inl ⟨kvs, .inl hp⟩, q⟩
theorem k_isDT {kvs : List (List Key × V)} {F : Addr → Prop} (hp : H a = some (.dT kvs)) (q : F a) : kIsD (.ref a) H F := ⟨a, rfl, .inr ⟨kvs, .inl hp⟩, q⟩
def kDPop (a : Addr) (y : V) (H2 : Hp) (Q : VK) : Prop := ∃ kvs k v, H2 a = some (.dK kvs) ∧ y = kV k ∧ valV kvs k = some v ∧ Q v (upd H2 a (.dK (dropK kvs k)))
theorem x_dpop1 (q : td σ H fun x H1 => kIsD x H1 fun a => ty σ H1 fun y H2 => kDPop a y H2 Q) : tDPop1 td ty σ H Q := q
theorem k_dpop1 {mm : List (Int × V)} {M : List U} (hp : H a = some (dI mm)) (hv : valV mm i = some v) (hh : Has (upd H a (dI (dropK mm i))) M) (q : ∀ H', Has H' M → Q v H') : kDPop a (.int i) H Q := by
  refine ⟨_, g1 i, v, hp, rfl, by rw [mk_val g1_inj]; exact hv, ?_⟩
  rw [mk_drop g1_inj]
  exact q _ hh
def kDGet2 (a : Addr) (y z : V) (H3 : Hp) (Q : VK) : Prop := ∃ o, DGet H3 a y o ∧ Q (o.getD z) H3
theorem x_dget2 (q : td σ H fun x H1 => kIsD x H1 fun a => ty σ H1 fun y H2 => tx σ H2 fun z H3 => kDGet2 a y z H3 Q) : tDGet2 td ty tx σ H Q := q
theorem k_dget2 {mm : List (Int × V)} (hp : H a = some (dI mm)) (q : Q ((valV mm i).getD z) H) : kDGet2 a (.int i) z H Q := ⟨_, dget_I hp, q⟩
theorem k_dget2P {mm : List ((Int × Int) × V)} (hp : H a = some (dP mm)) (hb : H b = some (.tup [.int i, .int j])) (q : Q ((valV mm (i, j)).getD z) H) : kDGet2 a (.ref b) z H Q := ⟨_, dget_P hp hb, q⟩
def kDGet1 (a : Addr) (y : V) (H3 : Hp) (Q : VK) : Prop := ∃ o, DGet H3 a y o ∧ Q (o.getD .non) H3
theorem x_dget1 (q : td σ H fun x H1 => kIsD x H1 fun a => ty σ H1 fun y H2 => kDGet1 a y H2 Q) : tDGet1 td ty σ H Q := q
theorem k_dget1 {mm : List (Int × V)} (hp : H a = some (dI mm)) (q : Q ((valV mm i).getD .non) H) : kDGet1 a (.int i) H Q := ⟨_, dget_I hp, q⟩
theorem x_dnewK (hh : Has H L) (q : ∀ p H', Has H' ([(p, dI [])] :: L) → Q (.ref p) H') : tDNewK σ H Q := fun p hp => q p _ (hh.nw hp)
theorem x_dnewT (hh : Has H L) (q : ∀ p H', Has H' ([(p, dP [])] :: L) → Q (.ref p) H') : tDNewT σ H Q := fun p hp => q p _ (hh.nw hp)
theorem k_sortD {mm : List (Int × V)} (hh : Has H L) (hp : H p = some (dI mm)) (hl : mm.length < 64) (q : ∀ (ys : List Int) p H', ys.Perm (mm.map (·.1)) → ys.Pairwise (· ≤ ·) → Has H' ([(p, .lst (ys.map V.int))] :: L) → Q (.ref p) H') : rSortD [.ref p] H Q :=
  ⟨p, _, mm.map (fun (x : Int × V) => x.1), rfl, .inl hp, (by have e := mk_keys g1 mm; exact e), by rw [List.length_map]; exact hl, fun ys l h1 h2 hl => q ys l _ h1 h2 (hh.nw hl)⟩
/-! ### == of data -/
theorem dpAll_ints (ns : List Int) : DpAll K H (ns.map V.int) (ns.map PyData.int) := by
  induction ns with
  | nil => exact .nil
  | cons n r ih => exact .cons (.int n) ih
theorem eqv_ints (ns : List Int) : ∀ ms : List Int, PyData.eqv (.list (ns.map PyData.int)) (.list (ms.map PyData.int)) = decide (ns = ms) := by
  induction ns with
  | nil =>
    intro ms
    cases ms with
    | nil => rfl
    | cons m r => rfl
  | cons n r ih =>
    intro ms
    cases ms with
    | nil => rfl
    | cons m s =>
      have h := ih s
      simp [PyData.eqv, PyData.eqvAll] at h ⊢
      rw [h]
      by_cases e1 : n = m
      · subst e1; by_cases e2 : r = s <;> simp [e2]
      · simp [e1]
theorem lay_ints (ns : List Int) : PyData.canLayAll0 (ns.map PyData.int) = true := by
  induction ns with
  | nil => simp [PyData.canLayAll0]
  | cons n r ih => simp [PyData.canLayAll0, PyData.canLay0, ih]
theorem deep_ints (ns : List Int) : PyData.depthAll (ns.map PyData.int) ≤ 1 := by
  induction ns with
  | nil => simp [PyData.depthAll]
  | cons n r ih => simp [PyData.depthAll, PyData.depth, ih]
theorem shaped_ints (ns : List Int) : SeqAt.shaped (.list (ns.map PyData.int)) = true := by
  have h := deep_ints ns
  simp [SeqAt.shaped, PyData.canLay0, lay_ints, PyData.depth]
  omega
theorem k_eqLI {ns ms : List Int} (hp : H a = some (.lst (ns.map V.int))) (hq : H b = some (.lst (ms.map V.int))) (q : Q (.bl (decide (ns = ms))) H) : rEqD K (.ref a) (.ref b) H Q :=
  ⟨_, _, .lst (SqL.of hp) (dpAll_ints ns), .lst (SqL.of hq) (dpAll_ints ms), shaped_ints ns, shaped_ints ms, by rw [eqv_ints]; exact q⟩
theorem k_neLI {ns ms : List Int} (hp : H a = some (.lst (ns.map V.int))) (hq : H b = some (.lst (ms.map V.int))) (q : Q (.bl (!decide (ns = ms))) H) : rNeD K (.ref a) (.ref b) H Q :=
  ⟨_, _, .lst (SqL.of hp) (dpAll_ints ns), .lst (SqL.of hq) (dpAll_ints ms), shaped_ints ns, shaped_ints ms, by rw [eqv_ints]; exact q⟩
theorem k_eqLN {ns : List Int} (hp : H a = some (.lst (ns.map V.int))) (hq : H b = some (.lst [])) (q : Q (.bl (decide (ns = []))) H) : rEqD K (.ref a) (.ref b) H Q := k_eqLI (ms := []) hp hq q
theorem k_neLN {ns : List Int} (hp : H a = some (.lst (ns.map V.int))) (hq : H b = some (.lst [])) (q : Q (.bl (!decide (ns = []))) H) : rNeD K (.ref a) (.ref b) H Q := k_neLI (ms := []) hp hq q
/-! ### loops -/
def kForR (k : Nat) (tb : TS) (nx : St → Hp → Prop) (rt : VK) (σ : St) (vs : List V) (H1 : Hp) : Prop := ∃ j : Int, vs = [.int j] ∧ -(2 ^ 62) ≤ j ∧ j < 2 ^ 62 ∧ ∃ W : Nat → Nat → St → Hp → Prop, (∃ m, W 0 m σ H1) ∧ ∀ i m σ H, W i m σ H →
  ((Itr 0 j.toNat).stop i H ∧ nx σ H) ∨ ((Itr 0 j.toNat).go i H ∧ ∃ N : St → Hp → Prop, (∀ σ' H', N σ' H' → ∃ m', m' < m ∧ W (i + 1) m' σ' H') ∧ ∀ x H', (Itr 0 j.toNat).yld i H x H' → gName k x σ H' fun σ2 H2 => tb ⟨N, rt, nx, N⟩ σ2 H2)
theorem x_forR {k : Nat} (q : tr σ H fun vs H1 => kForR k s1 nx rt σ vs H1) : tFor (iRng1 tr) (gName k) s1 ⟨nx, rt, bk, ct⟩ σ H := q
theorem k_forR {k : Nat} (Pv : Nat → St → Hp → Prop) (h0 : Pv 0 σ H) (hn : 0 ≤ n ∧ n ≤ 100000) (hs : ∀ (i : Nat) σ H, (i : Int) < n → Pv i σ H → s1 ⟨Pv (i + 1), rt, nx, Pv (i + 1)⟩ (σ.set k (some (.int i))) H) (hd : ∀ σ H, Pv n.toNat σ H → nx σ H) : kForR k s1 nx rt σ [.int n] H := by
  refine ⟨n, rfl, by omega, by omega, for_range (g := gName k) (tb := s1) (D := ⟨nx, rt, fun _ _ => False, fun _ _ => False⟩) Pv h0 (fun i σ' H' hi p => ?_) hd⟩
  show s1 ⟨Pv (i + 1), rt, nx, Pv (i + 1)⟩ (σ'.set k (some (.int (0 + (i : Int))))) H'
  rw [Int.zero_add]
  exact hs i σ' H' (by omega) p
def kForL (K : PySem.W.Frag) (g : TG) (tb : TS) (nx : St → Hp → Prop) (rt : VK) (σ : St) (x : V) (H1 : Hp) : Prop := ∃ a, x = .ref a ∧ (∃ xs, SqL K H1 a xs) ∧ ∃ W : Nat → Nat → St → Hp → Prop, (∃ m, W 0 m σ H1) ∧ ∀ i m σ H, W i m σ H →
  ((Itl K a).stop i H ∧ nx σ H) ∨ ((Itl K a).go i H ∧ ∃ N : St → Hp → Prop, (∀ σ' H', N σ' H' → ∃ m', m' < m ∧ W (i + 1) m' σ' H') ∧ ∀ x H', (Itl K a).yld i H x H' → g x σ H' fun σ2 H2 => tb ⟨N, rt, nx, N⟩ σ2 H2)
theorem x_forL {g : TG} (q : te σ H fun x H1 => kForL K g s1 nx rt σ x H1) : tFor (iList K te) g s1 ⟨nx, rt, bk, ct⟩ σ H := q
theorem k_forL {g : TG} (Pv : Nat → St → Hp → Prop) (hp : H a = some (.lst xs)) (h0 : Pv 0 σ H) (hl : ∀ i σ H, Pv i σ H → H a = some (.lst xs)) (hs : ∀ (i : Nat) x σ H, xs[i]? = some x → Pv i σ H → g x σ H fun σ2 H2 => s1 ⟨Pv (i + 1), rt, nx, Pv (i + 1)⟩ σ2 H2) (hd : ∀ σ H, Pv xs.length σ H → nx σ H) : kForL K g s1 nx rt σ (.ref a) H :=
  ⟨a, rfl, ⟨xs, SqL.of hp⟩, for_list (K := K) (xs := xs) (tb := s1) (D := ⟨nx, rt, fun _ _ => False, fun _ _ => False⟩) Pv h0 (fun i σ H _ p => SqL.of (hl i σ H p)) hs hd⟩
/-! ### comprehensions -/
def kLc (g : TG) (tt : TT) (te : TE) (vs : List Nat) (σ : St) (J : It) (H1 : Hp) (Q : VK) : Prop := ∀ D, H1 D = none → ∃ W : Nat → Nat → Hp → Prop, (∃ m, W 0 m (upd H1 D (.lst []))) ∧ ∀ i m H, W i m H →
  (J.stop i H ∧ Q (.ref D) H) ∨ (J.go i H ∧ ∃ Nx : Hp → Prop, (∀ H', Nx H' → ∃ m', m' < m ∧ W (i + 1) m' H') ∧ ∀ x H', J.yld i H x H' → g x (wipe σ vs) H' fun σ2 H2 => wipe σ2 vs = wipe σ vs ∧ tt σ2 H2 fun b H3 =>
    if b = true then te σ2 H3 fun y H4 => ∃ acc, H4 D = some (.lst acc) ∧ acc.length < sizeLine ∧ Nx (upd H4 D (.lst (acc ++ [y]))) else Nx H3)
/-- what a comprehension's turn wants behind its element y: the list at D one longer, and J of that -/
def kAdd (D : Addr) (Nx : Hp → Prop) (y : V) (H4 : Hp) : Prop := ∃ acc, H4 D = some (.lst acc) ∧ acc.length < sizeLine ∧ Nx (upd H4 D (.lst (acc ++ [y])))
theorem k_add {Nx : Hp → Prop} {M : List U} (hp : H p = some (.lst xs)) (hl : xs.length < sizeLine) (hh : Has (upd H p (.lst (xs ++ [y]))) M) (q : ∀ H', Has H' M → Nx H') : kAdd p Nx y H := ⟨xs, hp, hl, q _ hh⟩
def kLcL (K : PySem.W.Frag) (g : TG) (tt : TT) (te : TE) (vs : List Nat) (σ : St) (x : V) (H1 : Hp) (Q : VK) : Prop := ∃ a, x = .ref a ∧ (∃ xs, SqL K H1 a xs) ∧ kLc g tt te vs σ (Itl K a) H1 Q
theorem x_lcL {g : TG} {tt : TT} {vs : List Nat} (q : ta σ H fun x H1 => kLcL K g tt te vs σ x H1 Q) : tLc (iList K ta) g tt te vs σ H Q := q
theorem k_lcL {g : TG} {tt : TT} {vs : List Nat} (hh : Has H L) (Pv : Addr → Nat → Hp → Prop) (hp : H a = some (.lst xs)) (h0 : ∀ D H', Has H' ([(D, .lst [])] :: L) → Pv D 0 H') (hl : ∀ D i H, Pv D i H → H a = some (.lst xs))
    (hs : ∀ D i x H, xs[i]? = some x → Pv D i H → g x (wipe σ vs) H fun σ2 H2 => wipe σ2 vs = wipe σ vs ∧ tt σ2 H2 fun b H3 => if b = true then te σ2 H3 (kAdd D (Pv D (i + 1))) else Pv D (i + 1) H3)
    (hd : ∀ D H, Pv D xs.length H → Q (.ref D) H) : kLcL K g tt te vs σ (.ref a) H Q :=
  ⟨a, rfl, ⟨xs, SqL.of hp⟩, fun D hD => lc_list (K := K) (xs := xs) (Pv D) (h0 D _ (hh.nw hD)) (fun i H _ p => SqL.of (hl D i H p)) (fun i x H hi p => hs D i x H hi p) fun H p => hd D H p⟩
def kLcR (g : TG) (tt : TT) (te : TE) (vs : List Nat) (σ : St) (us : List V) (H1 : Hp) (Q : VK) : Prop := ∃ j : Int, us = [.int j] ∧ -(2 ^ 62) ≤ j ∧ j < 2 ^ 62 ∧ kLc g tt te vs σ (Itr 0 j.toNat) H1 Q
theorem x_lcR {g : TG} {tt : TT} {vs : List Nat} (q : tr σ H fun us H1 => kLcR g tt te vs σ us H1 Q) : tLc (iRng1 tr) g tt te vs σ H Q := q
theorem k_lcR {k : Nat} {tt : TT} {vs : List Nat} (hh : Has H L) (Pv : Addr → Nat → Hp → Prop) (hn : 0 ≤ n ∧ n ≤ 100000) (h0 : ∀ D H', Has H' ([(D, .lst [])] :: L) → Pv D 0 H')
    (hs : ∀ D (i : Nat) H, (i : Int) < n → Pv D i H → gName k (.int i) (wipe σ vs) H fun σ2 H2 => wipe σ2 vs = wipe σ vs ∧ tt σ2 H2 fun b H3 => if b = true then te σ2 H3 (kAdd D (Pv D (i + 1))) else Pv D (i + 1) H3)
    (hd : ∀ D H, Pv D n.toNat H → Q (.ref D) H) : kLcR (gName k) tt te vs σ [.int n] H Q :=
  ⟨n, rfl, by omega, by omega, fun D hD => lc_range (lo := 0) (Pv D) (h0 D _ (hh.nw hD)) (fun i H hi p => by
    have q := hs D i H (by omega) p
    rw [← Int.zero_add (i : Int)] at q
    exact q) fun H p => hd D H p⟩
theorem filt_true {α : Type} (l : List α) : l.filter (fun _ => true) = l := List.filter_eq_self.mpr fun _ _ => rfl
/-- [h z for z in zs if c z], the source a list that stands in L; the test and the element may lay new things, which are let go -/
theorem k_lcF {α : Type} {k : Nat} {tt : TT} (zs : List α) (g h : α → V) (c : α → Bool) (hh : Has H L) (ha : ∀ H', Has H' L → H' a = some (.lst (zs.map g))) (hz : zs.length ≤ 100000)
    (ht : ∀ z ∈ zs, ∀ D M H' (Q' : Bool → Hp → Prop), Has H' ([(D, .lst M)] :: L) → (∀ H'', Has H'' ([(D, .lst M)] :: L) → Q' (c z) H'') → tt ((wipe σ [k]).set k (some (g z))) H' Q')
    (hs : ∀ z ∈ zs, c z = true → ∀ D M H' (Q' : VK), Has H' ([(D, .lst M)] :: L) → (∀ H'', Has H'' ([(D, .lst M)] :: L) → Q' (h z) H'') → te ((wipe σ [k]).set k (some (g z))) H' Q')
    (q : ∀ D H', Has H' ([(D, .lst ((zs.filter c).map h))] :: L) → Q (.ref D) H') : kLcL K (gName k) tt te [k] σ (.ref a) H Q := by
  have hw : ∀ x, wipe ((wipe σ [k]).set k (some x)) [k] = wipe σ [k] := fun x => by
    show ((σ.set k none).set k (some x)).set k none = σ.set k none
    rw [List.set_set, List.set_set]
  refine k_lcL (L := L) hh (fun D i H' => Has H' ([(D, .lst (((zs.take i).filter c).map h))] :: L)) (ha H hh) (fun D H' h' => h') (fun D i H' h' => ha H' (h'.sub (Sub.skip Sub.rf))) (fun D i x H' hi h' => ?_) (fun D H' h' => ?_)
  · rw [List.getElem?_map] at hi
    obtain ⟨z, hz1, rfl⟩ := Option.map_eq_some_iff.mp hi
    have hm : z ∈ zs := List.mem_of_getElem? hz1
    have et : zs.take (i + 1) = zs.take i ++ [z] := by rw [List.take_add_one, hz1]; rfl
    refine ⟨hw _, ht z hm D _ H' _ h' fun H2 h2 => ?_⟩
    refine ifB (fun e => ?_) (fun e => ?_)
    · refine hs z hm e D _ H2 _ h2 fun H3 h3 => ?_
      refine ⟨_, h3.g0, ?_, ?_⟩
      · rw [sizeLine_eq, List.length_map]
        have l1 := List.length_filter_le c (zs.take i)
        have l2 := List.length_take_le i zs
        have l3 := List.length_take_le' i zs
        omega
      · rw [et, List.filter_append, List.map_append, List.filter_cons, if_pos e]
        exact h3.s0
    · rw [et, List.filter_append, List.filter_cons, if_neg (by rw [e]; decide)]
      simpa using h2
  · rw [List.length_map, List.take_length] at h'
    exact q D H' h'
theorem k_lcM {α : Type} {k : Nat} (zs : List α) (g h : α → V) (hh : Has H L) (ha : ∀ H', Has H' L → H' a = some (.lst (zs.map g))) (hz : zs.length ≤ 100000)
    (hs : ∀ z ∈ zs, ∀ D M H' (Q' : VK), Has H' ([(D, .lst M)] :: L) → (∀ H'', Has H'' ([(D, .lst M)] :: L) → Q' (h z) H'') → te ((wipe σ [k]).set k (some (g z))) H' Q')
    (q : ∀ D H', Has H' ([(D, .lst (zs.map h))] :: L) → Q (.ref D) H') : kLcL K (gName k) tYes te [k] σ (.ref a) H Q :=
  k_lcF zs g h (fun _ => true) hh ha hz (fun z _ D M H' Q' h' q' => q' H' h') (fun z hm _ => hs z hm) fun D H' h' => q D H' (by rw [filt_true] at h'; exact h')
/-- [h i for i in range(n) if c i] -/
theorem k_lcRF {k : Nat} {tt : TT} (h : Int → V) (c : Int → Bool) (hh : Has H L) (hn : 0 ≤ n ∧ n ≤ 100000)
    (ht : ∀ z : Int, 0 ≤ z → z < n → ∀ D M H' (Q' : Bool → Hp → Prop), Has H' ([(D, .lst M)] :: L) → (∀ H'', Has H'' ([(D, .lst M)] :: L) → Q' (c z) H'') → tt ((wipe σ [k]).set k (some (.int z))) H' Q')
    (hs : ∀ z : Int, 0 ≤ z → z < n → c z = true → ∀ D M H' (Q' : VK), Has H' ([(D, .lst M)] :: L) → (∀ H'', Has H'' ([(D, .lst M)] :: L) → Q' (h z) H'') → te ((wipe σ [k]).set k (some (.int z))) H' Q')
    (q : ∀ D H', Has H' ([(D, .lst (((rgI n).filter c).map h))] :: L) → Q (.ref D) H') : kLcR (gName k) tt te [k] σ [.int n] H Q := by
  have hw : ∀ x, wipe ((wipe σ [k]).set k (some x)) [k] = wipe σ [k] := fun x => by
    show ((σ.set k none).set k (some x)).set k none = σ.set k none
    rw [List.set_set, List.set_set]
  refine k_lcR (L := L) hh (fun D i H' => Has H' ([(D, .lst (((rgI i).filter c).map h))] :: L)) hn (fun D H' h' => h') (fun D i H' hi h' => ?_) (fun D H' h' => ?_)
  · have et : rgI ((i + 1 : Nat) : Int) = rgI i ++ [(i : Int)] := by
      unfold rgI
      rw [Int.toNat_natCast, Int.toNat_natCast, List.range_succ, List.map_append]
      rfl
    have lr : (rgI (i : Int)).length = i := by rw [rgI_len, Int.toNat_natCast]
    refine ⟨hw _, ht i (by omega) hi D _ H' _ h' fun H2 h2 => ?_⟩
    refine ifB (fun e => ?_) (fun e => ?_)
    · refine hs i (by omega) hi e D _ H2 _ h2 fun H3 h3 => ?_
      refine ⟨_, h3.g0, ?_, ?_⟩
      · rw [sizeLine_eq, List.length_map]
        have l1 := List.length_filter_le c (rgI i)
        omega
      · rw [et, List.filter_append, List.map_append, List.filter_cons, if_pos e]
        exact h3.s0
    · rw [et, List.filter_append, List.filter_cons, if_neg (by rw [e]; decide)]
      simpa using h2
  · rw [Int.toNat_of_nonneg hn.1] at h'
    exact q D H' h'
theorem k_lcRM {k : Nat} (h : Int → V) (hh : Has H L) (hn : 0 ≤ n ∧ n ≤ 100000)
    (hs : ∀ z : Int, 0 ≤ z → z < n → ∀ D M H' (Q' : VK), Has H' ([(D, .lst M)] :: L) → (∀ H'', Has H'' ([(D, .lst M)] :: L) → Q' (h z) H'') → te ((wipe σ [k]).set k (some (.int z))) H' Q')
    (q : ∀ D H', Has H' ([(D, .lst ((rgI n).map h))] :: L) → Q (.ref D) H') : kLcR (gName k) tYes te [k] σ [.int n] H Q :=
  k_lcRF h (fun _ => true) hh hn (fun z _ _ D M H' Q' h' q' => q' H' h') (fun z h0 h1 _ => hs z h0 h1) fun D H' h' => q D H' (by rw [filt_true] at h'; exact h')
theorem x_yes (q : QT true H) : tYes σ H QT := q
end
end Sy
/-! More rules: C.f(..) of a def read off its class; comprehensions over dicts. -/
namespace Sy
open PySem PySem.Spec PyProof.Rows L2
def tCFn (C : Addr) (sp : Sp) (dvs : List V) (E : XK) (ta : TE) (t : TA) : TE := fun σ H Q => ta σ H fun x H1 => x = .ref C ∧ t σ H1 fun vs H2 => sp (vs ++ dvs) H2 Q E
/-- what the text must say of C.f, a def -/
structure CFn (K : PySem.W.Frag) (C : Addr) (mc : Value) (m : Str) (f : Addr) : Prop where
  rd : PySem.W.readsIn K C mc = true
  ga : PySem.W.specialIn K (.ref C) "__getattribute__" = some (some (.builtin "type.__getattribute__"))
  at_ : PySem.W.findCls K (.ref C) mc m = some (.val (.ref f))
  kp : PySem.W.keepIn K (.ref f) = true
section
variable {X : Cx} {CX : CXT} {k : Nat} {f C : Addr} {fd : FuncData} {ps : List Str} {sp : Sp} {dvs : List V} {ds : List Value} {E : XK} {m : Str} {pos apos : Pos} {e o : Expr} {es : List Expr} {ta : TE} {t : TA} {mc : Value}
theorem pe_cfn {pl : Sem Bool} (he : PE X o ta) (c : CFn X.K C mc m f) (F : FnOk X.prog X.w X.K X.mg X.base CX k f fd ps sp) (hr : Room k X.A) (hb : Binds X.K fd ps ds) (hd : Vals dvs ds) (hx : Passes CX X E) (ha : PA X (e :: es) t)
    (hst : starEach (e :: es) X.env = (false, eval e X.env) :: starEach es X.env := by rfl) (hpl : (backTo pos (starEach es X.env)).any (·.1) = false := by rfl)
    (ht : eval (.Call (.Attribute o m apos) (e :: es) [] pos) X.env = (do
      let ov ← eval o X.env
      standAt apos.atName
      let (f, first) ← holding [ov] (getMethod ov m pl)
      callWith pos f first (backTo pos (starEach (e :: es) X.env)) (backToKw pos (keywordEach [] X.env))) := by rfl) :
    PE X (.Call (.Attribute o m apos) (e :: es) [] pos) (tCFn C sp dvs E ta t) := by
  refine ⟨fun pins s σ H Q I h => ?_⟩
  refine PySem.W.methodCall_KW (pl := pl) (thn (he.run pins s σ H _ I h) fun u s1 ⟨x, H1, I1, rx, ex, q⟩ => ?_) ht
  subst ex
  obtain rfl : u = Value.ref C := rx
  refine PySem.W.method_cls I1.kIn c.ga (PySem.W.cls_value I1.kIn c.rd c.at_ rfl ?_)
  have I2 := I1.tok (s1.toks + 1)
  refine PySem.W.callWith_K (first := []) (h₀ := X.base) I.ok.mod.kin c.kp (thn (ha.run pos pins _ σ H1 _ I2 q) fun us s2 ⟨vs, H2, I3, r, q2⟩ => ⟨I3.kIn, ?_⟩) hst hpl
  exact run_fn F hr hb hd hx I3 r q2
end
end Sy
namespace Sy
open PySem L2
section
variable {K : PySem.W.Frag} {σ : St} {H H1 : Hp} {L : List U} {Q : VK} {ta td te : TE} {tr : TA} {v x y z : V} {xs ys : List V} {i j n m : Int} {a b d p : Addr} {C : Addr} {nx bk ct : St → Hp → Prop} {rt : VK} {s1 : TS} {A : Prop}
def kCFn (C : Addr) (sp : Sp) (dvs : List V) (E : XK) (t : TA) (σ : St) (x : V) (H1 : Hp) (Q : VK) : Prop := x = .ref C ∧ t σ H1 fun vs H2 => sp (vs ++ dvs) H2 Q E
theorem x_cfn {sp : Sp} {dvs : List V} {E : XK} (q : ta σ H fun x H1 => kCFn C sp dvs E tr σ x H1 Q) : tCFn C sp dvs E ta tr σ H Q := q
theorem k_cfn0 {sp : Sp} {E : XK} (q : tr σ H fun vs H2 => sp vs H2 Q E) : kCFn C sp [] E tr σ (.ref C) H Q := by
  have e : (fun vs H1 => sp (vs ++ []) H1 Q E) = fun vs H1 => sp vs H1 Q E := by funext vs H1; rw [List.append_nil]
  refine ⟨rfl, ?_⟩
  rw [e]
  exact q
/-! ### a dict while it is walked -/
theorem dget_F {o : Obj} {mm : List (Int × V)} (hp : H a = some (.frz o (dI mm))) : DGet H a (.int i) (valV mm i) := by
  rw [← mk_val g1_inj mm i]
  exact .inl ⟨_, g1 i, .inr ⟨o, hp⟩, rfl, rfl⟩
theorem k_dgetF {o : Obj} {mm : List (Int × V)} (hp : H a = some (.frz o (dI mm))) (hv : valV mm i = some v) (q : Q v H) : kDGet (.ref a) (.int i) H Q := ⟨a, v, rfl, hv ▸ dget_F hp, q⟩
/-- the keys of a locked dict, with a test and an element -/
theorem lc_keysF {k : Nat} {tt : TT} {o : Obj} {mm : List (Int × V)} (h : Int → V) (c : Int → Bool) (hh : Has H L) (hd : ∀ H', Has H' L → H' d = some (.frz o (dI mm))) (hz : mm.length ≤ 100000)
    (ht : ∀ z ∈ mm.map (·.1), ∀ D M H' (Q' : Bool → Hp → Prop), Has H' ([(D, .lst M)] :: L) → (∀ H'', Has H'' ([(D, .lst M)] :: L) → Q' (c z) H'') → tt ((wipe σ [k]).set k (some (.int z))) H' Q')
    (hs : ∀ z ∈ mm.map (·.1), c z = true → ∀ D M H' (Q' : VK), Has H' ([(D, .lst M)] :: L) → (∀ H'', Has H'' ([(D, .lst M)] :: L) → Q' (h z) H'') → te ((wipe σ [k]).set k (some (.int z))) H' Q')
    (q : ∀ D H', Has H' ([(D, .lst (((mm.map (·.1)).filter c).map h))] :: L) → Q (.ref D) H') : kLc (gName k) tt te [k] σ (Itk d o (mk g1 mm)) H Q := by
  have hw : ∀ x, wipe ((wipe σ [k]).set k (some x)) [k] = wipe σ [k] := fun x => by
    show ((σ.set k none).set k (some x)).set k none = σ.set k none
    rw [List.set_set, List.set_set]
  intro D hD
  have hl : (mk g1 mm).length = mm.length := mk_len _ _
  refine ⟨fun i m H' => m = mm.length - i ∧ i ≤ mm.length ∧ Has H' ([(D, .lst ((((mm.map (·.1)).take i).filter c).map h))] :: L), ⟨mm.length, by simp, Nat.zero_le _, hh.nw hD⟩, ?_⟩
  rintro i m H' ⟨rfl, hi, p⟩
  have pl := hd H' (p.sub (Sub.skip Sub.rf))
  by_cases hlt : i < mm.length
  · refine .inr ⟨⟨pl, by rw [hl]; exact hlt⟩, fun H2 => Has H2 ([(D, .lst ((((mm.map (·.1)).take (i + 1)).filter c).map h))] :: L), fun H2 p2 => ⟨mm.length - (i + 1), by omega, rfl, hlt, p2⟩, fun x H2 y => ?_⟩
    obtain ⟨e, kk, vv, hk, ex⟩ := y
    subst e
    have hz1 : (mm.map (·.1))[i]? = some (mm[i]).1 := by rw [List.getElem?_map, List.getElem?_eq_getElem hlt]; rfl
    have hkk : kk = g1 (mm[i]).1 := by
      unfold mk at hk
      rw [List.getElem?_map, List.getElem?_eq_getElem hlt] at hk
      exact (congrArg Prod.fst (Option.some.inj hk)).symm
    subst hkk
    have ex : x = .int (mm[i]).1 := ex
    subst ex
    have hm : (mm[i]).1 ∈ mm.map (·.1) := List.mem_of_getElem? hz1
    have et : (mm.map (·.1)).take (i + 1) = (mm.map (·.1)).take i ++ [(mm[i]).1] := by rw [List.take_add_one, hz1]; rfl
    refine ⟨hw _, ht _ hm D _ H2 _ p fun H3 h3 => ?_⟩
    refine ifB (fun e => ?_) (fun e => ?_)
    · refine hs _ hm e D _ H3 _ h3 fun H4 h4 => ?_
      refine ⟨_, h4.g0, ?_, ?_⟩
      · rw [sizeLine_eq, List.length_map]
        have l1 := List.length_filter_le c ((mm.map (·.1)).take i)
        have l3 := List.length_take_le' i (mm.map (·.1))
        rw [List.length_map] at l3
        omega
      · rw [et, List.filter_append, List.map_append, List.filter_cons, if_pos e]
        exact h4.s0
    · rw [et, List.filter_append, List.filter_cons, if_neg (by rw [e]; decide)]
      simpa using h3
  · have e : i = mm.length := by omega
    subst e
    refine .inl ⟨⟨pl, by rw [hl]; exact Nat.le_refl _⟩, q D H' ?_⟩
    have e2 : (mm.map (·.1)).take mm.length = mm.map (·.1) := List.take_of_length_le (by rw [List.length_map]; exact Nat.le_refl _)
    rw [e2] at p
    exact p
/-- [h z for z in d if c z], d a dict that stands in what is known -/
theorem x_lcD {k : Nat} {tt : TT} {mm : List (Int × V)} (h : Int → V) (c : Int → Bool) (hh : Has H ([(d, dI mm)] :: L)) (hz : mm.length ≤ 100000)
    (htd : ∀ o H' (Q' : VK), Has H' ([(d, .frz o (dI mm))] :: L) → Q' (.ref d) H' → td σ H' Q')
    (ht : ∀ o, ∀ z ∈ mm.map (·.1), ∀ D M H' (Q' : Bool → Hp → Prop), Has H' ([(D, .lst M)] :: [(d, .frz o (dI mm))] :: L) → (∀ H'', Has H'' ([(D, .lst M)] :: [(d, .frz o (dI mm))] :: L) → Q' (c z) H'') → tt ((wipe σ [k]).set k (some (.int z))) H' Q')
    (hs : ∀ o, ∀ z ∈ mm.map (·.1), c z = true → ∀ D M H' (Q' : VK), Has H' ([(D, .lst M)] :: [(d, .frz o (dI mm))] :: L) → (∀ H'', Has H'' ([(D, .lst M)] :: [(d, .frz o (dI mm))] :: L) → Q' (h z) H'') → te ((wipe σ [k]).set k (some (.int z))) H' Q')
    (q : ∀ D H', Has H' ([(D, .lst (((mm.map (·.1)).filter c).map h))] :: [(d, dI mm)] :: L) → Q (.ref D) H') : tLockE (tLc (iKeys td) (gName k) tt te [k]) σ H Q := by
  refine ⟨d, dI mm, hh.g0, trivial, fun o => ?_⟩
  have h1 : Has (upd H d (.frz o (dI mm))) ([(d, .frz o (dI mm))] :: L) := hh.s0
  have z : kLc (gName k) tt te [k] σ (Itk d o (mk g1 mm)) (upd H d (.frz o (dI mm))) (fun v H' => H' d = some (.frz o (dI mm)) ∧ Q v (upd H' d (dI mm))) :=
    lc_keysF h c h1 (fun H' h' => h'.g0) hz (ht o) (hs o) fun D H' h' => ⟨h'.g1, q D _ h'.s1⟩
  exact htd o _ _ h1 ⟨d, o, rfl, .inl ⟨mk g1 mm, h1.g0, z⟩⟩
/-- x = [h z for z in d if c z] -/
theorem x_asgD {k l : Nat} {tt : TT} {mm : List (Int × V)} (h : Int → V) (c : Int → Bool) (hh : Has H ([(d, dI mm)] :: L)) (hz : mm.length ≤ 100000)
    (htd : ∀ o H' (Q' : VK), Has H' ([(d, .frz o (dI mm))] :: L) → Q' (.ref d) H' → td σ H' Q')
    (ht : ∀ o, ∀ z ∈ mm.map (·.1), ∀ D M H' (Q' : Bool → Hp → Prop), Has H' ([(D, .lst M)] :: [(d, .frz o (dI mm))] :: L) → (∀ H'', Has H'' ([(D, .lst M)] :: [(d, .frz o (dI mm))] :: L) → Q' (c z) H'') → tt ((wipe σ [k]).set k (some (.int z))) H' Q')
    (hs : ∀ o, ∀ z ∈ mm.map (·.1), c z = true → ∀ D M H' (Q' : VK), Has H' ([(D, .lst M)] :: [(d, .frz o (dI mm))] :: L) → (∀ H'', Has H'' ([(D, .lst M)] :: [(d, .frz o (dI mm))] :: L) → Q' (h z) H'') → te ((wipe σ [k]).set k (some (.int z))) H' Q')
    (q : ∀ D H', Has H' ([(D, .lst (((mm.map (·.1)).filter c).map h))] :: [(d, dI mm)] :: L) → nx (σ.set l (some (.ref D))) H') : tLock (tAsg (tLc (iKeys td) (gName k) tt te [k]) (gName l)) ⟨nx, rt, bk, ct⟩ σ H := by
  refine ⟨d, dI mm, hh.g0, trivial, fun o => ?_⟩
  have h1 : Has (upd H d (.frz o (dI mm))) ([(d, .frz o (dI mm))] :: L) := hh.s0
  have z : kLc (gName k) tt te [k] σ (Itk d o (mk g1 mm)) (upd H d (.frz o (dI mm))) (fun v H' => H' d = some (.frz o (dI mm)) ∧ nx (σ.set l (some v)) (upd H' d (dI mm))) :=
    lc_keysF h c h1 (fun H' h' => h'.g0) hz (ht o) (hs o) fun D H' h' => ⟨h'.g1, q D _ h'.s1⟩
  exact htd o _ _ h1 ⟨d, o, rfl, .inl ⟨mk g1 mm, h1.g0, z⟩⟩
/-! ### x in xs, whole numbers -/
theorem k_inI {neg : Bool} {ns : List Int} (hp : H p = some (.lst (ns.map V.int))) (q : Q (.bl (if neg then !decide (i ∈ ns) else decide (i ∈ ns))) H) : rIn K neg (.int i) (.ref p) H Q := by
  refine ⟨p, _, rfl, .inl (SqL.of hp), rfl, ?_, ?_⟩
  · rw [List.all_eq_true]
    intro y hy
    obtain ⟨z, _, rfl⟩ := List.mem_map.mp hy
    rfl
  · have e : inV (.int i) (ns.map V.int) = decide (i ∈ ns) := by
      unfold inV
      rw [List.any_map]
      by_cases h : i ∈ ns
      · rw [decide_eq_true h, List.any_eq_true]
        exact ⟨i, h, by simp [eqV]⟩
      · rw [decide_eq_false h, List.any_eq_false]
        intro z hz
        have : z ≠ i := fun e => h (e ▸ hz)
        simp [eqV, this]
    rw [e]
    exact q
theorem k_inIt {ns : List Int} (hp : H p = some (.lst (ns.map V.int))) (q : Q (.bl (decide (i ∈ ns))) H) : rIn K false (.int i) (.ref p) H Q := k_inI hp q
theorem k_inIf {ns : List Int} (hp : H p = some (.lst (ns.map V.int))) (q : Q (.bl (!decide (i ∈ ns))) H) : rIn K true (.int i) (.ref p) H Q := k_inI hp q
/-- [h z for .. in zs if c z], the target of any form: behind it the names are t z -/
theorem k_lcG {α : Type} {g : TG} {tt : TT} {vs : List Nat} (zs : List α) (e : α → V) (h : α → V) (c : α → Bool) (t : α → St) (hh : Has H L) (ha : ∀ H', Has H' L → H' a = some (.lst (zs.map e))) (hz : zs.length ≤ 100000) (hw : ∀ z ∈ zs, wipe (t z) vs = wipe σ vs)
    (hg : ∀ z ∈ zs, ∀ D M H' (Q' : St → Hp → Prop), Has H' ([(D, .lst M)] :: L) → Q' (t z) H' → g (e z) (wipe σ vs) H' Q')
    (ht : ∀ z ∈ zs, ∀ D M H' (Q' : Bool → Hp → Prop), Has H' ([(D, .lst M)] :: L) → (∀ H'', Has H'' ([(D, .lst M)] :: L) → Q' (c z) H'') → tt (t z) H' Q')
    (hs : ∀ z ∈ zs, c z = true → ∀ D M H' (Q' : VK), Has H' ([(D, .lst M)] :: L) → (∀ H'', Has H'' ([(D, .lst M)] :: L) → Q' (h z) H'') → te (t z) H' Q')
    (q : ∀ D H', Has H' ([(D, .lst ((zs.filter c).map h))] :: L) → Q (.ref D) H') : kLcL K g tt te vs σ (.ref a) H Q := by
  refine k_lcL (L := L) hh (fun D i H' => Has H' ([(D, .lst (((zs.take i).filter c).map h))] :: L)) (ha H hh) (fun D H' h' => h') (fun D i H' h' => ha H' (h'.sub (Sub.skip Sub.rf))) (fun D i x H' hi h' => ?_) (fun D H' h' => ?_)
  · rw [List.getElem?_map] at hi
    obtain ⟨z, hz1, rfl⟩ := Option.map_eq_some_iff.mp hi
    have hm : z ∈ zs := List.mem_of_getElem? hz1
    have et : zs.take (i + 1) = zs.take i ++ [z] := by rw [List.take_add_one, hz1]; rfl
    refine hg z hm D _ H' _ h' ⟨hw z hm, ht z hm D _ H' _ h' fun H2 h2 => ?_⟩
    refine ifB (fun e => ?_) (fun e => ?_)
    · refine hs z hm e D _ H2 _ h2 fun H3 h3 => ?_
      refine ⟨_, h3.g0, ?_, ?_⟩
      · rw [sizeLine_eq, List.length_map]
        have l1 := List.length_filter_le c (zs.take i)
        have l3 := List.length_take_le' i zs
        omega
      · rw [et, List.filter_append, List.map_append, List.filter_cons, if_pos e]
        exact h3.s0
    · rw [et, List.filter_append, List.filter_cons, if_neg (by rw [e]; decide)]
      simpa using h2
  · rw [List.length_map, List.take_length] at h'
    exact q D H' h'
theorem k_neDNN (q : Q (.bl false) H) : rNeD K .non .non H Q := ⟨.none, .none, .non, .non, by decide +kernel, by decide +kernel, by
  have e : PyData.eqv .none .none = true := by decide +kernel
  rw [e]; exact q⟩
theorem k_eqDNN (q : Q (.bl true) H) : rEqD K .non .non H Q := ⟨.none, .none, .non, .non, by decide +kernel, by decide +kernel, by
  have e : PyData.eqv .none .none = true := by decide +kernel
  rw [e]; exact q⟩
end
end Sy
/-! Rules of our own: d.pop(k) for keys that are tuples; comprehensions over such dicts; set(xs) of a list of whole numbers, sorted. -/
namespace Sy
open PySem PySem.W PySem.Calls PySem.Spec PyProof.Rows L2
section
variable {κ : Type} [DecidableEq κ] {prog : Program} {w : World} {knd : HeapKind prog w κ}
theorem meetsPop1 {d b : Addr} {k : κ} (hd : (d == sysModules) = false) :
    MeetsIn prog w (Builtin.«dict.pop» ⟨[.ref d, .ref b], []⟩) (fun A R s => ∃ xs p, knd.room A.in1 ∧ knd.is s.heap k b ∧ s.heap.DictOfH knd d xs ∧ xs.length ≤ sizeLine ∧ atKey xs k = some p ∧
      ∀ h' tk, h'.DictOfH knd d (DT.dropH xs k) → Heap.SameBut d s.heap h' → R (.ok (.ret p.2)) { s with heap := h', toks := tk }) :=
  .of_wp fun A R s ⟨xs, p, hu, hkey, hm, hsz, hp, hsome⟩ => by
    obtain ⟨o, es, ep, ho, hc, hdat, he, his, hn⟩ := id hm
    have hpart : (keyPart (Value.ref b)).isSome = false := rfl
    have hes : es.size = xs.length := by rw [← Array.length_toList, he, List.length_map]
    unfold Builtin.«dict.pop»
    refine wpAny_bind ?_
    unfold Builtin.Dict.keyAndDefault
    refine wpAny_bind (wpAny_notOrdered_dict hm.typeIs ?_)
    show wpAny _ _ (pure (d, Value.ref b, none)) _ _ s
    refine wpAny_pure ?_
    simp only [hpart, Bool.false_eq_true, if_false]
    refine wpAny_bind (wpAny_dictEntries ho hdat (wpAny_bind (wpAny_pure ?_)))
    have hem : es.isEmpty = false := by
      cases hq : es.isEmpty with
      | false => rfl
      | true =>
        have z : es.size = 0 := by simpa using hq
        have z2 : xs = [] := List.length_eq_zero_iff.mp (by omega)
        rw [z2] at hp
        cases hp
    rw [hem]
    simp only [Bool.false_eq_true, if_false]
    refine wpAny_bind (DT.takeH hu hkey hm hsz (fun hno => absurd (hno.symm.trans hp) (fun z => nomatch z)) fun p' e hp' hev h' hm' hs' => ?_)
    simp only [Option.isNone_some, Bool.false_eq_true, if_false]
    have e2 : p' = p := Option.some.inj (hp'.symm.trans hp)
    subst e2
    exact wpAny_bind (wpAny_letGo (wpAny_pure ⟨e.val, rfl, by rw [hev]; exact hsome h' _ hm' hs'⟩))
end
/-- d.pop(k), k a tuple that is there -/
def tDPopT (td ty : TE) : TE := fun σ H Q => td σ H fun x H1 => ∃ a, x = .ref a ∧ IsD H1 a ∧ ty σ H1 fun y H2 => ∃ kvs k b v, H2 a = some (.dT kvs) ∧ y = .ref b ∧ H2 b = some (.tup (k.map kV)) ∧ valV kvs k = some v ∧ Q v (upd H2 a (.dT (dropK kvs k)))
section
variable {X : Cx} {o e : Expr} {apos cpos : Pos} {td ty : TE}
theorem pe_dpopT (hu : X.A.units + 1 < cLine) (ho : PE X o td) (he : PE X e ty) (m : M1 X o "pop" apos e cpos) : PE X (.Call (.Attribute o "pop" apos) [e] [] cpos) (tDPopT td ty) := by
  refine ⟨fun pins s σ H Q I h => ?_⟩
  refine wpAny_Call_method m.base m.few m.line PySem.F.plainAttrs_dict PySem.F.slot_dict_pop PySem.F.type_dict_pop (thn (ho.run pins s σ H _ I h) fun u s1 ⟨x, H1, I1, rx, a, ex, d, q1⟩ => ?_)
  subst ex
  obtain rfl : u = Value.ref a := rx
  obtain ⟨t1, t2, _⟩ := isD_at I1 d
  refine ⟨t1, t2, ?_⟩
  rw [m.trees]
  refine Calls.callWith_builtin rfl (Calls.evalArgs_plain (Calls.spliced_cons (thn (he.run pins s1 σ H1 _ I1 q1) fun iv s2 ⟨y, H2, I2, ry, kvs, k, b, v, ea, ey, eb, l, q2⟩ => Calls.spliced_nil ?_)))
  subst ey
  obtain rfl : iv = Value.ref b := ry
  obtain ⟨z, hd, xs, rel, dd⟩ := dt_of I2.hok ea
  have hz : xs.length ≤ sizeLine := by rw [← Paired.length rel]; exact z
  have r := rel.val k
  rw [l] at r
  obtain ⟨p, hp, rp⟩ : ∃ p, atKey xs k = some p ∧ RelV v p.2 := by
    cases ev : atKey xs k with
    | none => rw [ev] at r; exact (show False from r).elim
    | some p => rw [ev] at r; exact ⟨p, rfl, r⟩
  refine call_meetsIn PySem.F.slot_dict_pop dd.typeIs PySem.F.entry_dict_pop (PySem.F.args_dict_pop_2 _ _) (meetsPop1 (knd := tupleKind (mixKind X.prog X.w)) (k := k) hd)
    ⟨xs, p, tupleKind_room_in1 hu, key_of I2.hok eb, dd, hz, hp, fun h' tk dd' hs => ?_⟩
  obtain ⟨o, es, ep, hq, h2, h3, h4, _, h5⟩ := dd'
  have I3 : Inv X pins σ (upd H2 a (.dT (dropK kvs k))) { s2 with heap := h', toks := tk } :=
    d_write I2 (by rw [ea]; exact True.intro) hs ⟨o, hq⟩ ⟨Nat.le_trans (dropK_le kvs k) z, hd, _, (DX.KT_drop k rel).keeps (fun c ys ec => (by rw [upd_ne (ne_of ec ea (fun z => nomatch z))]; exact ec)), o, es, ep, hq, h2, h3, h4, h5⟩
  exact ⟨v, _, I3, rp, q2⟩
end
section
variable {P : Program} {w : World} {A : Around} {E : Value → Shared → Prop} {s : Shared}
abbrev freshSet (w : World) : Obj := { cls := .type "set", dict := none, data := .set #[] 0 (.fresh 0 0 (!w.params.followText "set-order")) }
set_option maxHeartbeats 3200000 in
theorem call_set_ints {l : Addr} {items : Array Value} (ns : List Int) {Q : Value → Shared → Prop} (hh : A.handled = none) (hl : s.heap.IsList l items) (hit : IntsAre items.toList ns) (hb : ns.length + 1 < scanBound)
    (h : ∀ (h' : Heap) (tk c : Nat), SetR w h' s.heap.objs.size (fun j => decide (j ∈ ns)) c → c ≤ ns.length → (∀ b o, s.heap.get? b = some o → h'.get? b = some o) → Q (.ref s.heap.objs.size) { s with heap := h', toks := tk }) :
    wpAny (model P w) A (call (.type "set") [.ref l]) Q E s := by
  have hisz : items.size = ns.length := by
    have q := IntsAre.length hit
    rw [Array.length_toList] at q
    exact q
  obtain ⟨c, tl, hmro⟩ := F.called_set.mro
  have hmade := F.called_set.made
  have hsub := F.called_set.sub
  refine wpAny_call (codeAny_of_tree ?_)
  show wpAny _ _ (callAny (.type "set") _) _ _ _
  refine wpAny_pure ⟨Code.quiet_builtin _ (by decide +kernel), codeAny_builtin F.entry_type_call ?_⟩
  rw [Around.under_plain (weight_type_call_type "set" [.ref l] []) rfl]
  have h1 := F.called_set.notType
  have h2 := F.called_set.canCreate
  have hct := F.typeCall_set_1 (.ref l)
  repeat (any_goals (first | assumption | wp_step))
  refine codeAny_mono (code_set_led1 (.ref l) (E := E) (Q₁ := fun obj s₁ => obj = .ref s.heap.objs.size ∧ s₁ = { s with heap := s.heap.push (freshSet w) }) ⟨rfl, rfl⟩) fun r s₁ hr => ?_
  match r, hr with
  | .error e, hr => exact hr
  | .ok (.ret obj), hr =>
    obtain ⟨rfl, rfl⟩ := hr
    have hS : (s.heap.push (freshSet w)).get? s.heap.objs.size = some (freshSet w) := Heap.get?_push_size _ rfl
    have hT : Shared.TypeIs { s with heap := s.heap.push (freshSet w) } (.ref s.heap.objs.size) "set" := ⟨_, hS, rfl⟩
    have hli := F.called_set.init.lookup
    have hbi := F.called_set.init.bind (.ref s.heap.objs.size)
    repeat (any_goals (first | assumption | wp_step))
    refine codeAny_mono (codeAny_call_builtin (R := wants (fun r s₂ => r = .none ∧ ∃ h' tk c, s₂ = { s with heap := h', toks := tk } ∧ SetR w h' s.heap.objs.size (fun j => decide (j ∈ ns)) c ∧ c ≤ ns.length ∧
        (∀ b o, s.heap.get? b = some o → h'.get? b = some o)) E) F.called_set.init.plain F.entry_set_init (check_set_init_1 hT ?_)) fun r₂ s₂ hr₂ => ?_
    · obtain ⟨ol, hol, hcl, nl, hdl⟩ := hl
      obtain ⟨ocls, odict, odata, oslots⟩ := ol
      simp only at hcl hdl
      subst hcl; subst hdl
      have hol' : (s.heap.push (freshSet w)).get? l = some { cls := .type "list", dict := odict, data := .seq items nl, slots := oslots } := Heap.get?_push_of_some _ hol
      have hsls := F.sub_list_set
      have hslf := F.sub_list_frozenset
      have hne : (Value.type "list" == Value.type "dict") = false := by decide
      have hl1 : (s.heap.push (freshSet w)).IsList l items := ⟨_, hol', rfl, nl, rfl⟩
      unfold Builtin.«set.__init__» noKeywords Builtin.Frozenset.updateFrom
      generalize hPI : pyIter = PI
      wp_walk
      subst hPI
      refine wpAny_pyIter_list hl1 ?_
      refine wpAny_bind (wpAny_runValue ?_)
      have hlS : l < s.heap.objs.size := Heap.lt_size hol
      have hsp : (s.heap.push (freshSet w)).objs.size = s.heap.objs.size + 1 := Heap.size_push ..
      have hneI : l ≠ (s.heap.push (freshSet w)).objs.size := by rw [hsp]; exact Nat.ne_of_lt (Nat.lt_succ_of_lt hlS)
      have hSf : s.heap.objs.size ∉ [(s.heap.push (freshSet w)).objs.size, l] := by
        simp only [List.mem_cons, List.not_mem_nil, or_false, not_or]
        exact ⟨by rw [hsp]; exact Nat.ne_of_lt (Nat.lt_succ_self _), Nat.ne_of_gt hlS⟩
      have hval : ∀ (i : Nat) (v : Value), items[i]? = some v → ∃ k t, ns[i]? = some k ∧ v = .int k t := fun i v hv => by
        have hi : i < ns.length := by rw [← hisz]; exact (Array.getElem?_eq_some_iff.mp hv).1
        obtain ⟨t, e⟩ := PyProof.Rows.IntsAre.int_at hit i v (by rw [Array.getElem?_toList]; exact hv)
        refine ⟨ns[i], t, List.getElem?_eq_getElem hi, ?_⟩
        rw [e, List.getD_eq_getElem?_getD, List.getElem?_eq_getElem hi] <;> rfl
      refine set_update_ints ((Walks.list (by simp [hh]) _ l hneI items).toS) s.heap.objs.size hSf ns hisz hb hval (items.size - 0) 0 _ (by omega) (Nat.zero_le _)
        ⟨⟨_, Heap.get?_push_size _ rfl, rfl, rfl⟩, hl1.push _⟩ ⟨0, Nat.le_refl 0, setR_new_at (Heap.get?_push_of_some _ hS)⟩ fun s' c' hm hc' hS' => ?_
      obtain ⟨h', g2, d', tk', os'⟩ := s'
      have eg : g2 = s.gens := hm.gens
      have ed : d' = s.drawn := hm.drawn
      have eo : os' = s.os := hm.os
      subst eg; subst ed; subst eo
      show wpAny _ _ _ _ _ _
      refine wpAny_pure ?_
      show wpAny _ _ (ret Value.none) _ _ _
      rw [hisz] at hc'
      refine wpAny_pure ⟨rfl, h', tk', c', rfl, hS', hc', fun b o e => ?_⟩
      have hb0 : b < s.heap.objs.size := Heap.lt_size e
      exact hm.heap b o (by simp only [List.mem_cons, List.not_mem_nil, or_false, not_or]; exact ⟨Nat.ne_of_lt hb0, by rw [hsp]; exact Nat.ne_of_lt (Nat.lt_succ_of_lt hb0)⟩) (Heap.get?_push_of_some _ (Heap.get?_push_of_some _ e))
    · match r₂, hr₂ with
      | .error e, hr₂ => exact hr₂
      | .ok (.ret r), hr₂ =>
        obtain ⟨rfl, h', tk, c', rfl, hS', hc', hk'⟩ := hr₂
        repeat (any_goals (first | assumption | wp_step))
        exact h _ _ _ hS' hc' hk'
      | .ok .next, hr₂ => exact hr₂.elim
      | .ok .brk, hr₂ => exact hr₂.elim
      | .ok .cont, hr₂ => exact hr₂.elim
  | .ok .next, hr => exact hr.elim
  | .ok .brk, hr => exact hr.elim
  | .ok .cont, hr => exact hr.elim
end
/-- set(xs), whole numbers -/
def rSetOf (K : PySem.W.Frag) (w : World) : List V → Hp → VK → Prop := fun vs H Q => ∃ (p : Addr) (ns : List Int), vs = [.ref p] ∧ SqL K H p (ns.map V.int) ∧ ns.length ≤ 1000 ∧
  ∀ q c, H q = none → c ≤ ns.length → Q (.ref q) (upd H q (SetO w q (fun j => decide (j ∈ ns)) c))
section
variable {X : Cx}
theorem call_setOf (hc : X.calm = true) : CallR X (.type "set") (rSetOf X.K X.w) := by
  intro pins s σ H vs us Q I r h
  obtain ⟨p, ns, rfl, hp, hl, q⟩ := h
  rw [Vals.ref1 r]
  obtain ⟨its, rv, pt, _⟩ := I.list hp
  have hi : IntsAre its.toArray.toList ns := ints_of_vals rv
  refine call_set_ints ns (I.ok.hd hc) pt.isList hi (by unfold scanBound; omega) fun h' tk c R1 hcn k => ?_
  have hn : H s.heap.objs.size = none := I.hok.fresh (Nat.le_refl _)
  exact ⟨.ref s.heap.objs.size, _, I.laid (t' := tk) (fun b u e => k b u e) (Nat.le_refl _) (setO_new R1), rfl, q _ c hn hcn⟩
end
/-- sorted(set(xs)), whole numbers -/
def tSSet (K : PySem.W.Frag) (t : TA) : TE := fun σ H Q => ∀ w : World, t σ H fun vs H1 => rSetOf K w vs H1 fun v H2 => rSortedSet w [v] H2 Q
section
variable {X : Cx} {e : Expr} {t : TA} {p p2 pos pos2 : Pos}
theorem pe_sset (hc : X.calm = true) (hg : Gl X "sorted") (hm : X.mg "sorted" = none) (hg2 : Gl X "set") (hm2 : X.mg "set" = none) (ha : PA X [e] t)
    (hs2 : starEach [e] X.env = [(false, eval e X.env)] := by rfl)
    (hs : starEach [.Call (.Name "set" p2) [e] [] pos2] X.env = [(false, eval (.Call (.Name "set" p2) [e] [] pos2) X.env)] := by rfl) :
    PE X (.Call (.Name "sorted" p) [.Call (.Name "set" p2) [e] [] pos2] [] pos) (tSSet X.K t) := by
  have h1 : PE X (.Call (.Name "sorted" p) [.Call (.Name "set" p2) [e] [] pos2] [] pos) (tCB (rSortedSet X.w) (tCons (tCB (rSetOf X.K X.w) t) tNil)) :=
    pe_callB (cr_sortedSet hc) hg hm (by decide +kernel) (pa_cons (pe_callTy (call_setOf hc) hg2 hm2 (by decide +kernel) ha (by decide) (by decide) hs2 rfl) pa_nil) (by decide) (by decide) hs rfl
  exact ⟨fun pins s σ H Q I h => h1.run pins s σ H Q I (h X.w)⟩
end
end Sy
namespace Sy
open PySem L2
section
variable {K : PySem.W.Frag} {σ : St} {H H1 : Hp} {L : List U} {Q : VK} {ta td te ty : TE} {tr : TA} {v x y z : V} {xs ys : List V} {i j n m : Int} {a b d p : Addr} {C : Addr} {nx bk ct : St → Hp → Prop} {rt : VK} {s1 : TS} {A : Prop}
def kSSet (K : PySem.W.Frag) (w : World) (vs : List V) (H1 : Hp) (Q : VK) : Prop := rSetOf K w vs H1 fun v H2 => rSortedSet w [v] H2 Q
theorem x_sset (q : ∀ w, tr σ H fun vs H1 => kSSet K w vs H1 Q) : tSSet K tr σ H Q := q
theorem k_sset {w : World} {ns : List Int} (hh : Has H L) (hp : H p = some (.lst (ns.map V.int))) (hl : ns.length < 64)
    (q : ∀ (ys : List Int) d H', ys.Pairwise (· < ·) → (∀ k, k ∈ ys ↔ k ∈ ns) → Has H' ([(d, .lst (ys.map V.int))] :: L) → Q (.ref d) H') : kSSet K w [.ref p] H Q := by
  refine ⟨p, ns, rfl, SqL.of hp, by omega, fun r c hr hc => ?_⟩
  have h1 := hh.nw (o := SetO w r (fun j => decide (j ∈ ns)) c) hr
  refine ⟨r, _, c, rfl, h1.g0, by omega, fun ys d hs hm _ hd => q ys d _ hs (fun k => (hm k).trans (by simp)) ?_⟩
  exact (h1.nw hd).sub (Sub.p0 (Sub.skip Sub.rf))
def kDPopT (a : Addr) (y : V) (H2 : Hp) (Q : VK) : Prop := ∃ kvs k b v, H2 a = some (.dT kvs) ∧ y = .ref b ∧ H2 b = some (.tup (k.map kV)) ∧ valV kvs k = some v ∧ Q v (upd H2 a (.dT (dropK kvs k)))
theorem x_dpopT (q : td σ H fun x H1 => kIsD x H1 fun a => ty σ H1 fun y H2 => kDPopT a y H2 Q) : tDPopT td ty σ H Q := q
theorem k_dpopT {mm : List ((Int × Int) × V)} {M : List U} (hp : H a = some (dP mm)) (hb : H b = some (.tup [.int i, .int j])) (hv : valV mm (i, j) = some v) (hh : Has (upd H a (dP (dropK mm (i, j)))) M) (q : ∀ H', Has H' M → Q v H') : kDPopT a (.ref b) H Q := by
  refine ⟨_, g2 (i, j), b, v, hp, rfl, hb, by rw [mk_val g2_inj]; exact hv, ?_⟩
  rw [mk_drop g2_inj]
  exact q _ hh
theorem dget_FP {o : Obj} {mm : List ((Int × Int) × V)} (hp : H a = some (.frz o (dP mm))) (hb : H b = some (.tup [.int i, .int j])) : DGet H a (.ref b) (valV mm (i, j)) := by
  rw [← mk_val g2_inj mm (i, j)]
  exact .inr ⟨_, g2 (i, j), b, .inr ⟨o, hp⟩, rfl, hb, rfl⟩
theorem k_dgetFP {o : Obj} {mm : List ((Int × Int) × V)} (hp : H a = some (.frz o (dP mm))) (hb : H b = some (.tup [.int i, .int j])) (hv : valV mm (i, j) = some v) (q : Q v H) : kDGet (.ref a) (.ref b) H Q := ⟨a, v, rfl, hv ▸ dget_FP hp hb, q⟩
/-- the keys of a locked dict, pairs, with a test and an element; behind the target the names are t -/
theorem lc_keysT {g : TG} {tt : TT} {o : Obj} {vs : List Nat} {mm : List ((Int × Int) × V)} (h : Int × Int → V) (c : Int × Int → Bool) (t : Addr → Int × Int → St) (hh : Has H L) (hd : ∀ H', Has H' L → H' d = some (.frz o (dP mm))) (hz : mm.length ≤ 100000)
    (hw : ∀ q, ∀ z ∈ mm.map (·.1), wipe (t q z) vs = wipe σ vs)
    (hg : ∀ q, ∀ z ∈ mm.map (·.1), ∀ D M H' (Q' : St → Hp → Prop), H' q = some (.tup [.int z.1, .int z.2]) → Has H' ([(D, .lst M)] :: L) → Q' (t q z) H' → g (.ref q) (wipe σ vs) H' Q')
    (ht : ∀ q, ∀ z ∈ mm.map (·.1), ∀ D M H' (Q' : Bool → Hp → Prop), H' q = some (.tup [.int z.1, .int z.2]) → Has H' ([(D, .lst M)] :: L) → (∀ H'', H'' q = some (.tup [.int z.1, .int z.2]) → Has H'' ([(D, .lst M)] :: L) → Q' (c z) H'') → tt (t q z) H' Q')
    (hs : ∀ q, ∀ z ∈ mm.map (·.1), c z = true → ∀ D M H' (Q' : VK), H' q = some (.tup [.int z.1, .int z.2]) → Has H' ([(D, .lst M)] :: L) → (∀ H'', Has H'' ([(D, .lst M)] :: L) → Q' (h z) H'') → te (t q z) H' Q')
    (q : ∀ D H', Has H' ([(D, .lst (((mm.map (·.1)).filter c).map h))] :: L) → Q (.ref D) H') : kLc g tt te vs σ (Itkt d o (mk g2 mm)) H Q := by
  intro D hD
  have hl : (mk g2 mm).length = mm.length := mk_len _ _
  refine ⟨fun i m H' => m = mm.length - i ∧ i ≤ mm.length ∧ Has H' ([(D, .lst ((((mm.map (·.1)).take i).filter c).map h))] :: L), ⟨mm.length, by simp, Nat.zero_le _, hh.nw hD⟩, ?_⟩
  rintro i m H' ⟨rfl, hi, p⟩
  have pl := hd H' (p.sub (Sub.skip Sub.rf))
  by_cases hlt : i < mm.length
  · refine .inr ⟨⟨pl, by rw [hl]; exact hlt⟩, fun H2 => Has H2 ([(D, .lst ((((mm.map (·.1)).take (i + 1)).filter c).map h))] :: L), fun H2 p2 => ⟨mm.length - (i + 1), by omega, rfl, hlt, p2⟩, fun x H2 y => ?_⟩
    obtain ⟨e, kk, vv, r, hk, ex, hr⟩ := y
    subst e
    have hz1 : (mm.map (·.1))[i]? = some (mm[i]).1 := by rw [List.getElem?_map, List.getElem?_eq_getElem hlt]; rfl
    have hkk : kk = g2 (mm[i]).1 := by
      unfold mk at hk
      rw [List.getElem?_map, List.getElem?_eq_getElem hlt] at hk
      exact (congrArg Prod.fst (Option.some.inj hk)).symm
    subst hkk ex
    have hr : H2 r = some (.tup [.int (mm[i]).1.1, .int (mm[i]).1.2]) := hr
    have hm : (mm[i]).1 ∈ mm.map (·.1) := List.mem_of_getElem? hz1
    have et : (mm.map (·.1)).take (i + 1) = (mm.map (·.1)).take i ++ [(mm[i]).1] := by rw [List.take_add_one, hz1]; rfl
    refine hg r _ hm D _ H2 _ hr p ⟨hw r _ hm, ht r _ hm D _ H2 _ hr p fun H3 hr3 h3 => ?_⟩
    refine ifB (fun e => ?_) (fun e => ?_)
    · refine hs r _ hm e D _ H3 _ hr3 h3 fun H4 h4 => ?_
      refine ⟨_, h4.g0, ?_, ?_⟩
      · rw [sizeLine_eq, List.length_map]
        have l1 := List.length_filter_le c ((mm.map (·.1)).take i)
        have l3 := List.length_take_le' i (mm.map (·.1))
        rw [List.length_map] at l3
        omega
      · rw [et, List.filter_append, List.map_append, List.filter_cons, if_pos e]
        exact h4.s0
    · rw [et, List.filter_append, List.filter_cons, if_neg (by rw [e]; decide)]
      simpa using h3
  · have e : i = mm.length := by omega
    subst e
    refine .inl ⟨⟨pl, by rw [hl]; exact Nat.le_refl _⟩, q D H' ?_⟩
    have e2 : (mm.map (·.1)).take mm.length = mm.map (·.1) := List.take_of_length_le (by rw [List.length_map]; exact Nat.le_refl _)
    rw [e2] at p
    exact p
/-- [h z for .. in d if c z], d a dict of pairs that stands in what is known -/
theorem x_lcT {g : TG} {tt : TT} {vs : List Nat} {mm : List ((Int × Int) × V)} (h : Int × Int → V) (c : Int × Int → Bool) (t : Addr → Int × Int → St) (hh : Has H ([(d, dP mm)] :: L)) (hz : mm.length ≤ 100000)
    (hw : ∀ q, ∀ z ∈ mm.map (·.1), wipe (t q z) vs = wipe σ vs)
    (htd : ∀ o H' (Q' : VK), Has H' ([(d, .frz o (dP mm))] :: L) → Q' (.ref d) H' → td σ H' Q')
    (hg : ∀ o q, ∀ z ∈ mm.map (·.1), ∀ D M H' (Q' : St → Hp → Prop), H' q = some (.tup [.int z.1, .int z.2]) → Has H' ([(D, .lst M)] :: [(d, .frz o (dP mm))] :: L) → Q' (t q z) H' → g (.ref q) (wipe σ vs) H' Q')
    (ht : ∀ o q, ∀ z ∈ mm.map (·.1), ∀ D M H' (Q' : Bool → Hp → Prop), H' q = some (.tup [.int z.1, .int z.2]) → Has H' ([(D, .lst M)] :: [(d, .frz o (dP mm))] :: L) → (∀ H'', H'' q = some (.tup [.int z.1, .int z.2]) → Has H'' ([(D, .lst M)] :: [(d, .frz o (dP mm))] :: L) → Q' (c z) H'') → tt (t q z) H' Q')
    (hs : ∀ o q, ∀ z ∈ mm.map (·.1), c z = true → ∀ D M H' (Q' : VK), H' q = some (.tup [.int z.1, .int z.2]) → Has H' ([(D, .lst M)] :: [(d, .frz o (dP mm))] :: L) → (∀ H'', Has H'' ([(D, .lst M)] :: [(d, .frz o (dP mm))] :: L) → Q' (h z) H'') → te (t q z) H' Q')
    (q : ∀ D H', Has H' ([(D, .lst (((mm.map (·.1)).filter c).map h))] :: [(d, dP mm)] :: L) → Q (.ref D) H') : tLockE (tLc (iKeys td) g tt te vs) σ H Q := by
  refine ⟨d, dP mm, hh.g0, trivial, fun o => ?_⟩
  have h1 : Has (upd H d (.frz o (dP mm))) ([(d, .frz o (dP mm))] :: L) := hh.s0
  have z : kLc g tt te vs σ (Itkt d o (mk g2 mm)) (upd H d (.frz o (dP mm))) (fun v H' => H' d = some (.frz o (dP mm)) ∧ Q v (upd H' d (dP mm))) :=
    lc_keysT h c t h1 (fun H' h' => h'.g0) hz hw (hg o) (ht o) (hs o) fun D H' h' => ⟨h'.g1, q D _ h'.s1⟩
  exact htd o _ _ h1 ⟨d, o, rfl, .inr ⟨mk g2 mm, h1.g0, z⟩⟩
theorem x_asgT {g : TG} {l : Nat} {tt : TT} {vs : List Nat} {mm : List ((Int × Int) × V)} (h : Int × Int → V) (c : Int × Int → Bool) (t : Addr → Int × Int → St) (hh : Has H ([(d, dP mm)] :: L)) (hz : mm.length ≤ 100000)
    (hw : ∀ q, ∀ z ∈ mm.map (·.1), wipe (t q z) vs = wipe σ vs)
    (htd : ∀ o H' (Q' : VK), Has H' ([(d, .frz o (dP mm))] :: L) → Q' (.ref d) H' → td σ H' Q')
    (hg : ∀ o q, ∀ z ∈ mm.map (·.1), ∀ D M H' (Q' : St → Hp → Prop), H' q = some (.tup [.int z.1, .int z.2]) → Has H' ([(D, .lst M)] :: [(d, .frz o (dP mm))] :: L) → Q' (t q z) H' → g (.ref q) (wipe σ vs) H' Q')
    (ht : ∀ o q, ∀ z ∈ mm.map (·.1), ∀ D M H' (Q' : Bool → Hp → Prop), H' q = some (.tup [.int z.1, .int z.2]) → Has H' ([(D, .lst M)] :: [(d, .frz o (dP mm))] :: L) → (∀ H'', H'' q = some (.tup [.int z.1, .int z.2]) → Has H'' ([(D, .lst M)] :: [(d, .frz o (dP mm))] :: L) → Q' (c z) H'') → tt (t q z) H' Q')
    (hs : ∀ o q, ∀ z ∈ mm.map (·.1), c z = true → ∀ D M H' (Q' : VK), H' q = some (.tup [.int z.1, .int z.2]) → Has H' ([(D, .lst M)] :: [(d, .frz o (dP mm))] :: L) → (∀ H'', Has H'' ([(D, .lst M)] :: [(d, .frz o (dP mm))] :: L) → Q' (h z) H'') → te (t q z) H' Q')
    (q : ∀ D H', Has H' ([(D, .lst (((mm.map (·.1)).filter c).map h))] :: [(d, dP mm)] :: L) → nx (σ.set l (some (.ref D))) H') : tLock (tAsg (tLc (iKeys td) g tt te vs) (gName l)) ⟨nx, rt, bk, ct⟩ σ H := by
  refine ⟨d, dP mm, hh.g0, trivial, fun o => ?_⟩
  have h1 : Has (upd H d (.frz o (dP mm))) ([(d, .frz o (dP mm))] :: L) := hh.s0
  have z : kLc g tt te vs σ (Itkt d o (mk g2 mm)) (upd H d (.frz o (dP mm))) (fun v H' => H' d = some (.frz o (dP mm)) ∧ nx (σ.set l (some v)) (upd H' d (dP mm))) :=
    lc_keysT h c t h1 (fun H' h' => h'.g0) hz hw (hg o) (ht o) (hs o) fun D H' h' => ⟨h'.g1, q D _ h'.s1⟩
  exact htd o _ _ h1 ⟨d, o, rfl, .inr ⟨mk g2 mm, h1.g0, z⟩⟩
/-- x in t, texts -/
theorem k_inS {neg : Bool} {ss : List Str} {x : Str} (hp : H p = some (.tup (ss.map V.str))) (q : Q (.bl (if neg then !decide (x ∈ ss) else decide (x ∈ ss))) H) : rIn K neg (.str x) (.ref p) H Q := by
  refine ⟨p, _, rfl, .inr (SqT.of hp), rfl, ?_, ?_⟩
  · rw [List.all_eq_true]
    intro y hy
    obtain ⟨z, _, rfl⟩ := List.mem_map.mp hy
    rfl
  · have e : inV (.str x) (ss.map V.str) = decide (x ∈ ss) := by
      unfold inV
      rw [List.any_map]
      by_cases h : x ∈ ss
      · rw [decide_eq_true h, List.any_eq_true]
        exact ⟨x, h, by simp [eqV]⟩
      · rw [decide_eq_false h, List.any_eq_false]
        intro z hz
        have : z ≠ x := fun e => h (e ▸ hz)
        simp [eqV, this]
    rw [e]
    exact q
end
end Sy
/-! Lists of pairs of whole numbers: sorted, ==; xs.remove, xs.count. -/
namespace Sy
open PySem L2
/-- new objects, each with what it bears -/
def fmU {β : Type} (ob : β → HO) (m : List (Addr × β)) : U := m.map fun q => (q.1, ob q.2)
def fmR {β : Type} (m : List (Addr × β)) : List V := m.map fun q => V.ref q.1
abbrev Prs := List (Addr × (Int × Int))
def obP (q : Int × Int) : HO := .tup [.int q.1, .int q.2]
abbrev prU (m : Prs) : U := fmU obP m
abbrev prR (m : Prs) : List V := fmR m
theorem fmU_snoc {β : Type} (ob : β → HO) (m : List (Addr × β)) (t : Addr) (b : β) : fmU ob (m ++ [(t, b)]) = fmU ob m ++ [(t, ob b)] := by unfold fmU; rw [List.map_append]; rfl
theorem fmR_snoc {β : Type} (m : List (Addr × β)) (t : Addr) (b : β) : fmR (m ++ [(t, b)]) = fmR m ++ [.ref t] := by unfold fmR; rw [List.map_append]; rfl
theorem Has.fms {β : Type} {ob : β → HO} {H : Hp} {zs : List (Addr × β)} {L : List U} (h : Has H (fmU ob zs :: L)) : ∀ q ∈ zs, H q.1 = some (ob q.2) := fun q hq => h.2 (q.1, ob q.2) (List.mem_append.mpr (.inl (List.mem_map.mpr ⟨q, hq, rfl⟩)))
/-- a before b, or alike -/
def leP (a b : Int × Int) : Prop := a.1 < b.1 ∨ (a.1 = b.1 ∧ a.2 ≤ b.2)
section
variable {K : PySem.W.Frag} {σ : St} {H H1 : Hp} {L : List U} {Q : VK} {a b d p : Addr}
theorem Has.prs {zs : Prs} (h : Has H (prU zs :: L)) : ∀ q ∈ zs, H q.1 = some (.tup [.int q.2.1, .int q.2.2]) := fun q hq => h.2 (q.1, .tup [.int q.2.1, .int q.2.2]) (List.mem_append.mpr (.inl (List.mem_map.mpr ⟨q, hq, rfl⟩)))
def keyP (zs : Prs) (x : V) : Int × Int := ((zs.find? fun q => match x with | .ref t => decide (q.1 = t) | _ => false).map (·.2)).getD (0, 0)
theorem keyP_of : ∀ {zs : Prs}, (zs.map (·.1)).Nodup → ∀ q ∈ zs, keyP zs (.ref q.1) = q.2
  | [], _, q, hq => by cases hq
  | z :: r, nd, q, hq => by
    have nd2 := List.nodup_cons.mp (show (z.1 :: r.map (·.1)).Nodup from nd)
    rcases List.mem_cons.mp hq with e | e
    · subst e
      simp [keyP, List.find?_cons]
    · have hne : ¬ z.1 = q.1 := fun h => nd2.1 (h ▸ List.mem_map.mpr ⟨q, e, rfl⟩)
      have ih := keyP_of nd2.2 q e
      unfold keyP at ih ⊢
      rw [List.find?_cons]
      simp only [decide_eq_false hne]
      exact ih
theorem k_sortP {zs : Prs} (hh : Has H (prU zs :: L)) (hp : H p = some (.lst (prR zs)))
    (q : ∀ (ys : Prs) d H', ys.Perm zs → (ys.map (·.2)).Pairwise leP → Has H' ([(d, .lst (prR ys))] :: prU zs :: L) → Q (.ref d) H') : rSortedPO K [.ref p] H Q := by
  have nd : (zs.map (·.1)).Nodup := by
    have h1 := hh.1
    rw [show (prU zs :: L).flatten = prU zs ++ L.flatten from rfl, List.map_append] at h1
    have h2 := (List.nodup_append.mp h1).1
    unfold prU fmU at h2
    rw [List.map_map] at h2
    exact h2
  have key := keyP_of nd
  have fam := hh.prs
  refine ⟨p, prR zs, keyP zs, rfl, SqL.of hp, fun x hx => ?_, fun vs d hs ht hd => ?_⟩
  · obtain ⟨z, hz, rfl⟩ := List.mem_map.mp hx
    refine ⟨z.1, rfl, ?_⟩
    rw [key z hz]
    exact fam z hz
  · obtain ⟨ys, py, ey⟩ := perm_lift (fun q : Addr × (Int × Int) => V.ref q.1) ht.perm zs rfl
    subst ey
    refine q ys d _ py ?_ (hh.nw hd)
    have hs2 : (ys.map fun q : Addr × (Int × Int) => V.ref q.1).Pairwise fun x y => SrtO.lexB (keyP zs y) (keyP zs x) = false := hs
    rw [List.pairwise_map] at hs2 ⊢
    refine List.Pairwise.imp_of_mem (fun {x y} hx hy h => ?_) hs2
    rw [key x (py.mem_iff.mp hx), key y (py.mem_iff.mp hy)] at h
    have h2 := SrtO.lexB_no.mp h
    unfold leP
    omega
theorem leP_uniq {xs ys : List (Int × Int)} (h1 : xs.Pairwise leP) (h2 : ys.Pairwise leP) (p : xs.Perm ys) : xs = ys := p.eq_of_pairwise (fun a b _ _ h h' => by
  unfold leP at h h'
  exact Prod.ext (by omega) (by omega)) h1 h2
theorem dpAll_prs {zs : Prs} (f : ∀ q ∈ zs, H q.1 = some (.tup [.int q.2.1, .int q.2.2])) : DpAll K H (prR zs) ((zs.map (·.2)).map fun q => PyData.tuple [.int q.1, .int q.2]) := by
  induction zs with
  | nil => exact .nil
  | cons z r ih => exact .cons (.tup (SqT.of (f z (List.mem_cons.mpr (.inl rfl)))) (.cons (.int _) (.cons (.int _) .nil))) (ih fun q hq => f q (List.mem_cons_of_mem _ hq))
def pd (q : Int × Int) : PyData := .tuple [.int q.1, .int q.2]
theorem eqv_prs (ns : List (Int × Int)) : ∀ ms : List (Int × Int), PyData.eqv (.list (ns.map pd)) (.list (ms.map pd)) = decide (ns = ms) := by
  induction ns with
  | nil =>
    intro ms
    cases ms with
    | nil => rfl
    | cons m r => rfl
  | cons n r ih =>
    intro ms
    cases ms with
    | nil => rfl
    | cons m s =>
      have h := ih s
      simp [PyData.eqv, PyData.eqvAll, pd] at h ⊢
      rw [h]
      by_cases e1 : n = m
      · subst e1; by_cases e2 : r = s <;> simp [e2]
      · have e3 : ¬ (n.1 = m.1 ∧ n.2 = m.2) := fun z => e1 (Prod.ext z.1 z.2)
        simp [e1]
        intro z1 z2
        exact absurd ⟨z1, z2⟩ e3
theorem lay_prs (ns : List (Int × Int)) : PyData.canLayAll0 (ns.map pd) = true := by
  induction ns with
  | nil => simp [PyData.canLayAll0]
  | cons n r ih => simp [PyData.canLayAll0, PyData.canLay0, pd] ; exact ih
theorem deep_prs (ns : List (Int × Int)) : PyData.depthAll (ns.map pd) ≤ 2 := by
  induction ns with
  | nil => simp [PyData.depthAll]
  | cons n r ih => simp [PyData.depthAll, PyData.depth, pd]; omega
theorem shaped_prs (ns : List (Int × Int)) : SeqAt.shaped (.list (ns.map pd)) = true := by
  have h := deep_prs ns
  simp [SeqAt.shaped, PyData.canLay0, lay_prs, PyData.depth]
  omega
theorem k_eqLP {zs ws : Prs} (hp : H a = some (.lst (prR zs))) (hq : H b = some (.lst (prR ws))) (fz : ∀ q ∈ zs, H q.1 = some (.tup [.int q.2.1, .int q.2.2])) (fw : ∀ q ∈ ws, H q.1 = some (.tup [.int q.2.1, .int q.2.2])) (q : Q (.bl (decide (zs.map (·.2) = ws.map (·.2)))) H) : rEqD K (.ref a) (.ref b) H Q :=
  ⟨_, _, .lst (SqL.of hp) (dpAll_prs fz), .lst (SqL.of hq) (dpAll_prs fw), shaped_prs _, shaped_prs _, by rw [show (fun q : Int × Int => PyData.tuple [.int q.1, .int q.2]) = pd from rfl, eqv_prs]; exact q⟩
theorem k_neLP {zs ws : Prs} (hp : H a = some (.lst (prR zs))) (hq : H b = some (.lst (prR ws))) (fz : ∀ q ∈ zs, H q.1 = some (.tup [.int q.2.1, .int q.2.2])) (fw : ∀ q ∈ ws, H q.1 = some (.tup [.int q.2.1, .int q.2.2])) (q : Q (.bl (!decide (zs.map (·.2) = ws.map (·.2)))) H) : rNeD K (.ref a) (.ref b) H Q :=
  ⟨_, _, .lst (SqL.of hp) (dpAll_prs fz), .lst (SqL.of hq) (dpAll_prs fw), shaped_prs _, shaped_prs _, by rw [show (fun q : Int × Int => PyData.tuple [.int q.1, .int q.2]) = pd from rfl, eqv_prs]; exact q⟩
/-- one more of the new objects -/
theorem fm_add {β : Type} {ob : β → HO} {D t : Addr} {m : List (Addr × β)} {b : β} (h : Has H ([(t, ob b)] :: [(D, .lst (fmR m))] :: fmU ob m :: L)) : Has (upd H D (.lst (fmR m ++ [.ref t]))) ([(D, .lst (fmR (m ++ [(t, b)])))] :: fmU ob (m ++ [(t, b)]) :: L) := by
  have h1 : Has (upd H D (.lst (fmR m ++ [.ref t]))) ([(t, ob b)] :: [(D, .lst (fmR m ++ [.ref t]))] :: fmU ob m :: L) := h.s1
  rw [fmR_snoc, fmU_snoc]
  exact (Has.op.mpr (h1.sub (show Sub (fmU ob m :: [(t, ob b)] :: _) _ from Sub.p2 (Sub.p0 Sub.rf)))).sub (Sub.p1 (Sub.p0 Sub.rf))
/-- [new object for .. in zs if c z] -/
theorem k_lcN {α β : Type} {g : TG} {tt : TT} {te : TE} {vs : List Nat} (zs : List α) (e : α → V) (ob : β → HO) (h : α → β) (c : α → Bool) (t : α → St) (hh : Has H L) (ha : ∀ H', Has H' L → H' a = some (.lst (zs.map e))) (hz : zs.length ≤ 100000) (hw : ∀ z ∈ zs, wipe (t z) vs = wipe σ vs)
    (hg : ∀ z ∈ zs, ∀ D m H' (Q' : St → Hp → Prop), Has H' ([(D, .lst (fmR m))] :: fmU ob m :: L) → Q' (t z) H' → g (e z) (wipe σ vs) H' Q')
    (ht : ∀ z ∈ zs, ∀ D m H' (Q' : Bool → Hp → Prop), Has H' ([(D, .lst (fmR m))] :: fmU ob m :: L) → (∀ H'', Has H'' ([(D, .lst (fmR m))] :: fmU ob m :: L) → Q' (c z) H'') → tt (t z) H' Q')
    (hs : ∀ z ∈ zs, c z = true → ∀ D m H' (Q' : VK), Has H' ([(D, .lst (fmR m))] :: fmU ob m :: L) → (∀ u H'', Has H'' ([(u, ob (h z))] :: [(D, .lst (fmR m))] :: fmU ob m :: L) → Q' (.ref u) H'') → te (t z) H' Q')
    (q : ∀ D m H', m.map (·.2) = (zs.filter c).map h → Has H' ([(D, .lst (fmR m))] :: fmU ob m :: L) → Q (.ref D) H') : kLcL K g tt te vs σ (.ref a) H Q := by
  refine k_lcL (L := L) hh (fun D i H' => ∃ m : List (Addr × β), m.map (·.2) = ((zs.take i).filter c).map h ∧ Has H' ([(D, .lst (fmR m))] :: fmU ob m :: L)) (ha H hh) (fun D H' h' => ⟨[], rfl, (Has.nilU.mpr h').sub (Sub.p1 (Sub.p0 Sub.rf))⟩) (fun D i H' h' => ha H' (h'.choose_spec.2.sub (Sub.skip (Sub.skip Sub.rf)))) (fun D i x H' hi h' => ?_) (fun D H' h' => ?_)
  · obtain ⟨m, em, h'⟩ := h'
    rw [List.getElem?_map] at hi
    obtain ⟨z, hz1, rfl⟩ := Option.map_eq_some_iff.mp hi
    have hm : z ∈ zs := List.mem_of_getElem? hz1
    have et : zs.take (i + 1) = zs.take i ++ [z] := by rw [List.take_add_one, hz1]; rfl
    refine hg z hm D m H' _ h' ⟨hw z hm, ht z hm D m H' _ h' fun H2 h2 => ?_⟩
    refine ifB (fun e => ?_) (fun e => ?_)
    · refine hs z hm e D m H2 _ h2 fun u H3 h3 => ?_
      refine ⟨_, h3.g1, ?_, m ++ [(u, h z)], ?_, fm_add h3⟩
      · rw [sizeLine_eq]
        unfold fmR
        rw [List.length_map]
        have l0 := congrArg List.length em
        rw [List.length_map, List.length_map] at l0
        have l1 := List.length_filter_le c (zs.take i)
        have l3 := List.length_take_le' i zs
        omega
      · rw [et, List.filter_append, List.map_append, List.map_append, em, List.filter_cons, if_pos e]
        rfl
    · refine ⟨m, ?_, h2⟩
      rw [et, List.filter_append, List.filter_cons, if_neg (by rw [e]; decide), em]
      simp
  · obtain ⟨m, em, h'⟩ := h'
    rw [List.length_map, List.take_length] at em
    exact q D m H' em h'
/-- the keys of a locked dict, pairs, with a test; the elements are new objects -/
theorem lc_keysTN {β : Type} {g : TG} {tt : TT} {te : TE} {o : Obj} {vs : List Nat} {mm : List ((Int × Int) × V)} (ob : β → HO) (h : Int × Int → β) (c : Int × Int → Bool) (t : Addr → Int × Int → St) (hh : Has H L) (hd : ∀ H', Has H' L → H' d = some (.frz o (dP mm))) (hz : mm.length ≤ 100000)
    (hw : ∀ q, ∀ z ∈ mm.map (·.1), wipe (t q z) vs = wipe σ vs)
    (hg : ∀ q, ∀ z ∈ mm.map (·.1), ∀ D m H' (Q' : St → Hp → Prop), H' q = some (.tup [.int z.1, .int z.2]) → Has H' ([(D, .lst (fmR m))] :: fmU ob m :: L) → Q' (t q z) H' → g (.ref q) (wipe σ vs) H' Q')
    (ht : ∀ q, ∀ z ∈ mm.map (·.1), ∀ D m H' (Q' : Bool → Hp → Prop), H' q = some (.tup [.int z.1, .int z.2]) → Has H' ([(D, .lst (fmR m))] :: fmU ob m :: L) → (∀ H'', H'' q = some (.tup [.int z.1, .int z.2]) → Has H'' ([(D, .lst (fmR m))] :: fmU ob m :: L) → Q' (c z) H'') → tt (t q z) H' Q')
    (hs : ∀ q, ∀ z ∈ mm.map (·.1), c z = true → ∀ D m H' (Q' : VK), H' q = some (.tup [.int z.1, .int z.2]) → Has H' ([(D, .lst (fmR m))] :: fmU ob m :: L) → (∀ u H'', Has H'' ([(u, ob (h z))] :: [(D, .lst (fmR m))] :: fmU ob m :: L) → Q' (.ref u) H'') → te (t q z) H' Q')
    (q : ∀ D m H', m.map (·.2) = ((mm.map (·.1)).filter c).map h → Has H' ([(D, .lst (fmR m))] :: fmU ob m :: L) → Q (.ref D) H') : kLc g tt te vs σ (Itkt d o (mk g2 mm)) H Q := by
  intro D hD
  have hl : (mk g2 mm).length = mm.length := mk_len _ _
  refine ⟨fun i m H' => m = mm.length - i ∧ i ≤ mm.length ∧ ∃ ms : List (Addr × β), ms.map (·.2) = (((mm.map (·.1)).take i).filter c).map h ∧ Has H' ([(D, .lst (fmR ms))] :: fmU ob ms :: L), ⟨mm.length, by simp, Nat.zero_le _, [], rfl, (Has.nilU.mpr (hh.nw hD)).sub (Sub.p1 (Sub.p0 Sub.rf))⟩, ?_⟩
  rintro i m H' ⟨rfl, hi, ms, em, p⟩
  have pl := hd H' (p.sub (Sub.skip (Sub.skip Sub.rf)))
  by_cases hlt : i < mm.length
  · refine .inr ⟨⟨pl, by rw [hl]; exact hlt⟩, fun H2 => ∃ ms : List (Addr × β), ms.map (·.2) = (((mm.map (·.1)).take (i + 1)).filter c).map h ∧ Has H2 ([(D, .lst (fmR ms))] :: fmU ob ms :: L), fun H2 p2 => ⟨mm.length - (i + 1), by omega, rfl, hlt, p2⟩, fun x H2 y => ?_⟩
    obtain ⟨e, kk, vv, r, hk, ex, hr⟩ := y
    subst e
    have hz1 : (mm.map (·.1))[i]? = some (mm[i]).1 := by rw [List.getElem?_map, List.getElem?_eq_getElem hlt]; rfl
    have hkk : kk = g2 (mm[i]).1 := by
      unfold mk at hk
      rw [List.getElem?_map, List.getElem?_eq_getElem hlt] at hk
      exact (congrArg Prod.fst (Option.some.inj hk)).symm
    subst hkk ex
    have hr : H2 r = some (.tup [.int (mm[i]).1.1, .int (mm[i]).1.2]) := hr
    have hm : (mm[i]).1 ∈ mm.map (·.1) := List.mem_of_getElem? hz1
    have et : (mm.map (·.1)).take (i + 1) = (mm.map (·.1)).take i ++ [(mm[i]).1] := by rw [List.take_add_one, hz1]; rfl
    refine hg r _ hm D ms H2 _ hr p ⟨hw r _ hm, ht r _ hm D ms H2 _ hr p fun H3 hr3 h3 => ?_⟩
    refine ifB (fun e => ?_) (fun e => ?_)
    · refine hs r _ hm e D ms H3 _ hr3 h3 fun u H4 h4 => ?_
      refine ⟨_, h4.g1, ?_, ms ++ [(u, h (mm[i]).1)], ?_, fm_add h4⟩
      · rw [sizeLine_eq]
        unfold fmR
        rw [List.length_map]
        have l0 := congrArg List.length em
        rw [List.length_map, List.length_map] at l0
        have l1 := List.length_filter_le c ((mm.map (·.1)).take i)
        have l3 := List.length_take_le' i (mm.map (·.1))
        rw [List.length_map] at l3
        omega
      · rw [et, List.filter_append, List.map_append, List.map_append, em, List.filter_cons, if_pos e]
        rfl
    · refine ⟨ms, ?_, h3⟩
      rw [et, List.filter_append, List.filter_cons, if_neg (by rw [e]; decide), em]
      simp
  · have e : i = mm.length := by omega
    subst e
    have e2 : (mm.map (·.1)).take mm.length = mm.map (·.1) := List.take_of_length_le (by rw [List.length_map]; exact Nat.le_refl _)
    rw [e2] at em
    exact .inl ⟨⟨pl, by rw [hl]; exact Nat.le_refl _⟩, q D ms H' em p⟩
theorem x_lcTN {β : Type} {td te : TE} {g : TG} {tt : TT} {vs : List Nat} {mm : List ((Int × Int) × V)} (ob : β → HO) (h : Int × Int → β) (c : Int × Int → Bool) (t : Addr → Int × Int → St) (hh : Has H ([(d, dP mm)] :: L)) (hz : mm.length ≤ 100000)
    (hw : ∀ q, ∀ z ∈ mm.map (·.1), wipe (t q z) vs = wipe σ vs)
    (htd : ∀ o H' (Q' : VK), Has H' ([(d, .frz o (dP mm))] :: L) → Q' (.ref d) H' → td σ H' Q')
    (hg : ∀ o q, ∀ z ∈ mm.map (·.1), ∀ D m H' (Q' : St → Hp → Prop), H' q = some (.tup [.int z.1, .int z.2]) → Has H' ([(D, .lst (fmR m))] :: fmU ob m :: [(d, .frz o (dP mm))] :: L) → Q' (t q z) H' → g (.ref q) (wipe σ vs) H' Q')
    (ht : ∀ o q, ∀ z ∈ mm.map (·.1), ∀ D m H' (Q' : Bool → Hp → Prop), H' q = some (.tup [.int z.1, .int z.2]) → Has H' ([(D, .lst (fmR m))] :: fmU ob m :: [(d, .frz o (dP mm))] :: L) → (∀ H'', H'' q = some (.tup [.int z.1, .int z.2]) → Has H'' ([(D, .lst (fmR m))] :: fmU ob m :: [(d, .frz o (dP mm))] :: L) → Q' (c z) H'') → tt (t q z) H' Q')
    (hs : ∀ o q, ∀ z ∈ mm.map (·.1), c z = true → ∀ D m H' (Q' : VK), H' q = some (.tup [.int z.1, .int z.2]) → Has H' ([(D, .lst (fmR m))] :: fmU ob m :: [(d, .frz o (dP mm))] :: L) → (∀ u H'', Has H'' ([(u, ob (h z))] :: [(D, .lst (fmR m))] :: fmU ob m :: [(d, .frz o (dP mm))] :: L) → Q' (.ref u) H'') → te (t q z) H' Q')
    (q : ∀ D m H', m.map (·.2) = ((mm.map (·.1)).filter c).map h → Has H' ([(D, .lst (fmR m))] :: fmU ob m :: [(d, dP mm)] :: L) → Q (.ref D) H') : tLockE (tLc (iKeys td) g tt te vs) σ H Q := by
  refine ⟨d, dP mm, hh.g0, trivial, fun o => ?_⟩
  have h1 : Has (upd H d (.frz o (dP mm))) ([(d, .frz o (dP mm))] :: L) := hh.s0
  have z : kLc g tt te vs σ (Itkt d o (mk g2 mm)) (upd H d (.frz o (dP mm))) (fun v H' => H' d = some (.frz o (dP mm)) ∧ Q v (upd H' d (dP mm))) :=
    lc_keysTN ob h c t h1 (fun H' h' => h'.g0) hz hw (hg o) (ht o) (hs o) fun D m H' em h' => ⟨h'.g2, q D m _ em h'.s2⟩
  exact htd o _ _ h1 ⟨d, o, rfl, .inr ⟨mk g2 mm, h1.g0, z⟩⟩
/-- xs.remove(k), xs.count(k) -/
theorem k_rem {ns : List Int} {k : Int} {M : List U} (hp : H a = some (.lst (ns.map V.int))) (hk : k ∈ ns) (hh : Has (upd H a (.lst ((ns.erase k).map V.int))) M) (q : ∀ H', Has H' M → Q .non H') : rRemI (.ref a) [.int k] H Q := by
  obtain ⟨j, h1, h2, h3, h4⟩ : ∃ j, j < ns.length ∧ ns[j]? = some k ∧ (∀ i, i < j → ns[i]? ≠ some k) ∧ ns.eraseIdx j = ns.erase k := by
    clear hp hh q
    induction ns with
    | nil => cases hk
    | cons z r ih =>
      by_cases e : z = k
      · exact ⟨0, Nat.succ_pos _, by rw [e]; rfl, fun i hi => absurd hi (Nat.not_lt_zero _), by rw [e, List.erase_cons_head]; rfl⟩
      · obtain ⟨j, h1, h2, h3, h4⟩ := ih ((List.mem_cons.mp hk).resolve_left fun z => e z.symm)
        refine ⟨j + 1, Nat.succ_lt_succ h1, h2, fun i hi => ?_, ?_⟩
        · cases i with
          | zero => exact fun z => e (Option.some.inj z)
          | succ i => exact h3 i (Nat.lt_of_succ_lt_succ hi)
        · rw [List.erase_cons_tail (by simpa using e), ← h4]
          rfl
  refine ⟨a, ns, k, j, rfl, rfl, hp, h2, h3, ?_⟩
  rw [h4]
  exact q _ hh
theorem k_cnt {ns : List Int} {k : Int} (hp : H a = some (.lst (ns.map V.int))) (q : Q (.int (ns.count k : Nat)) H) : rCntI K (.ref a) [.int k] H Q := ⟨a, ns, k, rfl, rfl, SqL.of hp, q⟩
/-! ### rows: a list of lists, each by itself -/
abbrev Rows := List (Addr × List Int)
def obL (l : List Int) : HO := .lst (l.map V.int)
theorem fm_out {β : Type} {ob : β → HO} {A B : List (Addr × β)} {b : β} (h : Has H (fmU ob (A ++ (a, b) :: B) :: L)) : Has H ([(a, ob b)] :: fmU ob A :: fmU ob B :: L) := by
  have e : fmU ob (A ++ (a, b) :: B) = fmU ob A ++ ([(a, ob b)] ++ fmU ob B) := by unfold fmU; rw [List.map_append]; rfl
  rw [e] at h
  exact (Has.op.mp ((Has.op.mp h).sub (show Sub ((_ ++ _) :: fmU ob A :: L) _ from Sub.p1 (Sub.p0 Sub.rf)))).sub (Sub.p0 (Sub.p1 (Sub.p0 Sub.rf)))
theorem fm_in {β : Type} {ob : β → HO} {A B : List (Addr × β)} {b : β} (h : Has H ([(a, ob b)] :: fmU ob A :: fmU ob B :: L)) : Has H (fmU ob (A ++ (a, b) :: B) :: L) := by
  have e : fmU ob (A ++ (a, b) :: B) = fmU ob A ++ ([(a, ob b)] ++ fmU ob B) := by unfold fmU; rw [List.map_append]; rfl
  rw [e]
  refine Has.op.mpr ?_
  exact (Has.op.mpr (h.sub (show Sub ([(a, ob b)] :: fmU ob B :: fmU ob A :: L) _ from Sub.p0 (Sub.p1 (Sub.p0 Sub.rf))))).sub (Sub.p1 (Sub.p0 Sub.rf))
theorem split_at {α : Type} : ∀ {l : List α} {k : Nat} {q : α}, l[k]? = some q → ∃ A B, l = A ++ q :: B ∧ A.length = k
  | [], k, q, h => by simp at h
  | x :: r, 0, q, h => ⟨[], r, by rw [show x = q from Option.some.inj h]; rfl, rfl⟩
  | x :: r, k + 1, q, h => by
    obtain ⟨A, B, e, el⟩ := split_at (l := r) (k := k) (q := q) h
    exact ⟨x :: A, B, by rw [e]; rfl, by rw [← el]; rfl⟩
theorem fmR_mid {β : Type} {A B : List (Addr × β)} {b c : β} : fmR (A ++ (a, b) :: B) = fmR (A ++ (a, c) :: B) := by unfold fmR; rw [List.map_append, List.map_append]; rfl
theorem fmR_at {β : Type} {A B : List (Addr × β)} {b : β} {k : Int} (k0 : 0 ≤ k) (h : A.length = k.toNat) : atI (fmR (A ++ (a, b) :: B)) k = some (.ref a) := by
  refine at_n k0 ?_
  unfold fmR
  rw [List.map_append, List.getElem?_append_right (by rw [List.length_map]; omega), List.length_map, h, Nat.sub_self]
  rfl
theorem k_lcRN {β : Type} {te : TE} {k : Nat} {n : Int} (ob : β → HO) (h : Int → β) (hh : Has H L) (hn : 0 ≤ n ∧ n ≤ 100000)
    (hs : ∀ z : Int, 0 ≤ z → z < n → ∀ D m H' (Q' : VK), Has H' ([(D, .lst (fmR m))] :: fmU ob m :: L) → (∀ u H'', Has H'' ([(u, ob (h z))] :: [(D, .lst (fmR m))] :: fmU ob m :: L) → Q' (.ref u) H'') → te ((wipe σ [k]).set k (some (.int z))) H' Q')
    (q : ∀ D m H', m.map (·.2) = (rgI n).map h → Has H' ([(D, .lst (fmR m))] :: fmU ob m :: L) → Q (.ref D) H') : kLcR (gName k) tYes te [k] σ [.int n] H Q := by
  have hw : ∀ x, wipe ((wipe σ [k]).set k (some x)) [k] = wipe σ [k] := fun x => by
    show ((σ.set k none).set k (some x)).set k none = σ.set k none
    rw [List.set_set, List.set_set]
  refine k_lcR (L := L) hh (fun D i H' => ∃ m : List (Addr × β), m.map (·.2) = (rgI i).map h ∧ Has H' ([(D, .lst (fmR m))] :: fmU ob m :: L)) hn (fun D H' h' => ⟨[], rfl, (Has.nilU.mpr h').sub (Sub.p1 (Sub.p0 Sub.rf))⟩) (fun D i H' hi h' => ?_) (fun D H' h' => ?_)
  · obtain ⟨m, em, h'⟩ := h'
    have et : rgI ((i + 1 : Nat) : Int) = rgI i ++ [(i : Int)] := by
      unfold rgI
      rw [Int.toNat_natCast, Int.toNat_natCast, List.range_succ, List.map_append]
      rfl
    have lr : (rgI (i : Int)).length = i := by rw [rgI_len, Int.toNat_natCast]
    refine ⟨hw _, ?_⟩
    refine x_yes (ifT (hs i (by omega) hi D m H' _ h' fun u H3 h3 => ?_))
    refine ⟨_, h3.g1, ?_, m ++ [(u, h i)], ?_, fm_add h3⟩
    · rw [sizeLine_eq]
      unfold fmR
      rw [List.length_map]
      have l0 := congrArg List.length em
      rw [List.length_map, List.length_map] at l0
      omega
    · rw [et, List.map_append, List.map_append, em]
      rfl
  · obtain ⟨m, em, h'⟩ := h'
    rw [Int.toNat_of_nonneg hn.1] at em
    exact q D m H' em h'
/-- b in bs, truths -/
theorem k_inB {neg : Bool} {bs : List Bool} {b : Bool} (hp : H p = some (.lst (bs.map V.bl))) (q : Q (.bl (if neg then !decide (b ∈ bs) else decide (b ∈ bs))) H) : rIn K neg (.bl b) (.ref p) H Q := by
  refine ⟨p, _, rfl, .inl (SqL.of hp), rfl, ?_, ?_⟩
  · rw [List.all_eq_true]
    intro y hy
    obtain ⟨z, _, rfl⟩ := List.mem_map.mp hy
    rfl
  · have e : inV (.bl b) (bs.map V.bl) = decide (b ∈ bs) := by
      unfold inV
      rw [List.any_map]
      by_cases h : b ∈ bs
      · rw [decide_eq_true h, List.any_eq_true]
        exact ⟨b, h, by simp [eqV]⟩
      · rw [decide_eq_false h, List.any_eq_false]
        intro z hz
        have : z ≠ b := fun e => h (e ▸ hz)
        cases b <;> cases z <;> simp_all [eqV]
    rw [e]
    exact q
theorem perm_mem {α : Type} [DecidableEq α] : ∀ {l m : List α}, l.Nodup → m.Nodup → (∀ z, z ∈ l ↔ z ∈ m) → l.Perm m
  | [], m, _, _, h => by
    cases m with
    | nil => exact .refl _
    | cons a r => exact absurd ((h a).mpr (List.mem_cons.mpr (.inl rfl))) List.not_mem_nil
  | a :: r, m, nl, nm, h => by
    have ha : a ∈ m := (h a).mp (List.mem_cons.mpr (.inl rfl))
    have nl2 := List.nodup_cons.mp nl
    have ih := perm_mem (l := r) (m := m.erase a) nl2.2 (nm.erase _) fun z => by
      rw [nm.mem_erase_iff]
      constructor
      · intro hz
        exact ⟨fun e => nl2.1 (e ▸ hz), (h z).mp (List.mem_cons_of_mem _ hz)⟩
      · intro hz
        rcases List.mem_cons.mp ((h z).mpr hz.2) with e | e
        · exact absurd e hz.1
        · exact e
    exact (ih.cons a).trans (List.perm_cons_erase ha).symm
theorem rise_nodup {l : List Int} (h : l.Pairwise (· < ·)) : l.Nodup := h.imp fun h => Int.ne_of_lt h
theorem rise_eq {l m : List Int} (h1 : l.Pairwise (· < ·)) (h2 : m.Pairwise (· < ·)) (h : ∀ z, z ∈ l ↔ z ∈ m) : l = m :=
  (perm_mem (rise_nodup h1) (rise_nodup h2) h).eq_of_pairwise (fun a b _ _ h h' => Int.le_antisymm h h') (h1.imp fun h => Int.le_of_lt h) (h2.imp fun h => Int.le_of_lt h)
end
end Sy
/-! More rules: C(e, k = v), a list taken apart, while. -/
namespace Sy
open PySem L2
abbrev gKw : List V → List V → List V := fun vs zs => vs ++ zs
/-- one of two readings of the same expression -/
def tOrE (t u : TE) : TE := fun σ H Q => t σ H Q ∨ u σ H Q
theorem pe_orE {X : Cx} {e : Expr} {t u : TE} (h1 : PE X e t) (h2 : PE X e u) : PE X e (tOrE t u) := ⟨fun pins s σ H Q I h => h.elim (h1.run pins s σ H Q I) (h2.run pins s σ H Q I)⟩
section
variable {K : PySem.W.Frag} {σ : St} {H H1 : Hp} {L : List U} {Q : VK} {QS : St → Hp → Prop} {a b d p C : Addr} {nx bk ct : St → Hp → Prop} {rt : VK} {xs : List V} {tr tk : TA}
def kMakeN (C : Addr) (n m : Nat) (sp : Sp) (gV : List V → List V → List V) (E : XK) (vs zs : List V) (H2 : Hp) (Q : VK) : Prop := vs.length = n ∧ zs.length = m ∧
  ∀ x dx, H2 x = none → H2 dx = none → dx ≠ x → sp (gV (.ref x :: vs) zs) (upd (upd H2 dx (.own x)) x (.ins C dx [])) (fun v H3 => v = .non ∧ Q (.ref x) H3) E
theorem x_makeN {n m : Nat} {sp : Sp} {gV : List V → List V → List V} {E : XK} (q : tr σ H fun vs H1 => tk σ H1 fun zs H2 => kMakeN C n m sp gV E vs zs H2 Q) : tMakeN C n m sp gV E tr tk σ H Q := q
theorem k_makeN {n m : Nat} {sp : Sp} {gV : List V → List V → List V} {E : XK} {vs zs : List V} (hh : Has H L) (hn : vs.length = n) (hm : zs.length = m) (q : ∀ x dx H', Has H' ([(x, .ins C dx [])] :: L) → sp (gV (.ref x :: vs) zs) H' (fun v H2 => v = .non ∧ Q (.ref x) H2) E) : kMakeN C n m sp gV E vs zs H Q :=
  ⟨hn, hm, fun x dx hx hd ne => q x dx _ ((hh.nw hd (o := .own x)).nw (p := x) (o := .ins C dx []) (by rw [upd_ne (Ne.symm ne)]; exact hx) |>.sub (Sub.p0 (Sub.skip Sub.rf)))⟩
theorem x_or1 {t u : TE} (q : t σ H Q) : tOrE t u σ H Q := .inl q
theorem x_or2 {t u : TE} (q : u σ H Q) : tOrE t u σ H Q := .inr q
theorem k_isB {b c : Bool} (q : Q (.bl (decide (b = c))) H) : rIsB (.bl b) (.bl c) H Q := ⟨b, c, rfl, rfl, q⟩
theorem k_notB {b c : Bool} (q : Q (.bl (!decide (b = c))) H) : rNotB (.bl b) (.bl c) H Q := ⟨b, c, rfl, rfl, q⟩
/-- None in xs, whole numbers -/
theorem k_inNon {ns : List Int} (hp : H p = some (.lst (ns.map V.int))) (q : Q (.bl false) H) : rIn K false .non (.ref p) H Q := by
  refine ⟨p, _, rfl, .inl (SqL.of hp), rfl, ?_, ?_⟩
  · rw [List.all_eq_true]
    intro y hy
    obtain ⟨z, _, rfl⟩ := List.mem_map.mp hy
    rfl
  · have e : inV .non (ns.map V.int) = false := by
      unfold inV
      rw [List.any_map, List.any_eq_false]
      intro z hz
      simp [eqV]
    rw [e]
    exact q
theorem x_glst {k : Nat} {g : TGs} (hp : H a = some (.lst xs)) (hl : xs.length = k) (q : g xs σ H QS) : gLst K k g (.ref a) σ H QS := ⟨a, xs, rfl, SqL.of hp, hl, q⟩
def kPar3 (i j l : Nat) (nx : St → Hp → Prop) (σ : St) (vs : List V) (H1 : Hp) : Prop := ∃ u v w, vs = [u, v, w] ∧ nx (((σ.set i (some u)).set j (some v)).set l (some w)) H1
theorem x_par3 {i j l : Nat} (q : tr σ H fun vs H1 => kPar3 i j l nx σ vs H1) : tPar3 i j l tr ⟨nx, rt, bk, ct⟩ σ H := q
theorem k_par3 {i j l : Nat} {u v w : V} (q : nx (((σ.set i (some u)).set j (some v)).set l (some w)) H) : kPar3 i j l nx σ [u, v, w] H := ⟨u, v, w, rfl, q⟩
/-- while: W m with the measure m -/
def kWb (W : Nat → St → Hp → Prop) (m : Nat) (tb : TS) (nx : St → Hp → Prop) (rt : VK) (σ : St) (H1 : Hp) : Prop := ∃ N : St → Hp → Prop, (∀ σ' H', N σ' H' → ∃ m', m' < m ∧ W m' σ' H') ∧ tb ⟨N, rt, nx, N⟩ σ H1
theorem k_while {c : TT} {tb : TS} (W : Nat → St → Hp → Prop) (m : Nat) (h0 : W m σ H)
    (hs : ∀ m σ H, W m σ H → c σ H fun b H1 => if b = true then kWb W m tb nx rt σ H1 else nx σ H1) : tWhile c tb ⟨nx, rt, bk, ct⟩ σ H := ⟨W, ⟨m, h0⟩, hs⟩
theorem k_wb {tb : TS} {W : Nat → St → Hp → Prop} {m : Nat} (q : tb ⟨fun σ' H' => ∃ m', m' < m ∧ W m' σ' H', rt, nx, fun σ' H' => ∃ m', m' < m ∧ W m' σ' H'⟩ σ H) : kWb W m tb nx rt σ H := ⟨_, fun _ _ h => h, q⟩
end
end Sy
/-! list(d.values()). -/
namespace Sy
open PySem PySem.W PySem.Calls PySem.Spec PyProof.Rows L2
def tListVals (te : TE) : TE := fun σ H Q => te σ H fun x H1 => ∃ (d : Addr) (kvs : List (Key × V)), x = .ref d ∧ H1 d = some (.dK kvs) ∧ ∀ p, H1 p = none → Q (.ref p) (upd H1 p (.lst (kvs.map (·.2))))
section
variable {X : Cx} {e : Expr} {te : TE} {p apos cpos pos : Pos}
theorem vals_snd : ∀ {kvs : List (Key × V)} {vs : List (Key × Value)}, KV kvs vs → Vals (kvs.map (·.2)) (vs.map (·.2))
  | _, _, .nil => .nil
  | _, _, .cons h t => .cons h.2 (vals_snd t)
theorem pe_listVals (hc : X.calm = true) (he : PE X e te) (hg : Gl X "list") (hm : X.mg "list" = none) (hv : bootBuiltins "list" = some (.type "list")) (hbase : attributeBase e "values" X.env (eval e X.env) = eval e X.env := by rfl) (hline : (apos.endLine == cpos.line) = true := by rfl)
    (hs : starEach [.Call (.Attribute e "values" apos) [] [] cpos] X.env = (false, eval (.Call (.Attribute e "values" apos) [] [] cpos) X.env) :: starEach [] X.env := by rfl) :
    PE X (.Call (.Name "list" p) [.Call (.Attribute e "values" apos) [] [] cpos] [] pos) (tListVals te) := by
  refine ⟨fun pins s σ H Q I hq => ?_⟩
  refine wpAny_Call_Name_kw (ld_blt I hg hm hv ?_)
  refine PyProof.Rows.callWith_type1 ?_ hs rfl
  rw [hs]
  show wpAny _ _ (spliced ((false, eval (.Call (.Attribute e "values" apos) [] [] cpos) X.env) :: backTo pos (starEach [] X.env))) _ _ s
  refine Calls.spliced_cons ?_
  refine wpAny_Call_method (T := "dict") (id := "dict.values") hbase rfl hline F.plainAttrs_dict F.slot_dict_values F.type_dict_values (thn (he.run pins s σ H _ I hq) fun u s1 ⟨x, H1, I1, rx, d, kvs, ex, hd, q⟩ => ?_)
  subst ex
  obtain rfl : u = Value.ref d := rx
  obtain ⟨hz, hs0, vs, kv, hdo⟩ := I1.hok d _ hd
  obtain ⟨ep, hat⟩ := hdo.dictAt
  have lk : kvs.length = vs.length := Paired.length kv
  have I2 : Inv X pins σ H1 { s1 with heap := s1.heap.push { cls := .type "dict_values", data := .fields #[.ref d] } } := I1.kept (t' := s1.toks) fun b ob q => Heap.get?_push_of_some _ q
  refine ⟨hdo.typeIs, hdo.mapOf.noDict, ?_⟩
  show wpAny _ _ (callWith cpos (.builtin "dict.values") [.ref d] [] []) _ X.xe s1
  refine method_meetsIn F.slot_dict_values F.entry_dict_values rfl (PySem.evalArgs_none ⟨rfl, hdo.typeIs, F.args_dict_values_1 _, _, meets_dict_values (mixKind X.prog X.w) d hs0, ⟨vs, hdo⟩, ?_⟩)
  refine Calls.spliced_nil ?_
  refine PySem.W.kdl_call (PySem.W.kdl_values (knd := mixKind X.prog X.w) (d := d) (r := s1.heap.objs.size) (kvs := vs) (ep := ep)) (I1.ok.hd hc) ⟨⟨_, Heap.get?_push_size _ rfl, rfl, rfl⟩, hat.push _⟩ (by omega) fun h' tk acc c hk hD hacc => ?_
  have ea : acc.toList = vs.map (·.2) := PySem.W.kdl_vals_eq acc.toList (by rw [Array.length_toList]; exact hacc.1) fun j v e => hacc.2 j v (by rw [← Array.getElem?_toList]; exact e)
  refine ⟨.ref _, _, I2.laid (t' := tk) (o := .lst (kvs.map (·.2))) hk (Nat.le_refl _) ⟨by rw [List.length_map]; omega, acc.toList, c, by rw [ea]; exact vals_snd kv, by rw [Array.toArray_toList]; exact hD⟩, rfl, q _ (I2.hok.fresh (Nat.le_refl _))⟩
end
end Sy
namespace Sy
open PySem L2
section
variable {K : PySem.W.Frag} {σ : St} {H H1 : Hp} {L : List U} {Q : VK} {a b d p C : Addr} {te : TE}
def kListVals (x : V) (H1 : Hp) (Q : VK) : Prop := ∃ (d : Addr) (kvs : List (Key × V)), x = .ref d ∧ H1 d = some (.dK kvs) ∧ ∀ p, H1 p = none → Q (.ref p) (upd H1 p (.lst (kvs.map (·.2))))
theorem x_listVals (q : te σ H fun x H1 => kListVals x H1 Q) : tListVals te σ H Q := q
theorem k_listVals {mm : List (Int × V)} (hh : Has H L) (hp : H d = some (dI mm)) (q : ∀ p H', Has H' ([(p, .lst (mm.map (·.2)))] :: L) → Q (.ref p) H') : kListVals (.ref d) H Q := by
  refine ⟨d, _, rfl, hp, fun p hp => ?_⟩
  have e : (mk g1 mm).map (·.2) = mm.map (·.2) := by unfold mk; rw [List.map_map]; rfl
  rw [e]
  exact q p _ (hh.nw hp)
end
end Sy
/-! More rules: xs[::-1], == of alike data, a place of a dict set. -/
namespace Sy
open PySem L2
theorem Has.permU {H : Hp} {u u' : U} {L : List U} (h : Has H (u :: L)) (p : u.Perm u') : Has H (u' :: L) := by
  obtain ⟨n, a⟩ := h
  have e : (u :: L).flatten.Perm (u' :: L).flatten := p.append_right L.flatten
  exact ⟨(e.map (·.1)).nodup_iff.mp n, fun q hq => a q (e.mem_iff.mpr hq)⟩
theorem fmU_perm {β : Type} {ob : β → HO} {m m' : List (Addr × β)} (p : m.Perm m') : (fmU ob m).Perm (fmU ob m') := p.map _
section
variable {K : PySem.W.Frag} {σ : St} {H H1 : Hp} {L : List U} {Q : VK} {a b d p C : Addr} {te : TE} {x y v : V} {i : Int}
def kRevL (K : PySem.W.Frag) (x : V) (H1 : Hp) (Q : VK) : Prop := ∃ a xs, x = .ref a ∧ SqL K H1 a xs ∧ ∀ p, H1 p = none → Q (.ref p) (upd H1 p (.lst xs.reverse))
theorem x_revL (q : te σ H fun x H1 => kRevL K x H1 Q) : tRevL K te σ H Q := q
theorem k_revL {xs : List V} (hh : Has H L) (hp : H a = some (.lst xs)) (q : ∀ p H', Has H' ([(p, .lst xs.reverse)] :: L) → Q (.ref p) H') : kRevL K (.ref a) H Q := ⟨a, xs, rfl, SqL.of hp, fun p hp => q p _ (hh.nw hp)⟩
theorem shaped_lay {d : PyData} (h : SeqAt.shaped d = true) : d.canLay0 = true := by
  unfold SeqAt.shaped at h
  exact (Bool.and_eq_true_iff.mp h).1
theorem k_neSame {dd : PyData} (hx : Dp K H x dd) (hy : Dp K H y dd) (hs : SeqAt.shaped dd = true) (q : Q (.bl false) H) : rNeD K x y H Q :=
  ⟨dd, dd, hx, hy, hs, hs, by rw [SeqAt.eqv_refl dd (shaped_lay hs)]; exact q⟩
theorem k_eqSame {dd : PyData} (hx : Dp K H x dd) (hy : Dp K H y dd) (hs : SeqAt.shaped dd = true) (q : Q (.bl true) H) : rEqD K x y H Q :=
  ⟨dd, dd, hx, hy, hs, hs, by rw [SeqAt.eqv_refl dd (shaped_lay hs)]; exact q⟩
theorem k_setD {mm : List (Int × V)} {M : List U} {Q : Hp → Prop} (hp : H a = some (dI mm)) (hl : mm.length < sizeLine) (hh : Has (upd H a (dI (putK mm i v))) M) (q : ∀ H', Has H' M → Q H') : rSetD (.ref a) (.int i) v H Q := by
  refine ⟨a, _, rfl, DPut.k (k := g1 i) hp (by rw [mk_len]; exact hl), ?_⟩
  rw [mk_put g1_inj]
  exact q _ hh
theorem x_ifAnd {t u : TT} {s1 s2 : TS} {nx bk ct : St → Hp → Prop} {rt : VK} {b1 b2 : Bool} (ht : ∀ Q' : Bool → Hp → Prop, Q' b1 H → t σ H Q') (hu : ∀ Q' : Bool → Hp → Prop, Q' b2 H → u σ H Q') (q1 : b1 = true → b2 = true → s1 ⟨nx, rt, bk, ct⟩ σ H) (q2 : ¬ (b1 = true ∧ b2 = true) → s2 ⟨nx, rt, bk, ct⟩ σ H) : tIfS (tAnd t u) s1 s2 ⟨nx, rt, bk, ct⟩ σ H := by
  refine x_if (x_and (ht _ ?_))
  cases b1 with
  | false => exact ifF (ifF (q2 (by simp)))
  | true =>
    refine ifT (hu _ ?_)
    cases b2 with
    | false => exact ifF (q2 (by simp))
    | true => exact ifT (q1 rfl rfl)
def srtI (l : List Int) : List Int := l.mergeSort (fun a b => decide (a ≤ b))
theorem srtI_eq {l ys : List Int} (p : ys.Perm l) (s : ys.Pairwise (· ≤ ·)) : ys = srtI l := by
  have p2 : (srtI l).Perm l := List.mergeSort_perm _ _
  have s2 : (srtI l).Pairwise (fun a b => decide (a ≤ b) = true) := List.pairwise_mergeSort (fun a b c h1 h2 => by simp at h1 h2 ⊢; omega) (fun a b => by simp; omega) l
  exact (p.trans p2.symm).eq_of_pairwise (fun a b _ _ h h' => Int.le_antisymm h h') s (s2.imp of_decide_eq_true)
end
end Sy
/-! len(x) of an own class with its own __len__; {k: v}. -/
namespace Sy
open PySem PySem.Spec PyProof.Rows L2
def rLenO (C : Addr) (sp : Sp) (E : XK) : List V → Hp → VK → Prop := fun xs H Q => ∃ (a dx : Addr) (fs : List (Str × V)), xs = [.ref a] ∧ H a = some (.ins C dx fs) ∧ sp [.ref a] H (fun v H' => ∃ n : Int, v = .int n ∧ 0 ≤ n ∧ n < 2 ^ 63 ∧ Q (.int n) H') E
theorem call_lenO {X : Cx} {CX : CXT} {C f : Addr} {fd : FuncData} {ps : List Str} {sp : Sp} {E : XK} {n : Nat} (F : FnOk X.prog X.w X.K X.mg X.base CX n f fd ps sp) (hr : Room (n + 1) X.A) (M : Meth X.K C "__len__" f) (hb : Binds X.K fd ps []) (hx : Passes CX X E) : CallR X (.builtin "len") (rLenO C sp E) := by
  intro pins s σ H xs us Q I r h
  obtain ⟨a, dx, fs, rfl, ha, hsp⟩ := h
  obtain ⟨u, rfl, ru⟩ := vals1 r
  obtain rfl : u = Value.ref a := ru
  obtain ⟨mA, J, _⟩ := ins_get I.hok ha
  obtain ⟨od, J, _⟩ := J.look
  obtain ⟨m, hF⟩ := I.fr
  refine PySem.W.len_K hF I.ok.mod.kin J M.at_ M.fn ?_
  have e0 : Env0 X.prog X.w X.K X.mg X.base X.A.in1 X.stack s H := by
    have e := I.env0
    exact ⟨e.frames, e.mod, e.bs, e.bsz, e.funs, e.frf, e.hok, e.bare⟩
  have hl := F.len _ _ _ _ hsp
  have r2 : Vals [V.ref a] [Value.ref a] := .cons rfl .nil
  refine wpAny_call (codeAny_mono (F.run X.A.in1 X.stack s H ⟨[.ref a], []⟩ [.ref a] [.ref a] _ E hr.in1 e0 (by
    have := hb s [.ref a] I.kIn (by simpa using hl)
    simpa using this) r2 hsp) fun r s' hq => ?_)
  cases r with
  | error e => exact hx pins σ H s e s' I hq
  | ok fl =>
    cases fl with
    | ret w =>
      obtain ⟨z, H', I', rz, k, ez, h0, h1, q⟩ := I.after hq
      subst ez
      obtain ⟨tk, rfl⟩ := rz
      exact ⟨⟨h0, h1⟩, .int k, H', I'.tok _, ⟨_, rfl⟩, q⟩
    | next => exact False.elim hq
    | brk => exact False.elim hq
    | cont => exact False.elim hq
end Sy
namespace Sy
open PySem L2
section
variable {σ : St} {H : Hp} {L : List U} {Q : VK} {a C dx p : Addr} {fs : List (Str × V)} {sp : Sp} {E : XK} {tk tv : TE} {i : Int} {v : V}
theorem k_lenO (hp : H a = some (.ins C dx fs)) (q : sp [.ref a] H (fun v H' => ∃ n : Int, v = .int n ∧ 0 ≤ n ∧ n < 2 ^ 63 ∧ Q (.int n) H') E) : rLenO C sp E [.ref a] H Q := ⟨a, dx, fs, rfl, hp, q⟩
def kDisp (p : Addr) (x v : V) (H2 : Hp) (Q : VK) : Prop := H2 p = some (.dK []) ∧ ∃ kvs : List (Key × V), [(x, v)] = kvs.map (fun kv => (kV kv.1, kv.2)) ∧ kvs.length ≤ 15 ∧ Q (.ref p) (upd H2 p (.dK (mergeK [] kvs)))
theorem x_disp1 (hh : Has H L) (q : ∀ p H', Has H' ([(p, dI [])] :: L) → tk σ H' fun x H1 => tv σ H1 fun v H2 => kDisp p x v H2 Q) : tDisp [(tk, tv)] σ H Q := fun p hp => q p _ (hh.nw hp)
theorem k_disp {M : List U} (hp : H p = some (dI [])) (hh : Has (upd H p (dI [(i, v)])) M) (q : ∀ H', Has H' M → Q (.ref p) H') : kDisp p (.int i) v H Q := by
  refine ⟨hp, [(g1 i, v)], rfl, (show 1 ≤ 15 by decide), ?_⟩
  have e : (HO.dK (mergeK [] [(g1 i, v)])) = dI [(i, v)] := by
    unfold mergeK
    rw [List.foldl_cons, List.foldl_nil]
    unfold putK
    simp [mk]
  rw [e]
  exact q _ hh
end
end Sy
/-! for k in d, d locked. -/
namespace Sy
open PySem L2
theorem x_forD {σ : St} {H : Hp} {L : List U} {k : Nat} {d : Addr} {mm : List (Int × V)} {tb : TS} {td : TE} {nx bk ct : St → Hp → Prop} {rt : VK} (Pv : Obj → Nat → St → Hp → Prop) (hh : Has H ([(d, dI mm)] :: L))
    (htd : ∀ o H' (Q' : VK), Has H' ([(d, .frz o (dI mm))] :: L) → Q' (.ref d) H' → td σ H' Q')
    (h0 : ∀ o H', Has H' ([(d, .frz o (dI mm))] :: L) → Pv o 0 σ H')
    (hl : ∀ o i σ' H', Pv o i σ' H' → H' d = some (.frz o (dI mm)))
    (hs : ∀ o (i : Nat) (z : Int) σ' H', (mm.map (·.1))[i]? = some z → Pv o i σ' H' → tb ⟨Pv o (i + 1), fun v H' => H' d = some (.frz o (dI mm)) ∧ rt v (upd H' d (dI mm)), fun σ' H' => H' d = some (.frz o (dI mm)) ∧ nx σ' (upd H' d (dI mm)), Pv o (i + 1)⟩ (σ'.set k (some (.int z))) H')
    (hd : ∀ o σ' H', Pv o mm.length σ' H' → nx σ' (upd H' d (dI mm))) : tLock (tFor (iKeys td) (gName k) tb) ⟨nx, rt, bk, ct⟩ σ H := by
  refine ⟨d, dI mm, hh.g0, trivial, fun o => ?_⟩
  have h1 : Has (upd H d (.frz o (dI mm))) ([(d, .frz o (dI mm))] :: L) := hh.s0
  have hlen : (mk g1 mm).length = mm.length := mk_len _ _
  refine htd o _ _ h1 ⟨d, o, rfl, .inl ⟨mk g1 mm, h1.g0, fun i m σ' H' => m = mm.length - i ∧ i ≤ mm.length ∧ Pv o i σ' H', ⟨mm.length, by simp, Nat.zero_le _, h0 o _ h1⟩, ?_⟩⟩
  rintro i m σ' H' ⟨rfl, hi, p⟩
  have pl := hl o i σ' H' p
  by_cases hlt : i < mm.length
  · refine .inr ⟨⟨pl, by rw [hlen]; exact hlt⟩, Pv o (i + 1), fun σ2 H2 p2 => ⟨mm.length - (i + 1), by omega, rfl, hlt, p2⟩, fun x H2 y => ?_⟩
    obtain ⟨e, kk, vv, hk, ex⟩ := y
    subst e
    have hz1 : (mm.map (·.1))[i]? = some (mm[i]).1 := by rw [List.getElem?_map, List.getElem?_eq_getElem hlt]; rfl
    have hkk : kk = g1 (mm[i]).1 := by
      unfold mk at hk
      rw [List.getElem?_map, List.getElem?_eq_getElem hlt] at hk
      exact (congrArg Prod.fst (Option.some.inj hk)).symm
    subst hkk
    have ex : x = .int (mm[i]).1 := ex
    subst ex
    exact hs o i _ σ' H2 hz1 p
  · have e : i = mm.length := by omega
    subst e
    exact .inl ⟨⟨pl, by rw [hlen]; exact Nat.le_refl _⟩, pl, hd o σ' H' p⟩
end Sy
/-! Exceptions that are kept: try .. except X as e: caught = e; isinstance of what was caught; defs with two promises. -/
namespace Sy
open PySem PySem.Spec PyProof.Rows L2
/-- a caught exception, at a -/
def ExK (cls : Value) (d : Option Addr) (a : Addr) : HO := .ext fun h => ∃ (oe : Obj) (vs : Array Value), h.get? a = some oe ∧ Zc cls d oe ∧ oe.data = .fields vs
theorem exK_ok {P : Program} {w : World} {H : Hp} {h : Heap} {a : Addr} {cls : Value} {d : Option Addr} {oe : Obj} {vs : Array Value} (e : h.get? a = some oe) (z : Zc cls d oe) (hd : oe.data = .fields vs) : ObjOk P w H h a (ExK cls d a) :=
  ⟨⟨oe, vs, e, z, hd⟩, ⟨oe, e⟩, fun _ _ ⟨o, v, q, r⟩ k => ⟨o, v, k o q, r⟩⟩
section
variable {X : Cx} {pins : List (Addr × Obj)} {σ : L2.St} {H : Hp} {s : Shared}
theorem Inv_track {a : Addr} {φ : Heap → Prop} (I : Inv X pins σ H s) (na : H a = none) (n0 : X.s_0.heap.get? a = none) (nL : a ≠ X.env.locals) (nC : ∀ x c, X.env.cells.lookup x = some c → c ≠ a) (nP : ∀ p ∈ X.pn ++ pins, p.1 ≠ a)
    (new : ObjOk X.prog X.w (upd H a (.ext φ)) s.heap a (.ext φ)) : Inv X pins σ (upd H a (.ext φ)) s := by
  refine ⟨I.ok, I.os, I.bare, ⟨I.base.keep, I.base.slot, fun b o e n hq => ?_, I.base.there, fun b xs e => ?_, fun b o u e => ?_, fun b ps e => ?_⟩, I.loc, I.cell, ?_, fun x c e => ?_, fun p hp => ?_, I.hok.laidN (fun _ _ q => q) na new, I.len⟩
  · rw [upd_ne (fun z => by rw [z, n0] at e; cases e)]
    exact I.base.free b o e n hq
  · have q := I.base.tups b xs e
    rw [upd_ne (ne_of_none q na)]
    exact q
  · have q := I.base.frzs b o u e
    rw [upd_ne (ne_of_none q na)]
    exact q
  · obtain ⟨m, q⟩ := I.base.tbls b ps e
    exact ⟨m, by rw [upd_ne (ne_of_none q na)]; exact q⟩
  · rw [upd_ne (Ne.symm nL)]
    exact I.free
  · rw [upd_ne (nC x c e)]
    exact I.freeC x c e
  · obtain ⟨e, n, ne, nf, d⟩ := I.pin p hp
    exact ⟨e, by rw [upd_ne (nP p hp)]; exact n, ne, nf, d⟩
end
/-- what the clause 'except x as n' wishes of an exception of the body, the exception kept behind it -/
def wKeep (K : PySem.W.Frag) (c : Value) (i : Nat) (ts : Addr → Value → Option Addr → TS) (Wout : WX) (D : Ends) : WX := fun cls d σ H =>
  ∃ b, PySem.W.exmOne K cls c = some b ∧ (b = true → ∀ a, H a = none → ts a cls d { nx := fun σ' H' => D.nx (σ'.set i none) (upd H' a (ExK cls d a)), rt := fun _ _ => False, bk := fun _ _ => False, ct := fun _ _ => False } (σ.set i (some (.ref a))) H) ∧
    (b = false → Wout cls d σ H)
section
variable {X : Cx} {x n : Str} {c : Value} {i : Nat} {body suite : List Stmt} {b₀ : Stmt} {np pos pos' : Pos} {tb : WX → TS} {ts : Addr → Value → Option Addr → TS} {Wout : WX}
theorem ps_try_keep (hs : X.stack = X.env :: X.outer) (hf : X.env.frame = some X.env.locals) (hex : X.ex = []) (hN : X.N.Nodup) (hi : X.N[i]? = some n) (hln : X.env.kindOf n = some .local) (hc : Names X x c) (tk : Takes X Wout)
    (hb : ∀ (W : WX) (pn : List (Addr × Obj)) (xe : Value → Shared → Prop), Takes (X.tr pn xe) W → PassesOwn (model X.prog X.w) X.A X.env xe → PSs (X.tr pn xe) body (tb W))
    (hsu : ∀ (a : Addr) (oe : Obj) (cls : Value) (d : Option Addr) (pn : List (Addr × Obj)), Zc cls d oe → (∃ vs, oe.data = .fields vs) → PSs (X.suite a ((a, oe) :: pn)) (b₀ :: suite) (ts a cls d)) :
    PS X (.Try body [.ExceptHandler (some (.Name x np)) (some n) (b₀ :: suite) pos'] [] [] pos) (fun D σ H => tb (wKeep X.K c i ts Wout D) D σ H) := by
  refine ⟨fun pins s σ H D I h => ?_⟩
  have ok := I.ok
  have hfr : X.A.frames = some (X.env :: X.outer) := by rw [ok.frames, hs]
  have hloc : Loc X.env.scope n := .inl hln
  refine wpAny_Try_except ?_
  refine wpAny_mono ((hb (wKeep X.K c i ts Wout D) (X.pn ++ pins) (fun e s₁ => wpAny (model X.prog X.w) X.A (noteFrame e X.env) (fun _ s₂ => wpAny (model X.prog X.w) X.A (setFlight e none) (fun _ s₃ =>
    wpAny (model X.prog X.w) X.A (handleBy e X.env [.ExceptHandler (some (.Name x np)) (some n) (b₀ :: suite) pos']) (SP X pins D) X.xe s₃) X.xe s₂) X.xe s₁) (fun u s' xx => ?_) PassesOwn.looking).run [] s σ H D (I.toTry _) h) (fun f s1 hsp => ?_) (fun e s1 he => he)
  · -- the catch
    obtain ⟨a, B, sI, pins', σ', H', cls, d, rfl, J', nb, up, sky, na, os, ag, b, hb1, hyes, hno⟩ := xx
    have J : Inv X pins σ' H' sI := J'.ofTry ok
    have sky' : Sky B (X.env :: X.outer) a (Zc cls d) X.env.locals s'.heap := by rw [← hs]; exact sky
    show wpAny (model X.prog X.w) X.A (noteFrame (.ref a) X.env) _ _ _
    refine Sky.land Zc.steady hfr hf sky' fun h3 fl3 up3 => ?_
    have J3 : Inv X pins σ' H' { s' with heap := h3 } := J.landed nb fl3.1 (up.trans up3) os ag
    obtain ⟨oe3, vs3, he3, hz3, hd3⟩ := fl3.there
    have notFr : ∀ {h : Heap} {o : Obj} {vs : Array Value}, h.FunFrames B (X.env :: X.outer) → h.get? a = some o → o.data = .fields vs → a ∉ frs (X.env :: X.outer) := fun {h o vs} ff e dd hm => by
      obtain ⟨_, o', e', hnf⟩ := ff.mem hm
      rw [e] at e'; cases e'
      exact hnf _ dd
    have nfr := notFr fl3.2.2.1 he3 hd3
    have nL : a ≠ X.env.locals := fun z => nfr (List.mem_filterMap.mpr ⟨X.env, List.mem_cons_self, by rw [hf, z]⟩)
    have nF : a ∉ X.fs := fun hm => by
      obtain ⟨e, he, q⟩ := List.mem_filterMap.mp hm
      exact nfr (List.mem_filterMap.mpr ⟨e, List.mem_cons_of_mem _ he, q⟩)
    have nI : sI.heap.get? a = none := by
      cases e : sI.heap.get? a with
      | none => rfl
      | some o =>
        have z := nb a o e (by rw [hs]; exact nfr)
        rw [fl3.2.1] at z
        cases z
    have n0 : X.s_0.heap.get? a = none := by
      cases e : X.s_0.heap.get? a with
      | none => rfl
      | some o =>
        obtain ⟨o', z⟩ := J.base.there a o e (by rw [hex]; exact fun z => nomatch z)
        rw [nI] at z
        cases z
    have nP : ∀ p ∈ X.pn ++ pins, p.1 ≠ a := fun p hp z => by
      obtain ⟨e, _⟩ := J.pin p hp
      rw [z, nI] at e
      cases e
    have S3 := J3.suite he3 hd3 na nL nF
    refine wpAny_handleBy_cons (codeAny_handlers_test ?_) (by intro q; cases q)
    have LT : PySem.W.Looks (model X.prog X.w) h3 (typeOf (.ref a)) cls := fun A Q E s k q => wpAny_typeOf_ref (k _ _ he3) (by rw [hz3.1]; exact q)
    have LM := PySem.W.exm_one (M := model X.prog X.w) (J3.kIn) LT hb1
    have test : ∀ {Q : Value → Shared → Prop} {E : Value → Shared → Prop}, Q c { s' with heap := h3 } → wpAny (model X.prog X.w) (X.A.mark (some (.ref a))) (eval (.Name x np) X.env) Q E { s' with heap := h3 } := fun {Q E} q => by
      obtain ⟨hg, hdbg, hm | ⟨hm, hv, hnn⟩⟩ := hc
      · exact ld_glob (X := X.suite a ((a, oe3) :: (X.pn ++ pins))) S3 hg hm q hdbg
      · exact ld_blt (X := X.suite a ((a, oe3) :: (X.pn ++ pins))) S3 hg hm hv q hnn hdbg
    refine test (LM.here ?_)
    cases b with
    | true =>
      refine codeAny_handlers_suite_as ?_
      refine HandSPX.lands_againZ fl3 fun h4 fl4 up4 => ?_
      have J4 : Inv X pins σ' H' { s' with heap := h4 } := J.landed nb fl4.1 ((up.trans up3).trans up4) os ag
      obtain ⟨oe4, vs4, he4, hz4, hd4⟩ := fl4.there
      have S4 := J4.suite he4 hd4 na nL nF
      refine store_ok (X := X.suite a ((a, oe4) :: (X.pn ++ pins))) (v := .ref a) S4 hN hi hloc rfl (fun s5 S5 => ?_) (.inr hln)
      refine wpAny_mono ((hsu a oe4 cls d (X.pn ++ pins) hz4 ⟨_, hd4⟩).run [] s5 _ H' _ S5 (hyes rfl a na)) (fun f s6 hsp => ?_) (fun _ _ z => False.elim z)
      cases f with
      | next =>
        obtain ⟨σ6, H6, S6, q6⟩ := hsp
        refine gone_ok (X := X.suite a ((a, oe4) :: (X.pn ++ pins))) S6 hN hi hln fun s7 S7 => ?_
        obtain ⟨e7, n7, _, _, d7⟩ := S7.pin (a, oe4) (List.mem_append.mpr (.inl List.mem_cons_self))
        have J7 := S7.unsuite ok
        refine ⟨_, _, Inv_track J7 n7 n0 nL (fun y c e z => ?_) nP (exK_ok e7 hz4 hd4), q6⟩
        obtain ⟨v, o, ho, hd⟩ := J7.cell y c e
        rw [z] at ho
        have ho : s7.heap.get? a = some o := ho
        rw [e7] at ho
        have := Option.some.inj ho
        subst this
        exact d7 _ hd
      | brk =>
        obtain ⟨_, _, _, q6⟩ := hsp
        exact q6.elim
      | cont =>
        obtain ⟨_, _, _, q6⟩ := hsp
        exact q6.elim
      | ret u =>
        obtain ⟨_, _, _, _, _, q6⟩ := hsp
        exact q6.elim
    | false =>
      show wpAny _ X.A (handleBy (.ref a) X.env []) _ _ _
      refine wpAny_handleBy_nil ?_
      obtain ⟨k1, k2, k3, oe, vs, T, oT, ts', he, hz, hd, h1, hr⟩ := id fl3
      unfold PySem.passOn
      refine wpAny_bind (wpAny_field he hd h1 ?_)
      rw [if_neg (show ¬ ((Value.ref T == Value.none) = true) from by simp)]
      have fin : wpAny (model X.prog X.w) X.A (setFlight (.ref a) X.env.frame) (fun _ s4 => wpAny (model X.prog X.w) X.A (throw (.ref a) : Sem Flow) (SP X pins D) X.xe s4) X.xe { s' with heap := h3 } := by
        rw [hf]
        refine HandSPX.setFlight_upZ fl3 fun h4 hh4 up4 => wpAny_throw (tk _ _ ?_)
        exact ⟨a, B, sI, pins, σ', H', cls, d, rfl, J, nb, (up.trans up3).trans up4, .inr (.inr (by rw [hs]; exact hh4)), na, os, ag, hno rfl⟩
      first
        | exact wpAny_bind (wpAny_pure (wpAny_bind fin))
        | exact wpAny_bind fin
  · cases f with
    | next => obtain ⟨σ6, H6, S6, q6⟩ := hsp; exact wpAny_execs_nil ⟨σ6, H6, S6.ofTry ok, q6⟩
    | brk => obtain ⟨σ6, H6, S6, q6⟩ := hsp; exact ⟨σ6, H6, S6.ofTry ok, q6⟩
    | cont => obtain ⟨σ6, H6, S6, q6⟩ := hsp; exact ⟨σ6, H6, S6.ofTry ok, q6⟩
    | ret u => obtain ⟨v6, σ6, H6, S6, r6, q6⟩ := hsp; exact ⟨v6, σ6, H6, S6.ofTry ok, r6, q6⟩
end
/-- isinstance(x, c), x an exception that was caught -/
def rIsK (K : PySem.W.Frag) : List V → Hp → VK → Prop := fun xs H Q => ∃ (a D : Addr) (c : V) (cv : Value) (b : Bool), xs = [.ref a, c] ∧ H a = some (ExK (.ref D) none a) ∧ ExcC K D ∧ (∀ u, RelV c u → u = cv) ∧ PySem.W.kitOne K (.ref D) cv = some b ∧ Q (.bl b) H
theorem call_isK {X : Cx} : CallR X (.builtin "isinstance") (rIsK X.K) := by
  intro pins s σ H xs us Q I r h
  obtain ⟨a, D, c, cv, b, rfl, ha, C, hcv, e, q⟩ := h
  cases r with
  | cons rx rr =>
    cases rr with
    | cons rt rr =>
      cases rr
      cases rx
      have ec := hcv _ rt
      subst ec
      obtain ⟨⟨oe, vs, hget, hz, hv⟩, _, _⟩ := I.hok a _ ha
      have J : PySem.W.InstAt s.heap a oe D none := by
        obtain ⟨oc, od, oda, osl⟩ := oe
        obtain ⟨h1, h2⟩ := hz
        dsimp only at h1 h2 hv
        subst h1 h2 hv
        exact ⟨hget, rfl, rfl, trivial⟩
      exact PySem.W.kia_one (PySem.W.handS_kitx_exc C.hg C.hk C.hs C.hd C.ha C.hn C.ht C.hm) I.kIn J e (fun z => nomatch z) fun tk => ⟨.bl b, H, I.kept (t' := tk) fun _ _ z => z, rfl, q⟩
/-! ### a def with two promises; a def that lets nothing out -/
section
variable {P : Program} {w : World} {K : PySem.W.Frag} {mg : Str → Option Value} {base : Heap} {CX CX' : CXT} {n m : Nat} {f : Addr} {fd : FuncData} {ps : List Str} {sp sp' : Sp}
theorem fn_mono (F : FnOk P w K mg base CX n f fd ps sp) (h : n ≤ m) : FnOk P w K mg base CX m f fd ps sp := ⟨F.len, fun A outer s H args us vs Q E hr e0 b r hsp => F.run A outer s H args us vs Q E (hr.mono h) e0 b r hsp⟩
theorem fn_or (F : FnOk P w K mg base CX n f fd ps sp) (G : FnOk P w K mg base CX m f fd ps sp') : FnOk P w K mg base CX (max n m) f fd ps (fun vs H Q E => sp vs H Q E ∨ sp' vs H Q E) :=
  ⟨fun vs H Q E h => h.elim (F.len vs H Q E) (G.len vs H Q E), fun A outer s H args us vs Q E hr e0 b r hsp => hsp.elim (fun h => F.run A outer s H args us vs Q E (hr.mono (Nat.le_max_left _ _)) e0 b r h) fun h => G.run A outer s H args us vs Q E (hr.mono (Nat.le_max_right _ _)) e0 b r h⟩
end
/-- both promises -/
def spOr (a b : Sp) : Sp := fun vs H Q E => a vs H Q E ∨ b vs H Q E
theorem fn_up {P : Program} {w : World} {K : PySem.W.Frag} {mg : Str → Option Value} {base : Heap} {CX : CXT} {n : Nat} {f : Addr} {fd : FuncData} {ps : List Str} {sp : Sp} (F : FnOk P w K mg base CX0 n f fd ps sp) : FnOk P w K mg base CX n f fd ps sp :=
  ⟨F.len, fun A outer s H args us vs Q E hr e0 b r hsp => codeAny_mono (F.run A outer s H args us vs Q E hr e0 b r hsp) fun r s' hq => by
    cases r with
    | error e => exact hq.elim
    | ok fl => cases fl <;> exact hq⟩
/-! ### xs.count(v), flat items -/
def rCntV (K : PySem.W.Frag) : V → List V → Hp → VK → Prop := fun x xs H Q => ∃ (a : Addr) (ys : List V) (y : V), x = V.ref a ∧ xs = [y] ∧ SqL K H a ys ∧ flatV y = true ∧ ys.all flatV = true ∧ Q (.int ((ys.countP fun z => eqV z y) : Nat)) H
theorem cnt_vals {y : V} : ∀ {ys : List V} {its : List Value}, Vals ys its → ys.all flatV = true → its.countP (eqU y) = ys.countP fun z => eqV z y
  | _, _, .nil, _ => rfl
  | _, _, .cons (a := z) (b := u) h t, f => by
    rw [List.all_cons, Bool.and_eq_true] at f
    rw [List.countP_cons, List.countP_cons, cnt_vals t f.2, eqU_of h f.1]
theorem mt_countV {X : Cx} : MtR X "list.count" (rCntV X.K) := by
  intro pins s σ H x xs v us Q I rx rxs h
  obtain ⟨a, ys, y, rfl, rfl, hs, fy, fys, q⟩ := h
  cases rx
  cases rxs with
  | cons ry rt =>
    rename_i uy ut
    cases rt
    obtain ⟨its, rv, ⟨⟨cls, dd, data, sl⟩, n, ho, hc, hdn, hd⟩, hlen⟩ := I.list hs
    simp only at hc hd
    subst hc hd
    refine call_meets PySem.F.slot_list_count ⟨_, ho, rfl⟩ PySem.F.entry_list_count (PySem.F.args_list_count_2 _ _)
      (SeqAt.list_countAt a its.toArray n dd sl uy (eqU y)) ⟨ho, fun u' hu' => mem_eqAt ry fy rv fys u' (by simpa using hu'), ?_⟩
    have ec : its.toArray.toList.countP (eqU y) = ys.countP fun z => eqV z y := cnt_vals rv fys
    refine ⟨.int ((ys.countP fun z => eqV z y) : Nat), H, I.tok _, ⟨s.toks, ?_⟩, q⟩
    show Value.int ((its.toArray.toList.countP (eqU y) : Nat) : Int) s.toks = _
    rw [ec]
/-! ### calls that may raise, within a try -/
section
variable {X : Cx} {CX : CXT} {k : Nat} {f C : Addr} {fd : FuncData} {ps : List Str} {sp : Sp} {E : L2.St → XK} {x m : Str} {p pos apos : Pos} {e o : Expr} {es : List Expr} {ta : TE} {t : TA}
def tMethS' (C : Addr) (m : Str) (sp : Sp) (E : L2.St → XK) (ta : TE) (t : TA) : TE := fun σ H Q => ta σ H fun x H1 => ∃ a dx fs, x = .ref a ∧ H1 a = some (.ins C dx fs) ∧ fs.lookup m = none ∧ t σ H1 fun vs H2 => sp (x :: vs) H2 Q (E σ)
theorem pe_methS' {pl : Sem Bool} (he : PE X o ta) (c : Cls X.K C) (hm : Meth X.K C m f) (F : FnOk X.prog X.w X.K X.mg X.base CX k f fd ps sp) (hr : Room k X.A) (hb : Binds X.K fd ps []) (hx : ∀ σ, PassesAt CX X σ (E σ)) (ha : PA X (e :: es) t)
    (hst : starEach (e :: es) X.env = (false, eval e X.env) :: starEach es X.env := by rfl) (hpl : (backTo pos (starEach es X.env)).any (·.1) = false := by rfl)
    (ht : eval (.Call (.Attribute o m apos) (e :: es) [] pos) X.env = (do
      let ov ← eval o X.env
      standAt apos.atName
      let (f, first) ← holding [ov] (getMethod ov m pl)
      callWith pos f first (backTo pos (starEach (e :: es) X.env)) (backToKw pos (keywordEach [] X.env))) := by rfl) :
    PE X (.Call (.Attribute o m apos) (e :: es) [] pos) (tMethS' C m sp E ta t) := by
  refine ⟨fun pins s σ H Q I h => ?_⟩
  refine PySem.W.methodCall_KW (pl := pl) (thn (he.run pins s σ H _ I h) fun u s1 ⟨x, H1, I1, rx, a, dx, fs, ex, ea, l, q⟩ => ?_) ht
  subst ex
  obtain rfl : u = Value.ref a := rx
  refine getmeth_ok I1 ea c hm l ?_
  refine PySem.W.callWith_K (first := [.ref a]) (h₀ := X.base) I.ok.mod.kin hm.kp (thn (ha.run pos pins s1 σ H1 _ I1 q) fun us s2 ⟨vs, H2, I2, r, q2⟩ => ⟨I2.kIn, ?_⟩) hst hpl
  exact run_fnS (us := .ref a :: us) (vs := .ref a :: vs) F hr hb (hx σ) I2 (.cons rfl r) q2
end
end Sy
namespace Sy
open PySem L2
/-- raise C('..') in a def whose way out is E -/
def tRaise (E : XK) (C : Addr) : TS := fun _ _ H => E (.ref C) none H
/-- try: .. except c as e: x = e (e in slot i, x in slot j) -/
def tTryK (K : PySem.W.Frag) (c : Value) (i j : Nat) (tb : WX → TS) : TS := fun D σ H => tb (wKeep K c i (fun _ _ _ => tAsg (tVar i) (gName j)) (fun _ _ _ _ => False) D) D σ H
section
variable {K : PySem.W.Frag} {σ : St} {H : Hp} {L : List U} {Q : VK} {nx bk ct : St → Hp → Prop} {rt : VK} {E : XK} {C : Addr} {cls c : Value} {d : Option Addr} {i j : Nat} {tb : WX → TS} {tr : TA} {ta : TE} {sp : Sp} {Es : St → XK} {a dx : Addr} {fs : List (Str × V)} {m : Str} {D : Ends} {Wout : WX}
theorem x_raise (q : E (.ref C) none H) : tRaise E C D σ H := q
theorem x_tryK (q : tb (wKeep K c i (fun _ _ _ => tAsg (tVar i) (gName j)) (fun _ _ _ _ => False) ⟨nx, rt, bk, ct⟩) ⟨nx, rt, bk, ct⟩ σ H) : tTryK K c i j tb ⟨nx, rt, bk, ct⟩ σ H := q
theorem k_keep (he : PySem.W.exmOne K cls c = some true) (hi : i < σ.length) (hh : Has H L) (q : ∀ a H', Has H' ([(a, ExK cls d a)] :: L) → nx (((σ.set i (some (.ref a))).set j (some (.ref a))).set i none) H') : wKeep K c i (fun _ _ _ => tAsg (tVar i) (gName j)) Wout ⟨nx, rt, bk, ct⟩ cls d σ H := by
  refine ⟨true, he, fun _ a ha => ⟨.ref a, ?_, ?_⟩, fun h => by cases h⟩
  · rw [List.getElem?_set_self hi]
  · exact q a _ (hh.nw ha)
theorem x_callS (q : tr σ H fun vs H1 => sp vs H1 Q (Es σ)) : tCallS sp Es tr σ H Q := q
def kMethS (C : Addr) (m : Str) (sp : Sp) (Es : St → XK) (t : TA) (σ : St) (x : V) (H1 : Hp) (Q : VK) : Prop := ∃ a dx fs, x = .ref a ∧ H1 a = some (.ins C dx fs) ∧ fs.lookup m = none ∧ t σ H1 fun vs H2 => sp (x :: vs) H2 Q (Es σ)
theorem x_methS (q : ta σ H fun x H1 => kMethS C m sp Es tr σ x H1 Q) : tMethS' C m sp Es ta tr σ H Q := q
theorem k_methS (hp : H a = some (.ins C dx fs)) (hl : fs.lookup m = none) (q : tr σ H fun vs H2 => sp (.ref a :: vs) H2 Q (Es σ)) : kMethS C m sp Es tr σ (.ref a) H Q := ⟨a, dx, fs, rfl, hp, hl, q⟩
theorem k_isK {D : Addr} {c : V} {cv : Value} {b : Bool} (hp : H a = some (ExK (.ref D) none a)) (hC : ExcC K D) (hc : ∀ u, RelV c u → u = cv) (hk : PySem.W.kitOne K (.ref D) cv = some b) (q : Q (.bl b) H) : rIsK K [.ref a, c] H Q := ⟨a, D, c, cv, b, rfl, hp, hC, hc, hk, q⟩
theorem k_isKR {D C : Addr} {b : Bool} (hp : H a = some (ExK (.ref D) none a)) (hC : ExcC K D) (hk : PySem.W.kitOne K (.ref D) (.ref C) = some b) (q : Q (.bl b) H) : rIsK K [.ref a, .ref C] H Q := k_isK hp hC (fun u r => r) hk q
theorem k_isKT {D : Addr} {t : String} {b : Bool} (hp : H a = some (ExK (.ref D) none a)) (hC : ExcC K D) (hk : PySem.W.kitOne K (.ref D) (.type t) = some b) (q : Q (.bl b) H) : rIsK K [.ref a, .ty t] H Q := k_isK hp hC (fun u r => r) hk q
theorem k_cntV {y : V} {ys : List V} (hp : H a = some (.lst ys)) (f1 : flatV y = true) (f2 : ys.all flatV = true) (q : Q (.int ((ys.countP fun z => eqV z y) : Nat)) H) : rCntV K (.ref a) [y] H Q := ⟨a, ys, y, rfl, rfl, SqL.of hp, f1, f2, q⟩
end
end Sy
/-! try with several clauses 'except X as e: ..', the exception kept behind it. -/
namespace Sy
open PySem PySem.Spec PyProof.Rows L2
def wKeepM (K : PySem.W.Frag) (i : Nat) (Wout : WX) (D : Ends) : List (Value × (Addr → Value → Option Addr → TS)) → WX
  | [] => Wout
  | (c, ts) :: r => fun cls d σ H => ∃ b, PySem.W.exmOne K cls c = some b ∧ (b = true → ∀ a, H a = none → ts a cls d { nx := fun σ' H' => D.nx (σ'.set i none) (upd H' a (ExK cls d a)), rt := fun _ _ => False, bk := fun _ _ => False, ct := fun _ _ => False } (σ.set i (some (.ref a))) H) ∧
    (b = false → wKeepM K i Wout D r cls d σ H)
inductive HdsKp (X : Cx) (n : Str) : List ExceptHandler → List (Value × (Addr → Value → Option Addr → TS)) → Prop
  | nil : HdsKp X n [] []
  | cons {x : Str} {c : Value} {ts : Addr → Value → Option Addr → TS} {b₀ : Stmt} {suite : List Stmt} {np pos' : Pos} {hds : List ExceptHandler} {l : List (Value × (Addr → Value → Option Addr → TS))} (hc : Names X x c)
      (hsu : ∀ (a : Addr) (oe : Obj) (cls : Value) (d : Option Addr) (pn : List (Addr × Obj)), Zc cls d oe → (∃ vs, oe.data = .fields vs) → PSs (X.suite a ((a, oe) :: pn)) (b₀ :: suite) (ts a cls d)) (r : HdsKp X n hds l) :
      HdsKp X n (.ExceptHandler (some (.Name x np)) (some n) (b₀ :: suite) pos' :: hds) ((c, ts) :: l)
section
variable {X : Cx} {n : Str} {i : Nat} {body : List Stmt} {h₀ : ExceptHandler} {hds : List ExceptHandler} {l : List (Value × (Addr → Value → Option Addr → TS))} {pos : Pos} {tb : WX → TS} {Wout : WX}
theorem ps_try_keepM (hs : X.stack = X.env :: X.outer) (hf : X.env.frame = some X.env.locals) (hex : X.ex = []) (hN : X.N.Nodup) (hi : X.N[i]? = some n) (hln : X.env.kindOf n = some .local) (tk : Takes X Wout)
    (hb : ∀ (W : WX) (pn : List (Addr × Obj)) (xe : Value → Shared → Prop), Takes (X.tr pn xe) W → PassesOwn (model X.prog X.w) X.A X.env xe → PSs (X.tr pn xe) body (tb W))
    (hh : HdsKp X n (h₀ :: hds) l) :
    PS X (.Try body (h₀ :: hds) [] [] pos) (fun D σ H => tb (wKeepM X.K i Wout D l) D σ H) := by
  refine ⟨fun pins s σ H D I h => ?_⟩
  have ok := I.ok
  have hfr : X.A.frames = some (X.env :: X.outer) := by rw [ok.frames, hs]
  have hloc : Loc X.env.scope n := .inl hln
  refine wpAny_Try_except ?_
  refine wpAny_mono ((hb (wKeepM X.K i Wout D l) (X.pn ++ pins) (fun e s₁ => wpAny (model X.prog X.w) X.A (noteFrame e X.env) (fun _ s₂ => wpAny (model X.prog X.w) X.A (setFlight e none) (fun _ s₃ =>
    wpAny (model X.prog X.w) X.A (handleBy e X.env (h₀ :: hds)) (SP X pins D) X.xe s₃) X.xe s₂) X.xe s₁) (fun u s' xx => ?_) PassesOwn.looking).run [] s σ H D (I.toTry _) h) (fun f s1 hsp => ?_) (fun e s1 he => he)
  · -- the catch
    obtain ⟨a, B, sI, pins', σ', H', cls, d, rfl, J', nb, up, sky, na, os, ag, w⟩ := xx
    have J : Inv X pins σ' H' sI := J'.ofTry ok
    have sky' : Sky B (X.env :: X.outer) a (Zc cls d) X.env.locals s'.heap := by rw [← hs]; exact sky
    show wpAny (model X.prog X.w) X.A (noteFrame (.ref a) X.env) _ _ _
    refine Sky.land Zc.steady hfr hf sky' fun h3 fl3 up3 => ?_
    have J3 : Inv X pins σ' H' { s' with heap := h3 } := J.landed nb fl3.1 (up.trans up3) os ag
    obtain ⟨oe3, vs3, he3, hz3, hd3⟩ := fl3.there
    have notFr : ∀ {h : Heap} {o : Obj} {vs : Array Value}, h.FunFrames B (X.env :: X.outer) → h.get? a = some o → o.data = .fields vs → a ∉ frs (X.env :: X.outer) := fun {h o vs} ff e dd hm => by
      obtain ⟨_, o', e', hnf⟩ := ff.mem hm
      rw [e] at e'; cases e'
      exact hnf _ dd
    have nfr := notFr fl3.2.2.1 he3 hd3
    have nL : a ≠ X.env.locals := fun z => nfr (List.mem_filterMap.mpr ⟨X.env, List.mem_cons_self, by rw [hf, z]⟩)
    have nF : a ∉ X.fs := fun hm => by
      obtain ⟨e, he, q⟩ := List.mem_filterMap.mp hm
      exact nfr (List.mem_filterMap.mpr ⟨e, List.mem_cons_of_mem _ he, q⟩)
    have nI : sI.heap.get? a = none := by
      cases e : sI.heap.get? a with
      | none => rfl
      | some o =>
        have z := nb a o e (by rw [hs]; exact nfr)
        rw [fl3.2.1] at z
        cases z
    have n0 : X.s_0.heap.get? a = none := by
      cases e : X.s_0.heap.get? a with
      | none => rfl
      | some o =>
        obtain ⟨o', z⟩ := J.base.there a o e (by rw [hex]; exact fun z => nomatch z)
        rw [nI] at z
        cases z
    have nP : ∀ p ∈ X.pn ++ pins, p.1 ≠ a := fun p hp z => by
      obtain ⟨e, _⟩ := J.pin p hp
      rw [z, nI] at e
      cases e
    have S3 := J3.suite he3 hd3 na nL nF
    have go : ∀ {hds' : List ExceptHandler} {l' : List (Value × (Addr → Value → Option Addr → TS))}, HdsKp X n hds' l' → wKeepM X.K i Wout D l' cls d σ' H' →
        wpAny (model X.prog X.w) X.A (handleBy (.ref a) X.env hds') (SP X pins D) X.xe { s' with heap := h3 } := by
      intro hds' l' hk
      induction hk with
      | nil =>
        intro w
        refine wpAny_handleBy_nil ?_
        obtain ⟨k1, k2, k3, oe, vs, T, oT, ts', he, hz, hd, h1, hr⟩ := id fl3
        unfold PySem.passOn
        refine wpAny_bind (wpAny_field he hd h1 ?_)
        rw [if_neg (show ¬ ((Value.ref T == Value.none) = true) from by simp)]
        have fin : wpAny (model X.prog X.w) X.A (setFlight (.ref a) X.env.frame) (fun _ s4 => wpAny (model X.prog X.w) X.A (throw (.ref a) : Sem Flow) (SP X pins D) X.xe s4) X.xe { s' with heap := h3 } := by
          rw [hf]
          refine HandSPX.setFlight_upZ fl3 fun h4 hh4 up4 => wpAny_throw (tk _ _ ?_)
          exact ⟨a, B, sI, pins, σ', H', cls, d, rfl, J, nb, (up.trans up3).trans up4, .inr (.inr (by rw [hs]; exact hh4)), na, os, ag, w⟩
        first
          | exact wpAny_bind (wpAny_pure (wpAny_bind fin))
          | exact wpAny_bind fin
      | @cons x c ts b₀ suite np pos' hds2 l2 hc hsu r ih =>
        intro w
        obtain ⟨b, hb1, hyes, hno⟩ := w
        refine wpAny_handleBy_cons (codeAny_handlers_test ?_) (by intro q; cases q)
        have LT : PySem.W.Looks (model X.prog X.w) h3 (typeOf (.ref a)) cls := fun A Q E s k q => wpAny_typeOf_ref (k _ _ he3) (by rw [hz3.1]; exact q)
        have LM := PySem.W.exm_one (M := model X.prog X.w) (J3.kIn) LT hb1
        have test : ∀ {Q : Value → Shared → Prop} {E : Value → Shared → Prop}, Q c { s' with heap := h3 } → wpAny (model X.prog X.w) (X.A.mark (some (.ref a))) (eval (.Name x np) X.env) Q E { s' with heap := h3 } := fun {Q E} q => by
          obtain ⟨hg, hdbg, hm | ⟨hm, hv, hnn⟩⟩ := hc
          · exact ld_glob (X := X.suite a ((a, oe3) :: (X.pn ++ pins))) S3 hg hm q hdbg
          · exact ld_blt (X := X.suite a ((a, oe3) :: (X.pn ++ pins))) S3 hg hm hv q hnn hdbg
        refine test (LM.here ?_)
        cases b with
        | true =>
          refine codeAny_handlers_suite_as ?_
          refine HandSPX.lands_againZ fl3 fun h4 fl4 up4 => ?_
          have J4 : Inv X pins σ' H' { s' with heap := h4 } := J.landed nb fl4.1 ((up.trans up3).trans up4) os ag
          obtain ⟨oe4, vs4, he4, hz4, hd4⟩ := fl4.there
          have S4 := J4.suite he4 hd4 na nL nF
          refine store_ok (X := X.suite a ((a, oe4) :: (X.pn ++ pins))) (v := .ref a) S4 hN hi hloc rfl (fun s5 S5 => ?_) (.inr hln)
          refine wpAny_mono ((hsu a oe4 cls d (X.pn ++ pins) hz4 ⟨_, hd4⟩).run [] s5 _ H' _ S5 (hyes rfl a na)) (fun f s6 hsp => ?_) (fun _ _ z => False.elim z)
          cases f with
          | next =>
            obtain ⟨σ6, H6, S6, q6⟩ := hsp
            refine gone_ok (X := X.suite a ((a, oe4) :: (X.pn ++ pins))) S6 hN hi hln fun s7 S7 => ?_
            obtain ⟨e7, n7, _, _, d7⟩ := S7.pin (a, oe4) (List.mem_append.mpr (.inl List.mem_cons_self))
            have J7 := S7.unsuite ok
            refine ⟨_, _, Inv_track J7 n7 n0 nL (fun y c e z => ?_) nP (exK_ok e7 hz4 hd4), q6⟩
            obtain ⟨v, o, ho, hd⟩ := J7.cell y c e
            rw [z] at ho
            have ho : s7.heap.get? a = some o := ho
            rw [e7] at ho
            have := Option.some.inj ho
            subst this
            exact d7 _ hd
          | brk =>
            obtain ⟨_, _, _, q6⟩ := hsp
            exact q6.elim
          | cont =>
            obtain ⟨_, _, _, q6⟩ := hsp
            exact q6.elim
          | ret u =>
            obtain ⟨_, _, _, _, _, q6⟩ := hsp
            exact q6.elim
        | false =>
          show wpAny _ X.A (handleBy (.ref a) X.env hds2) _ _ _
          exact ih (hno rfl)
    exact go hh w
  · cases f with
    | next => obtain ⟨σ6, H6, S6, q6⟩ := hsp; exact wpAny_execs_nil ⟨σ6, H6, S6.ofTry ok, q6⟩
    | brk => obtain ⟨σ6, H6, S6, q6⟩ := hsp; exact ⟨σ6, H6, S6.ofTry ok, q6⟩
    | cont => obtain ⟨σ6, H6, S6, q6⟩ := hsp; exact ⟨σ6, H6, S6.ofTry ok, q6⟩
    | ret u => obtain ⟨v6, σ6, H6, S6, r6, q6⟩ := hsp; exact ⟨v6, σ6, H6, S6.ofTry ok, r6, q6⟩
end
end Sy
namespace Sy
open PySem L2
def tTryM (K : PySem.W.Frag) (i : Nat) (l : List (Value × (Addr → Value → Option Addr → TS))) (tb : WX → TS) : TS := fun D σ H => tb (wKeepM K i (fun _ _ _ _ => False) D l) D σ H
/-- raise C(..), C with an own __init__ -/
def tRaiseO (E : XK) (C : Addr) (sp : Sp) (ta : TA) : TS := fun _ σ H => tMkO C sp [] ta σ H E
end Sy
namespace Sy
open PySem PySem.Spec PyProof.Rows L2
/-- a tuple made in a clause: it is not the exception -/
def tTupN (a : Addr) (t : TA) : TE := fun σ H Q => t σ H fun xs H1 => xs.length ≤ sizeLine ∧ ∀ p, H1 p = none → p ≠ a → Q (.ref p) (upd H1 p (.tup xs))
theorem pe_tupN {X : Cx} {a : Addr} {oe : Obj} {pn : List (Addr × Obj)} {es : List Expr} {t : TA} {pos : Pos} {x1} (h : PA (X.suite a ((a, oe) :: pn)) es t) : PE (X.suite a ((a, oe) :: pn)) (.Tuple es x1 pos) (tTupN a t) := by
  refine ⟨fun pins s σ H Q I hq => ?_⟩
  refine wpAny_Tuple_spliced (thn (h.run pos pins s σ H _ I hq) fun us s1 ⟨xs, H1, I1, r, z, q⟩ => ⟨by rw [← r.length]; exact z, ?_⟩)
  have hf : H1 s1.heap.objs.size = none := I1.hok.fresh (Nat.le_refl _)
  have ne : s1.heap.objs.size ≠ a := fun e => by
    obtain ⟨ha, _⟩ := I1.pin (a, oe) (List.mem_append_left _ List.mem_cons_self)
    have ha : s1.heap.get? a = some oe := ha
    rw [← e] at ha
    rw [Heap.get?_none_of_le (Nat.le_refl _)] at ha
    cases ha
  refine ⟨.ref s1.heap.objs.size, upd H1 s1.heap.objs.size (.tup xs), I1.laid (t' := s1.toks) (fun b u e => Heap.get?_push_of_some _ e) (Nat.le_refl _) ?_, rfl, q _ hf ne⟩
  exact ⟨z, us, r, ⟨_, Heap.get?_push_size _ rfl, rfl, _, rfl⟩⟩
end Sy
namespace Sy
open PySem PySem.Spec PyProof.Rows L2
theorem hu65 {A : Around} {k : Nat} (hr : Room k A) : A.units + 65 < cLine := Nat.lt_of_le_of_lt (by omega : A.units + 65 ≤ A.units + 16 * k + 200) hr.un
end Sy
/-! == and != of lists and tuples whose items are the same: flat ones alike, or the same object (a dict, too). -/
namespace Sy
open PySem PySem.Spec PyProof.Rows L2
inductive Sm (K : PySem.W.Frag) (H : Hp) : Nat → V → V → Prop
  | non {n : Nat} : Sm K H n .non .non
  | bl {n : Nat} (b : Bool) : Sm K H n (.bl b) (.bl b)
  | int {n : Nat} (i : Int) : Sm K H n (.int i) (.int i)
  | str {n : Nat} (s : Str) : Sm K H n (.str s) (.str s)
  | ref {n : Nat} (a : Addr) : Sm K H n (.ref a) (.ref a)
  | tup {n : Nat} {a b : Addr} {xs ys : List V} : SqT K H a xs → SqT K H b ys → xs.length = ys.length → (∀ (j : Nat) (x y : V), xs[j]? = some x → ys[j]? = some y → Sm K H n x y) → Sm K H (n + 1) (.ref a) (.ref b)
theorem all_true (n : Nat) : (List.range n).all (fun _ => true) = true := by rw [List.all_eq_true]; intros; rfl
section
variable {X : Cx} {pins : List (Addr × Obj)} {σ : L2.St} {H : Hp} {s : Shared}
theorem vals_at {xs : List V} {its : List Value} (r : Vals xs its) {j : Nat} (h : j < its.toArray.size) : ∃ x, xs[j]? = some x ∧ RelV x its.toArray[j] := by
  have hl : j < xs.length := by rw [r.length]; simpa using h
  obtain ⟨u, e1, e2⟩ := Vals.get r (List.getElem?_eq_getElem hl)
  refine ⟨_, List.getElem?_eq_getElem hl, ?_⟩
  have hj : j < its.length := by simpa using h
  rw [List.getElem?_eq_getElem hj] at e1
  have e3 : its.toArray[j] = its[j] := by simp
  rw [e3, Option.some.inj e1]
  exact e2
theorem sm_flat {A : Around} {x : V} {v u : Value} (f : flatV x = true) (e : eqV x x = true) (r1 : RelV x v) (r2 : RelV x u) : SeqAt.EqAt A s v u true := by
  have h := mem_eqAt (A := A) (s := s) r2 f (xs := [x]) (us := [v]) (.cons r1 .nil) (by simp [f]) v List.mem_cons_self
  rw [eqU_of r1 f, e] at h
  exact h
theorem sm_eq (I : Inv X pins σ H s) : ∀ (n : Nat) (A : Around) (x y : V) (v u : Value), Sm X.K H n x y → RelV x v → RelV y u → A.units + n < cLine → SeqAt.EqAt A s v u true := by
  intro n
  induction n with
  | zero =>
    intro A x y v u h r1 r2 hu
    cases h with
    | non => exact sm_flat rfl rfl r1 r2
    | bl b => exact sm_flat rfl (by simp [eqV]) r1 r2
    | int i => exact sm_flat rfl (by simp [eqV]) r1 r2
    | str z => exact sm_flat rfl (by simp [eqV]) r1 r2
    | ref a => cases r1; cases r2; exact SeqAt.EqAt.same _
  | succ n ih =>
    intro A x y v u h r1 r2 hu
    cases h with
    | non => exact sm_flat rfl rfl r1 r2
    | bl b => exact sm_flat rfl (by simp [eqV]) r1 r2
    | int i => exact sm_flat rfl (by simp [eqV]) r1 r2
    | str z => exact sm_flat rfl (by simp [eqV]) r1 r2
    | ref a => cases r1; cases r2; exact SeqAt.EqAt.same _
    | @tup _ a b xs ys h1 h2 hl hs =>
      cases r1; cases r2
      by_cases e : a = b
      · subst e; exact SeqAt.EqAt.same _
      obtain ⟨i1, q1, t1, _⟩ := I.tuple h1
      obtain ⟨i2, q2, t2, _⟩ := I.tuple h2
      have hsz : i1.toArray.size = i2.toArray.size := by simp only [List.size_toArray]; rw [← q1.length, ← q2.length]; exact hl
      have R := SeqAt.RcAt.tuples (A := A) (e := fun _ => true) t1 t2 (by omega) (fun j g1 g2 => by
        obtain ⟨x, ex, rx⟩ := vals_at q1 g1
        obtain ⟨y, ey, ry⟩ := vals_at q2 g2
        exact ih A.in1 x y _ _ (hs j x y ex ey) rx ry (by show A.units + 1 + n < cLine; omega))
      rw [all_true, hsz, beq_self_eq_true] at R
      exact SeqAt.EqAt.of_refs e R
end
/-- both lists, or both tuples, item by item the same -/
def SmTop (K : PySem.W.Frag) (H : Hp) (x y : V) : Prop := ∃ (a b : Addr) (xs ys : List V) (n : Nat), x = .ref a ∧ y = .ref b ∧ (SqT K H a xs ∧ SqT K H b ys ∨ SqL K H a xs ∧ SqL K H b ys) ∧ xs.length = ys.length ∧ (∀ (j : Nat) (x y : V), xs[j]? = some x → ys[j]? = some y → Sm K H n x y) ∧ n ≤ 50
def rNeSm (K : PySem.W.Frag) : R2 := fun x y H Q => SmTop K H x y ∧ Q (.bl false) H
def rEqSm (K : PySem.W.Frag) : R2 := fun x y H Q => SmTop K H x y ∧ Q (.bl true) H
theorem op_neSm {X : Cx} (hu : X.A.units + 64 < cLine) : OpR X (compareOp .NotEq) (rNeSm X.K) := by
  intro pins s σ H x y v u Q I rx ry h
  obtain ⟨⟨a, b, xs, ys, n, rfl, rfl, hq, hl, hs, hn⟩, q⟩ := h
  cases rx; cases ry
  rcases hq with ⟨h1, h2⟩ | ⟨h1, h2⟩
  · obtain ⟨i1, q1, t1, _⟩ := I.tuple h1
    obtain ⟨i2, q2, t2, _⟩ := I.tuple h2
    have hsz : i1.toArray.size = i2.toArray.size := by simp only [List.size_toArray]; rw [← q1.length, ← q2.length]; exact hl
    have R := SeqAt.RcNeAt.tuples (A := X.A) (e := fun _ => true) t1 t2 (by omega) (fun j g1 g2 => by
      obtain ⟨x, ex, rx⟩ := vals_at q1 g1
      obtain ⟨y, ey, ry⟩ := vals_at q2 g2
      exact sm_eq I n X.A.in1 x y _ _ (hs j x y ex ey) rx ry (by show X.A.units + 1 + n < cLine; omega))
    rw [all_true, hsz, beq_self_eq_true] at R
    exact R _ _ _ _ ⟨.bl false, H, I, rfl, q⟩
  · obtain ⟨i1, q1, ⟨o1, n1, e1, c1, d1, dd1⟩, _⟩ := I.list h1
    obtain ⟨i2, q2, ⟨o2, n2, e2, c2, d2, dd2⟩, _⟩ := I.list h2
    have hsz : i1.toArray.size = i2.toArray.size := by simp only [List.size_toArray]; rw [← q1.length, ← q2.length]; exact hl
    have R := SeqAt.RcNeAt.lists (A := X.A) (e := fun _ => true) ⟨o1, e1, c1, n1, dd1⟩ ⟨o2, e2, c2, n2, dd2⟩ hsz (by omega) (fun j g1 g2 => by
      obtain ⟨x, ex, rx⟩ := vals_at q1 g1
      obtain ⟨y, ey, ry⟩ := vals_at q2 g2
      exact sm_eq I n X.A.in1 x y _ _ (hs j x y ex ey) rx ry (by show X.A.units + 1 + n < cLine; omega))
    rw [all_true] at R
    exact R _ _ _ _ ⟨.bl false, H, I, rfl, q⟩
theorem op_eqSm {X : Cx} (hu : X.A.units + 64 < cLine) : OpR X (compareOp .Eq) (rEqSm X.K) := by
  intro pins s σ H x y v u Q I rx ry h
  obtain ⟨⟨a, b, xs, ys, n, rfl, rfl, hq, hl, hs, hn⟩, q⟩ := h
  cases rx; cases ry
  rcases hq with ⟨h1, h2⟩ | ⟨h1, h2⟩
  · obtain ⟨i1, q1, t1, _⟩ := I.tuple h1
    obtain ⟨i2, q2, t2, _⟩ := I.tuple h2
    have hsz : i1.toArray.size = i2.toArray.size := by simp only [List.size_toArray]; rw [← q1.length, ← q2.length]; exact hl
    have R := SeqAt.RcAt.tuples (A := X.A) (e := fun _ => true) t1 t2 (by omega) (fun j g1 g2 => by
      obtain ⟨x, ex, rx⟩ := vals_at q1 g1
      obtain ⟨y, ey, ry⟩ := vals_at q2 g2
      exact sm_eq I n X.A.in1 x y _ _ (hs j x y ex ey) rx ry (by show X.A.units + 1 + n < cLine; omega))
    rw [all_true, hsz, beq_self_eq_true] at R
    exact R _ _ _ _ ⟨.bl true, H, I, rfl, q⟩
  · obtain ⟨i1, q1, ⟨o1, n1, e1, c1, d1, dd1⟩, _⟩ := I.list h1
    obtain ⟨i2, q2, ⟨o2, n2, e2, c2, d2, dd2⟩, _⟩ := I.list h2
    have hsz : i1.toArray.size = i2.toArray.size := by simp only [List.size_toArray]; rw [← q1.length, ← q2.length]; exact hl
    have R := SeqAt.RcAt.lists (A := X.A) (e := fun _ => true) ⟨o1, e1, c1, n1, dd1⟩ ⟨o2, e2, c2, n2, dd2⟩ hsz (by omega) (fun j g1 g2 => by
      obtain ⟨x, ex, rx⟩ := vals_at q1 g1
      obtain ⟨y, ey, ry⟩ := vals_at q2 g2
      exact sm_eq I n X.A.in1 x y _ _ (hs j x y ex ey) rx ry (by show X.A.units + 1 + n < cLine; omega))
    rw [all_true] at R
    exact R _ _ _ _ ⟨.bl true, H, I, rfl, q⟩
end Sy
/-! C(e, ..) within a try; methods of several classes within a try. -/
namespace Sy
open PySem PySem.W PySem.Calls PySem.Spec PyProof.Rows L2
section
variable {X : Cx} {CX : CXT} {k : Nat} {f C : Addr} {fd : FuncData} {ps : List Str} {sp : Sp} {E : L2.St → XK} {x m : Str} {p pos apos : Pos} {e o : Expr} {es : List Expr} {ta : TE} {t : TA}
def tMakeS (C : Addr) (sp : Sp) (E : L2.St → XK) (t : TA) : TE := fun σ H Q => t σ H fun vs H1 => ∀ x dx, H1 x = none → H1 dx = none → dx ≠ x → sp (.ref x :: vs) (upd (upd H1 dx (.own x)) x (.ins C dx [])) (fun v H2 => v = .non ∧ Q (.ref x) H2) (E σ)
theorem run_makeS {pins : List (Addr × Obj)} {σ : L2.St} {H : Hp} {s : Shared} {Q : VK} {us : List Value} {vs : List V} {E : XK} (M : Mk X.K C f) (F : FnOk X.prog X.w X.K X.mg X.base CX k f fd ps sp) (hr : Room (k + 1) X.A) (hb : Binds X.K fd ps [])
    (hx : PassesAt CX X σ E) (I : Inv X pins σ H s) (r : Vals vs us)
    (h : ∀ x dx, H x = none → H dx = none → dx ≠ x → sp (.ref x :: vs) (upd (upd H dx (.own x)) x (.ins C dx [])) (fun v H2 => v = .non ∧ Q (.ref x) H2) E) :
    wpAny (model X.prog X.w) X.A (call (.ref C) us) (EP X pins σ Q) X.xe s := by
  have hq := h (s.heap.objs.size + 1) s.heap.objs.size (I.hok.fresh (Nat.le_succ _)) (I.hok.fresh (Nat.le_refl _)) (Nat.ne_of_lt (Nat.lt_succ_self _))
  have I2 := Inv.made (C := C) I
  have r2 : Vals (V.ref (s.heap.objs.size + 1) :: vs) (Value.ref (s.heap.objs.size + 1) :: us) := .cons rfl r
  have hl : (Value.ref (s.heap.objs.size + 1) :: us ++ []).length = ps.length := by
    have e := r2.length
    rw [F.len _ _ _ _ hq] at e
    simpa using e.symm
  have hb2 := hb
  refine wpAny_call (make_map (f := f) I.kIn M.makes M.init (beq_iff_eq.mp M.fn) (codeAny_mono (F.run _ X.stack _ _ ⟨Value.ref (s.heap.objs.size + 1) :: us, []⟩ (Value.ref (s.heap.objs.size + 1) :: us) _ _ E (hr.make C us [])
    (I2.env0.make C us []) (by
      have := hb _ (Value.ref (s.heap.objs.size + 1) :: us) I2.kIn hl
      simpa using this) r2 hq) fun r s' hq' => ?_))
  cases r with
  | error e => exact hx pins _ _ e s' I2 hq'
  | ok fl =>
    cases fl with
    | ret u =>
      obtain ⟨v, H', I3, rv, ev, q3⟩ := I2.after hq'
      subst ev
      exact ⟨rv, ⟨V.ref (s.heap.objs.size + 1), H', I3, rfl, q3⟩⟩
    | next => exact False.elim hq'
    | brk => exact False.elim hq'
    | cont => exact False.elim hq'
theorem pe_makeS (M : Mk X.K C f) (F : FnOk X.prog X.w X.K X.mg X.base CX k f fd ps sp) (hr : Room (k + 1) X.A) (hg : Gl X x) (hm : X.mg x = some (.ref C)) (hb : Binds X.K fd ps []) (hx : ∀ σ, PassesAt CX X σ (E σ))
    (ha : PA X (e :: es) t) (hdb : (x == ("__debug__" : Str)) = false := by decide) (he : starEach (e :: es) X.env = (false, eval e X.env) :: starEach es X.env := by rfl) (hpl : (backTo pos (starEach es X.env)).any (·.1) = false := by rfl) :
    PE X (.Call (.Name x p) (e :: es) [] pos) (tMakeS C sp E t) := by
  refine ⟨fun pins s σ H Q I h => ?_⟩
  refine wpAny_Call_Name_kw (ld_glob I hg hm ?_ hdb)
  refine PySem.W.callWith_K (h₀ := X.base) I.ok.mod.kin M.kp (thn (ha.run pos pins s σ H _ I h) fun us s1 ⟨vs, H1, I1, r, q⟩ => ⟨I1.kIn, ?_⟩) he hpl
  exact run_makeS M F hr hb (hx σ) I1 r q
end
end Sy
namespace Sy
open PySem L2
section
variable {K : PySem.W.Frag} {σ : St} {H : Hp} {L : List U} {Q : VK} {C : Addr} {sp : Sp} {Es : St → XK} {tr : TA}
def kMakeS (C : Addr) (sp : Sp) (E : XK) (vs : List V) (H1 : Hp) (Q : VK) : Prop := ∀ x dx, H1 x = none → H1 dx = none → dx ≠ x → sp (.ref x :: vs) (upd (upd H1 dx (.own x)) x (.ins C dx [])) (fun v H2 => v = .non ∧ Q (.ref x) H2) E
theorem x_makeS (q : tr σ H fun vs H1 => kMakeS C sp (Es σ) vs H1 Q) : tMakeS C sp Es tr σ H Q := q
theorem k_makeS {vs : List V} {E : XK} (hh : Has H L) (q : ∀ x dx H', Has H' ([(x, .ins C dx [])] :: L) → sp (.ref x :: vs) H' (fun v H2 => v = .non ∧ Q (.ref x) H2) E) : kMakeS C sp E vs H Q :=
  fun x dx hx hd ne => q x dx _ ((hh.nw hd (o := .own x)).nw (p := x) (o := .ins C dx []) (by rw [upd_ne (Ne.symm ne)]; exact hx) |>.sub (Sub.p0 (Sub.skip Sub.rf)))
end
end Sy
local macro_rules | `(tactic| walk_at "hp") => `(tactic| first | assumption | exact Sy.Has.g0 (by assumption) | exact Sy.Has.g1 (by assumption) | exact Sy.Has.g2 (by assumption) | exact Sy.Has.g3 (by assumption) | exact Sy.Has.g4 (by assumption) | exact Sy.Has.g5 (by assumption) | exact Sy.Has.g6 (by assumption) | exact Sy.Has.g7 (by assumption) | exact Sy.Has.g8 (by assumption) | exact Sy.Has.g9 (by assumption) | exact Sy.Has.g10 (by assumption) | exact Sy.Has.g11 (by assumption) | exact Sy.Has.g12 (by assumption) | exact Sy.Has.g13 (by assumption) | exact Sy.Has.g14 (by assumption) | exact Sy.Has.g15 (by assumption))
local macro_rules | `(tactic| walk_at "hs") => `(tactic| first | exact Sy.Has.s0 (by assumption) | exact Sy.Has.s1 (by assumption) | exact Sy.Has.s2 (by assumption) | exact Sy.Has.s3 (by assumption) | exact Sy.Has.s4 (by assumption) | exact Sy.Has.s5 (by assumption) | exact Sy.Has.s6 (by assumption) | exact Sy.Has.s7 (by assumption) | exact Sy.Has.s8 (by assumption) | exact Sy.Has.s9 (by assumption) | exact Sy.Has.s10 (by assumption) | exact Sy.Has.s11 (by assumption) | exact Sy.Has.s12 (by assumption) | exact Sy.Has.s13 (by assumption) | exact Sy.Has.s14 (by assumption) | exact Sy.Has.s15 (by assumption))
local macro_rules | `(tactic| walk_at "sub1") => `(tactic| first | exact Sy.Sub.rf | apply Sy.Sub.p0 | apply Sy.Sub.p1 | apply Sy.Sub.p2 | apply Sy.Sub.p3 | apply Sy.Sub.p4 | apply Sy.Sub.p5 | apply Sy.Sub.p6 | apply Sy.Sub.p7 | apply Sy.Sub.p8 | apply Sy.Sub.p9 | apply Sy.Sub.p10 | apply Sy.Sub.p11 | apply Sy.Sub.p12 | apply Sy.Sub.p13 | apply Sy.Sub.p14 | apply Sy.Sub.p15 | apply Sy.Sub.skip)
local macro_rules | `(tactic| walk_at "sub") => `(tactic| repeat walk_at "sub1")
local macro_rules | `(tactic| walk_at "has") => `(tactic| (refine Sy.Has.sub (by assumption) ?_; repeat walk_at "sub1"))
local macro_rules | `(tactic| walk_at "sz") => `(tactic| first | (rw [PySem.sizeLine_eq]; first | decide | (simp; done) | (simp; omega) | omega) | omega)
local macro_rules | `(tactic| walk_at "cn") => `(tactic| first | assumption | omega | (unfold L2.CMul; omega) | (unfold L2.CDiv; omega) | (unfold L2.CPow; omega) | decide)
local macro_rules | `(tactic| walk_at "fl") => `(tactic| first | rfl | assumption)
local macro_rules | `(tactic| walk_at "ix") => `(tactic| first | assumption | rfl)
local macro_rules | `(tactic| walk_at "fsl") => `(tactic| first | assumption | decide | (simp; done))
local macro_rules | `(tactic| walk_at "put") => `(tactic| rfl)
local macro_rules | `(tactic| walk_at "st1") => `(tactic| first | with_reducible refine Sy.x_seq ?_ | with_reducible refine Sy.x_asg ?_ | with_reducible refine Sy.x_gname ?_ | with_reducible refine Sy.x_c ?_ | with_reducible refine Sy.x_op ?_ | with_reducible refine Sy.x_un ?_ | with_reducible refine Sy.x_test ?_ | with_reducible refine Sy.x_tB ?_ | with_reducible refine Sy.k_b ?_ | with_reducible refine Sy.x_if ?_ | with_reducible refine Sy.x_and ?_ | with_reducible refine Sy.x_or ?_ | with_reducible refine Sy.x_not ?_ | with_reducible refine Sy.x_andV ?_ | with_reducible refine Sy.x_orV ?_ | with_reducible refine Sy.x_notV ?_ | with_reducible refine Sy.k_andV ?_ | with_reducible refine Sy.k_orV ?_ | with_reducible refine Sy.k_notVt ?_ | with_reducible refine Sy.k_notVf ?_ | with_reducible refine Sy.k_notV ?_ | with_reducible refine Sy.ifNT ?_ | with_reducible refine Sy.ifNF ?_ | with_reducible refine Sy.x_ifE ?_ | with_reducible refine Sy.x_chain ?_ | with_reducible refine Sy.k_chain ?_ | with_reducible refine Sy.x_ret ?_ | with_reducible refine Sy.x_retN ?_ | with_reducible refine Sy.x_drop ?_ | with_reducible refine Sy.x_next ?_ | with_reducible refine Sy.x_brk ?_ | with_reducible refine Sy.x_ct ?_ | with_reducible refine Sy.x_cons ?_ | with_reducible refine Sy.x_nil ?_ | with_reducible refine Sy.x_call0 ?_ | with_reducible refine Sy.x_call ?_ | with_reducible refine Sy.x_meth ?_ | with_reducible refine Sy.x_cb ?_ | with_reducible refine Sy.x_fld ?_ | with_reducible refine Sy.x_sfld ?_ | with_reducible refine Sy.x_lst ?_ | with_reducible refine Sy.x_tup ?_ | with_reducible refine Sy.x_bm ?_ | with_reducible refine Sy.x_bm0 ?_ | with_reducible refine Sy.k_addI ?_ | with_reducible refine Sy.k_subI ?_ | with_reducible refine Sy.k_ltI ?_ | with_reducible refine Sy.k_leI ?_ | with_reducible refine Sy.k_gtI ?_ | with_reducible refine Sy.k_geI ?_ | with_reducible refine Sy.k_eqI ?_ | with_reducible refine Sy.k_neI ?_ | with_reducible refine Sy.k_eqB ?_ | with_reducible refine Sy.k_neB ?_ | with_reducible refine Sy.k_eqS ?_ | with_reducible refine Sy.k_neS ?_ | with_reducible refine Sy.k_isNo0 ?_ | with_reducible refine Sy.k_isNoI ?_ | with_reducible refine Sy.k_isNoR ?_ | with_reducible refine Sy.k_notNo0 ?_ | with_reducible refine Sy.k_notNoI ?_ | with_reducible refine Sy.k_notNoR ?_ | with_reducible refine Sy.k_eqIN ?_ | with_reducible refine Sy.k_eqNI ?_ | with_reducible refine Sy.k_eqNN ?_ | with_reducible refine Sy.k_neIN ?_ | with_reducible refine Sy.k_neNI ?_ | with_reducible refine Sy.k_neNN ?_ | with_reducible refine Sy.ifT ?_ | with_reducible refine Sy.ifF ?_ | with_reducible refine Sy.x_gcons ?_ | with_reducible refine Sy.x_gnil ?_ | with_reducible refine Sy.x_gsub ?_ | with_reducible refine Sy.x_rg1 ?_ | with_reducible refine Sy.k_rg1 ?_ | with_reducible refine Sy.x_lstRg ?_ | with_reducible refine Sy.x_make ?_ | with_reducible refine Sy.x_dget ?_ | with_reducible refine Sy.x_din ?_ | with_reducible refine Sy.x_dnot ?_ | with_reducible refine Sy.x_dput ?_ | with_reducible refine Sy.x_dpop1 ?_ | with_reducible refine Sy.x_dget2 ?_ | with_reducible refine Sy.x_dget1 ?_ | with_reducible refine Sy.x_forR ?_ | with_reducible refine Sy.x_forL ?_ | with_reducible refine Sy.x_lcL ?_ | with_reducible refine Sy.x_lcR ?_ | with_reducible refine Sy.x_yes ?_ | with_reducible refine Sy.k_isiII ?_ | with_reducible refine Sy.k_isiIB ?_ | with_reducible refine Sy.k_isiBI ?_ | with_reducible refine Sy.k_isiBB ?_ | with_reducible refine Sy.x_par ?_ | with_reducible refine Sy.k_par ?_ | with_reducible refine Sy.k_neDNN ?_ | with_reducible refine Sy.k_eqDNN ?_ | with_reducible refine Sy.x_cfn ?_ | with_reducible refine Sy.k_cfn0 ?_ | with_reducible refine Sy.x_dpopT ?_ | with_reducible refine Sy.x_makeN ?_ | with_reducible refine Sy.x_par3 ?_ | with_reducible refine Sy.k_par3 ?_ | with_reducible refine Sy.k_isB ?_ | with_reducible refine Sy.k_notB ?_ | with_reducible refine Sy.x_listVals ?_ | with_reducible refine Sy.x_revL ?_ | with_reducible refine Sy.x_raise ?_ | with_reducible refine Sy.x_tryK ?_ | with_reducible refine Sy.x_callS ?_ | with_reducible refine Sy.x_methS ?_ | with_reducible refine Sy.x_sset (fun _ => ?_))
local macro_rules | `(tactic| walk_at "st2") => `(tactic| first | ((with_reducible refine' Sy.x_var ?h ?q); (case h => rfl)) | ((with_reducible refine' Sy.k_fld ?hp ?hc ?hn ?hl ?q); (case hp => walk_at "hp"); (case hc => assumption); (case hn => assumption); (case hl => walk_at "fl")) | ((with_reducible refine' Sy.k_meth0 ?hp ?hl ?q); (case hp => walk_at "hp"); (case hl => walk_at "fl")) | ((with_reducible refine' Sy.k_meth ?hp ?hl ?q); (case hp => walk_at "hp"); (case hl => walk_at "fl")) | ((with_reducible refine' Sy.k_ixL ?hp ?hi ?q); (case hp => walk_at "hp"); (case hi => walk_at "ix")) | ((with_reducible refine' Sy.k_ixT ?hp ?hi ?q); (case hp => walk_at "hp"); (case hi => walk_at "ix")) | ((with_reducible refine' Sy.k_tyL ?hp ?q); (case hp => walk_at "hp")) | ((with_reducible refine' Sy.k_lenL ?hp ?q); (case hp => walk_at "hp")) | ((with_reducible refine' Sy.k_lenT ?hp ?q); (case hp => walk_at "hp")) | ((with_reducible refine' Sy.k_lenK ?hp ?q); (case hp => walk_at "hp")) | ((with_reducible refine' Sy.k_isiLL ?hp ?q); (case hp => walk_at "hp")) | ((with_reducible refine' Sy.k_isiTT ?hp ?q); (case hp => walk_at "hp")) | ((with_reducible refine' Sy.k_all ?hp ?q); (case hp => walk_at "hp")) | ((with_reducible refine' Sy.k_sum ?hp ?q); (case hp => walk_at "hp")) | ((with_reducible refine' Sy.k_isD ?hp ?q); (case hp => walk_at "hp")) | ((with_reducible refine' Sy.k_isDT ?hp ?q); (case hp => walk_at "hp")) | ((with_reducible refine' Sy.k_din ?hp ?q); (case hp => walk_at "hp")) | ((with_reducible refine' Sy.k_dnot ?hp ?q); (case hp => walk_at "hp")) | ((with_reducible refine' Sy.k_dget2 ?hp ?q); (case hp => walk_at "hp")) | ((with_reducible refine' Sy.k_dget1 ?hp ?q); (case hp => walk_at "hp")) | ((with_reducible refine' Sy.k_dinP ?hp ?hb ?q); (case hp => walk_at "hp"); (case hb => walk_at "hp")) | ((with_reducible refine' Sy.k_dnotP ?hp ?hb ?q); (case hp => walk_at "hp"); (case hb => walk_at "hp")) | ((with_reducible refine' Sy.k_dget2P ?hp ?hb ?q); (case hp => walk_at "hp"); (case hb => walk_at "hp")) | ((with_reducible refine' Sy.k_dget ?hp ?hv ?q); (case hp => walk_at "hp"); (case hv => walk_at "ix")) | ((with_reducible refine' Sy.k_dgetF ?hp ?hv ?q); (case hp => walk_at "hp"); (case hv => walk_at "ix")) | ((with_reducible refine' Sy.k_dgetP ?hp ?hb ?hv ?q); (case hp => walk_at "hp"); (case hb => walk_at "hp"); (case hv => walk_at "ix")) | ((with_reducible refine' Sy.k_mulI ?h ?q); (case h => walk_at "cn")) | ((with_reducible refine' Sy.k_divI ?h ?q); (case h => walk_at "cn")) | ((with_reducible refine' Sy.k_modI ?h ?q); (case h => walk_at "cn")) | ((with_reducible refine' Sy.k_powI ?h ?q); (case h => walk_at "cn")) | ((with_reducible refine' Sy.x_gtup ?hp ?hl ?q); (case hp => walk_at "hp"); (case hl => rfl)) | ((with_reducible refine' Sy.k_inIt ?hp ?q); (case hp => walk_at "hp")) | ((with_reducible refine' Sy.k_inIf ?hp ?q); (case hp => walk_at "hp")) | ((with_reducible refine' Sy.k_eqLN ?hp ?hq ?q); (case hp => walk_at "hp"); (case hq => walk_at "hp")) | ((with_reducible refine' Sy.k_neLN ?hp ?hq ?q); (case hp => walk_at "hp"); (case hq => walk_at "hp")) | ((with_reducible refine' Sy.k_eqLI ?hp ?hq ?q); (case hp => walk_at "hp"); (case hq => walk_at "hp")) | ((with_reducible refine' Sy.k_neLI ?hp ?hq ?q); (case hp => walk_at "hp"); (case hq => walk_at "hp")) | ((with_reducible refine' Sy.k_cnt ?hp ?q); (case hp => walk_at "hp")) | ((with_reducible refine' Sy.k_lenO ?hp ?q); (case hp => walk_at "hp")) | ((with_reducible refine' Sy.k_methS ?hp ?hl ?q); (case hp => walk_at "hp"); (case hl => walk_at "fl")) | ((with_reducible refine' Sy.k_isKR ?hp ?hC ?hk ?q); (case hp => walk_at "hp"); (case hC => assumption); (case hk => assumption)) | ((with_reducible refine' Sy.k_isKT ?hp ?hC ?hk ?q); (case hp => walk_at "hp"); (case hC => assumption); (case hk => assumption)) | ((with_reducible refine' Sy.x_glst ?hp ?hl ?q); (case hp => walk_at "hp"); (case hl => rfl)) | ((with_reducible refine' Sy.k_dgetFP ?hp ?hb ?hv ?q); (case hp => walk_at "hp"); (case hb => walk_at "hp"); (case hv => walk_at "ix")))
local macro_rules | `(tactic| walk_at "st3") => `(tactic| first | ((with_reducible refine' Sy.k_rem ?hp ?hk ?hh ?q); (case hp => walk_at "hp"); (case hk => assumption); (case hh => walk_at "hs"); intro _ _) | ((with_reducible refine' Sy.k_dpopT ?hp ?hb ?hv ?hh ?q); (case hp => walk_at "hp"); (case hb => walk_at "hp"); (case hv => walk_at "ix"); (case hh => walk_at "hs"); intro _ _) | ((with_reducible refine' Sy.k_sset ?hh ?hp ?hl ?q); (case hh => assumption); (case hp => walk_at "hp"); (case hl => first | assumption | omega | walk_at "sz"); intro _ _ _ _ _ _) | ((with_reducible refine' Sy.k_lst ?hh ?hl ?q); (case hh => assumption); (case hl => walk_at "sz"); intro _ _ _) | ((with_reducible refine' Sy.k_make0 ?hh ?q); (case hh => assumption); intro _ _ _ _) | ((with_reducible refine' Sy.k_listVals ?hh ?hp ?q); (case hh => assumption); (case hp => walk_at "hp"); intro _ _ _) | ((with_reducible refine' Sy.x_disp1 ?hh ?q); (case hh => assumption); intro _ _ _) | ((with_reducible refine' Sy.k_disp ?hp ?hh ?q); (case hp => walk_at "hp"); (case hh => walk_at "hs"); intro _ _) | ((with_reducible refine' Sy.k_revL ?hh ?hp ?q); (case hh => assumption); (case hp => walk_at "hp"); intro _ _ _) | ((with_reducible refine' Sy.k_setD ?hp ?hl ?hh ?q); (case hp => walk_at "hp"); (case hl => walk_at "sz"); (case hh => walk_at "hs"); intro _ _) | ((with_reducible refine' Sy.k_make ?hh ?q); (case hh => assumption); intro _ _ _ _) | ((with_reducible refine' Sy.k_makeN ?hh ?hn ?hm ?q); (case hh => assumption); (case hn => rfl); (case hm => rfl); intro _ _ _ _) | ((with_reducible refine' Sy.k_tupN ?hh ?hl ?q); (case hh => assumption); (case hl => walk_at "sz"); intro _ _ _) | ((with_reducible refine' Sy.k_setL ?hp ?hk ?hh ?q); (case hp => walk_at "hp"); (case hk => walk_at "ix"); (case hh => walk_at "hs"); intro _ _) | ((with_reducible refine' Sy.k_app ?hp ?hl ?hh ?q); (case hp => walk_at "hp"); (case hl => walk_at "sz"); (case hh => walk_at "hs"); intro _ _) | ((with_reducible refine' Sy.k_add ?hp ?hl ?hh ?q); (case hp => walk_at "hp"); (case hl => walk_at "sz"); (case hh => walk_at "hs"); intro _ _) | ((with_reducible refine' Sy.k_pop ?hp ?hl ?hh ?q); (case hp => walk_at "hp"); (case hl => walk_at "ix"); (case hh => walk_at "hs"); intro _ _) | ((with_reducible refine' Sy.k_sfld ?hp ?hc ?hn ?hl ?he ?hh ?q); (case hp => walk_at "hp"); (case hc => assumption); (case hn => assumption); (case hl => walk_at "fsl"); (case he => walk_at "put"); (case hh => walk_at "hs"); intro _ _) | ((with_reducible refine' Sy.k_cat ?hh ?hp ?hq ?hl ?q); (case hh => assumption); (case hp => walk_at "hp"); (case hq => walk_at "hp"); (case hl => walk_at "sz"); intro _ _ _) | ((with_reducible refine' Sy.k_rep ?hh ?hp ?h0 ?h1 ?q); (case hh => assumption); (case hp => walk_at "hp"); (case h0 => omega); (case h1 => omega); intro _ _ _) | ((with_reducible refine' Sy.k_lstRg ?hh ?h0 ?h1 ?q); (case hh => assumption); (case h0 => omega); (case h1 => omega); intro _ _ _) | ((with_reducible refine' Sy.x_dnewK ?hh ?q); (case hh => assumption); intro _ _ _) | ((with_reducible refine' Sy.x_dnewT ?hh ?q); (case hh => assumption); intro _ _ _) | ((with_reducible refine' Sy.k_dput ?hp ?hl ?hh ?q); (case hp => walk_at "hp"); (case hl => walk_at "sz"); (case hh => walk_at "hs"); intro _ _) | ((with_reducible refine' Sy.k_dputP ?hp ?hb ?hl ?hh ?q); (case hp => walk_at "hp"); (case hb => walk_at "hp"); (case hl => walk_at "sz"); (case hh => walk_at "hs"); intro _ _) | ((with_reducible refine' Sy.k_dpop1 ?hp ?hv ?hh ?q); (case hp => walk_at "hp"); (case hv => walk_at "ix"); (case hh => walk_at "hs"); intro _ _) | ((with_reducible refine' Sy.k_listOf ?hh ?hp ?q); (case hh => assumption); (case hp => walk_at "hp"); intro _ _ _) | ((with_reducible refine' Sy.k_sortI ?hh ?hp ?q); (case hh => assumption); (case hp => walk_at "hp"); intro _ _ _ _ _ _) | ((with_reducible refine' Sy.k_sortD ?hh ?hp ?hl ?q); (case hh => assumption); (case hp => walk_at "hp"); (case hl => first | assumption | omega | walk_at "sz"); intro _ _ _ _ _ _))
local macro_rules | `(tactic| walk_at "go1") => `(tactic| first | walk_at "st1" | walk_at "st2" | walk_at "st3")
local macro_rules | `(tactic| walk_at "go") => `(tactic| repeat walk_at "go1")
namespace La
open PySem L2 Sy
def t_is_whole (K : PySem.W.Frag) : TS :=
  tRet (tAndV (tCB (rIsi K) (tCons (tVar 0) (tCons (tC (.ty "int")) (tNil)))) (tAndV (tNotV (tCB (rIsi K) (tCons (tVar 0) (tCons (tC (.ty "bool")) (tNil))))) (tChain rLeI rLeI (tVar 1) (tVar 0) (tVar 2))))
def t_look_number (K : PySem.W.Frag) (sp_is_whole : Sp) : TS :=
  tIfS (tNot (tB (tCall sp_is_whole [] E0 (tCons (tVar 0) (tCons (tVar 1) (tCons (tVar 2) (tNil))))))) (tNever) (tNext)
def t_Store_init (K : PySem.W.Frag) (sp_look_number : Sp) : TS :=
  tSeq (tDrop (tCall sp_look_number [] E0 (tCons (tVar 1) (tCons (tC (.int 1)) (tCons (tC (.int 6)) (tNil))))))
    (tSeq (tDrop (tCall sp_look_number [] E0 (tCons (tVar 2) (tCons (tC (.int 1)) (tCons (tC (.int 5)) (tNil))))))
    (tSeq (sFld K (tVar 0) (tVar 1) "hands")
    (tSeq (sFld K (tVar 0) (tCB (rDictP K) (tCons (tLc (iRng1 (tCons (tVar 2) (tNil))) (gName 3) tYes (tTup (tCons (tVar 3) (tCons (tC (.int 0)) (tNil)))) [3]) (tNil))) "worth")
    (tSeq (sFld K (tVar 0) (tLstRg (tRg1 (tVar 2))) "cells")
    (sFld K (tVar 0) (tVar 2) "made")))))
def t_Store_look_cell (K : PySem.W.Frag) (sp_is_whole : Sp) : TS :=
  tIfS (tNot (tB (tCall sp_is_whole [] E0 (tCons (tVar 1) (tCons (tC (.int 0)) (tCons (tOp rSubI (tCB (rLenQ K) (tCons (tFld K (tVar 0) "cells") (tNil))) (tC (.int 1))) (tNil))))))) (tNever) (tNext)
def t_Store_after_swap (K : PySem.W.Frag) : TS :=
  tRet (tC .non)
def t_Store_swap (K : PySem.W.Frag) (C_Store : Addr) (sp_Store__Store_look_cell sp_look_number sp_Store__Store_after_swap : Sp) : TS :=
  tSeq (tDrop (tMeth C_Store "look_cell" sp_Store__Store_look_cell [] E0 (tVar 0) (tCons (tVar 1) (tNil))))
    (tSeq (tDrop (tCall sp_look_number [] E0 (tCons (tVar 2) (tCons (tC (.int 0)) (tCons (tC (.int 999)) (tNil))))))
    (tSeq (tAsg (tOp (rIxL K) (tFld K (tVar 0) "cells") (tVar 1)) (gName 3))
    (tSeq (sDPut (tFld K (tVar 0) "worth") (tFld K (tVar 0) "made") (tVar 2))
    (tSeq (tAsg (tFld K (tVar 0) "made") (gSub (tFld K (tVar 0) "cells") (tVar 1) rSetL))
    (tSeq (sFld K (tVar 0) (tOp rAddI (tFld K (tVar 0) "made") (tC (.int 1))) "made")
    (tSeq (tDrop (tMeth C_Store "after_swap" sp_Store__Store_after_swap [] E0 (tVar 0) (tCons (tVar 3) (tNil))))
    (tRet (tVar 3))))))))
def t_Store_now (K : PySem.W.Frag) : TS :=
  tRet (tLc (iList K (tFld K (tVar 0) "cells")) (gName 1) tYes (tDGet (tFld K (tVar 0) "worth") (tVar 1)) [1])
def t_Store_kept (K : PySem.W.Frag) : TS :=
  tRet (tCB rSortD (tCons (tFld K (tVar 0) "worth") (tNil)))
def t__law_town (K : PySem.W.Frag) : TS :=
  tRet (tLst (tCons (tIf (tTest (tOp (rNeD K) (tVar 0) (tLst (tNil)))) (tCB (rListOf K) (tCons (tVar 0) (tNil))) (tLst (tCons (tC (.int 0)) (tNil)))) (tCons (tC (.int 0)) (tNil))))
def t__law_draw (K : PySem.W.Frag) : TS :=
  tSeq (tAsg (tOp (rIxL K) (tVar 0) (tC (.int 0))) (gName 2))
    (tSeq (tAsg (tOp rAddI (tOp (rIxL K) (tVar 0) (tC (.int 1))) (tC (.int 1))) (gSub (tVar 0) (tC (.int 1)) rSetL))
    (tSeq (tAsg (tOp rModI (tOp (rIxL K) (tVar 0) (tC (.int 1))) (tCB (rLenQ K) (tCons (tVar 2) (tNil)))) (gName 3))
    (tSeq (tAsg (tOp (rIxL K) (tVar 2) (tVar 3)) (gName 4))
    (tSeq (tIfS (tTest (tOp rGeI (tVar 4) (tC (.int 1000000000000000000)))) (tSeq (tAsg (tOp rDivI (tVar 4) (tVar 1)) (gSub (tVar 2) (tVar 3) rSetL))
    (tRet (tOp rModI (tVar 4) (tVar 1)))) (tNext))
    (tSeq (tAsg (tOp rModI (tOp rAddI (tVar 4) (tOp rMulI (tC (.int 104729)) (tOp (rIxL K) (tVar 0) (tC (.int 1))))) (tC (.int 4294967291))) (gName 5))
    (tSeq (tAsg (tOp rModI (tOp rPowI (tVar 5) (tC (.int 5))) (tC (.int 4294967279))) (gName 5))
    (tRet (tOp rModI (tOp rDivI (tOp rModI (tOp rAddI (tOp rMulI (tOp rDivI (tVar 5) (tC (.int 64))) (tC (.int 69621))) (tVar 5)) (tC (.int 4294967231))) (tC (.int 8))) (tVar 1)))))))))
def t__law_pick (K : PySem.W.Frag) (sp__law_draw : Sp) : TS :=
  tRet (tOp (rIxL K) (tVar 1) (tCall sp__law_draw [] E0 (tCons (tVar 0) (tCons (tCB (rLenQ K) (tCons (tVar 1) (tNil))) (tNil)))))
def t__law_whole (K : PySem.W.Frag) : TS :=
  tRet (tAndV (tCB (rIsi K) (tCons (tVar 0) (tCons (tC (.ty "int")) (tNil)))) (tNotV (tCB (rIsi K) (tCons (tVar 0) (tCons (tC (.ty "bool")) (tNil))))))
def t__law_whole_list (K : PySem.W.Frag) (sp__law_whole : Sp) : TS :=
  tRet (tAndV (tCB (rIsi K) (tCons (tVar 0) (tCons (tC (.ty "list")) (tNil)))) (tCB (rAll K) (tCons (tLc (iList K (tVar 0)) (gName 1) tYes (tCall sp__law_whole [] E0 (tCons (tVar 1) (tNil))) [1]) (tNil))))
def t__law_value (K : PySem.W.Frag) (sp__law_pick sp__law_draw : Sp) : TS :=
  tRet (tCall sp__law_pick [] E0 (tCons (tVar 0) (tCons (tLst (tCons (tC (.int 0)) (tCons (tC (.int 999)) (tCons (tCall sp__law_draw [] E0 (tCons (tVar 0) (tCons (tC (.int 1000)) (tNil)))) (tCons (tCall sp__law_draw [] E0 (tCons (tVar 0) (tCons (tC (.int 5)) (tNil)))) (tNil)))))) (tNil))))
def t__law_things (K : PySem.W.Frag) : TS :=
  tRet (tLst (tCons (tLstRg (tRg1 (tVar 0))) (tCons (tOp rRep (tLst (tCons (tC (.int 0)) (tNil))) (tVar 0)) (tCons (tLstRg (tRg1 (tVar 0))) (tNil)))))
def t__law_swap (K : PySem.W.Frag) (C_Store : Addr) (sp__law_draw sp__law_value sp_Store__Store_swap : Sp) : TS :=
  tSeq (tAsg (tCall sp__law_draw [] E0 (tCons (tVar 0) (tCons (tCB (rLenQ K) (tCons (tOp (rIxL K) (tVar 2) (tC (.int 0))) (tNil))) (tNil)))) (gName 3))
    (tSeq (tAsg (tCall sp__law_value [] E0 (tCons (tVar 0) (tNil))) (gName 4))
    (tSeq (tAsg (tOp (rIxL K) (tOp (rIxL K) (tVar 2) (tC (.int 0))) (tVar 3)) (gName 5))
    (tSeq (tAsg (tCB (rLenQ K) (tCons (tOp (rIxL K) (tVar 2) (tC (.int 1))) (tNil))) (gSub (tOp (rIxL K) (tVar 2) (tC (.int 0))) (tVar 3) rSetL))
    (tSeq (tDrop (tBM K "list" rAppend (tOp (rIxL K) (tVar 2) (tC (.int 2))) (tCons (tCB (rLenQ K) (tCons (tOp (rIxL K) (tVar 2) (tC (.int 1))) (tNil))) (tNil))))
    (tSeq (tDrop (tBM K "list" rAppend (tOp (rIxL K) (tVar 2) (tC (.int 1))) (tCons (tVar 4) (tNil))))
    (tRet (tIf (tTest (tOp rEq (tMeth C_Store "swap" sp_Store__Store_swap [] E0 (tVar 1) (tCons (tVar 3) (tCons (tVar 4) (tNil)))) (tVar 5))) (tVar 5) (tC .non))))))))
def t__law_fits (K : PySem.W.Frag) (C_Store : Addr) (sp_Store__Store_now sp_Store__Store_kept sp__law_whole_list : Sp) : TS :=
  tSeq (tIfS (tTest (tOp (rNeD K) (tMeth C_Store "now" sp_Store__Store_now [] E0 (tVar 0) tNil) (tLc (iList K (tOp (rIxL K) (tVar 1) (tC (.int 0)))) (gName 2) tYes (tOp (rIxL K) (tOp (rIxL K) (tVar 1) (tC (.int 1))) (tVar 2)) [2]))) (tRet (tC (.bl false))) (tNext))
    (tRet (tAndV (tOp (rEqD K) (tMeth C_Store "kept" sp_Store__Store_kept [] E0 (tVar 0) tNil) (tCB (rSortedI K) (tCons (tOp (rIxL K) (tVar 1) (tC (.int 2))) (tNil)))) (tCall sp__law_whole_list [] E0 (tCons (tMeth C_Store "kept" sp_Store__Store_kept [] E0 (tVar 0) tNil) (tNil)))))
def t_Store_look_hand (K : PySem.W.Frag) (sp_is_whole : Sp) : TS :=
  tIfS (tNot (tB (tCall sp_is_whole [] E0 (tCons (tVar 1) (tCons (tC (.int 0)) (tCons (tOp rSubI (tFld K (tVar 0) "hands") (tC (.int 1))) (tNil))))))) (tNever) (tNext)
def t_Store_is_out (K : PySem.W.Frag) : TS :=
  tRet (tOp (rIn K true) (tVar 1) (tFld K (tVar 0) "cells"))
def t_Store_let_go (K : PySem.W.Frag) : TS :=
  tSeq (tFor (iList K (tVar 1)) (gName 2) (tDrop (tDPop1 (tFld K (tVar 0) "worth") (tVar 2))))
    (tRet (tCB (rSortedI K) (tCons (tVar 1) (tNil))))
def t_Store_value_of (K : PySem.W.Frag) : TS :=
  tSeq (tIfS (tB (tDNotIn (tVar 1) (tFld K (tVar 0) "worth"))) (tNever) (tNext))
    (tRet (tDGet (tFld K (tVar 0) "worth") (tVar 1)))
def t_Rounds_init (K : PySem.W.Frag) (C_Store : Addr) (sp_Rounds__Store_init : Sp) : TS :=
  tSeq (tDrop (tCFn C_Store sp_Rounds__Store_init [] E0 (tC (.ref C_Store)) (tCons (tVar 0) (tCons (tVar 1) (tCons (tVar 2) (tNil))))))
    (tSeq (sFld K (tVar 0) (tC (.int 0)) "era")
    (tSeq (sFld K (tVar 0) (tDNewK) "inside")
    (tSeq (sFld K (tVar 0) (tDNewK) "saw")
    (sFld K (tVar 0) (tDNewK) "waits"))))
def t_Rounds_look_in (K : PySem.W.Frag) (C_Rounds : Addr) (sp_Rounds__Store_look_hand : Sp) : TS :=
  tSeq (tDrop (tMeth C_Rounds "look_hand" sp_Rounds__Store_look_hand [] E0 (tVar 0) (tCons (tVar 1) (tNil))))
    (tIfS (tB (tDNotIn (tVar 1) (tFld K (tVar 0) "inside"))) (tNever) (tNext))
def t_Rounds_read (K : PySem.W.Frag) (C_Rounds : Addr) (sp_Rounds__Rounds_look_in sp_Rounds__Store_value_of : Sp) : TS :=
  tSeq (tDrop (tMeth C_Rounds "look_in" sp_Rounds__Rounds_look_in [] E0 (tVar 0) (tCons (tVar 1) (tNil))))
    (tSeq (tIfS (tOr (tB (tCB (rIsi K) (tCons (tVar 2) (tCons (tC (.ty "bool")) (tNil))))) (tTest (tOp (rIn K true) (tVar 2) (tDGet (tFld K (tVar 0) "saw") (tVar 1))))) (tNever) (tNext))
    (tRet (tMeth C_Rounds "value_of" sp_Rounds__Store_value_of [] E0 (tVar 0) (tCons (tVar 2) (tNil)))))
def t_Rounds_after_swap (K : PySem.W.Frag) : TS :=
  sDPut (tFld K (tVar 0) "waits") (tVar 1) (tFld K (tVar 0) "era")
def t_Rounds_enter (K : PySem.W.Frag) (C_Rounds : Addr) (sp_Rounds__Store_look_hand : Sp) : TS :=
  tSeq (tDrop (tMeth C_Rounds "look_hand" sp_Rounds__Store_look_hand [] E0 (tVar 0) (tCons (tVar 1) (tNil))))
    (tSeq (tIfS (tB (tDIn (tVar 1) (tFld K (tVar 0) "inside"))) (tNever) (tNext))
    (tSeq (sDPut (tFld K (tVar 0) "inside") (tVar 1) (tFld K (tVar 0) "era"))
    (tSeq (sDPut (tFld K (tVar 0) "saw") (tVar 1) (tLst (tNil)))
    (tRet (tFld K (tVar 0) "era")))))
def t_Rounds_leave (K : PySem.W.Frag) (C_Rounds : Addr) (sp_Rounds__Rounds_look_in : Sp) : TS :=
  tSeq (tDrop (tMeth C_Rounds "look_in" sp_Rounds__Rounds_look_in [] E0 (tVar 0) (tCons (tVar 1) (tNil))))
    (tSeq (tDrop (tDPop1 (tFld K (tVar 0) "inside") (tVar 1)))
    (tDrop (tDPop1 (tFld K (tVar 0) "saw") (tVar 1))))
def t_Rounds_look (K : PySem.W.Frag) (C_Rounds : Addr) (sp_Rounds__Rounds_look_in sp_Rounds__Store_look_cell : Sp) : TS :=
  tSeq (tDrop (tMeth C_Rounds "look_in" sp_Rounds__Rounds_look_in [] E0 (tVar 0) (tCons (tVar 1) (tNil))))
    (tSeq (tDrop (tMeth C_Rounds "look_cell" sp_Rounds__Store_look_cell [] E0 (tVar 0) (tCons (tVar 2) (tNil))))
    (tSeq (tDrop (tBM K "list" rAppend (tDGet (tFld K (tVar 0) "saw") (tVar 1)) (tCons (tOp (rIxL K) (tFld K (tVar 0) "cells") (tVar 2)) (tNil))))
    (tRet (tOp (rIxL K) (tFld K (tVar 0) "cells") (tVar 2)))))
def t_Rounds_go_on (K : PySem.W.Frag) (C_Rounds : Addr) (sp_Rounds__Store_let_go : Sp) : TS :=
  tSeq (tIfS (tNot (tB (tCB (rAll K) (tCons (tLockE (tLc (iKeys (tFld K (tVar 0) "inside")) (gName 1) tYes (tOp rEq (tDGet (tFld K (tVar 0) "inside") (tVar 1)) (tFld K (tVar 0) "era")) [1])) (tNil))))) (tRet (tC .non)) (tNext))
    (tSeq (sFld K (tVar 0) (tOp rAddI (tFld K (tVar 0) "era") (tC (.int 1))) "era")
    (tSeq (tLock (tAsg (tLc (iKeys (tFld K (tVar 0) "waits")) (gName 3) (tTest (tOp rLeI (tDGet (tFld K (tVar 0) "waits") (tVar 3)) (tOp rSubI (tFld K (tVar 0) "era") (tC (.int 2))))) (tVar 3) [3]) (gName 2)))
    (tSeq (tFor (iList K (tVar 2)) (gName 3) (tDrop (tDPop1 (tFld K (tVar 0) "waits") (tVar 3))))
    (tRet (tMeth C_Rounds "let_go" sp_Rounds__Store_let_go [] E0 (tVar 0) (tCons (tVar 2) (tNil)))))))
def t__law_read (K : PySem.W.Frag) (C_Rounds : Addr) (sp_Rounds__Rounds_read : Sp) : TS :=
  tSeq (tAsg (tC .non) (gName 3))
    (tSeq (tAsg (tC .non) (gName 4))
    (tSeq (tAsg (tMeth C_Rounds "read" sp_Rounds__Rounds_read [] E0 (tVar 0) (tCons (tVar 1) (tCons (tVar 2) (tNil)))) (gName 3))
    (tRet (tIf (tTest (tOp rIsNo (tVar 4) (tC .non))) (tVar 3) (tC .non)))))
def t_Rounds_round_now (K : PySem.W.Frag) : TS :=
  tRet (tFld K (tVar 0) "era")
def t_Rounds_hands_in (K : PySem.W.Frag) : TS :=
  tRet (tCB rSortD (tCons (tFld K (tVar 0) "inside") (tNil)))
def t__law_gone (K : PySem.W.Frag) : TS :=
  tAsg (tLc (iList K (tOp (rIxL K) (tVar 0) (tC (.int 2)))) (gName 2) (tTest (tOp (rIn K true) (tVar 2) (tVar 1))) (tVar 2) [2]) (gSub (tVar 0) (tC (.int 2)) rSetL)
def t__law_is (K : PySem.W.Frag) : TS :=
  tRet (tAndV (tCB (rIsi K) (tCons (tVar 0) (tCons (tC (.ty "bool")) (tNil)))) (tOp rEq (tVar 0) (tVar 1)))
end La
namespace La
open PySem L2 Sy
/-! ### numbers -/
def sp_is_whole : Sp := fun vs H Q _ => ∃ x lo hi : Int, vs = [.int x, .int lo, .int hi] ∧ Q (.bl (decide (lo ≤ x ∧ x ≤ hi))) H
theorem pure_is_whole {K : PySem.W.Frag} {vs : List V} {H : Hp} {Q : VK} {E : XK} (h : sp_is_whole vs H Q E) : t_is_whole K ⟨fun _ H' => Q .non H', Q, fun _ _ => False, fun _ _ => False⟩ (start ["thing", "low", "high"] vs) H := by
  obtain ⟨x, lo, hi, rfl, q⟩ := h
  unfold t_is_whole
  walk_at "go"
  refine ifD (fun h1 => ?_) (fun h1 => ?_)
  · walk_at "go"
    have e : decide (lo ≤ x ∧ x ≤ hi) = decide (x ≤ hi) := by simp [h1]
    rw [e] at q
    exact q
  · have e : decide (lo ≤ x ∧ x ≤ hi) = false := by simp [h1]
    rw [e] at q
    exact q
def sp_look_number : Sp := fun vs H Q _ => ∃ x lo hi : Int, vs = [.int x, .int lo, .int hi] ∧ lo ≤ x ∧ x ≤ hi ∧ Q .non H
theorem pure_look_number {K : PySem.W.Frag} {vs : List V} {H : Hp} {Q : VK} {E : XK} (h : sp_look_number vs H Q E) : t_look_number K sp_is_whole ⟨fun _ H' => Q .non H', Q, fun _ _ => False, fun _ _ => False⟩ (start ["thing", "low", "high"] vs) H := by
  obtain ⟨x, lo, hi, rfl, h1, h2, q⟩ := h
  unfold t_look_number
  walk_at "go"
  refine ⟨x, lo, hi, rfl, ?_⟩
  rw [decide_eq_true ⟨h1, h2⟩]
  walk_at "go"
  exact q
/-! ### the town: the script's numbers, and how many draws were made -/
structure Town where
  r : Addr
  ns : List Int
  n : Int
@[reducible] def townU (t : Addr) (s : Town) : U := [(t, .lst [.ref s.r, .int s.n]), (s.r, .lst (s.ns.map V.int))]
def Town.ok (s : Town) : Prop := 0 < s.ns.length ∧ s.ns.length ≤ 63
theorem at_ints {ns : List Int} {k : Int} (h0 : 0 ≤ k) (h1 : k < ns.length) : atI (ns.map V.int) k = some (.int (ns.getD k.toNat 0)) := by
  obtain ⟨j, rfl⟩ := Int.eq_ofNat_of_zero_le h0
  have hj : j < ns.length := by omega
  refine atI_nat ?_
  rw [List.getElem?_map]
  simp [hj]
theorem ix_ok {n : Nat} {k : Int} (h0 : 0 ≤ k) (h1 : k < n) : ixN n k = some k.toNat := by
  unfold ixN
  rw [if_pos h0, if_pos h1]
theorem map_set_int (ns : List Int) (k : Nat) (z : Int) : (ns.map V.int).set k (.int z) = (ns.set k z).map V.int := by rw [List.map_set]
def sp__law_draw : Sp := fun vs H Q _ => ∃ (t : Addr) (s : Town) (m : Int) (R : List U), vs = [.ref t, .int m] ∧ 0 < m ∧ m ≤ 100000 ∧ s.ok ∧ Has H (townU t s :: R) ∧
  ∀ (d : Int) (s' : Town) (H' : Hp), 0 ≤ d → d < m → s'.ok → Has H' (townU t s' :: R) → Q (.int d) H'
theorem pure__law_draw {K : PySem.W.Frag} {vs : List V} {H : Hp} {Q : VK} {E : XK} (h : sp__law_draw vs H Q E) : t__law_draw K ⟨fun _ H' => Q .non H', Q, fun _ _ => False, fun _ _ => False⟩ (start ["town", "many", "row", "at", "cell", "mixed"] vs) H := by
  obtain ⟨t, ⟨r, ns, n⟩, m, R, rfl, m0, m1, ⟨l0, l1⟩, hh, q⟩ := h
  replace hh := hh.cut
  have l0' : 0 < ns.length := l0
  have hl : ((ns.map V.int).length : Int) = ns.length := by rw [List.length_map]
  have k0 : 0 ≤ (n + 1) % ((ns.map V.int).length : Int) := Int.emod_nonneg _ (by omega)
  have k1 : (n + 1) % ((ns.map V.int).length : Int) < ns.length := by rw [hl]; exact Int.emod_lt_of_pos _ (by omega)
  have ea := at_ints k0 k1
  have ex : ixN (ns.map V.int).length ((n + 1) % ((ns.map V.int).length : Int)) = some ((n + 1) % ((ns.map V.int).length : Int)).toNat := ix_ok k0 (by omega)
  have lz : (0 : Int) < ((ns.map V.int).length : Int) := by omega
  unfold t__law_draw
  walk_at "go"
  refine ifD (fun hb => ?_) (fun hb => ?_)
  · walk_at "go"
    rename_i H1 h1 H2 h2
    rw [map_set_int] at h2
    exact q _ ⟨r, ns.set _ _, n + 1⟩ _ (Int.emod_nonneg _ (by omega)) (Int.emod_lt_of_pos _ m0) ⟨by show 0 < (ns.set _ _).length; rw [List.length_set]; exact l0, by show (ns.set _ _).length ≤ 63; rw [List.length_set]; exact l1⟩ h2.glue
  · walk_at "go"
    rename_i H1 h1
    exact q _ ⟨r, ns, n + 1⟩ _ (Int.emod_nonneg _ (by omega)) (Int.emod_lt_of_pos _ m0) ⟨l0, l1⟩ h1.glue
/-- a draw, as the caller uses it -/
theorem use_draw {H : Hp} {Q : VK} {E : XK} {L R : List U} {t : Addr} {s : Town} {m : Int} (hh : Has H L) (hs : Sub (townU t s :: R) L) (ok : s.ok) (m0 : 0 < m) (m1 : m ≤ 100000)
    (q : ∀ (d : Int) (s' : Town) (H' : Hp), 0 ≤ d → d < m → s'.ok → Has H' (townU t s' :: R) → Q (.int d) H') : sp__law_draw [.ref t, .int m] H Q E := ⟨t, s, m, R, rfl, m0, m1, ok, hh.sub hs, q⟩
/-! ### the script -/
/-- the script's list, as it stands in any heap that has the unit u -/
def Scr (K : PySem.W.Frag) (a : Addr) (xs : List V) (u : U) : Prop := ∀ H L, Has H (u :: L) → SqL K H a xs
theorem scr_of {K : PySem.W.Frag} {H : Hp} {a : Addr} {xs : List V} (h : SqL K H a xs) : ∃ u, Has H [u] ∧ Scr K a xs u := by
  rcases h with (h | ⟨o, h⟩) | h
  · exact ⟨[(a, .lst xs)], ⟨by simp, fun p hp => by simp at hp; subst hp; exact h⟩, fun H' L hh => .inl (.inl hh.g0)⟩
  · exact ⟨[(a, .frz o (.lst xs))], ⟨by simp, fun p hp => by simp at hp; subst hp; exact h⟩, fun H' L hh => .inl (.inr ⟨o, hh.g0⟩)⟩
  · exact ⟨[], Has.nilU.mpr Has.nil, fun H' L hh => .inr h⟩
def sp__law_town (K : PySem.W.Frag) : Sp := fun vs H Q _ => ∃ (a : Addr) (ns : List Int), vs = [.ref a] ∧ SqL K H a (ns.map V.int) ∧ ns.length ≤ 63 ∧
  ∀ (t : Addr) (s : Town) (H' : Hp), s.ok → Has H' [townU t s] → Q (.ref t) H'
theorem pure__law_town {K : PySem.W.Frag} {vs : List V} {H : Hp} {Q : VK} {E : XK} (h : sp__law_town K vs H Q E) : t__law_town K ⟨fun _ H' => Q .non H', Q, fun _ _ => False, fun _ _ => False⟩ (start ["script"] vs) H := by
  obtain ⟨a, ns, rfl, hs, hl, q⟩ := h
  obtain ⟨u, h0, hu⟩ := scr_of hs
  unfold t__law_town
  walk_at "go"
  rename_i p H1 h1
  have e := eqv_ints ns []
  refine ⟨_, _, .lst (hu H1 _ (by walk_at "has")) (dpAll_ints ns), .lst (SqL.of h1.g0) .nil, shaped_ints ns, by decide +kernel, ?_⟩
  have e : PyData.eqv (.list (ns.map PyData.int)) (.list []) = decide (ns = []) := e
  rw [e]
  walk_at "go"
  refine ifE (fun hn => ?_) (fun hn => ?_)
  · walk_at "go"
    refine k_listOfS h1 (hu H1 _ (by walk_at "has")) fun r H2 h2 => ?_
    walk_at "go"
    rename_i t H3 h3
    refine q t ⟨r, ns, 0⟩ H3 ⟨List.length_pos_iff.mpr hn, hl⟩ (Has.glue ?_)
    walk_at "has"
  · walk_at "go"
    rename_i r H2 h2 t H3 h3
    refine q t ⟨r, [0], 0⟩ H3 ⟨Nat.zero_lt_one, (by show 1 ≤ 63; decide)⟩ (Has.glue ?_)
    walk_at "has"
def sp__law_whole : Sp := fun vs H Q _ => ∃ x : Int, vs = [.int x] ∧ Q (.bl true) H
theorem pure__law_whole {K : PySem.W.Frag} {vs : List V} {H : Hp} {Q : VK} {E : XK} (h : sp__law_whole vs H Q E) : t__law_whole K ⟨fun _ H' => Q .non H', Q, fun _ _ => False, fun _ _ => False⟩ (start ["thing"] vs) H := by
  obtain ⟨x, rfl, q⟩ := h
  unfold t__law_whole
  walk_at "go"
  exact q
def sp__law_pick : Sp := fun vs H Q _ => ∃ (t p : Addr) (s : Town) (xs : List V) (R : List U), vs = [.ref t, .ref p] ∧ Has H (townU t s :: [(p, .lst xs)] :: R) ∧ 0 < xs.length ∧ xs.length ≤ 1000 ∧ s.ok ∧
  ∀ (d : Nat) (v : V) (s' : Town) (H' : Hp), xs[d]? = some v → s'.ok → Has H' (townU t s' :: [(p, .lst xs)] :: R) → Q v H'
theorem pure__law_pick {K : PySem.W.Frag} {vs : List V} {H : Hp} {Q : VK} {E : XK} (h : sp__law_pick vs H Q E) : t__law_pick K sp__law_draw ⟨fun _ H' => Q .non H', Q, fun _ _ => False, fun _ _ => False⟩ (start ["town", "some"] vs) H := by
  obtain ⟨t, p, s, xs, R, rfl, hh, h1, h2, ok, q⟩ := h
  unfold t__law_pick
  walk_at "go"
  refine use_draw hh Sub.rf ok (by omega) (by omega) fun d s' H' d0 d1 ok' hh' => ?_
  have ht : d.toNat < xs.length := by omega
  have e : atI xs d = some xs[d.toNat] := at_n d0 (by simp [ht])
  walk_at "go"
  exact q d.toNat _ s' H' (by simp [ht]) ok' hh'
def sp__law_value : Sp := fun vs H Q _ => ∃ (t : Addr) (s : Town) (R : List U), vs = [.ref t] ∧ s.ok ∧ Has H (townU t s :: R) ∧
  ∀ (d : Int) (s' : Town) (H' : Hp), 0 ≤ d → d ≤ 999 → s'.ok → Has H' (townU t s' :: R) → Q (.int d) H'
theorem pure__law_value {K : PySem.W.Frag} {vs : List V} {H : Hp} {Q : VK} {E : XK} (h : sp__law_value vs H Q E) : t__law_value K sp__law_pick sp__law_draw ⟨fun _ H' => Q .non H', Q, fun _ _ => False, fun _ _ => False⟩ (start ["town"] vs) H := by
  obtain ⟨t, s, R, rfl, ok, hh, q⟩ := h
  unfold t__law_value
  walk_at "go"
  refine use_draw hh Sub.rf ok (by decide) (by decide) fun d s1 H1 d0 d1 ok1 hh1 => ?_
  walk_at "go"
  refine use_draw hh1 Sub.rf ok1 (by decide) (by decide) fun e s2 H2 e0 e1 ok2 hh2 => ?_
  walk_at "go"
  rename_i p H3 hh3
  refine ⟨t, p, s2, _, R, rfl, by walk_at "has", by show 0 < 4; decide, by show 4 ≤ 1000; decide, ok2, fun k v s4 H4 hk ok4 hh4 => ?_⟩
  have hv : ∃ z : Int, v = .int z ∧ 0 ≤ z ∧ z ≤ 999 := by
    match k, hk with
    | 0, hk => exact ⟨0, (Option.some.inj hk).symm, by omega, by omega⟩
    | 1, hk => exact ⟨999, (Option.some.inj hk).symm, by omega, by omega⟩
    | 2, hk => exact ⟨d, (Option.some.inj hk).symm, by omega, by omega⟩
    | 3, hk => exact ⟨e, (Option.some.inj hk).symm, by omega, by omega⟩
  obtain ⟨z, rfl, z0, z1⟩ := hv
  exact q z s4 H4 z0 z1 ok4 (by walk_at "has")
end La
namespace La
open PySem L2 Sy
def stF (v0 : V) (v1 : V) (v2 : V) (v3 : V) (x : List (Str × V)) : List (Str × V) := ("hands", v0) :: ("worth", v1) :: ("cells", v2) :: ("made", v3) :: x
theorem stF_hands {v0 v1 v2 v3 : V} {x : List (Str × V)} : (stF v0 v1 v2 v3 x).lookup ("hands" : Str) = some v0 := by kernel_rfl
theorem stF_put_hands {v0 v1 v2 v3 w : V} {x : List (Str × V)} : putF "hands" w (stF v0 v1 v2 v3 x) = stF w v1 v2 v3 x := by kernel_rfl
theorem stF_worth {v0 v1 v2 v3 : V} {x : List (Str × V)} : (stF v0 v1 v2 v3 x).lookup ("worth" : Str) = some v1 := by kernel_rfl
theorem stF_put_worth {v0 v1 v2 v3 w : V} {x : List (Str × V)} : putF "worth" w (stF v0 v1 v2 v3 x) = stF v0 w v2 v3 x := by kernel_rfl
theorem stF_cells {v0 v1 v2 v3 : V} {x : List (Str × V)} : (stF v0 v1 v2 v3 x).lookup ("cells" : Str) = some v2 := by kernel_rfl
theorem stF_put_cells {v0 v1 v2 v3 w : V} {x : List (Str × V)} : putF "cells" w (stF v0 v1 v2 v3 x) = stF v0 v1 w v3 x := by kernel_rfl
theorem stF_made {v0 v1 v2 v3 : V} {x : List (Str × V)} : (stF v0 v1 v2 v3 x).lookup ("made" : Str) = some v3 := by kernel_rfl
theorem stF_put_made {v0 v1 v2 v3 w : V} {x : List (Str × V)} : putF "made" w (stF v0 v1 v2 v3 x) = stF v0 v1 v2 w x := by kernel_rfl
/-! ### the store -/
theorem look_no {f g : Str} {v : V} {r : List (Str × V)} (h : (f == g) = false) (k : r.lookup f = none) : List.lookup f ((g, v) :: r) = none := by rw [List.lookup_cons, h]; exact k
/-- what holds of a class whose instances are stores -/
structure StoreC (K : PySem.W.Frag) (C : Addr) : Prop where
  cl : Cls K C
  n1 : NoAttr K C "hands"
  n2 : NoAttr K C "worth"
  n3 : NoAttr K C "cells"
  n4 : NoAttr K C "made"
structure StX (x : List (Str × V)) : Prop where
  len : x.length < 900
  m1 : x.lookup ("look_cell" : Str) = none
  m2 : x.lookup ("after_swap" : Str) = none
  m3 : x.lookup ("look_hand" : Str) = none
  m4 : x.lookup ("swap" : Str) = none
  m5 : x.lookup ("now" : Str) = none
  m6 : x.lookup ("kept" : Str) = none
  m7 : x.lookup ("let_go" : Str) = none
  m8 : x.lookup ("value_of" : Str) = none
  m9 : x.lookup ("is_out" : Str) = none
theorem stX_nil : StX [] := ⟨by decide, rfl, rfl, rfl, rfl, rfl, rfl, rfl, rfl, rfl⟩
theorem stF_no {m : Str} {v0 v1 v2 v3 : V} {x : List (Str × V)} (h : x.lookup m = none) (h0 : (m == ("hands" : Str)) = false) (h1 : (m == ("worth" : Str)) = false) (h2 : (m == ("cells" : Str)) = false) (h3 : (m == ("made" : Str)) = false) : (stF v0 v1 v2 v3 x).lookup m = none :=
  look_no h0 (look_no h1 (look_no h2 (look_no h3 h)))
section
variable {v0 v1 v2 v3 : V} {x : List (Str × V)}
theorem StX.f1 (h : StX x) : (stF v0 v1 v2 v3 x).lookup ("look_cell" : Str) = none := stF_no h.m1 (by decide +kernel) (by decide +kernel) (by decide +kernel) (by decide +kernel)
theorem StX.f2 (h : StX x) : (stF v0 v1 v2 v3 x).lookup ("after_swap" : Str) = none := stF_no h.m2 (by decide +kernel) (by decide +kernel) (by decide +kernel) (by decide +kernel)
theorem StX.f3 (h : StX x) : (stF v0 v1 v2 v3 x).lookup ("look_hand" : Str) = none := stF_no h.m3 (by decide +kernel) (by decide +kernel) (by decide +kernel) (by decide +kernel)
theorem StX.f4 (h : StX x) : (stF v0 v1 v2 v3 x).lookup ("swap" : Str) = none := stF_no h.m4 (by decide +kernel) (by decide +kernel) (by decide +kernel) (by decide +kernel)
theorem StX.f5 (h : StX x) : (stF v0 v1 v2 v3 x).lookup ("now" : Str) = none := stF_no h.m5 (by decide +kernel) (by decide +kernel) (by decide +kernel) (by decide +kernel)
theorem StX.f6 (h : StX x) : (stF v0 v1 v2 v3 x).lookup ("kept" : Str) = none := stF_no h.m6 (by decide +kernel) (by decide +kernel) (by decide +kernel) (by decide +kernel)
theorem StX.f7 (h : StX x) : (stF v0 v1 v2 v3 x).lookup ("let_go" : Str) = none := stF_no h.m7 (by decide +kernel) (by decide +kernel) (by decide +kernel) (by decide +kernel)
theorem StX.f8 (h : StX x) : (stF v0 v1 v2 v3 x).lookup ("value_of" : Str) = none := stF_no h.m8 (by decide +kernel) (by decide +kernel) (by decide +kernel) (by decide +kernel)
theorem StX.f9 (h : StX x) : (stF v0 v1 v2 v3 x).lookup ("is_out" : Str) = none := stF_no h.m9 (by decide +kernel) (by decide +kernel) (by decide +kernel) (by decide +kernel)
theorem StX.fl (h : StX x) : (stF v0 v1 v2 v3 x).length < 1000 := by
  have := h.len
  show x.length + 1 + 1 + 1 + 1 < 1000
  omega
end
local macro_rules | `(tactic| walk_at "fl") => `(tactic| first | assumption | exact stF_hands | exact stF_worth | exact stF_cells | exact stF_made | exact StX.f1 (by assumption) | exact StX.f2 (by assumption) | exact StX.f3 (by assumption) | exact StX.f4 (by assumption) | exact StX.f5 (by assumption) | exact StX.f6 (by assumption) | exact StX.f7 (by assumption) | exact StX.f8 (by assumption) | exact StX.f9 (by assumption))
local macro_rules | `(tactic| walk_at "fsl") => `(tactic| first | assumption | exact StX.fl (by assumption))
local macro_rules | `(tactic| walk_at "put") => `(tactic| first | exact stF_put_made | exact stF_put_cells | exact stF_put_worth | exact stF_put_hands)
/-- the store's numbers: hands, the values of all things made, all that is kept, what lies in each cell; where its parts stand -/
structure Sto where
  dx : Addr
  w : Addr
  c : Addr
  hands : Int
  vals : List Int
  kept : List Int
  cells : List Int
def worthOf (vals kept : List Int) : List (Int × V) := kept.map fun k => (k, V.int (vals.getD k.toNat 0))
@[reducible] def stoU (C p : Addr) (x : List (Str × V)) (s : Sto) : U :=
  [(p, .ins C s.dx (stF (.int s.hands) (.ref s.w) (.ref s.c) (.int s.vals.length) x)), (s.w, dI (worthOf s.vals s.kept)), (s.c, .lst (s.cells.map V.int))]
structure Sto.ok (s : Sto) : Prop where
  c0 : 0 < s.cells.length
  c5 : s.cells.length ≤ 5
  v9 : s.vals.length ≤ 1000
  rise : s.kept.Pairwise (· < ·)
  made : ∀ k ∈ s.kept, 0 ≤ k ∧ k < s.vals.length
  here : ∀ k ∈ s.cells, k ∈ s.kept
  cnd : s.cells.Nodup
theorem val_self {f : Int → V} {ks : List Int} {k : Int} (h : k ∈ ks) : valV (ks.map fun k => (k, f k)) k = some (f k) := by
  induction ks with
  | nil => cases h
  | cons a r ih =>
    by_cases e : a = k
    · rw [List.map_cons, valV_pos (p := (a, f a)) e, e]
    · rw [List.map_cons, valV_neg (p := (a, f a)) e]
      exact ih ((List.mem_cons.mp h).resolve_left fun z => e z.symm)
theorem val_none {f : Int → V} {ks : List Int} {k : Int} (h : k ∉ ks) : valV (ks.map fun k => (k, f k)) k = none := by
  induction ks with
  | nil => rfl
  | cons a r ih =>
    obtain ⟨h1, h2⟩ := not_or.mp (fun z => h (List.mem_cons.mpr z))
    rw [List.map_cons, valV_neg (p := (a, f a)) (fun z => h1 z.symm)]
    exact ih h2
theorem worth_val {vals kept : List Int} {k : Int} (h : k ∈ kept) : valV (worthOf vals kept) k = some (.int (vals.getD k.toNat 0)) := val_self (f := fun k => V.int (vals.getD k.toNat 0)) h
theorem worth_keys (vals kept : List Int) : (worthOf vals kept).map (fun x => x.1) = kept := by
  unfold worthOf
  rw [List.map_map]
  exact List.map_id' kept
theorem worth_len (vals kept : List Int) : (worthOf vals kept).length = kept.length := List.length_map ..
theorem rise_len {n : Int} : ∀ {l : List Int} {lo : Int}, l.Pairwise (· < ·) → (∀ k ∈ l, lo ≤ k ∧ k < n) → (l.length : Int) ≤ max (n - lo) 0
  | [], lo, _, _ => by show (0 : Int) ≤ _; omega
  | a :: r, lo, h, hb => by
    obtain ⟨h1, h2⟩ := List.pairwise_cons.mp h
    obtain ⟨b1, b2⟩ := hb a (List.mem_cons.mpr (.inl rfl))
    have ih := rise_len (n := n) (lo := a + 1) h2 fun k hk => ⟨by have := h1 k hk; omega, (hb k (List.mem_cons.mpr (.inr hk))).2⟩
    show ((r.length + 1 : Nat) : Int) ≤ _
    omega
theorem Sto.ok.klen {s : Sto} (h : s.ok) : s.kept.length ≤ s.vals.length := by
  have := rise_len (n := s.vals.length) (lo := 0) h.rise h.made
  omega
def sp_look_cell (C : Addr) : Sp := fun vs H Q _ => ∃ (p : Addr) (x : List (Str × V)) (s : Sto) (c : Int) (R : List U), vs = [.ref p, .int c] ∧ Has H (stoU C p x s :: R) ∧ StX x ∧ 0 ≤ c ∧ c < s.cells.length ∧ Q .non H
theorem pure_look_cell {K : PySem.W.Frag} {C : Addr} (hC : StoreC K C) {vs : List V} {H : Hp} {Q : VK} {E : XK} (h : sp_look_cell C vs H Q E) : t_Store_look_cell K sp_is_whole ⟨fun _ H' => Q .non H', Q, fun _ _ => False, fun _ _ => False⟩ (start ["self", "cell"] vs) H := by
  obtain ⟨p, x, s, c, R, rfl, hh, hx, c0, c1, q⟩ := h
  obtain ⟨cl, n1, n2, n3, n4⟩ := hC
  replace hh := hh.cut2
  unfold t_Store_look_cell
  walk_at "go"
  refine ⟨_, _, _, rfl, ?_⟩
  rw [decide_eq_true ⟨c0, by rw [List.length_map]; omega⟩]
  walk_at "go"
  exact q
/-- behind a swap: a new thing in cell i, the thing that lay there told; then after_swap -/
def Sto.swap (s : Sto) (i v : Int) : Sto := { s with vals := s.vals ++ [v], kept := s.kept ++ [(s.vals.length : Int)], cells := s.cells.set i.toNat (s.vals.length : Int) }
def sp_swap (C : Addr) (sp_as : Sp) : Sp := fun vs H Q E => ∃ (p : Addr) (x : List (Str × V)) (s : Sto) (i v : Int) (R : List U), vs = [.ref p, .int i, .int v] ∧ Has H (stoU C p x s :: R) ∧ StX x ∧ s.ok ∧ s.vals.length < 1000 ∧ 0 ≤ i ∧ i < s.cells.length ∧ 0 ≤ v ∧ v ≤ 999 ∧
  ∀ H' (Q' : VK), Has H' (stoU C p x (s.swap i v) :: R) → (∀ u H2, Q (.int (s.cells.getD i.toNat 0)) H2 → Q' u H2) → sp_as [.ref p, .int (s.cells.getD i.toNat 0)] H' Q' E0
theorem put_new {m : List (Int × V)} {k : Int} {v : V} (h : valV m k = none) : putK m k v = m ++ [(k, v)] := putK_new v h
theorem worth_swap {s : Sto} (ok : s.ok) (v : Int) : putK (worthOf s.vals s.kept) (s.vals.length : Int) (.int v) = worthOf (s.vals ++ [v]) (s.kept ++ [(s.vals.length : Int)]) := by
  have hn : (s.vals.length : Int) ∉ s.kept := fun hk => by
    obtain ⟨_, h1⟩ := ok.made _ hk
    omega
  unfold worthOf
  rw [put_new (val_none (f := fun k => V.int (s.vals.getD k.toNat 0)) hn)]
  rw [List.map_append]
  congr 1
  · refine List.map_congr_left fun k hk => ?_
    obtain ⟨h0, h1⟩ := ok.made k hk
    have : k.toNat < s.vals.length := by omega
    simp [List.getD_eq_getElem?_getD, List.getElem?_append_left this]
  · simp
theorem set_nodup {z : Int} : ∀ {l : List Int} {j : Nat}, l.Nodup → z ∉ l → (l.set j z).Nodup
  | [], _, _, _ => List.nodup_nil
  | a :: r, 0, h, hz => by
    show (z :: r).Nodup
    exact List.nodup_cons.mpr ⟨fun m => hz (List.mem_cons.mpr (.inr m)), (List.nodup_cons.mp h).2⟩
  | a :: r, j + 1, h, hz => by
    show (a :: r.set j z).Nodup
    obtain ⟨h1, h2⟩ := List.nodup_cons.mp h
    refine List.nodup_cons.mpr ⟨fun m => ?_, set_nodup h2 fun m => hz (List.mem_cons.mpr (.inr m))⟩
    rcases List.mem_or_eq_of_mem_set m with q | q
    · exact h1 q
    · exact hz (q ▸ List.mem_cons.mpr (.inl rfl))
/-- the old thing is in no cell any more -/
theorem set_old {z : Int} : ∀ {l : List Int} {j : Nat}, l.Nodup → z ∉ l → j < l.length → l.getD j 0 ∉ l.set j z
  | [], _, _, _, hj => by simp at hj
  | a :: r, 0, h, hz, _ => by
    show a ∉ z :: r
    intro m
    rcases List.mem_cons.mp m with q | q
    · exact hz (q ▸ List.mem_cons.mpr (.inl rfl))
    · exact (List.nodup_cons.mp h).1 q
  | a :: r, j + 1, h, hz, hj => by
    show r.getD j 0 ∉ a :: r.set j z
    obtain ⟨h1, h2⟩ := List.nodup_cons.mp h
    have hj : j < r.length := by simpa using hj
    intro m
    rcases List.mem_cons.mp m with q | q
    · refine h1 (q ▸ ?_)
      rw [List.getD_eq_getElem?_getD, List.getElem?_eq_getElem hj]
      exact List.getElem_mem hj
    · exact set_old h2 (fun m => hz (List.mem_cons.mpr (.inr m))) hj q
theorem getD_mem {l : List Int} {j : Nat} (h : j < l.length) : l.getD j 0 ∈ l := by
  rw [List.getD_eq_getElem?_getD, List.getElem?_eq_getElem h]
  exact List.getElem_mem h
theorem Sto.ok.swap {s : Sto} (ok : s.ok) {i v : Int} (h0 : 0 ≤ i) (h1 : i < s.cells.length) (hv : s.vals.length < 1000) : (s.swap i v).ok where
  c0 := by show 0 < (s.cells.set _ _).length; rw [List.length_set]; exact ok.c0
  c5 := by show (s.cells.set _ _).length ≤ 5; rw [List.length_set]; exact ok.c5
  v9 := by show (s.vals ++ [v]).length ≤ 1000; rw [List.length_append]; exact hv
  rise := by
    show (s.kept ++ [_]).Pairwise (· < ·)
    refine List.pairwise_append.mpr ⟨ok.rise, List.pairwise_singleton _ _, fun a ha b hb => ?_⟩
    rw [List.mem_singleton.mp hb]
    exact (ok.made a ha).2
  made := fun k hk => by
    show 0 ≤ k ∧ k < ((s.vals ++ [v]).length : Int)
    rw [List.length_append]
    rcases List.mem_append.mp hk with q | q
    · obtain ⟨a, b⟩ := ok.made k q
      refine ⟨a, ?_⟩
      show k < ((s.vals.length + 1 : Nat) : Int)
      omega
    · rw [List.mem_singleton.mp q]
      show (0 : Int) ≤ (s.vals.length : Int) ∧ (s.vals.length : Int) < ((s.vals.length + 1 : Nat) : Int)
      omega
  here := fun k hk => by
    have hk : k ∈ s.cells.set i.toNat (s.vals.length : Int) := hk
    show k ∈ s.kept ++ [(s.vals.length : Int)]
    rcases List.mem_or_eq_of_mem_set hk with q | q
    · exact List.mem_append.mpr (.inl (ok.here k q))
    · exact List.mem_append.mpr (.inr (List.mem_singleton.mpr q))
  cnd := by
    show (s.cells.set i.toNat (s.vals.length : Int)).Nodup
    exact set_nodup ok.cnd fun hk => by
      obtain ⟨_, h1⟩ := ok.made _ (ok.here _ hk)
      omega
theorem pure_swap {K : PySem.W.Frag} {C : Addr} {sp_as : Sp} (hC : StoreC K C) {vs : List V} {H : Hp} {Q : VK} {E : XK} (h : sp_swap C sp_as vs H Q E) : t_Store_swap K C (sp_look_cell C) sp_look_number sp_as ⟨fun _ H' => Q .non H', Q, fun _ _ => False, fun _ _ => False⟩ (start ["self", "cell", "value", "old"] vs) H := by
  obtain ⟨p, x, s, i, v, R, rfl, hh, hx, ok, hv, i0, i1, v0, v1, q⟩ := h
  have hC' := hC
  obtain ⟨cl, n1, n2, n3, n4⟩ := hC
  have hp := hh.g0
  have hpl := ok.klen
  have il : i < (s.cells.map V.int).length := by rw [List.length_map]; exact i1
  have ea := at_ints i0 i1
  have ex := ix_ok i0 il
  have sw := worth_swap ok v
  unfold t_Store_swap
  walk_at "go"
  refine ⟨p, x, s, i, R, rfl, hh, hx, i0, i1, ?_⟩
  walk_at "go"
  refine ⟨_, _, _, rfl, v0, v1, ?_⟩
  have hh1 := hh.cut2
  have hw : (worthOf s.vals s.kept).length < sizeLine := by rw [worth_len, sizeLine_eq]; omega
  have fl := hx.fl (v0 := .int s.hands) (v1 := .ref s.w) (v2 := .ref s.c) (v3 := .int s.vals.length)
  walk_at "go"
  rename_i H3 h3
  refine q H3 _ ?_ fun u H4 z => by walk_at "go"; exact z
  rw [sw, map_set_int] at h3
  have e1 : ((s.vals.length : Int) + 1) = ((s.vals ++ [v]).length : Int) := by rw [List.length_append]; rfl
  rw [e1] at h3
  exact h3.glue2
/-- a plain store: nothing more is done -/
def sp_after0 : Sp := fun vs H Q _ => ∃ (p : Addr) (k : Int), vs = [.ref p, .int k] ∧ Q .non H
theorem pure_after0 {K : PySem.W.Frag} {vs : List V} {H : Hp} {Q : VK} {E : XK} (h : sp_after0 vs H Q E) : t_Store_after_swap K ⟨fun _ H' => Q .non H', Q, fun _ _ => False, fun _ _ => False⟩ (start ["self", "thing"] vs) H := by
  obtain ⟨p, k, rfl, q⟩ := h
  unfold t_Store_after_swap
  walk_at "go"
  exact q
/-- the values in all cells -/
def Sto.now (s : Sto) : List Int := s.cells.map fun k => s.vals.getD k.toNat 0
def sp_now (C : Addr) : Sp := fun vs H Q _ => ∃ (p : Addr) (x : List (Str × V)) (s : Sto) (R : List U), vs = [.ref p] ∧ Has H (stoU C p x s :: R) ∧ StX x ∧ s.ok ∧
  ∀ d H', Has H' ([(d, .lst (s.now.map V.int))] :: stoU C p x s :: R) → Q (.ref d) H'
theorem pure_now {K : PySem.W.Frag} {C : Addr} (hC : StoreC K C) {vs : List V} {H : Hp} {Q : VK} {E : XK} (h : sp_now C vs H Q E) : t_Store_now K ⟨fun _ H' => Q .non H', Q, fun _ _ => False, fun _ _ => False⟩ (start ["self", "thing"] vs) H := by
  obtain ⟨p, x, s, R, rfl, hh, hx, ok, q⟩ := h
  obtain ⟨cl, n1, n2, n3, n4⟩ := hC
  have h5 := ok.c5
  replace hh := hh.cut2
  unfold t_Store_now
  walk_at "go"
  refine k_lcM s.cells V.int (fun k => V.int (s.vals.getD k.toNat 0)) hh (fun H' h' => by walk_at "hp") (by omega) (fun z hz D M H' Q' h' q' => ?_) fun D H' h' => ?_
  · have hv := worth_val (vals := s.vals) (ok.here z hz)
    walk_at "go"
    exact q' H' h'
  · refine q D H' ?_
    unfold Sto.now
    rw [List.map_map]
    exact (h'.sub (Sub.p1 (Sub.p1 (Sub.p1 (Sub.p0 Sub.rf))))).glue2.sub (Sub.p1 (Sub.p0 Sub.rf))
/-- all that is kept, rising -/
def sp_kept (C : Addr) : Sp := fun vs H Q _ => ∃ (p : Addr) (x : List (Str × V)) (s : Sto) (R : List U), vs = [.ref p] ∧ Has H (stoU C p x s :: R) ∧ StX x ∧ s.ok ∧ s.vals.length < 64 ∧
  ∀ d H', Has H' ([(d, .lst (s.kept.map V.int))] :: stoU C p x s :: R) → Q (.ref d) H'
theorem sorted_unique : ∀ {xs ys : List Int}, xs.Pairwise (· ≤ ·) → ys.Pairwise (· ≤ ·) → xs.Perm ys → xs = ys := fun {xs ys} h1 h2 p => p.eq_of_pairwise (fun a b _ _ h h' => Int.le_antisymm h h') h1 h2
theorem rise_le {l : List Int} (h : l.Pairwise (· < ·)) : l.Pairwise (· ≤ ·) := h.imp fun h => Int.le_of_lt h
theorem pure_kept {K : PySem.W.Frag} {C : Addr} (hC : StoreC K C) {vs : List V} {H : Hp} {Q : VK} {E : XK} (h : sp_kept C vs H Q E) : t_Store_kept K ⟨fun _ H' => Q .non H', Q, fun _ _ => False, fun _ _ => False⟩ (start ["self"] vs) H := by
  obtain ⟨p, x, s, R, rfl, hh, hx, ok, hv, q⟩ := h
  obtain ⟨cl, n1, n2, n3, n4⟩ := hC
  have hpl := ok.klen
  have hl : (worthOf s.vals s.kept).length < 64 := by rw [worth_len]; omega
  replace hh := hh.cut2
  unfold t_Store_kept
  walk_at "go"
  rename_i ys d H1 h1 h2 h3
  rw [worth_keys] at h1
  have e := sorted_unique h2 (rise_le ok.rise) h1
  subst e
  exact q d H1 ((h3.sub (Sub.p1 (Sub.p1 (Sub.p1 (Sub.p0 Sub.rf))))).glue2.sub (Sub.p1 (Sub.p0 Sub.rf)))
/-! the making of a store -/
def tupsU : Int → List Addr → U
  | _, [] => []
  | i, p :: r => (p, .tup [.int i, .int 0]) :: tupsU (i + 1) r
theorem tupsU_snoc (q : Addr) : ∀ (ps : List Addr) (i : Int), tupsU i (ps ++ [q]) = tupsU i ps ++ [(q, .tup [.int (i + ps.length), .int 0])]
  | [], i => by show [_] = [_]; rw [List.length_nil]; simp
  | p :: r, i => by
    show _ :: tupsU (i + 1) (r ++ [q]) = _ :: (tupsU (i + 1) r ++ _)
    rw [tupsU_snoc q r (i + 1), List.length_cons]
    have e : i + 1 + (r.length : Int) = i + ((r.length + 1 : Nat) : Int) := by omega
    rw [e]
theorem tups_pair {K : PySem.W.Frag} {H : Hp} : ∀ {ps : List Addr} {i : Int} (_ : ∀ c ∈ tupsU i ps, H c.1 = some c.2), Paired (fun p (kv : Key × V) => SqT K H p [kV kv.1, kv.2]) ps (mk g1 ((List.range ps.length).map fun (j : Nat) => (i + (j : Int), V.int 0)))
  | [], i, _ => .nil
  | p :: r, i, h => by
    rw [List.length_cons, List.range_succ_eq_map, List.map_cons, List.map_map]
    refine Paired.cons (show SqT K H p [.int (i + ((0 : Nat) : Int)), .int 0] from ?_) ?_
    · have e := h _ (List.mem_cons.mpr (.inl rfl))
      have e0 : i + ((0 : Nat) : Int) = i := by omega
      rw [e0]
      exact SqT.of e
    · have ih := tups_pair (K := K) (ps := r) (i := i + 1) fun c hc => h c (List.mem_cons.mpr (.inr hc))
      have e : ((fun (j : Nat) => (i + (j : Int), V.int 0)) ∘ Nat.succ) = fun (j : Nat) => (i + 1 + (j : Int), V.int 0) := by
        funext j
        show (i + ((j + 1 : Nat) : Int), V.int 0) = _
        have e2 : i + ((j + 1 : Nat) : Int) = i + 1 + (j : Int) := by omega
        rw [e2]
      rw [e]
      exact ih
theorem merge_new {κ : Type} [DecidableEq κ] : ∀ (more kvs : List (κ × V)), ((kvs ++ more).map (·.1)).Nodup → more.foldl (fun acc kv => putK acc kv.1 kv.2) kvs = kvs ++ more
  | [], kvs, _ => by simp
  | p :: r, kvs, h => by
    have hn : valV kvs p.1 = none := by
      cases e : valV kvs p.1 with
      | none => rfl
      | some v =>
        have hm := valV_in e
        rw [List.map_append, List.nodup_append] at h
        exact absurd rfl (h.2.2 _ hm p.1 (by simp))
    rw [List.foldl_cons, putK_new _ hn, merge_new r (kvs ++ [(p.1, p.2)]) (by simpa using h)]
    simp
theorem rgI_nodup (n : Int) : (rgI n).Nodup := by
  unfold rgI
  refine List.Pairwise.map _ (fun a b h => ?_) List.nodup_range
  intro e
  exact h (by omega)
theorem Has.fam {H : Hp} {u : U} {L : List U} (h : Has H (u :: L)) : ∀ c ∈ u, H c.1 = some c.2 := fun c hc => h.at' c (by simp [hc])
def Sto.new (dx w c : Addr) (hands n : Int) : Sto := ⟨dx, w, c, hands, List.replicate n.toNat 0, rgI n, rgI n⟩
def sp_init (C : Addr) : Sp := fun vs H Q _ => ∃ (p dx : Addr) (h n : Int) (R : List U), vs = [.ref p, .int h, .int n] ∧ Has H ([(p, .ins C dx [])] :: R) ∧ 1 ≤ h ∧ h ≤ 6 ∧ 1 ≤ n ∧ n ≤ 5 ∧
  ∀ w c H', Has H' (stoU C p [] (Sto.new dx w c h n) :: R) → Q .non H'
theorem put_f1 {v : V} : putF "hands" v [] = [(("hands" : Str), v)] := by kernel_rfl
theorem put_f2 {v w : V} : putF "worth" w [(("hands" : Str), v)] = [(("hands" : Str), v), ("worth", w)] := by kernel_rfl
theorem put_f3 {v w u : V} : putF "cells" u [(("hands" : Str), v), ("worth", w)] = [(("hands" : Str), v), ("worth", w), ("cells", u)] := by kernel_rfl
theorem put_f4 {v w u z : V} : putF "made" z [(("hands" : Str), v), ("worth", w), ("cells", u)] = stF v w u z [] := by kernel_rfl
local macro_rules | `(tactic| walk_at "put") => `(tactic| first | exact put_f1 | exact put_f2 | exact put_f3 | exact put_f4)
local macro_rules | `(tactic| walk_at "fsl") => `(tactic| first | assumption | (show 0 < 1000; decide) | (show 1 < 1000; decide) | (show 2 < 1000; decide) | (show 3 < 1000; decide))
theorem Sto.new_ok {dx w c : Addr} {h n : Int} (h1 : 1 ≤ n) (h5 : n ≤ 5) : (Sto.new dx w c h n).ok where
  c0 := by show 0 < (rgI n).length; rw [rgI_len]; omega
  c5 := by show (rgI n).length ≤ 5; rw [rgI_len]; omega
  v9 := by show (List.replicate n.toNat (0 : Int)).length ≤ 1000; rw [List.length_replicate]; omega
  rise := by
    show (rgI n).Pairwise (· < ·)
    unfold rgI
    exact List.Pairwise.map _ (fun a b h => by omega) List.pairwise_lt_range
  made := fun k hk => by
    have hk : k ∈ rgI n := hk
    show 0 ≤ k ∧ k < ((List.replicate n.toNat (0 : Int)).length : Int)
    unfold rgI at hk
    obtain ⟨j, hj, rfl⟩ := List.mem_map.mp hk
    have := List.mem_range.mp hj
    rw [List.length_replicate]
    omega
  here := fun k hk => hk
  cnd := rgI_nodup n
theorem worth_new (n : Int) : worthOf (List.replicate n.toNat 0) (rgI n) = (rgI n).map fun k => (k, V.int 0) := by
  unfold worthOf
  refine List.map_congr_left fun k hk => ?_
  have : (List.replicate n.toNat (0 : Int)).getD k.toNat 0 = 0 := by
    rw [List.getD_eq_getElem?_getD, List.getElem?_replicate]
    split <;> rfl
  rw [this]
theorem pure_init {K : PySem.W.Frag} {C : Addr} (hC : StoreC K C) {vs : List V} {H : Hp} {Q : VK} {E : XK} (h : sp_init C vs H Q E) : t_Store_init K sp_look_number ⟨fun _ H' => Q .non H', Q, fun _ _ => False, fun _ _ => False⟩ (start ["self", "hands", "cells", "thing"] vs) H := by
  obtain ⟨p, dx, h, n, R, rfl, hh, h1, h6, n1', n5, q⟩ := h
  obtain ⟨cl, n1, n2, n3, n4⟩ := hC
  unfold t_Store_init
  walk_at "go"
  refine ⟨_, _, _, rfl, h1, h6, ?_⟩
  walk_at "go"
  refine ⟨_, _, _, rfl, n1', n5, ?_⟩
  walk_at "go"
  rename_i H1 hh1
  refine k_lcR (L := [(p, .ins C dx [("hands", .int h)])] :: R) hh1 (fun D i H' => ∃ ps : List Addr, ps.length = i ∧ Has H' ([(D, .lst (ps.map V.ref))] :: tupsU 0 ps :: [(p, .ins C dx [("hands", .int h)])] :: R)) (by omega) (fun D H' h' => ⟨[], rfl, ?_⟩) ?_ ?_
  · exact (Has.nilU.mpr (h'.sub (Sub.p1 (Sub.p0 Sub.rf)))).sub (Sub.p2 (Sub.p0 (Sub.p0 Sub.rf)))
  · rintro D i H' hi ⟨ps, hl, h'⟩
    refine ⟨rfl, ?_⟩
    walk_at "go"
    rename_i t _ _ H3 h3
    refine ⟨ps ++ [t], by rw [List.length_append, hl]; rfl, ?_⟩
    rw [List.map_append, tupsU_snoc, hl, Int.zero_add]
    exact (Has.op.mpr (h3.sub (Sub.p2 (Sub.p0 (Sub.p0 Sub.rf))))).sub (Sub.p1 (Sub.p0 Sub.rf))
  · rintro D H' ⟨ps, hl, h'⟩
    walk_at "go"
    have hf := Has.fam (h'.sub (Sub.p1 (Sub.p0 Sub.rf)))
    refine ⟨D, ps, _, rfl, SqL.of h'.g0, tups_pair hf, fun w hw => ?_⟩
    have e1 : (List.range ps.length).map (fun (j : Nat) => ((0 : Int) + (j : Int), V.int 0)) = (rgI n).map fun k => (k, V.int 0) := by
      unfold rgI
      rw [List.map_map, hl]
      refine List.map_congr_left fun j _ => ?_
      show ((0 : Int) + (j : Int), V.int 0) = ((j : Int), V.int 0)
      rw [Int.zero_add]
    have e2 : mergeK [] (mk g1 ((rgI n).map fun k => (k, V.int 0))) = mk g1 (worthOf (List.replicate n.toNat 0) (rgI n)) := by
      unfold mergeK
      rw [merge_new _ [] (by
        rw [List.nil_append, mk_keys, List.map_map, List.map_map]
        exact List.Pairwise.map _ (fun a b (h : a ≠ b) => fun e => h (g1_inj _ _ e)) (rgI_nodup n)), worth_new]
      rfl
    rw [e1, e2]
    have h2 := h'.nw (o := dI (worthOf (List.replicate n.toNat 0) (rgI n))) hw
    generalize upd H' w (dI (worthOf (List.replicate n.toNat 0) (rgI n))) = H2 at h2
    walk_at "go"
    rename_i c _ _ _ _ H6 h6
    have el : (List.replicate n.toNat (0 : Int)).length = n.toNat := List.length_replicate
    have e3 : n = ((List.replicate n.toNat (0 : Int)).length : Int) := by rw [el]; omega
    refine q w c H6 (Has.glue2 ?_)
    show Has H6 ([(p, .ins C dx (stF (.int h) (.ref w) (.ref c) (.int ((List.replicate n.toNat (0 : Int)).length : Int)) []))] :: [(w, dI (worthOf (List.replicate n.toNat 0) (rgI n)))] :: [(c, .lst ((rgI n).map V.int))] :: R)
    rw [← e3]
    walk_at "has"
end La
namespace La
open PySem L2 Sy
local macro_rules | `(tactic| walk_at "fl") => `(tactic| first | assumption | exact stF_hands | exact stF_worth | exact stF_cells | exact stF_made | exact StX.f1 (by assumption) | exact StX.f2 (by assumption) | exact StX.f3 (by assumption) | exact StX.f4 (by assumption) | exact StX.f5 (by assumption) | exact StX.f6 (by assumption) | exact StX.f7 (by assumption) | exact StX.f8 (by assumption) | exact StX.f9 (by assumption))
local macro_rules | `(tactic| walk_at "fsl") => `(tactic| first | assumption | exact StX.fl (by assumption))
local macro_rules | `(tactic| walk_at "put") => `(tactic| first | exact stF_put_made | exact stF_put_cells | exact stF_put_worth | exact stF_put_hands)
/-! ### the law's own store -/
structure Own where
  a0 : Addr
  a1 : Addr
  a2 : Addr
  cells : List Int
  vals : List Int
  kept : List Int
@[reducible] def ownU (o : Addr) (s : Own) : U := [(o, .lst [.ref s.a0, .ref s.a1, .ref s.a2]), (s.a0, .lst (s.cells.map V.int)), (s.a1, .lst (s.vals.map V.int)), (s.a2, .lst (s.kept.map V.int))]
def Own.swap (s : Own) (i v : Int) : Own := { s with cells := s.cells.set i.toNat (s.vals.length : Int), vals := s.vals ++ [v], kept := s.kept ++ [(s.vals.length : Int)] }
def sp__law_things : Sp := fun vs H Q _ => ∃ (n : Int) (R : List U), vs = [.int n] ∧ Has H R ∧ 1 ≤ n ∧ n ≤ 5 ∧
  ∀ o a0 a1 a2 H', Has H' (ownU o ⟨a0, a1, a2, rgI n, List.replicate n.toNat 0, rgI n⟩ :: R) → Q (.ref o) H'
theorem pure__law_things {K : PySem.W.Frag} {vs : List V} {H : Hp} {Q : VK} {E : XK} (h : sp__law_things vs H Q E) : t__law_things K ⟨fun _ H' => Q .non H', Q, fun _ _ => False, fun _ _ => False⟩ (start ["size"] vs) H := by
  obtain ⟨n, R, rfl, hh, n1, n5, q⟩ := h
  unfold t__law_things
  walk_at "go"
  rename_i a0 _ _ z _ _ a1 _ _ a2 _ _ o H1 h1
  refine q o a0 a1 a2 H1 (Has.glue3 ?_)
  rw [List.map_replicate]
  walk_at "has"
def sp__law_whole_list : Sp := fun vs H Q _ => ∃ (p : Addr) (ns : List Int) (R : List U), vs = [.ref p] ∧ Has H ([(p, .lst (ns.map V.int))] :: R) ∧ ns.length ≤ 1000 ∧
  ∀ H', Has H' ([(p, .lst (ns.map V.int))] :: R) → Q (.bl true) H'
theorem pure__law_whole_list {K : PySem.W.Frag} {vs : List V} {H : Hp} {Q : VK} {E : XK} (h : sp__law_whole_list vs H Q E) : t__law_whole_list K sp__law_whole ⟨fun _ H' => Q .non H', Q, fun _ _ => False, fun _ _ => False⟩ (start ["thing", "one"] vs) H := by
  obtain ⟨p, ns, R, rfl, hh, hl, q⟩ := h
  unfold t__law_whole_list
  walk_at "go"
  refine k_lcM ns V.int (fun _ => V.bl true) hh (fun H' h' => by walk_at "hp") (by omega) (fun z hz D M H' Q' h' q' => ?_) fun D H' h' => ?_
  · walk_at "go"
    exact ⟨z, rfl, q' H' h'⟩
  · have e : ns.map (fun _ => V.bl true) = (ns.map fun _ => true).map V.bl := by rw [List.map_map]; rfl
    rw [e] at h'
    walk_at "go"
    have e2 : (ns.map fun _ => true).all id = true := by
      rw [List.all_eq_true]
      intro b hb
      obtain ⟨_, _, rfl⟩ := List.mem_map.mp hb
      rfl
    rw [e2]
    refine q H' ?_
    walk_at "has"
/-- a swap at a store of any kind and at the law's own -/
def sp__law_swap {G : Type} (u : Addr → G → U) (cells vals : G → List Int) (sw : G → Int → Int → G) (ok : G → Prop) : Sp := fun vs H Q _ => ∃ (t p o : Addr) (ts : Town) (g : G) (ow : Own) (R : List U), vs = [.ref t, .ref p, .ref o] ∧
  Has H (townU t ts :: u p g :: ownU o ow :: R) ∧ ts.ok ∧ ok g ∧ ow.cells = cells g ∧ ow.vals.length ≤ 999 ∧ ow.kept.length ≤ 999 ∧ 0 < ow.cells.length ∧ ow.cells.length ≤ 5 ∧
  ∀ (i v : Int) (ts' : Town) (H' : Hp), 0 ≤ i → i < (cells g).length → 0 ≤ v → v ≤ 999 → ts'.ok → Has H' (townU t ts' :: u p (sw g i v) :: ownU o (ow.swap i v) :: R) → Q (.int ((cells g).getD i.toNat 0)) H'
theorem pure__law_swap {K : PySem.W.Frag} {C : Addr} {spS : Sp} {G : Type} {u : Addr → G → U} {cells vals : G → List Int} {sw : G → Int → Int → G} {ok : G → Prop}
    (hob : ∀ p g R H, Has H (u p g :: R) → ∃ dx fs, H p = some (.ins C dx fs) ∧ fs.lookup ("swap" : Str) = none)
    (hsw : ∀ p g (i v : Int) R H (Q : VK), Has H (u p g :: R) → ok g → 0 ≤ i → i < (cells g).length → 0 ≤ v → v ≤ 999 → (∀ H', Has H' (u p (sw g i v) :: R) → Q (.int ((cells g).getD i.toNat 0)) H') → spS [.ref p, .int i, .int v] H Q E0)
    {vs : List V} {H : Hp} {Q : VK} {E : XK} (h : sp__law_swap u cells vals sw ok vs H Q E) : t__law_swap K C sp__law_draw sp__law_value spS ⟨fun _ H' => Q .non H', Q, fun _ _ => False, fun _ _ => False⟩ (start ["town", "store", "own", "cell", "value", "old"] vs) H := by
  obtain ⟨t, p, o, ts, g, ⟨a0, a1, a2, cs, vl, kp⟩, R, rfl, hh, tok, gok, hc, hv, hk, c0, c5, q⟩ := h
  dsimp only at hc hv hk c0 c5
  subst hc
  replace hh := (hh.sub (Sub.p2 Sub.rf)).cut3
  dsimp only at hh
  unfold t__law_swap
  walk_at "go"
  refine use_draw hh (by walk_at "sub") tok (by rw [List.length_map]; omega) (by rw [List.length_map]; omega) fun i ts1 H1 i0 i1 tok1 hh1 => ?_
  rw [List.length_map] at i1
  walk_at "go"
  refine ⟨t, ts1, _, rfl, tok1, hh1, fun v ts2 H2 v0 v9 tok2 hh2 => ?_⟩
  have ea := at_ints i0 i1
  have ex : ixN ((cells g).map V.int).length i = some i.toNat := ix_ok i0 (by rw [List.length_map]; exact i1)
  have e1 : (kp.map V.int).length < sizeLine := by rw [List.length_map, sizeLine_eq]; omega
  have e2 : (vl.map V.int).length < sizeLine := by rw [List.length_map, sizeLine_eq]; omega
  walk_at "go"
  rename_i H5 h5
  have h6 := h5.sub (show Sub (u p g :: _) _ by walk_at "sub")
  obtain ⟨dx, fs, hp, hf⟩ := hob p g _ H5 h6
  refine k_meth0 hp hf ?_
  walk_at "go"
  refine hsw p g i v _ H5 _ h6 gok i0 i1 v0 v9 fun H7 h7 => ?_
  walk_at "go"
  refine ifY (decide_eq_true rfl) ?_
  walk_at "go"
  refine q i v ts2 H7 i0 i1 v0 v9 tok2 ?_
  have e3 : (vl.map V.int).length = vl.length := List.length_map ..
  rw [map_set_int, e3] at h7
  have e4 : kp.map V.int ++ [V.int vl.length] = (kp ++ [(vl.length : Int)]).map V.int := by rw [List.map_append]; rfl
  have e5 : vl.map V.int ++ [V.int v] = (vl ++ [v]).map V.int := by rw [List.map_append]; rfl
  rw [e4, e5] at h7
  have h8 := Has.glue3 (h7.sub (Sub.p2 (Sub.p2 (Sub.p2 (Sub.p2 Sub.rf)))))
  walk_at "has"
/-- store and law's own agree -/
def sp__law_fits (C : Addr) : Sp := fun vs H Q _ => ∃ (p o : Addr) (x : List (Str × V)) (s : Sto) (ow : Own) (R : List U), vs = [.ref p, .ref o] ∧ Has H (stoU C p x s :: ownU o ow :: R) ∧ StX x ∧ s.ok ∧ s.vals.length < 64 ∧ ow.cells = s.cells ∧ ow.vals = s.vals ∧ ow.kept.Perm s.kept ∧
  ∀ H', Has H' (stoU C p x s :: ownU o ow :: R) → Q (.bl true) H'
theorem pure__law_fits {K : PySem.W.Frag} {C : Addr} {vs : List V} {H : Hp} {Q : VK} {E : XK} (h : sp__law_fits C vs H Q E) : t__law_fits K C (sp_now C) (sp_kept C) sp__law_whole_list ⟨fun _ H' => Q .non H', Q, fun _ _ => False, fun _ _ => False⟩ (start ["store", "own", "thing"] vs) H := by
  obtain ⟨p, o, x, s, ⟨a0, a1, a2, cs, vl, kp⟩, R, rfl, hh, hx, ok, hv, hc, hl, hk, q⟩ := h
  dsimp only at hc hl hk
  subst hc hl
  have h5 := ok.c5
  have hkl := ok.klen
  have hh1 := (hh.sub (Sub.p1 Sub.rf)).cut3
  dsimp only at hh1
  unfold t__law_fits
  walk_at "go"
  refine ⟨p, x, s, _, rfl, by walk_at "has", hx, ok, fun d H1 h1 => ?_⟩
  walk_at "go"
  refine k_lcM s.cells V.int (fun k => V.int (s.vals.getD k.toNat 0)) h1 (fun H' h' => by walk_at "hp") (by omega) (fun z hz D M H' Q' h' q' => ?_) fun D H2 h2 => ?_
  · obtain ⟨z0, z1⟩ := ok.made z (ok.here z hz)
    have ea := at_ints z0 z1
    walk_at "go"
    exact q' H' h'
  · have e1 : s.cells.map (fun k => V.int (s.vals.getD k.toNat 0)) = s.now.map V.int := by unfold Sto.now; rw [List.map_map]; rfl
    rw [e1] at h2
    walk_at "go"
    refine ifN (by simp) ?_
    walk_at "go"
    refine ⟨p, x, s, _, rfl, by walk_at "has", hx, ok, hv, fun d3 H3 h3 => ?_⟩
    walk_at "go"
    rename_i ys d4 H4 p1 p2 h4
    have e := sorted_unique p2 (rise_le ok.rise) (p1.trans hk)
    subst e
    walk_at "go"
    refine ifY (decide_eq_true rfl) ?_
    walk_at "go"
    refine ⟨p, x, s, _, rfl, by walk_at "has", hx, ok, hv, fun d5 H5 h5 => ?_⟩
    walk_at "go"
    refine ⟨d5, s.kept, _, rfl, h5, by omega, fun H6 h6 => q H6 ?_⟩
    have h7 := Has.glue3 (h6.sub (show Sub ([(o, .lst [.ref a0, .ref a1, .ref a2])] :: [(a0, .lst (s.cells.map V.int))] :: [(a1, .lst (s.vals.map V.int))] :: [(a2, .lst (kp.map V.int))] :: stoU C p x s :: R) _ by walk_at "sub"))
    exact h7.sub (Sub.p1 (Sub.p0 Sub.rf))
end La
namespace La
open PySem L2 Sy
local macro_rules | `(tactic| walk_at "fl") => `(tactic| first | assumption | exact stF_hands | exact stF_worth | exact stF_cells | exact stF_made | exact StX.f1 (by assumption) | exact StX.f2 (by assumption) | exact StX.f3 (by assumption) | exact StX.f4 (by assumption) | exact StX.f5 (by assumption) | exact StX.f6 (by assumption) | exact StX.f7 (by assumption) | exact StX.f8 (by assumption) | exact StX.f9 (by assumption))
local macro_rules | `(tactic| walk_at "fsl") => `(tactic| first | assumption | exact StX.fl (by assumption))
local macro_rules | `(tactic| walk_at "put") => `(tactic| first | exact stF_put_made | exact stF_put_cells | exact stF_put_worth | exact stF_put_hands)
/-! ### dicts with whole-number keys, their values typed -/
section
variable {κ β : Type} [DecidableEq κ]
def mv (f : β → V) (m : List (κ × β)) : List (κ × V) := m.map fun q => (q.1, f q.2)
def fd (m : List (κ × β)) (k : κ) : Option β := (m.find? fun q => decide (q.1 = k)).map (·.2)
def rm (m : List (κ × β)) (k : κ) : List (κ × β) := m.filter fun q => decide (q.1 ≠ k)
def pu (m : List (κ × β)) (k : κ) (b : β) : List (κ × β) := if (fd m k).isSome then m.map (fun q => if q.1 = k then (q.1, b) else q) else m ++ [(k, b)]
theorem fd_nil (k : κ) : fd ([] : List (κ × β)) k = none := rfl
theorem fd_pos {p : κ × β} {r : List (κ × β)} {k : κ} (h : p.1 = k) : fd (p :: r) k = some p.2 := by simp [fd, List.find?_cons, h]
theorem fd_neg {p : κ × β} {r : List (κ × β)} {k : κ} (h : ¬ p.1 = k) : fd (p :: r) k = fd r k := by simp [fd, List.find?_cons, h]
theorem fd_none {m : List (κ × β)} {k : κ} : fd m k = none ↔ k ∉ m.map (·.1) := by
  induction m with
  | nil => simp [fd_nil]
  | cons p r ih =>
    by_cases h : p.1 = k
    · rw [fd_pos h]; simp [h]
    · rw [fd_neg h, ih]
      simp only [List.map_cons, List.mem_cons, not_or]
      exact ⟨fun q => ⟨fun e => h e.symm, q⟩, fun q => q.2⟩
theorem fd_isSome {m : List (κ × β)} {k : κ} : (fd m k).isSome = true ↔ k ∈ m.map (·.1) := by
  cases e : fd m k with
  | none => have := fd_none.mp e; simpa using this
  | some b => simp only [Option.isSome_some, true_iff]; exact Classical.byContradiction fun h => by rw [fd_none.mpr h] at e; cases e
theorem fd_mem {m : List (κ × β)} {k : κ} {b : β} (h : fd m k = some b) : (k, b) ∈ m := by
  unfold fd at h
  obtain ⟨q, hq, e⟩ := Option.map_eq_some_iff.mp h
  have h1 := List.mem_of_find?_eq_some hq
  have h2 := List.find?_some hq
  have h3 : q.1 = k := by simpa using h2
  rw [← h3, ← e]
  exact h1
theorem fd_of {m : List (κ × β)} {k : κ} {b : β} (nd : (m.map (·.1)).Nodup) (h : (k, b) ∈ m) : fd m k = some b := by
  induction m with
  | nil => cases h
  | cons p r ih =>
    obtain ⟨n1, n2⟩ := List.nodup_cons.mp (show (p.1 :: r.map (·.1)).Nodup from nd)
    rcases List.mem_cons.mp h with e | h
    · rw [← e, fd_pos rfl]
    · have : ¬ p.1 = k := fun e => n1 (e ▸ List.mem_map.mpr ⟨(k, b), h, rfl⟩)
      rw [fd_neg this]
      exact ih n2 h
theorem fd_split {m : List (κ × β)} {k : κ} {b : β} (h : fd m k = some b) : ∃ A B, m = A ++ (k, b) :: B ∧ k ∉ A.map (·.1) := by
  induction m with
  | nil => cases h
  | cons p r ih =>
    by_cases e : p.1 = k
    · rw [fd_pos e] at h
      cases h
      exact ⟨[], r, by rw [← e]; rfl, by simp⟩
    · rw [fd_neg e] at h
      obtain ⟨A, B, rfl, hk⟩ := ih h
      refine ⟨p :: A, B, rfl, ?_⟩
      simp only [List.map_cons, List.mem_cons, not_or]
      exact ⟨fun q => e q.symm, hk⟩
theorem mv_len (f : β → V) (m : List (κ × β)) : (mv f m).length = m.length := List.length_map ..
theorem mv_keys (f : β → V) (m : List (κ × β)) : (mv f m).map (fun x => x.1) = m.map (·.1) := by unfold mv; rw [List.map_map]; rfl
theorem mv_val (f : β → V) (m : List (κ × β)) (k : κ) : valV (mv f m) k = (fd m k).map f := by
  induction m with
  | nil => rfl
  | cons p r ih =>
    show valV ((p.1, f p.2) :: mv f r) k = _
    by_cases h : p.1 = k
    · rw [valV_pos (p := (p.1, f p.2)) h, fd_pos h]; rfl
    · rw [valV_neg (p := (p.1, f p.2)) h, fd_neg h, ih]
theorem mv_some {f : β → V} {m : List (κ × β)} {k : κ} {b : β} (h : fd m k = some b) : valV (mv f m) k = some (f b) := by rw [mv_val, h]; rfl
theorem mv_isSome (f : β → V) (m : List (κ × β)) (k : κ) : (valV (mv f m) k).isSome = (fd m k).isSome := by rw [mv_val, Option.isSome_map]
theorem mv_drop (f : β → V) (m : List (κ × β)) (k : κ) : dropK (mv f m) k = mv f (rm m k) := by
  unfold dropK mv rm
  rw [List.filter_map]
  rfl
theorem mv_put (f : β → V) (m : List (κ × β)) (k : κ) (b : β) : putK (mv f m) k (f b) = mv f (pu m k b) := by
  unfold putK pu
  rw [valV_any, mv_isSome]
  by_cases h : (fd m k).isSome = true
  · rw [if_pos h, if_pos h]
    unfold mv
    rw [List.map_map, List.map_map]
    refine List.map_congr_left fun q _ => ?_
    show (if q.1 = k then (q.1, f b) else (q.1, f q.2)) = ((if q.1 = k then (q.1, b) else q).1, f (if q.1 = k then (q.1, b) else q).2)
    split <;> rfl
  · rw [if_neg h, if_neg h]
    unfold mv
    rw [List.map_append]
    rfl
theorem pu_new {m : List (κ × β)} {k : κ} (b : β) (h : fd m k = none) : pu m k b = m ++ [(k, b)] := by unfold pu; rw [h]; rfl
theorem pu_keys_old {m : List (κ × β)} {k : κ} (b : β) (h : (fd m k).isSome = true) : (pu m k b).map (·.1) = m.map (·.1) := by
  unfold pu
  rw [if_pos h, List.map_map]
  refine List.map_congr_left fun q _ => ?_
  show (if q.1 = k then (q.1, b) else q).1 = q.1
  split <;> rfl
theorem fd_append {m n : List (κ × β)} {k : κ} : fd (m ++ n) k = (fd m k).or (fd n k) := by
  induction m with
  | nil => simp [fd_nil]
  | cons p r ih =>
    by_cases h : p.1 = k
    · rw [List.cons_append, fd_pos h, fd_pos h]; rfl
    · rw [List.cons_append, fd_neg h, fd_neg h, ih]
theorem fd_pu (m : List (κ × β)) (k j : κ) (b : β) : fd (pu m k b) j = if j = k then some b else fd m j := by
  unfold pu
  by_cases h : (fd m k).isSome = true
  · rw [if_pos h]
    induction m with
    | nil => cases h
    | cons p r ih =>
      rw [List.map_cons]
      by_cases e : p.1 = k
      · rw [if_pos e]
        by_cases ej : j = k
        · rw [fd_pos (p := (p.1, b)) (e.trans ej.symm), if_pos ej]
        · rw [fd_neg (p := (p.1, b)) (fun z => ej (z.symm.trans e)), if_neg ej, fd_neg (fun z => ej (z.symm.trans e))]
          by_cases hr : (fd r k).isSome = true
          · rw [ih hr, if_neg ej]
          · have hk : k ∉ r.map (·.1) := fun z => hr (fd_isSome.mpr z)
            congr 1
            refine List.map_congr_left (g := id) (fun q hq => ?_) |>.trans (List.map_id r)
            have : ¬ q.1 = k := fun z => hk (z ▸ List.mem_map.mpr ⟨q, hq, rfl⟩)
            rw [if_neg this]; rfl
      · rw [if_neg e]
        rw [fd_neg e] at h
        by_cases ep : p.1 = j
        · rw [fd_pos ep, fd_pos ep, if_neg (fun z => e (ep.trans z))]
        · rw [fd_neg ep, fd_neg ep, ih h]
  · rw [if_neg h, fd_append]
    by_cases ej : j = k
    · subst ej
      have hn : fd m j = none := by cases e : fd m j with
        | none => rfl
        | some v => rw [e] at h; exact absurd rfl h
      rw [hn, if_pos rfl, fd_pos rfl]; rfl
    · rw [if_neg ej, fd_neg (p := (k, b)) (fun z => ej z.symm), fd_nil, Option.or_none]
theorem fd_rm (m : List (κ × β)) (k j : κ) : fd (rm m k) j = if j = k then none else fd m j := by
  induction m with
  | nil => simp [rm, fd_nil]
  | cons p r ih =>
    have ih : fd (List.filter (fun q => decide (q.1 ≠ k)) r) j = _ := ih
    unfold rm
    by_cases e : p.1 = k
    · rw [List.filter_cons, if_neg (by simp [e]), ih]
      by_cases ej : j = k
      · rw [if_pos ej, if_pos ej]
      · rw [if_neg ej, if_neg ej, fd_neg (fun z => ej (z.symm.trans e))]
    · rw [List.filter_cons, if_pos (by simp [e])]
      by_cases ep : p.1 = j
      · rw [fd_pos ep, fd_pos ep, if_neg (fun z => e (ep.trans z))]
      · rw [fd_neg ep, fd_neg ep, ih]
theorem rm_len (m : List (κ × β)) (k : κ) : (rm m k).length ≤ m.length := List.length_filter_le _ _
theorem rm_sub (m : List (κ × β)) (k : κ) : (rm m k).Sublist m := List.filter_sublist
theorem rm_nodup {m : List (κ × β)} {k : κ} (h : (m.map (·.1)).Nodup) : ((rm m k).map (·.1)).Nodup := ((rm_sub m k).map _).nodup h
theorem rm_mem {m : List (κ × β)} {k : κ} {q : κ × β} : q ∈ rm m k ↔ q ∈ m ∧ q.1 ≠ k := by unfold rm; rw [List.mem_filter]; simp
theorem nodup_snoc {l : List Int} {k : Int} (h : l.Nodup) (hk : k ∉ l) : (l ++ [k]).Nodup := nd_snoc h hk
/-- several keys taken out -/
def rms (m : List (Int × β)) (ks : List Int) : List (Int × β) := m.filter fun q => decide (q.1 ∉ ks)
theorem rms_nil (m : List (Int × β)) : rms m [] = m := List.filter_eq_self.mpr fun _ _ => by simp
theorem rms_snoc (m : List (Int × β)) (ks : List Int) (k : Int) : rm (rms m ks) k = rms m (ks ++ [k]) := by
  unfold rm rms
  rw [List.filter_filter]
  refine List.filter_congr fun q _ => ?_
  by_cases h1 : q.1 ∈ ks <;> by_cases h2 : q.1 = k <;> simp [h1, h2]
end
/-! ### families of objects by keys -/
def famU {κ β : Type} (obs : β → U) (m : List (κ × β)) : U := m.flatMap fun q => obs q.2
theorem fam_app {κ β : Type} (obs : β → U) (A B : List (κ × β)) : famU obs (A ++ B) = famU obs A ++ famU obs B := by unfold famU; rw [List.flatMap_append]
theorem fam_out {κ β : Type} {obs : β → U} {A B : List (κ × β)} {k : κ} {b : β} {H : Hp} {L : List U} (h : Has H (famU obs (A ++ (k, b) :: B) :: L)) : Has H (obs b :: famU obs A :: famU obs B :: L) := by
  rw [fam_app, show famU obs ((k, b) :: B) = obs b ++ famU obs B from rfl] at h
  exact (Has.op.mp ((Has.op.mp h).sub (show Sub ((_ ++ _) :: famU obs A :: L) _ from Sub.p1 (Sub.p0 Sub.rf)))).sub (Sub.p0 (Sub.p1 (Sub.p0 Sub.rf)))
theorem fam_in {κ β : Type} {obs : β → U} {A B : List (κ × β)} {k : κ} {b : β} {H : Hp} {L : List U} (h : Has H (obs b :: famU obs A :: famU obs B :: L)) : Has H (famU obs (A ++ (k, b) :: B) :: L) := by
  rw [fam_app, show famU obs ((k, b) :: B) = obs b ++ famU obs B from rfl]
  refine Has.op.mpr ?_
  exact (Has.op.mpr (h.sub (show Sub (obs b :: famU obs B :: famU obs A :: L) _ from Sub.p0 (Sub.p1 (Sub.p0 Sub.rf))))).sub (Sub.p1 (Sub.p0 Sub.rf))
theorem fam_two {κ β : Type} {obs : β → U} {A B : List (κ × β)} {H : Hp} {L : List U} (h : Has H (famU obs A :: famU obs B :: L)) : Has H (famU obs (A ++ B) :: L) := by
  rw [fam_app]
  exact Has.op.mpr h
theorem fam_snoc {κ β : Type} {obs : β → U} {A : List (κ × β)} {k : κ} {b : β} {H : Hp} {L : List U} (h : Has H (obs b :: famU obs A :: L)) : Has H (famU obs (A ++ [(k, b)]) :: L) := by
  rw [fam_app, show famU obs [(k, b)] = obs b from List.append_nil _]
  exact Has.op.mpr (h.sub (Sub.p1 (Sub.p0 Sub.rf)))
theorem pu_split {κ β : Type} [DecidableEq κ] {m : List (κ × β)} {k : κ} {b : β} (nd : (m.map (·.1)).Nodup) (h : fd m k = some b) : ∃ A B, m = A ++ (k, b) :: B ∧ (∀ b', pu m k b' = A ++ (k, b') :: B) ∧ rm m k = A ++ B := by
  obtain ⟨A, B, e, ha⟩ := fd_split h
  have hb : k ∉ B.map (·.1) := by
    rw [e, List.map_append, List.map_cons] at nd
    exact (List.nodup_cons.mp (List.nodup_append.mp nd).2.1).1
  have key : ∀ (l : List (κ × β)), k ∉ l.map (·.1) → (∀ q ∈ l, ¬ q.1 = k) := fun l hl q hq e => hl (e ▸ List.mem_map.mpr ⟨q, hq, rfl⟩)
  have hid : ∀ (l : List (κ × β)) (b' : β), k ∉ l.map (·.1) → l.map (fun q => if q.1 = k then (q.1, b') else q) = l := fun l b' hl => (List.map_congr_left fun q hq => if_neg (key l hl q hq)).trans (List.map_id' l)
  have hfl : ∀ (l : List (κ × β)), k ∉ l.map (·.1) → l.filter (fun q => decide (q.1 ≠ k)) = l := fun l hl => List.filter_eq_self.mpr fun q hq => decide_eq_true (key l hl q hq)
  refine ⟨A, B, e, fun b' => ?_, ?_⟩
  · unfold pu
    rw [if_pos (by rw [h]; rfl), e, List.map_append, List.map_cons, hid A b' ha, hid B b' hb, if_pos rfl]
  · unfold rm
    rw [e, List.filter_append, List.filter_cons, if_neg (by simp), hfl A ha, hfl B hb]
theorem pu_mem {κ β : Type} [DecidableEq κ] {m : List (κ × β)} {k : κ} {b : β} {q : κ × β} (h : q ∈ pu m k b) : q ∈ m ∨ q = (k, b) := by
  unfold pu at h
  split at h
  · obtain ⟨z, hz, e⟩ := List.mem_map.mp h
    by_cases hk : z.1 = k
    · rw [if_pos hk] at e
      exact .inr (by rw [← e, hk])
    · rw [if_neg hk] at e
      exact .inl (e ▸ hz)
  · rcases List.mem_append.mp h with h | h
    · exact .inl h
    · exact .inr (List.mem_singleton.mp h)
theorem pu_nd {κ β : Type} [DecidableEq κ] {m : List (κ × β)} {k : κ} (b : β) (h : (m.map (·.1)).Nodup) : ((pu m k b).map (·.1)).Nodup := by
  by_cases e : (fd m k).isSome = true
  · rw [pu_keys_old b e]
    exact h
  · have hn : fd m k = none := by cases e2 : fd m k with
      | none => rfl
      | some v => rw [e2] at e; exact absurd rfl e
    rw [pu_new b hn, List.map_append]
    refine List.nodup_append.mpr ⟨h, List.pairwise_singleton _ _, fun a ha b hb e3 => ?_⟩
    have hb : b = k := List.mem_singleton.mp hb
    rw [e3, hb] at ha
    exact fd_none.mp hn ha
theorem pu_len' {κ β : Type} [DecidableEq κ] (m : List (κ × β)) (k : κ) (b : β) : (pu m k b).length ≤ m.length + 1 := by
  unfold pu
  split
  · rw [List.length_map]; omega
  · rw [List.length_append]; exact Nat.le_refl _
theorem nodup_sub_len : ∀ {l m : List Int}, l.Nodup → (∀ z ∈ l, z ∈ m) → l.length ≤ m.length
  | [], m, _, _ => Nat.zero_le _
  | a :: r, m, nd, h => by
    have nd2 := List.nodup_cons.mp nd
    have ha : a ∈ m := h a (List.mem_cons.mpr (.inl rfl))
    have ih := nodup_sub_len (l := r) (m := m.erase a) nd2.2 fun z hz => (List.mem_erase_of_ne (show z ≠ a from fun e => nd2.1 (e ▸ hz))).mpr (h z (List.mem_cons_of_mem _ hz))
    have e := List.length_erase_of_mem ha
    have := List.length_pos_of_mem ha
    rw [List.length_cons]
    omega
/-! ### more of the store: hands, letting go, values -/
def sp_look_hand (C : Addr) : Sp := fun vs H Q _ => ∃ (p : Addr) (x : List (Str × V)) (s : Sto) (k : Int) (R : List U), vs = [.ref p, .int k] ∧ Has H (stoU C p x s :: R) ∧ StX x ∧ 0 ≤ k ∧ k < s.hands ∧ Q .non H
theorem pure_look_hand {K : PySem.W.Frag} {C : Addr} (hC : StoreC K C) {vs : List V} {H : Hp} {Q : VK} {E : XK} (h : sp_look_hand C vs H Q E) : t_Store_look_hand K sp_is_whole ⟨fun _ H' => Q .non H', Q, fun _ _ => False, fun _ _ => False⟩ (start ["self", "hand"] vs) H := by
  obtain ⟨p, x, s, k, R, rfl, hh, hx, k0, k1, q⟩ := h
  obtain ⟨cl, n1, n2, n3, n4⟩ := hC
  replace hh := hh.cut2
  unfold t_Store_look_hand
  walk_at "go"
  refine ⟨_, _, _, rfl, ?_⟩
  rw [decide_eq_true ⟨k0, by omega⟩]
  walk_at "go"
  exact q
def sp_value_of (C : Addr) : Sp := fun vs H Q _ => ∃ (p : Addr) (x : List (Str × V)) (s : Sto) (k : Int) (R : List U), vs = [.ref p, .int k] ∧ Has H (stoU C p x s :: R) ∧ StX x ∧ k ∈ s.kept ∧ Q (.int (s.vals.getD k.toNat 0)) H
theorem pure_value_of {K : PySem.W.Frag} {C : Addr} (hC : StoreC K C) {vs : List V} {H : Hp} {Q : VK} {E : XK} (h : sp_value_of C vs H Q E) : t_Store_value_of K ⟨fun _ H' => Q .non H', Q, fun _ _ => False, fun _ _ => False⟩ (start ["self", "thing"] vs) H := by
  obtain ⟨p, x, s, k, R, rfl, hh, hx, hk, q⟩ := h
  obtain ⟨cl, n1, n2, n3, n4⟩ := hC
  replace hh := hh.cut2
  have hv := worth_val (vals := s.vals) hk
  unfold t_Store_value_of
  walk_at "go"
  rw [hv]
  walk_at "go"
  refine ifN (by rfl) ?_
  walk_at "go"
  exact q
/-- things let go -/
def Sto.less (s : Sto) (ks : List Int) : Sto := { s with kept := s.kept.filter fun k => decide (k ∉ ks) }
theorem worth_less (vals kept ks : List Int) (k : Int) : dropK (worthOf vals (kept.filter fun z => decide (z ∉ ks))) k = worthOf vals (kept.filter fun z => decide (z ∉ ks ++ [k])) := by
  unfold dropK worthOf
  rw [List.filter_map, List.filter_filter]
  congr 1
  refine List.filter_congr fun z _ => ?_
  show (decide (z ≠ k) && decide (z ∉ ks)) = _
  by_cases h1 : z ∈ ks <;> by_cases h2 : z = k <;> simp [h1, h2]
theorem Sto.ok.less {s : Sto} (ok : s.ok) {ks : List Int} (h : ∀ k ∈ ks, k ∉ s.cells) : (s.less ks).ok where
  c0 := ok.c0
  c5 := ok.c5
  v9 := ok.v9
  rise := ok.rise.filter _
  made := fun k hk => ok.made k (List.mem_filter.mp hk).1
  here := fun k hk => List.mem_filter.mpr ⟨ok.here k hk, by simpa using fun z => h k z hk⟩
  cnd := ok.cnd
def sp_let_go (C : Addr) : Sp := fun vs H Q _ => ∃ (p f : Addr) (x : List (Str × V)) (s : Sto) (ks : List Int) (R : List U), vs = [.ref p, .ref f] ∧ Has H (stoU C p x s :: [(f, .lst (ks.map V.int))] :: R) ∧ StX x ∧ ks.Nodup ∧ (∀ k ∈ ks, k ∈ s.kept) ∧
  ∀ (ys : List Int) (d : Addr) H', ys.Perm ks → ys.Pairwise (· ≤ ·) → Has H' ([(d, .lst (ys.map V.int))] :: stoU C p x (s.less ks) :: [(f, .lst (ks.map V.int))] :: R) → Q (.ref d) H'
theorem pure_let_go {K : PySem.W.Frag} {C : Addr} (hC : StoreC K C) {vs : List V} {H : Hp} {Q : VK} {E : XK} (h : sp_let_go C vs H Q E) : t_Store_let_go K ⟨fun _ H' => Q .non H', Q, fun _ _ => False, fun _ _ => False⟩ (start ["self", "things", "thing"] vs) H := by
  obtain ⟨p, f, x, s, ks, R, rfl, hh, hx, nd, hk, q⟩ := h
  obtain ⟨cl, n1, n2, n3, n4⟩ := hC
  replace hh := hh.cut2
  unfold t_Store_let_go
  walk_at "go"
  refine k_forL (fun i σ H' => ∃ v : Option V, σ = [some (.ref p), some (.ref f), v] ∧ Has H' ([(p, .ins C s.dx (stF (.int s.hands) (.ref s.w) (.ref s.c) (.int s.vals.length) x))] :: [(s.w, dI (worthOf s.vals (s.kept.filter fun z => decide (z ∉ ks.take i))))] :: [(s.c, .lst (s.cells.map V.int))] :: [(f, .lst (ks.map V.int))] :: R)) (by walk_at "hp") ⟨none, rfl, ?_⟩ ?_ ?_ ?_
  · have e : s.kept.filter (fun z => decide (z ∉ ks.take 0)) = s.kept := List.filter_eq_self.mpr fun _ _ => by simp
    rw [e]
    exact hh
  · rintro i σ H' ⟨v, rfl, h'⟩
    walk_at "hp"
  · rintro i y σ H' hi ⟨v, rfl, h'⟩
    rw [List.getElem?_map] at hi
    obtain ⟨k, hk1, rfl⟩ := Option.map_eq_some_iff.mp hi
    have hm : k ∈ ks := List.mem_of_getElem? hk1
    have et : ks.take (i + 1) = ks.take i ++ [k] := by rw [List.take_add_one, hk1]; rfl
    have hnt : k ∉ ks.take i := fun z => by
      have h2 : (ks.take i ++ [k]).Nodup := et ▸ ((List.take_sublist (i + 1) ks).nodup nd)
      rw [List.nodup_append] at h2
      exact h2.2.2 k z k (List.mem_singleton.mpr rfl) rfl
    have hv : valV (worthOf s.vals (s.kept.filter fun z => decide (z ∉ ks.take i))) k = some (.int (s.vals.getD k.toNat 0)) := worth_val (List.mem_filter.mpr ⟨hk k hm, by simpa using hnt⟩)
    walk_at "go"
    rename_i H2 h2
    refine ⟨_, rfl, ?_⟩
    rw [worth_less, ← et] at h2
    exact h2
  · rintro σ H' ⟨v, rfl, h'⟩
    have e : ks.take (ks.map V.int).length = ks := List.take_of_length_le (by rw [List.length_map]; exact Nat.le_refl _)
    rw [e] at h'
    walk_at "go"
    rename_i ys d H2 p1 p2 h2
    exact q ys d H2 p1 p2 ((h2.sub (Sub.p1 (Sub.p1 (Sub.p1 (Sub.p0 Sub.rf))))).glue2.sub (Sub.p1 (Sub.p0 Sub.rf)))
end La
namespace La
open PySem L2 Sy
local macro_rules | `(tactic| walk_at "fl") => `(tactic| first | assumption | exact stF_hands | exact stF_worth | exact stF_cells | exact stF_made | exact StX.f1 (by assumption) | exact StX.f2 (by assumption) | exact StX.f3 (by assumption) | exact StX.f4 (by assumption) | exact StX.f5 (by assumption) | exact StX.f6 (by assumption) | exact StX.f7 (by assumption) | exact StX.f8 (by assumption) | exact StX.f9 (by assumption))
local macro_rules | `(tactic| walk_at "fsl") => `(tactic| first | assumption | exact StX.fl (by assumption))
local macro_rules | `(tactic| walk_at "put") => `(tactic| first | exact stF_put_made | exact stF_put_cells | exact stF_put_worth | exact stF_put_hands)
def rdX (v0 v1 v2 v3 : V) : List (Str × V) := [("era", v0), ("inside", v1), ("saw", v2), ("waits", v3)]
theorem rd_era {h w c m v0 v1 v2 v3 : V} : (stF h w c m (rdX v0 v1 v2 v3)).lookup ("era" : Str) = some v0 := by kernel_rfl
theorem rd_put_era {h w c m v0 v1 v2 v3 u : V} : putF "era" u (stF h w c m (rdX v0 v1 v2 v3)) = stF h w c m (rdX u v1 v2 v3) := by kernel_rfl
theorem rd_inside {h w c m v0 v1 v2 v3 : V} : (stF h w c m (rdX v0 v1 v2 v3)).lookup ("inside" : Str) = some v1 := by kernel_rfl
theorem rd_put_inside {h w c m v0 v1 v2 v3 u : V} : putF "inside" u (stF h w c m (rdX v0 v1 v2 v3)) = stF h w c m (rdX v0 u v2 v3) := by kernel_rfl
theorem rd_saw {h w c m v0 v1 v2 v3 : V} : (stF h w c m (rdX v0 v1 v2 v3)).lookup ("saw" : Str) = some v2 := by kernel_rfl
theorem rd_put_saw {h w c m v0 v1 v2 v3 u : V} : putF "saw" u (stF h w c m (rdX v0 v1 v2 v3)) = stF h w c m (rdX v0 v1 u v3) := by kernel_rfl
theorem rd_waits {h w c m v0 v1 v2 v3 : V} : (stF h w c m (rdX v0 v1 v2 v3)).lookup ("waits" : Str) = some v3 := by kernel_rfl
theorem rd_put_waits {h w c m v0 v1 v2 v3 u : V} : putF "waits" u (stF h w c m (rdX v0 v1 v2 v3)) = stF h w c m (rdX v0 v1 v2 u) := by kernel_rfl
theorem rd_m_enter {h w c m v0 v1 v2 v3 : V} : (stF h w c m (rdX v0 v1 v2 v3)).lookup ("enter" : Str) = none := by kernel_rfl
theorem rd_m_look_in {h w c m v0 v1 v2 v3 : V} : (stF h w c m (rdX v0 v1 v2 v3)).lookup ("look_in" : Str) = none := by kernel_rfl
theorem rd_m_leave {h w c m v0 v1 v2 v3 : V} : (stF h w c m (rdX v0 v1 v2 v3)).lookup ("leave" : Str) = none := by kernel_rfl
theorem rd_m_look {h w c m v0 v1 v2 v3 : V} : (stF h w c m (rdX v0 v1 v2 v3)).lookup ("look" : Str) = none := by kernel_rfl
theorem rd_m_read {h w c m v0 v1 v2 v3 : V} : (stF h w c m (rdX v0 v1 v2 v3)).lookup ("read" : Str) = none := by kernel_rfl
theorem rd_m_go_on {h w c m v0 v1 v2 v3 : V} : (stF h w c m (rdX v0 v1 v2 v3)).lookup ("go_on" : Str) = none := by kernel_rfl
theorem rd_m_round_now {h w c m v0 v1 v2 v3 : V} : (stF h w c m (rdX v0 v1 v2 v3)).lookup ("round_now" : Str) = none := by kernel_rfl
theorem rd_m_hands_in {h w c m v0 v1 v2 v3 : V} : (stF h w c m (rdX v0 v1 v2 v3)).lookup ("hands_in" : Str) = none := by kernel_rfl
theorem rdX_ok {v0 v1 v2 v3 : V} : StX (rdX v0 v1 v2 v3) := ⟨by show 4 < 900; decide, by kernel_rfl, by kernel_rfl, by kernel_rfl, by kernel_rfl, by kernel_rfl, by kernel_rfl, by kernel_rfl, by kernel_rfl, by kernel_rfl⟩
theorem rd_p1 {h w c m u : V} : putF "era" u (stF h w c m []) = stF h w c m [("era", u)] := by kernel_rfl
theorem rd_p2 {h w c m v0 u : V} : putF "inside" u (stF h w c m [("era", v0)]) = stF h w c m [("era", v0), ("inside", u)] := by kernel_rfl
theorem rd_p3 {h w c m v0 v1 u : V} : putF "saw" u (stF h w c m [("era", v0), ("inside", v1)]) = stF h w c m [("era", v0), ("inside", v1), ("saw", u)] := by kernel_rfl
theorem rd_p4 {h w c m v0 v1 v2 u : V} : putF "waits" u (stF h w c m [("era", v0), ("inside", v1), ("saw", v2)]) = stF h w c m (rdX v0 v1 v2 u) := by kernel_rfl
local macro_rules | `(tactic| walk_at "fl") => `(tactic| first | assumption | exact stF_hands | exact stF_worth | exact stF_cells | exact stF_made | exact rd_era | exact rd_inside | exact rd_saw | exact rd_waits | exact rd_m_enter | exact rd_m_look_in | exact rd_m_leave | exact rd_m_look | exact rd_m_read | exact rd_m_go_on | exact rd_m_round_now | exact rd_m_hands_in | exact StX.f1 rdX_ok | exact StX.f2 rdX_ok | exact StX.f3 rdX_ok | exact StX.f4 rdX_ok | exact StX.f5 rdX_ok | exact StX.f6 rdX_ok | exact StX.f7 rdX_ok | exact StX.f8 rdX_ok | exact StX.f9 rdX_ok)
local macro_rules | `(tactic| walk_at "put") => `(tactic| first | exact rd_put_era | exact rd_put_inside | exact rd_put_saw | exact rd_put_waits)
local macro_rules | `(tactic| walk_at "fsl") => `(tactic| first | assumption | exact StX.fl rdX_ok)
/-! ### rounds -/
structure RndC (K : PySem.W.Frag) (C : Addr) : Prop where
  st : StoreC K C
  n1 : NoAttr K C "era"
  n2 : NoAttr K C "inside"
  n3 : NoAttr K C "saw"
  n4 : NoAttr K C "waits"
structure Rnd where
  sto : Sto
  era : Int
  ia : Addr
  sa : Addr
  wa : Addr
  inside : List (Int × Int)
  saw : List (Int × (Addr × List Int))
  waits : List (Int × Int)
def sawU (m : List (Int × (Addr × List Int))) : U := m.map fun q => (q.2.1, HO.lst (q.2.2.map V.int))
abbrev rdx (r : Rnd) : List (Str × V) := rdX (.int r.era) (.ref r.ia) (.ref r.sa) (.ref r.wa)
def sref (q : Addr × List Int) : V := .ref q.1
def rdU (r : Rnd) : U := (r.ia, dI (mv V.int r.inside)) :: (r.sa, dI (mv sref r.saw)) :: (r.wa, dI (mv V.int r.waits)) :: sawU r.saw
def rndU (C p : Addr) (r : Rnd) : U := stoU C p (rdx r) r.sto ++ rdU r
theorem rnd_two {H : Hp} {C p : Addr} {r : Rnd} {R : List U} : Has H (rndU C p r :: R) ↔ Has H (stoU C p (rdx r) r.sto :: rdU r :: R) := Has.op
theorem rnd_cells {H : Hp} {C p : Addr} {r : Rnd} {R : List U} (h : Has H (rndU C p r :: R)) :
    Has H ([(p, .ins C r.sto.dx (stF (.int r.sto.hands) (.ref r.sto.w) (.ref r.sto.c) (.int r.sto.vals.length) (rdx r)))] :: [(r.sto.w, dI (worthOf r.sto.vals r.sto.kept))] :: [(r.sto.c, .lst (r.sto.cells.map V.int))] ::
      [(r.ia, dI (mv V.int r.inside))] :: [(r.sa, dI (mv sref r.saw))] :: [(r.wa, dI (mv V.int r.waits))] :: sawU r.saw :: R) :=
  ((rnd_two.mp h).cut2.sub (Sub.p3 Sub.rf)).cut3.sub (Sub.p4 (Sub.p4 (Sub.p4 (Sub.p0 (Sub.p0 (Sub.p0 (Sub.p0 Sub.rf)))))))
theorem rnd_of {H : Hp} {C p : Addr} {r : Rnd} {R : List U} (h :
    Has H ([(p, .ins C r.sto.dx (stF (.int r.sto.hands) (.ref r.sto.w) (.ref r.sto.c) (.int r.sto.vals.length) (rdx r)))] :: [(r.sto.w, dI (worthOf r.sto.vals r.sto.kept))] :: [(r.sto.c, .lst (r.sto.cells.map V.int))] ::
      [(r.ia, dI (mv V.int r.inside))] :: [(r.sa, dI (mv sref r.saw))] :: [(r.wa, dI (mv V.int r.waits))] :: sawU r.saw :: R)) : Has H (rndU C p r :: R) :=
  rnd_two.mpr (Has.glue2 (((Has.glue3 (h.sub (Sub.p3 (Sub.p3 (Sub.p3 (Sub.p3 Sub.rf)))))).sub (Sub.p1 (Sub.p1 (Sub.p1 (Sub.p0 Sub.rf)))))))
structure Rnd.wf (r : Rnd) : Prop where
  ok : r.sto.ok
  keys : r.saw.map (·.1) = r.inside.map (·.1)
  nd : (r.inside.map (·.1)).Nodup
  hr : ∀ k ∈ r.inside.map (·.1), 0 ≤ k ∧ k < r.sto.hands
  h6 : r.sto.hands ≤ 6
  nw : (r.waits.map (·.1)).Nodup
  lw : r.waits.length ≤ r.sto.vals.length
  wk : ∀ k ∈ r.waits.map (·.1), k ∈ r.sto.kept ∧ k ∉ r.sto.cells
theorem nodup_len : ∀ {n : Nat} {l : List Int}, l.Nodup → (∀ k ∈ l, 0 ≤ k ∧ k < n) → l.length ≤ n
  | 0, [], _, _ => Nat.le_refl _
  | 0, a :: r, _, h => by have := h a (List.mem_cons.mpr (.inl rfl)); omega
  | n + 1, l, nd, h => by
    by_cases hm : (n : Int) ∈ l
    · have e := List.length_erase_of_mem hm
      have ih := nodup_len (n := n) (l := l.erase (n : Int)) (nd.erase _) fun k hk => by
        have h2 := nd.mem_erase_iff.mp hk
        have h3 := h k h2.2
        have h4 := h2.1
        omega
      have := List.length_pos_of_mem hm
      omega
    · have ih := nodup_len (n := n) (l := l) nd fun k hk => by
        have h3 := h k hk
        have h4 : k ≠ (n : Int) := fun e => hm (e ▸ hk)
        omega
      omega
theorem Rnd.wf.l1 {r : Rnd} (w : r.wf) : r.inside.length ≤ 6 := by
  have h6 := w.h6
  have := nodup_len (n := 6) w.nd fun k hk => by have := w.hr k hk; omega
  rw [List.length_map] at this
  exact this
theorem Rnd.wf.l2 {r : Rnd} (w : r.wf) : r.waits.length ≤ 1000 := Nat.le_trans w.lw w.ok.v9
theorem Rnd.wf.room {r : Rnd} (w : r.wf) {k : Int} (k0 : 0 ≤ k) (k1 : k < r.sto.hands) (h : fd r.inside k = none) : r.inside.length < 6 := by
  have h6 := w.h6
  have := nodup_len (n := 6) (l := k :: r.inside.map (·.1)) (List.nodup_cons.mpr ⟨fd_none.mp h, w.nd⟩) fun j hj => by
    rcases List.mem_cons.mp hj with e | hj
    · subst e; omega
    · have := w.hr j hj; omega
  rw [List.length_cons, List.length_map] at this
  omega
/-- making -/
def Rnd.new (s : Sto) (ia sa wa : Addr) : Rnd := ⟨s, 0, ia, sa, wa, [], [], []⟩
def sp_rinit (C : Addr) : Sp := fun vs H Q _ => ∃ (p dx : Addr) (h n : Int) (R : List U), vs = [.ref p, .int h, .int n] ∧ Has H ([(p, .ins C dx [])] :: R) ∧ 1 ≤ h ∧ h ≤ 6 ∧ 1 ≤ n ∧ n ≤ 5 ∧
  ∀ w c ia sa wa H', Has H' (rndU C p (Rnd.new (Sto.new dx w c h n) ia sa wa) :: R) → Q .non H'
section
local macro_rules | `(tactic| walk_at "put") => `(tactic| first | exact rd_p1 | exact rd_p2 | exact rd_p3 | exact rd_p4)
local macro_rules | `(tactic| walk_at "fsl") => `(tactic| first | assumption | (show 4 < 1000; decide) | (show 5 < 1000; decide) | (show 6 < 1000; decide) | (show 7 < 1000; decide))
theorem pure_rinit {K : PySem.W.Frag} {C CS : Addr} (hC : RndC K C) {vs : List V} {H : Hp} {Q : VK} {E : XK} (h : sp_rinit C vs H Q E) : t_Rounds_init K CS (sp_init C) ⟨fun _ H' => Q .non H', Q, fun _ _ => False, fun _ _ => False⟩ (start ["self", "hands", "cells"] vs) H := by
  obtain ⟨p, dx, h, n, R, rfl, hh, h1, h6, n1', n5, q⟩ := h
  obtain ⟨⟨cl, n1, n2, n3, n4⟩, m1, m2, m3, m4⟩ := hC
  unfold t_Rounds_init
  walk_at "go"
  refine ⟨p, dx, h, n, R, rfl, hh, h1, h6, n1', n5, fun w c H1 hh1 => ?_⟩
  replace hh1 := hh1.cut2
  walk_at "go"
  rename_i H2 h2 ia H3 h3 H4 h4 sa H5 h5 H6 h6 wa H7 h7 H8 h8
  refine q w c ia sa wa H8 (rnd_of (Has.sub (Has.nilU.mpr h8) ?_))
  show Sub ([(p, .ins C dx (stF (.int h) (.ref w) (.ref c) (.int (Sto.new dx w c h n).vals.length) (rdX (.int 0) (.ref ia) (.ref sa) (.ref wa))))] :: [(w, dI (worthOf (Sto.new dx w c h n).vals (rgI n)))] :: [(c, .lst ((rgI n).map V.int))] :: [(ia, dI [])] :: [(sa, dI [])] :: [(wa, dI [])] :: [] :: R) _
  walk_at "sub"
end
theorem Rnd.new_wf {dx w c ia sa wa : Addr} {h n : Int} (h6 : h ≤ 6) (h1 : 1 ≤ n) (h5 : n ≤ 5) : (Rnd.new (Sto.new dx w c h n) ia sa wa).wf :=
  ⟨Sto.new_ok h1 h5, rfl, List.nodup_nil, fun k hk => absurd hk List.not_mem_nil, h6, List.nodup_nil, Nat.zero_le _, fun k hk => absurd hk List.not_mem_nil⟩
def sp_rlook_in (C : Addr) : Sp := fun vs H Q _ => ∃ (p : Addr) (r : Rnd) (k : Int) (R : List U), vs = [.ref p, .int k] ∧ Has H (rndU C p r :: R) ∧ 0 ≤ k ∧ k < r.sto.hands ∧ (fd r.inside k).isSome = true ∧ Q .non H
theorem pure_rlook_in {K : PySem.W.Frag} {C : Addr} (hC : RndC K C) {vs : List V} {H : Hp} {Q : VK} {E : XK} (h : sp_rlook_in C vs H Q E) : t_Rounds_look_in K C (sp_look_hand C) ⟨fun _ H' => Q .non H', Q, fun _ _ => False, fun _ _ => False⟩ (start ["self", "hand"] vs) H := by
  obtain ⟨p, r, k, R, rfl, hh, k0, k1, hi, q⟩ := h
  obtain ⟨⟨cl, n1, n2, n3, n4⟩, m1, m2, m3, m4⟩ := hC
  have h2 := rnd_two.mp hh
  have h3 := rnd_cells hh
  unfold t_Rounds_look_in
  walk_at "go"
  refine ⟨p, _, r.sto, k, _, rfl, h2, rdX_ok, k0, k1, ?_⟩
  walk_at "go"
  rw [mv_isSome, hi]
  walk_at "go"
  exact q
def sp_enter (C : Addr) : Sp := fun vs H Q _ => ∃ (p : Addr) (r : Rnd) (k : Int) (R : List U), vs = [.ref p, .int k] ∧ Has H (rndU C p r :: R) ∧ r.wf ∧ 0 ≤ k ∧ k < r.sto.hands ∧ fd r.inside k = none ∧ r.inside.length < 6 ∧
  ∀ l H', Has H' (rndU C p { r with inside := r.inside ++ [(k, r.era)], saw := r.saw ++ [(k, (l, []))] } :: R) → Q (.int r.era) H'
theorem Rnd.wf.slen {r : Rnd} (w : r.wf) : r.saw.length ≤ 6 := by
  have := congrArg List.length w.keys
  rw [List.length_map, List.length_map] at this
  have := w.l1
  omega
theorem pure_enter {K : PySem.W.Frag} {C : Addr} (hC : RndC K C) {vs : List V} {H : Hp} {Q : VK} {E : XK} (h : sp_enter C vs H Q E) : t_Rounds_enter K C (sp_look_hand C) ⟨fun _ H' => Q .non H', Q, fun _ _ => False, fun _ _ => False⟩ (start ["self", "hand"] vs) H := by
  obtain ⟨p, r, k, R, rfl, hh, w, k0, k1, hi, hl, q⟩ := h
  obtain ⟨⟨cl, n1, n2, n3, n4⟩, m1, m2, m3, m4⟩ := hC
  have h2 := rnd_two.mp hh
  have h3 := rnd_cells hh
  have sl := w.slen
  have e1 : (mv V.int r.inside).length < sizeLine := by rw [mv_len, sizeLine_eq]; omega
  have e2 : (mv sref r.saw).length < sizeLine := by rw [mv_len, sizeLine_eq]; omega
  have hs : fd r.saw k = none := by
    have := fd_none.mp hi
    exact fd_none.mpr (by rw [w.keys]; exact this)
  unfold t_Rounds_enter
  walk_at "go"
  refine ⟨p, _, r.sto, k, _, rfl, h2, rdX_ok, k0, k1, ?_⟩
  clear h2 hh
  walk_at "go"
  have hi' : (fd r.inside k).isSome = false := by rw [hi]; rfl
  rw [mv_isSome, hi']
  walk_at "go"
  rename_i H1 g1 l H2 g2 H3 g3
  refine q l H3 (rnd_of ?_)
  have e4 : putK (mv V.int r.inside) k (.int r.era) = mv V.int (r.inside ++ [(k, r.era)]) := by rw [mv_put, pu_new _ hi]
  have e5 : putK (mv sref r.saw) k (.ref l) = mv sref (r.saw ++ [(k, (l, []))]) := by rw [show V.ref l = sref (l, []) from rfl, mv_put, pu_new _ hs]
  rw [e4, e5] at g3
  have e6 : sawU (r.saw ++ [(k, (l, []))]) = sawU r.saw ++ [(l, .lst [])] := by unfold sawU; rw [List.map_append]; rfl
  show Has H3 ([(p, .ins C r.sto.dx (stF (.int r.sto.hands) (.ref r.sto.w) (.ref r.sto.c) (.int r.sto.vals.length) (rdx r)))] :: [(r.sto.w, dI (worthOf r.sto.vals r.sto.kept))] :: [(r.sto.c, .lst (r.sto.cells.map V.int))] ::
      [(r.ia, dI (mv V.int (r.inside ++ [(k, r.era)])))] :: [(r.sa, dI (mv sref (r.saw ++ [(k, (l, []))])))] :: [(r.wa, dI (mv V.int r.waits))] :: sawU (r.saw ++ [(k, (l, []))]) :: R)
  rw [e6]
  exact (Has.op.mpr (g3.sub (show Sub (sawU r.saw :: [(l, .lst [])] :: _) _ from Sub.p7 (Sub.p0 Sub.rf)))).sub (Sub.p1 (Sub.p1 (Sub.p1 (Sub.p1 (Sub.p1 (Sub.p1 (Sub.p0 Sub.rf)))))))
theorem Has.lessU {H : Hp} {A B : U} {L : List U} (h : Has H (A :: L)) (s : B.Sublist A) : Has H (B :: L) := by
  obtain ⟨n, a⟩ := h
  have sl : (B :: L).flatten.Sublist (A :: L).flatten := by
    show (B ++ L.flatten).Sublist (A ++ L.flatten)
    exact s.append_right _
  exact ⟨(sl.map _).nodup n, fun p hp => a p (sl.subset hp)⟩
def sp_leave (C : Addr) : Sp := fun vs H Q _ => ∃ (p : Addr) (r : Rnd) (k : Int) (R : List U), vs = [.ref p, .int k] ∧ Has H (rndU C p r :: R) ∧ r.wf ∧ 0 ≤ k ∧ k < r.sto.hands ∧ (fd r.inside k).isSome = true ∧
  ∀ H', Has H' (rndU C p { r with inside := rm r.inside k, saw := rm r.saw k } :: R) → Q .non H'
theorem pure_leave {K : PySem.W.Frag} {C : Addr} (hC : RndC K C) {vs : List V} {H : Hp} {Q : VK} {E : XK} (h : sp_leave C vs H Q E) : t_Rounds_leave K C (sp_rlook_in C) ⟨fun _ H' => Q .non H', Q, fun _ _ => False, fun _ _ => False⟩ (start ["self", "hand"] vs) H := by
  obtain ⟨p, r, k, R, rfl, hh, w, k0, k1, hi, q⟩ := h
  obtain ⟨⟨cl, n1, n2, n3, n4⟩, m1, m2, m3, m4⟩ := hC
  have h3 := rnd_cells hh
  obtain ⟨e, he⟩ := Option.isSome_iff_exists.mp hi
  have hs : (fd r.saw k).isSome = true := by
    have := fd_isSome.mp hi
    exact fd_isSome.mpr (by rw [w.keys]; exact this)
  obtain ⟨b, hb⟩ := Option.isSome_iff_exists.mp hs
  have v1 : valV (mv V.int r.inside) k = some (.int e) := mv_some he
  have v2 : valV (mv sref r.saw) k = some (sref b) := mv_some hb
  unfold t_Rounds_leave
  walk_at "go"
  refine ⟨p, r, k, R, rfl, hh, k0, k1, hi, ?_⟩
  walk_at "go"
  rename_i H1 g1 H2 g2
  refine q H2 (rnd_of ?_)
  rw [mv_drop, mv_drop] at g2
  have g3 := Has.lessU (g2.sub (Sub.p6 Sub.rf)) (show (sawU (rm r.saw k)).Sublist (sawU r.saw) from (rm_sub r.saw k).map _)
  exact g3.sub (Sub.p1 (Sub.p1 (Sub.p1 (Sub.p1 (Sub.p1 (Sub.p1 (Sub.p0 Sub.rf)))))))
/-- one list of the family at hand -/
theorem saw_split {m : List (Int × (Addr × List Int))} {k : Int} {l : Addr} {xs : List Int} (h : fd m k = some (l, xs)) : ∃ A B, m = A ++ (k, (l, xs)) :: B ∧ k ∉ A.map (·.1) ∧ sawU m = sawU A ++ (l, .lst (xs.map V.int)) :: sawU B := by
  obtain ⟨A, B, rfl, hk⟩ := fd_split h
  exact ⟨A, B, rfl, hk, by unfold sawU; rw [List.map_append, List.map_cons]⟩
theorem Has.at3 {H : Hp} {A B : U} {c : Addr × HO} {L : List U} : Has H ((A ++ c :: B) :: L) ↔ Has H ([c] :: A :: B :: L) := by
  constructor
  · intro h
    exact (Has.cut ((Has.op.mp h).sub (Sub.p1 Sub.rf))).sub (Sub.p0 (Sub.p1 (Sub.p0 Sub.rf)))
  · intro h
    exact Has.op.mpr ((Has.glue (h.sub (Sub.p0 (Sub.p1 Sub.rf)))).sub (Sub.p1 (Sub.p0 Sub.rf)))
def sawAdd (m : List (Int × (Addr × List Int))) (k x : Int) : List (Int × (Addr × List Int)) := m.map fun q => if q.1 = k then (q.1, (q.2.1, q.2.2 ++ [x])) else q
theorem sawAdd_split {A B : List (Int × (Addr × List Int))} {k x : Int} {l : Addr} {xs : List Int} (nd : ((A ++ (k, (l, xs)) :: B).map (·.1)).Nodup) : sawAdd (A ++ (k, (l, xs)) :: B) k x = A ++ (k, (l, xs ++ [x])) :: B := by
  rw [List.map_append, List.map_cons, List.nodup_append] at nd
  obtain ⟨_, n2, n3⟩ := nd
  have n4 := (List.nodup_cons.mp n2).1
  unfold sawAdd
  rw [List.map_append, List.map_cons]
  have eA : A.map (fun q => if q.1 = k then (q.1, (q.2.1, q.2.2 ++ [x])) else q) = A := (List.map_congr_left (g := id) fun q hq => if_neg (n3 q.1 (List.mem_map.mpr ⟨q, hq, rfl⟩) k (List.mem_cons.mpr (.inl rfl)))).trans (List.map_id A)
  have eB : B.map (fun q => if q.1 = k then (q.1, (q.2.1, q.2.2 ++ [x])) else q) = B := (List.map_congr_left (g := id) fun q hq => if_neg fun e => n4 (List.mem_map.mpr ⟨q, hq, e⟩)).trans (List.map_id B)
  rw [eA, eB, if_pos rfl]
theorem sawAdd_keys (m : List (Int × (Addr × List Int))) (k x : Int) : (sawAdd m k x).map (·.1) = m.map (·.1) := by
  unfold sawAdd
  rw [List.map_map]
  refine List.map_congr_left fun q _ => ?_
  show (if q.1 = k then (q.1, (q.2.1, q.2.2 ++ [x])) else q).1 = q.1
  split <;> rfl
theorem sawAdd_refs (m : List (Int × (Addr × List Int))) (k x : Int) : mv sref (sawAdd m k x) = mv sref m := by
  unfold mv sawAdd
  rw [List.map_map]
  refine List.map_congr_left fun q _ => ?_
  show ((if q.1 = k then (q.1, (q.2.1, q.2.2 ++ [x])) else q).1, sref (if q.1 = k then (q.1, (q.2.1, q.2.2 ++ [x])) else q).2) = (q.1, sref q.2)
  split <;> rfl
theorem sawAdd_fd (m : List (Int × (Addr × List Int))) (k x j : Int) : fd (sawAdd m k x) j = (fd m j).map fun b => if j = k then (b.1, b.2 ++ [x]) else b := by
  induction m with
  | nil => rfl
  | cons p r ih =>
    show fd ((if p.1 = k then (p.1, (p.2.1, p.2.2 ++ [x])) else p) :: sawAdd r k x) j = _
    by_cases e : p.1 = k
    · rw [if_pos e]
      by_cases ej : p.1 = j
      · rw [fd_pos (p := (p.1, (p.2.1, p.2.2 ++ [x]))) ej, fd_pos ej, Option.map_some, if_pos (ej.symm.trans e)]
      · rw [fd_neg (p := (p.1, (p.2.1, p.2.2 ++ [x]))) ej, fd_neg ej, ih]
    · rw [if_neg e]
      by_cases ej : p.1 = j
      · rw [fd_pos ej, fd_pos ej, Option.map_some, if_neg (fun z => e (ej.trans z))]
      · rw [fd_neg ej, fd_neg ej, ih]
def sp_look (C : Addr) : Sp := fun vs H Q _ => ∃ (p : Addr) (r : Rnd) (k c : Int) (R : List U), vs = [.ref p, .int k, .int c] ∧ Has H (rndU C p r :: R) ∧ r.wf ∧ 0 ≤ k ∧ k < r.sto.hands ∧ (fd r.inside k).isSome = true ∧ 0 ≤ c ∧ c < r.sto.cells.length ∧ (∀ q ∈ r.saw, q.2.2.length ≤ 1000) ∧
  ∀ H', Has H' (rndU C p { r with saw := sawAdd r.saw k (r.sto.cells.getD c.toNat 0) } :: R) → Q (.int (r.sto.cells.getD c.toNat 0)) H'
theorem pure_look {K : PySem.W.Frag} {C : Addr} (hC : RndC K C) {vs : List V} {H : Hp} {Q : VK} {E : XK} (h : sp_look C vs H Q E) : t_Rounds_look K C (sp_rlook_in C) (sp_look_cell C) ⟨fun _ H' => Q .non H', Q, fun _ _ => False, fun _ _ => False⟩ (start ["self", "hand", "cell"] vs) H := by
  obtain ⟨p, r, k, c, R, rfl, hh, w, k0, k1, hi, c0, c1, hls, q⟩ := h
  obtain ⟨⟨cl, n1, n2, n3, n4⟩, m1, m2, m3, m4⟩ := hC
  have h2 := rnd_two.mp hh
  have h3 := rnd_cells hh
  have hs : (fd r.saw k).isSome = true := by
    have := fd_isSome.mp hi
    exact fd_isSome.mpr (by rw [w.keys]; exact this)
  obtain ⟨⟨l, xs⟩, hb⟩ := Option.isSome_iff_exists.mp hs
  have v2 : valV (mv sref r.saw) k = some (.ref l) := mv_some hb
  obtain ⟨A, B, em, hkA, eU⟩ := saw_split hb
  have hl := hls _ (fd_mem hb)
  have hl : xs.length ≤ 1000 := hl
  rw [eU] at h3
  have h4 := Has.at3.mp (h3.sub (Sub.p6 Sub.rf))
  have ea := at_ints c0 c1
  have sz : (xs.map V.int).length < sizeLine := by rw [List.length_map, sizeLine_eq]; omega
  unfold t_Rounds_look
  walk_at "go"
  refine ⟨p, r, k, R, rfl, hh, k0, k1, hi, ?_⟩
  walk_at "go"
  refine ⟨p, _, r.sto, c, _, rfl, h2, rdX_ok, c0, c1, ?_⟩
  walk_at "go"
  rename_i H1 g1
  refine q H1 (rnd_of ?_)
  have nd : ((A ++ (k, (l, xs)) :: B).map (·.1)).Nodup := by rw [← em, w.keys]; exact w.nd
  have eS : sawU (sawAdd r.saw k (r.sto.cells.getD c.toNat 0)) = sawU A ++ (l, .lst ((xs ++ [r.sto.cells.getD c.toNat 0]).map V.int)) :: sawU B := by
    rw [em, sawAdd_split nd]
    unfold sawU
    rw [List.map_append, List.map_cons]
  show Has H1 ([(p, .ins C r.sto.dx (stF (.int r.sto.hands) (.ref r.sto.w) (.ref r.sto.c) (.int r.sto.vals.length) (rdx r)))] :: [(r.sto.w, dI (worthOf r.sto.vals r.sto.kept))] :: [(r.sto.c, .lst (r.sto.cells.map V.int))] ::
      [(r.ia, dI (mv V.int r.inside))] :: [(r.sa, dI (mv sref (sawAdd r.saw k (r.sto.cells.getD c.toNat 0))))] :: [(r.wa, dI (mv V.int r.waits))] :: sawU (sawAdd r.saw k (r.sto.cells.getD c.toNat 0)) :: R)
  rw [sawAdd_refs, eS, List.map_append]
  exact (Has.at3.mpr g1).sub (Sub.p1 (Sub.p1 (Sub.p1 (Sub.p1 (Sub.p1 (Sub.p1 (Sub.p0 Sub.rf)))))))
def sp_rread (C : Addr) : Sp := fun vs H Q _ => ∃ (p : Addr) (r : Rnd) (k z : Int) (l : Addr) (xs : List Int) (R : List U), vs = [.ref p, .int k, .int z] ∧ Has H (rndU C p r :: R) ∧ 0 ≤ k ∧ k < r.sto.hands ∧ (fd r.inside k).isSome = true ∧ fd r.saw k = some (l, xs) ∧ z ∈ xs ∧ z ∈ r.sto.kept ∧
  Q (.int (r.sto.vals.getD z.toNat 0)) H
theorem pure_rread {K : PySem.W.Frag} {C : Addr} (hC : RndC K C) {vs : List V} {H : Hp} {Q : VK} {E : XK} (h : sp_rread C vs H Q E) : t_Rounds_read K C (sp_rlook_in C) (sp_value_of C) ⟨fun _ H' => Q .non H', Q, fun _ _ => False, fun _ _ => False⟩ (start ["self", "hand", "thing"] vs) H := by
  obtain ⟨p, r, k, z, l, xs, R, rfl, hh, k0, k1, hi, hb, hz, hk, q⟩ := h
  obtain ⟨⟨cl, n1, n2, n3, n4⟩, m1, m2, m3, m4⟩ := hC
  have h2 := rnd_two.mp hh
  have h3 := rnd_cells hh
  have v2 : valV (mv sref r.saw) k = some (.ref l) := mv_some hb
  obtain ⟨A, B, em, hkA, eU⟩ := saw_split hb
  rw [eU] at h3
  have h4 := Has.at3.mp (h3.sub (Sub.p6 Sub.rf))
  unfold t_Rounds_read
  walk_at "go"
  refine ⟨p, r, k, R, rfl, hh, k0, k1, hi, ?_⟩
  walk_at "go"
  rw [decide_eq_true hz]
  walk_at "go"
  exact ⟨p, _, r.sto, z, _, rfl, h2, rdX_ok, hk, q⟩
/-- a thing put out waits -/
def sp_rafter (C : Addr) : Sp := fun vs H Q _ => ∃ (p : Addr) (r : Rnd) (z : Int) (R : List U), vs = [.ref p, .int z] ∧ Has H (rndU C p r :: R) ∧ r.waits.length ≤ 1000 ∧
  ∀ H', Has H' (rndU C p { r with waits := pu r.waits z r.era } :: R) → Q .non H'
theorem pure_rafter {K : PySem.W.Frag} {C : Addr} (hC : RndC K C) {vs : List V} {H : Hp} {Q : VK} {E : XK} (h : sp_rafter C vs H Q E) : t_Rounds_after_swap K ⟨fun _ H' => Q .non H', Q, fun _ _ => False, fun _ _ => False⟩ (start ["self", "thing"] vs) H := by
  obtain ⟨p, r, z, R, rfl, hh, hl, q⟩ := h
  obtain ⟨⟨cl, n1, n2, n3, n4⟩, m1, m2, m3, m4⟩ := hC
  have h3 := rnd_cells hh
  have e1 : (mv V.int r.waits).length < sizeLine := by rw [mv_len, sizeLine_eq]; omega
  unfold t_Rounds_after_swap
  walk_at "go"
  rename_i H1 g1
  rw [mv_put] at g1
  exact q H1 (rnd_of g1)

/-- rounds go on -/
def Rnd.free (r : Rnd) : Prop := ∀ q ∈ r.inside, q.2 = r.era
def Rnd.gone (r : Rnd) : List Int := (r.waits.map (·.1)).filter fun k => decide ((fd r.waits k).getD 0 ≤ r.era + 1 - 2)
def Rnd.next (r : Rnd) : Rnd := { r with era := r.era + 1, sto := r.sto.less r.gone, waits := rms r.waits r.gone }
def sp_go_on (C : Addr) : Sp := fun vs H Q _ => ∃ (p : Addr) (r : Rnd) (R : List U), vs = [.ref p] ∧ Has H (rndU C p r :: R) ∧ r.wf ∧
  (¬ r.free → ∀ H', Has H' (rndU C p r :: R) → Q .non H') ∧
  (r.free → ∀ (ys : List Int) (d : Addr) H', ys.Perm r.gone → ys.Pairwise (· ≤ ·) → Has H' ([(d, .lst (ys.map V.int))] :: rndU C p r.next :: R) → Q (.ref d) H')
theorem pure_go_on {K : PySem.W.Frag} {C : Addr} (hC : RndC K C) {vs : List V} {H : Hp} {Q : VK} {E : XK} (h : sp_go_on C vs H Q E) : t_Rounds_go_on K C (sp_let_go C) ⟨fun _ H' => Q .non H', Q, fun _ _ => False, fun _ _ => False⟩ (start ["self", "hand", "found", "thing"] vs) H := by
  obtain ⟨p, r, R, rfl, hh, w, q1, q2⟩ := h
  have hC' := hC.st
  obtain ⟨⟨cl, n1, n2, n3, n4⟩, m1, m2, m3, m4⟩ := hC
  have h3 := rnd_cells hh
  have l1 := w.l1
  have l2 := w.l2
  have hin : ∀ z ∈ (mv V.int r.inside).map (·.1), valV (mv V.int r.inside) z = some (.int ((fd r.inside z).getD 0)) := fun z hz => by
    rw [mv_keys] at hz
    obtain ⟨e, he⟩ := Option.isSome_iff_exists.mp (fd_isSome.mpr hz)
    rw [mv_some he, he]
    rfl
  unfold t_Rounds_go_on
  walk_at "go"
  refine x_lcD (d := r.ia) (L := _) (fun z => .bl (decide ((fd r.inside z).getD 0 = r.era))) (fun _ => true) (h3.sub (Sub.p3 Sub.rf)) (by rw [mv_len]; omega) (fun o H' Q' h' q' => ?_) (fun o z hz D M H' Q' h' q' => q' H' h') (fun o z hz _ D M H' Q' h' q' => ?_) fun D H1 h1 => ?_
  · walk_at "go"
    exact q'
  · have hv := hin z hz
    walk_at "go"
    exact q' H' h'
  have eb : ((mv V.int r.inside).map (·.1)).filter (fun _ => true) = r.inside.map (·.1) := by rw [filt_true, mv_keys]
  have eb2 : (r.inside.map (·.1)).map (fun z => V.bl (decide ((fd r.inside z).getD 0 = r.era))) = ((r.inside.map (·.1)).map fun z => decide ((fd r.inside z).getD 0 = r.era)).map V.bl := by rw [List.map_map (g := V.bl)]; rfl
  rw [eb, eb2] at h1
  walk_at "go"
  have ef : (((r.inside.map (·.1)).map fun z => decide ((fd r.inside z).getD 0 = r.era)).all id = true) ↔ r.free := by
    rw [List.all_map, List.all_map, List.all_eq_true]
    constructor
    · intro hA q hq
      have h4 : decide ((fd r.inside q.1).getD 0 = r.era) = true := hA q hq
      rw [fd_of w.nd (show (q.1, q.2) ∈ r.inside from hq)] at h4
      simpa using h4
    · intro hA q hq
      show decide ((fd r.inside q.1).getD 0 = r.era) = true
      rw [fd_of w.nd (show (q.1, q.2) ∈ r.inside from hq)]
      simpa using hA q hq
  refine ifB (fun hb => ?_) (fun hb => ?_)
  · have hnf : ¬ r.free := fun z => by rw [ef.mpr z] at hb; cases hb
    walk_at "go"
    exact q1 hnf H1 (rnd_of (h1.sub (Sub.p2 (Sub.p2 (Sub.p2 (Sub.p1 (Sub.p1 (Sub.p1 (Sub.p1 (Sub.skip Sub.rf))))))))))
  · have hf : r.free := ef.mp (by simpa using hb)
    walk_at "go"
    rename_i H2 h2
    have hwt : ∀ z ∈ (mv V.int r.waits).map (·.1), valV (mv V.int r.waits) z = some (.int ((fd r.waits z).getD 0)) := fun z hz => by
      rw [mv_keys] at hz
      obtain ⟨e, he⟩ := Option.isSome_iff_exists.mp (fd_isSome.mpr hz)
      rw [mv_some he, he]
      rfl
    refine x_asgD (d := r.wa) (fun z => .int z) (fun z => decide ((fd r.waits z).getD 0 ≤ r.era + 1 - 2)) (h2.sub (show Sub ([(r.wa, dI (mv V.int r.waits))] :: _) _ by walk_at "sub")) (by rw [mv_len]; omega) (fun o H' Q' h' q' => ?_) (fun o z hz D M H' Q' h' q' => ?_) (fun o z hz _ D M H' Q' h' q' => ?_) fun f H4 h4 => ?_
    · walk_at "go"
      exact q'
    · have hv := hwt z hz
      walk_at "go"
      exact q' H' h'
    · walk_at "go"
      exact q' H' h'
    · rw [mv_keys] at h4
      have eg : (r.waits.map (·.1)).filter (fun z => decide ((fd r.waits z).getD 0 ≤ r.era + 1 - 2)) = r.gone := rfl
      rw [eg] at h4
      have hgn : r.gone.Nodup := (List.filter_sublist).nodup w.nw
      have hgm : ∀ k ∈ r.gone, k ∈ r.waits.map (·.1) := fun k hk => (List.mem_filter.mp hk).1
      walk_at "go"
      refine k_forL (fun i σ H' => ∃ v : Option V, σ = [some (.ref p), none, some (.ref f), v] ∧ Has H' ([(r.wa, dI (mv V.int (rms r.waits (r.gone.take i))))] :: [(f, .lst (r.gone.map V.int))] :: [(p, .ins C r.sto.dx (stF (.int r.sto.hands) (.ref r.sto.w) (.ref r.sto.c) (.int r.sto.vals.length) (rdX (.int (r.era + 1)) (.ref r.ia) (.ref r.sa) (.ref r.wa))))] :: [(r.sto.w, dI (worthOf r.sto.vals r.sto.kept))] :: [(r.sto.c, .lst (r.sto.cells.map V.int))] :: [(r.ia, dI (mv V.int r.inside))] :: [(r.sa, dI (mv sref r.saw))] :: sawU r.saw :: R)) (by walk_at "hp") ⟨none, rfl, ?_⟩ ?_ ?_ ?_
      · rw [List.take_zero, rms_nil]
        walk_at "has"
      · rintro i σ H' ⟨v, rfl, h'⟩
        walk_at "hp"
      · rintro i y σ H' hi ⟨v, rfl, h'⟩
        rw [List.getElem?_map] at hi
        obtain ⟨k, hk1, rfl⟩ := Option.map_eq_some_iff.mp hi
        have hm : k ∈ r.gone := List.mem_of_getElem? hk1
        have et : r.gone.take (i + 1) = r.gone.take i ++ [k] := by rw [List.take_add_one, hk1]; rfl
        have hnt : k ∉ r.gone.take i := fun z => by
          have h2 : (r.gone.take i ++ [k]).Nodup := et ▸ ((List.take_sublist (i + 1) r.gone).nodup hgn)
          rw [List.nodup_append] at h2
          exact h2.2.2 k z k (List.mem_singleton.mpr rfl) rfl
        have hs : (fd (rms r.waits (r.gone.take i)) k).isSome = true := by
          rw [fd_isSome]
          obtain ⟨qq, hq, e⟩ := List.mem_map.mp (hgm k hm)
          exact List.mem_map.mpr ⟨qq, List.mem_filter.mpr ⟨hq, by rw [e]; simpa using hnt⟩, e⟩
        obtain ⟨b, hb2⟩ := Option.isSome_iff_exists.mp hs
        have hv : valV (mv V.int (rms r.waits (r.gone.take i))) k = some (.int b) := mv_some hb2
        walk_at "go"
        rename_i H5 h5
        refine ⟨_, rfl, ?_⟩
        rw [mv_drop, rms_snoc, ← et] at h5
        exact h5
      · rintro σ H' ⟨v, rfl, h'⟩
        have e : r.gone.take (r.gone.map V.int).length = r.gone := List.take_of_length_le (by rw [List.length_map]; exact Nat.le_refl _)
        rw [e] at h'
        walk_at "go"
        refine ⟨p, f, rdX (.int (r.era + 1)) (.ref r.ia) (.ref r.sa) (.ref r.wa), r.sto, r.gone, [(r.wa, dI (mv V.int (rms r.waits r.gone)))] :: [(r.ia, dI (mv V.int r.inside))] :: [(r.sa, dI (mv sref r.saw))] :: sawU r.saw :: R, rfl, ?_, rdX_ok, hgn, fun k hk => (w.wk k (hgm k hk)).1, fun ys d H6 p1 p2 h6 => ?_⟩
        · refine Has.glue2 ?_
          walk_at "has"
        · refine q2 hf ys d H6 p1 p2 ?_
          have h7 := (h6.sub (Sub.p1 Sub.rf)).cut2
          exact (rnd_of (r := r.next) (h7.sub (show Sub ([(p, _)] :: [(r.sto.w, _)] :: [(r.sto.c, _)] :: [(r.ia, _)] :: [(r.sa, _)] :: [(r.wa, _)] :: sawU r.saw :: [(d, .lst (ys.map V.int))] :: R) _ by walk_at "sub"))).sub (Sub.p1 (Sub.p0 Sub.rf))

/-! what the deeds do to a store by rounds, in numbers -/
def Rnd.enter (r : Rnd) (k : Int) (l : Addr) : Rnd := { r with inside := r.inside ++ [(k, r.era)], saw := r.saw ++ [(k, (l, []))] }
def Rnd.leave (r : Rnd) (k : Int) : Rnd := { r with inside := rm r.inside k, saw := rm r.saw k }
def Rnd.look (r : Rnd) (k c : Int) : Rnd := { r with saw := sawAdd r.saw k (r.sto.cells.getD c.toNat 0) }
def Rnd.swap (r : Rnd) (i v : Int) : Rnd := { r with sto := r.sto.swap i v, waits := pu r.waits (r.sto.cells.getD i.toNat 0) r.era }
theorem rm_keys {β : Type} (m : List (Int × β)) (k : Int) : (rm m k).map (·.1) = (m.map (·.1)).filter fun z => decide (z ≠ k) := by
  unfold rm
  rw [List.filter_map]
  rfl
theorem pu_len {β : Type} (m : List (Int × β)) (k : Int) (b : β) : (pu m k b).length ≤ m.length + 1 := by
  unfold pu
  split
  · rw [List.length_map]; omega
  · rw [List.length_append]; exact Nat.le_refl _
theorem pu_key {β : Type} {m : List (Int × β)} {k j : Int} {b : β} (h : j ∈ (pu m k b).map (·.1)) : j ∈ m.map (·.1) ∨ j = k := by
  unfold pu at h
  split at h
  · rw [List.map_map] at h
    obtain ⟨q, hq, e⟩ := List.mem_map.mp h
    refine .inl (List.mem_map.mpr ⟨q, hq, ?_⟩)
    rw [← e]
    show q.1 = (if q.1 = k then (q.1, b) else q).1
    split <;> rfl
  · rw [List.map_append] at h
    rcases List.mem_append.mp h with q | q
    · exact .inl q
    · exact .inr (List.mem_singleton.mp q)
theorem pu_nodup {β : Type} {m : List (Int × β)} {k : Int} (b : β) (h : (m.map (·.1)).Nodup) : ((pu m k b).map (·.1)).Nodup := by
  by_cases e : (fd m k).isSome = true
  · rw [pu_keys_old b e]; exact h
  · have hn : fd m k = none := by cases e2 : fd m k with
      | none => rfl
      | some v => rw [e2] at e; exact absurd rfl e
    rw [pu_new b hn, List.map_append]
    exact nd_snoc h (fd_none.mp hn)
theorem Rnd.wf.enter {r : Rnd} (w : r.wf) {k : Int} {l : Addr} (k0 : 0 ≤ k) (k1 : k < r.sto.hands) (h : fd r.inside k = none) : (r.enter k l).wf where
  ok := w.ok
  keys := by show (r.saw ++ [_]).map _ = (r.inside ++ [_]).map _; rw [List.map_append, List.map_append, w.keys]; rfl
  nd := by show ((r.inside ++ [_]).map _).Nodup; rw [List.map_append]; exact nd_snoc w.nd (fd_none.mp h)
  hr := fun j hj => by
    have hj : j ∈ (r.inside ++ [(k, r.era)]).map (·.1) := hj
    rw [List.map_append] at hj
    rcases List.mem_append.mp hj with q | q
    · exact w.hr j q
    · rw [List.mem_singleton.mp q]; exact ⟨k0, k1⟩
  h6 := w.h6
  nw := w.nw
  lw := w.lw
  wk := w.wk
theorem Rnd.wf.leave {r : Rnd} (w : r.wf) (k : Int) : (r.leave k).wf where
  ok := w.ok
  keys := by show (rm r.saw k).map _ = (rm r.inside k).map _; rw [rm_keys, rm_keys, w.keys]
  nd := rm_nodup w.nd
  hr := fun j hj => w.hr j (by
    have hj : j ∈ (rm r.inside k).map (·.1) := hj
    rw [rm_keys] at hj
    exact (List.mem_filter.mp hj).1)
  h6 := w.h6
  nw := w.nw
  lw := w.lw
  wk := w.wk
theorem Rnd.wf.look {r : Rnd} (w : r.wf) (k c : Int) : (r.look k c).wf where
  ok := w.ok
  keys := by show (sawAdd _ _ _).map _ = _; rw [sawAdd_keys]; exact w.keys
  nd := w.nd
  hr := w.hr
  h6 := w.h6
  nw := w.nw
  lw := w.lw
  wk := w.wk
theorem Rnd.wf.swap {r : Rnd} (w : r.wf) {i v : Int} (i0 : 0 ≤ i) (i1 : i < r.sto.cells.length) (hv : r.sto.vals.length < 1000) : (r.swap i v).wf where
  ok := w.ok.swap i0 i1 hv
  keys := w.keys
  nd := w.nd
  hr := w.hr
  h6 := w.h6
  nw := pu_nodup _ w.nw
  lw := by
    have h1 := pu_len r.waits (r.sto.cells.getD i.toNat 0) r.era
    have h2 := w.lw
    show (pu _ _ _).length ≤ (r.sto.vals ++ [v]).length
    rw [List.length_append]
    show _ ≤ r.sto.vals.length + 1
    omega
  wk := fun j hj => by
    have hnew : (r.sto.vals.length : Int) ∉ r.sto.kept := fun hk => by
      obtain ⟨_, h1⟩ := w.ok.made _ hk
      omega
    have hnc : (r.sto.vals.length : Int) ∉ r.sto.cells := fun hk => hnew (w.ok.here _ hk)
    show j ∈ r.sto.kept ++ [_] ∧ j ∉ r.sto.cells.set _ _
    rcases pu_key hj with q | q
    · obtain ⟨h1, h2⟩ := w.wk j q
      refine ⟨List.mem_append.mpr (.inl h1), fun z => ?_⟩
      rcases List.mem_or_eq_of_mem_set z with e | e
      · exact h2 e
      · exact hnew (e ▸ h1)
    · have hlt : i.toNat < r.sto.cells.length := by omega
      rw [q]
      exact ⟨List.mem_append.mpr (.inl (w.ok.here _ (getD_mem hlt))), set_old w.ok.cnd hnc hlt⟩
theorem Rnd.wf.next {r : Rnd} (w : r.wf) : r.next.wf where
  ok := w.ok.less fun k hk => (w.wk k ((List.mem_filter.mp hk).1)).2
  keys := w.keys
  nd := w.nd
  hr := w.hr
  h6 := w.h6
  nw := (List.Sublist.map _ (List.filter_sublist (l := r.waits))).nodup w.nw
  lw := Nat.le_trans (List.length_filter_le _ _) w.lw
  wk := fun j hj => by
    have hj : j ∈ (rms r.waits r.gone).map (·.1) := hj
    obtain ⟨q, hq, e⟩ := List.mem_map.mp hj
    obtain ⟨h1, h2⟩ := List.mem_filter.mp hq
    obtain ⟨h3, h4⟩ := w.wk j (e ▸ List.mem_map.mpr ⟨q, h1, rfl⟩)
    exact ⟨List.mem_filter.mpr ⟨h3, by rw [e] at h2; exact h2⟩, h4⟩
/-- a swap, as the laws use it -/
def okR (r : Rnd) : Prop := r.wf ∧ r.sto.vals.length < 1000
abbrev sp_swapR (C : Addr) : Sp := sp_swap C (sp_rafter C)
abbrev sp_law_swapR (C : Addr) : Sp := sp__law_swap (rndU C) (fun r => r.sto.cells) (fun r => r.sto.vals) Rnd.swap okR
theorem hob_R {C : Addr} : ∀ p (r : Rnd) R H, Has H (rndU C p r :: R) → ∃ dx fs, H p = some (.ins C dx fs) ∧ fs.lookup ("swap" : Str) = none := fun p r R H h => ⟨_, _, (rnd_two.mp h).g0, rdX_ok.f4⟩
theorem hsw_R {C : Addr} : ∀ p (r : Rnd) (i v : Int) R H (Q : VK), Has H (rndU C p r :: R) → okR r → 0 ≤ i → i < r.sto.cells.length → 0 ≤ v → v ≤ 999 → (∀ H', Has H' (rndU C p (r.swap i v) :: R) → Q (.int (r.sto.cells.getD i.toNat 0)) H') → sp_swapR C [.ref p, .int i, .int v] H Q E0 :=
  fun p r i v R H Q h ok i0 i1 v0 v1 q => ⟨p, _, r.sto, i, v, _, rfl, rnd_two.mp h, rdX_ok, ok.1.ok, ok.2, i0, i1, v0, v1, fun H' Q' h' k => ⟨p, { r with sto := r.sto.swap i v }, _, R, rfl, rnd_two.mpr h', ok.1.l2, fun H2 h2 => k _ _ (q H2 h2)⟩⟩
def sp_round_now (C : Addr) : Sp := fun vs H Q _ => ∃ (p : Addr) (r : Rnd) (R : List U), vs = [.ref p] ∧ Has H (rndU C p r :: R) ∧ Q (.int r.era) H
theorem pure_round_now {K : PySem.W.Frag} {C : Addr} (hC : RndC K C) {vs : List V} {H : Hp} {Q : VK} {E : XK} (h : sp_round_now C vs H Q E) : t_Rounds_round_now K ⟨fun _ H' => Q .non H', Q, fun _ _ => False, fun _ _ => False⟩ (start ["self"] vs) H := by
  obtain ⟨p, r, R, rfl, hh, q⟩ := h
  obtain ⟨⟨cl, n1, n2, n3, n4⟩, m1, m2, m3, m4⟩ := hC
  have h3 := rnd_cells hh
  unfold t_Rounds_round_now
  walk_at "go"
  exact q
def sp_hands_in (C : Addr) : Sp := fun vs H Q _ => ∃ (p : Addr) (r : Rnd) (R : List U), vs = [.ref p] ∧ Has H (rndU C p r :: R) ∧ r.wf ∧
  ∀ (ys : List Int) (d : Addr) H', ys.Perm (r.inside.map (·.1)) → ys.Pairwise (· ≤ ·) → Has H' ([(d, .lst (ys.map V.int))] :: rndU C p r :: R) → Q (.ref d) H'
theorem pure_hands_in {K : PySem.W.Frag} {C : Addr} (hC : RndC K C) {vs : List V} {H : Hp} {Q : VK} {E : XK} (h : sp_hands_in C vs H Q E) : t_Rounds_hands_in K ⟨fun _ H' => Q .non H', Q, fun _ _ => False, fun _ _ => False⟩ (start ["self"] vs) H := by
  obtain ⟨p, r, R, rfl, hh, w, q⟩ := h
  obtain ⟨⟨cl, n1, n2, n3, n4⟩, m1, m2, m3, m4⟩ := hC
  have h3 := rnd_cells hh
  have hl : (mv V.int r.inside).length < 64 := by rw [mv_len]; have := w.l1; omega
  unfold t_Rounds_hands_in
  walk_at "go"
  rename_i ys d H1 p1 p2 h1
  rw [mv_keys] at p1
  exact q ys d H1 p1 p2 ((rnd_of (h1.sub (Sub.p1 (Sub.p1 (Sub.p1 (Sub.p1 (Sub.p1 (Sub.p1 (Sub.p1 Sub.rf))))))))).sub (Sub.p1 (Sub.p0 Sub.rf)))
end La
namespace La
open PySem L2 Sy
local macro_rules | `(tactic| walk_at "fl") => `(tactic| first | assumption | exact stF_hands | exact stF_worth | exact stF_cells | exact stF_made | exact StX.f1 (by assumption) | exact StX.f2 (by assumption) | exact StX.f3 (by assumption) | exact StX.f4 (by assumption) | exact StX.f5 (by assumption) | exact StX.f6 (by assumption) | exact StX.f7 (by assumption) | exact StX.f8 (by assumption) | exact StX.f9 (by assumption))
local macro_rules | `(tactic| walk_at "fsl") => `(tactic| first | assumption | exact StX.fl (by assumption))
local macro_rules | `(tactic| walk_at "put") => `(tactic| first | exact stF_put_made | exact stF_put_cells | exact stF_put_worth | exact stF_put_hands)
def t_Marks_init (K : PySem.W.Frag) (C_Store : Addr) (sp_Marks__Store_init : Sp) : TS :=
  tSeq (tDrop (tCFn C_Store sp_Marks__Store_init [] E0 (tC (.ref C_Store)) (tCons (tVar 0) (tCons (tVar 1) (tCons (tVar 2) (tNil))))))
    (tSeq (sFld K (tVar 0) (tDNewT) "marks")
    (sFld K (tVar 0) (tLst (tNil)) "waits"))
def t_Marks_look_mark (K : PySem.W.Frag) (C_Marks : Addr) (sp_Marks__Store_look_hand sp_is_whole : Sp) : TS :=
  tSeq (tDrop (tMeth C_Marks "look_hand" sp_Marks__Store_look_hand [] E0 (tVar 0) (tCons (tVar 1) (tNil))))
    (tIfS (tNot (tB (tCall sp_is_whole [] E0 (tCons (tVar 2) (tCons (tC (.int 0)) (tCons (tOp rSubI (tC (.int 2)) (tC (.int 1))) (tNil))))))) (tNever) (tNext))
def t_Marks_state_of (K : PySem.W.Frag) (C_Marks : Addr) (sp_Marks__Marks_look_mark : Sp) : TS :=
  tSeq (tDrop (tMeth C_Marks "look_mark" sp_Marks__Marks_look_mark [] E0 (tVar 0) (tCons (tVar 1) (tCons (tVar 2) (tNil)))))
    (tSeq (tAsg (tDGet2 (tFld K (tVar 0) "marks") (tTup (tCons (tVar 1) (tCons (tVar 2) (tNil)))) (tTup (tCons (tC (.str "free")) (tCons (tC (.int 0)) (tCons (tC (.int 0)) (tNil)))))) (gName 4))
    (tSeq (tIfS (tTest (tOp (rIn K true) (tOp (rIxT K) (tVar 4) (tC (.int 0))) (tVar 3))) (tNever) (tNext))
    (tRet (tVar 4))))
def t_Marks_fetch (K : PySem.W.Frag) (C_Marks : Addr) (sp_Marks__Marks_look_mark sp_Marks__Store_look_cell : Sp) : TS :=
  tSeq (tDrop (tMeth C_Marks "look_mark" sp_Marks__Marks_look_mark [] E0 (tVar 0) (tCons (tVar 1) (tCons (tVar 2) (tNil)))))
    (tSeq (tDrop (tMeth C_Marks "look_cell" sp_Marks__Store_look_cell [] E0 (tVar 0) (tCons (tVar 3) (tNil))))
    (tSeq (sDPut (tFld K (tVar 0) "marks") (tTup (tCons (tVar 1) (tCons (tVar 2) (tNil)))) (tTup (tCons (tC (.str "fetched")) (tCons (tVar 3) (tCons (tOp (rIxL K) (tFld K (tVar 0) "cells") (tVar 3)) (tNil))))))
    (tRet (tOp (rIxL K) (tFld K (tVar 0) "cells") (tVar 3)))))
def t_Marks_set_mark (K : PySem.W.Frag) (C_Marks : Addr) (sp_Marks__Marks_state_of : Sp) : TS :=
  tSeq (tAsg (tMeth C_Marks "state_of" sp_Marks__Marks_state_of [] E0 (tVar 0) (tCons (tVar 1) (tCons (tVar 2) (tCons (tTup (tCons (tC (.str "fetched")) (tNil))) (tNil))))) (gTup K 3 (gCons (gName 3) (gCons (gName 4) (gCons (gName 5) (gNil))))))
    (sDPut (tFld K (tVar 0) "marks") (tTup (tCons (tVar 1) (tCons (tVar 2) (tNil)))) (tTup (tCons (tC (.str "set")) (tCons (tVar 4) (tCons (tVar 5) (tNil))))))
def t_Marks_sure (K : PySem.W.Frag) (C_Marks : Addr) (sp_Marks__Marks_state_of : Sp) : TS :=
  tSeq (tAsg (tMeth C_Marks "state_of" sp_Marks__Marks_state_of [] E0 (tVar 0) (tCons (tVar 1) (tCons (tVar 2) (tCons (tTup (tCons (tC (.str "set")) (tNil))) (tNil))))) (gTup K 3 (gCons (gName 3) (gCons (gName 4) (gCons (gName 5) (gNil))))))
    (tSeq (tIfS (tTest (tOp rNe (tOp (rIxL K) (tFld K (tVar 0) "cells") (tVar 4)) (tVar 5))) (tSeq (tDrop (tDPopT (tFld K (tVar 0) "marks") (tTup (tCons (tVar 1) (tCons (tVar 2) (tNil))))))
    (tRet (tC (.bl false)))) (tNext))
    (tSeq (sDPut (tFld K (tVar 0) "marks") (tTup (tCons (tVar 1) (tCons (tVar 2) (tNil)))) (tTup (tCons (tC (.str "sure")) (tCons (tVar 4) (tCons (tVar 5) (tNil))))))
    (tRet (tC (.bl true)))))
def t_Marks_read (K : PySem.W.Frag) (C_Marks : Addr) (sp_Marks__Marks_state_of sp_Marks__Store_value_of : Sp) : TS :=
  tSeq (tAsg (tMeth C_Marks "state_of" sp_Marks__Marks_state_of [] E0 (tVar 0) (tCons (tVar 1) (tCons (tVar 2) (tCons (tTup (tCons (tC (.str "sure")) (tNil))) (tNil))))) (gTup K 3 (gCons (gName 3) (gCons (gName 4) (gCons (gName 5) (gNil))))))
    (tRet (tMeth C_Marks "value_of" sp_Marks__Store_value_of [] E0 (tVar 0) (tCons (tVar 5) (tNil))))
def t_Marks_clear_mark (K : PySem.W.Frag) (C_Marks : Addr) (sp_Marks__Marks_state_of : Sp) : TS :=
  tSeq (tDrop (tMeth C_Marks "state_of" sp_Marks__Marks_state_of [] E0 (tVar 0) (tCons (tVar 1) (tCons (tVar 2) (tCons (tTup (tCons (tC (.str "fetched")) (tCons (tC (.str "set")) (tCons (tC (.str "sure")) (tNil))))) (tNil))))))
    (tDrop (tDPopT (tFld K (tVar 0) "marks") (tTup (tCons (tVar 1) (tCons (tVar 2) (tNil))))))
def t_Marks_after_swap (K : PySem.W.Frag) : TS :=
  tDrop (tBM K "list" rAppend (tFld K (tVar 0) "waits") (tCons (tVar 1) (tNil)))
def t_Marks_marked (K : PySem.W.Frag) : TS :=
  tSeq (tLock (tAsg (tLc (iKeys (tFld K (tVar 0) "marks")) (gName 2) (tTest (tOp rNe (tOp (rIxT K) (tDGet (tFld K (tVar 0) "marks") (tVar 2)) (tC (.int 0))) (tC (.str "fetched")))) (tOp (rIxT K) (tDGet (tFld K (tVar 0) "marks") (tVar 2)) (tC (.int 2))) [2]) (gName 1)))
    (tRet (tSSet K (tCons (tVar 1) (tNil))))
def t_Marks_sweep (K : PySem.W.Frag) (C_Marks : Addr) (sp_Marks__Marks_marked sp_Marks__Store_let_go : Sp) : TS :=
  tSeq (tAsg (tMeth C_Marks "marked" sp_Marks__Marks_marked [] E0 (tVar 0) tNil) (gName 1))
    (tSeq (tAsg (tLc (iList K (tFld K (tVar 0) "waits")) (gName 3) (tTest (tOp (rIn K true) (tVar 3) (tVar 1))) (tVar 3) [3]) (gName 2))
    (tSeq (sFld K (tVar 0) (tLc (iList K (tFld K (tVar 0) "waits")) (gName 3) (tTest (tOp (rIn K false) (tVar 3) (tVar 1))) (tVar 3) [3]) "waits")
    (tRet (tMeth C_Marks "let_go" sp_Marks__Store_let_go [] E0 (tVar 0) (tCons (tVar 2) (tNil))))))
def mkX (v0 v1 : V) : List (Str × V) := [("marks", v0), ("waits", v1)]
theorem mk_marks {h w c m v0 v1 : V} : (stF h w c m (mkX v0 v1)).lookup ("marks" : Str) = some v0 := by kernel_rfl
theorem mk_put_marks {h w c m v0 v1 u : V} : putF "marks" u (stF h w c m (mkX v0 v1)) = stF h w c m (mkX u v1) := by kernel_rfl
theorem mk_waits {h w c m v0 v1 : V} : (stF h w c m (mkX v0 v1)).lookup ("waits" : Str) = some v1 := by kernel_rfl
theorem mk_put_waits {h w c m v0 v1 u : V} : putF "waits" u (stF h w c m (mkX v0 v1)) = stF h w c m (mkX v0 u) := by kernel_rfl
theorem mk_m_look_mark {h w c m v0 v1 : V} : (stF h w c m (mkX v0 v1)).lookup ("look_mark" : Str) = none := by kernel_rfl
theorem mk_m_state_of {h w c m v0 v1 : V} : (stF h w c m (mkX v0 v1)).lookup ("state_of" : Str) = none := by kernel_rfl
theorem mk_m_fetch {h w c m v0 v1 : V} : (stF h w c m (mkX v0 v1)).lookup ("fetch" : Str) = none := by kernel_rfl
theorem mk_m_set_mark {h w c m v0 v1 : V} : (stF h w c m (mkX v0 v1)).lookup ("set_mark" : Str) = none := by kernel_rfl
theorem mk_m_sure {h w c m v0 v1 : V} : (stF h w c m (mkX v0 v1)).lookup ("sure" : Str) = none := by kernel_rfl
theorem mk_m_read {h w c m v0 v1 : V} : (stF h w c m (mkX v0 v1)).lookup ("read" : Str) = none := by kernel_rfl
theorem mk_m_clear_mark {h w c m v0 v1 : V} : (stF h w c m (mkX v0 v1)).lookup ("clear_mark" : Str) = none := by kernel_rfl
theorem mk_m_marked {h w c m v0 v1 : V} : (stF h w c m (mkX v0 v1)).lookup ("marked" : Str) = none := by kernel_rfl
theorem mk_m_sweep {h w c m v0 v1 : V} : (stF h w c m (mkX v0 v1)).lookup ("sweep" : Str) = none := by kernel_rfl
theorem mkX_ok {v0 v1 : V} : StX (mkX v0 v1) := ⟨by show 2 < 900; decide, by kernel_rfl, by kernel_rfl, by kernel_rfl, by kernel_rfl, by kernel_rfl, by kernel_rfl, by kernel_rfl, by kernel_rfl, by kernel_rfl⟩
theorem mk_p1 {h w c m  u : V} : putF "marks" u (stF h w c m []) = stF h w c m [("marks", u)] := by kernel_rfl
theorem mk_p2 {h w c m v0 u : V} : putF "waits" u (stF h w c m [("marks", v0)]) = stF h w c m (mkX v0 u) := by kernel_rfl
local macro_rules | `(tactic| walk_at "fl") => `(tactic| first | assumption | exact stF_hands | exact stF_worth | exact stF_cells | exact stF_made | exact mk_marks | exact mk_waits | exact mk_m_look_mark | exact mk_m_state_of | exact mk_m_fetch | exact mk_m_set_mark | exact mk_m_sure | exact mk_m_read | exact mk_m_clear_mark | exact mk_m_marked | exact mk_m_sweep | exact StX.f1 mkX_ok | exact StX.f2 mkX_ok | exact StX.f3 mkX_ok | exact StX.f4 mkX_ok | exact StX.f5 mkX_ok | exact StX.f6 mkX_ok | exact StX.f7 mkX_ok | exact StX.f8 mkX_ok | exact StX.f9 mkX_ok)
local macro_rules | `(tactic| walk_at "put") => `(tactic| first | exact mk_put_marks | exact mk_put_waits | exact stF_put_made | exact stF_put_cells | exact stF_put_worth | exact stF_put_hands)
local macro_rules | `(tactic| walk_at "fsl") => `(tactic| first | assumption | exact StX.fl mkX_ok)
/-! ### marks -/
structure MrkC (K : PySem.W.Frag) (C : Addr) : Prop where
  st : StoreC K C
  n1 : NoAttr K C "marks"
  n2 : NoAttr K C "waits"
structure MV where
  a : Addr
  st : Str
  cell : Int
  thing : Int
def mtup (v : MV) : HO := .tup [.str v.st, .int v.cell, .int v.thing]
def mref (v : MV) : V := .ref v.a
abbrev Mks := List ((Int × Int) × MV)
structure Mrk where
  sto : Sto
  ma : Addr
  wa : Addr
  marks : Mks
  waits : List Int
  bag : U
abbrev mkx (r : Mrk) : List (Str × V) := mkX (.ref r.ma) (.ref r.wa)
def mdU (r : Mrk) : U := (r.ma, dP (mv mref r.marks)) :: (r.wa, .lst (r.waits.map V.int)) :: r.bag
def mrkU (C p : Addr) (r : Mrk) : U := stoU C p (mkx r) r.sto ++ mdU r
theorem mrk_two {H : Hp} {C p : Addr} {r : Mrk} {R : List U} : Has H (mrkU C p r :: R) ↔ Has H (stoU C p (mkx r) r.sto :: mdU r :: R) := Has.op
theorem mrk_cells {H : Hp} {C p : Addr} {r : Mrk} {R : List U} (h : Has H (mrkU C p r :: R)) :
    Has H ([(p, .ins C r.sto.dx (stF (.int r.sto.hands) (.ref r.sto.w) (.ref r.sto.c) (.int r.sto.vals.length) (mkx r)))] :: [(r.sto.w, dI (worthOf r.sto.vals r.sto.kept))] :: [(r.sto.c, .lst (r.sto.cells.map V.int))] ::
      [(r.ma, dP (mv mref r.marks))] :: [(r.wa, .lst (r.waits.map V.int))] :: r.bag :: R) :=
  ((mrk_two.mp h).cut2.sub (Sub.p3 Sub.rf)).cut2.sub (Sub.p3 (Sub.p3 (Sub.p3 (Sub.p0 (Sub.p0 (Sub.p0 Sub.rf))))))
theorem mrk_of {H : Hp} {C p : Addr} {r : Mrk} {R : List U} (h :
    Has H ([(p, .ins C r.sto.dx (stF (.int r.sto.hands) (.ref r.sto.w) (.ref r.sto.c) (.int r.sto.vals.length) (mkx r)))] :: [(r.sto.w, dI (worthOf r.sto.vals r.sto.kept))] :: [(r.sto.c, .lst (r.sto.cells.map V.int))] ::
      [(r.ma, dP (mv mref r.marks))] :: [(r.wa, .lst (r.waits.map V.int))] :: r.bag :: R)) : Has H (mrkU C p r :: R) :=
  mrk_two.mpr (Has.glue2 (((Has.glue2 (h.sub (Sub.p3 (Sub.p3 (Sub.p3 Sub.rf))))).sub (Sub.p1 (Sub.p1 (Sub.p1 (Sub.p0 Sub.rf)))))))
structure Mrk.wf (r : Mrk) : Prop where
  ok : r.sto.ok
  nd : (r.marks.map (·.1)).Nodup
  kr : ∀ k ∈ r.marks.map (·.1), (0 ≤ k.1 ∧ k.1 < r.sto.hands) ∧ 0 ≤ k.2 ∧ k.2 < 2
  h6 : r.sto.hands ≤ 6
  bg : ∀ q ∈ r.marks, (q.2.a, mtup q.2) ∈ r.bag
  cr : ∀ q ∈ r.marks, 0 ≤ q.2.cell ∧ q.2.cell < r.sto.cells.length
  su : ∀ q ∈ r.marks, q.2.st = "sure" → q.2.thing ∈ r.sto.kept
  nw : r.waits.Nodup
  wk : ∀ k ∈ r.waits, k ∈ r.sto.kept ∧ k ∉ r.sto.cells
theorem nodup_len2 : ∀ {n : Nat} {l : List Int}, l.Nodup → (∀ k ∈ l, 0 ≤ k ∧ k < n) → l.length ≤ n
  | 0, [], _, _ => Nat.le_refl _
  | 0, a :: r, _, h => by have := h a (List.mem_cons.mpr (.inl rfl)); omega
  | n + 1, l, nd, h => by
    by_cases hm : (n : Int) ∈ l
    · have e := List.length_erase_of_mem hm
      have ih := nodup_len2 (n := n) (l := l.erase (n : Int)) (nd.erase _) fun k hk => by
        have h2 := nd.mem_erase_iff.mp hk
        have h3 := h k h2.2
        have h4 := h2.1
        omega
      have := List.length_pos_of_mem hm
      omega
    · have ih := nodup_len2 (n := n) (l := l) nd fun k hk => by
        have h3 := h k hk
        have h4 : k ≠ (n : Int) := fun e => hm (e ▸ hk)
        omega
      omega
theorem pair_len {l : List (Int × Int)} {h : Int} (nd : l.Nodup) (hr : ∀ k ∈ l, (0 ≤ k.1 ∧ k.1 < h) ∧ 0 ≤ k.2 ∧ k.2 < 2) (h0 : 0 ≤ h) : (l.length : Int) ≤ 2 * h := by
  have n2 : (l.map fun k => 2 * k.1 + k.2).Nodup := by
    show List.Pairwise _ _
    rw [List.pairwise_map]
    refine List.Pairwise.imp_of_mem (fun {a b} ha hb hab e => ?_) nd
    have h1 := hr a ha
    have h2 := hr b hb
    exact hab (Prod.ext (by omega) (by omega))
  have := nodup_len2 (n := (2 * h).toNat) n2 fun k hk => by
    obtain ⟨z, hz, e⟩ := List.mem_map.mp hk
    have h1 := hr z hz
    omega
  rw [List.length_map] at this
  omega
theorem Mrk.wf.l2 {r : Mrk} (w : r.wf) (h0 : 0 ≤ r.sto.hands) : (r.marks.length : Int) ≤ 2 * r.sto.hands := by
  have := pair_len w.nd w.kr h0
  rw [List.length_map] at this
  exact this
theorem Mrk.wf.l1 {r : Mrk} (w : r.wf) : r.marks.length ≤ 12 := by
  have h6 := w.h6
  have := pair_len (h := 6) w.nd (fun k hk => by have := w.kr k hk; omega) (by omega)
  rw [List.length_map] at this
  omega
theorem Mrk.wf.wl {r : Mrk} (w : r.wf) : r.waits.length ≤ r.sto.vals.length := nodup_len2 w.nw fun k hk => w.ok.made k (w.wk k hk).1
/-- making -/
def Mrk.new (s : Sto) (ma wa : Addr) : Mrk := ⟨s, ma, wa, [], [], []⟩
def sp_minit (C : Addr) : Sp := fun vs H Q _ => ∃ (p dx : Addr) (h n : Int) (R : List U), vs = [.ref p, .int h, .int n] ∧ Has H ([(p, .ins C dx [])] :: R) ∧ 1 ≤ h ∧ h ≤ 6 ∧ 1 ≤ n ∧ n ≤ 5 ∧
  ∀ w c ma wa H', Has H' (mrkU C p (Mrk.new (Sto.new dx w c h n) ma wa) :: R) → Q .non H'
section
local macro_rules | `(tactic| walk_at "put") => `(tactic| first | exact mk_p1 | exact mk_p2)
local macro_rules | `(tactic| walk_at "fsl") => `(tactic| first | assumption | (show 4 < 1000; decide) | (show 5 < 1000; decide))
theorem pure_minit {K : PySem.W.Frag} {C CS : Addr} (hC : MrkC K C) {vs : List V} {H : Hp} {Q : VK} {E : XK} (h : sp_minit C vs H Q E) : t_Marks_init K CS (sp_init C) ⟨fun _ H' => Q .non H', Q, fun _ _ => False, fun _ _ => False⟩ (start ["self", "hands", "cells"] vs) H := by
  obtain ⟨p, dx, h, n, R, rfl, hh, h1, h6, n1', n5, q⟩ := h
  obtain ⟨⟨cl, n1, n2, n3, n4⟩, m1, m2⟩ := hC
  unfold t_Marks_init
  walk_at "go"
  refine ⟨p, dx, h, n, R, rfl, hh, h1, h6, n1', n5, fun w c H1 hh1 => ?_⟩
  replace hh1 := hh1.cut2
  walk_at "go"
  rename_i ma H3 h3 H4 h4 wa H5 h5 H6 h6
  refine q w c ma wa H6 (mrk_of (Has.sub (Has.nilU.mpr h6) ?_))
  show Sub ([(p, .ins C dx (stF (.int h) (.ref w) (.ref c) (.int (Sto.new dx w c h n).vals.length) (mkX (.ref ma) (.ref wa))))] :: [(w, dI (worthOf (Sto.new dx w c h n).vals (rgI n)))] :: [(c, .lst ((rgI n).map V.int))] :: [(ma, dP [])] :: [(wa, .lst [])] :: [] :: R) _
  walk_at "sub"
end
theorem Mrk.new_wf {dx w c ma wa : Addr} {h n : Int} (h6 : h ≤ 6) (h1 : 1 ≤ n) (h5 : n ≤ 5) : (Mrk.new (Sto.new dx w c h n) ma wa).wf :=
  ⟨Sto.new_ok h1 h5, List.nodup_nil, fun k hk => absurd hk List.not_mem_nil, h6, fun k hk => absurd hk List.not_mem_nil, fun k hk => absurd hk List.not_mem_nil, fun k hk => absurd hk List.not_mem_nil, List.nodup_nil, fun k hk => absurd hk List.not_mem_nil⟩
def sp_look_mark (C : Addr) : Sp := fun vs H Q _ => ∃ (p : Addr) (r : Mrk) (k m : Int) (R : List U), vs = [.ref p, .int k, .int m] ∧ Has H (mrkU C p r :: R) ∧ 0 ≤ k ∧ k < r.sto.hands ∧ 0 ≤ m ∧ m < 2 ∧ Q .non H
theorem pure_look_mark {K : PySem.W.Frag} {C : Addr} (hC : MrkC K C) {vs : List V} {H : Hp} {Q : VK} {E : XK} (h : sp_look_mark C vs H Q E) : t_Marks_look_mark K C (sp_look_hand C) sp_is_whole ⟨fun _ H' => Q .non H', Q, fun _ _ => False, fun _ _ => False⟩ (start ["self", "hand", "mark"] vs) H := by
  obtain ⟨p, r, k, m, R, rfl, hh, k0, k1, m0, m1', q⟩ := h
  obtain ⟨⟨cl, n1, n2, n3, n4⟩, m1, m2⟩ := hC
  have h2 := mrk_two.mp hh
  have h3 := mrk_cells hh
  unfold t_Marks_look_mark
  walk_at "go"
  refine ⟨p, _, r.sto, k, _, rfl, h2, mkX_ok, k0, k1, ?_⟩
  walk_at "go"
  refine ⟨m, 0, 2 - 1, rfl, ?_⟩
  rw [decide_eq_true (show (0 : Int) ≤ m ∧ m ≤ 2 - 1 from ⟨m0, by omega⟩)]
  walk_at "go"
  exact q
def sp_state_of (C : Addr) : Sp := fun vs H Q _ => ∃ (p sa : Addr) (r : Mrk) (k m : Int) (ss : List Str) (v : MV) (R : List U), vs = [.ref p, .int k, .int m, .ref sa] ∧ Has H (mrkU C p r :: [(sa, .tup (ss.map V.str))] :: R) ∧ r.wf ∧ 0 ≤ k ∧ k < r.sto.hands ∧ 0 ≤ m ∧ m < 2 ∧ fd r.marks (k, m) = some v ∧ v.st ∈ ss ∧
  ∀ H', Has H' (mrkU C p r :: [(sa, .tup (ss.map V.str))] :: R) → H' v.a = some (mtup v) → Q (.ref v.a) H'
theorem pure_state_of {K : PySem.W.Frag} {C : Addr} (hC : MrkC K C) {vs : List V} {H : Hp} {Q : VK} {E : XK} (h : sp_state_of C vs H Q E) : t_Marks_state_of K C (sp_look_mark C) ⟨fun _ H' => Q .non H', Q, fun _ _ => False, fun _ _ => False⟩ (start ["self", "hand", "mark", "states", "found"] vs) H := by
  obtain ⟨p, sa, r, k, m, ss, v, R, rfl, hh, w, k0, k1, m0, m1', hf, hs, q⟩ := h
  obtain ⟨⟨cl, n1, n2, n3, n4⟩, m1, m2⟩ := hC
  have h2 := mrk_two.mp hh
  have h3 := mrk_cells hh
  have hb := w.bg _ (fd_mem hf)
  unfold t_Marks_state_of
  walk_at "go"
  refine ⟨p, r, k, m, _, rfl, hh, k0, k1, m0, m1', ?_⟩
  clear hh h2
  walk_at "go"
  rename_i b1 H1 h1 b2 H2 h2
  have hv : valV (mv mref r.marks) (k, m) = some (.ref v.a) := mv_some hf
  rw [hv]
  have ht : H2 v.a = some (.tup [.str v.st, .int v.cell, .int v.thing]) := Has.fam (h2.sub (show Sub (r.bag :: _) _ by walk_at "sub")) _ hb
  show rIxT K (V.ref v.a) _ _ _
  walk_at "go"
  refine k_inS (by walk_at "hp") ?_
  have e : (if true = true then !decide (v.st ∈ ss) else decide (v.st ∈ ss)) = false := by simp [hs]
  rw [e]
  walk_at "go"
  refine q _ ?_ ht
  have h9 := mrk_of (C := C) (p := p) (r := r) (h2.sub (show Sub ([(p, .ins C r.sto.dx (stF (.int r.sto.hands) (.ref r.sto.w) (.ref r.sto.c) (.int r.sto.vals.length) (mkx r)))] :: [(r.sto.w, dI (worthOf r.sto.vals r.sto.kept))] :: [(r.sto.c, .lst (r.sto.cells.map V.int))] ::
      [(r.ma, dP (mv mref r.marks))] :: [(r.wa, .lst (r.waits.map V.int))] :: r.bag :: [(sa, .tup (ss.map V.str))] :: R) _ by walk_at "sub"))
  exact h9
def Mrk.mark (r : Mrk) (k m : Int) (v : MV) (bag : U) : Mrk := { r with marks := pu r.marks (k, m) v, bag := bag }
def Mrk.unmark (r : Mrk) (k m : Int) : Mrk := { r with marks := rm r.marks (k, m) }
theorem Mrk.wf.mark {r : Mrk} (w : r.wf) {k m : Int} {v : MV} {bag : U} (k0 : 0 ≤ k) (k1 : k < r.sto.hands) (m0 : 0 ≤ m) (m1 : m < 2) (hb : ∀ q ∈ r.bag, q ∈ bag) (hv : (v.a, mtup v) ∈ bag) (hc : 0 ≤ v.cell ∧ v.cell < r.sto.cells.length) (hs : v.st = "sure" → v.thing ∈ r.sto.kept) : (r.mark k m v bag).wf where
  ok := w.ok
  nd := pu_nd v w.nd
  kr := fun z hz => by
    obtain ⟨q, hq, e⟩ := List.mem_map.mp hz
    rcases pu_mem hq with h | h
    · exact w.kr z (e ▸ List.mem_map.mpr ⟨q, h, rfl⟩)
    · rw [h] at e
      rw [← e]
      exact ⟨⟨k0, k1⟩, m0, m1⟩
  h6 := w.h6
  bg := fun q hq => by
    rcases pu_mem hq with h | h
    · exact hb _ (w.bg q h)
    · rw [h]; exact hv
  cr := fun q hq => by
    rcases pu_mem hq with h | h
    · exact w.cr q h
    · rw [h]; exact hc
  su := fun q hq => by
    rcases pu_mem hq with h | h
    · exact w.su q h
    · rw [h]; exact hs
  nw := w.nw
  wk := w.wk
theorem Mrk.wf.unmark {r : Mrk} (w : r.wf) (k m : Int) : (r.unmark k m).wf where
  ok := w.ok
  nd := rm_nodup w.nd
  kr := fun z hz => by
    obtain ⟨q, hq, e⟩ := List.mem_map.mp hz
    exact w.kr z (e ▸ List.mem_map.mpr ⟨q, (rm_mem.mp hq).1, rfl⟩)
  h6 := w.h6
  bg := fun q hq => w.bg q (rm_mem.mp hq).1
  cr := fun q hq => w.cr q (rm_mem.mp hq).1
  su := fun q hq => w.su q (rm_mem.mp hq).1
  nw := w.nw
  wk := w.wk
/-- the cells again as one store, a new tuple in the bag -/
theorem mrk_put {H : Hp} {C p : Addr} {r : Mrk} {k m : Int} {v : MV} {R : List U} (h :
    Has H ([(v.a, mtup v)] :: [(p, .ins C r.sto.dx (stF (.int r.sto.hands) (.ref r.sto.w) (.ref r.sto.c) (.int r.sto.vals.length) (mkx r)))] :: [(r.sto.w, dI (worthOf r.sto.vals r.sto.kept))] :: [(r.sto.c, .lst (r.sto.cells.map V.int))] ::
      [(r.ma, dP (putK (mv mref r.marks) (k, m) (.ref v.a)))] :: [(r.wa, .lst (r.waits.map V.int))] :: r.bag :: R)) : Has H (mrkU C p (r.mark k m v (r.bag ++ [(v.a, mtup v)])) :: R) := by
  refine mrk_of ?_
  show Has H ([(p, .ins C r.sto.dx (stF (.int r.sto.hands) (.ref r.sto.w) (.ref r.sto.c) (.int r.sto.vals.length) (mkx r)))] :: [(r.sto.w, dI (worthOf r.sto.vals r.sto.kept))] :: [(r.sto.c, .lst (r.sto.cells.map V.int))] ::
      [(r.ma, dP (mv mref (pu r.marks (k, m) v)))] :: [(r.wa, .lst (r.waits.map V.int))] :: (r.bag ++ [(v.a, mtup v)]) :: R)
  rw [← mv_put mref]
  have h2 := Has.op.mpr (h.sub (show Sub (r.bag :: [(v.a, mtup v)] :: _) _ from Sub.p6 (Sub.p0 Sub.rf)))
  exact h2.sub (Sub.p1 (Sub.p1 (Sub.p1 (Sub.p1 (Sub.p1 (Sub.p0 Sub.rf))))))
def sp_fetch (C : Addr) : Sp := fun vs H Q _ => ∃ (p : Addr) (r : Mrk) (k m c : Int) (R : List U), vs = [.ref p, .int k, .int m, .int c] ∧ Has H (mrkU C p r :: R) ∧ r.wf ∧ 0 ≤ k ∧ k < r.sto.hands ∧ 0 ≤ m ∧ m < 2 ∧ 0 ≤ c ∧ c < r.sto.cells.length ∧
  ∀ a bag H', (r.mark k m ⟨a, "fetched", c, r.sto.cells.getD c.toNat 0⟩ bag).wf → Has H' (mrkU C p (r.mark k m ⟨a, "fetched", c, r.sto.cells.getD c.toNat 0⟩ bag) :: R) → Q (.int (r.sto.cells.getD c.toNat 0)) H'
theorem pure_fetch {K : PySem.W.Frag} {C : Addr} (hC : MrkC K C) {vs : List V} {H : Hp} {Q : VK} {E : XK} (h : sp_fetch C vs H Q E) : t_Marks_fetch K C (sp_look_mark C) (sp_look_cell C) ⟨fun _ H' => Q .non H', Q, fun _ _ => False, fun _ _ => False⟩ (start ["self", "hand", "mark", "cell"] vs) H := by
  obtain ⟨p, r, k, m, c, R, rfl, hh, w, k0, k1, m0, m1', c0, c1, q⟩ := h
  obtain ⟨⟨cl, n1, n2, n3, n4⟩, m1, m2⟩ := hC
  have h2 := mrk_two.mp hh
  have h3 := mrk_cells hh
  have hl := w.l1
  have e1 : (mv mref r.marks).length < sizeLine := by rw [mv_len, sizeLine_eq]; omega
  have ea := at_ints c0 c1
  unfold t_Marks_fetch
  walk_at "go"
  refine ⟨p, r, k, m, _, rfl, hh, k0, k1, m0, m1', ?_⟩
  walk_at "go"
  refine ⟨p, _, r.sto, c, _, rfl, h2, mkX_ok, c0, c1, ?_⟩
  clear hh h2
  walk_at "go"
  rename_i a H1 h1 b H2 h2 H3 h3
  have hw : (r.mark k m ⟨a, "fetched", c, r.sto.cells.getD c.toNat 0⟩ (r.bag ++ [(a, mtup ⟨a, "fetched", c, r.sto.cells.getD c.toNat 0⟩)])).wf :=
    w.mark k0 k1 m0 m1' (fun q hq => List.mem_append.mpr (.inl hq)) (List.mem_append.mpr (.inr (List.mem_singleton.mpr rfl))) ⟨c0, c1⟩ (fun e => absurd e (show ¬ ("fetched" : Str) = "sure" by decide))
  exact q a _ H3 hw (mrk_put (h3.sub (Sub.p1 (Sub.skip Sub.rf))))
theorem at_mv {H : Hp} {v : MV} {L L' : List U} {bag : U} (h : Has H L) (hs : Sub (bag :: L') L) (hb : (v.a, mtup v) ∈ bag) : H v.a = some (.tup [.str v.st, .int v.cell, .int v.thing]) := Has.fam (h.sub hs) _ hb
def sp_set_mark (C : Addr) : Sp := fun vs H Q _ => ∃ (p : Addr) (r : Mrk) (k m : Int) (v : MV) (R : List U), vs = [.ref p, .int k, .int m] ∧ Has H (mrkU C p r :: R) ∧ r.wf ∧ 0 ≤ k ∧ k < r.sto.hands ∧ 0 ≤ m ∧ m < 2 ∧ fd r.marks (k, m) = some v ∧ v.st = "fetched" ∧
  ∀ a bag H', (r.mark k m ⟨a, "set", v.cell, v.thing⟩ bag).wf → Has H' (mrkU C p (r.mark k m ⟨a, "set", v.cell, v.thing⟩ bag) :: R) → Q .non H'
theorem pure_set_mark {K : PySem.W.Frag} {C : Addr} (hC : MrkC K C) {vs : List V} {H : Hp} {Q : VK} {E : XK} (h : sp_set_mark C vs H Q E) : t_Marks_set_mark K C (sp_state_of C) ⟨fun _ H' => Q .non H', Q, fun _ _ => False, fun _ _ => False⟩ (start ["self", "hand", "mark", "state", "cell", "thing"] vs) H := by
  obtain ⟨p, r, k, m, v, R, rfl, hh, w, k0, k1, m0, m1', hf, hs, q⟩ := h
  obtain ⟨⟨cl, n1, n2, n3, n4⟩, m1, m2⟩ := hC
  have hl := w.l1
  have e1 : (mv mref r.marks).length < sizeLine := by rw [mv_len, sizeLine_eq]; omega
  have hp := (mrk_two.mp hh).g0
  unfold t_Marks_set_mark
  walk_at "go"
  rename_i sa H1 h1
  refine ⟨p, sa, r, k, m, ["fetched"], v, R, rfl, h1.sub (Sub.p1 (Sub.p0 Sub.rf)), w, k0, k1, m0, m1', hf, by rw [hs]; exact List.mem_singleton.mpr rfl, fun H2 h2 ht => ?_⟩
  have ht : H2 v.a = some (.tup [.str v.st, .int v.cell, .int v.thing]) := ht
  have h3 := mrk_cells h2
  clear h1 hh hp
  refine x_gtup ht rfl ?_
  clear h2
  walk_at "go"
  rename_i a H4 h4 b H5 h5 H6 h6
  have hw : (r.mark k m ⟨a, "set", v.cell, v.thing⟩ (r.bag ++ [(a, mtup ⟨a, "set", v.cell, v.thing⟩)])).wf :=
    w.mark k0 k1 m0 m1' (fun q hq => List.mem_append.mpr (.inl hq)) (List.mem_append.mpr (.inr (List.mem_singleton.mpr rfl))) (w.cr _ (fd_mem hf)) (fun e => absurd e (show ¬ ("set" : Str) = "sure" by decide))
  exact q a _ H6 hw (mrk_put (h6.sub (show Sub ([(a, mtup ⟨a, "set", v.cell, v.thing⟩)] :: [(p, _)] :: [(r.sto.w, _)] :: [(r.sto.c, _)] :: [(r.ma, _)] :: [(r.wa, _)] :: r.bag :: R) _ by walk_at "sub")))
def sp_sure (C : Addr) : Sp := fun vs H Q _ => ∃ (p : Addr) (r : Mrk) (k m : Int) (v : MV) (R : List U), vs = [.ref p, .int k, .int m] ∧ Has H (mrkU C p r :: R) ∧ r.wf ∧ 0 ≤ k ∧ k < r.sto.hands ∧ 0 ≤ m ∧ m < 2 ∧ fd r.marks (k, m) = some v ∧ v.st = "set" ∧
  (r.sto.cells.getD v.cell.toNat 0 = v.thing → ∀ a bag H', (r.mark k m ⟨a, "sure", v.cell, v.thing⟩ bag).wf → Has H' (mrkU C p (r.mark k m ⟨a, "sure", v.cell, v.thing⟩ bag) :: R) → Q (.bl true) H') ∧
  (r.sto.cells.getD v.cell.toNat 0 ≠ v.thing → ∀ H', Has H' (mrkU C p (r.unmark k m) :: R) → Q (.bl false) H')
theorem mrk_un {H : Hp} {C p : Addr} {r : Mrk} {k m : Int} {R : List U} (h :
    Has H ([(p, .ins C r.sto.dx (stF (.int r.sto.hands) (.ref r.sto.w) (.ref r.sto.c) (.int r.sto.vals.length) (mkx r)))] :: [(r.sto.w, dI (worthOf r.sto.vals r.sto.kept))] :: [(r.sto.c, .lst (r.sto.cells.map V.int))] ::
      [(r.ma, dP (dropK (mv mref r.marks) (k, m)))] :: [(r.wa, .lst (r.waits.map V.int))] :: r.bag :: R)) : Has H (mrkU C p (r.unmark k m) :: R) := by
  refine mrk_of ?_
  show Has H ([(p, .ins C r.sto.dx (stF (.int r.sto.hands) (.ref r.sto.w) (.ref r.sto.c) (.int r.sto.vals.length) (mkx r)))] :: [(r.sto.w, dI (worthOf r.sto.vals r.sto.kept))] :: [(r.sto.c, .lst (r.sto.cells.map V.int))] ::
      [(r.ma, dP (mv mref (rm r.marks (k, m))))] :: [(r.wa, .lst (r.waits.map V.int))] :: r.bag :: R)
  rw [← mv_drop mref]
  exact h
theorem pure_sure {K : PySem.W.Frag} {C : Addr} (hC : MrkC K C) {vs : List V} {H : Hp} {Q : VK} {E : XK} (h : sp_sure C vs H Q E) : t_Marks_sure K C (sp_state_of C) ⟨fun _ H' => Q .non H', Q, fun _ _ => False, fun _ _ => False⟩ (start ["self", "hand", "mark", "state", "cell", "thing"] vs) H := by
  obtain ⟨p, r, k, m, v, R, rfl, hh, w, k0, k1, m0, m1', hf, hs, q1, q2⟩ := h
  obtain ⟨⟨cl, n1, n2, n3, n4⟩, m1, m2⟩ := hC
  have hl := w.l1
  have e1 : (mv mref r.marks).length < sizeLine := by rw [mv_len, sizeLine_eq]; omega
  have hp := (mrk_two.mp hh).g0
  have c0 : 0 ≤ v.cell := (w.cr _ (fd_mem hf)).1
  have c1 : v.cell < r.sto.cells.length := (w.cr _ (fd_mem hf)).2
  have ea := at_ints c0 c1
  have hv : valV (mv mref r.marks) (k, m) = some (.ref v.a) := mv_some hf
  unfold t_Marks_sure
  walk_at "go"
  rename_i sa H1 h1
  refine ⟨p, sa, r, k, m, ["set"], v, R, rfl, h1.sub (Sub.p1 (Sub.p0 Sub.rf)), w, k0, k1, m0, m1', hf, by rw [hs]; exact List.mem_singleton.mpr rfl, fun H2 h2 ht => ?_⟩
  have ht : H2 v.a = some (.tup [.str v.st, .int v.cell, .int v.thing]) := ht
  have h3 := mrk_cells h2
  clear h1 hh hp
  refine x_gtup ht rfl ?_
  clear h2
  walk_at "go"
  refine ifB (fun b => ?_) (fun b => ?_)
  · have hne : ¬ r.sto.cells.getD v.cell.toNat 0 = v.thing := by simpa using b
    walk_at "go"
    rename_i b1 H4 h4 H5 h5
    exact q2 hne H5 (mrk_un (h5.sub (show Sub ([(p, _)] :: [(r.sto.w, _)] :: [(r.sto.c, _)] :: [(r.ma, _)] :: [(r.wa, _)] :: r.bag :: R) _ by walk_at "sub")))
  · have he : r.sto.cells.getD v.cell.toNat 0 = v.thing := by simpa using b
    walk_at "go"
    rename_i a H4 h4 b H5 h5 H6 h6
    have hw : (r.mark k m ⟨a, "sure", v.cell, v.thing⟩ (r.bag ++ [(a, mtup ⟨a, "sure", v.cell, v.thing⟩)])).wf :=
      w.mark k0 k1 m0 m1' (fun q hq => List.mem_append.mpr (.inl hq)) (List.mem_append.mpr (.inr (List.mem_singleton.mpr rfl))) ⟨c0, c1⟩ (fun _ => by
        show v.thing ∈ r.sto.kept
        rw [← he]
        exact w.ok.here _ (getD_mem (by omega)))
    exact q1 he a _ H6 hw (mrk_put (h6.sub (show Sub ([(a, mtup ⟨a, "sure", v.cell, v.thing⟩)] :: [(p, _)] :: [(r.sto.w, _)] :: [(r.sto.c, _)] :: [(r.ma, _)] :: [(r.wa, _)] :: r.bag :: R) _ by walk_at "sub")))
def sp_mread (C : Addr) : Sp := fun vs H Q _ => ∃ (p : Addr) (r : Mrk) (k m : Int) (v : MV) (R : List U), vs = [.ref p, .int k, .int m] ∧ Has H (mrkU C p r :: R) ∧ r.wf ∧ 0 ≤ k ∧ k < r.sto.hands ∧ 0 ≤ m ∧ m < 2 ∧ fd r.marks (k, m) = some v ∧ v.st = "sure" ∧
  ∀ H', Has H' (mrkU C p r :: R) → Q (.int (r.sto.vals.getD v.thing.toNat 0)) H'
theorem pure_mread {K : PySem.W.Frag} {C : Addr} (hC : MrkC K C) {vs : List V} {H : Hp} {Q : VK} {E : XK} (h : sp_mread C vs H Q E) : t_Marks_read K C (sp_state_of C) (sp_value_of C) ⟨fun _ H' => Q .non H', Q, fun _ _ => False, fun _ _ => False⟩ (start ["self", "hand", "mark", "state", "cell", "thing"] vs) H := by
  obtain ⟨p, r, k, m, v, R, rfl, hh, w, k0, k1, m0, m1', hf, hs, q⟩ := h
  obtain ⟨⟨cl, n1, n2, n3, n4⟩, m1, m2⟩ := hC
  have hp := (mrk_two.mp hh).g0
  unfold t_Marks_read
  walk_at "go"
  rename_i sa H1 h1
  refine ⟨p, sa, r, k, m, ["sure"], v, R, rfl, h1.sub (Sub.p1 (Sub.p0 Sub.rf)), w, k0, k1, m0, m1', hf, by rw [hs]; exact List.mem_singleton.mpr rfl, fun H2 h2 ht => ?_⟩
  have ht : H2 v.a = some (.tup [.str v.st, .int v.cell, .int v.thing]) := ht
  have hp2 := (mrk_two.mp h2).g0
  refine x_gtup ht rfl ?_
  walk_at "go"
  refine ⟨p, _, r.sto, v.thing, _, rfl, mrk_two.mp h2, mkX_ok, w.su _ (fd_mem hf) hs, ?_⟩
  walk_at "go"
  exact q H2 (h2.sub (Sub.p0 (Sub.skip Sub.rf)))
def sp_clear_mark (C : Addr) : Sp := fun vs H Q _ => ∃ (p : Addr) (r : Mrk) (k m : Int) (v : MV) (R : List U), vs = [.ref p, .int k, .int m] ∧ Has H (mrkU C p r :: R) ∧ r.wf ∧ 0 ≤ k ∧ k < r.sto.hands ∧ 0 ≤ m ∧ m < 2 ∧ fd r.marks (k, m) = some v ∧ v.st ∈ (["fetched", "set", "sure"] : List Str) ∧
  ∀ H', Has H' (mrkU C p (r.unmark k m) :: R) → Q .non H'
theorem pure_clear_mark {K : PySem.W.Frag} {C : Addr} (hC : MrkC K C) {vs : List V} {H : Hp} {Q : VK} {E : XK} (h : sp_clear_mark C vs H Q E) : t_Marks_clear_mark K C (sp_state_of C) ⟨fun _ H' => Q .non H', Q, fun _ _ => False, fun _ _ => False⟩ (start ["self", "hand", "mark"] vs) H := by
  obtain ⟨p, r, k, m, v, R, rfl, hh, w, k0, k1, m0, m1', hf, hs, q⟩ := h
  obtain ⟨⟨cl, n1, n2, n3, n4⟩, m1, m2⟩ := hC
  have hp := (mrk_two.mp hh).g0
  have hv : valV (mv mref r.marks) (k, m) = some (.ref v.a) := mv_some hf
  unfold t_Marks_clear_mark
  walk_at "go"
  rename_i sa H1 h1
  refine ⟨p, sa, r, k, m, ["fetched", "set", "sure"], v, R, rfl, h1.sub (Sub.p1 (Sub.p0 Sub.rf)), w, k0, k1, m0, m1', hf, hs, fun H2 h2 ht => ?_⟩
  have h3 := mrk_cells h2
  clear h1 hh hp h2
  walk_at "go"
  rename_i b1 H4 h4 H5 h5
  exact q H5 (mrk_un (h5.sub (show Sub ([(p, _)] :: [(r.sto.w, _)] :: [(r.sto.c, _)] :: [(r.ma, _)] :: [(r.wa, _)] :: r.bag :: R) _ by walk_at "sub")))
def sp_mafter (C : Addr) : Sp := fun vs H Q _ => ∃ (p : Addr) (r : Mrk) (z : Int) (R : List U), vs = [.ref p, .int z] ∧ Has H (mrkU C p r :: R) ∧ r.waits.length ≤ 1000 ∧
  ∀ H', Has H' (mrkU C p { r with waits := r.waits ++ [z] } :: R) → Q .non H'
theorem pure_mafter {K : PySem.W.Frag} {C : Addr} (hC : MrkC K C) {vs : List V} {H : Hp} {Q : VK} {E : XK} (h : sp_mafter C vs H Q E) : t_Marks_after_swap K ⟨fun _ H' => Q .non H', Q, fun _ _ => False, fun _ _ => False⟩ (start ["self", "thing"] vs) H := by
  obtain ⟨p, r, z, R, rfl, hh, hl, q⟩ := h
  obtain ⟨⟨cl, n1, n2, n3, n4⟩, m1, m2⟩ := hC
  have h3 := mrk_cells hh
  have sz : (r.waits.map V.int).length < sizeLine := by rw [List.length_map, sizeLine_eq]; omega
  clear hh
  unfold t_Marks_after_swap
  walk_at "go"
  rename_i H1 h1
  refine q H1 (mrk_of ?_)
  show Has H1 ([(p, .ins C r.sto.dx (stF (.int r.sto.hands) (.ref r.sto.w) (.ref r.sto.c) (.int r.sto.vals.length) (mkx r)))] :: [(r.sto.w, dI (worthOf r.sto.vals r.sto.kept))] :: [(r.sto.c, .lst (r.sto.cells.map V.int))] ::
      [(r.ma, dP (mv mref r.marks))] :: [(r.wa, .lst ((r.waits ++ [z]).map V.int))] :: r.bag :: R)
  rw [List.map_append]
  exact h1
/-- what bears a mark -/
def bears (m : Mks) : List Int := (m.filter fun q => !decide (q.2.st = ("fetched" : Str))).map fun q => q.2.thing
def sp_marked (C : Addr) : Sp := fun vs H Q _ => ∃ (p : Addr) (r : Mrk) (R : List U), vs = [.ref p] ∧ Has H (mrkU C p r :: R) ∧ r.wf ∧
  ∀ (ys : List Int) (d : Addr) H', ys.Pairwise (· < ·) → (∀ k, k ∈ ys ↔ k ∈ bears r.marks) → Has H' ([(d, .lst (ys.map V.int))] :: mrkU C p r :: R) → Q (.ref d) H'
theorem pure_marked {K : PySem.W.Frag} {C : Addr} (hC : MrkC K C) {vs : List V} {H : Hp} {Q : VK} {E : XK} (h : sp_marked C vs H Q E) : t_Marks_marked K ⟨fun _ H' => Q .non H', Q, fun _ _ => False, fun _ _ => False⟩ (start ["self", "found", "one"] vs) H := by
  obtain ⟨p, r, R, rfl, hh, w, q⟩ := h
  obtain ⟨⟨cl, n1, n2, n3, n4⟩, m1, m2⟩ := hC
  have h3 := mrk_cells hh
  have hl := w.l1
  clear hh
  have key : ∀ z ∈ (mv mref r.marks).map (·.1), ∃ v, fd r.marks z = some v ∧ (z, v) ∈ r.marks := fun z hz => by
    rw [mv_keys] at hz
    obtain ⟨v, hv⟩ := Option.isSome_iff_exists.mp (fd_isSome.mpr hz)
    exact ⟨v, hv, fd_mem hv⟩
  unfold t_Marks_marked
  walk_at "go"
  refine x_asgT (d := r.ma) (fun z => .int (((fd r.marks z).map fun v => v.thing).getD 0)) (fun z => !decide (((fd r.marks z).map fun v => v.st).getD ("" : Str) = ("fetched" : Str))) (fun q z => [some (.ref p), none, some (.ref q)]) (h3.sub (Sub.p3 Sub.rf)) (by rw [mv_len]; omega) (fun q z hz => rfl) (fun oo H' Q' h' q' => ?_) (fun oo q z hz D M H' Q' hq h' q' => ?_) (fun oo q z hz D M H' Q' hq h' q' => ?_) (fun oo q z hz _ D M H' Q' hq h' q' => ?_) fun D H2 h2 => ?_
  · walk_at "go"
    exact q'
  · walk_at "go"
    exact q'
  · obtain ⟨v, hv, hm⟩ := key z hz
    have hv2 : valV (mv mref r.marks) (z.1, z.2) = some (.ref v.a) := mv_some hv
    have ht := at_mv h' (by walk_at "sub") (w.bg _ hm)
    walk_at "go"
    rw [hv] at q'
    exact q' H' hq h'
  · obtain ⟨v, hv, hm⟩ := key z hz
    have hv2 : valV (mv mref r.marks) (z.1, z.2) = some (.ref v.a) := mv_some hv
    have ht := at_mv h' (by walk_at "sub") (w.bg _ hm)
    walk_at "go"
    rw [hv] at q'
    exact q' H' h'
  · have e : ((((mv mref r.marks).map (·.1)).filter fun z => !decide (((fd r.marks z).map fun v => v.st).getD ("" : Str) = ("fetched" : Str))).map fun z => V.int (((fd r.marks z).map fun v => v.thing).getD 0)) = (bears r.marks).map V.int := by
      rw [mv_keys, List.filter_map, List.map_map]
      unfold bears
      rw [List.map_map]
      have ev : ∀ q ∈ r.marks, fd r.marks q.1 = some q.2 := fun q hq => fd_of w.nd (show (q.1, q.2) ∈ r.marks from hq)
      have e1 : (r.marks.filter ((fun z => !decide (((fd r.marks z).map fun v => v.st).getD ("" : Str) = ("fetched" : Str))) ∘ fun x => x.1)) = r.marks.filter fun q => !decide (q.2.st = ("fetched" : Str)) := List.filter_congr fun q hq => by
        show (!decide (((fd r.marks q.1).map fun v => v.st).getD ("" : Str) = ("fetched" : Str))) = _
        rw [ev q hq]
        rfl
      rw [e1]
      refine List.map_congr_left fun q hq => ?_
      show V.int (((fd r.marks q.1).map fun v => v.thing).getD 0) = V.int q.2.thing
      rw [ev q (List.mem_filter.mp hq).1]
      rfl
    rw [e] at h2
    have hb : (bears r.marks).length < 64 := by
      unfold bears
      rw [List.length_map]
      have := List.length_filter_le (fun q : (Int × Int) × MV => !decide (q.2.st = ("fetched" : Str))) r.marks
      omega
    walk_at "go"
    rename_i w2 ys d H3 s1 s2 h4
    refine q ys d H3 s1 s2 ?_
    have h5 := mrk_of (C := C) (p := p) (r := r) (h4.sub (show Sub ([(p, _)] :: [(r.sto.w, _)] :: [(r.sto.c, _)] :: [(r.ma, _)] :: [(r.wa, _)] :: r.bag :: _) _ by walk_at "sub"))
    exact h5.sub (by walk_at "sub")
theorem Has.bagless {H : Hp} {A : U} {L : List U} (h : Has H (A :: L)) : Has H L := h.sub (Sub.skip Sub.rf)
def Mrk.gone (r : Mrk) : List Int := r.waits.filter fun z => !decide (z ∈ bears r.marks)
def Mrk.swept (r : Mrk) : Mrk := { r with sto := r.sto.less r.gone, waits := r.waits.filter fun z => decide (z ∈ bears r.marks) }
def Mrk.at (r : Mrk) (wa : Addr) : Mrk := { r with wa := wa }
theorem Mrk.wf.at {r : Mrk} (w : r.wf) (wa : Addr) : (r.at wa).wf := ⟨w.ok, w.nd, w.kr, w.h6, w.bg, w.cr, w.su, w.nw, w.wk⟩
theorem Mrk.wf.swept {r : Mrk} (w : r.wf) : r.swept.wf where
  ok := w.ok.less fun k hk => (w.wk k (List.mem_filter.mp hk).1).2
  nd := w.nd
  kr := w.kr
  h6 := w.h6
  bg := w.bg
  cr := w.cr
  su := fun q hq hs => by
    have h1 := w.su q hq hs
    refine List.mem_filter.mpr ⟨h1, decide_eq_true fun hg => ?_⟩
    have h2 : ¬ q.2.thing ∈ bears r.marks := by simpa using (List.mem_filter.mp hg).2
    refine h2 (List.mem_map.mpr ⟨q, List.mem_filter.mpr ⟨hq, ?_⟩, rfl⟩)
    rw [hs]
    decide
  nw := List.filter_sublist.nodup w.nw
  wk := fun k hk => by
    obtain ⟨h1, h2⟩ := List.mem_filter.mp hk
    obtain ⟨h3, h4⟩ := w.wk k h1
    refine ⟨List.mem_filter.mpr ⟨h3, decide_eq_true fun hg => ?_⟩, h4⟩
    have h5 : ¬ k ∈ bears r.marks := by simpa using (List.mem_filter.mp hg).2
    exact h5 (of_decide_eq_true h2)
def sp_sweep (C : Addr) : Sp := fun vs H Q _ => ∃ (p : Addr) (r : Mrk) (R : List U), vs = [.ref p] ∧ Has H (mrkU C p r :: R) ∧ r.wf ∧
  ∀ (ys : List Int) (d wa : Addr) H', ys.Perm r.gone → ys.Pairwise (· ≤ ·) → Has H' ([(d, .lst (ys.map V.int))] :: mrkU C p (r.swept.at wa) :: R) → Q (.ref d) H'
theorem pure_sweep {K : PySem.W.Frag} {C : Addr} (hC : MrkC K C) {vs : List V} {H : Hp} {Q : VK} {E : XK} (h : sp_sweep C vs H Q E) : t_Marks_sweep K C (sp_marked C) (sp_let_go C) ⟨fun _ H' => Q .non H', Q, fun _ _ => False, fun _ _ => False⟩ (start ["self", "bear", "found", "thing"] vs) H := by
  obtain ⟨p, r, R, rfl, hh, w, q⟩ := h
  obtain ⟨⟨cl, n1, n2, n3, n4⟩, m1, m2⟩ := hC
  have hp := (mrk_two.mp hh).g0
  have hwl := w.wl
  have hv9 := w.ok.v9
  unfold t_Marks_sweep
  walk_at "go"
  refine ⟨p, r, R, rfl, hh, w, fun bs bd H1 b1 b2 h1 => ?_⟩
  have h2 := mrk_cells (h1.sub (Sub.p1 (Sub.p0 Sub.rf)))
  clear hh hp h1
  have eb : ∀ z, decide (z ∈ bs) = decide (z ∈ bears r.marks) := fun z => by
    by_cases h : z ∈ bs
    · rw [decide_eq_true h, decide_eq_true ((b2 z).mp h)]
    · rw [decide_eq_false h, decide_eq_false fun z => h ((b2 _).mpr z)]
  walk_at "go"
  refine k_lcF r.waits V.int V.int (fun z => !decide (z ∈ bears r.marks)) h2 (fun H' h' => by walk_at "hp") (by omega) (fun z hz D M H' Q' h' q' => ?_) (fun z hz _ D M H' Q' h' q' => ?_) fun f H3 h3 => ?_
  · walk_at "go"
    rw [eb]
    exact q' H' h'
  · walk_at "go"
    exact q' H' h'
  walk_at "go"
  refine k_lcF r.waits V.int V.int (fun z => decide (z ∈ bears r.marks)) h3 (fun H' h' => by walk_at "hp") (by omega) (fun z hz D M H' Q' h' q' => ?_) (fun z hz _ D M H' Q' h' q' => ?_) fun wa H4 h4 => ?_
  · walk_at "go"
    rw [eb]
    exact q' H' h'
  · walk_at "go"
    exact q' H' h'
  clear h2 h3
  walk_at "go"
  rename_i H5 h5
  have h6 := Has.glue2 (h5.sub (show Sub ([(p, .ins C r.sto.dx (stF (.int r.sto.hands) (.ref r.sto.w) (.ref r.sto.c) (.int r.sto.vals.length) (mkX (.ref r.ma) (.ref wa))))] :: [(r.sto.w, dI (worthOf r.sto.vals r.sto.kept))] :: [(r.sto.c, .lst (r.sto.cells.map V.int))] :: _) _ by walk_at "sub"))
  refine ⟨p, f, _, r.sto, r.gone, _, rfl, h6.sub (show Sub (stoU C p (mkX (.ref r.ma) (.ref wa)) r.sto :: [(f, .lst (r.gone.map V.int))] :: _) _ by walk_at "sub"), mkX_ok, List.filter_sublist.nodup w.nw, fun k hk => (w.wk k (List.mem_filter.mp hk).1).1, fun ys d H7 p1 p2 h7 => ?_⟩
  walk_at "go"
  refine q ys d wa H7 p1 p2 ?_
  have h8 := Has.glue2 (h7.sub (show Sub ([(r.ma, dP (mv mref r.marks))] :: [(wa, .lst ((r.waits.filter fun z => decide (z ∈ bears r.marks)).map V.int))] :: r.bag :: _) _ by walk_at "sub"))
  have h9 := mrk_two (C := C) (p := p) (r := r.swept.at wa) |>.mpr (h8.sub (show Sub (stoU C p (mkX (.ref r.ma) (.ref wa)) (r.sto.less r.gone) :: _ :: _) _ by walk_at "sub"))
  exact h9.sub (by walk_at "sub")
/-- a swap, as the laws use it -/
def Mrk.swap (r : Mrk) (i v : Int) : Mrk := { r with sto := r.sto.swap i v, waits := r.waits ++ [r.sto.cells.getD i.toNat 0] }
def okM (r : Mrk) : Prop := r.wf ∧ r.sto.vals.length < 1000
abbrev sp_swapM (C : Addr) : Sp := sp_swap C (sp_mafter C)
abbrev sp_law_swapM (C : Addr) : Sp := sp__law_swap (mrkU C) (fun r => r.sto.cells) (fun r => r.sto.vals) Mrk.swap okM
theorem hob_M {C : Addr} : ∀ p (r : Mrk) R H, Has H (mrkU C p r :: R) → ∃ dx fs, H p = some (.ins C dx fs) ∧ fs.lookup ("swap" : Str) = none := fun p r R H h => ⟨_, _, (mrk_two.mp h).g0, mkX_ok.f4⟩
theorem hsw_M {C : Addr} : ∀ p (r : Mrk) (i v : Int) R H (Q : VK), Has H (mrkU C p r :: R) → okM r → 0 ≤ i → i < r.sto.cells.length → 0 ≤ v → v ≤ 999 → (∀ H', Has H' (mrkU C p (r.swap i v) :: R) → Q (.int (r.sto.cells.getD i.toNat 0)) H') → sp_swapM C [.ref p, .int i, .int v] H Q E0 :=
  fun p r i v R H Q h ok i0 i1 v0 v1 q => ⟨p, _, r.sto, i, v, _, rfl, mrk_two.mp h, mkX_ok, ok.1.ok, ok.2, i0, i1, v0, v1, fun H' Q' h' k => ⟨p, { r with sto := r.sto.swap i v }, _, R, rfl, mrk_two.mpr h', Nat.le_trans ok.1.wl (Nat.le_of_lt ok.2), fun H2 h2 => k _ _ (q H2 h2)⟩⟩
theorem Mrk.wf.swap {r : Mrk} (w : r.wf) {i v : Int} (i0 : 0 ≤ i) (i1 : i < r.sto.cells.length) (hv : r.sto.vals.length < 1000) : (r.swap i v).wf where
  ok := w.ok.swap i0 i1 hv
  nd := w.nd
  kr := w.kr
  h6 := w.h6
  bg := w.bg
  cr := fun q hq => by
    show _ ∧ q.2.cell < ((r.sto.cells.set _ _).length : Nat)
    rw [List.length_set]
    exact w.cr q hq
  su := fun q hq hs => List.mem_append.mpr (.inl (w.su q hq hs))
  nw := by
    refine nodup_snoc w.nw fun hm => ?_
    exact (w.wk _ hm).2 (getD_mem (by omega))
  wk := fun j hj => by
    have hnew : (r.sto.vals.length : Int) ∉ r.sto.kept := fun hk => by
      obtain ⟨_, h1⟩ := w.ok.made _ hk
      omega
    have hnc : (r.sto.vals.length : Int) ∉ r.sto.cells := fun hk => hnew (w.ok.here _ hk)
    show j ∈ r.sto.kept ++ [_] ∧ j ∉ r.sto.cells.set _ _
    rcases List.mem_append.mp hj with q | q
    · obtain ⟨h1, h2⟩ := w.wk j q
      refine ⟨List.mem_append.mpr (.inl h1), fun z => ?_⟩
      rcases List.mem_or_eq_of_mem_set z with e | e
      · exact h2 e
      · exact hnew (e ▸ h1)
    · have hlt : i.toNat < r.sto.cells.length := by omega
      rw [List.mem_singleton.mp q]
      exact ⟨List.mem_append.mpr (.inl (w.ok.here _ (getD_mem hlt))), set_old w.ok.cnd hnc hlt⟩
end La
namespace La
open PySem L2 Sy
local macro_rules | `(tactic| walk_at "fl") => `(tactic| first | assumption | exact stF_hands | exact stF_worth | exact stF_cells | exact stF_made | exact StX.f1 (by assumption) | exact StX.f2 (by assumption) | exact StX.f3 (by assumption) | exact StX.f4 (by assumption) | exact StX.f5 (by assumption) | exact StX.f6 (by assumption) | exact StX.f7 (by assumption) | exact StX.f8 (by assumption) | exact StX.f9 (by assumption))
local macro_rules | `(tactic| walk_at "fsl") => `(tactic| first | assumption | exact StX.fl (by assumption))
local macro_rules | `(tactic| walk_at "put") => `(tactic| first | exact stF_put_made | exact stF_put_cells | exact stF_put_worth | exact stF_put_hands)
def t_Counts_init (K : PySem.W.Frag) (C_Store : Addr) (sp_Counts__Store_init : Sp) : TS :=
  tSeq (tDrop (tCFn C_Store sp_Counts__Store_init [] E0 (tC (.ref C_Store)) (tCons (tVar 0) (tCons (tVar 1) (tCons (tVar 2) (tNil))))))
    (sFld K (tVar 0) (tDNewT) "held")
def t_Counts_count_of (K : PySem.W.Frag) : TS :=
  tRet (tCB (rSum K) (tCons (tLockE (tLc (iKeys (tFld K (tVar 0) "held")) (gName 2) (tTest (tOp rEq (tOp (rIxT K) (tVar 2) (tC (.int 1))) (tVar 1))) (tDGet (tFld K (tVar 0) "held") (tVar 2)) [2])) (tNil)))
def t_Counts_hold (K : PySem.W.Frag) (C_Counts : Addr) (sp_Counts__Store_look_hand sp_Counts__Store_look_cell : Sp) : TS :=
  tSeq (tDrop (tMeth C_Counts "look_hand" sp_Counts__Store_look_hand [] E0 (tVar 0) (tCons (tVar 1) (tNil))))
    (tSeq (tDrop (tMeth C_Counts "look_cell" sp_Counts__Store_look_cell [] E0 (tVar 0) (tCons (tVar 2) (tNil))))
    (tSeq (tAsg (tOp (rIxL K) (tFld K (tVar 0) "cells") (tVar 2)) (gName 3))
    (tSeq (sDPut (tFld K (tVar 0) "held") (tTup (tCons (tVar 1) (tCons (tVar 3) (tNil)))) (tOp rAddI (tDGet2 (tFld K (tVar 0) "held") (tTup (tCons (tVar 1) (tCons (tVar 3) (tNil)))) (tC (.int 0))) (tC (.int 1))))
    (tRet (tVar 3)))))
def t_Counts_look_held (K : PySem.W.Frag) (C_Counts : Addr) (sp_Counts__Store_look_hand : Sp) : TS :=
  tSeq (tDrop (tMeth C_Counts "look_hand" sp_Counts__Store_look_hand [] E0 (tVar 0) (tCons (tVar 1) (tNil))))
    (tIfS (tOr (tB (tCB (rIsi K) (tCons (tVar 2) (tCons (tC (.ty "bool")) (tNil))))) (tOr (tNot (tB (tCB (rIsi K) (tCons (tVar 2) (tCons (tC (.ty "int")) (tNil)))))) (tB (tDNotIn (tTup (tCons (tVar 1) (tCons (tVar 2) (tNil)))) (tFld K (tVar 0) "held"))))) (tNever) (tNext))
def t_Counts_read (K : PySem.W.Frag) (C_Counts : Addr) (sp_Counts__Counts_look_held sp_Counts__Store_value_of : Sp) : TS :=
  tSeq (tDrop (tMeth C_Counts "look_held" sp_Counts__Counts_look_held [] E0 (tVar 0) (tCons (tVar 1) (tCons (tVar 2) (tNil)))))
    (tRet (tMeth C_Counts "value_of" sp_Counts__Store_value_of [] E0 (tVar 0) (tCons (tVar 2) (tNil))))
def t_Counts_drop (K : PySem.W.Frag) (C_Counts : Addr) (sp_Counts__Counts_look_held sp_Counts__Counts_loose : Sp) : TS :=
  tSeq (tDrop (tMeth C_Counts "look_held" sp_Counts__Counts_look_held [] E0 (tVar 0) (tCons (tVar 1) (tCons (tVar 2) (tNil)))))
    (tSeq (sDPut (tFld K (tVar 0) "held") (tTup (tCons (tVar 1) (tCons (tVar 2) (tNil)))) (tOp rSubI (tDGet (tFld K (tVar 0) "held") (tTup (tCons (tVar 1) (tCons (tVar 2) (tNil))))) (tC (.int 1))))
    (tSeq (tIfS (tTest (tOp rEq (tDGet (tFld K (tVar 0) "held") (tTup (tCons (tVar 1) (tCons (tVar 2) (tNil))))) (tC (.int 0)))) (tDrop (tDPopT (tFld K (tVar 0) "held") (tTup (tCons (tVar 1) (tCons (tVar 2) (tNil)))))) (tNext))
    (tRet (tMeth C_Counts "loose" sp_Counts__Counts_loose [] E0 (tVar 0) (tCons (tVar 2) (tNil))))))
def t_Counts_loose (K : PySem.W.Frag) (C_Counts : Addr) (sp_Counts__Counts_count_of sp_Counts__Store_is_out sp_Counts__Store_let_go : Sp) : TS :=
  tSeq (tIfS (tOr (tTest (tOp rGtI (tMeth C_Counts "count_of" sp_Counts__Counts_count_of [] E0 (tVar 0) (tCons (tVar 1) (tNil))) (tC (.int 0)))) (tNot (tB (tMeth C_Counts "is_out" sp_Counts__Store_is_out [] E0 (tVar 0) (tCons (tVar 1) (tNil)))))) (tRet (tC (.bl false))) (tNext))
    (tSeq (tDrop (tMeth C_Counts "let_go" sp_Counts__Store_let_go [] E0 (tVar 0) (tCons (tLst (tCons (tVar 1) (tNil))) (tNil))))
    (tRet (tC (.bl true))))
def t_Counts_after_swap (K : PySem.W.Frag) (C_Counts : Addr) (sp_Counts__Counts_loose : Sp) : TS :=
  tDrop (tMeth C_Counts "loose" sp_Counts__Counts_loose [] E0 (tVar 0) (tCons (tVar 1) (tNil)))
def t_Counts_holds (K : PySem.W.Frag) (C_Counts : Addr) (sp_Counts__Store_look_hand : Sp) : TS :=
  tSeq (tDrop (tMeth C_Counts "look_hand" sp_Counts__Store_look_hand [] E0 (tVar 0) (tCons (tVar 1) (tNil))))
    (tRet (tCB (rSortedPO K) (tCons (tLockE (tLc (iKeys (tFld K (tVar 0) "held")) (gTup K 2 (gCons (gName 2) (gCons (gName 3) (gNil)))) (tTest (tOp rEq (tVar 2) (tVar 1))) (tTup (tCons (tVar 3) (tCons (tDGet (tFld K (tVar 0) "held") (tTup (tCons (tVar 2) (tCons (tVar 3) (tNil))))) (tNil)))) [2, 3])) (tNil))))
def ctX (v0 : V) : List (Str × V) := [("held", v0)]
theorem ct_held {h w c m v0 : V} : (stF h w c m (ctX v0)).lookup ("held" : Str) = some v0 := by kernel_rfl
theorem ct_put_held {h w c m v0 u : V} : putF "held" u (stF h w c m (ctX v0)) = stF h w c m (ctX u) := by kernel_rfl
theorem ct_m_count_of {h w c m v0 : V} : (stF h w c m (ctX v0)).lookup ("count_of" : Str) = none := by kernel_rfl
theorem ct_m_hold {h w c m v0 : V} : (stF h w c m (ctX v0)).lookup ("hold" : Str) = none := by kernel_rfl
theorem ct_m_look_held {h w c m v0 : V} : (stF h w c m (ctX v0)).lookup ("look_held" : Str) = none := by kernel_rfl
theorem ct_m_read {h w c m v0 : V} : (stF h w c m (ctX v0)).lookup ("read" : Str) = none := by kernel_rfl
theorem ct_m_drop {h w c m v0 : V} : (stF h w c m (ctX v0)).lookup ("drop" : Str) = none := by kernel_rfl
theorem ct_m_loose {h w c m v0 : V} : (stF h w c m (ctX v0)).lookup ("loose" : Str) = none := by kernel_rfl
theorem ct_m_holds {h w c m v0 : V} : (stF h w c m (ctX v0)).lookup ("holds" : Str) = none := by kernel_rfl
theorem ctX_ok {v0 : V} : StX (ctX v0) := ⟨by show 1 < 900; decide, by kernel_rfl, by kernel_rfl, by kernel_rfl, by kernel_rfl, by kernel_rfl, by kernel_rfl, by kernel_rfl, by kernel_rfl, by kernel_rfl⟩
theorem ct_p1 {h w c m  u : V} : putF "held" u (stF h w c m []) = stF h w c m (ctX u) := by kernel_rfl
local macro_rules | `(tactic| walk_at "fl") => `(tactic| first | assumption | exact stF_hands | exact stF_worth | exact stF_cells | exact stF_made | exact ct_held | exact ct_m_count_of | exact ct_m_hold | exact ct_m_look_held | exact ct_m_read | exact ct_m_drop | exact ct_m_loose | exact ct_m_holds | exact StX.f1 ctX_ok | exact StX.f2 ctX_ok | exact StX.f3 ctX_ok | exact StX.f4 ctX_ok | exact StX.f5 ctX_ok | exact StX.f6 ctX_ok | exact StX.f7 ctX_ok | exact StX.f8 ctX_ok | exact StX.f9 ctX_ok)
local macro_rules | `(tactic| walk_at "put") => `(tactic| first | exact ct_put_held | exact stF_put_made | exact stF_put_cells | exact stF_put_worth | exact stF_put_hands)
local macro_rules | `(tactic| walk_at "fsl") => `(tactic| first | assumption | exact StX.fl ctX_ok)
/-! ### counts -/
structure CntC (K : PySem.W.Frag) (C : Addr) : Prop where
  st : StoreC K C
  n1 : NoAttr K C "held"
abbrev Hld := List ((Int × Int) × Int)
structure Cnt where
  sto : Sto
  ha : Addr
  held : Hld
abbrev ctx (r : Cnt) : List (Str × V) := ctX (.ref r.ha)
def cdU (r : Cnt) : U := [(r.ha, dP (mv V.int r.held))]
def cntU (C p : Addr) (r : Cnt) : U := stoU C p (ctx r) r.sto ++ cdU r
theorem cnt_two {H : Hp} {C p : Addr} {r : Cnt} {R : List U} : Has H (cntU C p r :: R) ↔ Has H (stoU C p (ctx r) r.sto :: cdU r :: R) := Has.op
theorem cnt_cells {H : Hp} {C p : Addr} {r : Cnt} {R : List U} (h : Has H (cntU C p r :: R)) :
    Has H ([(p, .ins C r.sto.dx (stF (.int r.sto.hands) (.ref r.sto.w) (.ref r.sto.c) (.int r.sto.vals.length) (ctx r)))] :: [(r.sto.w, dI (worthOf r.sto.vals r.sto.kept))] :: [(r.sto.c, .lst (r.sto.cells.map V.int))] :: [(r.ha, dP (mv V.int r.held))] :: R) := (cnt_two.mp h).cut2
theorem cnt_of {H : Hp} {C p : Addr} {r : Cnt} {R : List U} (h :
    Has H ([(p, .ins C r.sto.dx (stF (.int r.sto.hands) (.ref r.sto.w) (.ref r.sto.c) (.int r.sto.vals.length) (ctx r)))] :: [(r.sto.w, dI (worthOf r.sto.vals r.sto.kept))] :: [(r.sto.c, .lst (r.sto.cells.map V.int))] :: [(r.ha, dP (mv V.int r.held))] :: R)) : Has H (cntU C p r :: R) := cnt_two.mpr (Has.glue2 h)
/-- what is held of a thing in all -/
def tot (m : Hld) (z : Int) : Int := ((m.filter fun q => decide (q.1.2 = z)).map (·.2)).sum
structure Cnt.wf (r : Cnt) : Prop where
  ok : r.sto.ok
  nd : (r.held.map (·.1)).Nodup
  kr : ∀ q ∈ r.held, 0 ≤ q.1.1 ∧ q.1.1 < r.sto.hands
  ps : ∀ q ∈ r.held, 1 ≤ q.2
  hk : ∀ q ∈ r.held, q.1.2 ∈ r.sto.kept
  ll : r.held.length ≤ 1000
theorem tot_pos {m : Hld} (ps : ∀ q ∈ m, 1 ≤ q.2) (z : Int) : (0 < tot m z ↔ ∃ q ∈ m, q.1.2 = z) ∧ 0 ≤ tot m z := by
  induction m with
  | nil => exact ⟨⟨fun h => absurd h (show ¬ (0 : Int) < 0 by decide), fun ⟨q, hq, _⟩ => absurd hq List.not_mem_nil⟩, Int.le_refl _⟩
  | cons a r ih =>
    obtain ⟨i1, i2⟩ := ih fun q hq => ps q (List.mem_cons_of_mem _ hq)
    have h1 := ps a (List.mem_cons.mpr (.inl rfl))
    unfold tot at i1 i2 ⊢
    by_cases e : a.1.2 = z
    · rw [List.filter_cons, if_pos (decide_eq_true e), List.map_cons, List.sum_cons]
      exact ⟨⟨fun _ => ⟨a, List.mem_cons.mpr (.inl rfl), e⟩, fun _ => by omega⟩, by omega⟩
    · rw [List.filter_cons, if_neg (by simp [e])]
      refine ⟨i1.trans ⟨fun ⟨q, hq, h⟩ => ⟨q, List.mem_cons_of_mem _ hq, h⟩, fun ⟨q, hq, h⟩ => ?_⟩, i2⟩
      rcases List.mem_cons.mp hq with h2 | h2
      · exact absurd (h2 ▸ h) e
      · exact ⟨q, h2, h⟩
def Cnt.new (s : Sto) (ha : Addr) : Cnt := ⟨s, ha, []⟩
def sp_cinit (C : Addr) : Sp := fun vs H Q _ => ∃ (p dx : Addr) (h n : Int) (R : List U), vs = [.ref p, .int h, .int n] ∧ Has H ([(p, .ins C dx [])] :: R) ∧ 1 ≤ h ∧ h ≤ 6 ∧ 1 ≤ n ∧ n ≤ 5 ∧
  ∀ w c ha H', Has H' (cntU C p (Cnt.new (Sto.new dx w c h n) ha) :: R) → Q .non H'
section
local macro_rules | `(tactic| walk_at "put") => `(tactic| first | exact ct_p1)
local macro_rules | `(tactic| walk_at "fsl") => `(tactic| first | assumption | (show 4 < 1000; decide))
theorem pure_cinit {K : PySem.W.Frag} {C CS : Addr} (hC : CntC K C) {vs : List V} {H : Hp} {Q : VK} {E : XK} (h : sp_cinit C vs H Q E) : t_Counts_init K CS (sp_init C) ⟨fun _ H' => Q .non H', Q, fun _ _ => False, fun _ _ => False⟩ (start ["self", "hands", "cells"] vs) H := by
  obtain ⟨p, dx, h, n, R, rfl, hh, h1, h6, n1', n5, q⟩ := h
  obtain ⟨⟨cl, n1, n2, n3, n4⟩, m1⟩ := hC
  unfold t_Counts_init
  walk_at "go"
  refine ⟨p, dx, h, n, R, rfl, hh, h1, h6, n1', n5, fun w c H1 hh1 => ?_⟩
  replace hh1 := hh1.cut2
  walk_at "go"
  rename_i ha H3 h3 H4 h4
  refine q w c ha H4 (cnt_of (Has.sub h4 ?_))
  show Sub ([(p, .ins C dx (stF (.int h) (.ref w) (.ref c) (.int (Sto.new dx w c h n).vals.length) (ctX (.ref ha))))] :: [(w, dI (worthOf (Sto.new dx w c h n).vals (rgI n)))] :: [(c, .lst ((rgI n).map V.int))] :: [(ha, dP [])] :: R) _
  walk_at "sub"
end
theorem Cnt.new_wf {dx w c ha : Addr} {h n : Int} (h1 : 1 ≤ n) (h5 : n ≤ 5) : (Cnt.new (Sto.new dx w c h n) ha).wf :=
  ⟨Sto.new_ok h1 h5, List.nodup_nil, fun k hk => absurd hk List.not_mem_nil, fun k hk => absurd hk List.not_mem_nil, fun k hk => absurd hk List.not_mem_nil, Nat.zero_le _⟩
def sp_is_out (C : Addr) : Sp := fun vs H Q _ => ∃ (p : Addr) (x : List (Str × V)) (s : Sto) (z : Int) (R : List U), vs = [.ref p, .int z] ∧ Has H (stoU C p x s :: R) ∧ StX x ∧ Q (.bl (!decide (z ∈ s.cells))) H
section
local macro_rules | `(tactic| walk_at "fl") => `(tactic| first | assumption | exact stF_hands | exact stF_worth | exact stF_cells | exact stF_made)
theorem pure_is_out {K : PySem.W.Frag} {C : Addr} (hC : StoreC K C) {vs : List V} {H : Hp} {Q : VK} {E : XK} (h : sp_is_out C vs H Q E) : t_Store_is_out K ⟨fun _ H' => Q .non H', Q, fun _ _ => False, fun _ _ => False⟩ (start ["self", "thing"] vs) H := by
  obtain ⟨p, x, s, z, R, rfl, hh, hx, q⟩ := h
  obtain ⟨cl, n1, n2, n3, n4⟩ := hC
  replace hh := hh.cut2
  unfold t_Store_is_out
  walk_at "go"
  exact q
end
def sp_count_of (C : Addr) : Sp := fun vs H Q _ => ∃ (p : Addr) (r : Cnt) (z : Int) (R : List U), vs = [.ref p, .int z] ∧ Has H (cntU C p r :: R) ∧ (r.held.map (·.1)).Nodup ∧ r.held.length ≤ 1000 ∧
  ∀ H', Has H' (cntU C p r :: R) → Q (.int (tot r.held z)) H'
theorem pure_count_of {K : PySem.W.Frag} {C : Addr} (hC : CntC K C) {vs : List V} {H : Hp} {Q : VK} {E : XK} (h : sp_count_of C vs H Q E) : t_Counts_count_of K ⟨fun _ H' => Q .non H', Q, fun _ _ => False, fun _ _ => False⟩ (start ["self", "thing", "one"] vs) H := by
  obtain ⟨p, r, z, R, rfl, hh, nd, hl, q⟩ := h
  obtain ⟨⟨cl, n1, n2, n3, n4⟩, m1⟩ := hC
  have h3 := cnt_cells hh
  clear hh
  unfold t_Counts_count_of
  walk_at "go"
  refine x_lcT (d := r.ha) (fun k => .int ((fd r.held k).getD 0)) (fun k => decide (k.2 = z)) (fun q k => [some (.ref p), some (.int z), some (.ref q)]) (h3.sub (Sub.p3 Sub.rf)) (by rw [mv_len]; omega) (fun q z hz => rfl) (fun oo H' Q' h' q' => ?_) (fun oo q k hz D M H' Q' hq h' q' => ?_) (fun oo q k hz D M H' Q' hq h' q' => ?_) (fun oo q k hz _ D M H' Q' hq h' q' => ?_) fun D H2 h2 => ?_
  · walk_at "go"
    exact q'
  · walk_at "go"
    exact q'
  · walk_at "go"
    exact q' H' hq h'
  · rw [mv_keys] at hz
    obtain ⟨v, hv⟩ := Option.isSome_iff_exists.mp (fd_isSome.mpr hz)
    have hv2 : valV (mv V.int r.held) (k.1, k.2) = some (.int v) := mv_some hv
    walk_at "go"
    rw [hv] at q'
    exact q' H' h'
  · have e : ((((mv V.int r.held).map (·.1)).filter fun k => decide (k.2 = z)).map fun k => V.int ((fd r.held k).getD 0)) = ((r.held.filter fun q => decide (q.1.2 = z)).map (·.2)).map V.int := by
      rw [mv_keys, List.filter_map, List.map_map, List.map_map]
      refine List.map_congr_left fun q hq => ?_
      show V.int ((fd r.held q.1).getD 0) = V.int q.2
      rw [fd_of nd (show (q.1, q.2) ∈ r.held from (List.mem_filter.mp hq).1)]
      rfl
    rw [e] at h2
    walk_at "go"
    refine q H2 ?_
    exact cnt_of (h2.sub (show Sub ([(p, _)] :: [(r.sto.w, _)] :: [(r.sto.c, _)] :: [(r.ha, _)] :: R) _ by walk_at "sub"))
def sp_hold (C : Addr) : Sp := fun vs H Q _ => ∃ (p : Addr) (r : Cnt) (k c : Int) (R : List U), vs = [.ref p, .int k, .int c] ∧ Has H (cntU C p r :: R) ∧ r.held.length < 1000 ∧ 0 ≤ k ∧ k < r.sto.hands ∧ 0 ≤ c ∧ c < r.sto.cells.length ∧
  ∀ H', Has H' (cntU C p { r with held := pu r.held (k, r.sto.cells.getD c.toNat 0) ((fd r.held (k, r.sto.cells.getD c.toNat 0)).getD 0 + 1) } :: R) → Q (.int (r.sto.cells.getD c.toNat 0)) H'
theorem pure_hold {K : PySem.W.Frag} {C : Addr} (hC : CntC K C) {vs : List V} {H : Hp} {Q : VK} {E : XK} (h : sp_hold C vs H Q E) : t_Counts_hold K C (sp_look_hand C) (sp_look_cell C) ⟨fun _ H' => Q .non H', Q, fun _ _ => False, fun _ _ => False⟩ (start ["self", "hand", "cell", "thing"] vs) H := by
  obtain ⟨p, r, k, c, R, rfl, hh, hl, k0, k1, c0, c1, q⟩ := h
  obtain ⟨⟨cl, n1, n2, n3, n4⟩, m1⟩ := hC
  have h2 := cnt_two.mp hh
  have h3 := cnt_cells hh
  have e1 : (mv V.int r.held).length < sizeLine := by rw [mv_len, sizeLine_eq]; omega
  have ea := at_ints c0 c1
  unfold t_Counts_hold
  walk_at "go"
  refine ⟨p, _, r.sto, k, _, rfl, h2, ctX_ok, k0, k1, ?_⟩
  walk_at "go"
  refine ⟨p, _, r.sto, c, _, rfl, h2, ctX_ok, c0, c1, ?_⟩
  clear hh h2
  walk_at "go"
  rename_i b1 H1 g1
  have ev : (valV (mv V.int r.held) (k, r.sto.cells.getD c.toNat 0)).getD (.int 0) = .int ((fd r.held (k, r.sto.cells.getD c.toNat 0)).getD 0) := by
    rw [mv_val]
    cases fd r.held (k, r.sto.cells.getD c.toNat 0) <;> rfl
  rw [ev]
  walk_at "go"
  rename_i b2 H2 g2 H3 g3
  refine q H3 (cnt_of ?_)
  rw [show V.int ((fd r.held (k, r.sto.cells.getD c.toNat 0)).getD 0 + 1) = V.int ((fd r.held (k, r.sto.cells.getD c.toNat 0)).getD 0 + 1) from rfl, mv_put] at g3
  exact g3.sub (show Sub ([(p, _)] :: [(r.sto.w, _)] :: [(r.sto.c, _)] :: [(r.ha, _)] :: R) _ by walk_at "sub")
def sp_look_held (C : Addr) : Sp := fun vs H Q _ => ∃ (p : Addr) (r : Cnt) (k z : Int) (R : List U), vs = [.ref p, .int k, .int z] ∧ Has H (cntU C p r :: R) ∧ 0 ≤ k ∧ k < r.sto.hands ∧ (fd r.held (k, z)).isSome = true ∧ ∀ H', Has H' (cntU C p r :: R) → Q .non H'
theorem pure_look_held {K : PySem.W.Frag} {C : Addr} (hC : CntC K C) {vs : List V} {H : Hp} {Q : VK} {E : XK} (h : sp_look_held C vs H Q E) : t_Counts_look_held K C (sp_look_hand C) ⟨fun _ H' => Q .non H', Q, fun _ _ => False, fun _ _ => False⟩ (start ["self", "hand", "thing"] vs) H := by
  obtain ⟨p, r, k, z, R, rfl, hh, k0, k1, hi, q⟩ := h
  obtain ⟨⟨cl, n1, n2, n3, n4⟩, m1⟩ := hC
  have h2 := cnt_two.mp hh
  have h3 := cnt_cells hh
  unfold t_Counts_look_held
  walk_at "go"
  refine ⟨p, _, r.sto, k, _, rfl, h2, ctX_ok, k0, k1, ?_⟩
  clear hh h2
  walk_at "go"
  rename_i b1 H1 g1
  rw [mv_isSome, hi]
  walk_at "go"
  exact q H1 (cnt_of (g1.sub (Sub.skip Sub.rf)))
def sp_cread (C : Addr) : Sp := fun vs H Q _ => ∃ (p : Addr) (r : Cnt) (k z : Int) (R : List U), vs = [.ref p, .int k, .int z] ∧ Has H (cntU C p r :: R) ∧ 0 ≤ k ∧ k < r.sto.hands ∧ (fd r.held (k, z)).isSome = true ∧ z ∈ r.sto.kept ∧ ∀ H', Has H' (cntU C p r :: R) → Q (.int (r.sto.vals.getD z.toNat 0)) H'
theorem pure_cread {K : PySem.W.Frag} {C : Addr} (hC : CntC K C) {vs : List V} {H : Hp} {Q : VK} {E : XK} (h : sp_cread C vs H Q E) : t_Counts_read K C (sp_look_held C) (sp_value_of C) ⟨fun _ H' => Q .non H', Q, fun _ _ => False, fun _ _ => False⟩ (start ["self", "hand", "thing"] vs) H := by
  obtain ⟨p, r, k, z, R, rfl, hh, k0, k1, hi, hz, q⟩ := h
  obtain ⟨⟨cl, n1, n2, n3, n4⟩, m1⟩ := hC
  have hp := (cnt_two.mp hh).g0
  unfold t_Counts_read
  walk_at "go"
  refine ⟨p, r, k, z, _, rfl, hh, k0, k1, hi, fun H1 h1 => ?_⟩
  have hp := (cnt_two.mp h1).g0
  walk_at "go"
  refine ⟨p, _, r.sto, z, _, rfl, cnt_two.mp h1, ctX_ok, hz, ?_⟩
  walk_at "go"
  exact q H1 h1
def sp_loose (C : Addr) : Sp := fun vs H Q _ => ∃ (p : Addr) (r : Cnt) (z : Int) (R : List U), vs = [.ref p, .int z] ∧ Has H (cntU C p r :: R) ∧ (r.held.map (·.1)).Nodup ∧ r.held.length ≤ 1000 ∧ (∀ q ∈ r.held, 1 ≤ q.2) ∧ z ∈ r.sto.kept ∧
  (((∃ q ∈ r.held, q.1.2 = z) ∨ z ∈ r.sto.cells) → ∀ H', Has H' (cntU C p r :: R) → Q (.bl false) H') ∧
  (¬ ((∃ q ∈ r.held, q.1.2 = z) ∨ z ∈ r.sto.cells) → ∀ H', Has H' (cntU C p { r with sto := r.sto.less [z] } :: R) → Q (.bl true) H')
theorem pure_loose {K : PySem.W.Frag} {C : Addr} (hC : CntC K C) {vs : List V} {H : Hp} {Q : VK} {E : XK} (h : sp_loose C vs H Q E) : t_Counts_loose K C (sp_count_of C) (sp_is_out C) (sp_let_go C) ⟨fun _ H' => Q .non H', Q, fun _ _ => False, fun _ _ => False⟩ (start ["self", "thing"] vs) H := by
  obtain ⟨p, r, z, R, rfl, hh, nd, hl, ps, hz, q1, q2⟩ := h
  obtain ⟨⟨cl, n1, n2, n3, n4⟩, m1⟩ := hC
  have hp := (cnt_two.mp hh).g0
  obtain ⟨t1, t2⟩ := tot_pos ps z
  unfold t_Counts_loose
  walk_at "go"
  refine ⟨p, r, z, _, rfl, hh, nd, hl, fun H1 h1 => ?_⟩
  have hp := (cnt_two.mp h1).g0
  walk_at "go"
  refine ifD (fun b1 => ?_) (fun b1 => ?_)
  · walk_at "go"
    exact q1 (.inl (t1.mp b1)) H1 h1
  · walk_at "go"
    refine ⟨p, _, r.sto, z, _, rfl, cnt_two.mp h1, ctX_ok, ?_⟩
    by_cases hc : z ∈ r.sto.cells
    · rw [decide_eq_true hc, show (!true) = false from rfl]
      walk_at "go"
      exact q1 (.inr hc) H1 h1
    · rw [decide_eq_false hc, show (!false) = true from rfl]
      walk_at "go"
      rename_i f H2 h2
      have h3 := cnt_two.mp (h2.sub (show Sub (cntU C p r :: _) _ by walk_at "sub"))
      refine ⟨p, f, _, r.sto, [z], _, rfl, h3.sub (show Sub (stoU C p (ctx r) r.sto :: [(f, _)] :: _) _ by walk_at "sub"), ctX_ok, List.pairwise_singleton _ _, fun k hk => by rw [List.mem_singleton.mp hk]; exact hz, fun ys d H4 _ _ h4 => ?_⟩
      walk_at "go"
      refine q2 (fun h => ?_) H4 ?_
      · rcases h with h | h
        · exact b1 (t1.mpr h)
        · exact hc h
      · have h5 := (cnt_two (C := C) (p := p) (r := { r with sto := r.sto.less [z] })).mpr (h4.sub (show Sub (stoU C p (ctx r) (r.sto.less [z]) :: cdU r :: R) _ by walk_at "sub"))
        exact h5
def sp_cafter (C : Addr) : Sp := fun vs H Q E => ∃ (p : Addr) (z : Int), vs = [.ref p, .int z] ∧ sp_loose C vs H (fun _ H' => Q .non H') E
theorem pure_cafter {K : PySem.W.Frag} {C : Addr} (hC : CntC K C) {vs : List V} {H : Hp} {Q : VK} {E : XK} (h : sp_cafter C vs H Q E) : t_Counts_after_swap K C (sp_loose C) ⟨fun _ H' => Q .non H', Q, fun _ _ => False, fun _ _ => False⟩ (start ["self", "thing"] vs) H := by
  obtain ⟨p0, z0, e, p, r, z, R, rfl, hh, nd, hl, ps, hz, q1, q2⟩ := h
  have hp := (cnt_two.mp hh).g0
  unfold t_Counts_after_swap
  walk_at "go"
  refine ⟨p, r, z, R, rfl, hh, nd, hl, ps, hz, fun h H' h' => ?_, fun h H' h' => ?_⟩
  · walk_at "go"
    exact q1 h H' h'
  · walk_at "go"
    exact q2 h H' h'
theorem rm_pu {κ β : Type} [DecidableEq κ] (m : List (κ × β)) (k : κ) (b : β) : rm (pu m k b) k = rm m k := by
  unfold pu
  split
  · unfold rm
    induction m with
    | nil => rfl
    | cons a r ih =>
      rename_i h
      rw [List.map_cons]
      by_cases e : a.1 = k
      · rw [if_pos e, List.filter_cons, if_neg (by simp [e]), List.filter_cons, if_neg (by simp [e])]
        by_cases hr : (fd r k).isSome = true
        · exact ih hr
        · have hk : k ∉ r.map (·.1) := fun z => hr (fd_isSome.mpr z)
          congr 1
          refine (List.map_congr_left (g := id) fun q hq => ?_).trans (List.map_id r)
          rw [if_neg (show ¬ q.1 = k from fun z => hk (z ▸ List.mem_map.mpr ⟨q, hq, rfl⟩))]
          rfl
      · rw [if_neg e, List.filter_cons, if_pos (by simp [e]), List.filter_cons, if_pos (by simp [e])]
        rw [fd_neg e] at h
        rw [ih h]
  · unfold rm
    rw [List.filter_append, List.filter_cons, if_neg (by simp)]
    simp
def dn (m : Hld) (k z n : Int) : Hld := if n = 1 then rm m (k, z) else pu m (k, z) (n - 1)
theorem dn_nd {m : Hld} {k z n : Int} (h : (m.map (·.1)).Nodup) : ((dn m k z n).map (·.1)).Nodup := by
  unfold dn
  split
  · exact rm_nodup h
  · exact pu_nd _ h
theorem dn_mem {m : Hld} {k z n : Int} {q : (Int × Int) × Int} (h : q ∈ dn m k z n) : q ∈ m ∨ (q = ((k, z), n - 1) ∧ n ≠ 1) := by
  unfold dn at h
  split at h
  · exact .inl (rm_mem.mp h).1
  · rename_i hn
    rcases pu_mem h with h | h
    · exact .inl h
    · exact .inr ⟨h, hn⟩
theorem pu_len'' {κ β : Type} [DecidableEq κ] {m : List (κ × β)} {k : κ} (b : β) (h : (fd m k).isSome = true) : (pu m k b).length = m.length := by
  unfold pu
  rw [if_pos h, List.length_map]
def sp_drop (C : Addr) : Sp := fun vs H Q _ => ∃ (p : Addr) (r : Cnt) (k z n : Int) (R : List U), vs = [.ref p, .int k, .int z] ∧ Has H (cntU C p r :: R) ∧ r.wf ∧ 0 ≤ k ∧ k < r.sto.hands ∧ fd r.held (k, z) = some n ∧
  (((∃ q ∈ dn r.held k z n, q.1.2 = z) ∨ z ∈ r.sto.cells) → ∀ H', Has H' (cntU C p { r with held := dn r.held k z n } :: R) → Q (.bl false) H') ∧
  (¬ ((∃ q ∈ dn r.held k z n, q.1.2 = z) ∨ z ∈ r.sto.cells) → ∀ H', Has H' (cntU C p { r with held := dn r.held k z n, sto := r.sto.less [z] } :: R) → Q (.bl true) H')
theorem pure_drop {K : PySem.W.Frag} {C : Addr} (hC : CntC K C) {vs : List V} {H : Hp} {Q : VK} {E : XK} (h : sp_drop C vs H Q E) : t_Counts_drop K C (sp_look_held C) (sp_loose C) ⟨fun _ H' => Q .non H', Q, fun _ _ => False, fun _ _ => False⟩ (start ["self", "hand", "thing"] vs) H := by
  obtain ⟨p, r, k, z, n, R, rfl, hh, w, k0, k1, hf, q1, q2⟩ := h
  obtain ⟨⟨cl, n1, n2, n3, n4⟩, m1⟩ := hC
  have hp := (cnt_two.mp hh).g0
  have hl := w.ll
  have e1 : (mv V.int r.held).length < sizeLine := by rw [mv_len, sizeLine_eq]; omega
  have hv : valV (mv V.int r.held) (k, z) = some (.int n) := mv_some hf
  have hs : (fd r.held (k, z)).isSome = true := by rw [hf]; rfl
  have hz : z ∈ r.sto.kept := w.hk _ (fd_mem hf)
  have hn : 1 ≤ n := w.ps _ (fd_mem hf)
  unfold t_Counts_drop
  walk_at "go"
  refine ⟨p, r, k, z, _, rfl, hh, k0, k1, hs, fun H1 h1 => ?_⟩
  have h2 := cnt_cells h1
  clear hh h1 hp
  walk_at "go"
  rename_i b1 H2 g1 b2 H3 g2 H4 g3 b3 H5 g4
  have hv2 : valV (putK (mv V.int r.held) (k, z) (.int (n - 1))) (k, z) = some (.int (n - 1)) := by rw [mv_put, mv_val, fd_pu, if_pos rfl]; rfl
  clear h2 g1 g2 g3
  walk_at "go"
  refine ifD (fun c1 => ?_) (fun c1 => ?_)
  · walk_at "go"
    rename_i b4 H6 g5 H7 g6
    have e : n = 1 := by omega
    have ed : dn r.held k z n = rm r.held (k, z) := by unfold dn; rw [if_pos e]
    rw [mv_put, mv_drop, rm_pu, ← ed] at g6
    have h8 := cnt_of (C := C) (p := p) (r := { r with held := dn r.held k z n }) (g6.sub (show Sub ([(p, _)] :: [(r.sto.w, _)] :: [(r.sto.c, _)] :: [(r.ha, _)] :: R) _ by walk_at "sub"))
    have hp := (cnt_two.mp h8).g0
    clear g4 g5 g6
    walk_at "go"
    refine ⟨p, { r with held := dn r.held k z n }, z, R, rfl, h8, dn_nd w.nd, ?_, fun q hq => ?_, hz, fun h H' h' => ?_, fun h H' h' => ?_⟩
    · show (dn r.held k z n).length ≤ 1000
      rw [ed]
      exact Nat.le_trans (rm_len _ _) hl
    · rcases dn_mem hq with h | h
      · exact w.ps q h
      · exact absurd e h.2
    · walk_at "go"
      exact q1 h H' h'
    · walk_at "go"
      exact q2 h H' h'
  · have e : ¬ n = 1 := by omega
    have ed : dn r.held k z n = pu r.held (k, z) (n - 1) := by unfold dn; rw [if_neg e]
    rw [mv_put, ← ed] at g4
    have h8 := cnt_of (C := C) (p := p) (r := { r with held := dn r.held k z n }) (g4.sub (show Sub ([(p, _)] :: [(r.sto.w, _)] :: [(r.sto.c, _)] :: [(r.ha, _)] :: R) _ by walk_at "sub"))
    have hp := (cnt_two.mp h8).g0
    clear g4
    walk_at "go"
    refine ⟨p, { r with held := dn r.held k z n }, z, R, rfl, h8, dn_nd w.nd, ?_, fun q hq => ?_, hz, fun h H' h' => ?_, fun h H' h' => ?_⟩
    · show (dn r.held k z n).length ≤ 1000
      rw [ed, pu_len'' _ hs]
      exact hl
    · rcases dn_mem hq with h | h
      · exact w.ps q h
      · rw [h.1]
        show 1 ≤ n - 1
        omega
    · walk_at "go"
      exact q1 h H' h'
    · walk_at "go"
      exact q2 h H' h'
theorem Has.unitPerm {H : Hp} {A B : U} {L : List U} (h : Has H (A :: L)) (p : A.Perm B) : Has H (B :: L) := by
  obtain ⟨n, a⟩ := h
  have p2 : (A :: L).flatten.Perm (B :: L).flatten := List.Perm.append_right _ p
  exact ⟨(p2.map _).nodup_iff.mp n, fun q hq => a q (p2.mem_iff.mpr hq)⟩
/-- what a hand holds: the thing, how often -/
def mine (m : Hld) (k : Int) : List (Int × Int) := (m.filter fun q => decide (q.1.1 = k)).map fun q => (q.1.2, q.2)
def sp_holds (C : Addr) : Sp := fun vs H Q _ => ∃ (p : Addr) (r : Cnt) (k : Int) (R : List U), vs = [.ref p, .int k] ∧ Has H (cntU C p r :: R) ∧ (r.held.map (·.1)).Nodup ∧ r.held.length ≤ 1000 ∧ 0 ≤ k ∧ k < r.sto.hands ∧
  ∀ (ys : Prs) (d : Addr) H', (ys.map (·.2)).Perm (mine r.held k) → (ys.map (·.2)).Pairwise leP → Has H' ([(d, .lst (prR ys))] :: prU ys :: cntU C p r :: R) → Q (.ref d) H'
theorem pure_holds {K : PySem.W.Frag} {C : Addr} (hC : CntC K C) {vs : List V} {H : Hp} {Q : VK} {E : XK} (h : sp_holds C vs H Q E) : t_Counts_holds K C (sp_look_hand C) ⟨fun _ H' => Q .non H', Q, fun _ _ => False, fun _ _ => False⟩ (start ["self", "hand", "one", "thing"] vs) H := by
  obtain ⟨p, r, k, R, rfl, hh, nd, hl, k0, k1, q⟩ := h
  obtain ⟨⟨cl, n1, n2, n3, n4⟩, m1⟩ := hC
  have h2 := cnt_two.mp hh
  have h3 := cnt_cells hh
  unfold t_Counts_holds
  walk_at "go"
  refine ⟨p, _, r.sto, k, _, rfl, h2, ctX_ok, k0, k1, ?_⟩
  clear hh h2
  walk_at "go"
  refine x_lcTN (d := r.ha) obP (fun z => (z.2, (fd r.held z).getD 0)) (fun z => decide (z.1 = k)) (fun q z => [some (.ref p), some (.int k), some (.int z.1), some (.int z.2)]) (h3.sub (Sub.p3 Sub.rf)) (by rw [mv_len]; omega) (fun q z hz => rfl) (fun oo H' Q' h' q' => ?_) (fun oo q z hz D m H' Q' hq h' q' => ?_) (fun oo q z hz D m H' Q' hq h' q' => ?_) (fun oo q z hz _ D m H' Q' hq h' q' => ?_) fun D m H2 em h2 => ?_
  · walk_at "go"
    exact q'
  · refine x_gtup hq rfl ?_
    walk_at "go"
    exact q'
  · walk_at "go"
    exact q' H' hq h'
  · rw [mv_keys] at hz
    obtain ⟨v, hv⟩ := Option.isSome_iff_exists.mp (fd_isSome.mpr hz)
    have hv2 : valV (mv V.int r.held) (z.1, z.2) = some (.int v) := mv_some hv
    walk_at "go"
    rename_i b1 H3 g3 b2 H4 g4
    rw [hv] at q'
    exact q' b2 H4 (g4.sub (Sub.p0 (Sub.skip Sub.rf)))
  · have e : ((((mv V.int r.held).map (·.1)).filter fun z => decide (z.1 = k)).map fun z => (z.2, (fd r.held z).getD 0)) = mine r.held k := by
      unfold mine
      rw [mv_keys, List.filter_map, List.map_map]
      refine List.map_congr_left fun q hq => ?_
      show (q.1.2, (fd r.held q.1).getD 0) = (q.1.2, q.2)
      rw [fd_of nd (show (q.1, q.2) ∈ r.held from (List.mem_filter.mp hq).1)]
      rfl
    rw [e] at em
    walk_at "go"
    refine k_sortP (h2.sub (show Sub (prU m :: _) _ by walk_at "sub")) h2.g0 fun ys d H4 py sy h4 => ?_
    refine q ys d H4 (by rw [← em]; exact py.map _) sy ?_
    have h5 := Has.unitPerm (h4.sub (show Sub (prU m :: _) _ by walk_at "sub")) (show (prU m).Perm (prU ys) from (py.map _).symm)
    have h6 := cnt_of (C := C) (p := p) (r := r) (h5.sub (show Sub ([(p, _)] :: [(r.sto.w, _)] :: [(r.sto.c, _)] :: [(r.ha, _)] :: _) _ by walk_at "sub"))
    exact h6.sub (show Sub ([(d, _)] :: prU ys :: cntU C p r :: R) _ by walk_at "sub")
def Cnt.hasd (r : Cnt) (z : Int) : Bool := r.held.any fun q => decide (q.1.2 = z)
def Cnt.swap (r : Cnt) (i v : Int) : Cnt := { r with sto := if r.hasd (r.sto.cells.getD i.toNat 0) then r.sto.swap i v else (r.sto.swap i v).less [r.sto.cells.getD i.toNat 0] }
def okC (r : Cnt) : Prop := r.wf ∧ r.sto.vals.length < 1000
abbrev sp_swapC (C : Addr) : Sp := sp_swap C (sp_cafter C)
abbrev sp_law_swapC (C : Addr) : Sp := sp__law_swap (cntU C) (fun r => r.sto.cells) (fun r => r.sto.vals) Cnt.swap okC
theorem hob_C {C : Addr} : ∀ p (r : Cnt) R H, Has H (cntU C p r :: R) → ∃ dx fs, H p = some (.ins C dx fs) ∧ fs.lookup ("swap" : Str) = none := fun p r R H h => ⟨_, _, (cnt_two.mp h).g0, ctX_ok.f4⟩
theorem hasd_iff {r : Cnt} {z : Int} : r.hasd z = true ↔ ∃ q ∈ r.held, q.1.2 = z := by
  unfold Cnt.hasd
  rw [List.any_eq_true]
  exact ⟨fun ⟨q, h1, h2⟩ => ⟨q, h1, of_decide_eq_true h2⟩, fun ⟨q, h1, h2⟩ => ⟨q, h1, decide_eq_true h2⟩⟩
theorem swap_out {s : Sto} (ok : s.ok) {i v : Int} (i0 : 0 ≤ i) (i1 : i < s.cells.length) : s.cells.getD i.toNat 0 ∉ (s.swap i v).cells := by
  have hnew : (s.vals.length : Int) ∉ s.kept := fun hk => by
    obtain ⟨_, h1⟩ := ok.made _ hk
    omega
  exact set_old ok.cnd (fun hk => hnew (ok.here _ hk)) (by omega)
theorem hsw_C {C : Addr} : ∀ p (r : Cnt) (i v : Int) R H (Q : VK), Has H (cntU C p r :: R) → okC r → 0 ≤ i → i < r.sto.cells.length → 0 ≤ v → v ≤ 999 → (∀ H', Has H' (cntU C p (r.swap i v) :: R) → Q (.int (r.sto.cells.getD i.toNat 0)) H') → sp_swapC C [.ref p, .int i, .int v] H Q E0 :=
  fun p r i v R H Q h ok i0 i1 v0 v1 q => ⟨p, _, r.sto, i, v, _, rfl, cnt_two.mp h, ctX_ok, ok.1.ok, ok.2, i0, i1, v0, v1, fun H' Q' h' k =>
    ⟨p, r.sto.cells.getD i.toNat 0, rfl, p, { r with sto := r.sto.swap i v }, r.sto.cells.getD i.toNat 0, R, rfl, cnt_two.mpr h', ok.1.nd, ok.1.ll, ok.1.ps, List.mem_append.mpr (.inl (ok.1.ok.here _ (getD_mem (by omega)))), fun hc H2 h2 => k _ _ (q H2 (by
        have hx : r.hasd (r.sto.cells.getD i.toNat 0) = true := hasd_iff.mpr (hc.resolve_right (swap_out ok.1.ok i0 i1))
        unfold Cnt.swap
        rw [hx]
        exact h2)), fun hc H2 h2 => k _ _ (q H2 (by
        have hx : r.hasd (r.sto.cells.getD i.toNat 0) = false := by
          cases e : r.hasd (r.sto.cells.getD i.toNat 0) with
          | false => rfl
          | true => exact absurd (.inl (hasd_iff.mp e)) hc
        unfold Cnt.swap
        rw [hx]
        exact h2))⟩⟩
end La
namespace La
open PySem L2 Sy
def tr_is_whole (K : PySem.W.Frag) (EE : XK) : TS :=
  tRet (tAndV (tCB (rIsi K) (tCons (tVar 0) (tCons (tC (.ty "int")) (tNil)))) (tAndV (tNotV (tCB (rIsi K) (tCons (tVar 0) (tCons (tC (.ty "bool")) (tNil))))) (tChain rLeI rLeI (tVar 1) (tVar 0) (tVar 2))))
def tr_look_number (K : PySem.W.Frag) (C_BadNumber : Addr) (sr_is_whole : Sp) (EE : XK) : TS :=
  tIfS (tNot (tB (tCall sr_is_whole [] EE (tCons (tVar 0) (tCons (tVar 1) (tCons (tVar 2) (tNil))))))) (tRaise EE C_BadNumber) (tNext)
def tr_Store_init (K : PySem.W.Frag) (sr_look_number : Sp) (EE : XK) : TS :=
  tSeq (tDrop (tCall sr_look_number [] EE (tCons (tVar 1) (tCons (tC (.int 1)) (tCons (tC (.int 6)) (tNil))))))
    (tSeq (tDrop (tCall sr_look_number [] EE (tCons (tVar 2) (tCons (tC (.int 1)) (tCons (tC (.int 5)) (tNil))))))
    (tSeq (sFld K (tVar 0) (tVar 1) "hands")
    (tSeq (sFld K (tVar 0) (tCB (rDictP K) (tCons (tLc (iRng1 (tCons (tVar 2) (tNil))) (gName 3) tYes (tTup (tCons (tVar 3) (tCons (tC (.int 0)) (tNil)))) [3]) (tNil))) "worth")
    (tSeq (sFld K (tVar 0) (tLstRg (tRg1 (tVar 2))) "cells")
    (sFld K (tVar 0) (tVar 2) "made")))))
def tr_Marks_init (K : PySem.W.Frag) (C_Store : Addr) (sr_Marks__Store_init : Sp) (EE : XK) : TS :=
  tSeq (tDrop (tCFn C_Store sr_Marks__Store_init [] EE (tC (.ref C_Store)) (tCons (tVar 0) (tCons (tVar 1) (tCons (tVar 2) (tNil))))))
    (tSeq (sFld K (tVar 0) (tDNewT) "marks")
    (sFld K (tVar 0) (tLst (tNil)) "waits"))
def tr_Store_look_cell (K : PySem.W.Frag) (C_NoCell : Addr) (sr_is_whole : Sp) (EE : XK) : TS :=
  tIfS (tNot (tB (tCall sr_is_whole [] EE (tCons (tVar 1) (tCons (tC (.int 0)) (tCons (tOp rSubI (tCB (rLenQ K) (tCons (tFld K (tVar 0) "cells") (tNil))) (tC (.int 1))) (tNil))))))) (tRaise EE C_NoCell) (tNext)
def tr_Store_swap (K : PySem.W.Frag) (C_Store : Addr) (sr_Store__Store_look_cell sr_look_number sp_Store__Store_after_swap : Sp) (EE : XK) : TS :=
  tSeq (tDrop (tMeth C_Store "look_cell" sr_Store__Store_look_cell [] EE (tVar 0) (tCons (tVar 1) (tNil))))
    (tSeq (tDrop (tCall sr_look_number [] EE (tCons (tVar 2) (tCons (tC (.int 0)) (tCons (tC (.int 999)) (tNil))))))
    (tSeq (tAsg (tOp (rIxL K) (tFld K (tVar 0) "cells") (tVar 1)) (gName 3))
    (tSeq (sDPut (tFld K (tVar 0) "worth") (tFld K (tVar 0) "made") (tVar 2))
    (tSeq (tAsg (tFld K (tVar 0) "made") (gSub (tFld K (tVar 0) "cells") (tVar 1) rSetL))
    (tSeq (sFld K (tVar 0) (tOp rAddI (tFld K (tVar 0) "made") (tC (.int 1))) "made")
    (tSeq (tDrop (tMeth C_Store "after_swap" sp_Store__Store_after_swap [] E0 (tVar 0) (tCons (tVar 3) (tNil))))
    (tRet (tVar 3))))))))
def t__law_refusal (K : PySem.W.Frag) (C_NoCell C_NoHand C_BadNumber C_NotIn C_IsIn C_NoMark C_BadPairs C_Gone C_NotHeld C_NotNow C_StoreError : Addr) : TS :=
  tSeq (tAsg (tLst (tCons (tCB (rIsK K) (tCons (tVar 0) (tCons (tC (.ref C_BadNumber)) (tNil)))) (tCons (tCB (rIsK K) (tCons (tVar 0) (tCons (tC (.ref C_NoHand)) (tNil)))) (tCons (tCB (rIsK K) (tCons (tVar 0) (tCons (tC (.ref C_NoCell)) (tNil)))) (tNil))))) (gName 1))
    (tSeq (tAsg (tOp rCat (tVar 1) (tLst (tCons (tCB (rIsK K) (tCons (tVar 0) (tCons (tC (.ref C_NoMark)) (tNil)))) (tCons (tCB (rIsK K) (tCons (tVar 0) (tCons (tC (.ref C_IsIn)) (tNil)))) (tCons (tCB (rIsK K) (tCons (tVar 0) (tCons (tC (.ref C_NotIn)) (tNil)))) (tNil)))))) (gName 1))
    (tSeq (tAsg (tOp rCat (tVar 1) (tLst (tCons (tCB (rIsK K) (tCons (tVar 0) (tCons (tC (.ref C_NotHeld)) (tNil)))) (tCons (tCB (rIsK K) (tCons (tVar 0) (tCons (tC (.ref C_Gone)) (tNil)))) (tCons (tCB (rIsK K) (tCons (tVar 0) (tCons (tC (.ref C_BadPairs)) (tNil)))) (tNil)))))) (gName 1))
    (tSeq (tAsg (tOp rCat (tVar 1) (tLst (tCons (tCB (rIsK K) (tCons (tVar 0) (tCons (tC (.ref C_NotNow)) (tNil)))) (tNil)))) (gName 1))
    (tSeq (tIfS (tOr (tTest (tOp rNe (tBM K "list" (rCntV K) (tVar 1) (tCons (tC (.bl true)) (tNil))) (tC (.int 1)))) (tOr (tNot (tB (tCB (rIsK K) (tCons (tVar 0) (tCons (tC (.ref C_StoreError)) (tNil)))))) (tNot (tB (tCB (rIsK K) (tCons (tVar 0) (tCons (tC (.ty "ValueError")) (tNil)))))))) (tRet (tC (.str "odd"))) (tNext))
    (tSeq (tAsg (tLst (tCons (tC (.str "number")) (tCons (tC (.str "hand")) (tCons (tC (.str "cell")) (tCons (tC (.str "mark")) (tCons (tC (.str "in")) (tCons (tC (.str "not in")) (tCons (tC (.str "not held")) (tCons (tC (.str "gone")) (tCons (tC (.str "pairs")) (tCons (tC (.str "now")) (tNil)))))))))))) (gName 2))
    (tRet (tOp (rIxL K) (tVar 2) (tBM K "list" (rIndex K) (tVar 1) (tCons (tC (.bl true)) (tNil))))))))))
def t__law_asked (K : PySem.W.Frag) (C_StoreError C_Store C_Marks C_Rounds C_Counts : Addr) (sr_mk_Store sr_mk_Marks sr_Store__Store_swap sr_Rounds__Store_swap sr_Marks__Store_swap sr_Counts__Store_swap sp__law_refusal : Sp) : TS :=
  tSeq (tAsg (tC .non) (gName 4))
    (tSeq (tTryK K (.ref C_StoreError) 5 4 (fun W => tIfS (tTest (tOp rEq (tVar 1) (tC (.int 0)))) (tDrop (tMakeS C_Store sr_mk_Store (WE W) (tCons (tVar 2) (tCons (tVar 3) (tNil))))) (tIfS (tTest (tOp rEq (tVar 1) (tC (.int 1)))) (tDrop (tMakeS C_Marks sr_mk_Marks (WE W) (tCons (tVar 2) (tCons (tVar 3) (tNil))))) (tDrop (tOrE (tMethS' C_Store "swap" sr_Store__Store_swap (WE W) (tVar 0) (tCons (tVar 2) (tCons (tVar 3) (tNil)))) (tOrE (tMethS' C_Rounds "swap" sr_Rounds__Store_swap (WE W) (tVar 0) (tCons (tVar 2) (tCons (tVar 3) (tNil)))) (tOrE (tMethS' C_Marks "swap" sr_Marks__Store_swap (WE W) (tVar 0) (tCons (tVar 2) (tCons (tVar 3) (tNil)))) (tMethS' C_Counts "swap" sr_Counts__Store_swap (WE W) (tVar 0) (tCons (tVar 2) (tCons (tVar 3) (tNil)))))))))))
    (tRet (tIf (tTest (tOp rIsNo (tVar 4) (tC .non))) (tC (.str "told")) (tCall sp__law_refusal [] E0 (tCons (tVar 4) (tNil))))))
def t__law_odd (K : PySem.W.Frag) (sp__law_pick sp__law_draw : Sp) : TS :=
  tRet (tCall sp__law_pick [] E0 (tCons (tVar 0) (tCons (tLst (tCons (tVar 1) (tCons (tOp rSubI (tC (.int 0)) (tC (.int 1))) (tCons (tC (.bl true)) (tCons (tC .non) (tCons (tC (.str "0")) (tCons (tLst (tCons (tC (.int 0)) (tNil))) (tCons (tC (.bl false)) (tCons (tOp rAddI (tVar 1) (tCall sp__law_draw [] E0 (tCons (tVar 0) (tCons (tC (.int 9)) (tNil))))) (tNil)))))))))) (tNil))))
def t_law_b0 (K : PySem.W.Frag) (C_Counts C_Marks C_Rounds C_Store : Addr) (sp__law_town sp__law_draw sp__law_pick sp_mk_Counts sp_mk_Marks sp_mk_Rounds sp_mk_Store sp__law_asked sp__law_odd sp_Store__Store_kept sp_Rounds__Store_kept sp_Marks__Store_kept sp_Counts__Store_kept sp_Store__Store_now sp_Rounds__Store_now sp_Marks__Store_now sp_Counts__Store_now sp_Store__Store_swap sp_Rounds__Store_swap sp_Marks__Store_swap sp_Counts__Store_swap : Sp) : TS :=
  tSeq (tAsg (tOp rCat (tLc (iRng1 (tCons (tC (.int 2)) (tNil))) (gName 6) tYes (tCall sp__law_asked [] E0 (tCons (tVar 3) (tCons (tVar 6) (tCons (tVar 4) (tCons (tC (.int 2)) (tNil)))))) [6]) (tLst (tCons (tCall sp__law_asked [] E0 (tCons (tVar 3) (tCons (tC (.int 0)) (tCons (tC (.int 2)) (tCons (tVar 4) (tNil)))))) (tNil)))) (gName 5))
    (tIfS (tTest (tOp (rNeD K) (tVar 5) (tOp rRep (tLst (tCons (tC (.str "number")) (tNil))) (tC (.int 3))))) (tRet (tC (.bl false))) (tNext))
def t_law (K : PySem.W.Frag) (C_Counts C_Marks C_Rounds C_Store : Addr) (sp__law_town sp__law_draw sp__law_pick sp_mk_Counts sp_mk_Marks sp_mk_Rounds sp_mk_Store sp__law_asked sp__law_odd sp_Store__Store_kept sp_Rounds__Store_kept sp_Marks__Store_kept sp_Counts__Store_kept sp_Store__Store_now sp_Rounds__Store_now sp_Marks__Store_now sp_Counts__Store_now sp_Store__Store_swap sp_Rounds__Store_swap sp_Marks__Store_swap sp_Counts__Store_swap : Sp) : TS :=
  tSeq (tAsg (tCall sp__law_town [] E0 (tCons (tVar 0) (tNil))) (gName 1))
    (tSeq (tAsg (tOp rAddI (tC (.int 1)) (tCall sp__law_draw [] E0 (tCons (tVar 1) (tCons (tC (.int 5)) (tNil))))) (gName 2))
    (tSeq (tAsg (tCall sp__law_pick [] E0 (tCons (tVar 1) (tCons (tLst (tCons (tMake C_Store sp_mk_Store [] E0 (tCons (tC (.int 3)) (tCons (tVar 2) (tNil)))) (tCons (tMake C_Rounds sp_mk_Rounds [] E0 (tCons (tC (.int 3)) (tCons (tVar 2) (tNil)))) (tCons (tMake C_Marks sp_mk_Marks [] E0 (tCons (tC (.int 3)) (tCons (tVar 2) (tNil)))) (tCons (tMake C_Counts sp_mk_Counts [] E0 (tCons (tC (.int 3)) (tCons (tVar 2) (tNil)))) (tNil)))))) (tNil)))) (gName 3))
    (tSeq (tFor (iList K (tLst (tCons (tC (.int 0)) (tCons (tOp rSubI (tC (.int 0)) (tC (.int 1))) (tCons (tC (.bl true)) (tCons (tC .non) (tCons (tC (.str "2")) (tCons (tLst (tCons (tC (.int 2)) (tNil))) (tNil))))))))) (gName 4) (t_law_b0 K C_Counts C_Marks C_Rounds C_Store sp__law_town sp__law_draw sp__law_pick sp_mk_Counts sp_mk_Marks sp_mk_Rounds sp_mk_Store sp__law_asked sp__law_odd sp_Store__Store_kept sp_Rounds__Store_kept sp_Marks__Store_kept sp_Counts__Store_kept sp_Store__Store_now sp_Rounds__Store_now sp_Marks__Store_now sp_Counts__Store_now sp_Store__Store_swap sp_Rounds__Store_swap sp_Marks__Store_swap sp_Counts__Store_swap))
    (tSeq (tAsg (tLst (tCons (tCall sp__law_asked [] E0 (tCons (tVar 3) (tCons (tC (.int 0)) (tCons (tC (.int 7)) (tCons (tC (.int 1)) (tNil)))))) (tCons (tCall sp__law_asked [] E0 (tCons (tVar 3) (tCons (tC (.int 0)) (tCons (tC (.int 1)) (tCons (tC (.int 6)) (tNil)))))) (tCons (tCall sp__law_asked [] E0 (tCons (tVar 3) (tCons (tC (.int 0)) (tCons (tC (.int 6)) (tCons (tC (.int 5)) (tNil)))))) (tNil))))) (gName 5))
    (tSeq (tIfS (tTest (tOp (rNeD K) (tVar 5) (tLst (tCons (tC (.str "number")) (tCons (tC (.str "number")) (tCons (tC (.str "told")) (tNil))))))) (tRet (tC (.bl false))) (tNext))
    (tSeq (tAsg (tCall sp__law_pick [] E0 (tCons (tVar 1) (tCons (tLst (tCons (tC (.int 1000)) (tCons (tOp rSubI (tC (.int 0)) (tC (.int 1))) (tCons (tC (.bl true)) (tCons (tC .non) (tCons (tC (.str "5")) (tNil))))))) (tNil)))) (gName 7))
    (tSeq (tFor (iRng1 (tCons (tC (.int 4)) (tNil))) (gName 8) (tIfS (tTest (tOp rNe (tCall sp__law_asked [] E0 (tCons (tVar 3) (tCons (tC (.int 2)) (tCons (tCall sp__law_odd [] E0 (tCons (tVar 1) (tCons (tVar 2) (tNil)))) (tCons (tVar 7) (tNil)))))) (tC (.str "cell")))) (tRet (tC (.bl false))) (tNext)))
    (tSeq (tIfS (tOr (tTest (tOp rNe (tCall sp__law_asked [] E0 (tCons (tVar 3) (tCons (tC (.int 2)) (tCons (tCall sp__law_odd [] E0 (tCons (tVar 1) (tCons (tVar 2) (tNil)))) (tCons (tC (.int 5)) (tNil)))))) (tC (.str "cell")))) (tTest (tOp rNe (tCall sp__law_asked [] E0 (tCons (tVar 3) (tCons (tC (.int 2)) (tCons (tC (.int 0)) (tCons (tVar 7) (tNil)))))) (tC (.str "number"))))) (tRet (tC (.bl false))) (tNext))
    (tRet (tAndV (tOp (rEqD K) (tOrE (tMeth C_Store "kept" sp_Store__Store_kept [] E0 (tVar 3) tNil) (tOrE (tMeth C_Rounds "kept" sp_Rounds__Store_kept [] E0 (tVar 3) tNil) (tOrE (tMeth C_Marks "kept" sp_Marks__Store_kept [] E0 (tVar 3) tNil) (tMeth C_Counts "kept" sp_Counts__Store_kept [] E0 (tVar 3) tNil)))) (tLstRg (tRg1 (tVar 2)))) (tAndV (tOp (rEqD K) (tOrE (tMeth C_Store "now" sp_Store__Store_now [] E0 (tVar 3) tNil) (tOrE (tMeth C_Rounds "now" sp_Rounds__Store_now [] E0 (tVar 3) tNil) (tOrE (tMeth C_Marks "now" sp_Marks__Store_now [] E0 (tVar 3) tNil) (tMeth C_Counts "now" sp_Counts__Store_now [] E0 (tVar 3) tNil)))) (tOp rRep (tLst (tCons (tC (.int 0)) (tNil))) (tVar 2))) (tOp rEq (tOrE (tMeth C_Store "swap" sp_Store__Store_swap [] E0 (tVar 3) (tCons (tC (.int 0)) (tCons (tC (.int 999)) (tNil)))) (tOrE (tMeth C_Rounds "swap" sp_Rounds__Store_swap [] E0 (tVar 3) (tCons (tC (.int 0)) (tCons (tC (.int 999)) (tNil)))) (tOrE (tMeth C_Marks "swap" sp_Marks__Store_swap [] E0 (tVar 3) (tCons (tC (.int 0)) (tCons (tC (.int 999)) (tNil)))) (tMeth C_Counts "swap" sp_Counts__Store_swap [] E0 (tVar 3) (tCons (tC (.int 0)) (tCons (tC (.int 999)) (tNil))))))) (tC (.int 0))))))))))))))
end La
namespace La
open PySem L2 Sy
/-! ### refusals: what is no number; the classes; what a refusal is called -/
inductive Odd (lo hi : Int) : V → U → Prop where
  | non : Odd lo hi .non []
  | str (s : Str) : Odd lo hi (.str s) []
  | bl (b : Bool) : Odd lo hi (.bl b) []
  | int (i : Int) (h : ¬ (lo ≤ i ∧ i ≤ hi)) : Odd lo hi (.int i) []
  | lst (a : Addr) (xs : List V) : Odd lo hi (.ref a) [(a, .lst xs)]
  | tup (a : Addr) (xs : List V) : Odd lo hi (.ref a) [(a, .tup xs)]
theorem kb_ni : kitB "NoneType" "int" = some false := by decide +kernel
theorem kb_si : kitB "str" "int" = some false := by decide +kernel
theorem kb_li : kitB "list" "int" = some false := by decide +kernel
theorem kb_ti : kitB "tuple" "int" = some false := by decide +kernel
def sr_is_whole : Sp := fun vs H Q _ => ∃ (v : V) (u : U) (lo hi : Int) (R : List U), vs = [v, .int lo, .int hi] ∧ Odd lo hi v u ∧ Has H (u :: R) ∧ Q (.bl false) H
theorem purer_is_whole {K : PySem.W.Frag} {vs : List V} {H : Hp} {Q : VK} {E : XK} (h : sr_is_whole vs H Q E) : tr_is_whole K E ⟨fun _ H' => Q .non H', Q, fun _ _ => False, fun _ _ => False⟩ (start ["thing", "low", "high"] vs) H := by
  obtain ⟨v, u, lo, hi, R, rfl, ho, hh, q⟩ := h
  unfold tr_is_whole
  cases ho with
  | non =>
    walk_at "go"
    refine k_isi .non kb_ni ?_
    walk_at "go"
    exact q
  | str s =>
    walk_at "go"
    refine k_isi (.str s) kb_si ?_
    walk_at "go"
    exact q
  | bl b =>
    walk_at "go"
    exact q
  | int i h =>
    walk_at "go"
    refine ifD (fun h1 => ?_) (fun h1 => ?_)
    · walk_at "go"
      rw [decide_eq_false (fun h2 => h ⟨h1, h2⟩)]
      exact q
    · exact q
  | lst a xs =>
    walk_at "go"
    refine k_isi (.lst hh.g0) kb_li ?_
    walk_at "go"
    exact q
  | tup a xs =>
    walk_at "go"
    refine k_isi (.tup hh.g0) kb_ti ?_
    walk_at "go"
    exact q
structure Exs where
  bn : Addr
  nh : Addr
  nc : Addr
  nm : Addr
  ii : Addr
  ni : Addr
  nt : Addr
  go : Addr
  bp : Addr
  nn : Addr
  se : Addr
def Exs.of (X : Exs) : Nat → Addr
  | 0 => X.bn | 1 => X.nh | 2 => X.nc | 3 => X.nm | 4 => X.ii | 5 => X.ni | 6 => X.nt | 7 => X.go | 8 => X.bp | _ => X.nn
def word : Nat → Str
  | 0 => "number" | 1 => "hand" | 2 => "cell" | 3 => "mark" | 4 => "in" | 5 => "not in" | 6 => "not held" | 7 => "gone" | 8 => "pairs" | _ => "now"
/-- what the classes say of one of them -/
structure RefK (K : PySem.W.Frag) (X : Exs) (i : Nat) : Prop where
  lt : i < 10
  ec : ExcC K (X.of i)
  k0 : PySem.W.kitOne K (.ref (X.of i)) (.ref X.bn) = some (decide (i = 0))
  k1 : PySem.W.kitOne K (.ref (X.of i)) (.ref X.nh) = some (decide (i = 1))
  k2 : PySem.W.kitOne K (.ref (X.of i)) (.ref X.nc) = some (decide (i = 2))
  k3 : PySem.W.kitOne K (.ref (X.of i)) (.ref X.nm) = some (decide (i = 3))
  k4 : PySem.W.kitOne K (.ref (X.of i)) (.ref X.ii) = some (decide (i = 4))
  k5 : PySem.W.kitOne K (.ref (X.of i)) (.ref X.ni) = some (decide (i = 5))
  k6 : PySem.W.kitOne K (.ref (X.of i)) (.ref X.nt) = some (decide (i = 6))
  k7 : PySem.W.kitOne K (.ref (X.of i)) (.ref X.go) = some (decide (i = 7))
  k8 : PySem.W.kitOne K (.ref (X.of i)) (.ref X.bp) = some (decide (i = 8))
  k9 : PySem.W.kitOne K (.ref (X.of i)) (.ref X.nn) = some (decide (i = 9))
  ks : PySem.W.kitOne K (.ref (X.of i)) (.ref X.se) = some true
  kv : PySem.W.kitOne K (.ref (X.of i)) (.type "ValueError") = some true
  em : PySem.W.exmOne K (.ref (X.of i)) (.ref X.se) = some true
theorem k_index {K : PySem.W.Frag} {H : Hp} {Q : VK} {a : Addr} {ys : List V} {y z : V} (hp : H a = some (.lst ys)) (j : Nat) (f1 : flatV y = true) (f2 : ys.all flatV = true) (hz : ys[j]? = some z) (he : eqV z y = true) (hn : (ys.take j).all (fun z => !eqV z y) = true) (q : Q (.int (j : Nat)) H) : rIndex K (.ref a) [y] H Q := by
  refine ⟨a, ys, y, j, z, rfl, rfl, SqL.of hp, f1, f2, hz, he, fun m z' hm hz' => ?_, q⟩
  have h1 : z' ∈ ys.take j := List.mem_of_getElem? (i := m) (by rw [List.getElem?_take, if_pos hm]; exact hz')
  have h2 := List.all_eq_true.mp hn z' h1
  simpa using h2
def sp__law_refusal (X : Exs) (ok : List Nat) : Sp := fun vs H Q _ => ∃ (a : Addr) (i : Nat) (R : List U), i ∈ ok ∧ vs = [.ref a] ∧ Has H ([(a, ExK (.ref (X.of i)) none a)] :: R) ∧ ∀ H', Has H' ([(a, ExK (.ref (X.of i)) none a)] :: R) → Q (.str (word i)) H'
theorem pure__law_refusal {K : PySem.W.Frag} {X : Exs} {ok : List Nat} (hk : ∀ i ∈ ok, RefK K X i) {vs : List V} {H : Hp} {Q : VK} {E : XK} (h : sp__law_refusal X ok vs H Q E) :
    t__law_refusal (C_NoCell := X.nc) (C_NoHand := X.nh) (C_BadNumber := X.bn) (C_NotIn := X.ni) (C_IsIn := X.ii) (C_NoMark := X.nm) (C_BadPairs := X.bp) (C_Gone := X.go) (C_NotHeld := X.nt) (C_NotNow := X.nn) (C_StoreError := X.se) K ⟨fun _ H' => Q .non H', Q, fun _ _ => False, fun _ _ => False⟩ (start ["caught", "kinds", "words"] vs) H := by
  obtain ⟨a, i, R, hi, rfl, hh, q⟩ := h
  obtain ⟨lt, ec, k0, k1, k2, k3, k4, k5, k6, k7, k8, k9, ks, kv, em⟩ := hk i hi
  generalize hD : X.of i = D at *
  unfold t__law_refusal
  walk_at "go"
  rename_i p1 H1 h1 p2 H2 h2 p3 H3 h3 p4 H4 h4 p5 H5 h5 p6 H6 h6 p7 H7 h7
  clear hh h1 h2 h3 h4 h5 h6
  refine k_cntV (by walk_at "hp") rfl rfl ?_
  have hc : ((([V.bl (decide (i = 0)), V.bl (decide (i = 1)), V.bl (decide (i = 2))] ++ [V.bl (decide (i = 3)), V.bl (decide (i = 4)), V.bl (decide (i = 5))] ++ [V.bl (decide (i = 6)), V.bl (decide (i = 7)), V.bl (decide (i = 8))] ++ [V.bl (decide (i = 9))]).countP fun z => eqV z (.bl true) : Nat) : Int) = 1 := by
    have : i = 0 ∨ i = 1 ∨ i = 2 ∨ i = 3 ∨ i = 4 ∨ i = 5 ∨ i = 6 ∨ i = 7 ∨ i = 8 ∨ i = 9 := by omega
    rcases this with h | h | h | h | h | h | h | h | h | h <;> subst h <;> rfl
  walk_at "go"
  refine ifN (by rw [hc]; rfl) ?_
  walk_at "go"
  rename_i p8 H8 h8
  have h9 := h8.sub (show Sub ([(a, ExK (.ref D) none a)] :: R) _ by walk_at "sub")
  have : i = 0 ∨ i = 1 ∨ i = 2 ∨ i = 3 ∨ i = 4 ∨ i = 5 ∨ i = 6 ∨ i = 7 ∨ i = 8 ∨ i = 9 := by omega
  rcases this with h | h | h | h | h | h | h | h | h | h
  all_goals subst h
  · refine k_index (by walk_at "hp") 0 rfl rfl rfl rfl rfl (k_ixL (by walk_at "hp") rfl (q H8 h9))
  · refine k_index (by walk_at "hp") 1 rfl rfl rfl rfl rfl (k_ixL (by walk_at "hp") rfl (q H8 h9))
  · refine k_index (by walk_at "hp") 2 rfl rfl rfl rfl rfl (k_ixL (by walk_at "hp") rfl (q H8 h9))
  · refine k_index (by walk_at "hp") 3 rfl rfl rfl rfl rfl (k_ixL (by walk_at "hp") rfl (q H8 h9))
  · refine k_index (by walk_at "hp") 4 rfl rfl rfl rfl rfl (k_ixL (by walk_at "hp") rfl (q H8 h9))
  · refine k_index (by walk_at "hp") 5 rfl rfl rfl rfl rfl (k_ixL (by walk_at "hp") rfl (q H8 h9))
  · refine k_index (by walk_at "hp") 6 rfl rfl rfl rfl rfl (k_ixL (by walk_at "hp") rfl (q H8 h9))
  · refine k_index (by walk_at "hp") 7 rfl rfl rfl rfl rfl (k_ixL (by walk_at "hp") rfl (q H8 h9))
  · refine k_index (by walk_at "hp") 8 rfl rfl rfl rfl rfl (k_ixL (by walk_at "hp") rfl (q H8 h9))
  · refine k_index (by walk_at "hp") 9 rfl rfl rfl rfl rfl (k_ixL (by walk_at "hp") rfl (q H8 h9))
def sp__law_odd : Sp := fun vs H Q _ => ∃ (t : Addr) (ts : Town) (n : Int) (R : List U), vs = [.ref t, .int n] ∧ 0 ≤ n ∧ Has H (townU t ts :: R) ∧ ts.ok ∧ ∀ (v : V) (u : U) (ts' : Town) H', Odd 0 (n - 1) v u → ts'.ok → Has H' (u :: townU t ts' :: R) → Q v H'
theorem pure__law_odd {K : PySem.W.Frag} {vs : List V} {H : Hp} {Q : VK} {E : XK} (h : sp__law_odd vs H Q E) : t__law_odd K sp__law_pick sp__law_draw ⟨fun _ H' => Q .non H', Q, fun _ _ => False, fun _ _ => False⟩ (start ["town", "most"] vs) H := by
  obtain ⟨t, ts, n, R, rfl, n0, hh, tok, q⟩ := h
  unfold t__law_odd
  walk_at "go"
  rename_i l1 H1 h1
  refine use_draw (h1.sub (show Sub (townU t ts :: _) _ by walk_at "sub")) Sub.rf tok (by omega) (by omega) fun d ts2 H2 d0 d1 tok2 h2 => ?_
  clear hh h1
  walk_at "go"
  rename_i l3 H3 h3
  refine ⟨t, l3, ts2, _, _, rfl, h3.sub (show Sub (townU t ts2 :: [(l3, _)] :: _) _ by walk_at "sub"), by show 0 < 8; decide, by show 8 ≤ 1000; decide, tok2, fun k v ts4 H4 hk tok4 h4 => ?_⟩
  have h5 := Has.nilU.mpr h4
  match k, hk with
  | 0, hk => rw [← Option.some.inj hk]; exact q _ [] ts4 H4 (.int n (by omega)) tok4 (h5.sub (show Sub ([] :: townU t ts4 :: R) _ by walk_at "sub"))
  | 1, hk => rw [← Option.some.inj hk]; exact q _ [] ts4 H4 (.int _ (by omega)) tok4 (h5.sub (show Sub ([] :: townU t ts4 :: R) _ by walk_at "sub"))
  | 2, hk => rw [← Option.some.inj hk]; exact q _ [] ts4 H4 (.bl true) tok4 (h5.sub (show Sub ([] :: townU t ts4 :: R) _ by walk_at "sub"))
  | 3, hk => rw [← Option.some.inj hk]; exact q _ [] ts4 H4 .non tok4 (h5.sub (show Sub ([] :: townU t ts4 :: R) _ by walk_at "sub"))
  | 4, hk => rw [← Option.some.inj hk]; exact q _ [] ts4 H4 (.str _) tok4 (h5.sub (show Sub ([] :: townU t ts4 :: R) _ by walk_at "sub"))
  | 5, hk => rw [← Option.some.inj hk]; exact q _ _ ts4 H4 (.lst l1 _) tok4 (h5.sub (show Sub ([(l1, _)] :: townU t ts4 :: R) _ by walk_at "sub"))
  | 6, hk => rw [← Option.some.inj hk]; exact q _ [] ts4 H4 (.bl false) tok4 (h5.sub (show Sub ([] :: townU t ts4 :: R) _ by walk_at "sub"))
  | 7, hk => rw [← Option.some.inj hk]; exact q _ [] ts4 H4 (.int _ (by omega)) tok4 (h5.sub (show Sub ([] :: townU t ts4 :: R) _ by walk_at "sub"))
def sr_look_number (CB : Addr) : Sp := fun vs H _ E => ∃ (v : V) (u : U) (lo hi : Int) (R : List U), vs = [v, .int lo, .int hi] ∧ Odd lo hi v u ∧ Has H (u :: R) ∧ E (.ref CB) none H
theorem purer_look_number {K : PySem.W.Frag} {CB : Addr} {vs : List V} {H : Hp} {Q : VK} {E : XK} (h : sr_look_number CB vs H Q E) : tr_look_number K CB (spOr sp_is_whole sr_is_whole) E ⟨fun _ H' => Q .non H', Q, fun _ _ => False, fun _ _ => False⟩ (start ["thing", "low", "high"] vs) H := by
  obtain ⟨v, u, lo, hi, R, rfl, ho, hh, q⟩ := h
  unfold tr_look_number
  walk_at "go"
  refine .inr ⟨v, u, lo, hi, R, rfl, ho, hh, ?_⟩
  walk_at "go"
  exact q
/-! ### lists of words, comprehensions that draw -/
theorem dpWords {K : PySem.W.Frag} {H : Hp} (w : Str) : ∀ n : Nat, DpAll K H (List.replicate n (V.str w)) (List.replicate n (PyData.str w))
  | 0 => .nil
  | n + 1 => .cons (.str w) (dpWords w n)
theorem layWords {w : Str} (ok : PyData.strOk w = true) (n : Nat) : PyData.canLayAll0 (List.replicate n (PyData.str w)) = true := by
  induction n with
  | zero => simp [PyData.canLayAll0]
  | succ n ih => rw [List.replicate_succ]; simp [PyData.canLayAll0, PyData.canLay0, ih, ok]
theorem deepWords (w : Str) (n : Nat) : PyData.depthAll (List.replicate n (PyData.str w)) ≤ 1 := by
  induction n with
  | zero => simp [PyData.depthAll]
  | succ n ih => rw [List.replicate_succ]; simp only [PyData.depthAll, PyData.depth]; omega
theorem neWords {K : PySem.W.Frag} {H : Hp} {Q : VK} {a b : Addr} {w : Str} {xs ys : List V} (n : Nat) (ok : PyData.strOk w = true) (ha : H a = some (.lst xs)) (hb : H b = some (.lst ys)) (ex : xs = List.replicate n (.str w)) (ey : ys = List.replicate n (.str w)) (q : Q (.bl false) H) : rNeD K (.ref a) (.ref b) H Q := by
  subst ex ey
  refine k_neSame (dd := .list (List.replicate n (.str w))) (.lst (SqL.of ha) (dpWords w n)) (.lst (SqL.of hb) (dpWords w n)) ?_ q
  have h := deepWords w n
  simp only [SeqAt.shaped, PyData.canLay0, layWords ok, PyData.depth, Bool.true_and]
  exact decide_eq_true (by omega)
theorem ifY {b : Bool} {A B : Prop} (h : b = true) (a : A) : if b = true then A else B := by rw [if_pos h]; exact a
section
variable {K : PySem.W.Frag} {σ : St} {H : Hp} {L : List U} {Q : VK} {te : TE} {tt : TT} {t : Addr} {ts : Town}
theorem x_lcR2 {g : TG} {tr : TA} {vs : List Nat} (q : tr σ H fun us H1 => ∃ i j : Int, us = [.int i, .int j] ∧ (-(2 ^ 62) ≤ i ∧ i < 2 ^ 62 ∧ -(2 ^ 62) ≤ j ∧ j < 2 ^ 62) ∧ kLc g tt te vs σ (Itr i (j - i).toNat) H1 Q) : tLc (iRng2 tr) g tt te vs σ H Q := q
/-- [w for k in range(lo, lo + n)], each item asked with draws -/
theorem lcW {k : Nat} {lo : Int} {n : Nat} (w : Str) (hn : n ≤ 1000) (hh : Has H (townU t ts :: L)) (tok : ts.ok)
    (hs : ∀ z : Int, lo ≤ z → z < lo + n → ∀ D M ts' H' (Q' : VK), ts'.ok → Has H' ([(D, .lst M)] :: townU t ts' :: L) → (∀ ts'' H'', ts''.ok → Has H'' ([(D, .lst M)] :: townU t ts'' :: L) → Q' (.str w) H'') → te ((wipe σ [k]).set k (some (.int z))) H' Q')
    (q : ∀ D ts' H', ts'.ok → Has H' ([(D, .lst (List.replicate n (.str w)))] :: townU t ts' :: L) → Q (.ref D) H') : kLc (gName k) tYes te [k] σ (Itr lo n) H Q := by
  intro D hD
  have hw : ∀ x, wipe ((wipe σ [k]).set k (some x)) [k] = wipe σ [k] := fun x => by
    show ((σ.set k none).set k (some x)).set k none = σ.set k none
    rw [List.set_set, List.set_set]
  refine lc_range (lo := lo) (fun i H' => ∃ ts' : Town, ts'.ok ∧ Has H' ([(D, .lst (List.replicate i (.str w)))] :: townU t ts' :: L)) ⟨ts, tok, hh.nw hD⟩ (fun i H' hi hP => ?_) (fun H' ⟨ts', tok', h'⟩ => q D ts' H' tok' h')
  obtain ⟨ts', tok', h'⟩ := hP
  refine x_gname ⟨hw _, x_yes (ifT (hs _ (by omega) (by omega) D _ ts' H' _ tok' h' fun ts'' H'' tok'' h'' => ?_))⟩
  refine ⟨_, h''.g0, by rw [List.length_replicate, sizeLine_eq]; omega, ts'', tok'', ?_⟩
  rw [List.replicate_succ']
  exact h''.s0
/-- [k for k in range(lo, lo + n) if c k] -/
theorem lcF2 {k : Nat} {lo : Int} {n : Nat} (c : Int → Bool) (hn : n ≤ 1000) (hh : Has H L)
    (ht : ∀ z : Int, lo ≤ z → z < lo + n → ∀ D M H' (Q' : Bool → Hp → Prop), Has H' ([(D, .lst M)] :: L) → (∀ H'', Has H'' ([(D, .lst M)] :: L) → Q' (c z) H'') → tt ((wipe σ [k]).set k (some (.int z))) H' Q')
    (hs : ∀ z : Int, lo ≤ z → z < lo + n → ∀ D M H' (Q' : VK), Has H' ([(D, .lst M)] :: L) → (∀ H'', Has H'' ([(D, .lst M)] :: L) → Q' (.int z) H'') → te ((wipe σ [k]).set k (some (.int z))) H' Q')
    (q : ∀ D (ws : List Int) H', (∀ z, z ∈ ws → lo ≤ z ∧ z < lo + n ∧ c z = true) → ws.length ≤ n → Has H' ([(D, .lst (ws.map V.int))] :: L) → Q (.ref D) H') : kLc (gName k) tt te [k] σ (Itr lo n) H Q := by
  intro D hD
  have hw : ∀ x, wipe ((wipe σ [k]).set k (some x)) [k] = wipe σ [k] := fun x => by
    show ((σ.set k none).set k (some x)).set k none = σ.set k none
    rw [List.set_set, List.set_set]
  refine lc_range (lo := lo) (fun i H' => ∃ ws : List Int, (∀ z, z ∈ ws → lo ≤ z ∧ z < lo + n ∧ c z = true) ∧ ws.length ≤ i ∧ Has H' ([(D, .lst (ws.map V.int))] :: L)) ⟨[], fun z hz => absurd hz List.not_mem_nil, Nat.le_refl _, hh.nw hD⟩ (fun i H' hi hP => ?_) (fun H' ⟨ws, h1, h2, h'⟩ => q D ws H' h1 h2 h')
  obtain ⟨ws, h1, h2, h'⟩ := hP
  refine x_gname ⟨hw _, ht _ (by omega) (by omega) D _ H' _ h' fun H2 h3 => ?_⟩
  cases hc : c (lo + i) with
  | false => exact ifF ⟨ws, h1, by omega, h3⟩
  | true =>
    refine ifT (hs _ (by omega) (by omega) D _ H2 _ h3 fun H4 h4 => ?_)
    refine ⟨_, h4.g0, by rw [List.length_map, sizeLine_eq]; omega, ws ++ [lo + i], fun z hz => ?_, by rw [List.length_append]; show ws.length + 1 ≤ _; omega, ?_⟩
    · rcases List.mem_append.mp hz with h | h
      · exact h1 z h
      · rw [List.mem_singleton.mp h]; exact ⟨by omega, by omega, hc⟩
    · rw [List.map_append]
      exact h4.s0
end
end La
namespace La
open PySem L2 Sy
local macro_rules | `(tactic| walk_at "fl") => `(tactic| first | assumption | exact stF_hands | exact stF_worth | exact stF_cells | exact stF_made | exact StX.f1 (by assumption) | exact StX.f2 (by assumption) | exact StX.f3 (by assumption) | exact StX.f4 (by assumption) | exact StX.f5 (by assumption) | exact StX.f6 (by assumption) | exact StX.f7 (by assumption) | exact StX.f8 (by assumption) | exact StX.f9 (by assumption))
local macro_rules | `(tactic| walk_at "fsl") => `(tactic| first | assumption | exact StX.fl (by assumption))
local macro_rules | `(tactic| walk_at "put") => `(tactic| first | exact stF_put_made | exact stF_put_cells | exact stF_put_worth | exact stF_put_hands)
/-! ### refusals of a store's hands and cells -/
section
variable {K : PySem.W.Frag} {C CN : Addr} {X : Exs} {vs : List V} {H : Hp} {Q : VK} {E : XK}
def sr_look_cell (C CN : Addr) : Sp := fun vs H _ E => ∃ (p : Addr) (x : List (Str × V)) (s : Sto) (v : V) (u : U) (R : List U), vs = [.ref p, v] ∧ Odd 0 (s.cells.length - 1) v u ∧ Has H (stoU C p x s :: u :: R) ∧ StX x ∧ s.cells.length ≤ 1000 ∧ E (.ref CN) none H
theorem purer_look_cell (hC : StoreC K C) (h : sr_look_cell C CN vs H Q E) : tr_Store_look_cell K CN (spOr sp_is_whole sr_is_whole) E ⟨fun _ H' => Q .non H', Q, fun _ _ => False, fun _ _ => False⟩ (start ["self", "cell"] vs) H := by
  obtain ⟨p, x, s, v, u, R, rfl, ho, hh, hx, hl, q⟩ := h
  obtain ⟨cl, n1, n2, n3, n4⟩ := hC
  have h0 := hh.cut2
  unfold tr_Store_look_cell
  walk_at "go"
  rw [List.length_map]
  refine .inr ⟨v, u, 0, _, _, rfl, ho, hh.sub (show Sub (u :: _) _ by walk_at "sub"), ?_⟩
  walk_at "go"
  exact q
end
/-! ### refusals of stores: making, swapping -/
section
variable {K : PySem.W.Frag} {C : Addr} {X : Exs} {vs : List V} {H : Hp} {Q : VK} {E : XK}
/-- hands or cells that are none -/
inductive SMk : V → U → V → U → Prop where
  | mh {v v2 : V} {u u2 : U} : Odd 1 6 v u → SMk v u v2 u2
  | mc {k : Int} {v2 : V} {u2 : U} : 1 ≤ k → k ≤ 6 → Odd 1 5 v2 u2 → SMk (.int k) [] v2 u2
def sr_init (C : Addr) (X : Exs) : Sp := fun vs H _ E => ∃ (p dx : Addr) (v v2 : V) (u u2 : U) (R : List U), vs = [.ref p, v, v2] ∧ SMk v u v2 u2 ∧ Has H ([(p, .ins C dx [])] :: u :: u2 :: R) ∧ ∀ H', Has H' (u :: u2 :: R) → E (.ref X.bn) none H'
theorem purer_init (h : sr_init C X vs H Q E) : tr_Store_init K (spOr sp_look_number (sr_look_number X.bn)) E ⟨fun _ H' => Q .non H', Q, fun _ _ => False, fun _ _ => False⟩ (start ["self", "hands", "cells", "thing"] vs) H := by
  obtain ⟨p, dx, v, v2, u, u2, R, rfl, hr, hh, q⟩ := h
  have h1 := hh.sub (Sub.skip Sub.rf)
  unfold tr_Store_init
  cases hr with
  | mh ho =>
    walk_at "go"
    exact .inr ⟨v, u, 1, 6, _, rfl, ho, h1, q H h1⟩
  | mc k0 k1 ho =>
    walk_at "go"
    refine .inl ⟨_, 1, 6, rfl, k0, k1, ?_⟩
    walk_at "go"
    exact .inr ⟨v2, u2, 1, 5, _, rfl, ho, h1.sub (show Sub (u2 :: [] :: R) _ from Sub.p1 Sub.rf), q H h1⟩
theorem purer_minit {CS : Addr} (h : sr_init C X vs H Q E) : tr_Marks_init K CS (spOr (sp_init C) (sr_init C X)) E ⟨fun _ H' => Q .non H', Q, fun _ _ => False, fun _ _ => False⟩ (start ["self", "hands", "cells"] vs) H := by
  obtain ⟨p, dx, v, v2, u, u2, R, rfl, hr, hh, q⟩ := h
  unfold tr_Marks_init
  walk_at "go"
  exact .inr ⟨p, dx, v, v2, u, u2, R, rfl, hr, hh, q⟩
abbrev sr_minit (C : Addr) (X : Exs) : Sp := sr_init C X
inductive SwR (s : Sto) : V → U → V → U → Nat → Prop where
  | cell {v v2 : V} {u u2 : U} : Odd 0 (s.cells.length - 1) v u → SwR s v u v2 u2 2
  | num {k : Int} {v2 : V} {u2 : U} : 0 ≤ k → k < s.cells.length → Odd 0 999 v2 u2 → SwR s (.int k) [] v2 u2 0
theorem SwR.ok {s : Sto} {v v2 : V} {u u2 : U} {i : Nat} (h : SwR s v u v2 u2 i) : i ∈ [0, 2] := by cases h <;> simp
def sr_swap (C : Addr) (X : Exs) : Sp := fun vs H _ E => ∃ (p : Addr) (x : List (Str × V)) (s : Sto) (v v2 : V) (u u2 : U) (i : Nat) (R : List U), vs = [.ref p, v, v2] ∧ SwR s v u v2 u2 i ∧ Has H (stoU C p x s :: u :: u2 :: R) ∧ StX x ∧ s.cells.length ≤ 1000 ∧ ∀ H', Has H' (stoU C p x s :: u :: u2 :: R) → E (.ref (X.of i)) none H'
theorem purer_swap {sp_as : Sp} (hC : StoreC K C) (h : sr_swap C X vs H Q E) : tr_Store_swap K C (spOr (sp_look_cell C) (sr_look_cell C X.nc)) (spOr sp_look_number (sr_look_number X.bn)) sp_as E ⟨fun _ H' => Q .non H', Q, fun _ _ => False, fun _ _ => False⟩ (start ["self", "cell", "value", "old"] vs) H := by
  obtain ⟨p, x, s, v, v2, u, u2, i, R, rfl, hr, hh, hx, hl, q⟩ := h
  have hp := hh.g0
  unfold tr_Store_swap
  cases hr with
  | cell ho =>
    walk_at "go"
    exact .inr ⟨p, x, s, v, u, _, rfl, ho, hh, hx, hl, q H hh⟩
  | num k0 k1 ho =>
    walk_at "go"
    refine .inl ⟨p, x, s, _, _, rfl, hh, hx, k0, k1, ?_⟩
    walk_at "go"
    exact .inr ⟨v2, u2, 0, 999, _, rfl, ho, hh.sub (show Sub (u2 :: _) _ from Sub.p2 Sub.rf), q H hh⟩
def sp__law_asked (CS CR CM CC : Addr) (X : Exs) : Sp := fun vs H Q _ => ∃ (a v v2 : V) (kd : Int), vs = [a, .int kd, v, v2] ∧
  ((∃ (u u2 : U) (R : List U), (kd = 0 ∨ kd = 1) ∧ SMk v u v2 u2 ∧ Has H (u :: u2 :: R) ∧ ∀ H', Has H' (u :: u2 :: R) → Q (.str "number") H') ∨
  (∃ (R : List U), kd = 0 ∧ v = .int 6 ∧ v2 = .int 5 ∧ Has H R ∧ ∀ H', Has H' R → Q (.str "told") H') ∨
  (∃ (C p : Addr) (x : List (Str × V)) (s : Sto) (u u2 : U) (i : Nat) (R : List U), a = .ref p ∧ kd = 2 ∧ (C = CS ∨ C = CR ∨ C = CM ∨ C = CC) ∧ SwR s v u v2 u2 i ∧ Has H (stoU C p x s :: u :: u2 :: R) ∧ StX x ∧ s.cells.length ≤ 1000 ∧ ∀ H', Has H' (stoU C p x s :: u :: u2 :: R) → Q (.str (word i)) H'))
theorem pure__law_asked {CS CR CM CC : Addr} {a0 a1 a2 a3 : Sp} (hk : ∀ i ∈ [0, 2], RefK K X i) (h : sp__law_asked CS CR CM CC X vs H Q E) :
    t__law_asked K X.se CS CM CR CC (spOr (sp_init CS) (sr_init CS X)) (spOr (sp_minit CM) (sr_minit CM X)) (spOr (sp_swap CS a0) (sr_swap CS X)) (spOr (sp_swap CR a1) (sr_swap CR X)) (spOr (sp_swap CM a2) (sr_swap CM X)) (spOr (sp_swap CC a3) (sr_swap CC X)) (sp__law_refusal X [0, 2]) ⟨fun _ H' => Q .non H', Q, fun _ _ => False, fun _ _ => False⟩ (start ["store", "kind", "one", "other", "caught", "e"] vs) H := by
  unfold t__law_asked
  obtain ⟨a, v, v2, kd, rfl, h⟩ := h
  rcases h with ⟨u, u2, R, hkd, hr, hh, q⟩ | ⟨R, rfl, rfl, rfl, hh, q⟩ | ⟨C, p, x, s, u, u2, i, R, rfl, rfl, hC, hr, hh, hx, hl, q⟩
  · have RK := hk 0 (by simp)
    rcases hkd with rfl | rfl
    · walk_at "go"
      repeat ((first | refine ifT ?_ | refine ifF ?_); (try walk_at "go"))
      refine x_makeS ?_
      walk_at "go"
      refine k_makeS hh fun y dx H1 h1 => .inr ⟨y, dx, v, v2, u, u2, R, rfl, hr, h1, fun H2 h2 => ?_⟩
      refine k_keep RK.em (show 5 < 6 by decide) h2 fun a H3 h3 => ?_
      walk_at "go"
      exact ⟨a, 0, _, by simp, rfl, h3, fun H4 h4 => q H4 (h4.sub (Sub.skip Sub.rf))⟩
    · walk_at "go"
      repeat ((first | refine ifT ?_ | refine ifF ?_); (try walk_at "go"))
      refine x_makeS ?_
      walk_at "go"
      refine k_makeS hh fun y dx H1 h1 => .inr ⟨y, dx, v, v2, u, u2, R, rfl, hr, h1, fun H2 h2 => ?_⟩
      refine k_keep RK.em (show 5 < 6 by decide) h2 fun a H3 h3 => ?_
      walk_at "go"
      exact ⟨a, 0, _, by simp, rfl, h3, fun H4 h4 => q H4 (h4.sub (Sub.skip Sub.rf))⟩
  · walk_at "go"
    repeat ((first | refine ifT ?_ | refine ifF ?_); (try walk_at "go"))
    refine x_makeS ?_
    walk_at "go"
    refine k_makeS hh fun y dx H1 h1 => .inl ⟨y, dx, 6, 5, R, rfl, h1, by decide, by decide, by decide, by decide, fun w c H2 h2 => ⟨rfl, ?_⟩⟩
    walk_at "go"
    exact q H2 (h2.sub (Sub.skip Sub.rf))
  · have RK := hk i hr.ok
    have hp := hh.g0
    rcases hC with rfl | rfl | rfl | rfl
    · walk_at "go"
      repeat ((first | refine ifT ?_ | refine ifF ?_); (try walk_at "go"))
      refine x_or1 ?_
      walk_at "go"
      refine .inr ⟨p, x, s, v, v2, u, u2, i, R, rfl, hr, hh, hx, hl, fun H2 h2 => ?_⟩
      refine k_keep RK.em (show 5 < 6 by decide) h2 fun a H3 h3 => ?_
      walk_at "go"
      exact ⟨a, i, _, hr.ok, rfl, h3, fun H4 h4 => q H4 (h4.sub (Sub.skip Sub.rf))⟩
    · walk_at "go"
      repeat ((first | refine ifT ?_ | refine ifF ?_); (try walk_at "go"))
      refine x_or2 (x_or1 ?_)
      walk_at "go"
      refine .inr ⟨p, x, s, v, v2, u, u2, i, R, rfl, hr, hh, hx, hl, fun H2 h2 => ?_⟩
      refine k_keep RK.em (show 5 < 6 by decide) h2 fun a H3 h3 => ?_
      walk_at "go"
      exact ⟨a, i, _, hr.ok, rfl, h3, fun H4 h4 => q H4 (h4.sub (Sub.skip Sub.rf))⟩
    · walk_at "go"
      repeat ((first | refine ifT ?_ | refine ifF ?_); (try walk_at "go"))
      refine x_or2 (x_or2 (x_or1 ?_))
      walk_at "go"
      refine .inr ⟨p, x, s, v, v2, u, u2, i, R, rfl, hr, hh, hx, hl, fun H2 h2 => ?_⟩
      refine k_keep RK.em (show 5 < 6 by decide) h2 fun a H3 h3 => ?_
      walk_at "go"
      exact ⟨a, i, _, hr.ok, rfl, h3, fun H4 h4 => q H4 (h4.sub (Sub.skip Sub.rf))⟩
    · walk_at "go"
      repeat ((first | refine ifT ?_ | refine ifF ?_); (try walk_at "go"))
      refine x_or2 (x_or2 (x_or2 ?_))
      walk_at "go"
      refine .inr ⟨p, x, s, v, v2, u, u2, i, R, rfl, hr, hh, hx, hl, fun H2 h2 => ?_⟩
      refine k_keep RK.em (show 5 < 6 by decide) h2 fun a H3 h3 => ?_
      walk_at "go"
      exact ⟨a, i, _, hr.ok, rfl, h3, fun H4 h4 => q H4 (h4.sub (Sub.skip Sub.rf))⟩
end
end La
namespace La
open PySem L2 Sy
local macro_rules | `(tactic| walk_at "fl") => `(tactic| first | assumption | exact stF_hands | exact stF_worth | exact stF_cells | exact stF_made | exact StX.f1 (by assumption) | exact StX.f2 (by assumption) | exact StX.f3 (by assumption) | exact StX.f4 (by assumption) | exact StX.f5 (by assumption) | exact StX.f6 (by assumption) | exact StX.f7 (by assumption) | exact StX.f8 (by assumption) | exact StX.f9 (by assumption))
local macro_rules | `(tactic| walk_at "fsl") => `(tactic| first | assumption | exact StX.fl (by assumption))
local macro_rules | `(tactic| walk_at "put") => `(tactic| first | exact stF_put_made | exact stF_put_cells | exact stF_put_worth | exact stF_put_hands)
local macro_rules | `(tactic| walk_at "fl") => `(tactic| first | assumption | exact stF_hands | exact stF_worth | exact stF_cells | exact stF_made | exact rd_era | exact rd_inside | exact rd_saw | exact rd_waits | exact rd_m_enter | exact rd_m_look_in | exact rd_m_leave | exact rd_m_look | exact rd_m_read | exact rd_m_go_on | exact rd_m_round_now | exact rd_m_hands_in | exact StX.f1 rdX_ok | exact StX.f2 rdX_ok | exact StX.f3 rdX_ok | exact StX.f4 rdX_ok | exact StX.f5 rdX_ok | exact StX.f6 rdX_ok | exact StX.f7 rdX_ok | exact StX.f8 rdX_ok | exact StX.f9 rdX_ok)
local macro_rules | `(tactic| walk_at "put") => `(tactic| first | exact rd_put_era | exact rd_put_inside | exact rd_put_saw | exact rd_put_waits)
local macro_rules | `(tactic| walk_at "fsl") => `(tactic| first | assumption | exact StX.fl rdX_ok)
local macro_rules | `(tactic| walk_at "fl") => `(tactic| first | assumption | exact stF_hands | exact stF_worth | exact stF_cells | exact stF_made | exact mk_marks | exact mk_waits | exact mk_m_look_mark | exact mk_m_state_of | exact mk_m_fetch | exact mk_m_set_mark | exact mk_m_sure | exact mk_m_read | exact mk_m_clear_mark | exact mk_m_marked | exact mk_m_sweep | exact StX.f1 mkX_ok | exact StX.f2 mkX_ok | exact StX.f3 mkX_ok | exact StX.f4 mkX_ok | exact StX.f5 mkX_ok | exact StX.f6 mkX_ok | exact StX.f7 mkX_ok | exact StX.f8 mkX_ok | exact StX.f9 mkX_ok)
local macro_rules | `(tactic| walk_at "put") => `(tactic| first | exact mk_put_marks | exact mk_put_waits | exact stF_put_made | exact stF_put_cells | exact stF_put_worth | exact stF_put_hands)
local macro_rules | `(tactic| walk_at "fsl") => `(tactic| first | assumption | exact StX.fl mkX_ok)
local macro_rules | `(tactic| walk_at "fl") => `(tactic| first | assumption | exact stF_hands | exact stF_worth | exact stF_cells | exact stF_made | exact ct_held | exact ct_m_count_of | exact ct_m_hold | exact ct_m_look_held | exact ct_m_read | exact ct_m_drop | exact ct_m_loose | exact ct_m_holds | exact StX.f1 ctX_ok | exact StX.f2 ctX_ok | exact StX.f3 ctX_ok | exact StX.f4 ctX_ok | exact StX.f5 ctX_ok | exact StX.f6 ctX_ok | exact StX.f7 ctX_ok | exact StX.f8 ctX_ok | exact StX.f9 ctX_ok)
local macro_rules | `(tactic| walk_at "put") => `(tactic| first | exact ct_put_held | exact stF_put_made | exact stF_put_cells | exact stF_put_worth | exact stF_put_hands)
local macro_rules | `(tactic| walk_at "fsl") => `(tactic| first | assumption | exact StX.fl ctX_ok)
/-! ### the law -/
/-- a store of any of four classes, as it is made -/
inductive Any4 (CS CR CM CC p : Addr) (n : Int) : Addr → List (Str × V) → Sto → U → Prop where
  | s (dx w c : Addr) : Any4 CS CR CM CC p n CS [] (Sto.new dx w c 3 n) []
  | r (dx w c ia sa wa : Addr) : Any4 CS CR CM CC p n CR (rdx (Rnd.new (Sto.new dx w c 3 n) ia sa wa)) (Sto.new dx w c 3 n) (rdU (Rnd.new (Sto.new dx w c 3 n) ia sa wa))
  | m (dx w c ma wa : Addr) : Any4 CS CR CM CC p n CM (mkx (Mrk.new (Sto.new dx w c 3 n) ma wa)) (Sto.new dx w c 3 n) (mdU (Mrk.new (Sto.new dx w c 3 n) ma wa))
  | c (dx w c ha : Addr) : Any4 CS CR CM CC p n CC (ctx (Cnt.new (Sto.new dx w c 3 n) ha)) (Sto.new dx w c 3 n) (cdU (Cnt.new (Sto.new dx w c 3 n) ha))
section
variable {K : PySem.W.Frag} {CS CR CM CC C p : Addr} {X : Exs} {n : Int} {x : List (Str × V)} {s : Sto} {m : U} {Q : VK} {E : XK} {H : Hp} {L R : List U}
theorem Any4.cls (h : Any4 CS CR CM CC p n C x s m) : C = CS ∨ C = CR ∨ C = CM ∨ C = CC := by
  cases h
  · exact .inl rfl
  · exact .inr (.inl rfl)
  · exact .inr (.inr (.inl rfl))
  · exact .inr (.inr (.inr rfl))
theorem Any4.stx (h : Any4 CS CR CM CC p n C x s m) : StX x := by
  cases h
  · exact stX_nil
  · exact rdX_ok
  · exact mkX_ok
  · exact ctX_ok
theorem Any4.new (h : Any4 CS CR CM CC p n C x s m) : ∃ dx w c, s = Sto.new dx w c 3 n := by
  cases h <;> exact ⟨_, _, _, rfl⟩
theorem new_len {dx w c : Addr} (h1 : 1 ≤ n) : ((Sto.new dx w c 3 n).cells.length : Int) = n := by
  show ((rgI n).length : Int) = n
  rw [rgI_len]; omega
theorem Any4.len (h : Any4 CS CR CM CC p n C x s m) (h1 : 1 ≤ n) : (s.cells.length : Int) = n := by
  obtain ⟨dx, w, c, rfl⟩ := h.new
  exact new_len h1
theorem or4 {f : Addr → Sp} {mm : Str} {a : TE} {t : TA} {σ : St} (hC : C = CS ∨ C = CR ∨ C = CM ∨ C = CC) (q : tMeth C mm (f C) [] E0 a t σ H Q) : tOrE (tMeth CS mm (f CS) [] E0 a t) (tOrE (tMeth CR mm (f CR) [] E0 a t) (tOrE (tMeth CM mm (f CM) [] E0 a t) (tMeth CC mm (f CC) [] E0 a t))) σ H Q := by
  rcases hC with h | h | h | h <;> subst h
  · exact x_or1 q
  · exact x_or2 (x_or1 q)
  · exact x_or2 (x_or2 (x_or1 q))
  · exact x_or2 (x_or2 (x_or2 q))
theorem use_mk {a v v2 : V} {kd : Int} {u u2 : U} (hk : kd = 0 ∨ kd = 1) (hr : SMk v u v2 u2) (hh : Has H L) (hs : Sub (u :: u2 :: R) L) (q : ∀ H', Has H' (u :: u2 :: R) → Q (.str "number") H') : sp__law_asked CS CR CM CC X [a, .int kd, v, v2] H Q E :=
  ⟨a, v, v2, kd, rfl, .inl ⟨u, u2, R, hk, hr, hh.sub hs, q⟩⟩
theorem use_sw {v v2 : V} {u u2 : U} {i : Nat} (A : Any4 CS CR CM CC p n C x s m) (h1 : 1 ≤ n) (h5 : n ≤ 5) (hr : SwR s v u v2 u2 i) (hh : Has H L) (hs : Sub (stoU C p x s :: u :: u2 :: R) L) (q : ∀ H', Has H' (stoU C p x s :: u :: u2 :: R) → Q (.str (word i)) H') : sp__law_asked CS CR CM CC X [.ref p, .int 2, v, v2] H Q E :=
  ⟨.ref p, v, v2, 2, rfl, .inr (.inr ⟨C, p, x, s, u, u2, i, R, rfl, rfl, A.cls, hr, hh.sub hs, A.stx, by have := A.len h1; omega, q⟩)⟩
end
theorem new_now {dx w c : Addr} {n : Int} : (Sto.new dx w c 3 n).now = List.replicate n.toNat 0 := by
  show (rgI n).map (fun k => (List.replicate n.toNat (0 : Int)).getD k.toNat 0) = _
  have e : ∀ k : Int, (List.replicate n.toNat (0 : Int)).getD k.toNat 0 = 0 := fun k => by
    rw [List.getD_eq_getElem?_getD, List.getElem?_replicate]
    split <;> rfl
  rw [List.map_congr_left (fun k _ => e k), List.map_const', rgI_len]
theorem new_c0 {dx w c : Addr} {n : Int} (h1 : 1 ≤ n) : (Sto.new dx w c 3 n).cells.getD (Int.toNat 0) 0 = 0 := by
  show (rgI n).getD 0 0 = 0
  unfold rgI
  obtain ⟨k, hk⟩ : ∃ k, n.toNat = k + 1 := ⟨n.toNat - 1, by omega⟩
  rw [hk, List.range_succ_eq_map]
  rfl
abbrev TL (K : PySem.W.Frag) (CS CR CM CC : Addr) (X : Exs) (f : PySem.W.Frag → Addr → Addr → Addr → Addr → Sp → Sp → Sp → Sp → Sp → Sp → Sp → Sp → Sp → Sp → Sp → Sp → Sp → Sp → Sp → Sp → Sp → Sp → Sp → Sp → Sp → TS) : TS :=
  f K CC CM CR CS (sp__law_town K) sp__law_draw sp__law_pick (sp_cinit CC) (sp_minit CM) (sp_rinit CR) (sp_init CS) (sp__law_asked CS CR CM CC X) sp__law_odd (sp_kept CS) (sp_kept CR) (sp_kept CM) (sp_kept CC) (sp_now CS) (sp_now CR) (sp_now CM) (sp_now CC) (sp_swap CS sp_after0) (sp_swapR CR) (sp_swapM CM) (sp_swapC CC)
abbrev s02 (a t : Addr) (n : Int) (p : Addr) (o4 o5 o6 o7 o8 : Option V) : St := [some (.ref a), some (.ref t), some (.int n), some (.ref p), o4, o5, o6, o7, o8]
theorem sw_S {C p a t : Addr} {n : Int} {o4 o5 o6 o7 o8 : Option V} {s : Sto} {H : Hp} {R : List U} {Q : VK} (hh : Has H (stoU C p [] s :: R)) (ok : s.ok ∧ s.vals.length < 1000) (z0 : s.cells.getD 0 0 = 0) (l0 : (0 : Int) < s.cells.length) (q : ∀ H', Q (.int 0) H') :
    tMeth C "swap" (sp_swap C sp_after0) [] E0 (tVar 3) (tCons (tC (.int 0)) (tCons (tC (.int 999)) tNil)) (s02 a t n p o4 o5 o6 o7 o8) H Q := by
  have hp := hh.g0
  have hx := stX_nil
  walk_at "go"
  refine ⟨p, [], s, 0, 999, _, rfl, hh, stX_nil, ok.1, ok.2, Int.le_refl 0, l0, by decide, by decide, fun H' Q' h' kk => ⟨p, _, rfl, kk _ _ ?_⟩⟩
  rw [show s.cells.getD (Int.toNat 0) 0 = 0 from z0]
  exact q H'
theorem sw_R {C p a t : Addr} {n : Int} {o4 o5 o6 o7 o8 : Option V} {r : Rnd} {H : Hp} {R : List U} {Q : VK} (hh : Has H (rndU C p r :: R)) (ok : okR r) (z0 : r.sto.cells.getD 0 0 = 0) (l0 : (0 : Int) < r.sto.cells.length) (q : ∀ H', Q (.int 0) H') :
    tMeth C "swap" (sp_swapR C) [] E0 (tVar 3) (tCons (tC (.int 0)) (tCons (tC (.int 999)) tNil)) (s02 a t n p o4 o5 o6 o7 o8) H Q := by
  have hp := (rnd_two.mp hh).g0
  walk_at "go"
  refine hsw_R p r 0 999 _ _ _ hh ok (Int.le_refl 0) l0 (by decide) (by decide) fun H' h' => ?_
  rw [show r.sto.cells.getD (Int.toNat 0) 0 = 0 from z0]
  exact q H'
theorem sw_M {C p a t : Addr} {n : Int} {o4 o5 o6 o7 o8 : Option V} {r : Mrk} {H : Hp} {R : List U} {Q : VK} (hh : Has H (mrkU C p r :: R)) (ok : okM r) (z0 : r.sto.cells.getD 0 0 = 0) (l0 : (0 : Int) < r.sto.cells.length) (q : ∀ H', Q (.int 0) H') :
    tMeth C "swap" (sp_swapM C) [] E0 (tVar 3) (tCons (tC (.int 0)) (tCons (tC (.int 999)) tNil)) (s02 a t n p o4 o5 o6 o7 o8) H Q := by
  have hp := (mrk_two.mp hh).g0
  walk_at "go"
  refine hsw_M p r 0 999 _ _ _ hh ok (Int.le_refl 0) l0 (by decide) (by decide) fun H' h' => ?_
  rw [show r.sto.cells.getD (Int.toNat 0) 0 = 0 from z0]
  exact q H'
theorem sw_C {C p a t : Addr} {n : Int} {o4 o5 o6 o7 o8 : Option V} {r : Cnt} {H : Hp} {R : List U} {Q : VK} (hh : Has H (cntU C p r :: R)) (ok : okC r) (z0 : r.sto.cells.getD 0 0 = 0) (l0 : (0 : Int) < r.sto.cells.length) (q : ∀ H', Q (.int 0) H') :
    tMeth C "swap" (sp_swapC C) [] E0 (tVar 3) (tCons (tC (.int 0)) (tCons (tC (.int 999)) tNil)) (s02 a t n p o4 o5 o6 o7 o8) H Q := by
  have hp := (cnt_two.mp hh).g0
  walk_at "go"
  refine hsw_C p r 0 999 _ _ _ hh ok (Int.le_refl 0) l0 (by decide) (by decide) fun H' h' => ?_
  rw [show r.sto.cells.getD (Int.toNat 0) 0 = 0 from z0]
  exact q H'
section
variable {K : PySem.W.Frag} {CS CR CM CC C p a t : Addr} {X : Exs} {n : Int} {x : List (Str × V)} {s : Sto} {m : U}
theorem k02_b0 {v : V} {u : U} {R : List U} {o5 o6 : Option V} {H : Hp} {nx : St → Hp → Prop} {rt : VK} {bk ct : St → Hp → Prop} (h6 : Odd 1 6 v u) (h5 : Odd 1 5 v u) (hh : Has H (u :: R))
    (q : ∀ o5 H', Has H' (u :: R) → nx (s02 a t n p (some v) o5 o6 none none) H') : TL K CS CR CM CC X t_law_b0 ⟨nx, rt, bk, ct⟩ (s02 a t n p (some v) o5 o6 none none) H := by
  unfold TL t_law_b0
  have hh' := Has.nilU.mpr hh
  walk_at "go"
  refine k_lcRM (fun _ => .str "number") hh' (by omega) (fun z z0 z1 D M H1 Q' h1 q' => ?_) fun D H1 h1 => ?_
  · walk_at "go"
    refine use_mk (by omega) (.mh h6) h1 (show Sub (u :: [] :: [(D, .lst M)] :: R) _ from Sub.p2 (Sub.p1 (Sub.p0 Sub.rf))) fun H2 h2 => q' H2 (h2.sub (Sub.p2 (Sub.p1 (Sub.p0 Sub.rf))))
  clear hh hh'
  walk_at "go"
  refine use_mk (.inl rfl) (.mc (by decide) (by decide) h5) h1 (show Sub ([] :: u :: _) _ from Sub.p1 (Sub.p1 Sub.rf)) fun H2 h2 => ?_
  clear h1
  walk_at "go"
  rename_i d4 H4 h4 d5 H5 h5' d6 H6 h6'
  refine neWords (w := "number") 3 (by decide +kernel) (by walk_at "hp") h6'.g0 rfl rfl ?_
  walk_at "go"
  exact q _ H6 (h6'.sub (show Sub (u :: R) _ from Sub.skip (Sub.skip (Sub.skip (Sub.skip (Sub.skip (Sub.p0 (Sub.skip Sub.rf))))))))
end
def sp_law (K : PySem.W.Frag) : Sp := fun vs H Q _ => ∃ (a : Addr) (ns : List Int), vs = [.ref a] ∧ SqL K H a (ns.map V.int) ∧ ns.length ≤ 63 ∧ ∀ H', Q (.bl true) H'
theorem pure_law {K : PySem.W.Frag} {CS CR CM CC : Addr} {X : Exs} {vs : List V} {H : Hp} {Q : VK} {E : XK} (h : sp_law K vs H Q E) :
    TL K CS CR CM CC X t_law ⟨fun _ H' => Q .non H', Q, fun _ _ => False, fun _ _ => False⟩ (start ["script", "town", "cells", "store", "odd", "found", "kind", "value", "turn"] vs) H := by
  obtain ⟨a, ns, rfl, hs, hl, q⟩ := h
  unfold TL t_law
  walk_at "go"
  refine ⟨a, ns, rfl, hs, hl, fun t ts H1 tok h1 => ?_⟩
  walk_at "go"
  refine use_draw h1 Sub.rf tok (by decide) (by decide) fun c ts2 H2 c0 c1 tok2 h2 => ?_
  clear h1
  walk_at "go"
  rename_i p0 dx0 H3 h3
  refine ⟨p0, dx0, 3, 1 + c, _, rfl, h3, by omega, by omega, by omega, by omega, fun w0 cc0 H4 h4 => ⟨rfl, ?_⟩⟩
  clear h2 h3
  walk_at "go"
  rename_i p1 dx1 H5 h5
  refine ⟨p1, dx1, 3, 1 + c, _, rfl, h5, by omega, by omega, by omega, by omega, fun w1 cc1 ia1 sa1 wa1 H6 h6 => ⟨rfl, ?_⟩⟩
  clear h4 h5
  walk_at "go"
  rename_i p2 dx2 H7 h7
  refine ⟨p2, dx2, 3, 1 + c, _, rfl, h7, by omega, by omega, by omega, by omega, fun w2 cc2 ma2 wa2 H8 h8 => ⟨rfl, ?_⟩⟩
  clear h6 h7
  walk_at "go"
  rename_i p3 dx3 H9 h9
  refine ⟨p3, dx3, 3, 1 + c, _, rfl, h9, by omega, by omega, by omega, by omega, fun w3 cc3 ha3 H10 h10 => ⟨rfl, ?_⟩⟩
  clear h8 h9
  walk_at "go"
  rename_i d11 H11 h11
  clear h10
  refine ⟨t, d11, ts2, _, _, rfl, h11.sub (show Sub (townU t ts2 :: [(d11, _)] :: _) _ by walk_at "sub"), by show 0 < 4; decide, by show 4 ≤ 1000; decide, tok2, fun k v ts3 H12 hk tok3 h12 => ?_⟩
  clear h11
  obtain ⟨p, C, x, s, m, ev, A, h13⟩ : ∃ (p C : Addr) (x : List (Str × V)) (s : Sto) (m : U), v = .ref p ∧ Any4 CS CR CM CC p (1 + c) C x s m ∧ Has H12 (stoU C p x s :: m :: townU t ts3 :: []) := by
    match k, hk with
    | 0, hk => exact ⟨p0, CS, _, _, _, (Option.some.inj hk).symm, .s dx0 w0 cc0, (Has.nilU.mpr h12).sub (show Sub (stoU CS p0 _ _ :: [] :: townU t ts3 :: []) _ by walk_at "sub")⟩
    | 1, hk => exact ⟨p1, CR, _, _, _, (Option.some.inj hk).symm, .r dx1 w1 cc1 ia1 sa1 wa1, rnd_two.mp (h12.sub (show Sub (rndU CR p1 (Rnd.new (Sto.new dx1 w1 cc1 3 (1 + c)) ia1 sa1 wa1) :: townU t ts3 :: []) _ by walk_at "sub"))⟩
    | 2, hk => exact ⟨p2, CM, _, _, _, (Option.some.inj hk).symm, .m dx2 w2 cc2 ma2 wa2, mrk_two.mp (h12.sub (show Sub (mrkU CM p2 (Mrk.new (Sto.new dx2 w2 cc2 3 (1 + c)) ma2 wa2) :: townU t ts3 :: []) _ by walk_at "sub"))⟩
    | 3, hk => exact ⟨p3, CC, _, _, _, (Option.some.inj hk).symm, .c dx3 w3 cc3 ha3, cnt_two.mp (h12.sub (show Sub (cntU CC p3 (Cnt.new (Sto.new dx3 w3 cc3 3 (1 + c)) ha3) :: townU t ts3 :: []) _ by walk_at "sub"))⟩
  subst ev
  clear h12
  generalize hn : 1 + c = n at *
  walk_at "go"
  rename_i l2 H14 h14 l1 H15 h15
  have n1 : 1 ≤ n := by omega
  have n5 : n ≤ 5 := by omega
  have hlen := A.len n1
  clear h13 h14
  refine k_forL (fun _ σ H' => ∃ o4 o5, σ = s02 a t n p o4 o5 none none none ∧ Has H' ([(l1, .lst [.int 0, .int (0 - 1), .bl true, .non, .str "2", .ref l2])] :: [(l2, .lst [.int 2])] :: stoU C p x s :: m :: townU t ts3 :: [])) h15.g0 ⟨none, none, rfl, h15⟩ (fun i σ H' ⟨_, _, _, h⟩ => h.g0) ?_ ?_
  · rintro i y σ H16 hy ⟨o4, o5, rfl, h16⟩
    have h17 := Has.nilU.mpr h16
    refine x_gname ?_
    match i, hy with
    | 0, hy => rw [← Option.some.inj hy]; exact k02_b0 (.int 0 (by omega)) (.int 0 (by omega)) h17 fun o5 H' h' => ⟨_, o5, rfl, Has.nilU.mp h'⟩
    | 1, hy => rw [← Option.some.inj hy]; exact k02_b0 (.int _ (by omega)) (.int _ (by omega)) h17 fun o5 H' h' => ⟨_, o5, rfl, Has.nilU.mp h'⟩
    | 2, hy => rw [← Option.some.inj hy]; exact k02_b0 (.bl true) (.bl true) h17 fun o5 H' h' => ⟨_, o5, rfl, Has.nilU.mp h'⟩
    | 3, hy => rw [← Option.some.inj hy]; exact k02_b0 .non .non h17 fun o5 H' h' => ⟨_, o5, rfl, Has.nilU.mp h'⟩
    | 4, hy => rw [← Option.some.inj hy]; exact k02_b0 (.str _) (.str _) h17 fun o5 H' h' => ⟨_, o5, rfl, Has.nilU.mp h'⟩
    | 5, hy => rw [← Option.some.inj hy]; exact k02_b0 (.lst l2 _) (.lst l2 _) (h16.sub (show Sub ([(l2, .lst [.int 2])] :: [(l1, _)] :: _) _ from Sub.p1 Sub.rf)) fun o5 H' h' => ⟨_, o5, rfl, h'.sub (Sub.p1 Sub.rf)⟩
  · rintro σ H16 ⟨o4, o5, rfl, h16⟩
    have h17 := h16.sub (show Sub (stoU C p x s :: m :: townU t ts3 :: []) _ from Sub.skip (Sub.skip Sub.rf))
    have h18 := Has.nilU.mpr (Has.nilU.mpr h17)
    clear h15 h16 h17
    walk_at "go"
    refine use_mk (.inl rfl) (.mh (.int 7 (by omega))) h18 Sub.rf fun H19 h19 => ?_
    clear h18
    walk_at "go"
    refine use_mk (.inl rfl) (.mc (by decide) (by decide) (.int 6 (by omega))) h19 Sub.rf fun H20 h20 => ?_
    clear h19
    walk_at "go"
    refine ⟨_, _, _, 0, rfl, .inr (.inl ⟨_, rfl, rfl, rfl, h20, fun H21 h21 => ?_⟩)⟩
    clear h20
    walk_at "go"
    rename_i d22 H22 h22 d23 H23 h23
    refine k_neSame (dd := .list [.str "number", .str "number", .str "told"]) (.lst (SqL.of h23.g1) (.cons (.str _) (.cons (.str _) (.cons (.str _) .nil)))) (.lst (SqL.of h23.g0) (.cons (.str _) (.cons (.str _) (.cons (.str _) .nil)))) (by decide +kernel) ?_
    have h24 := h23.sub (show Sub (stoU C p x s :: m :: townU t ts3 :: []) _ from Sub.skip (Sub.skip (Sub.skip (Sub.skip Sub.rf))))
    clear h21 h22 h23
    walk_at "go"
    rename_i d25 H25 h25
    refine ⟨t, d25, ts3, _, _, rfl, h25.sub (show Sub (townU t ts3 :: [(d25, _)] :: _) _ by walk_at "sub"), by show 0 < 5; decide, by show 5 ≤ 1000; decide, tok3, fun k2 v2 ts4 H26 hk2 tok4 h26 => ?_⟩
    have ho : Odd 0 999 v2 [] := by
      match k2, hk2 with
      | 0, hk => rw [← Option.some.inj hk]; exact .int _ (by omega)
      | 1, hk => rw [← Option.some.inj hk]; exact .int _ (by omega)
      | 2, hk => rw [← Option.some.inj hk]; exact .bl true
      | 3, hk => rw [← Option.some.inj hk]; exact .non
      | 4, hk => rw [← Option.some.inj hk]; exact .str _
    have h27 := h26.sub (show Sub (townU t ts4 :: stoU C p x s :: m :: []) _ by walk_at "sub")
    clear h24 h25 h26 hk2
    walk_at "go"
    refine k_forR (fun _ σ H' => ∃ (ts5 : Town) (o8 : Option V), σ = s02 a t n p o4 (some (.ref d22)) none (some v2) o8 ∧ ts5.ok ∧ Has H' (townU t ts5 :: stoU C p x s :: m :: [])) ⟨ts4, none, rfl, tok4, h27⟩ (by omega) ?_ ?_
    · rintro i σ H28 hi ⟨ts5, o8, rfl, tok5, h28⟩
      clear h27
      walk_at "go"
      refine ⟨t, ts5, n, _, rfl, by omega, h28, tok5, fun v3 u3 ts6 H29 hv3 tok6 h29 => ?_⟩
      have h30 := Has.nilU.mpr h29
      clear h28 h29
      walk_at "go"
      refine use_sw A n1 n5 (.cell (by rw [hlen]; exact hv3)) h30 (show Sub (stoU C p x s :: u3 :: [] :: _) _ from Sub.p3 (Sub.p1 (Sub.p0 Sub.rf))) fun H31 h31 => ?_
      clear h30
      walk_at "go"
      refine ifN (by decide +kernel) ?_
      walk_at "go"
      exact ⟨ts6, _, rfl, tok6, h31.sub (show Sub (townU t ts6 :: stoU C p x s :: m :: []) _ from Sub.p3 (Sub.p0 (Sub.skip (Sub.skip Sub.rf))))⟩
    · rintro σ H28 ⟨ts5, o8, rfl, tok5, h28⟩
      clear h27
      walk_at "go"
      refine ⟨t, ts5, n, _, rfl, by omega, h28, tok5, fun v3 u3 ts6 H29 hv3 tok6 h29 => ?_⟩
      have h30 := Has.nilU.mpr h29
      clear h28 h29
      walk_at "go"
      refine use_sw A n1 n5 (.cell (by rw [hlen]; exact hv3)) h30 (show Sub (stoU C p x s :: u3 :: [] :: _) _ from Sub.p3 (Sub.p1 (Sub.p0 Sub.rf))) fun H31 h31 => ?_
      clear h30
      walk_at "go"
      refine ifN (by decide +kernel) ?_
      have h32 := Has.nilU.mpr h31
      clear h31
      walk_at "go"
      refine use_sw A n1 n5 (.num (Int.le_refl 0) (by omega) ho) h32 (show Sub (stoU C p x s :: [] :: [] :: _) _ by walk_at "sub") fun H33 h33 => ?_
      clear h32
      walk_at "go"
      refine ifN (by decide +kernel) ?_
      have h34 := h33.sub (show Sub (stoU C p x s :: m :: []) _ by walk_at "sub")
      clear h33
      have hp := h34.g0
      have hx := A.stx
      have hok : s.ok := by
        obtain ⟨dx, w, c', rfl⟩ := A.new
        exact Sto.new_ok n1 n5
      walk_at "go"
      refine or4 (f := sp_kept) A.cls ?_
      walk_at "go"
      have hkp : s.kept = rgI n := by
        obtain ⟨dx, w, c', rfl⟩ := A.new
        rfl
      have hnw : s.now = List.replicate n.toNat 0 := by
        obtain ⟨dx, w, c', rfl⟩ := A.new
        exact new_now
      have hvl : s.vals.length = n.toNat := by
        obtain ⟨dx, w, c', rfl⟩ := A.new
        exact List.length_replicate
      refine ⟨p, x, s, _, rfl, h34, hx, hok, by omega, fun d35 H35 h35 => ?_⟩
      rw [hkp] at h35
      clear h34 hp
      have hp := h35.g1
      walk_at "go"
      rename_i d36 H36 h36
      have h37 := h36.sub (show Sub (stoU C p x s :: m :: []) _ by walk_at "sub")
      refine ifY (decide_eq_true rfl) ?_
      clear h35 hp h36
      have hp := h37.g0
      walk_at "go"
      refine or4 (f := sp_now) A.cls ?_
      walk_at "go"
      refine ⟨p, x, s, _, rfl, h37, hx, hok, fun d38 H38 h38 => ?_⟩
      rw [hnw] at h38
      clear h37 hp
      walk_at "go"
      rename_i d39 H39 h39 d40 H40 h40
      rw [show List.replicate n.toNat (V.int 0) = (List.replicate n.toNat (0 : Int)).map V.int from List.map_replicate.symm] at h40
      refine k_eqLI h40.g2 h40.g0 ?_
      have h41 := h40.sub (show Sub (stoU C p x s :: m :: []) _ by walk_at "sub")
      clear h38 h39 h40
      walk_at "go"
      refine ifY (decide_eq_true rfl) ?_
      walk_at "go"
      have fin : ∀ H', (fun x H1 => tC (.int 0) (s02 a t n p o4 (some (.ref d22)) none (some v2) o8) H1 fun y H2 => rEq x y H2 Q) (.int 0) H' := fun H' => by
        walk_at "go"
        rw [decide_eq_true rfl]
        exact q _
      have l0 : (0 : Int) < s.cells.length := by omega
      have l9 : s.vals.length < 1000 := by omega
      have z0 : s.cells.getD 0 0 = 0 := by
        obtain ⟨dx, w, c', rfl⟩ := A.new
        exact new_c0 n1
      clear hkp hnw hvl hlen
      cases A with
      | s dx w c' => exact x_or1 (sw_S h41 ⟨hok, l9⟩ z0 l0 fin)
      | r dx w c' ia sa wa => exact x_or2 (x_or1 (sw_R (rnd_two.mpr h41) ⟨Rnd.new_wf (by decide) n1 n5, l9⟩ z0 l0 fin))
      | m dx w c' ma wa => exact x_or2 (x_or2 (x_or1 (sw_M (mrk_two.mpr h41) ⟨Mrk.new_wf (by decide) n1 n5, l9⟩ z0 l0 fin)))
      | c dx w c' ha => exact x_or2 (x_or2 (x_or2 (sw_C (cnt_two.mpr h41) ⟨Cnt.new_wf n1 n5, l9⟩ z0 l0 fin)))
end La
namespace La
open PySem L2 Sy
def top (i : Nat) : Stmt := PySem.Challenge.pw_lastreader_k02_stores_refused.main.body.getD i (.Pass ⟨0, 0, 0, 0⟩)
abbrev s__law_town : Stmt := top 28
theorem sc__law_town : FnScope ["script"] ["script"] (defScope s__law_town) := ⟨rfl, rfl, rfl, by decide +kernel, rfl, by decide +kernel, by decide +kernel⟩
abbrev s__law_draw : Stmt := top 29
theorem sc__law_draw : FnScope ["town", "many", "row", "at", "cell", "mixed"] ["town", "many"] (defScope s__law_draw) := ⟨rfl, rfl, rfl, by decide +kernel, rfl, by decide +kernel, by decide +kernel⟩
abbrev s__law_pick : Stmt := top 30
theorem sc__law_pick : FnScope ["town", "some"] ["town", "some"] (defScope s__law_pick) := ⟨rfl, rfl, rfl, by decide +kernel, rfl, by decide +kernel, by decide +kernel⟩
abbrev s_is_whole : Stmt := top 13
theorem sc_is_whole : FnScope ["thing", "low", "high"] ["thing", "low", "high"] (defScope s_is_whole) := ⟨rfl, rfl, rfl, by decide +kernel, rfl, by decide +kernel, by decide +kernel⟩
abbrev s_look_number : Stmt := top 14
theorem sc_look_number : FnScope ["thing", "low", "high"] ["thing", "low", "high"] (defScope s_look_number) := ⟨rfl, rfl, rfl, by decide +kernel, rfl, by decide +kernel, by decide +kernel⟩
abbrev s_Store_init : Stmt := inClass (top 19) 0
theorem sc_Store_init : FnScope ["self", "hands", "cells", "thing"] ["self", "hands", "cells"] (defScope s_Store_init) := ⟨rfl, rfl, rfl, by decide +kernel, rfl, by decide +kernel, by decide +kernel⟩
abbrev s_Counts_init : Stmt := inClass (top 26) 0
theorem sc_Counts_init : FnScope ["self", "hands", "cells"] ["self", "hands", "cells"] (defScope s_Counts_init) := ⟨rfl, rfl, rfl, by decide +kernel, rfl, by decide +kernel, by decide +kernel⟩
abbrev s_Marks_init : Stmt := inClass (top 24) 0
theorem sc_Marks_init : FnScope ["self", "hands", "cells"] ["self", "hands", "cells"] (defScope s_Marks_init) := ⟨rfl, rfl, rfl, by decide +kernel, rfl, by decide +kernel, by decide +kernel⟩
abbrev s_Rounds_init : Stmt := inClass (top 21) 0
theorem sc_Rounds_init : FnScope ["self", "hands", "cells"] ["self", "hands", "cells"] (defScope s_Rounds_init) := ⟨rfl, rfl, rfl, by decide +kernel, rfl, by decide +kernel, by decide +kernel⟩
abbrev s_Store_look_cell : Stmt := inClass (top 19) 2
theorem sc_Store_look_cell : FnScope ["self", "cell"] ["self", "cell"] (defScope s_Store_look_cell) := ⟨rfl, rfl, rfl, by decide +kernel, rfl, by decide +kernel, by decide +kernel⟩
abbrev s_Store_after_swap : Stmt := inClass (top 19) 4
theorem sc_Store_after_swap : FnScope ["self", "thing"] ["self", "thing"] (defScope s_Store_after_swap) := ⟨rfl, rfl, rfl, by decide +kernel, rfl, by decide +kernel, by decide +kernel⟩
abbrev s_Store_swap : Stmt := inClass (top 19) 5
theorem sc_Store_swap : FnScope ["self", "cell", "value", "old"] ["self", "cell", "value"] (defScope s_Store_swap) := ⟨rfl, rfl, rfl, by decide +kernel, rfl, by decide +kernel, by decide +kernel⟩
abbrev s_Rounds_after_swap : Stmt := inClass (top 21) 6
theorem sc_Rounds_after_swap : FnScope ["self", "thing"] ["self", "thing"] (defScope s_Rounds_after_swap) := ⟨rfl, rfl, rfl, by decide +kernel, rfl, by decide +kernel, by decide +kernel⟩
abbrev s_Marks_after_swap : Stmt := inClass (top 24) 8
theorem sc_Marks_after_swap : FnScope ["self", "thing"] ["self", "thing"] (defScope s_Marks_after_swap) := ⟨rfl, rfl, rfl, by decide +kernel, rfl, by decide +kernel, by decide +kernel⟩
abbrev s_Counts_count_of : Stmt := inClass (top 26) 1
theorem sc_Counts_count_of : FnScope ["self", "thing", "one"] ["self", "thing"] (defScope s_Counts_count_of) := ⟨rfl, rfl, rfl, by decide +kernel, rfl, by decide +kernel, by decide +kernel⟩
abbrev s_Store_is_out : Stmt := inClass (top 19) 3
theorem sc_Store_is_out : FnScope ["self", "thing"] ["self", "thing"] (defScope s_Store_is_out) := ⟨rfl, rfl, rfl, by decide +kernel, rfl, by decide +kernel, by decide +kernel⟩
abbrev s_Store_let_go : Stmt := inClass (top 19) 6
theorem sc_Store_let_go : FnScope ["self", "things", "thing"] ["self", "things"] (defScope s_Store_let_go) := ⟨rfl, rfl, rfl, by decide +kernel, rfl, by decide +kernel, by decide +kernel⟩
abbrev s_Counts_loose : Stmt := inClass (top 26) 6
theorem sc_Counts_loose : FnScope ["self", "thing"] ["self", "thing"] (defScope s_Counts_loose) := ⟨rfl, rfl, rfl, by decide +kernel, rfl, by decide +kernel, by decide +kernel⟩
abbrev s_Counts_after_swap : Stmt := inClass (top 26) 7
theorem sc_Counts_after_swap : FnScope ["self", "thing"] ["self", "thing"] (defScope s_Counts_after_swap) := ⟨rfl, rfl, rfl, by decide +kernel, rfl, by decide +kernel, by decide +kernel⟩
abbrev s__law_refusal : Stmt := top 31
theorem sc__law_refusal : FnScope ["caught", "kinds", "words"] ["caught"] (defScope s__law_refusal) := ⟨rfl, rfl, rfl, by decide +kernel, rfl, by decide +kernel, by decide +kernel⟩
abbrev s__law_asked : Stmt := top 33
theorem sc__law_asked : FnScope ["store", "kind", "one", "other", "caught", "e"] ["store", "kind", "one", "other"] (defScope s__law_asked) := ⟨rfl, rfl, rfl, by decide +kernel, rfl, by decide +kernel, by decide +kernel⟩
abbrev s__law_odd : Stmt := top 32
theorem sc__law_odd : FnScope ["town", "most"] ["town", "most"] (defScope s__law_odd) := ⟨rfl, rfl, rfl, by decide +kernel, rfl, by decide +kernel, by decide +kernel⟩
abbrev s_Store_kept : Stmt := inClass (top 19) 9
theorem sc_Store_kept : FnScope ["self"] ["self"] (defScope s_Store_kept) := ⟨rfl, rfl, rfl, by decide +kernel, rfl, by decide +kernel, by decide +kernel⟩
abbrev s_Store_now : Stmt := inClass (top 19) 8
theorem sc_Store_now : FnScope ["self", "thing"] ["self"] (defScope s_Store_now) := ⟨rfl, rfl, rfl, by decide +kernel, rfl, by decide +kernel, by decide +kernel⟩
abbrev s_law : Stmt := top 34
theorem sc_law : FnScope ["script", "town", "cells", "store", "odd", "found", "kind", "value", "turn"] ["script"] (defScope s_law) := ⟨rfl, rfl, rfl, by decide +kernel, rfl, by decide +kernel, by decide +kernel⟩
structure Adr where
  c_Counts : Addr
  c_Store : Addr
  c_Marks : Addr
  c_Rounds : Addr
  c_BadNumber : Addr
  c_NoCell : Addr
  c_NoHand : Addr
  c_NotIn : Addr
  c_IsIn : Addr
  c_NoMark : Addr
  c_BadPairs : Addr
  c_Gone : Addr
  c_NotHeld : Addr
  c_NotNow : Addr
  c_StoreError : Addr
  f__law_town : Addr
  d__law_town : FuncData
  f__law_draw : Addr
  d__law_draw : FuncData
  f__law_pick : Addr
  d__law_pick : FuncData
  f_is_whole : Addr
  d_is_whole : FuncData
  f_look_number : Addr
  d_look_number : FuncData
  f_Store_init : Addr
  d_Store_init : FuncData
  f_Counts_init : Addr
  d_Counts_init : FuncData
  f_Marks_init : Addr
  d_Marks_init : FuncData
  f_Rounds_init : Addr
  d_Rounds_init : FuncData
  f_Store_look_cell : Addr
  d_Store_look_cell : FuncData
  f_Store_after_swap : Addr
  d_Store_after_swap : FuncData
  f_Store_swap : Addr
  d_Store_swap : FuncData
  f_Rounds_after_swap : Addr
  d_Rounds_after_swap : FuncData
  f_Marks_after_swap : Addr
  d_Marks_after_swap : FuncData
  f_Counts_count_of : Addr
  d_Counts_count_of : FuncData
  f_Store_is_out : Addr
  d_Store_is_out : FuncData
  f_Store_let_go : Addr
  d_Store_let_go : FuncData
  f_Counts_loose : Addr
  d_Counts_loose : FuncData
  f_Counts_after_swap : Addr
  d_Counts_after_swap : FuncData
  f__law_refusal : Addr
  d__law_refusal : FuncData
  f__law_asked : Addr
  d__law_asked : FuncData
  f__law_odd : Addr
  d__law_odd : FuncData
  f_Store_kept : Addr
  d_Store_kept : FuncData
  f_Store_now : Addr
  d_Store_now : FuncData
  f_law : Addr
  d_law : FuncData
  t_MOST_CELLS : Tok
  t_MOST_HANDS : Tok
  t_MOST_VALUE : Tok
structure Txt (K : PySem.W.Frag) (mg : Str → Option Value) (D : Adr) : Prop where
  F__law_town : Fun K "_law_town" "_law_town" s__law_town D.f__law_town D.d__law_town
  b__law_town : Binds K D.d__law_town ["script"] []
  g__law_town : mg "_law_town" = some (.ref D.f__law_town)
  F__law_draw : Fun K "_law_draw" "_law_draw" s__law_draw D.f__law_draw D.d__law_draw
  b__law_draw : Binds K D.d__law_draw ["town", "many"] []
  g__law_draw : mg "_law_draw" = some (.ref D.f__law_draw)
  F__law_pick : Fun K "_law_pick" "_law_pick" s__law_pick D.f__law_pick D.d__law_pick
  b__law_pick : Binds K D.d__law_pick ["town", "some"] []
  g__law_pick : mg "_law_pick" = some (.ref D.f__law_pick)
  F_is_whole : Fun K "is_whole" "is_whole" s_is_whole D.f_is_whole D.d_is_whole
  b_is_whole : Binds K D.d_is_whole ["thing", "low", "high"] []
  g_is_whole : mg "is_whole" = some (.ref D.f_is_whole)
  F_look_number : Fun K "look_number" "look_number" s_look_number D.f_look_number D.d_look_number
  b_look_number : Binds K D.d_look_number ["thing", "low", "high"] []
  g_look_number : mg "look_number" = some (.ref D.f_look_number)
  F_Store_init : Fun K "__init__" "Store.__init__" s_Store_init D.f_Store_init D.d_Store_init
  b_Store_init : Binds K D.d_Store_init ["self", "hands", "cells"] []
  F_Counts_init : Fun K "__init__" "Counts.__init__" s_Counts_init D.f_Counts_init D.d_Counts_init
  b_Counts_init : Binds K D.d_Counts_init ["self", "hands", "cells"] []
  F_Marks_init : Fun K "__init__" "Marks.__init__" s_Marks_init D.f_Marks_init D.d_Marks_init
  b_Marks_init : Binds K D.d_Marks_init ["self", "hands", "cells"] []
  F_Rounds_init : Fun K "__init__" "Rounds.__init__" s_Rounds_init D.f_Rounds_init D.d_Rounds_init
  b_Rounds_init : Binds K D.d_Rounds_init ["self", "hands", "cells"] []
  F_Store_look_cell : Fun K "look_cell" "Store.look_cell" s_Store_look_cell D.f_Store_look_cell D.d_Store_look_cell
  b_Store_look_cell : Binds K D.d_Store_look_cell ["self", "cell"] []
  F_Store_after_swap : Fun K "after_swap" "Store.after_swap" s_Store_after_swap D.f_Store_after_swap D.d_Store_after_swap
  b_Store_after_swap : Binds K D.d_Store_after_swap ["self", "thing"] []
  F_Store_swap : Fun K "swap" "Store.swap" s_Store_swap D.f_Store_swap D.d_Store_swap
  b_Store_swap : Binds K D.d_Store_swap ["self", "cell", "value"] []
  F_Rounds_after_swap : Fun K "after_swap" "Rounds.after_swap" s_Rounds_after_swap D.f_Rounds_after_swap D.d_Rounds_after_swap
  b_Rounds_after_swap : Binds K D.d_Rounds_after_swap ["self", "thing"] []
  F_Marks_after_swap : Fun K "after_swap" "Marks.after_swap" s_Marks_after_swap D.f_Marks_after_swap D.d_Marks_after_swap
  b_Marks_after_swap : Binds K D.d_Marks_after_swap ["self", "thing"] []
  F_Counts_count_of : Fun K "count_of" "Counts.count_of" s_Counts_count_of D.f_Counts_count_of D.d_Counts_count_of
  b_Counts_count_of : Binds K D.d_Counts_count_of ["self", "thing"] []
  F_Store_is_out : Fun K "is_out" "Store.is_out" s_Store_is_out D.f_Store_is_out D.d_Store_is_out
  b_Store_is_out : Binds K D.d_Store_is_out ["self", "thing"] []
  F_Store_let_go : Fun K "let_go" "Store.let_go" s_Store_let_go D.f_Store_let_go D.d_Store_let_go
  b_Store_let_go : Binds K D.d_Store_let_go ["self", "things"] []
  F_Counts_loose : Fun K "loose" "Counts.loose" s_Counts_loose D.f_Counts_loose D.d_Counts_loose
  b_Counts_loose : Binds K D.d_Counts_loose ["self", "thing"] []
  F_Counts_after_swap : Fun K "after_swap" "Counts.after_swap" s_Counts_after_swap D.f_Counts_after_swap D.d_Counts_after_swap
  b_Counts_after_swap : Binds K D.d_Counts_after_swap ["self", "thing"] []
  F__law_refusal : Fun K "_law_refusal" "_law_refusal" s__law_refusal D.f__law_refusal D.d__law_refusal
  b__law_refusal : Binds K D.d__law_refusal ["caught"] []
  g__law_refusal : mg "_law_refusal" = some (.ref D.f__law_refusal)
  F__law_asked : Fun K "_law_asked" "_law_asked" s__law_asked D.f__law_asked D.d__law_asked
  b__law_asked : Binds K D.d__law_asked ["store", "kind", "one", "other"] []
  g__law_asked : mg "_law_asked" = some (.ref D.f__law_asked)
  F__law_odd : Fun K "_law_odd" "_law_odd" s__law_odd D.f__law_odd D.d__law_odd
  b__law_odd : Binds K D.d__law_odd ["town", "most"] []
  g__law_odd : mg "_law_odd" = some (.ref D.f__law_odd)
  F_Store_kept : Fun K "kept" "Store.kept" s_Store_kept D.f_Store_kept D.d_Store_kept
  b_Store_kept : Binds K D.d_Store_kept ["self"] []
  F_Store_now : Fun K "now" "Store.now" s_Store_now D.f_Store_now D.d_Store_now
  b_Store_now : Binds K D.d_Store_now ["self"] []
  F_law : Fun K "law" "law" s_law D.f_law D.d_law
  b_law : Binds K D.d_law ["script"] []
  g_law : mg "law" = some (.ref D.f_law)
  cl_Counts : Cls K D.c_Counts
  g_Counts : mg "Counts" = some (.ref D.c_Counts)
  na_Counts_hands : NoAttr K D.c_Counts "hands"
  na_Counts_worth : NoAttr K D.c_Counts "worth"
  na_Counts_cells : NoAttr K D.c_Counts "cells"
  na_Counts_made : NoAttr K D.c_Counts "made"
  na_Counts_held : NoAttr K D.c_Counts "held"
  mk_Counts : Mk K D.c_Counts D.f_Counts_init
  cl_Store : Cls K D.c_Store
  g_Store : mg "Store" = some (.ref D.c_Store)
  na_Store_hands : NoAttr K D.c_Store "hands"
  na_Store_worth : NoAttr K D.c_Store "worth"
  na_Store_cells : NoAttr K D.c_Store "cells"
  na_Store_made : NoAttr K D.c_Store "made"
  mk_Store : Mk K D.c_Store D.f_Store_init
  cl_Marks : Cls K D.c_Marks
  g_Marks : mg "Marks" = some (.ref D.c_Marks)
  na_Marks_hands : NoAttr K D.c_Marks "hands"
  na_Marks_worth : NoAttr K D.c_Marks "worth"
  na_Marks_cells : NoAttr K D.c_Marks "cells"
  na_Marks_made : NoAttr K D.c_Marks "made"
  na_Marks_marks : NoAttr K D.c_Marks "marks"
  na_Marks_waits : NoAttr K D.c_Marks "waits"
  mk_Marks : Mk K D.c_Marks D.f_Marks_init
  cl_Rounds : Cls K D.c_Rounds
  g_Rounds : mg "Rounds" = some (.ref D.c_Rounds)
  na_Rounds_hands : NoAttr K D.c_Rounds "hands"
  na_Rounds_worth : NoAttr K D.c_Rounds "worth"
  na_Rounds_cells : NoAttr K D.c_Rounds "cells"
  na_Rounds_made : NoAttr K D.c_Rounds "made"
  na_Rounds_era : NoAttr K D.c_Rounds "era"
  na_Rounds_inside : NoAttr K D.c_Rounds "inside"
  na_Rounds_saw : NoAttr K D.c_Rounds "saw"
  na_Rounds_waits : NoAttr K D.c_Rounds "waits"
  mk_Rounds : Mk K D.c_Rounds D.f_Rounds_init
  g_BadNumber : mg "BadNumber" = some (.ref D.c_BadNumber)
  xi_BadNumber : PySem.W.excIn K D.c_BadNumber [.type "ValueError", .type "Exception", .type "BaseException", .type "object"] "ValueError.__new__" = true
  kp_BadNumber : PySem.W.keepIn K (.ref D.c_BadNumber) = true
  sb_BadNumber : PySem.W.subIn K (.ref D.c_BadNumber) (.type "BaseException") = some true
  ty_BadNumber : PySem.W.typeIn K (.ref D.c_BadNumber) = some (.type "type")
  em_BadNumber : PySem.W.exmOne K (.ref D.c_BadNumber) (.ref D.c_StoreError) = some true
  ec_BadNumber : ExcC K D.c_BadNumber
  ki_BadNumber_BadNumber : PySem.W.kitOne K (.ref D.c_BadNumber) (.ref D.c_BadNumber) = some true
  ki_BadNumber_NoHand : PySem.W.kitOne K (.ref D.c_BadNumber) (.ref D.c_NoHand) = some false
  ki_BadNumber_NoCell : PySem.W.kitOne K (.ref D.c_BadNumber) (.ref D.c_NoCell) = some false
  ki_BadNumber_NoMark : PySem.W.kitOne K (.ref D.c_BadNumber) (.ref D.c_NoMark) = some false
  ki_BadNumber_IsIn : PySem.W.kitOne K (.ref D.c_BadNumber) (.ref D.c_IsIn) = some false
  ki_BadNumber_NotIn : PySem.W.kitOne K (.ref D.c_BadNumber) (.ref D.c_NotIn) = some false
  ki_BadNumber_NotHeld : PySem.W.kitOne K (.ref D.c_BadNumber) (.ref D.c_NotHeld) = some false
  ki_BadNumber_Gone : PySem.W.kitOne K (.ref D.c_BadNumber) (.ref D.c_Gone) = some false
  ki_BadNumber_BadPairs : PySem.W.kitOne K (.ref D.c_BadNumber) (.ref D.c_BadPairs) = some false
  ki_BadNumber_NotNow : PySem.W.kitOne K (.ref D.c_BadNumber) (.ref D.c_NotNow) = some false
  ki_BadNumber_StoreError : PySem.W.kitOne K (.ref D.c_BadNumber) (.ref D.c_StoreError) = some true
  kv_BadNumber : PySem.W.kitOne K (.ref D.c_BadNumber) (.type "ValueError") = some true
  g_NoCell : mg "NoCell" = some (.ref D.c_NoCell)
  xi_NoCell : PySem.W.excIn K D.c_NoCell [.type "ValueError", .type "Exception", .type "BaseException", .type "object"] "ValueError.__new__" = true
  kp_NoCell : PySem.W.keepIn K (.ref D.c_NoCell) = true
  sb_NoCell : PySem.W.subIn K (.ref D.c_NoCell) (.type "BaseException") = some true
  ty_NoCell : PySem.W.typeIn K (.ref D.c_NoCell) = some (.type "type")
  em_NoCell : PySem.W.exmOne K (.ref D.c_NoCell) (.ref D.c_StoreError) = some true
  ec_NoCell : ExcC K D.c_NoCell
  ki_NoCell_BadNumber : PySem.W.kitOne K (.ref D.c_NoCell) (.ref D.c_BadNumber) = some false
  ki_NoCell_NoHand : PySem.W.kitOne K (.ref D.c_NoCell) (.ref D.c_NoHand) = some false
  ki_NoCell_NoCell : PySem.W.kitOne K (.ref D.c_NoCell) (.ref D.c_NoCell) = some true
  ki_NoCell_NoMark : PySem.W.kitOne K (.ref D.c_NoCell) (.ref D.c_NoMark) = some false
  ki_NoCell_IsIn : PySem.W.kitOne K (.ref D.c_NoCell) (.ref D.c_IsIn) = some false
  ki_NoCell_NotIn : PySem.W.kitOne K (.ref D.c_NoCell) (.ref D.c_NotIn) = some false
  ki_NoCell_NotHeld : PySem.W.kitOne K (.ref D.c_NoCell) (.ref D.c_NotHeld) = some false
  ki_NoCell_Gone : PySem.W.kitOne K (.ref D.c_NoCell) (.ref D.c_Gone) = some false
  ki_NoCell_BadPairs : PySem.W.kitOne K (.ref D.c_NoCell) (.ref D.c_BadPairs) = some false
  ki_NoCell_NotNow : PySem.W.kitOne K (.ref D.c_NoCell) (.ref D.c_NotNow) = some false
  ki_NoCell_StoreError : PySem.W.kitOne K (.ref D.c_NoCell) (.ref D.c_StoreError) = some true
  kv_NoCell : PySem.W.kitOne K (.ref D.c_NoCell) (.type "ValueError") = some true
  g_NoHand : mg "NoHand" = some (.ref D.c_NoHand)
  g_NotIn : mg "NotIn" = some (.ref D.c_NotIn)
  g_IsIn : mg "IsIn" = some (.ref D.c_IsIn)
  g_NoMark : mg "NoMark" = some (.ref D.c_NoMark)
  g_BadPairs : mg "BadPairs" = some (.ref D.c_BadPairs)
  g_Gone : mg "Gone" = some (.ref D.c_Gone)
  g_NotHeld : mg "NotHeld" = some (.ref D.c_NotHeld)
  g_NotNow : mg "NotNow" = some (.ref D.c_NotNow)
  g_StoreError : mg "StoreError" = some (.ref D.c_StoreError)
  me_Store_look_cell : Meth K D.c_Store "look_cell" D.f_Store_look_cell
  me_Store_after_swap : Meth K D.c_Store "after_swap" D.f_Store_after_swap
  me_Store_swap : Meth K D.c_Store "swap" D.f_Store_swap
  me_Rounds_look_cell : Meth K D.c_Rounds "look_cell" D.f_Store_look_cell
  me_Rounds_after_swap : Meth K D.c_Rounds "after_swap" D.f_Rounds_after_swap
  me_Rounds_swap : Meth K D.c_Rounds "swap" D.f_Store_swap
  me_Marks_look_cell : Meth K D.c_Marks "look_cell" D.f_Store_look_cell
  me_Marks_after_swap : Meth K D.c_Marks "after_swap" D.f_Marks_after_swap
  me_Marks_swap : Meth K D.c_Marks "swap" D.f_Store_swap
  me_Counts_look_cell : Meth K D.c_Counts "look_cell" D.f_Store_look_cell
  me_Counts_count_of : Meth K D.c_Counts "count_of" D.f_Counts_count_of
  me_Counts_is_out : Meth K D.c_Counts "is_out" D.f_Store_is_out
  me_Counts_let_go : Meth K D.c_Counts "let_go" D.f_Store_let_go
  me_Counts_loose : Meth K D.c_Counts "loose" D.f_Counts_loose
  me_Counts_after_swap : Meth K D.c_Counts "after_swap" D.f_Counts_after_swap
  me_Counts_swap : Meth K D.c_Counts "swap" D.f_Store_swap
  me_Store_kept : Meth K D.c_Store "kept" D.f_Store_kept
  me_Rounds_kept : Meth K D.c_Rounds "kept" D.f_Store_kept
  me_Marks_kept : Meth K D.c_Marks "kept" D.f_Store_kept
  me_Counts_kept : Meth K D.c_Counts "kept" D.f_Store_kept
  me_Store_now : Meth K D.c_Store "now" D.f_Store_now
  me_Rounds_now : Meth K D.c_Rounds "now" D.f_Store_now
  me_Marks_now : Meth K D.c_Marks "now" D.f_Store_now
  me_Counts_now : Meth K D.c_Counts "now" D.f_Store_now
  cf_Store_init : CFn K D.c_Store (.type "type") "__init__" D.f_Store_init
  m_ValueError : mg "ValueError" = none
  m_bool : mg "bool" = none
  m_dict : mg "dict" = none
  m_int : mg "int" = none
  m_isinstance : mg "isinstance" = none
  m_len : mg "len" = none
  m_list : mg "list" = none
  m_range : mg "range" = none
  m_sorted : mg "sorted" = none
  m_sum : mg "sum" = none
  k_MOST_CELLS : mg "MOST_CELLS" = some (.int (5) D.t_MOST_CELLS)
  k_MOST_HANDS : mg "MOST_HANDS" = some (.int (6) D.t_MOST_HANDS)
  k_MOST_VALUE : mg "MOST_VALUE" = some (.int (999) D.t_MOST_VALUE)
section
variable {P : Program} {w : World} {K : PySem.W.Frag} {mg : Str → Option Value} {base : Heap} {D : Adr}
set_option maxHeartbeats 8000000 in
theorem ok__law_town (T : Txt K mg D) : FnOk P w K mg base CX0 1 D.f__law_town D.d__law_town ["script"] (sp__law_town K) := by
  refine T.F__law_town.ok sc__law_town (fun vs H Q E h => ?_) (fun cdv A outer s H vs Q E hr h => ⟨t__law_town K, ?_, ?_⟩)
  · first | (obtain ⟨_, rfl, _⟩ := h; rfl; done) | (obtain ⟨_, _, rfl, _⟩ := h; rfl; done) | (obtain ⟨_, _, _, rfl, _⟩ := h; rfl; done) | (obtain ⟨_, _, _, _, rfl, _⟩ := h; rfl; done) | (obtain ⟨_, _, _, _, _, rfl, _⟩ := h; rfl; done) | (obtain ⟨_, _, _, _, _, _, rfl, _⟩ := h; rfl; done) | (obtain ⟨_, _, _, _, _, _, _, rfl, _⟩ := h; rfl; done) | (obtain ⟨_, _, _, _, _, _, _, _, rfl, _⟩ := h; rfl; done) | (obtain ⟨_, _, _, _, _, _, _, _, _, rfl, _⟩ := h; rfl; done) | (obtain ⟨_, _, _, _, _, _, _, _, _, _, rfl, _⟩ := h; rfl; done) | (obtain ⟨_, _, _, _, _, _, _, _, _, _, _, rfl, _⟩ := h; rfl; done) | (obtain ⟨_, _, _, _, _, _, _, _, _, _, _, _, rfl, _⟩ := h; rfl; done) | (obtain ⟨_, _, _, _, _, _, _, _, _, _, _, _, _, rfl, _⟩ := h; rfl; done) | (obtain ⟨_, _, _, _, _, _, _, _, _, _, _, _, _, _, rfl, _⟩ := h; rfl; done) | (obtain ⟨_, _, _, _, _, _, _, _, _, _, _, _, _, _, _, rfl, _⟩ := h; rfl; done) | ((rcases h with h | h) <;> (first | (obtain ⟨_, rfl, _⟩ := h; rfl) | (obtain ⟨_, _, rfl, _⟩ := h; rfl) | (obtain ⟨_, _, _, rfl, _⟩ := h; rfl) | (obtain ⟨_, _, _, _, rfl, _⟩ := h; rfl) | (obtain ⟨_, _, _, _, _, rfl, _⟩ := h; rfl) | (obtain ⟨_, _, _, _, _, _, rfl, _⟩ := h; rfl) | (obtain ⟨_, _, _, _, _, _, _, rfl, _⟩ := h; rfl) | (obtain ⟨_, _, _, _, _, _, _, _, rfl, _⟩ := h; rfl) | (obtain ⟨_, _, _, _, _, _, _, _, _, rfl, _⟩ := h; rfl) | (obtain ⟨_, _, _, _, _, _, _, _, _, _, rfl, _⟩ := h; rfl) | (obtain ⟨_, _, _, _, _, _, _, _, _, _, _, rfl, _⟩ := h; rfl) | (obtain ⟨_, _, _, _, _, _, _, _, _, _, _, _, rfl, _⟩ := h; rfl) | (obtain ⟨_, _, _, _, _, _, _, _, _, _, _, _, _, rfl, _⟩ := h; rfl) | (obtain ⟨_, _, _, _, _, _, _, _, _, _, _, _, _, _, rfl, _⟩ := h; rfl) | (obtain ⟨_, _, _, _, _, _, _, _, _, _, _, _, _, _, _, rfl, _⟩ := h; rfl)))
  · have hu := hu_of hr
    exact pss_one (ps_ret (pe_lst (pa_cons (pe_ifExp (pt_cmpR (op_neD hr.units) (pv 0) (pe_lst (pa_nil)) (nomark _)) (pe_callTy call_listOf (by rfl) T.m_list (by decide +kernel) (pa_cons (pv 0) (pa_nil))) (pe_lst (pa_cons (pe_int) (pa_nil)))) (pa_cons (pe_int) (pa_nil)))))
  · exact pure__law_town h
set_option maxHeartbeats 8000000 in
theorem ok__law_draw (T : Txt K mg D) : FnOk P w K mg base CX0 1 D.f__law_draw D.d__law_draw ["town", "many"] (sp__law_draw) := by
  refine T.F__law_draw.ok sc__law_draw (fun vs H Q E h => ?_) (fun cdv A outer s H vs Q E hr h => ⟨t__law_draw K, ?_, ?_⟩)
  · first | (obtain ⟨_, rfl, _⟩ := h; rfl; done) | (obtain ⟨_, _, rfl, _⟩ := h; rfl; done) | (obtain ⟨_, _, _, rfl, _⟩ := h; rfl; done) | (obtain ⟨_, _, _, _, rfl, _⟩ := h; rfl; done) | (obtain ⟨_, _, _, _, _, rfl, _⟩ := h; rfl; done) | (obtain ⟨_, _, _, _, _, _, rfl, _⟩ := h; rfl; done) | (obtain ⟨_, _, _, _, _, _, _, rfl, _⟩ := h; rfl; done) | (obtain ⟨_, _, _, _, _, _, _, _, rfl, _⟩ := h; rfl; done) | (obtain ⟨_, _, _, _, _, _, _, _, _, rfl, _⟩ := h; rfl; done) | (obtain ⟨_, _, _, _, _, _, _, _, _, _, rfl, _⟩ := h; rfl; done) | (obtain ⟨_, _, _, _, _, _, _, _, _, _, _, rfl, _⟩ := h; rfl; done) | (obtain ⟨_, _, _, _, _, _, _, _, _, _, _, _, rfl, _⟩ := h; rfl; done) | (obtain ⟨_, _, _, _, _, _, _, _, _, _, _, _, _, rfl, _⟩ := h; rfl; done) | (obtain ⟨_, _, _, _, _, _, _, _, _, _, _, _, _, _, rfl, _⟩ := h; rfl; done) | (obtain ⟨_, _, _, _, _, _, _, _, _, _, _, _, _, _, _, rfl, _⟩ := h; rfl; done) | ((rcases h with h | h) <;> (first | (obtain ⟨_, rfl, _⟩ := h; rfl) | (obtain ⟨_, _, rfl, _⟩ := h; rfl) | (obtain ⟨_, _, _, rfl, _⟩ := h; rfl) | (obtain ⟨_, _, _, _, rfl, _⟩ := h; rfl) | (obtain ⟨_, _, _, _, _, rfl, _⟩ := h; rfl) | (obtain ⟨_, _, _, _, _, _, rfl, _⟩ := h; rfl) | (obtain ⟨_, _, _, _, _, _, _, rfl, _⟩ := h; rfl) | (obtain ⟨_, _, _, _, _, _, _, _, rfl, _⟩ := h; rfl) | (obtain ⟨_, _, _, _, _, _, _, _, _, rfl, _⟩ := h; rfl) | (obtain ⟨_, _, _, _, _, _, _, _, _, _, rfl, _⟩ := h; rfl) | (obtain ⟨_, _, _, _, _, _, _, _, _, _, _, rfl, _⟩ := h; rfl) | (obtain ⟨_, _, _, _, _, _, _, _, _, _, _, _, rfl, _⟩ := h; rfl) | (obtain ⟨_, _, _, _, _, _, _, _, _, _, _, _, _, rfl, _⟩ := h; rfl) | (obtain ⟨_, _, _, _, _, _, _, _, _, _, _, _, _, _, rfl, _⟩ := h; rfl) | (obtain ⟨_, _, _, _, _, _, _, _, _, _, _, _, _, _, _, rfl, _⟩ := h; rfl)))
  · have hu := hu_of hr
    exact pss_cons (ps_set (i := 2) sc__law_draw.nd rfl (by first | exact Or.inl rfl | exact Or.inr rfl) (pe_ix ix_list (pv 0) (pe_int) (fun _ _ => rfl)))
      (pss_cons (ps_asg (pe_op op_addI (pe_ix ix_list (pv 0) (pe_int) (fun _ _ => rfl)) (pe_int)) (pg_sub (pv 0) (pe_int) set_list))
      (pss_cons (ps_set (i := 3) sc__law_draw.nd rfl (by first | exact Or.inl rfl | exact Or.inr rfl) (pe_op op_modI (pe_ix ix_list (pv 0) (pe_int) (fun _ _ => rfl)) (pe_callB call_lenQ (by rfl) T.m_len PySem.boot_len (pa_cons (pv 2) (pa_nil)))))
      (pss_cons (ps_set (i := 4) sc__law_draw.nd rfl (by first | exact Or.inl rfl | exact Or.inr rfl) (pe_ix ix_list (pv 2) (pv 3) (fun _ _ => rfl)))
      (pss_cons (ps_if (pt_cmpR op_geI (pv 4) (pe_int) (nomark _)) (pss_cons (ps_asg (pe_op op_divI (pv 4) (pv 1)) (pg_sub (pv 2) (pv 3) set_list))
      (pss_one (ps_ret (pe_op op_modI (pv 4) (pv 1))))) (pss_nil))
      (pss_cons (ps_set (i := 5) sc__law_draw.nd rfl (by first | exact Or.inl rfl | exact Or.inr rfl) (pe_op op_modI (pe_op op_addI (pv 4) (pe_op op_mulI (pe_int) (pe_ix ix_list (pv 0) (pe_int) (fun _ _ => rfl)))) (pe_int)))
      (pss_cons (ps_set (i := 5) sc__law_draw.nd rfl (by first | exact Or.inl rfl | exact Or.inr rfl) (pe_op op_modI (pe_op op_powI (pv 5) (pe_int)) (pe_int)))
      (pss_one (ps_ret (pe_op op_modI (pe_op op_divI (pe_op op_modI (pe_op op_addI (pe_op op_mulI (pe_op op_divI (pv 5) (pe_int)) (pe_int)) (pv 5)) (pe_int)) (pe_int)) (pv 1))))))))))
  · exact pure__law_draw h
set_option maxHeartbeats 8000000 in
theorem ok__law_pick (T : Txt K mg D) : FnOk P w K mg base CX0 2 D.f__law_pick D.d__law_pick ["town", "some"] (sp__law_pick) := by
  have G__law_draw : FnOk P w K mg base CX0 1 D.f__law_draw D.d__law_draw ["town", "many"] (sp__law_draw) := ok__law_draw T
  refine T.F__law_pick.ok sc__law_pick (fun vs H Q E h => ?_) (fun cdv A outer s H vs Q E hr h => ⟨t__law_pick K (sp__law_draw), ?_, ?_⟩)
  · first | (obtain ⟨_, rfl, _⟩ := h; rfl; done) | (obtain ⟨_, _, rfl, _⟩ := h; rfl; done) | (obtain ⟨_, _, _, rfl, _⟩ := h; rfl; done) | (obtain ⟨_, _, _, _, rfl, _⟩ := h; rfl; done) | (obtain ⟨_, _, _, _, _, rfl, _⟩ := h; rfl; done) | (obtain ⟨_, _, _, _, _, _, rfl, _⟩ := h; rfl; done) | (obtain ⟨_, _, _, _, _, _, _, rfl, _⟩ := h; rfl; done) | (obtain ⟨_, _, _, _, _, _, _, _, rfl, _⟩ := h; rfl; done) | (obtain ⟨_, _, _, _, _, _, _, _, _, rfl, _⟩ := h; rfl; done) | (obtain ⟨_, _, _, _, _, _, _, _, _, _, rfl, _⟩ := h; rfl; done) | (obtain ⟨_, _, _, _, _, _, _, _, _, _, _, rfl, _⟩ := h; rfl; done) | (obtain ⟨_, _, _, _, _, _, _, _, _, _, _, _, rfl, _⟩ := h; rfl; done) | (obtain ⟨_, _, _, _, _, _, _, _, _, _, _, _, _, rfl, _⟩ := h; rfl; done) | (obtain ⟨_, _, _, _, _, _, _, _, _, _, _, _, _, _, rfl, _⟩ := h; rfl; done) | (obtain ⟨_, _, _, _, _, _, _, _, _, _, _, _, _, _, _, rfl, _⟩ := h; rfl; done) | ((rcases h with h | h) <;> (first | (obtain ⟨_, rfl, _⟩ := h; rfl) | (obtain ⟨_, _, rfl, _⟩ := h; rfl) | (obtain ⟨_, _, _, rfl, _⟩ := h; rfl) | (obtain ⟨_, _, _, _, rfl, _⟩ := h; rfl) | (obtain ⟨_, _, _, _, _, rfl, _⟩ := h; rfl) | (obtain ⟨_, _, _, _, _, _, rfl, _⟩ := h; rfl) | (obtain ⟨_, _, _, _, _, _, _, rfl, _⟩ := h; rfl) | (obtain ⟨_, _, _, _, _, _, _, _, rfl, _⟩ := h; rfl) | (obtain ⟨_, _, _, _, _, _, _, _, _, rfl, _⟩ := h; rfl) | (obtain ⟨_, _, _, _, _, _, _, _, _, _, rfl, _⟩ := h; rfl) | (obtain ⟨_, _, _, _, _, _, _, _, _, _, _, rfl, _⟩ := h; rfl) | (obtain ⟨_, _, _, _, _, _, _, _, _, _, _, _, rfl, _⟩ := h; rfl) | (obtain ⟨_, _, _, _, _, _, _, _, _, _, _, _, _, rfl, _⟩ := h; rfl) | (obtain ⟨_, _, _, _, _, _, _, _, _, _, _, _, _, _, rfl, _⟩ := h; rfl) | (obtain ⟨_, _, _, _, _, _, _, _, _, _, _, _, _, _, _, rfl, _⟩ := h; rfl)))
  · have hu := hu_of hr
    exact pss_one (ps_ret (pe_ix ix_list (pv 1) (pe_call G__law_draw (hr.mono (by decide)) (by rfl) T.g__law_draw T.F__law_draw.kp T.b__law_draw .nil pass0 (pa_cons (pv 0) (pa_cons (pe_callB call_lenQ (by rfl) T.m_len PySem.boot_len (pa_cons (pv 1) (pa_nil))) (pa_nil)))) (fun _ _ => rfl)))
  · exact pure__law_pick h
set_option maxHeartbeats 8000000 in
theorem ok_is_whole (T : Txt K mg D) : FnOk P w K mg base CX0 1 D.f_is_whole D.d_is_whole ["thing", "low", "high"] (sp_is_whole) := by
  refine T.F_is_whole.ok sc_is_whole (fun vs H Q E h => ?_) (fun cdv A outer s H vs Q E hr h => ⟨t_is_whole K, ?_, ?_⟩)
  · first | (obtain ⟨_, rfl, _⟩ := h; rfl; done) | (obtain ⟨_, _, rfl, _⟩ := h; rfl; done) | (obtain ⟨_, _, _, rfl, _⟩ := h; rfl; done) | (obtain ⟨_, _, _, _, rfl, _⟩ := h; rfl; done) | (obtain ⟨_, _, _, _, _, rfl, _⟩ := h; rfl; done) | (obtain ⟨_, _, _, _, _, _, rfl, _⟩ := h; rfl; done) | (obtain ⟨_, _, _, _, _, _, _, rfl, _⟩ := h; rfl; done) | (obtain ⟨_, _, _, _, _, _, _, _, rfl, _⟩ := h; rfl; done) | (obtain ⟨_, _, _, _, _, _, _, _, _, rfl, _⟩ := h; rfl; done) | (obtain ⟨_, _, _, _, _, _, _, _, _, _, rfl, _⟩ := h; rfl; done) | (obtain ⟨_, _, _, _, _, _, _, _, _, _, _, rfl, _⟩ := h; rfl; done) | (obtain ⟨_, _, _, _, _, _, _, _, _, _, _, _, rfl, _⟩ := h; rfl; done) | (obtain ⟨_, _, _, _, _, _, _, _, _, _, _, _, _, rfl, _⟩ := h; rfl; done) | (obtain ⟨_, _, _, _, _, _, _, _, _, _, _, _, _, _, rfl, _⟩ := h; rfl; done) | (obtain ⟨_, _, _, _, _, _, _, _, _, _, _, _, _, _, _, rfl, _⟩ := h; rfl; done) | ((rcases h with h | h) <;> (first | (obtain ⟨_, rfl, _⟩ := h; rfl) | (obtain ⟨_, _, rfl, _⟩ := h; rfl) | (obtain ⟨_, _, _, rfl, _⟩ := h; rfl) | (obtain ⟨_, _, _, _, rfl, _⟩ := h; rfl) | (obtain ⟨_, _, _, _, _, rfl, _⟩ := h; rfl) | (obtain ⟨_, _, _, _, _, _, rfl, _⟩ := h; rfl) | (obtain ⟨_, _, _, _, _, _, _, rfl, _⟩ := h; rfl) | (obtain ⟨_, _, _, _, _, _, _, _, rfl, _⟩ := h; rfl) | (obtain ⟨_, _, _, _, _, _, _, _, _, rfl, _⟩ := h; rfl) | (obtain ⟨_, _, _, _, _, _, _, _, _, _, rfl, _⟩ := h; rfl) | (obtain ⟨_, _, _, _, _, _, _, _, _, _, _, rfl, _⟩ := h; rfl) | (obtain ⟨_, _, _, _, _, _, _, _, _, _, _, _, rfl, _⟩ := h; rfl) | (obtain ⟨_, _, _, _, _, _, _, _, _, _, _, _, _, rfl, _⟩ := h; rfl) | (obtain ⟨_, _, _, _, _, _, _, _, _, _, _, _, _, _, rfl, _⟩ := h; rfl) | (obtain ⟨_, _, _, _, _, _, _, _, _, _, _, _, _, _, _, rfl, _⟩ := h; rfl)))
  · have hu := hu_of hr
    exact pss_one (ps_ret (pe_and (pe_callB call_isi (by rfl) T.m_isinstance (by decide +kernel) (pa_cons (pv 0) (pa_cons (pe_bltn (v := .ty "int") (by rfl) T.m_int (by decide +kernel) rfl) (pa_nil)))) (pe_and (pe_not (pe_callB call_isi (by rfl) T.m_isinstance (by decide +kernel) (pa_cons (pv 0) (pa_cons (pe_bltn (v := .ty "bool") (by rfl) T.m_bool (by decide +kernel) rfl) (pa_nil))))) (pe_one (pe_chain op_leI op_leI (pv 1) (pv 0) (pv 2))))))
  · exact pure_is_whole h
set_option maxHeartbeats 8000000 in
theorem ok_look_number (T : Txt K mg D) : FnOk P w K mg base CX0 2 D.f_look_number D.d_look_number ["thing", "low", "high"] (sp_look_number) := by
  have G_is_whole : FnOk P w K mg base CX0 1 D.f_is_whole D.d_is_whole ["thing", "low", "high"] (sp_is_whole) := ok_is_whole T
  refine T.F_look_number.ok sc_look_number (fun vs H Q E h => ?_) (fun cdv A outer s H vs Q E hr h => ⟨t_look_number K (sp_is_whole), ?_, ?_⟩)
  · first | (obtain ⟨_, rfl, _⟩ := h; rfl; done) | (obtain ⟨_, _, rfl, _⟩ := h; rfl; done) | (obtain ⟨_, _, _, rfl, _⟩ := h; rfl; done) | (obtain ⟨_, _, _, _, rfl, _⟩ := h; rfl; done) | (obtain ⟨_, _, _, _, _, rfl, _⟩ := h; rfl; done) | (obtain ⟨_, _, _, _, _, _, rfl, _⟩ := h; rfl; done) | (obtain ⟨_, _, _, _, _, _, _, rfl, _⟩ := h; rfl; done) | (obtain ⟨_, _, _, _, _, _, _, _, rfl, _⟩ := h; rfl; done) | (obtain ⟨_, _, _, _, _, _, _, _, _, rfl, _⟩ := h; rfl; done) | (obtain ⟨_, _, _, _, _, _, _, _, _, _, rfl, _⟩ := h; rfl; done) | (obtain ⟨_, _, _, _, _, _, _, _, _, _, _, rfl, _⟩ := h; rfl; done) | (obtain ⟨_, _, _, _, _, _, _, _, _, _, _, _, rfl, _⟩ := h; rfl; done) | (obtain ⟨_, _, _, _, _, _, _, _, _, _, _, _, _, rfl, _⟩ := h; rfl; done) | (obtain ⟨_, _, _, _, _, _, _, _, _, _, _, _, _, _, rfl, _⟩ := h; rfl; done) | (obtain ⟨_, _, _, _, _, _, _, _, _, _, _, _, _, _, _, rfl, _⟩ := h; rfl; done) | ((rcases h with h | h) <;> (first | (obtain ⟨_, rfl, _⟩ := h; rfl) | (obtain ⟨_, _, rfl, _⟩ := h; rfl) | (obtain ⟨_, _, _, rfl, _⟩ := h; rfl) | (obtain ⟨_, _, _, _, rfl, _⟩ := h; rfl) | (obtain ⟨_, _, _, _, _, rfl, _⟩ := h; rfl) | (obtain ⟨_, _, _, _, _, _, rfl, _⟩ := h; rfl) | (obtain ⟨_, _, _, _, _, _, _, rfl, _⟩ := h; rfl) | (obtain ⟨_, _, _, _, _, _, _, _, rfl, _⟩ := h; rfl) | (obtain ⟨_, _, _, _, _, _, _, _, _, rfl, _⟩ := h; rfl) | (obtain ⟨_, _, _, _, _, _, _, _, _, _, rfl, _⟩ := h; rfl) | (obtain ⟨_, _, _, _, _, _, _, _, _, _, _, rfl, _⟩ := h; rfl) | (obtain ⟨_, _, _, _, _, _, _, _, _, _, _, _, rfl, _⟩ := h; rfl) | (obtain ⟨_, _, _, _, _, _, _, _, _, _, _, _, _, rfl, _⟩ := h; rfl) | (obtain ⟨_, _, _, _, _, _, _, _, _, _, _, _, _, _, rfl, _⟩ := h; rfl) | (obtain ⟨_, _, _, _, _, _, _, _, _, _, _, _, _, _, _, rfl, _⟩ := h; rfl)))
  · have hu := hu_of hr
    exact pss_one (ps_if (pt_not (pt_val (pe_call G_is_whole (hr.mono (by decide)) (by rfl) T.g_is_whole T.F_is_whole.kp T.b_is_whole .nil pass0 (pa_cons (pv 0) (pa_cons (pv 1) (pa_cons (pv 2) (pa_nil))))))) (pss_one (ps_never)) (pss_nil))
  · exact pure_look_number h
set_option maxHeartbeats 8000000 in
theorem ok_Counts__Store_init (T : Txt K mg D) : FnOk P w K mg base CX0 3 D.f_Store_init D.d_Store_init ["self", "hands", "cells"] (sp_init D.c_Counts) := by
  have G_look_number : FnOk P w K mg base CX0 2 D.f_look_number D.d_look_number ["thing", "low", "high"] (sp_look_number) := ok_look_number T
  refine T.F_Store_init.ok sc_Store_init (fun vs H Q E h => ?_) (fun cdv A outer s H vs Q E hr h => ⟨t_Store_init K (sp_look_number), ?_, ?_⟩)
  · first | (obtain ⟨_, rfl, _⟩ := h; rfl; done) | (obtain ⟨_, _, rfl, _⟩ := h; rfl; done) | (obtain ⟨_, _, _, rfl, _⟩ := h; rfl; done) | (obtain ⟨_, _, _, _, rfl, _⟩ := h; rfl; done) | (obtain ⟨_, _, _, _, _, rfl, _⟩ := h; rfl; done) | (obtain ⟨_, _, _, _, _, _, rfl, _⟩ := h; rfl; done) | (obtain ⟨_, _, _, _, _, _, _, rfl, _⟩ := h; rfl; done) | (obtain ⟨_, _, _, _, _, _, _, _, rfl, _⟩ := h; rfl; done) | (obtain ⟨_, _, _, _, _, _, _, _, _, rfl, _⟩ := h; rfl; done) | (obtain ⟨_, _, _, _, _, _, _, _, _, _, rfl, _⟩ := h; rfl; done) | (obtain ⟨_, _, _, _, _, _, _, _, _, _, _, rfl, _⟩ := h; rfl; done) | (obtain ⟨_, _, _, _, _, _, _, _, _, _, _, _, rfl, _⟩ := h; rfl; done) | (obtain ⟨_, _, _, _, _, _, _, _, _, _, _, _, _, rfl, _⟩ := h; rfl; done) | (obtain ⟨_, _, _, _, _, _, _, _, _, _, _, _, _, _, rfl, _⟩ := h; rfl; done) | (obtain ⟨_, _, _, _, _, _, _, _, _, _, _, _, _, _, _, rfl, _⟩ := h; rfl; done) | ((rcases h with h | h) <;> (first | (obtain ⟨_, rfl, _⟩ := h; rfl) | (obtain ⟨_, _, rfl, _⟩ := h; rfl) | (obtain ⟨_, _, _, rfl, _⟩ := h; rfl) | (obtain ⟨_, _, _, _, rfl, _⟩ := h; rfl) | (obtain ⟨_, _, _, _, _, rfl, _⟩ := h; rfl) | (obtain ⟨_, _, _, _, _, _, rfl, _⟩ := h; rfl) | (obtain ⟨_, _, _, _, _, _, _, rfl, _⟩ := h; rfl) | (obtain ⟨_, _, _, _, _, _, _, _, rfl, _⟩ := h; rfl) | (obtain ⟨_, _, _, _, _, _, _, _, _, rfl, _⟩ := h; rfl) | (obtain ⟨_, _, _, _, _, _, _, _, _, _, rfl, _⟩ := h; rfl) | (obtain ⟨_, _, _, _, _, _, _, _, _, _, _, rfl, _⟩ := h; rfl) | (obtain ⟨_, _, _, _, _, _, _, _, _, _, _, _, rfl, _⟩ := h; rfl) | (obtain ⟨_, _, _, _, _, _, _, _, _, _, _, _, _, rfl, _⟩ := h; rfl) | (obtain ⟨_, _, _, _, _, _, _, _, _, _, _, _, _, _, rfl, _⟩ := h; rfl) | (obtain ⟨_, _, _, _, _, _, _, _, _, _, _, _, _, _, _, rfl, _⟩ := h; rfl)))
  · have hu := hu_of hr
    exact pss_cons (ps_expr (pe_call G_look_number (hr.mono (by decide)) (by rfl) T.g_look_number T.F_look_number.kp T.b_look_number .nil pass0 (pa_cons (pv 1) (pa_cons (pe_int) (pa_cons (pe_glob (by rfl) T.k_MOST_HANDS ⟨_, rfl⟩) (pa_nil))))))
      (pss_cons (ps_expr (pe_call G_look_number (hr.mono (by decide)) (by rfl) T.g_look_number T.F_look_number.kp T.b_look_number .nil pass0 (pa_cons (pv 2) (pa_cons (pe_int) (pa_cons (pe_glob (by rfl) T.k_MOST_CELLS ⟨_, rfl⟩) (pa_nil))))))
      (pss_cons (ps_fld (pv 0) (pv 1) (by rfl))
      (pss_cons (ps_fld (pv 0) (pe_callTy (call_dictPr rfl) (by rfl) T.m_dict (by decide +kernel) (pa_cons (pe_lc (own := [("thing", 3)]) (by rfl) sc_Store_init.nd (pi_range1 (by rfl) T.m_range (pa_cons (pv 2) (pa_nil))) (blkOk_by (own := [("thing", 3)]) (N := ["self", "hands", "cells", "thing"]) (sc := defScope s_Store_init) (by decide +kernel)) (fun _ _ _ _ _ => pg_name (i := 3) sc_Store_init.nd rfl (by first | exact Or.inl rfl | exact Or.inr rfl)) (fun _ _ _ _ _ => pts_nil) (fun _ _ _ _ _ => pe_tup (pa_cons (pv 3) (pa_cons (pe_int) (pa_nil))))) (pa_nil))) (by rfl))
      (pss_cons (ps_fld (pv 0) (pe_listRg rfl (by rfl) T.m_list (prg_1 (by rfl) T.m_range (pv 2))) (by rfl))
      (pss_one (ps_fld (pv 0) (pv 2) (by rfl)))))))
  · exact pure_init ⟨T.cl_Counts, T.na_Counts_hands, T.na_Counts_worth, T.na_Counts_cells, T.na_Counts_made⟩ h
set_option maxHeartbeats 8000000 in
theorem ok_mk_Counts (T : Txt K mg D) : FnOk P w K mg base CX0 4 D.f_Counts_init D.d_Counts_init ["self", "hands", "cells"] (sp_cinit D.c_Counts) := by
  have G_Counts__Store_init : FnOk P w K mg base CX0 3 D.f_Store_init D.d_Store_init ["self", "hands", "cells"] (sp_init D.c_Counts) := ok_Counts__Store_init T
  refine T.F_Counts_init.ok sc_Counts_init (fun vs H Q E h => ?_) (fun cdv A outer s H vs Q E hr h => ⟨t_Counts_init K D.c_Store (sp_init D.c_Counts), ?_, ?_⟩)
  · first | (obtain ⟨_, rfl, _⟩ := h; rfl; done) | (obtain ⟨_, _, rfl, _⟩ := h; rfl; done) | (obtain ⟨_, _, _, rfl, _⟩ := h; rfl; done) | (obtain ⟨_, _, _, _, rfl, _⟩ := h; rfl; done) | (obtain ⟨_, _, _, _, _, rfl, _⟩ := h; rfl; done) | (obtain ⟨_, _, _, _, _, _, rfl, _⟩ := h; rfl; done) | (obtain ⟨_, _, _, _, _, _, _, rfl, _⟩ := h; rfl; done) | (obtain ⟨_, _, _, _, _, _, _, _, rfl, _⟩ := h; rfl; done) | (obtain ⟨_, _, _, _, _, _, _, _, _, rfl, _⟩ := h; rfl; done) | (obtain ⟨_, _, _, _, _, _, _, _, _, _, rfl, _⟩ := h; rfl; done) | (obtain ⟨_, _, _, _, _, _, _, _, _, _, _, rfl, _⟩ := h; rfl; done) | (obtain ⟨_, _, _, _, _, _, _, _, _, _, _, _, rfl, _⟩ := h; rfl; done) | (obtain ⟨_, _, _, _, _, _, _, _, _, _, _, _, _, rfl, _⟩ := h; rfl; done) | (obtain ⟨_, _, _, _, _, _, _, _, _, _, _, _, _, _, rfl, _⟩ := h; rfl; done) | (obtain ⟨_, _, _, _, _, _, _, _, _, _, _, _, _, _, _, rfl, _⟩ := h; rfl; done) | ((rcases h with h | h) <;> (first | (obtain ⟨_, rfl, _⟩ := h; rfl) | (obtain ⟨_, _, rfl, _⟩ := h; rfl) | (obtain ⟨_, _, _, rfl, _⟩ := h; rfl) | (obtain ⟨_, _, _, _, rfl, _⟩ := h; rfl) | (obtain ⟨_, _, _, _, _, rfl, _⟩ := h; rfl) | (obtain ⟨_, _, _, _, _, _, rfl, _⟩ := h; rfl) | (obtain ⟨_, _, _, _, _, _, _, rfl, _⟩ := h; rfl) | (obtain ⟨_, _, _, _, _, _, _, _, rfl, _⟩ := h; rfl) | (obtain ⟨_, _, _, _, _, _, _, _, _, rfl, _⟩ := h; rfl) | (obtain ⟨_, _, _, _, _, _, _, _, _, _, rfl, _⟩ := h; rfl) | (obtain ⟨_, _, _, _, _, _, _, _, _, _, _, rfl, _⟩ := h; rfl) | (obtain ⟨_, _, _, _, _, _, _, _, _, _, _, _, rfl, _⟩ := h; rfl) | (obtain ⟨_, _, _, _, _, _, _, _, _, _, _, _, _, rfl, _⟩ := h; rfl) | (obtain ⟨_, _, _, _, _, _, _, _, _, _, _, _, _, _, rfl, _⟩ := h; rfl) | (obtain ⟨_, _, _, _, _, _, _, _, _, _, _, _, _, _, _, rfl, _⟩ := h; rfl)))
  · have hu := hu_of hr
    exact pss_cons (ps_expr (pe_cfn (pe_glob (by rfl) T.g_Store rfl) T.cf_Store_init G_Counts__Store_init (hr.mono (by decide)) T.b_Store_init .nil pass0 (pa_cons (pv 0) (pa_cons (pv 1) (pa_cons (pv 2) (pa_nil))))))
      (pss_one (ps_fld (pv 0) (pe_dnewT) (by rfl)))
  · exact pure_cinit ⟨⟨T.cl_Counts, T.na_Counts_hands, T.na_Counts_worth, T.na_Counts_cells, T.na_Counts_made⟩, T.na_Counts_held⟩ h
set_option maxHeartbeats 8000000 in
theorem ok_Marks__Store_init (T : Txt K mg D) : FnOk P w K mg base CX0 3 D.f_Store_init D.d_Store_init ["self", "hands", "cells"] (sp_init D.c_Marks) := by
  have G_look_number : FnOk P w K mg base CX0 2 D.f_look_number D.d_look_number ["thing", "low", "high"] (sp_look_number) := ok_look_number T
  refine T.F_Store_init.ok sc_Store_init (fun vs H Q E h => ?_) (fun cdv A outer s H vs Q E hr h => ⟨t_Store_init K (sp_look_number), ?_, ?_⟩)
  · first | (obtain ⟨_, rfl, _⟩ := h; rfl; done) | (obtain ⟨_, _, rfl, _⟩ := h; rfl; done) | (obtain ⟨_, _, _, rfl, _⟩ := h; rfl; done) | (obtain ⟨_, _, _, _, rfl, _⟩ := h; rfl; done) | (obtain ⟨_, _, _, _, _, rfl, _⟩ := h; rfl; done) | (obtain ⟨_, _, _, _, _, _, rfl, _⟩ := h; rfl; done) | (obtain ⟨_, _, _, _, _, _, _, rfl, _⟩ := h; rfl; done) | (obtain ⟨_, _, _, _, _, _, _, _, rfl, _⟩ := h; rfl; done) | (obtain ⟨_, _, _, _, _, _, _, _, _, rfl, _⟩ := h; rfl; done) | (obtain ⟨_, _, _, _, _, _, _, _, _, _, rfl, _⟩ := h; rfl; done) | (obtain ⟨_, _, _, _, _, _, _, _, _, _, _, rfl, _⟩ := h; rfl; done) | (obtain ⟨_, _, _, _, _, _, _, _, _, _, _, _, rfl, _⟩ := h; rfl; done) | (obtain ⟨_, _, _, _, _, _, _, _, _, _, _, _, _, rfl, _⟩ := h; rfl; done) | (obtain ⟨_, _, _, _, _, _, _, _, _, _, _, _, _, _, rfl, _⟩ := h; rfl; done) | (obtain ⟨_, _, _, _, _, _, _, _, _, _, _, _, _, _, _, rfl, _⟩ := h; rfl; done) | ((rcases h with h | h) <;> (first | (obtain ⟨_, rfl, _⟩ := h; rfl) | (obtain ⟨_, _, rfl, _⟩ := h; rfl) | (obtain ⟨_, _, _, rfl, _⟩ := h; rfl) | (obtain ⟨_, _, _, _, rfl, _⟩ := h; rfl) | (obtain ⟨_, _, _, _, _, rfl, _⟩ := h; rfl) | (obtain ⟨_, _, _, _, _, _, rfl, _⟩ := h; rfl) | (obtain ⟨_, _, _, _, _, _, _, rfl, _⟩ := h; rfl) | (obtain ⟨_, _, _, _, _, _, _, _, rfl, _⟩ := h; rfl) | (obtain ⟨_, _, _, _, _, _, _, _, _, rfl, _⟩ := h; rfl) | (obtain ⟨_, _, _, _, _, _, _, _, _, _, rfl, _⟩ := h; rfl) | (obtain ⟨_, _, _, _, _, _, _, _, _, _, _, rfl, _⟩ := h; rfl) | (obtain ⟨_, _, _, _, _, _, _, _, _, _, _, _, rfl, _⟩ := h; rfl) | (obtain ⟨_, _, _, _, _, _, _, _, _, _, _, _, _, rfl, _⟩ := h; rfl) | (obtain ⟨_, _, _, _, _, _, _, _, _, _, _, _, _, _, rfl, _⟩ := h; rfl) | (obtain ⟨_, _, _, _, _, _, _, _, _, _, _, _, _, _, _, rfl, _⟩ := h; rfl)))
  · have hu := hu_of hr
    exact pss_cons (ps_expr (pe_call G_look_number (hr.mono (by decide)) (by rfl) T.g_look_number T.F_look_number.kp T.b_look_number .nil pass0 (pa_cons (pv 1) (pa_cons (pe_int) (pa_cons (pe_glob (by rfl) T.k_MOST_HANDS ⟨_, rfl⟩) (pa_nil))))))
      (pss_cons (ps_expr (pe_call G_look_number (hr.mono (by decide)) (by rfl) T.g_look_number T.F_look_number.kp T.b_look_number .nil pass0 (pa_cons (pv 2) (pa_cons (pe_int) (pa_cons (pe_glob (by rfl) T.k_MOST_CELLS ⟨_, rfl⟩) (pa_nil))))))
      (pss_cons (ps_fld (pv 0) (pv 1) (by rfl))
      (pss_cons (ps_fld (pv 0) (pe_callTy (call_dictPr rfl) (by rfl) T.m_dict (by decide +kernel) (pa_cons (pe_lc (own := [("thing", 3)]) (by rfl) sc_Store_init.nd (pi_range1 (by rfl) T.m_range (pa_cons (pv 2) (pa_nil))) (blkOk_by (own := [("thing", 3)]) (N := ["self", "hands", "cells", "thing"]) (sc := defScope s_Store_init) (by decide +kernel)) (fun _ _ _ _ _ => pg_name (i := 3) sc_Store_init.nd rfl (by first | exact Or.inl rfl | exact Or.inr rfl)) (fun _ _ _ _ _ => pts_nil) (fun _ _ _ _ _ => pe_tup (pa_cons (pv 3) (pa_cons (pe_int) (pa_nil))))) (pa_nil))) (by rfl))
      (pss_cons (ps_fld (pv 0) (pe_listRg rfl (by rfl) T.m_list (prg_1 (by rfl) T.m_range (pv 2))) (by rfl))
      (pss_one (ps_fld (pv 0) (pv 2) (by rfl)))))))
  · exact pure_init ⟨T.cl_Marks, T.na_Marks_hands, T.na_Marks_worth, T.na_Marks_cells, T.na_Marks_made⟩ h
set_option maxHeartbeats 8000000 in
theorem ok_mk_Marks (T : Txt K mg D) : FnOk P w K mg base CX0 4 D.f_Marks_init D.d_Marks_init ["self", "hands", "cells"] (sp_minit D.c_Marks) := by
  have G_Marks__Store_init : FnOk P w K mg base CX0 3 D.f_Store_init D.d_Store_init ["self", "hands", "cells"] (sp_init D.c_Marks) := ok_Marks__Store_init T
  refine T.F_Marks_init.ok sc_Marks_init (fun vs H Q E h => ?_) (fun cdv A outer s H vs Q E hr h => ⟨t_Marks_init K D.c_Store (sp_init D.c_Marks), ?_, ?_⟩)
  · first | (obtain ⟨_, rfl, _⟩ := h; rfl; done) | (obtain ⟨_, _, rfl, _⟩ := h; rfl; done) | (obtain ⟨_, _, _, rfl, _⟩ := h; rfl; done) | (obtain ⟨_, _, _, _, rfl, _⟩ := h; rfl; done) | (obtain ⟨_, _, _, _, _, rfl, _⟩ := h; rfl; done) | (obtain ⟨_, _, _, _, _, _, rfl, _⟩ := h; rfl; done) | (obtain ⟨_, _, _, _, _, _, _, rfl, _⟩ := h; rfl; done) | (obtain ⟨_, _, _, _, _, _, _, _, rfl, _⟩ := h; rfl; done) | (obtain ⟨_, _, _, _, _, _, _, _, _, rfl, _⟩ := h; rfl; done) | (obtain ⟨_, _, _, _, _, _, _, _, _, _, rfl, _⟩ := h; rfl; done) | (obtain ⟨_, _, _, _, _, _, _, _, _, _, _, rfl, _⟩ := h; rfl; done) | (obtain ⟨_, _, _, _, _, _, _, _, _, _, _, _, rfl, _⟩ := h; rfl; done) | (obtain ⟨_, _, _, _, _, _, _, _, _, _, _, _, _, rfl, _⟩ := h; rfl; done) | (obtain ⟨_, _, _, _, _, _, _, _, _, _, _, _, _, _, rfl, _⟩ := h; rfl; done) | (obtain ⟨_, _, _, _, _, _, _, _, _, _, _, _, _, _, _, rfl, _⟩ := h; rfl; done) | ((rcases h with h | h) <;> (first | (obtain ⟨_, rfl, _⟩ := h; rfl) | (obtain ⟨_, _, rfl, _⟩ := h; rfl) | (obtain ⟨_, _, _, rfl, _⟩ := h; rfl) | (obtain ⟨_, _, _, _, rfl, _⟩ := h; rfl) | (obtain ⟨_, _, _, _, _, rfl, _⟩ := h; rfl) | (obtain ⟨_, _, _, _, _, _, rfl, _⟩ := h; rfl) | (obtain ⟨_, _, _, _, _, _, _, rfl, _⟩ := h; rfl) | (obtain ⟨_, _, _, _, _, _, _, _, rfl, _⟩ := h; rfl) | (obtain ⟨_, _, _, _, _, _, _, _, _, rfl, _⟩ := h; rfl) | (obtain ⟨_, _, _, _, _, _, _, _, _, _, rfl, _⟩ := h; rfl) | (obtain ⟨_, _, _, _, _, _, _, _, _, _, _, rfl, _⟩ := h; rfl) | (obtain ⟨_, _, _, _, _, _, _, _, _, _, _, _, rfl, _⟩ := h; rfl) | (obtain ⟨_, _, _, _, _, _, _, _, _, _, _, _, _, rfl, _⟩ := h; rfl) | (obtain ⟨_, _, _, _, _, _, _, _, _, _, _, _, _, _, rfl, _⟩ := h; rfl) | (obtain ⟨_, _, _, _, _, _, _, _, _, _, _, _, _, _, _, rfl, _⟩ := h; rfl)))
  · have hu := hu_of hr
    exact pss_cons (ps_expr (pe_cfn (pe_glob (by rfl) T.g_Store rfl) T.cf_Store_init G_Marks__Store_init (hr.mono (by decide)) T.b_Store_init .nil pass0 (pa_cons (pv 0) (pa_cons (pv 1) (pa_cons (pv 2) (pa_nil))))))
      (pss_cons (ps_fld (pv 0) (pe_dnewT) (by rfl))
      (pss_one (ps_fld (pv 0) (pe_lst (pa_nil)) (by rfl))))
  · exact pure_minit ⟨⟨T.cl_Marks, T.na_Marks_hands, T.na_Marks_worth, T.na_Marks_cells, T.na_Marks_made⟩, T.na_Marks_marks, T.na_Marks_waits⟩ h
set_option maxHeartbeats 8000000 in
theorem ok_Rounds__Store_init (T : Txt K mg D) : FnOk P w K mg base CX0 3 D.f_Store_init D.d_Store_init ["self", "hands", "cells"] (sp_init D.c_Rounds) := by
  have G_look_number : FnOk P w K mg base CX0 2 D.f_look_number D.d_look_number ["thing", "low", "high"] (sp_look_number) := ok_look_number T
  refine T.F_Store_init.ok sc_Store_init (fun vs H Q E h => ?_) (fun cdv A outer s H vs Q E hr h => ⟨t_Store_init K (sp_look_number), ?_, ?_⟩)
  · first | (obtain ⟨_, rfl, _⟩ := h; rfl; done) | (obtain ⟨_, _, rfl, _⟩ := h; rfl; done) | (obtain ⟨_, _, _, rfl, _⟩ := h; rfl; done) | (obtain ⟨_, _, _, _, rfl, _⟩ := h; rfl; done) | (obtain ⟨_, _, _, _, _, rfl, _⟩ := h; rfl; done) | (obtain ⟨_, _, _, _, _, _, rfl, _⟩ := h; rfl; done) | (obtain ⟨_, _, _, _, _, _, _, rfl, _⟩ := h; rfl; done) | (obtain ⟨_, _, _, _, _, _, _, _, rfl, _⟩ := h; rfl; done) | (obtain ⟨_, _, _, _, _, _, _, _, _, rfl, _⟩ := h; rfl; done) | (obtain ⟨_, _, _, _, _, _, _, _, _, _, rfl, _⟩ := h; rfl; done) | (obtain ⟨_, _, _, _, _, _, _, _, _, _, _, rfl, _⟩ := h; rfl; done) | (obtain ⟨_, _, _, _, _, _, _, _, _, _, _, _, rfl, _⟩ := h; rfl; done) | (obtain ⟨_, _, _, _, _, _, _, _, _, _, _, _, _, rfl, _⟩ := h; rfl; done) | (obtain ⟨_, _, _, _, _, _, _, _, _, _, _, _, _, _, rfl, _⟩ := h; rfl; done) | (obtain ⟨_, _, _, _, _, _, _, _, _, _, _, _, _, _, _, rfl, _⟩ := h; rfl; done) | ((rcases h with h | h) <;> (first | (obtain ⟨_, rfl, _⟩ := h; rfl) | (obtain ⟨_, _, rfl, _⟩ := h; rfl) | (obtain ⟨_, _, _, rfl, _⟩ := h; rfl) | (obtain ⟨_, _, _, _, rfl, _⟩ := h; rfl) | (obtain ⟨_, _, _, _, _, rfl, _⟩ := h; rfl) | (obtain ⟨_, _, _, _, _, _, rfl, _⟩ := h; rfl) | (obtain ⟨_, _, _, _, _, _, _, rfl, _⟩ := h; rfl) | (obtain ⟨_, _, _, _, _, _, _, _, rfl, _⟩ := h; rfl) | (obtain ⟨_, _, _, _, _, _, _, _, _, rfl, _⟩ := h; rfl) | (obtain ⟨_, _, _, _, _, _, _, _, _, _, rfl, _⟩ := h; rfl) | (obtain ⟨_, _, _, _, _, _, _, _, _, _, _, rfl, _⟩ := h; rfl) | (obtain ⟨_, _, _, _, _, _, _, _, _, _, _, _, rfl, _⟩ := h; rfl) | (obtain ⟨_, _, _, _, _, _, _, _, _, _, _, _, _, rfl, _⟩ := h; rfl) | (obtain ⟨_, _, _, _, _, _, _, _, _, _, _, _, _, _, rfl, _⟩ := h; rfl) | (obtain ⟨_, _, _, _, _, _, _, _, _, _, _, _, _, _, _, rfl, _⟩ := h; rfl)))
  · have hu := hu_of hr
    exact pss_cons (ps_expr (pe_call G_look_number (hr.mono (by decide)) (by rfl) T.g_look_number T.F_look_number.kp T.b_look_number .nil pass0 (pa_cons (pv 1) (pa_cons (pe_int) (pa_cons (pe_glob (by rfl) T.k_MOST_HANDS ⟨_, rfl⟩) (pa_nil))))))
      (pss_cons (ps_expr (pe_call G_look_number (hr.mono (by decide)) (by rfl) T.g_look_number T.F_look_number.kp T.b_look_number .nil pass0 (pa_cons (pv 2) (pa_cons (pe_int) (pa_cons (pe_glob (by rfl) T.k_MOST_CELLS ⟨_, rfl⟩) (pa_nil))))))
      (pss_cons (ps_fld (pv 0) (pv 1) (by rfl))
      (pss_cons (ps_fld (pv 0) (pe_callTy (call_dictPr rfl) (by rfl) T.m_dict (by decide +kernel) (pa_cons (pe_lc (own := [("thing", 3)]) (by rfl) sc_Store_init.nd (pi_range1 (by rfl) T.m_range (pa_cons (pv 2) (pa_nil))) (blkOk_by (own := [("thing", 3)]) (N := ["self", "hands", "cells", "thing"]) (sc := defScope s_Store_init) (by decide +kernel)) (fun _ _ _ _ _ => pg_name (i := 3) sc_Store_init.nd rfl (by first | exact Or.inl rfl | exact Or.inr rfl)) (fun _ _ _ _ _ => pts_nil) (fun _ _ _ _ _ => pe_tup (pa_cons (pv 3) (pa_cons (pe_int) (pa_nil))))) (pa_nil))) (by rfl))
      (pss_cons (ps_fld (pv 0) (pe_listRg rfl (by rfl) T.m_list (prg_1 (by rfl) T.m_range (pv 2))) (by rfl))
      (pss_one (ps_fld (pv 0) (pv 2) (by rfl)))))))
  · exact pure_init ⟨T.cl_Rounds, T.na_Rounds_hands, T.na_Rounds_worth, T.na_Rounds_cells, T.na_Rounds_made⟩ h
set_option maxHeartbeats 8000000 in
theorem ok_mk_Rounds (T : Txt K mg D) : FnOk P w K mg base CX0 4 D.f_Rounds_init D.d_Rounds_init ["self", "hands", "cells"] (sp_rinit D.c_Rounds) := by
  have G_Rounds__Store_init : FnOk P w K mg base CX0 3 D.f_Store_init D.d_Store_init ["self", "hands", "cells"] (sp_init D.c_Rounds) := ok_Rounds__Store_init T
  refine T.F_Rounds_init.ok sc_Rounds_init (fun vs H Q E h => ?_) (fun cdv A outer s H vs Q E hr h => ⟨t_Rounds_init K D.c_Store (sp_init D.c_Rounds), ?_, ?_⟩)
  · first | (obtain ⟨_, rfl, _⟩ := h; rfl; done) | (obtain ⟨_, _, rfl, _⟩ := h; rfl; done) | (obtain ⟨_, _, _, rfl, _⟩ := h; rfl; done) | (obtain ⟨_, _, _, _, rfl, _⟩ := h; rfl; done) | (obtain ⟨_, _, _, _, _, rfl, _⟩ := h; rfl; done) | (obtain ⟨_, _, _, _, _, _, rfl, _⟩ := h; rfl; done) | (obtain ⟨_, _, _, _, _, _, _, rfl, _⟩ := h; rfl; done) | (obtain ⟨_, _, _, _, _, _, _, _, rfl, _⟩ := h; rfl; done) | (obtain ⟨_, _, _, _, _, _, _, _, _, rfl, _⟩ := h; rfl; done) | (obtain ⟨_, _, _, _, _, _, _, _, _, _, rfl, _⟩ := h; rfl; done) | (obtain ⟨_, _, _, _, _, _, _, _, _, _, _, rfl, _⟩ := h; rfl; done) | (obtain ⟨_, _, _, _, _, _, _, _, _, _, _, _, rfl, _⟩ := h; rfl; done) | (obtain ⟨_, _, _, _, _, _, _, _, _, _, _, _, _, rfl, _⟩ := h; rfl; done) | (obtain ⟨_, _, _, _, _, _, _, _, _, _, _, _, _, _, rfl, _⟩ := h; rfl; done) | (obtain ⟨_, _, _, _, _, _, _, _, _, _, _, _, _, _, _, rfl, _⟩ := h; rfl; done) | ((rcases h with h | h) <;> (first | (obtain ⟨_, rfl, _⟩ := h; rfl) | (obtain ⟨_, _, rfl, _⟩ := h; rfl) | (obtain ⟨_, _, _, rfl, _⟩ := h; rfl) | (obtain ⟨_, _, _, _, rfl, _⟩ := h; rfl) | (obtain ⟨_, _, _, _, _, rfl, _⟩ := h; rfl) | (obtain ⟨_, _, _, _, _, _, rfl, _⟩ := h; rfl) | (obtain ⟨_, _, _, _, _, _, _, rfl, _⟩ := h; rfl) | (obtain ⟨_, _, _, _, _, _, _, _, rfl, _⟩ := h; rfl) | (obtain ⟨_, _, _, _, _, _, _, _, _, rfl, _⟩ := h; rfl) | (obtain ⟨_, _, _, _, _, _, _, _, _, _, rfl, _⟩ := h; rfl) | (obtain ⟨_, _, _, _, _, _, _, _, _, _, _, rfl, _⟩ := h; rfl) | (obtain ⟨_, _, _, _, _, _, _, _, _, _, _, _, rfl, _⟩ := h; rfl) | (obtain ⟨_, _, _, _, _, _, _, _, _, _, _, _, _, rfl, _⟩ := h; rfl) | (obtain ⟨_, _, _, _, _, _, _, _, _, _, _, _, _, _, rfl, _⟩ := h; rfl) | (obtain ⟨_, _, _, _, _, _, _, _, _, _, _, _, _, _, _, rfl, _⟩ := h; rfl)))
  · have hu := hu_of hr
    exact pss_cons (ps_expr (pe_cfn (pe_glob (by rfl) T.g_Store rfl) T.cf_Store_init G_Rounds__Store_init (hr.mono (by decide)) T.b_Store_init .nil pass0 (pa_cons (pv 0) (pa_cons (pv 1) (pa_cons (pv 2) (pa_nil))))))
      (pss_cons (ps_fld (pv 0) (pe_int) (by rfl))
      (pss_cons (ps_fld (pv 0) (pe_dnewK) (by rfl))
      (pss_cons (ps_fld (pv 0) (pe_dnewK) (by rfl))
      (pss_one (ps_fld (pv 0) (pe_dnewK) (by rfl))))))
  · exact pure_rinit ⟨⟨T.cl_Rounds, T.na_Rounds_hands, T.na_Rounds_worth, T.na_Rounds_cells, T.na_Rounds_made⟩, T.na_Rounds_era, T.na_Rounds_inside, T.na_Rounds_saw, T.na_Rounds_waits⟩ h
set_option maxHeartbeats 8000000 in
theorem ok_mk_Store (T : Txt K mg D) : FnOk P w K mg base CX0 3 D.f_Store_init D.d_Store_init ["self", "hands", "cells"] (sp_init D.c_Store) := by
  have G_look_number : FnOk P w K mg base CX0 2 D.f_look_number D.d_look_number ["thing", "low", "high"] (sp_look_number) := ok_look_number T
  refine T.F_Store_init.ok sc_Store_init (fun vs H Q E h => ?_) (fun cdv A outer s H vs Q E hr h => ⟨t_Store_init K (sp_look_number), ?_, ?_⟩)
  · first | (obtain ⟨_, rfl, _⟩ := h; rfl; done) | (obtain ⟨_, _, rfl, _⟩ := h; rfl; done) | (obtain ⟨_, _, _, rfl, _⟩ := h; rfl; done) | (obtain ⟨_, _, _, _, rfl, _⟩ := h; rfl; done) | (obtain ⟨_, _, _, _, _, rfl, _⟩ := h; rfl; done) | (obtain ⟨_, _, _, _, _, _, rfl, _⟩ := h; rfl; done) | (obtain ⟨_, _, _, _, _, _, _, rfl, _⟩ := h; rfl; done) | (obtain ⟨_, _, _, _, _, _, _, _, rfl, _⟩ := h; rfl; done) | (obtain ⟨_, _, _, _, _, _, _, _, _, rfl, _⟩ := h; rfl; done) | (obtain ⟨_, _, _, _, _, _, _, _, _, _, rfl, _⟩ := h; rfl; done) | (obtain ⟨_, _, _, _, _, _, _, _, _, _, _, rfl, _⟩ := h; rfl; done) | (obtain ⟨_, _, _, _, _, _, _, _, _, _, _, _, rfl, _⟩ := h; rfl; done) | (obtain ⟨_, _, _, _, _, _, _, _, _, _, _, _, _, rfl, _⟩ := h; rfl; done) | (obtain ⟨_, _, _, _, _, _, _, _, _, _, _, _, _, _, rfl, _⟩ := h; rfl; done) | (obtain ⟨_, _, _, _, _, _, _, _, _, _, _, _, _, _, _, rfl, _⟩ := h; rfl; done) | ((rcases h with h | h) <;> (first | (obtain ⟨_, rfl, _⟩ := h; rfl) | (obtain ⟨_, _, rfl, _⟩ := h; rfl) | (obtain ⟨_, _, _, rfl, _⟩ := h; rfl) | (obtain ⟨_, _, _, _, rfl, _⟩ := h; rfl) | (obtain ⟨_, _, _, _, _, rfl, _⟩ := h; rfl) | (obtain ⟨_, _, _, _, _, _, rfl, _⟩ := h; rfl) | (obtain ⟨_, _, _, _, _, _, _, rfl, _⟩ := h; rfl) | (obtain ⟨_, _, _, _, _, _, _, _, rfl, _⟩ := h; rfl) | (obtain ⟨_, _, _, _, _, _, _, _, _, rfl, _⟩ := h; rfl) | (obtain ⟨_, _, _, _, _, _, _, _, _, _, rfl, _⟩ := h; rfl) | (obtain ⟨_, _, _, _, _, _, _, _, _, _, _, rfl, _⟩ := h; rfl) | (obtain ⟨_, _, _, _, _, _, _, _, _, _, _, _, rfl, _⟩ := h; rfl) | (obtain ⟨_, _, _, _, _, _, _, _, _, _, _, _, _, rfl, _⟩ := h; rfl) | (obtain ⟨_, _, _, _, _, _, _, _, _, _, _, _, _, _, rfl, _⟩ := h; rfl) | (obtain ⟨_, _, _, _, _, _, _, _, _, _, _, _, _, _, _, rfl, _⟩ := h; rfl)))
  · have hu := hu_of hr
    exact pss_cons (ps_expr (pe_call G_look_number (hr.mono (by decide)) (by rfl) T.g_look_number T.F_look_number.kp T.b_look_number .nil pass0 (pa_cons (pv 1) (pa_cons (pe_int) (pa_cons (pe_glob (by rfl) T.k_MOST_HANDS ⟨_, rfl⟩) (pa_nil))))))
      (pss_cons (ps_expr (pe_call G_look_number (hr.mono (by decide)) (by rfl) T.g_look_number T.F_look_number.kp T.b_look_number .nil pass0 (pa_cons (pv 2) (pa_cons (pe_int) (pa_cons (pe_glob (by rfl) T.k_MOST_CELLS ⟨_, rfl⟩) (pa_nil))))))
      (pss_cons (ps_fld (pv 0) (pv 1) (by rfl))
      (pss_cons (ps_fld (pv 0) (pe_callTy (call_dictPr rfl) (by rfl) T.m_dict (by decide +kernel) (pa_cons (pe_lc (own := [("thing", 3)]) (by rfl) sc_Store_init.nd (pi_range1 (by rfl) T.m_range (pa_cons (pv 2) (pa_nil))) (blkOk_by (own := [("thing", 3)]) (N := ["self", "hands", "cells", "thing"]) (sc := defScope s_Store_init) (by decide +kernel)) (fun _ _ _ _ _ => pg_name (i := 3) sc_Store_init.nd rfl (by first | exact Or.inl rfl | exact Or.inr rfl)) (fun _ _ _ _ _ => pts_nil) (fun _ _ _ _ _ => pe_tup (pa_cons (pv 3) (pa_cons (pe_int) (pa_nil))))) (pa_nil))) (by rfl))
      (pss_cons (ps_fld (pv 0) (pe_listRg rfl (by rfl) T.m_list (prg_1 (by rfl) T.m_range (pv 2))) (by rfl))
      (pss_one (ps_fld (pv 0) (pv 2) (by rfl)))))))
  · exact pure_init ⟨T.cl_Store, T.na_Store_hands, T.na_Store_worth, T.na_Store_cells, T.na_Store_made⟩ h
set_option maxHeartbeats 8000000 in
theorem okr_is_whole (T : Txt K mg D) : FnOk P w K mg base (L2.CX P w) 1 D.f_is_whole D.d_is_whole ["thing", "low", "high"] (sr_is_whole) := by
  refine T.F_is_whole.okX sc_is_whole (fun vs H Q E h => ?_) (fun cdv A outer s H vs Q E hr h => ⟨tr_is_whole K E, ?_, ?_⟩)
  · first | (obtain ⟨_, rfl, _⟩ := h; rfl; done) | (obtain ⟨_, _, rfl, _⟩ := h; rfl; done) | (obtain ⟨_, _, _, rfl, _⟩ := h; rfl; done) | (obtain ⟨_, _, _, _, rfl, _⟩ := h; rfl; done) | (obtain ⟨_, _, _, _, _, rfl, _⟩ := h; rfl; done) | (obtain ⟨_, _, _, _, _, _, rfl, _⟩ := h; rfl; done) | (obtain ⟨_, _, _, _, _, _, _, rfl, _⟩ := h; rfl; done) | (obtain ⟨_, _, _, _, _, _, _, _, rfl, _⟩ := h; rfl; done) | (obtain ⟨_, _, _, _, _, _, _, _, _, rfl, _⟩ := h; rfl; done) | (obtain ⟨_, _, _, _, _, _, _, _, _, _, rfl, _⟩ := h; rfl; done) | (obtain ⟨_, _, _, _, _, _, _, _, _, _, _, rfl, _⟩ := h; rfl; done) | (obtain ⟨_, _, _, _, _, _, _, _, _, _, _, _, rfl, _⟩ := h; rfl; done) | (obtain ⟨_, _, _, _, _, _, _, _, _, _, _, _, _, rfl, _⟩ := h; rfl; done) | (obtain ⟨_, _, _, _, _, _, _, _, _, _, _, _, _, _, rfl, _⟩ := h; rfl; done) | (obtain ⟨_, _, _, _, _, _, _, _, _, _, _, _, _, _, _, rfl, _⟩ := h; rfl; done) | ((rcases h with h | h) <;> (first | (obtain ⟨_, rfl, _⟩ := h; rfl) | (obtain ⟨_, _, rfl, _⟩ := h; rfl) | (obtain ⟨_, _, _, rfl, _⟩ := h; rfl) | (obtain ⟨_, _, _, _, rfl, _⟩ := h; rfl) | (obtain ⟨_, _, _, _, _, rfl, _⟩ := h; rfl) | (obtain ⟨_, _, _, _, _, _, rfl, _⟩ := h; rfl) | (obtain ⟨_, _, _, _, _, _, _, rfl, _⟩ := h; rfl) | (obtain ⟨_, _, _, _, _, _, _, _, rfl, _⟩ := h; rfl) | (obtain ⟨_, _, _, _, _, _, _, _, _, rfl, _⟩ := h; rfl) | (obtain ⟨_, _, _, _, _, _, _, _, _, _, rfl, _⟩ := h; rfl) | (obtain ⟨_, _, _, _, _, _, _, _, _, _, _, rfl, _⟩ := h; rfl) | (obtain ⟨_, _, _, _, _, _, _, _, _, _, _, _, rfl, _⟩ := h; rfl) | (obtain ⟨_, _, _, _, _, _, _, _, _, _, _, _, _, rfl, _⟩ := h; rfl) | (obtain ⟨_, _, _, _, _, _, _, _, _, _, _, _, _, _, rfl, _⟩ := h; rfl) | (obtain ⟨_, _, _, _, _, _, _, _, _, _, _, _, _, _, _, rfl, _⟩ := h; rfl)))
  · have hu := hu_of hr
    exact pss_one (ps_ret (pe_and (pe_callB call_isi (by rfl) T.m_isinstance (by decide +kernel) (pa_cons (pv 0) (pa_cons (pe_bltn (v := .ty "int") (by rfl) T.m_int (by decide +kernel) rfl) (pa_nil)))) (pe_and (pe_not (pe_callB call_isi (by rfl) T.m_isinstance (by decide +kernel) (pa_cons (pv 0) (pa_cons (pe_bltn (v := .ty "bool") (by rfl) T.m_bool (by decide +kernel) rfl) (pa_nil))))) (pe_one (pe_chain op_leI op_leI (pv 1) (pv 0) (pv 2))))))
  · exact purer_is_whole h
set_option maxHeartbeats 8000000 in
theorem okr_look_number (T : Txt K mg D) : FnOk P w K mg base (L2.CX P w) 2 D.f_look_number D.d_look_number ["thing", "low", "high"] (sr_look_number D.c_BadNumber) := by
  have GR_is_whole : FnOk P w K mg base (L2.CX P w) 1 D.f_is_whole D.d_is_whole ["thing", "low", "high"] (spOr (sp_is_whole) (sr_is_whole)) := fn_or (fn_up (ok_is_whole T)) (okr_is_whole T)
  refine T.F_look_number.okX sc_look_number (fun vs H Q E h => ?_) (fun cdv A outer s H vs Q E hr h => ⟨tr_look_number K D.c_BadNumber (spOr (sp_is_whole) (sr_is_whole)) E, ?_, ?_⟩)
  · first | (obtain ⟨_, rfl, _⟩ := h; rfl; done) | (obtain ⟨_, _, rfl, _⟩ := h; rfl; done) | (obtain ⟨_, _, _, rfl, _⟩ := h; rfl; done) | (obtain ⟨_, _, _, _, rfl, _⟩ := h; rfl; done) | (obtain ⟨_, _, _, _, _, rfl, _⟩ := h; rfl; done) | (obtain ⟨_, _, _, _, _, _, rfl, _⟩ := h; rfl; done) | (obtain ⟨_, _, _, _, _, _, _, rfl, _⟩ := h; rfl; done) | (obtain ⟨_, _, _, _, _, _, _, _, rfl, _⟩ := h; rfl; done) | (obtain ⟨_, _, _, _, _, _, _, _, _, rfl, _⟩ := h; rfl; done) | (obtain ⟨_, _, _, _, _, _, _, _, _, _, rfl, _⟩ := h; rfl; done) | (obtain ⟨_, _, _, _, _, _, _, _, _, _, _, rfl, _⟩ := h; rfl; done) | (obtain ⟨_, _, _, _, _, _, _, _, _, _, _, _, rfl, _⟩ := h; rfl; done) | (obtain ⟨_, _, _, _, _, _, _, _, _, _, _, _, _, rfl, _⟩ := h; rfl; done) | (obtain ⟨_, _, _, _, _, _, _, _, _, _, _, _, _, _, rfl, _⟩ := h; rfl; done) | (obtain ⟨_, _, _, _, _, _, _, _, _, _, _, _, _, _, _, rfl, _⟩ := h; rfl; done) | ((rcases h with h | h) <;> (first | (obtain ⟨_, rfl, _⟩ := h; rfl) | (obtain ⟨_, _, rfl, _⟩ := h; rfl) | (obtain ⟨_, _, _, rfl, _⟩ := h; rfl) | (obtain ⟨_, _, _, _, rfl, _⟩ := h; rfl) | (obtain ⟨_, _, _, _, _, rfl, _⟩ := h; rfl) | (obtain ⟨_, _, _, _, _, _, rfl, _⟩ := h; rfl) | (obtain ⟨_, _, _, _, _, _, _, rfl, _⟩ := h; rfl) | (obtain ⟨_, _, _, _, _, _, _, _, rfl, _⟩ := h; rfl) | (obtain ⟨_, _, _, _, _, _, _, _, _, rfl, _⟩ := h; rfl) | (obtain ⟨_, _, _, _, _, _, _, _, _, _, rfl, _⟩ := h; rfl) | (obtain ⟨_, _, _, _, _, _, _, _, _, _, _, rfl, _⟩ := h; rfl) | (obtain ⟨_, _, _, _, _, _, _, _, _, _, _, _, rfl, _⟩ := h; rfl) | (obtain ⟨_, _, _, _, _, _, _, _, _, _, _, _, _, rfl, _⟩ := h; rfl) | (obtain ⟨_, _, _, _, _, _, _, _, _, _, _, _, _, _, rfl, _⟩ := h; rfl) | (obtain ⟨_, _, _, _, _, _, _, _, _, _, _, _, _, _, _, rfl, _⟩ := h; rfl)))
  · have hu := hu_of hr
    exact pss_one (ps_if (pt_not (pt_val (pe_call GR_is_whole (hr.mono (by decide)) (by rfl) T.g_is_whole T.F_is_whole.kp T.b_is_whole .nil (passes_call (takes_of rfl rfl rfl rfl) fun _ _ _ _ h => h) (pa_cons (pv 0) (pa_cons (pv 1) (pa_cons (pv 2) (pa_nil))))))) (pss_one (ps_raise rfl (takes_of rfl rfl rfl rfl) (pmk_own PySem.F.excBase_ValueError T.xi_BadNumber T.g_BadNumber T.kp_BadNumber (raises_own T.sb_BadNumber T.ty_BadNumber) (by rfl)))) (pss_nil))
  · exact purer_look_number h
set_option maxHeartbeats 8000000 in
theorem okr_mk_Store (T : Txt K mg D) : FnOk P w K mg base (L2.CX P w) 3 D.f_Store_init D.d_Store_init ["self", "hands", "cells"] (sr_init D.c_Store (Exs.mk D.c_BadNumber D.c_NoHand D.c_NoCell D.c_NoMark D.c_IsIn D.c_NotIn D.c_NotHeld D.c_Gone D.c_BadPairs D.c_NotNow D.c_StoreError)) := by
  have GR_look_number : FnOk P w K mg base (L2.CX P w) 2 D.f_look_number D.d_look_number ["thing", "low", "high"] (spOr (sp_look_number) (sr_look_number D.c_BadNumber)) := fn_or (fn_up (ok_look_number T)) (okr_look_number T)
  refine T.F_Store_init.okX sc_Store_init (fun vs H Q E h => ?_) (fun cdv A outer s H vs Q E hr h => ⟨tr_Store_init K (spOr (sp_look_number) (sr_look_number D.c_BadNumber)) E, ?_, ?_⟩)
  · first | (obtain ⟨_, rfl, _⟩ := h; rfl; done) | (obtain ⟨_, _, rfl, _⟩ := h; rfl; done) | (obtain ⟨_, _, _, rfl, _⟩ := h; rfl; done) | (obtain ⟨_, _, _, _, rfl, _⟩ := h; rfl; done) | (obtain ⟨_, _, _, _, _, rfl, _⟩ := h; rfl; done) | (obtain ⟨_, _, _, _, _, _, rfl, _⟩ := h; rfl; done) | (obtain ⟨_, _, _, _, _, _, _, rfl, _⟩ := h; rfl; done) | (obtain ⟨_, _, _, _, _, _, _, _, rfl, _⟩ := h; rfl; done) | (obtain ⟨_, _, _, _, _, _, _, _, _, rfl, _⟩ := h; rfl; done) | (obtain ⟨_, _, _, _, _, _, _, _, _, _, rfl, _⟩ := h; rfl; done) | (obtain ⟨_, _, _, _, _, _, _, _, _, _, _, rfl, _⟩ := h; rfl; done) | (obtain ⟨_, _, _, _, _, _, _, _, _, _, _, _, rfl, _⟩ := h; rfl; done) | (obtain ⟨_, _, _, _, _, _, _, _, _, _, _, _, _, rfl, _⟩ := h; rfl; done) | (obtain ⟨_, _, _, _, _, _, _, _, _, _, _, _, _, _, rfl, _⟩ := h; rfl; done) | (obtain ⟨_, _, _, _, _, _, _, _, _, _, _, _, _, _, _, rfl, _⟩ := h; rfl; done) | ((rcases h with h | h) <;> (first | (obtain ⟨_, rfl, _⟩ := h; rfl) | (obtain ⟨_, _, rfl, _⟩ := h; rfl) | (obtain ⟨_, _, _, rfl, _⟩ := h; rfl) | (obtain ⟨_, _, _, _, rfl, _⟩ := h; rfl) | (obtain ⟨_, _, _, _, _, rfl, _⟩ := h; rfl) | (obtain ⟨_, _, _, _, _, _, rfl, _⟩ := h; rfl) | (obtain ⟨_, _, _, _, _, _, _, rfl, _⟩ := h; rfl) | (obtain ⟨_, _, _, _, _, _, _, _, rfl, _⟩ := h; rfl) | (obtain ⟨_, _, _, _, _, _, _, _, _, rfl, _⟩ := h; rfl) | (obtain ⟨_, _, _, _, _, _, _, _, _, _, rfl, _⟩ := h; rfl) | (obtain ⟨_, _, _, _, _, _, _, _, _, _, _, rfl, _⟩ := h; rfl) | (obtain ⟨_, _, _, _, _, _, _, _, _, _, _, _, rfl, _⟩ := h; rfl) | (obtain ⟨_, _, _, _, _, _, _, _, _, _, _, _, _, rfl, _⟩ := h; rfl) | (obtain ⟨_, _, _, _, _, _, _, _, _, _, _, _, _, _, rfl, _⟩ := h; rfl) | (obtain ⟨_, _, _, _, _, _, _, _, _, _, _, _, _, _, _, rfl, _⟩ := h; rfl)))
  · have hu := hu_of hr
    exact pss_cons (ps_expr (pe_call GR_look_number (hr.mono (by decide)) (by rfl) T.g_look_number T.F_look_number.kp T.b_look_number .nil (passes_call (takes_of rfl rfl rfl rfl) fun _ _ _ _ h => h) (pa_cons (pv 1) (pa_cons (pe_int) (pa_cons (pe_glob (by rfl) T.k_MOST_HANDS ⟨_, rfl⟩) (pa_nil))))))
      (pss_cons (ps_expr (pe_call GR_look_number (hr.mono (by decide)) (by rfl) T.g_look_number T.F_look_number.kp T.b_look_number .nil (passes_call (takes_of rfl rfl rfl rfl) fun _ _ _ _ h => h) (pa_cons (pv 2) (pa_cons (pe_int) (pa_cons (pe_glob (by rfl) T.k_MOST_CELLS ⟨_, rfl⟩) (pa_nil))))))
      (pss_cons (ps_fld (pv 0) (pv 1) (by rfl))
      (pss_cons (ps_fld (pv 0) (pe_callTy (call_dictPr rfl) (by rfl) T.m_dict (by decide +kernel) (pa_cons (pe_lc (own := [("thing", 3)]) (by rfl) sc_Store_init.nd (pi_range1 (by rfl) T.m_range (pa_cons (pv 2) (pa_nil))) (blkOk_by (own := [("thing", 3)]) (N := ["self", "hands", "cells", "thing"]) (sc := defScope s_Store_init) (by decide +kernel)) (fun _ _ _ _ _ => pg_name (i := 3) sc_Store_init.nd rfl (by first | exact Or.inl rfl | exact Or.inr rfl)) (fun _ _ _ _ _ => pts_nil) (fun _ _ _ _ _ => pe_tup (pa_cons (pv 3) (pa_cons (pe_int) (pa_nil))))) (pa_nil))) (by rfl))
      (pss_cons (ps_fld (pv 0) (pe_listRg rfl (by rfl) T.m_list (prg_1 (by rfl) T.m_range (pv 2))) (by rfl))
      (pss_one (ps_fld (pv 0) (pv 2) (by rfl)))))))
  · exact purer_init (X := (Exs.mk D.c_BadNumber D.c_NoHand D.c_NoCell D.c_NoMark D.c_IsIn D.c_NotIn D.c_NotHeld D.c_Gone D.c_BadPairs D.c_NotNow D.c_StoreError)) h
set_option maxHeartbeats 8000000 in
theorem okr_Marks__Store_init (T : Txt K mg D) : FnOk P w K mg base (L2.CX P w) 3 D.f_Store_init D.d_Store_init ["self", "hands", "cells"] (sr_init D.c_Marks (Exs.mk D.c_BadNumber D.c_NoHand D.c_NoCell D.c_NoMark D.c_IsIn D.c_NotIn D.c_NotHeld D.c_Gone D.c_BadPairs D.c_NotNow D.c_StoreError)) := by
  have GR_look_number : FnOk P w K mg base (L2.CX P w) 2 D.f_look_number D.d_look_number ["thing", "low", "high"] (spOr (sp_look_number) (sr_look_number D.c_BadNumber)) := fn_or (fn_up (ok_look_number T)) (okr_look_number T)
  refine T.F_Store_init.okX sc_Store_init (fun vs H Q E h => ?_) (fun cdv A outer s H vs Q E hr h => ⟨tr_Store_init K (spOr (sp_look_number) (sr_look_number D.c_BadNumber)) E, ?_, ?_⟩)
  · first | (obtain ⟨_, rfl, _⟩ := h; rfl; done) | (obtain ⟨_, _, rfl, _⟩ := h; rfl; done) | (obtain ⟨_, _, _, rfl, _⟩ := h; rfl; done) | (obtain ⟨_, _, _, _, rfl, _⟩ := h; rfl; done) | (obtain ⟨_, _, _, _, _, rfl, _⟩ := h; rfl; done) | (obtain ⟨_, _, _, _, _, _, rfl, _⟩ := h; rfl; done) | (obtain ⟨_, _, _, _, _, _, _, rfl, _⟩ := h; rfl; done) | (obtain ⟨_, _, _, _, _, _, _, _, rfl, _⟩ := h; rfl; done) | (obtain ⟨_, _, _, _, _, _, _, _, _, rfl, _⟩ := h; rfl; done) | (obtain ⟨_, _, _, _, _, _, _, _, _, _, rfl, _⟩ := h; rfl; done) | (obtain ⟨_, _, _, _, _, _, _, _, _, _, _, rfl, _⟩ := h; rfl; done) | (obtain ⟨_, _, _, _, _, _, _, _, _, _, _, _, rfl, _⟩ := h; rfl; done) | (obtain ⟨_, _, _, _, _, _, _, _, _, _, _, _, _, rfl, _⟩ := h; rfl; done) | (obtain ⟨_, _, _, _, _, _, _, _, _, _, _, _, _, _, rfl, _⟩ := h; rfl; done) | (obtain ⟨_, _, _, _, _, _, _, _, _, _, _, _, _, _, _, rfl, _⟩ := h; rfl; done) | ((rcases h with h | h) <;> (first | (obtain ⟨_, rfl, _⟩ := h; rfl) | (obtain ⟨_, _, rfl, _⟩ := h; rfl) | (obtain ⟨_, _, _, rfl, _⟩ := h; rfl) | (obtain ⟨_, _, _, _, rfl, _⟩ := h; rfl) | (obtain ⟨_, _, _, _, _, rfl, _⟩ := h; rfl) | (obtain ⟨_, _, _, _, _, _, rfl, _⟩ := h; rfl) | (obtain ⟨_, _, _, _, _, _, _, rfl, _⟩ := h; rfl) | (obtain ⟨_, _, _, _, _, _, _, _, rfl, _⟩ := h; rfl) | (obtain ⟨_, _, _, _, _, _, _, _, _, rfl, _⟩ := h; rfl) | (obtain ⟨_, _, _, _, _, _, _, _, _, _, rfl, _⟩ := h; rfl) | (obtain ⟨_, _, _, _, _, _, _, _, _, _, _, rfl, _⟩ := h; rfl) | (obtain ⟨_, _, _, _, _, _, _, _, _, _, _, _, rfl, _⟩ := h; rfl) | (obtain ⟨_, _, _, _, _, _, _, _, _, _, _, _, _, rfl, _⟩ := h; rfl) | (obtain ⟨_, _, _, _, _, _, _, _, _, _, _, _, _, _, rfl, _⟩ := h; rfl) | (obtain ⟨_, _, _, _, _, _, _, _, _, _, _, _, _, _, _, rfl, _⟩ := h; rfl)))
  · have hu := hu_of hr
    exact pss_cons (ps_expr (pe_call GR_look_number (hr.mono (by decide)) (by rfl) T.g_look_number T.F_look_number.kp T.b_look_number .nil (passes_call (takes_of rfl rfl rfl rfl) fun _ _ _ _ h => h) (pa_cons (pv 1) (pa_cons (pe_int) (pa_cons (pe_glob (by rfl) T.k_MOST_HANDS ⟨_, rfl⟩) (pa_nil))))))
      (pss_cons (ps_expr (pe_call GR_look_number (hr.mono (by decide)) (by rfl) T.g_look_number T.F_look_number.kp T.b_look_number .nil (passes_call (takes_of rfl rfl rfl rfl) fun _ _ _ _ h => h) (pa_cons (pv 2) (pa_cons (pe_int) (pa_cons (pe_glob (by rfl) T.k_MOST_CELLS ⟨_, rfl⟩) (pa_nil))))))
      (pss_cons (ps_fld (pv 0) (pv 1) (by rfl))
      (pss_cons (ps_fld (pv 0) (pe_callTy (call_dictPr rfl) (by rfl) T.m_dict (by decide +kernel) (pa_cons (pe_lc (own := [("thing", 3)]) (by rfl) sc_Store_init.nd (pi_range1 (by rfl) T.m_range (pa_cons (pv 2) (pa_nil))) (blkOk_by (own := [("thing", 3)]) (N := ["self", "hands", "cells", "thing"]) (sc := defScope s_Store_init) (by decide +kernel)) (fun _ _ _ _ _ => pg_name (i := 3) sc_Store_init.nd rfl (by first | exact Or.inl rfl | exact Or.inr rfl)) (fun _ _ _ _ _ => pts_nil) (fun _ _ _ _ _ => pe_tup (pa_cons (pv 3) (pa_cons (pe_int) (pa_nil))))) (pa_nil))) (by rfl))
      (pss_cons (ps_fld (pv 0) (pe_listRg rfl (by rfl) T.m_list (prg_1 (by rfl) T.m_range (pv 2))) (by rfl))
      (pss_one (ps_fld (pv 0) (pv 2) (by rfl)))))))
  · exact purer_init (X := (Exs.mk D.c_BadNumber D.c_NoHand D.c_NoCell D.c_NoMark D.c_IsIn D.c_NotIn D.c_NotHeld D.c_Gone D.c_BadPairs D.c_NotNow D.c_StoreError)) h
set_option maxHeartbeats 8000000 in
theorem okr_mk_Marks (T : Txt K mg D) : FnOk P w K mg base (L2.CX P w) 4 D.f_Marks_init D.d_Marks_init ["self", "hands", "cells"] (sr_minit D.c_Marks (Exs.mk D.c_BadNumber D.c_NoHand D.c_NoCell D.c_NoMark D.c_IsIn D.c_NotIn D.c_NotHeld D.c_Gone D.c_BadPairs D.c_NotNow D.c_StoreError)) := by
  have GR_Marks__Store_init : FnOk P w K mg base (L2.CX P w) 3 D.f_Store_init D.d_Store_init ["self", "hands", "cells"] (spOr (sp_init D.c_Marks) (sr_init D.c_Marks (Exs.mk D.c_BadNumber D.c_NoHand D.c_NoCell D.c_NoMark D.c_IsIn D.c_NotIn D.c_NotHeld D.c_Gone D.c_BadPairs D.c_NotNow D.c_StoreError))) := fn_or (fn_up (ok_Marks__Store_init T)) (okr_Marks__Store_init T)
  refine T.F_Marks_init.okX sc_Marks_init (fun vs H Q E h => ?_) (fun cdv A outer s H vs Q E hr h => ⟨tr_Marks_init K D.c_Store (spOr (sp_init D.c_Marks) (sr_init D.c_Marks (Exs.mk D.c_BadNumber D.c_NoHand D.c_NoCell D.c_NoMark D.c_IsIn D.c_NotIn D.c_NotHeld D.c_Gone D.c_BadPairs D.c_NotNow D.c_StoreError))) E, ?_, ?_⟩)
  · first | (obtain ⟨_, rfl, _⟩ := h; rfl; done) | (obtain ⟨_, _, rfl, _⟩ := h; rfl; done) | (obtain ⟨_, _, _, rfl, _⟩ := h; rfl; done) | (obtain ⟨_, _, _, _, rfl, _⟩ := h; rfl; done) | (obtain ⟨_, _, _, _, _, rfl, _⟩ := h; rfl; done) | (obtain ⟨_, _, _, _, _, _, rfl, _⟩ := h; rfl; done) | (obtain ⟨_, _, _, _, _, _, _, rfl, _⟩ := h; rfl; done) | (obtain ⟨_, _, _, _, _, _, _, _, rfl, _⟩ := h; rfl; done) | (obtain ⟨_, _, _, _, _, _, _, _, _, rfl, _⟩ := h; rfl; done) | (obtain ⟨_, _, _, _, _, _, _, _, _, _, rfl, _⟩ := h; rfl; done) | (obtain ⟨_, _, _, _, _, _, _, _, _, _, _, rfl, _⟩ := h; rfl; done) | (obtain ⟨_, _, _, _, _, _, _, _, _, _, _, _, rfl, _⟩ := h; rfl; done) | (obtain ⟨_, _, _, _, _, _, _, _, _, _, _, _, _, rfl, _⟩ := h; rfl; done) | (obtain ⟨_, _, _, _, _, _, _, _, _, _, _, _, _, _, rfl, _⟩ := h; rfl; done) | (obtain ⟨_, _, _, _, _, _, _, _, _, _, _, _, _, _, _, rfl, _⟩ := h; rfl; done) | ((rcases h with h | h) <;> (first | (obtain ⟨_, rfl, _⟩ := h; rfl) | (obtain ⟨_, _, rfl, _⟩ := h; rfl) | (obtain ⟨_, _, _, rfl, _⟩ := h; rfl) | (obtain ⟨_, _, _, _, rfl, _⟩ := h; rfl) | (obtain ⟨_, _, _, _, _, rfl, _⟩ := h; rfl) | (obtain ⟨_, _, _, _, _, _, rfl, _⟩ := h; rfl) | (obtain ⟨_, _, _, _, _, _, _, rfl, _⟩ := h; rfl) | (obtain ⟨_, _, _, _, _, _, _, _, rfl, _⟩ := h; rfl) | (obtain ⟨_, _, _, _, _, _, _, _, _, rfl, _⟩ := h; rfl) | (obtain ⟨_, _, _, _, _, _, _, _, _, _, rfl, _⟩ := h; rfl) | (obtain ⟨_, _, _, _, _, _, _, _, _, _, _, rfl, _⟩ := h; rfl) | (obtain ⟨_, _, _, _, _, _, _, _, _, _, _, _, rfl, _⟩ := h; rfl) | (obtain ⟨_, _, _, _, _, _, _, _, _, _, _, _, _, rfl, _⟩ := h; rfl) | (obtain ⟨_, _, _, _, _, _, _, _, _, _, _, _, _, _, rfl, _⟩ := h; rfl) | (obtain ⟨_, _, _, _, _, _, _, _, _, _, _, _, _, _, _, rfl, _⟩ := h; rfl)))
  · have hu := hu_of hr
    exact pss_cons (ps_expr (pe_cfn (pe_glob (by rfl) T.g_Store rfl) T.cf_Store_init GR_Marks__Store_init (hr.mono (by decide)) T.b_Store_init .nil (passes_call (takes_of rfl rfl rfl rfl) fun _ _ _ _ h => h) (pa_cons (pv 0) (pa_cons (pv 1) (pa_cons (pv 2) (pa_nil))))))
      (pss_cons (ps_fld (pv 0) (pe_dnewT) (by rfl))
      (pss_one (ps_fld (pv 0) (pe_lst (pa_nil)) (by rfl))))
  · exact purer_minit (X := (Exs.mk D.c_BadNumber D.c_NoHand D.c_NoCell D.c_NoMark D.c_IsIn D.c_NotIn D.c_NotHeld D.c_Gone D.c_BadPairs D.c_NotNow D.c_StoreError)) h
set_option maxHeartbeats 8000000 in
theorem ok_Store__Store_look_cell (T : Txt K mg D) : FnOk P w K mg base CX0 2 D.f_Store_look_cell D.d_Store_look_cell ["self", "cell"] (sp_look_cell D.c_Store) := by
  have G_is_whole : FnOk P w K mg base CX0 1 D.f_is_whole D.d_is_whole ["thing", "low", "high"] (sp_is_whole) := ok_is_whole T
  refine T.F_Store_look_cell.ok sc_Store_look_cell (fun vs H Q E h => ?_) (fun cdv A outer s H vs Q E hr h => ⟨t_Store_look_cell K (sp_is_whole), ?_, ?_⟩)
  · first | (obtain ⟨_, rfl, _⟩ := h; rfl; done) | (obtain ⟨_, _, rfl, _⟩ := h; rfl; done) | (obtain ⟨_, _, _, rfl, _⟩ := h; rfl; done) | (obtain ⟨_, _, _, _, rfl, _⟩ := h; rfl; done) | (obtain ⟨_, _, _, _, _, rfl, _⟩ := h; rfl; done) | (obtain ⟨_, _, _, _, _, _, rfl, _⟩ := h; rfl; done) | (obtain ⟨_, _, _, _, _, _, _, rfl, _⟩ := h; rfl; done) | (obtain ⟨_, _, _, _, _, _, _, _, rfl, _⟩ := h; rfl; done) | (obtain ⟨_, _, _, _, _, _, _, _, _, rfl, _⟩ := h; rfl; done) | (obtain ⟨_, _, _, _, _, _, _, _, _, _, rfl, _⟩ := h; rfl; done) | (obtain ⟨_, _, _, _, _, _, _, _, _, _, _, rfl, _⟩ := h; rfl; done) | (obtain ⟨_, _, _, _, _, _, _, _, _, _, _, _, rfl, _⟩ := h; rfl; done) | (obtain ⟨_, _, _, _, _, _, _, _, _, _, _, _, _, rfl, _⟩ := h; rfl; done) | (obtain ⟨_, _, _, _, _, _, _, _, _, _, _, _, _, _, rfl, _⟩ := h; rfl; done) | (obtain ⟨_, _, _, _, _, _, _, _, _, _, _, _, _, _, _, rfl, _⟩ := h; rfl; done) | ((rcases h with h | h) <;> (first | (obtain ⟨_, rfl, _⟩ := h; rfl) | (obtain ⟨_, _, rfl, _⟩ := h; rfl) | (obtain ⟨_, _, _, rfl, _⟩ := h; rfl) | (obtain ⟨_, _, _, _, rfl, _⟩ := h; rfl) | (obtain ⟨_, _, _, _, _, rfl, _⟩ := h; rfl) | (obtain ⟨_, _, _, _, _, _, rfl, _⟩ := h; rfl) | (obtain ⟨_, _, _, _, _, _, _, rfl, _⟩ := h; rfl) | (obtain ⟨_, _, _, _, _, _, _, _, rfl, _⟩ := h; rfl) | (obtain ⟨_, _, _, _, _, _, _, _, _, rfl, _⟩ := h; rfl) | (obtain ⟨_, _, _, _, _, _, _, _, _, _, rfl, _⟩ := h; rfl) | (obtain ⟨_, _, _, _, _, _, _, _, _, _, _, rfl, _⟩ := h; rfl) | (obtain ⟨_, _, _, _, _, _, _, _, _, _, _, _, rfl, _⟩ := h; rfl) | (obtain ⟨_, _, _, _, _, _, _, _, _, _, _, _, _, rfl, _⟩ := h; rfl) | (obtain ⟨_, _, _, _, _, _, _, _, _, _, _, _, _, _, rfl, _⟩ := h; rfl) | (obtain ⟨_, _, _, _, _, _, _, _, _, _, _, _, _, _, _, rfl, _⟩ := h; rfl)))
  · have hu := hu_of hr
    exact pss_one (ps_if (pt_not (pt_val (pe_call G_is_whole (hr.mono (by decide)) (by rfl) T.g_is_whole T.F_is_whole.kp T.b_is_whole .nil pass0 (pa_cons (pv 1) (pa_cons (pe_int) (pa_cons (pe_op op_subI (pe_callB call_lenQ (by rfl) T.m_len PySem.boot_len (pa_cons (pe_fld (pv 0) (by rfl)) (pa_nil))) (pe_int)) (pa_nil))))))) (pss_one (ps_never)) (pss_nil))
  · exact pure_look_cell ⟨T.cl_Store, T.na_Store_hands, T.na_Store_worth, T.na_Store_cells, T.na_Store_made⟩ h
set_option maxHeartbeats 8000000 in
theorem ok_Store__Store_after_swap (T : Txt K mg D) : FnOk P w K mg base CX0 1 D.f_Store_after_swap D.d_Store_after_swap ["self", "thing"] (sp_after0) := by
  refine T.F_Store_after_swap.ok sc_Store_after_swap (fun vs H Q E h => ?_) (fun cdv A outer s H vs Q E hr h => ⟨t_Store_after_swap K, ?_, ?_⟩)
  · first | (obtain ⟨_, rfl, _⟩ := h; rfl; done) | (obtain ⟨_, _, rfl, _⟩ := h; rfl; done) | (obtain ⟨_, _, _, rfl, _⟩ := h; rfl; done) | (obtain ⟨_, _, _, _, rfl, _⟩ := h; rfl; done) | (obtain ⟨_, _, _, _, _, rfl, _⟩ := h; rfl; done) | (obtain ⟨_, _, _, _, _, _, rfl, _⟩ := h; rfl; done) | (obtain ⟨_, _, _, _, _, _, _, rfl, _⟩ := h; rfl; done) | (obtain ⟨_, _, _, _, _, _, _, _, rfl, _⟩ := h; rfl; done) | (obtain ⟨_, _, _, _, _, _, _, _, _, rfl, _⟩ := h; rfl; done) | (obtain ⟨_, _, _, _, _, _, _, _, _, _, rfl, _⟩ := h; rfl; done) | (obtain ⟨_, _, _, _, _, _, _, _, _, _, _, rfl, _⟩ := h; rfl; done) | (obtain ⟨_, _, _, _, _, _, _, _, _, _, _, _, rfl, _⟩ := h; rfl; done) | (obtain ⟨_, _, _, _, _, _, _, _, _, _, _, _, _, rfl, _⟩ := h; rfl; done) | (obtain ⟨_, _, _, _, _, _, _, _, _, _, _, _, _, _, rfl, _⟩ := h; rfl; done) | (obtain ⟨_, _, _, _, _, _, _, _, _, _, _, _, _, _, _, rfl, _⟩ := h; rfl; done) | ((rcases h with h | h) <;> (first | (obtain ⟨_, rfl, _⟩ := h; rfl) | (obtain ⟨_, _, rfl, _⟩ := h; rfl) | (obtain ⟨_, _, _, rfl, _⟩ := h; rfl) | (obtain ⟨_, _, _, _, rfl, _⟩ := h; rfl) | (obtain ⟨_, _, _, _, _, rfl, _⟩ := h; rfl) | (obtain ⟨_, _, _, _, _, _, rfl, _⟩ := h; rfl) | (obtain ⟨_, _, _, _, _, _, _, rfl, _⟩ := h; rfl) | (obtain ⟨_, _, _, _, _, _, _, _, rfl, _⟩ := h; rfl) | (obtain ⟨_, _, _, _, _, _, _, _, _, rfl, _⟩ := h; rfl) | (obtain ⟨_, _, _, _, _, _, _, _, _, _, rfl, _⟩ := h; rfl) | (obtain ⟨_, _, _, _, _, _, _, _, _, _, _, rfl, _⟩ := h; rfl) | (obtain ⟨_, _, _, _, _, _, _, _, _, _, _, _, rfl, _⟩ := h; rfl) | (obtain ⟨_, _, _, _, _, _, _, _, _, _, _, _, _, rfl, _⟩ := h; rfl) | (obtain ⟨_, _, _, _, _, _, _, _, _, _, _, _, _, _, rfl, _⟩ := h; rfl) | (obtain ⟨_, _, _, _, _, _, _, _, _, _, _, _, _, _, _, rfl, _⟩ := h; rfl)))
  · have hu := hu_of hr
    exact pss_one (ps_ret (pe_non))
  · exact pure_after0 h
set_option maxHeartbeats 8000000 in
theorem ok_Store__Store_swap (T : Txt K mg D) : FnOk P w K mg base CX0 3 D.f_Store_swap D.d_Store_swap ["self", "cell", "value"] (sp_swap D.c_Store sp_after0) := by
  have G_Store__Store_look_cell : FnOk P w K mg base CX0 2 D.f_Store_look_cell D.d_Store_look_cell ["self", "cell"] (sp_look_cell D.c_Store) := ok_Store__Store_look_cell T
  have G_look_number : FnOk P w K mg base CX0 2 D.f_look_number D.d_look_number ["thing", "low", "high"] (sp_look_number) := ok_look_number T
  have G_Store__Store_after_swap : FnOk P w K mg base CX0 1 D.f_Store_after_swap D.d_Store_after_swap ["self", "thing"] (sp_after0) := ok_Store__Store_after_swap T
  refine T.F_Store_swap.ok sc_Store_swap (fun vs H Q E h => ?_) (fun cdv A outer s H vs Q E hr h => ⟨t_Store_swap K D.c_Store (sp_look_cell D.c_Store) (sp_look_number) (sp_after0), ?_, ?_⟩)
  · first | (obtain ⟨_, rfl, _⟩ := h; rfl; done) | (obtain ⟨_, _, rfl, _⟩ := h; rfl; done) | (obtain ⟨_, _, _, rfl, _⟩ := h; rfl; done) | (obtain ⟨_, _, _, _, rfl, _⟩ := h; rfl; done) | (obtain ⟨_, _, _, _, _, rfl, _⟩ := h; rfl; done) | (obtain ⟨_, _, _, _, _, _, rfl, _⟩ := h; rfl; done) | (obtain ⟨_, _, _, _, _, _, _, rfl, _⟩ := h; rfl; done) | (obtain ⟨_, _, _, _, _, _, _, _, rfl, _⟩ := h; rfl; done) | (obtain ⟨_, _, _, _, _, _, _, _, _, rfl, _⟩ := h; rfl; done) | (obtain ⟨_, _, _, _, _, _, _, _, _, _, rfl, _⟩ := h; rfl; done) | (obtain ⟨_, _, _, _, _, _, _, _, _, _, _, rfl, _⟩ := h; rfl; done) | (obtain ⟨_, _, _, _, _, _, _, _, _, _, _, _, rfl, _⟩ := h; rfl; done) | (obtain ⟨_, _, _, _, _, _, _, _, _, _, _, _, _, rfl, _⟩ := h; rfl; done) | (obtain ⟨_, _, _, _, _, _, _, _, _, _, _, _, _, _, rfl, _⟩ := h; rfl; done) | (obtain ⟨_, _, _, _, _, _, _, _, _, _, _, _, _, _, _, rfl, _⟩ := h; rfl; done) | ((rcases h with h | h) <;> (first | (obtain ⟨_, rfl, _⟩ := h; rfl) | (obtain ⟨_, _, rfl, _⟩ := h; rfl) | (obtain ⟨_, _, _, rfl, _⟩ := h; rfl) | (obtain ⟨_, _, _, _, rfl, _⟩ := h; rfl) | (obtain ⟨_, _, _, _, _, rfl, _⟩ := h; rfl) | (obtain ⟨_, _, _, _, _, _, rfl, _⟩ := h; rfl) | (obtain ⟨_, _, _, _, _, _, _, rfl, _⟩ := h; rfl) | (obtain ⟨_, _, _, _, _, _, _, _, rfl, _⟩ := h; rfl) | (obtain ⟨_, _, _, _, _, _, _, _, _, rfl, _⟩ := h; rfl) | (obtain ⟨_, _, _, _, _, _, _, _, _, _, rfl, _⟩ := h; rfl) | (obtain ⟨_, _, _, _, _, _, _, _, _, _, _, rfl, _⟩ := h; rfl) | (obtain ⟨_, _, _, _, _, _, _, _, _, _, _, _, rfl, _⟩ := h; rfl) | (obtain ⟨_, _, _, _, _, _, _, _, _, _, _, _, _, rfl, _⟩ := h; rfl) | (obtain ⟨_, _, _, _, _, _, _, _, _, _, _, _, _, _, rfl, _⟩ := h; rfl) | (obtain ⟨_, _, _, _, _, _, _, _, _, _, _, _, _, _, _, rfl, _⟩ := h; rfl)))
  · have hu := hu_of hr
    exact pss_cons (ps_expr (pe_meth (pv 0) T.cl_Store T.me_Store_look_cell G_Store__Store_look_cell (hr.mono (by decide)) T.b_Store_look_cell .nil pass0 (pa_cons (pv 1) (pa_nil))))
      (pss_cons (ps_expr (pe_call G_look_number (hr.mono (by decide)) (by rfl) T.g_look_number T.F_look_number.kp T.b_look_number .nil pass0 (pa_cons (pv 2) (pa_cons (pe_int) (pa_cons (pe_glob (by rfl) T.k_MOST_VALUE ⟨_, rfl⟩) (pa_nil))))))
      (pss_cons (ps_set (i := 3) sc_Store_swap.nd rfl (by first | exact Or.inl rfl | exact Or.inr rfl) (pe_ix ix_list (pe_fld (pv 0) (by rfl)) (pv 1) (fun _ _ => rfl)))
      (pss_cons (ps_dput hu (pe_fld (pv 0) (by rfl)) (pe_fld (pv 0) (by rfl)) (pv 2) (by rfl))
      (pss_cons (ps_asg (pe_fld (pv 0) (by rfl)) (pg_sub (pe_fld (pv 0) (by rfl)) (pv 1) set_list))
      (pss_cons (ps_fld (pv 0) (pe_op op_addI (pe_fld (pv 0) (by rfl)) (pe_int)) (by rfl))
      (pss_cons (ps_expr (pe_meth (pv 0) T.cl_Store T.me_Store_after_swap G_Store__Store_after_swap (hr.mono (by decide)) T.b_Store_after_swap .nil pass0 (pa_cons (pv 3) (pa_nil))))
      (pss_one (ps_ret (pv 3)))))))))
  · exact pure_swap ⟨T.cl_Store, T.na_Store_hands, T.na_Store_worth, T.na_Store_cells, T.na_Store_made⟩ h
set_option maxHeartbeats 8000000 in
theorem okr_Store__Store_look_cell (T : Txt K mg D) : FnOk P w K mg base (L2.CX P w) 2 D.f_Store_look_cell D.d_Store_look_cell ["self", "cell"] (sr_look_cell D.c_Store D.c_NoCell) := by
  have GR_is_whole : FnOk P w K mg base (L2.CX P w) 1 D.f_is_whole D.d_is_whole ["thing", "low", "high"] (spOr (sp_is_whole) (sr_is_whole)) := fn_or (fn_up (ok_is_whole T)) (okr_is_whole T)
  refine T.F_Store_look_cell.okX sc_Store_look_cell (fun vs H Q E h => ?_) (fun cdv A outer s H vs Q E hr h => ⟨tr_Store_look_cell K D.c_NoCell (spOr (sp_is_whole) (sr_is_whole)) E, ?_, ?_⟩)
  · first | (obtain ⟨_, rfl, _⟩ := h; rfl; done) | (obtain ⟨_, _, rfl, _⟩ := h; rfl; done) | (obtain ⟨_, _, _, rfl, _⟩ := h; rfl; done) | (obtain ⟨_, _, _, _, rfl, _⟩ := h; rfl; done) | (obtain ⟨_, _, _, _, _, rfl, _⟩ := h; rfl; done) | (obtain ⟨_, _, _, _, _, _, rfl, _⟩ := h; rfl; done) | (obtain ⟨_, _, _, _, _, _, _, rfl, _⟩ := h; rfl; done) | (obtain ⟨_, _, _, _, _, _, _, _, rfl, _⟩ := h; rfl; done) | (obtain ⟨_, _, _, _, _, _, _, _, _, rfl, _⟩ := h; rfl; done) | (obtain ⟨_, _, _, _, _, _, _, _, _, _, rfl, _⟩ := h; rfl; done) | (obtain ⟨_, _, _, _, _, _, _, _, _, _, _, rfl, _⟩ := h; rfl; done) | (obtain ⟨_, _, _, _, _, _, _, _, _, _, _, _, rfl, _⟩ := h; rfl; done) | (obtain ⟨_, _, _, _, _, _, _, _, _, _, _, _, _, rfl, _⟩ := h; rfl; done) | (obtain ⟨_, _, _, _, _, _, _, _, _, _, _, _, _, _, rfl, _⟩ := h; rfl; done) | (obtain ⟨_, _, _, _, _, _, _, _, _, _, _, _, _, _, _, rfl, _⟩ := h; rfl; done) | ((rcases h with h | h) <;> (first | (obtain ⟨_, rfl, _⟩ := h; rfl) | (obtain ⟨_, _, rfl, _⟩ := h; rfl) | (obtain ⟨_, _, _, rfl, _⟩ := h; rfl) | (obtain ⟨_, _, _, _, rfl, _⟩ := h; rfl) | (obtain ⟨_, _, _, _, _, rfl, _⟩ := h; rfl) | (obtain ⟨_, _, _, _, _, _, rfl, _⟩ := h; rfl) | (obtain ⟨_, _, _, _, _, _, _, rfl, _⟩ := h; rfl) | (obtain ⟨_, _, _, _, _, _, _, _, rfl, _⟩ := h; rfl) | (obtain ⟨_, _, _, _, _, _, _, _, _, rfl, _⟩ := h; rfl) | (obtain ⟨_, _, _, _, _, _, _, _, _, _, rfl, _⟩ := h; rfl) | (obtain ⟨_, _, _, _, _, _, _, _, _, _, _, rfl, _⟩ := h; rfl) | (obtain ⟨_, _, _, _, _, _, _, _, _, _, _, _, rfl, _⟩ := h; rfl) | (obtain ⟨_, _, _, _, _, _, _, _, _, _, _, _, _, rfl, _⟩ := h; rfl) | (obtain ⟨_, _, _, _, _, _, _, _, _, _, _, _, _, _, rfl, _⟩ := h; rfl) | (obtain ⟨_, _, _, _, _, _, _, _, _, _, _, _, _, _, _, rfl, _⟩ := h; rfl)))
  · have hu := hu_of hr
    exact pss_one (ps_if (pt_not (pt_val (pe_call GR_is_whole (hr.mono (by decide)) (by rfl) T.g_is_whole T.F_is_whole.kp T.b_is_whole .nil (passes_call (takes_of rfl rfl rfl rfl) fun _ _ _ _ h => h) (pa_cons (pv 1) (pa_cons (pe_int) (pa_cons (pe_op op_subI (pe_callB call_lenQ (by rfl) T.m_len PySem.boot_len (pa_cons (pe_fld (pv 0) (by rfl)) (pa_nil))) (pe_int)) (pa_nil))))))) (pss_one (ps_raise rfl (takes_of rfl rfl rfl rfl) (pmk_own PySem.F.excBase_ValueError T.xi_NoCell T.g_NoCell T.kp_NoCell (raises_own T.sb_NoCell T.ty_NoCell) (by rfl)))) (pss_nil))
  · exact purer_look_cell ⟨T.cl_Store, T.na_Store_hands, T.na_Store_worth, T.na_Store_cells, T.na_Store_made⟩ h
set_option maxHeartbeats 8000000 in
theorem okr_Store__Store_swap (T : Txt K mg D) : FnOk P w K mg base (L2.CX P w) 3 D.f_Store_swap D.d_Store_swap ["self", "cell", "value"] (sr_swap D.c_Store (Exs.mk D.c_BadNumber D.c_NoHand D.c_NoCell D.c_NoMark D.c_IsIn D.c_NotIn D.c_NotHeld D.c_Gone D.c_BadPairs D.c_NotNow D.c_StoreError)) := by
  have GR_Store__Store_look_cell : FnOk P w K mg base (L2.CX P w) 2 D.f_Store_look_cell D.d_Store_look_cell ["self", "cell"] (spOr (sp_look_cell D.c_Store) (sr_look_cell D.c_Store D.c_NoCell)) := fn_or (fn_up (ok_Store__Store_look_cell T)) (okr_Store__Store_look_cell T)
  have GR_look_number : FnOk P w K mg base (L2.CX P w) 2 D.f_look_number D.d_look_number ["thing", "low", "high"] (spOr (sp_look_number) (sr_look_number D.c_BadNumber)) := fn_or (fn_up (ok_look_number T)) (okr_look_number T)
  have G_Store__Store_after_swap : FnOk P w K mg base (L2.CX P w) 1 D.f_Store_after_swap D.d_Store_after_swap ["self", "thing"] (sp_after0) := fn_up (ok_Store__Store_after_swap T)
  refine T.F_Store_swap.okX sc_Store_swap (fun vs H Q E h => ?_) (fun cdv A outer s H vs Q E hr h => ⟨tr_Store_swap K D.c_Store (spOr (sp_look_cell D.c_Store) (sr_look_cell D.c_Store D.c_NoCell)) (spOr (sp_look_number) (sr_look_number D.c_BadNumber)) (sp_after0) E, ?_, ?_⟩)
  · first | (obtain ⟨_, rfl, _⟩ := h; rfl; done) | (obtain ⟨_, _, rfl, _⟩ := h; rfl; done) | (obtain ⟨_, _, _, rfl, _⟩ := h; rfl; done) | (obtain ⟨_, _, _, _, rfl, _⟩ := h; rfl; done) | (obtain ⟨_, _, _, _, _, rfl, _⟩ := h; rfl; done) | (obtain ⟨_, _, _, _, _, _, rfl, _⟩ := h; rfl; done) | (obtain ⟨_, _, _, _, _, _, _, rfl, _⟩ := h; rfl; done) | (obtain ⟨_, _, _, _, _, _, _, _, rfl, _⟩ := h; rfl; done) | (obtain ⟨_, _, _, _, _, _, _, _, _, rfl, _⟩ := h; rfl; done) | (obtain ⟨_, _, _, _, _, _, _, _, _, _, rfl, _⟩ := h; rfl; done) | (obtain ⟨_, _, _, _, _, _, _, _, _, _, _, rfl, _⟩ := h; rfl; done) | (obtain ⟨_, _, _, _, _, _, _, _, _, _, _, _, rfl, _⟩ := h; rfl; done) | (obtain ⟨_, _, _, _, _, _, _, _, _, _, _, _, _, rfl, _⟩ := h; rfl; done) | (obtain ⟨_, _, _, _, _, _, _, _, _, _, _, _, _, _, rfl, _⟩ := h; rfl; done) | (obtain ⟨_, _, _, _, _, _, _, _, _, _, _, _, _, _, _, rfl, _⟩ := h; rfl; done) | ((rcases h with h | h) <;> (first | (obtain ⟨_, rfl, _⟩ := h; rfl) | (obtain ⟨_, _, rfl, _⟩ := h; rfl) | (obtain ⟨_, _, _, rfl, _⟩ := h; rfl) | (obtain ⟨_, _, _, _, rfl, _⟩ := h; rfl) | (obtain ⟨_, _, _, _, _, rfl, _⟩ := h; rfl) | (obtain ⟨_, _, _, _, _, _, rfl, _⟩ := h; rfl) | (obtain ⟨_, _, _, _, _, _, _, rfl, _⟩ := h; rfl) | (obtain ⟨_, _, _, _, _, _, _, _, rfl, _⟩ := h; rfl) | (obtain ⟨_, _, _, _, _, _, _, _, _, rfl, _⟩ := h; rfl) | (obtain ⟨_, _, _, _, _, _, _, _, _, _, rfl, _⟩ := h; rfl) | (obtain ⟨_, _, _, _, _, _, _, _, _, _, _, rfl, _⟩ := h; rfl) | (obtain ⟨_, _, _, _, _, _, _, _, _, _, _, _, rfl, _⟩ := h; rfl) | (obtain ⟨_, _, _, _, _, _, _, _, _, _, _, _, _, rfl, _⟩ := h; rfl) | (obtain ⟨_, _, _, _, _, _, _, _, _, _, _, _, _, _, rfl, _⟩ := h; rfl) | (obtain ⟨_, _, _, _, _, _, _, _, _, _, _, _, _, _, _, rfl, _⟩ := h; rfl)))
  · have hu := hu_of hr
    exact pss_cons (ps_expr (pe_meth (pv 0) T.cl_Store T.me_Store_look_cell GR_Store__Store_look_cell (hr.mono (by decide)) T.b_Store_look_cell .nil (passes_call (takes_of rfl rfl rfl rfl) fun _ _ _ _ h => h) (pa_cons (pv 1) (pa_nil))))
      (pss_cons (ps_expr (pe_call GR_look_number (hr.mono (by decide)) (by rfl) T.g_look_number T.F_look_number.kp T.b_look_number .nil (passes_call (takes_of rfl rfl rfl rfl) fun _ _ _ _ h => h) (pa_cons (pv 2) (pa_cons (pe_int) (pa_cons (pe_glob (by rfl) T.k_MOST_VALUE ⟨_, rfl⟩) (pa_nil))))))
      (pss_cons (ps_set (i := 3) sc_Store_swap.nd rfl (by first | exact Or.inl rfl | exact Or.inr rfl) (pe_ix ix_list (pe_fld (pv 0) (by rfl)) (pv 1) (fun _ _ => rfl)))
      (pss_cons (ps_dput hu (pe_fld (pv 0) (by rfl)) (pe_fld (pv 0) (by rfl)) (pv 2) (by rfl))
      (pss_cons (ps_asg (pe_fld (pv 0) (by rfl)) (pg_sub (pe_fld (pv 0) (by rfl)) (pv 1) set_list))
      (pss_cons (ps_fld (pv 0) (pe_op op_addI (pe_fld (pv 0) (by rfl)) (pe_int)) (by rfl))
      (pss_cons (ps_expr (pe_meth (pv 0) T.cl_Store T.me_Store_after_swap G_Store__Store_after_swap (hr.mono (by decide)) T.b_Store_after_swap .nil passL (pa_cons (pv 3) (pa_nil))))
      (pss_one (ps_ret (pv 3)))))))))
  · exact purer_swap (X := (Exs.mk D.c_BadNumber D.c_NoHand D.c_NoCell D.c_NoMark D.c_IsIn D.c_NotIn D.c_NotHeld D.c_Gone D.c_BadPairs D.c_NotNow D.c_StoreError)) ⟨T.cl_Store, T.na_Store_hands, T.na_Store_worth, T.na_Store_cells, T.na_Store_made⟩ h
set_option maxHeartbeats 8000000 in
theorem ok_Rounds__Store_look_cell (T : Txt K mg D) : FnOk P w K mg base CX0 2 D.f_Store_look_cell D.d_Store_look_cell ["self", "cell"] (sp_look_cell D.c_Rounds) := by
  have G_is_whole : FnOk P w K mg base CX0 1 D.f_is_whole D.d_is_whole ["thing", "low", "high"] (sp_is_whole) := ok_is_whole T
  refine T.F_Store_look_cell.ok sc_Store_look_cell (fun vs H Q E h => ?_) (fun cdv A outer s H vs Q E hr h => ⟨t_Store_look_cell K (sp_is_whole), ?_, ?_⟩)
  · first | (obtain ⟨_, rfl, _⟩ := h; rfl; done) | (obtain ⟨_, _, rfl, _⟩ := h; rfl; done) | (obtain ⟨_, _, _, rfl, _⟩ := h; rfl; done) | (obtain ⟨_, _, _, _, rfl, _⟩ := h; rfl; done) | (obtain ⟨_, _, _, _, _, rfl, _⟩ := h; rfl; done) | (obtain ⟨_, _, _, _, _, _, rfl, _⟩ := h; rfl; done) | (obtain ⟨_, _, _, _, _, _, _, rfl, _⟩ := h; rfl; done) | (obtain ⟨_, _, _, _, _, _, _, _, rfl, _⟩ := h; rfl; done) | (obtain ⟨_, _, _, _, _, _, _, _, _, rfl, _⟩ := h; rfl; done) | (obtain ⟨_, _, _, _, _, _, _, _, _, _, rfl, _⟩ := h; rfl; done) | (obtain ⟨_, _, _, _, _, _, _, _, _, _, _, rfl, _⟩ := h; rfl; done) | (obtain ⟨_, _, _, _, _, _, _, _, _, _, _, _, rfl, _⟩ := h; rfl; done) | (obtain ⟨_, _, _, _, _, _, _, _, _, _, _, _, _, rfl, _⟩ := h; rfl; done) | (obtain ⟨_, _, _, _, _, _, _, _, _, _, _, _, _, _, rfl, _⟩ := h; rfl; done) | (obtain ⟨_, _, _, _, _, _, _, _, _, _, _, _, _, _, _, rfl, _⟩ := h; rfl; done) | ((rcases h with h | h) <;> (first | (obtain ⟨_, rfl, _⟩ := h; rfl) | (obtain ⟨_, _, rfl, _⟩ := h; rfl) | (obtain ⟨_, _, _, rfl, _⟩ := h; rfl) | (obtain ⟨_, _, _, _, rfl, _⟩ := h; rfl) | (obtain ⟨_, _, _, _, _, rfl, _⟩ := h; rfl) | (obtain ⟨_, _, _, _, _, _, rfl, _⟩ := h; rfl) | (obtain ⟨_, _, _, _, _, _, _, rfl, _⟩ := h; rfl) | (obtain ⟨_, _, _, _, _, _, _, _, rfl, _⟩ := h; rfl) | (obtain ⟨_, _, _, _, _, _, _, _, _, rfl, _⟩ := h; rfl) | (obtain ⟨_, _, _, _, _, _, _, _, _, _, rfl, _⟩ := h; rfl) | (obtain ⟨_, _, _, _, _, _, _, _, _, _, _, rfl, _⟩ := h; rfl) | (obtain ⟨_, _, _, _, _, _, _, _, _, _, _, _, rfl, _⟩ := h; rfl) | (obtain ⟨_, _, _, _, _, _, _, _, _, _, _, _, _, rfl, _⟩ := h; rfl) | (obtain ⟨_, _, _, _, _, _, _, _, _, _, _, _, _, _, rfl, _⟩ := h; rfl) | (obtain ⟨_, _, _, _, _, _, _, _, _, _, _, _, _, _, _, rfl, _⟩ := h; rfl)))
  · have hu := hu_of hr
    exact pss_one (ps_if (pt_not (pt_val (pe_call G_is_whole (hr.mono (by decide)) (by rfl) T.g_is_whole T.F_is_whole.kp T.b_is_whole .nil pass0 (pa_cons (pv 1) (pa_cons (pe_int) (pa_cons (pe_op op_subI (pe_callB call_lenQ (by rfl) T.m_len PySem.boot_len (pa_cons (pe_fld (pv 0) (by rfl)) (pa_nil))) (pe_int)) (pa_nil))))))) (pss_one (ps_never)) (pss_nil))
  · exact pure_look_cell ⟨T.cl_Rounds, T.na_Rounds_hands, T.na_Rounds_worth, T.na_Rounds_cells, T.na_Rounds_made⟩ h
set_option maxHeartbeats 8000000 in
theorem ok_Rounds__Rounds_after_swap (T : Txt K mg D) : FnOk P w K mg base CX0 1 D.f_Rounds_after_swap D.d_Rounds_after_swap ["self", "thing"] (sp_rafter D.c_Rounds) := by
  refine T.F_Rounds_after_swap.ok sc_Rounds_after_swap (fun vs H Q E h => ?_) (fun cdv A outer s H vs Q E hr h => ⟨t_Rounds_after_swap K, ?_, ?_⟩)
  · first | (obtain ⟨_, rfl, _⟩ := h; rfl; done) | (obtain ⟨_, _, rfl, _⟩ := h; rfl; done) | (obtain ⟨_, _, _, rfl, _⟩ := h; rfl; done) | (obtain ⟨_, _, _, _, rfl, _⟩ := h; rfl; done) | (obtain ⟨_, _, _, _, _, rfl, _⟩ := h; rfl; done) | (obtain ⟨_, _, _, _, _, _, rfl, _⟩ := h; rfl; done) | (obtain ⟨_, _, _, _, _, _, _, rfl, _⟩ := h; rfl; done) | (obtain ⟨_, _, _, _, _, _, _, _, rfl, _⟩ := h; rfl; done) | (obtain ⟨_, _, _, _, _, _, _, _, _, rfl, _⟩ := h; rfl; done) | (obtain ⟨_, _, _, _, _, _, _, _, _, _, rfl, _⟩ := h; rfl; done) | (obtain ⟨_, _, _, _, _, _, _, _, _, _, _, rfl, _⟩ := h; rfl; done) | (obtain ⟨_, _, _, _, _, _, _, _, _, _, _, _, rfl, _⟩ := h; rfl; done) | (obtain ⟨_, _, _, _, _, _, _, _, _, _, _, _, _, rfl, _⟩ := h; rfl; done) | (obtain ⟨_, _, _, _, _, _, _, _, _, _, _, _, _, _, rfl, _⟩ := h; rfl; done) | (obtain ⟨_, _, _, _, _, _, _, _, _, _, _, _, _, _, _, rfl, _⟩ := h; rfl; done) | ((rcases h with h | h) <;> (first | (obtain ⟨_, rfl, _⟩ := h; rfl) | (obtain ⟨_, _, rfl, _⟩ := h; rfl) | (obtain ⟨_, _, _, rfl, _⟩ := h; rfl) | (obtain ⟨_, _, _, _, rfl, _⟩ := h; rfl) | (obtain ⟨_, _, _, _, _, rfl, _⟩ := h; rfl) | (obtain ⟨_, _, _, _, _, _, rfl, _⟩ := h; rfl) | (obtain ⟨_, _, _, _, _, _, _, rfl, _⟩ := h; rfl) | (obtain ⟨_, _, _, _, _, _, _, _, rfl, _⟩ := h; rfl) | (obtain ⟨_, _, _, _, _, _, _, _, _, rfl, _⟩ := h; rfl) | (obtain ⟨_, _, _, _, _, _, _, _, _, _, rfl, _⟩ := h; rfl) | (obtain ⟨_, _, _, _, _, _, _, _, _, _, _, rfl, _⟩ := h; rfl) | (obtain ⟨_, _, _, _, _, _, _, _, _, _, _, _, rfl, _⟩ := h; rfl) | (obtain ⟨_, _, _, _, _, _, _, _, _, _, _, _, _, rfl, _⟩ := h; rfl) | (obtain ⟨_, _, _, _, _, _, _, _, _, _, _, _, _, _, rfl, _⟩ := h; rfl) | (obtain ⟨_, _, _, _, _, _, _, _, _, _, _, _, _, _, _, rfl, _⟩ := h; rfl)))
  · have hu := hu_of hr
    exact pss_one (ps_dput hu (pe_fld (pv 0) (by rfl)) (pv 1) (pe_fld (pv 0) (by rfl)) (by rfl))
  · exact pure_rafter ⟨⟨T.cl_Rounds, T.na_Rounds_hands, T.na_Rounds_worth, T.na_Rounds_cells, T.na_Rounds_made⟩, T.na_Rounds_era, T.na_Rounds_inside, T.na_Rounds_saw, T.na_Rounds_waits⟩ h
set_option maxHeartbeats 8000000 in
theorem ok_Rounds__Store_swap (T : Txt K mg D) : FnOk P w K mg base CX0 3 D.f_Store_swap D.d_Store_swap ["self", "cell", "value"] (sp_swapR D.c_Rounds) := by
  have G_Rounds__Store_look_cell : FnOk P w K mg base CX0 2 D.f_Store_look_cell D.d_Store_look_cell ["self", "cell"] (sp_look_cell D.c_Rounds) := ok_Rounds__Store_look_cell T
  have G_look_number : FnOk P w K mg base CX0 2 D.f_look_number D.d_look_number ["thing", "low", "high"] (sp_look_number) := ok_look_number T
  have G_Rounds__Rounds_after_swap : FnOk P w K mg base CX0 1 D.f_Rounds_after_swap D.d_Rounds_after_swap ["self", "thing"] (sp_rafter D.c_Rounds) := ok_Rounds__Rounds_after_swap T
  refine T.F_Store_swap.ok sc_Store_swap (fun vs H Q E h => ?_) (fun cdv A outer s H vs Q E hr h => ⟨t_Store_swap K D.c_Rounds (sp_look_cell D.c_Rounds) (sp_look_number) (sp_rafter D.c_Rounds), ?_, ?_⟩)
  · first | (obtain ⟨_, rfl, _⟩ := h; rfl; done) | (obtain ⟨_, _, rfl, _⟩ := h; rfl; done) | (obtain ⟨_, _, _, rfl, _⟩ := h; rfl; done) | (obtain ⟨_, _, _, _, rfl, _⟩ := h; rfl; done) | (obtain ⟨_, _, _, _, _, rfl, _⟩ := h; rfl; done) | (obtain ⟨_, _, _, _, _, _, rfl, _⟩ := h; rfl; done) | (obtain ⟨_, _, _, _, _, _, _, rfl, _⟩ := h; rfl; done) | (obtain ⟨_, _, _, _, _, _, _, _, rfl, _⟩ := h; rfl; done) | (obtain ⟨_, _, _, _, _, _, _, _, _, rfl, _⟩ := h; rfl; done) | (obtain ⟨_, _, _, _, _, _, _, _, _, _, rfl, _⟩ := h; rfl; done) | (obtain ⟨_, _, _, _, _, _, _, _, _, _, _, rfl, _⟩ := h; rfl; done) | (obtain ⟨_, _, _, _, _, _, _, _, _, _, _, _, rfl, _⟩ := h; rfl; done) | (obtain ⟨_, _, _, _, _, _, _, _, _, _, _, _, _, rfl, _⟩ := h; rfl; done) | (obtain ⟨_, _, _, _, _, _, _, _, _, _, _, _, _, _, rfl, _⟩ := h; rfl; done) | (obtain ⟨_, _, _, _, _, _, _, _, _, _, _, _, _, _, _, rfl, _⟩ := h; rfl; done) | ((rcases h with h | h) <;> (first | (obtain ⟨_, rfl, _⟩ := h; rfl) | (obtain ⟨_, _, rfl, _⟩ := h; rfl) | (obtain ⟨_, _, _, rfl, _⟩ := h; rfl) | (obtain ⟨_, _, _, _, rfl, _⟩ := h; rfl) | (obtain ⟨_, _, _, _, _, rfl, _⟩ := h; rfl) | (obtain ⟨_, _, _, _, _, _, rfl, _⟩ := h; rfl) | (obtain ⟨_, _, _, _, _, _, _, rfl, _⟩ := h; rfl) | (obtain ⟨_, _, _, _, _, _, _, _, rfl, _⟩ := h; rfl) | (obtain ⟨_, _, _, _, _, _, _, _, _, rfl, _⟩ := h; rfl) | (obtain ⟨_, _, _, _, _, _, _, _, _, _, rfl, _⟩ := h; rfl) | (obtain ⟨_, _, _, _, _, _, _, _, _, _, _, rfl, _⟩ := h; rfl) | (obtain ⟨_, _, _, _, _, _, _, _, _, _, _, _, rfl, _⟩ := h; rfl) | (obtain ⟨_, _, _, _, _, _, _, _, _, _, _, _, _, rfl, _⟩ := h; rfl) | (obtain ⟨_, _, _, _, _, _, _, _, _, _, _, _, _, _, rfl, _⟩ := h; rfl) | (obtain ⟨_, _, _, _, _, _, _, _, _, _, _, _, _, _, _, rfl, _⟩ := h; rfl)))
  · have hu := hu_of hr
    exact pss_cons (ps_expr (pe_meth (pv 0) T.cl_Rounds T.me_Rounds_look_cell G_Rounds__Store_look_cell (hr.mono (by decide)) T.b_Store_look_cell .nil pass0 (pa_cons (pv 1) (pa_nil))))
      (pss_cons (ps_expr (pe_call G_look_number (hr.mono (by decide)) (by rfl) T.g_look_number T.F_look_number.kp T.b_look_number .nil pass0 (pa_cons (pv 2) (pa_cons (pe_int) (pa_cons (pe_glob (by rfl) T.k_MOST_VALUE ⟨_, rfl⟩) (pa_nil))))))
      (pss_cons (ps_set (i := 3) sc_Store_swap.nd rfl (by first | exact Or.inl rfl | exact Or.inr rfl) (pe_ix ix_list (pe_fld (pv 0) (by rfl)) (pv 1) (fun _ _ => rfl)))
      (pss_cons (ps_dput hu (pe_fld (pv 0) (by rfl)) (pe_fld (pv 0) (by rfl)) (pv 2) (by rfl))
      (pss_cons (ps_asg (pe_fld (pv 0) (by rfl)) (pg_sub (pe_fld (pv 0) (by rfl)) (pv 1) set_list))
      (pss_cons (ps_fld (pv 0) (pe_op op_addI (pe_fld (pv 0) (by rfl)) (pe_int)) (by rfl))
      (pss_cons (ps_expr (pe_meth (pv 0) T.cl_Rounds T.me_Rounds_after_swap G_Rounds__Rounds_after_swap (hr.mono (by decide)) T.b_Rounds_after_swap .nil pass0 (pa_cons (pv 3) (pa_nil))))
      (pss_one (ps_ret (pv 3)))))))))
  · exact pure_swap ⟨T.cl_Rounds, T.na_Rounds_hands, T.na_Rounds_worth, T.na_Rounds_cells, T.na_Rounds_made⟩ h
set_option maxHeartbeats 8000000 in
theorem okr_Rounds__Store_look_cell (T : Txt K mg D) : FnOk P w K mg base (L2.CX P w) 2 D.f_Store_look_cell D.d_Store_look_cell ["self", "cell"] (sr_look_cell D.c_Rounds D.c_NoCell) := by
  have GR_is_whole : FnOk P w K mg base (L2.CX P w) 1 D.f_is_whole D.d_is_whole ["thing", "low", "high"] (spOr (sp_is_whole) (sr_is_whole)) := fn_or (fn_up (ok_is_whole T)) (okr_is_whole T)
  refine T.F_Store_look_cell.okX sc_Store_look_cell (fun vs H Q E h => ?_) (fun cdv A outer s H vs Q E hr h => ⟨tr_Store_look_cell K D.c_NoCell (spOr (sp_is_whole) (sr_is_whole)) E, ?_, ?_⟩)
  · first | (obtain ⟨_, rfl, _⟩ := h; rfl; done) | (obtain ⟨_, _, rfl, _⟩ := h; rfl; done) | (obtain ⟨_, _, _, rfl, _⟩ := h; rfl; done) | (obtain ⟨_, _, _, _, rfl, _⟩ := h; rfl; done) | (obtain ⟨_, _, _, _, _, rfl, _⟩ := h; rfl; done) | (obtain ⟨_, _, _, _, _, _, rfl, _⟩ := h; rfl; done) | (obtain ⟨_, _, _, _, _, _, _, rfl, _⟩ := h; rfl; done) | (obtain ⟨_, _, _, _, _, _, _, _, rfl, _⟩ := h; rfl; done) | (obtain ⟨_, _, _, _, _, _, _, _, _, rfl, _⟩ := h; rfl; done) | (obtain ⟨_, _, _, _, _, _, _, _, _, _, rfl, _⟩ := h; rfl; done) | (obtain ⟨_, _, _, _, _, _, _, _, _, _, _, rfl, _⟩ := h; rfl; done) | (obtain ⟨_, _, _, _, _, _, _, _, _, _, _, _, rfl, _⟩ := h; rfl; done) | (obtain ⟨_, _, _, _, _, _, _, _, _, _, _, _, _, rfl, _⟩ := h; rfl; done) | (obtain ⟨_, _, _, _, _, _, _, _, _, _, _, _, _, _, rfl, _⟩ := h; rfl; done) | (obtain ⟨_, _, _, _, _, _, _, _, _, _, _, _, _, _, _, rfl, _⟩ := h; rfl; done) | ((rcases h with h | h) <;> (first | (obtain ⟨_, rfl, _⟩ := h; rfl) | (obtain ⟨_, _, rfl, _⟩ := h; rfl) | (obtain ⟨_, _, _, rfl, _⟩ := h; rfl) | (obtain ⟨_, _, _, _, rfl, _⟩ := h; rfl) | (obtain ⟨_, _, _, _, _, rfl, _⟩ := h; rfl) | (obtain ⟨_, _, _, _, _, _, rfl, _⟩ := h; rfl) | (obtain ⟨_, _, _, _, _, _, _, rfl, _⟩ := h; rfl) | (obtain ⟨_, _, _, _, _, _, _, _, rfl, _⟩ := h; rfl) | (obtain ⟨_, _, _, _, _, _, _, _, _, rfl, _⟩ := h; rfl) | (obtain ⟨_, _, _, _, _, _, _, _, _, _, rfl, _⟩ := h; rfl) | (obtain ⟨_, _, _, _, _, _, _, _, _, _, _, rfl, _⟩ := h; rfl) | (obtain ⟨_, _, _, _, _, _, _, _, _, _, _, _, rfl, _⟩ := h; rfl) | (obtain ⟨_, _, _, _, _, _, _, _, _, _, _, _, _, rfl, _⟩ := h; rfl) | (obtain ⟨_, _, _, _, _, _, _, _, _, _, _, _, _, _, rfl, _⟩ := h; rfl) | (obtain ⟨_, _, _, _, _, _, _, _, _, _, _, _, _, _, _, rfl, _⟩ := h; rfl)))
  · have hu := hu_of hr
    exact pss_one (ps_if (pt_not (pt_val (pe_call GR_is_whole (hr.mono (by decide)) (by rfl) T.g_is_whole T.F_is_whole.kp T.b_is_whole .nil (passes_call (takes_of rfl rfl rfl rfl) fun _ _ _ _ h => h) (pa_cons (pv 1) (pa_cons (pe_int) (pa_cons (pe_op op_subI (pe_callB call_lenQ (by rfl) T.m_len PySem.boot_len (pa_cons (pe_fld (pv 0) (by rfl)) (pa_nil))) (pe_int)) (pa_nil))))))) (pss_one (ps_raise rfl (takes_of rfl rfl rfl rfl) (pmk_own PySem.F.excBase_ValueError T.xi_NoCell T.g_NoCell T.kp_NoCell (raises_own T.sb_NoCell T.ty_NoCell) (by rfl)))) (pss_nil))
  · exact purer_look_cell ⟨T.cl_Rounds, T.na_Rounds_hands, T.na_Rounds_worth, T.na_Rounds_cells, T.na_Rounds_made⟩ h
set_option maxHeartbeats 8000000 in
theorem okr_Rounds__Store_swap (T : Txt K mg D) : FnOk P w K mg base (L2.CX P w) 3 D.f_Store_swap D.d_Store_swap ["self", "cell", "value"] (sr_swap D.c_Rounds (Exs.mk D.c_BadNumber D.c_NoHand D.c_NoCell D.c_NoMark D.c_IsIn D.c_NotIn D.c_NotHeld D.c_Gone D.c_BadPairs D.c_NotNow D.c_StoreError)) := by
  have GR_Rounds__Store_look_cell : FnOk P w K mg base (L2.CX P w) 2 D.f_Store_look_cell D.d_Store_look_cell ["self", "cell"] (spOr (sp_look_cell D.c_Rounds) (sr_look_cell D.c_Rounds D.c_NoCell)) := fn_or (fn_up (ok_Rounds__Store_look_cell T)) (okr_Rounds__Store_look_cell T)
  have GR_look_number : FnOk P w K mg base (L2.CX P w) 2 D.f_look_number D.d_look_number ["thing", "low", "high"] (spOr (sp_look_number) (sr_look_number D.c_BadNumber)) := fn_or (fn_up (ok_look_number T)) (okr_look_number T)
  have G_Rounds__Rounds_after_swap : FnOk P w K mg base (L2.CX P w) 1 D.f_Rounds_after_swap D.d_Rounds_after_swap ["self", "thing"] (sp_rafter D.c_Rounds) := fn_up (ok_Rounds__Rounds_after_swap T)
  refine T.F_Store_swap.okX sc_Store_swap (fun vs H Q E h => ?_) (fun cdv A outer s H vs Q E hr h => ⟨tr_Store_swap K D.c_Rounds (spOr (sp_look_cell D.c_Rounds) (sr_look_cell D.c_Rounds D.c_NoCell)) (spOr (sp_look_number) (sr_look_number D.c_BadNumber)) (sp_rafter D.c_Rounds) E, ?_, ?_⟩)
  · first | (obtain ⟨_, rfl, _⟩ := h; rfl; done) | (obtain ⟨_, _, rfl, _⟩ := h; rfl; done) | (obtain ⟨_, _, _, rfl, _⟩ := h; rfl; done) | (obtain ⟨_, _, _, _, rfl, _⟩ := h; rfl; done) | (obtain ⟨_, _, _, _, _, rfl, _⟩ := h; rfl; done) | (obtain ⟨_, _, _, _, _, _, rfl, _⟩ := h; rfl; done) | (obtain ⟨_, _, _, _, _, _, _, rfl, _⟩ := h; rfl; done) | (obtain ⟨_, _, _, _, _, _, _, _, rfl, _⟩ := h; rfl; done) | (obtain ⟨_, _, _, _, _, _, _, _, _, rfl, _⟩ := h; rfl; done) | (obtain ⟨_, _, _, _, _, _, _, _, _, _, rfl, _⟩ := h; rfl; done) | (obtain ⟨_, _, _, _, _, _, _, _, _, _, _, rfl, _⟩ := h; rfl; done) | (obtain ⟨_, _, _, _, _, _, _, _, _, _, _, _, rfl, _⟩ := h; rfl; done) | (obtain ⟨_, _, _, _, _, _, _, _, _, _, _, _, _, rfl, _⟩ := h; rfl; done) | (obtain ⟨_, _, _, _, _, _, _, _, _, _, _, _, _, _, rfl, _⟩ := h; rfl; done) | (obtain ⟨_, _, _, _, _, _, _, _, _, _, _, _, _, _, _, rfl, _⟩ := h; rfl; done) | ((rcases h with h | h) <;> (first | (obtain ⟨_, rfl, _⟩ := h; rfl) | (obtain ⟨_, _, rfl, _⟩ := h; rfl) | (obtain ⟨_, _, _, rfl, _⟩ := h; rfl) | (obtain ⟨_, _, _, _, rfl, _⟩ := h; rfl) | (obtain ⟨_, _, _, _, _, rfl, _⟩ := h; rfl) | (obtain ⟨_, _, _, _, _, _, rfl, _⟩ := h; rfl) | (obtain ⟨_, _, _, _, _, _, _, rfl, _⟩ := h; rfl) | (obtain ⟨_, _, _, _, _, _, _, _, rfl, _⟩ := h; rfl) | (obtain ⟨_, _, _, _, _, _, _, _, _, rfl, _⟩ := h; rfl) | (obtain ⟨_, _, _, _, _, _, _, _, _, _, rfl, _⟩ := h; rfl) | (obtain ⟨_, _, _, _, _, _, _, _, _, _, _, rfl, _⟩ := h; rfl) | (obtain ⟨_, _, _, _, _, _, _, _, _, _, _, _, rfl, _⟩ := h; rfl) | (obtain ⟨_, _, _, _, _, _, _, _, _, _, _, _, _, rfl, _⟩ := h; rfl) | (obtain ⟨_, _, _, _, _, _, _, _, _, _, _, _, _, _, rfl, _⟩ := h; rfl) | (obtain ⟨_, _, _, _, _, _, _, _, _, _, _, _, _, _, _, rfl, _⟩ := h; rfl)))
  · have hu := hu_of hr
    exact pss_cons (ps_expr (pe_meth (pv 0) T.cl_Rounds T.me_Rounds_look_cell GR_Rounds__Store_look_cell (hr.mono (by decide)) T.b_Store_look_cell .nil (passes_call (takes_of rfl rfl rfl rfl) fun _ _ _ _ h => h) (pa_cons (pv 1) (pa_nil))))
      (pss_cons (ps_expr (pe_call GR_look_number (hr.mono (by decide)) (by rfl) T.g_look_number T.F_look_number.kp T.b_look_number .nil (passes_call (takes_of rfl rfl rfl rfl) fun _ _ _ _ h => h) (pa_cons (pv 2) (pa_cons (pe_int) (pa_cons (pe_glob (by rfl) T.k_MOST_VALUE ⟨_, rfl⟩) (pa_nil))))))
      (pss_cons (ps_set (i := 3) sc_Store_swap.nd rfl (by first | exact Or.inl rfl | exact Or.inr rfl) (pe_ix ix_list (pe_fld (pv 0) (by rfl)) (pv 1) (fun _ _ => rfl)))
      (pss_cons (ps_dput hu (pe_fld (pv 0) (by rfl)) (pe_fld (pv 0) (by rfl)) (pv 2) (by rfl))
      (pss_cons (ps_asg (pe_fld (pv 0) (by rfl)) (pg_sub (pe_fld (pv 0) (by rfl)) (pv 1) set_list))
      (pss_cons (ps_fld (pv 0) (pe_op op_addI (pe_fld (pv 0) (by rfl)) (pe_int)) (by rfl))
      (pss_cons (ps_expr (pe_meth (pv 0) T.cl_Rounds T.me_Rounds_after_swap G_Rounds__Rounds_after_swap (hr.mono (by decide)) T.b_Rounds_after_swap .nil passL (pa_cons (pv 3) (pa_nil))))
      (pss_one (ps_ret (pv 3)))))))))
  · exact purer_swap (X := (Exs.mk D.c_BadNumber D.c_NoHand D.c_NoCell D.c_NoMark D.c_IsIn D.c_NotIn D.c_NotHeld D.c_Gone D.c_BadPairs D.c_NotNow D.c_StoreError)) ⟨T.cl_Rounds, T.na_Rounds_hands, T.na_Rounds_worth, T.na_Rounds_cells, T.na_Rounds_made⟩ h
set_option maxHeartbeats 8000000 in
theorem ok_Marks__Store_look_cell (T : Txt K mg D) : FnOk P w K mg base CX0 2 D.f_Store_look_cell D.d_Store_look_cell ["self", "cell"] (sp_look_cell D.c_Marks) := by
  have G_is_whole : FnOk P w K mg base CX0 1 D.f_is_whole D.d_is_whole ["thing", "low", "high"] (sp_is_whole) := ok_is_whole T
  refine T.F_Store_look_cell.ok sc_Store_look_cell (fun vs H Q E h => ?_) (fun cdv A outer s H vs Q E hr h => ⟨t_Store_look_cell K (sp_is_whole), ?_, ?_⟩)
  · first | (obtain ⟨_, rfl, _⟩ := h; rfl; done) | (obtain ⟨_, _, rfl, _⟩ := h; rfl; done) | (obtain ⟨_, _, _, rfl, _⟩ := h; rfl; done) | (obtain ⟨_, _, _, _, rfl, _⟩ := h; rfl; done) | (obtain ⟨_, _, _, _, _, rfl, _⟩ := h; rfl; done) | (obtain ⟨_, _, _, _, _, _, rfl, _⟩ := h; rfl; done) | (obtain ⟨_, _, _, _, _, _, _, rfl, _⟩ := h; rfl; done) | (obtain ⟨_, _, _, _, _, _, _, _, rfl, _⟩ := h; rfl; done) | (obtain ⟨_, _, _, _, _, _, _, _, _, rfl, _⟩ := h; rfl; done) | (obtain ⟨_, _, _, _, _, _, _, _, _, _, rfl, _⟩ := h; rfl; done) | (obtain ⟨_, _, _, _, _, _, _, _, _, _, _, rfl, _⟩ := h; rfl; done) | (obtain ⟨_, _, _, _, _, _, _, _, _, _, _, _, rfl, _⟩ := h; rfl; done) | (obtain ⟨_, _, _, _, _, _, _, _, _, _, _, _, _, rfl, _⟩ := h; rfl; done) | (obtain ⟨_, _, _, _, _, _, _, _, _, _, _, _, _, _, rfl, _⟩ := h; rfl; done) | (obtain ⟨_, _, _, _, _, _, _, _, _, _, _, _, _, _, _, rfl, _⟩ := h; rfl; done) | ((rcases h with h | h) <;> (first | (obtain ⟨_, rfl, _⟩ := h; rfl) | (obtain ⟨_, _, rfl, _⟩ := h; rfl) | (obtain ⟨_, _, _, rfl, _⟩ := h; rfl) | (obtain ⟨_, _, _, _, rfl, _⟩ := h; rfl) | (obtain ⟨_, _, _, _, _, rfl, _⟩ := h; rfl) | (obtain ⟨_, _, _, _, _, _, rfl, _⟩ := h; rfl) | (obtain ⟨_, _, _, _, _, _, _, rfl, _⟩ := h; rfl) | (obtain ⟨_, _, _, _, _, _, _, _, rfl, _⟩ := h; rfl) | (obtain ⟨_, _, _, _, _, _, _, _, _, rfl, _⟩ := h; rfl) | (obtain ⟨_, _, _, _, _, _, _, _, _, _, rfl, _⟩ := h; rfl) | (obtain ⟨_, _, _, _, _, _, _, _, _, _, _, rfl, _⟩ := h; rfl) | (obtain ⟨_, _, _, _, _, _, _, _, _, _, _, _, rfl, _⟩ := h; rfl) | (obtain ⟨_, _, _, _, _, _, _, _, _, _, _, _, _, rfl, _⟩ := h; rfl) | (obtain ⟨_, _, _, _, _, _, _, _, _, _, _, _, _, _, rfl, _⟩ := h; rfl) | (obtain ⟨_, _, _, _, _, _, _, _, _, _, _, _, _, _, _, rfl, _⟩ := h; rfl)))
  · have hu := hu_of hr
    exact pss_one (ps_if (pt_not (pt_val (pe_call G_is_whole (hr.mono (by decide)) (by rfl) T.g_is_whole T.F_is_whole.kp T.b_is_whole .nil pass0 (pa_cons (pv 1) (pa_cons (pe_int) (pa_cons (pe_op op_subI (pe_callB call_lenQ (by rfl) T.m_len PySem.boot_len (pa_cons (pe_fld (pv 0) (by rfl)) (pa_nil))) (pe_int)) (pa_nil))))))) (pss_one (ps_never)) (pss_nil))
  · exact pure_look_cell ⟨T.cl_Marks, T.na_Marks_hands, T.na_Marks_worth, T.na_Marks_cells, T.na_Marks_made⟩ h
set_option maxHeartbeats 8000000 in
theorem ok_Marks__Marks_after_swap (T : Txt K mg D) : FnOk P w K mg base CX0 1 D.f_Marks_after_swap D.d_Marks_after_swap ["self", "thing"] (sp_mafter D.c_Marks) := by
  refine T.F_Marks_after_swap.ok sc_Marks_after_swap (fun vs H Q E h => ?_) (fun cdv A outer s H vs Q E hr h => ⟨t_Marks_after_swap K, ?_, ?_⟩)
  · first | (obtain ⟨_, rfl, _⟩ := h; rfl; done) | (obtain ⟨_, _, rfl, _⟩ := h; rfl; done) | (obtain ⟨_, _, _, rfl, _⟩ := h; rfl; done) | (obtain ⟨_, _, _, _, rfl, _⟩ := h; rfl; done) | (obtain ⟨_, _, _, _, _, rfl, _⟩ := h; rfl; done) | (obtain ⟨_, _, _, _, _, _, rfl, _⟩ := h; rfl; done) | (obtain ⟨_, _, _, _, _, _, _, rfl, _⟩ := h; rfl; done) | (obtain ⟨_, _, _, _, _, _, _, _, rfl, _⟩ := h; rfl; done) | (obtain ⟨_, _, _, _, _, _, _, _, _, rfl, _⟩ := h; rfl; done) | (obtain ⟨_, _, _, _, _, _, _, _, _, _, rfl, _⟩ := h; rfl; done) | (obtain ⟨_, _, _, _, _, _, _, _, _, _, _, rfl, _⟩ := h; rfl; done) | (obtain ⟨_, _, _, _, _, _, _, _, _, _, _, _, rfl, _⟩ := h; rfl; done) | (obtain ⟨_, _, _, _, _, _, _, _, _, _, _, _, _, rfl, _⟩ := h; rfl; done) | (obtain ⟨_, _, _, _, _, _, _, _, _, _, _, _, _, _, rfl, _⟩ := h; rfl; done) | (obtain ⟨_, _, _, _, _, _, _, _, _, _, _, _, _, _, _, rfl, _⟩ := h; rfl; done) | ((rcases h with h | h) <;> (first | (obtain ⟨_, rfl, _⟩ := h; rfl) | (obtain ⟨_, _, rfl, _⟩ := h; rfl) | (obtain ⟨_, _, _, rfl, _⟩ := h; rfl) | (obtain ⟨_, _, _, _, rfl, _⟩ := h; rfl) | (obtain ⟨_, _, _, _, _, rfl, _⟩ := h; rfl) | (obtain ⟨_, _, _, _, _, _, rfl, _⟩ := h; rfl) | (obtain ⟨_, _, _, _, _, _, _, rfl, _⟩ := h; rfl) | (obtain ⟨_, _, _, _, _, _, _, _, rfl, _⟩ := h; rfl) | (obtain ⟨_, _, _, _, _, _, _, _, _, rfl, _⟩ := h; rfl) | (obtain ⟨_, _, _, _, _, _, _, _, _, _, rfl, _⟩ := h; rfl) | (obtain ⟨_, _, _, _, _, _, _, _, _, _, _, rfl, _⟩ := h; rfl) | (obtain ⟨_, _, _, _, _, _, _, _, _, _, _, _, rfl, _⟩ := h; rfl) | (obtain ⟨_, _, _, _, _, _, _, _, _, _, _, _, _, rfl, _⟩ := h; rfl) | (obtain ⟨_, _, _, _, _, _, _, _, _, _, _, _, _, _, rfl, _⟩ := h; rfl) | (obtain ⟨_, _, _, _, _, _, _, _, _, _, _, _, _, _, _, rfl, _⟩ := h; rfl)))
  · have hu := hu_of hr
    exact pss_one (ps_expr (pe_bm PySem.F.plainAttrs_list PySem.F.slot_list_append PySem.F.type_list_append mt_append (pe_fld (pv 0) (by rfl)) (pa_cons (pv 1) (pa_nil))))
  · exact pure_mafter ⟨⟨T.cl_Marks, T.na_Marks_hands, T.na_Marks_worth, T.na_Marks_cells, T.na_Marks_made⟩, T.na_Marks_marks, T.na_Marks_waits⟩ h
set_option maxHeartbeats 8000000 in
theorem ok_Marks__Store_swap (T : Txt K mg D) : FnOk P w K mg base CX0 3 D.f_Store_swap D.d_Store_swap ["self", "cell", "value"] (sp_swapM D.c_Marks) := by
  have G_Marks__Store_look_cell : FnOk P w K mg base CX0 2 D.f_Store_look_cell D.d_Store_look_cell ["self", "cell"] (sp_look_cell D.c_Marks) := ok_Marks__Store_look_cell T
  have G_look_number : FnOk P w K mg base CX0 2 D.f_look_number D.d_look_number ["thing", "low", "high"] (sp_look_number) := ok_look_number T
  have G_Marks__Marks_after_swap : FnOk P w K mg base CX0 1 D.f_Marks_after_swap D.d_Marks_after_swap ["self", "thing"] (sp_mafter D.c_Marks) := ok_Marks__Marks_after_swap T
  refine T.F_Store_swap.ok sc_Store_swap (fun vs H Q E h => ?_) (fun cdv A outer s H vs Q E hr h => ⟨t_Store_swap K D.c_Marks (sp_look_cell D.c_Marks) (sp_look_number) (sp_mafter D.c_Marks), ?_, ?_⟩)
  · first | (obtain ⟨_, rfl, _⟩ := h; rfl; done) | (obtain ⟨_, _, rfl, _⟩ := h; rfl; done) | (obtain ⟨_, _, _, rfl, _⟩ := h; rfl; done) | (obtain ⟨_, _, _, _, rfl, _⟩ := h; rfl; done) | (obtain ⟨_, _, _, _, _, rfl, _⟩ := h; rfl; done) | (obtain ⟨_, _, _, _, _, _, rfl, _⟩ := h; rfl; done) | (obtain ⟨_, _, _, _, _, _, _, rfl, _⟩ := h; rfl; done) | (obtain ⟨_, _, _, _, _, _, _, _, rfl, _⟩ := h; rfl; done) | (obtain ⟨_, _, _, _, _, _, _, _, _, rfl, _⟩ := h; rfl; done) | (obtain ⟨_, _, _, _, _, _, _, _, _, _, rfl, _⟩ := h; rfl; done) | (obtain ⟨_, _, _, _, _, _, _, _, _, _, _, rfl, _⟩ := h; rfl; done) | (obtain ⟨_, _, _, _, _, _, _, _, _, _, _, _, rfl, _⟩ := h; rfl; done) | (obtain ⟨_, _, _, _, _, _, _, _, _, _, _, _, _, rfl, _⟩ := h; rfl; done) | (obtain ⟨_, _, _, _, _, _, _, _, _, _, _, _, _, _, rfl, _⟩ := h; rfl; done) | (obtain ⟨_, _, _, _, _, _, _, _, _, _, _, _, _, _, _, rfl, _⟩ := h; rfl; done) | ((rcases h with h | h) <;> (first | (obtain ⟨_, rfl, _⟩ := h; rfl) | (obtain ⟨_, _, rfl, _⟩ := h; rfl) | (obtain ⟨_, _, _, rfl, _⟩ := h; rfl) | (obtain ⟨_, _, _, _, rfl, _⟩ := h; rfl) | (obtain ⟨_, _, _, _, _, rfl, _⟩ := h; rfl) | (obtain ⟨_, _, _, _, _, _, rfl, _⟩ := h; rfl) | (obtain ⟨_, _, _, _, _, _, _, rfl, _⟩ := h; rfl) | (obtain ⟨_, _, _, _, _, _, _, _, rfl, _⟩ := h; rfl) | (obtain ⟨_, _, _, _, _, _, _, _, _, rfl, _⟩ := h; rfl) | (obtain ⟨_, _, _, _, _, _, _, _, _, _, rfl, _⟩ := h; rfl) | (obtain ⟨_, _, _, _, _, _, _, _, _, _, _, rfl, _⟩ := h; rfl) | (obtain ⟨_, _, _, _, _, _, _, _, _, _, _, _, rfl, _⟩ := h; rfl) | (obtain ⟨_, _, _, _, _, _, _, _, _, _, _, _, _, rfl, _⟩ := h; rfl) | (obtain ⟨_, _, _, _, _, _, _, _, _, _, _, _, _, _, rfl, _⟩ := h; rfl) | (obtain ⟨_, _, _, _, _, _, _, _, _, _, _, _, _, _, _, rfl, _⟩ := h; rfl)))
  · have hu := hu_of hr
    exact pss_cons (ps_expr (pe_meth (pv 0) T.cl_Marks T.me_Marks_look_cell G_Marks__Store_look_cell (hr.mono (by decide)) T.b_Store_look_cell .nil pass0 (pa_cons (pv 1) (pa_nil))))
      (pss_cons (ps_expr (pe_call G_look_number (hr.mono (by decide)) (by rfl) T.g_look_number T.F_look_number.kp T.b_look_number .nil pass0 (pa_cons (pv 2) (pa_cons (pe_int) (pa_cons (pe_glob (by rfl) T.k_MOST_VALUE ⟨_, rfl⟩) (pa_nil))))))
      (pss_cons (ps_set (i := 3) sc_Store_swap.nd rfl (by first | exact Or.inl rfl | exact Or.inr rfl) (pe_ix ix_list (pe_fld (pv 0) (by rfl)) (pv 1) (fun _ _ => rfl)))
      (pss_cons (ps_dput hu (pe_fld (pv 0) (by rfl)) (pe_fld (pv 0) (by rfl)) (pv 2) (by rfl))
      (pss_cons (ps_asg (pe_fld (pv 0) (by rfl)) (pg_sub (pe_fld (pv 0) (by rfl)) (pv 1) set_list))
      (pss_cons (ps_fld (pv 0) (pe_op op_addI (pe_fld (pv 0) (by rfl)) (pe_int)) (by rfl))
      (pss_cons (ps_expr (pe_meth (pv 0) T.cl_Marks T.me_Marks_after_swap G_Marks__Marks_after_swap (hr.mono (by decide)) T.b_Marks_after_swap .nil pass0 (pa_cons (pv 3) (pa_nil))))
      (pss_one (ps_ret (pv 3)))))))))
  · exact pure_swap ⟨T.cl_Marks, T.na_Marks_hands, T.na_Marks_worth, T.na_Marks_cells, T.na_Marks_made⟩ h
set_option maxHeartbeats 8000000 in
theorem okr_Marks__Store_look_cell (T : Txt K mg D) : FnOk P w K mg base (L2.CX P w) 2 D.f_Store_look_cell D.d_Store_look_cell ["self", "cell"] (sr_look_cell D.c_Marks D.c_NoCell) := by
  have GR_is_whole : FnOk P w K mg base (L2.CX P w) 1 D.f_is_whole D.d_is_whole ["thing", "low", "high"] (spOr (sp_is_whole) (sr_is_whole)) := fn_or (fn_up (ok_is_whole T)) (okr_is_whole T)
  refine T.F_Store_look_cell.okX sc_Store_look_cell (fun vs H Q E h => ?_) (fun cdv A outer s H vs Q E hr h => ⟨tr_Store_look_cell K D.c_NoCell (spOr (sp_is_whole) (sr_is_whole)) E, ?_, ?_⟩)
  · first | (obtain ⟨_, rfl, _⟩ := h; rfl; done) | (obtain ⟨_, _, rfl, _⟩ := h; rfl; done) | (obtain ⟨_, _, _, rfl, _⟩ := h; rfl; done) | (obtain ⟨_, _, _, _, rfl, _⟩ := h; rfl; done) | (obtain ⟨_, _, _, _, _, rfl, _⟩ := h; rfl; done) | (obtain ⟨_, _, _, _, _, _, rfl, _⟩ := h; rfl; done) | (obtain ⟨_, _, _, _, _, _, _, rfl, _⟩ := h; rfl; done) | (obtain ⟨_, _, _, _, _, _, _, _, rfl, _⟩ := h; rfl; done) | (obtain ⟨_, _, _, _, _, _, _, _, _, rfl, _⟩ := h; rfl; done) | (obtain ⟨_, _, _, _, _, _, _, _, _, _, rfl, _⟩ := h; rfl; done) | (obtain ⟨_, _, _, _, _, _, _, _, _, _, _, rfl, _⟩ := h; rfl; done) | (obtain ⟨_, _, _, _, _, _, _, _, _, _, _, _, rfl, _⟩ := h; rfl; done) | (obtain ⟨_, _, _, _, _, _, _, _, _, _, _, _, _, rfl, _⟩ := h; rfl; done) | (obtain ⟨_, _, _, _, _, _, _, _, _, _, _, _, _, _, rfl, _⟩ := h; rfl; done) | (obtain ⟨_, _, _, _, _, _, _, _, _, _, _, _, _, _, _, rfl, _⟩ := h; rfl; done) | ((rcases h with h | h) <;> (first | (obtain ⟨_, rfl, _⟩ := h; rfl) | (obtain ⟨_, _, rfl, _⟩ := h; rfl) | (obtain ⟨_, _, _, rfl, _⟩ := h; rfl) | (obtain ⟨_, _, _, _, rfl, _⟩ := h; rfl) | (obtain ⟨_, _, _, _, _, rfl, _⟩ := h; rfl) | (obtain ⟨_, _, _, _, _, _, rfl, _⟩ := h; rfl) | (obtain ⟨_, _, _, _, _, _, _, rfl, _⟩ := h; rfl) | (obtain ⟨_, _, _, _, _, _, _, _, rfl, _⟩ := h; rfl) | (obtain ⟨_, _, _, _, _, _, _, _, _, rfl, _⟩ := h; rfl) | (obtain ⟨_, _, _, _, _, _, _, _, _, _, rfl, _⟩ := h; rfl) | (obtain ⟨_, _, _, _, _, _, _, _, _, _, _, rfl, _⟩ := h; rfl) | (obtain ⟨_, _, _, _, _, _, _, _, _, _, _, _, rfl, _⟩ := h; rfl) | (obtain ⟨_, _, _, _, _, _, _, _, _, _, _, _, _, rfl, _⟩ := h; rfl) | (obtain ⟨_, _, _, _, _, _, _, _, _, _, _, _, _, _, rfl, _⟩ := h; rfl) | (obtain ⟨_, _, _, _, _, _, _, _, _, _, _, _, _, _, _, rfl, _⟩ := h; rfl)))
  · have hu := hu_of hr
    exact pss_one (ps_if (pt_not (pt_val (pe_call GR_is_whole (hr.mono (by decide)) (by rfl) T.g_is_whole T.F_is_whole.kp T.b_is_whole .nil (passes_call (takes_of rfl rfl rfl rfl) fun _ _ _ _ h => h) (pa_cons (pv 1) (pa_cons (pe_int) (pa_cons (pe_op op_subI (pe_callB call_lenQ (by rfl) T.m_len PySem.boot_len (pa_cons (pe_fld (pv 0) (by rfl)) (pa_nil))) (pe_int)) (pa_nil))))))) (pss_one (ps_raise rfl (takes_of rfl rfl rfl rfl) (pmk_own PySem.F.excBase_ValueError T.xi_NoCell T.g_NoCell T.kp_NoCell (raises_own T.sb_NoCell T.ty_NoCell) (by rfl)))) (pss_nil))
  · exact purer_look_cell ⟨T.cl_Marks, T.na_Marks_hands, T.na_Marks_worth, T.na_Marks_cells, T.na_Marks_made⟩ h
set_option maxHeartbeats 8000000 in
theorem okr_Marks__Store_swap (T : Txt K mg D) : FnOk P w K mg base (L2.CX P w) 3 D.f_Store_swap D.d_Store_swap ["self", "cell", "value"] (sr_swap D.c_Marks (Exs.mk D.c_BadNumber D.c_NoHand D.c_NoCell D.c_NoMark D.c_IsIn D.c_NotIn D.c_NotHeld D.c_Gone D.c_BadPairs D.c_NotNow D.c_StoreError)) := by
  have GR_Marks__Store_look_cell : FnOk P w K mg base (L2.CX P w) 2 D.f_Store_look_cell D.d_Store_look_cell ["self", "cell"] (spOr (sp_look_cell D.c_Marks) (sr_look_cell D.c_Marks D.c_NoCell)) := fn_or (fn_up (ok_Marks__Store_look_cell T)) (okr_Marks__Store_look_cell T)
  have GR_look_number : FnOk P w K mg base (L2.CX P w) 2 D.f_look_number D.d_look_number ["thing", "low", "high"] (spOr (sp_look_number) (sr_look_number D.c_BadNumber)) := fn_or (fn_up (ok_look_number T)) (okr_look_number T)
  have G_Marks__Marks_after_swap : FnOk P w K mg base (L2.CX P w) 1 D.f_Marks_after_swap D.d_Marks_after_swap ["self", "thing"] (sp_mafter D.c_Marks) := fn_up (ok_Marks__Marks_after_swap T)
  refine T.F_Store_swap.okX sc_Store_swap (fun vs H Q E h => ?_) (fun cdv A outer s H vs Q E hr h => ⟨tr_Store_swap K D.c_Marks (spOr (sp_look_cell D.c_Marks) (sr_look_cell D.c_Marks D.c_NoCell)) (spOr (sp_look_number) (sr_look_number D.c_BadNumber)) (sp_mafter D.c_Marks) E, ?_, ?_⟩)
  · first | (obtain ⟨_, rfl, _⟩ := h; rfl; done) | (obtain ⟨_, _, rfl, _⟩ := h; rfl; done) | (obtain ⟨_, _, _, rfl, _⟩ := h; rfl; done) | (obtain ⟨_, _, _, _, rfl, _⟩ := h; rfl; done) | (obtain ⟨_, _, _, _, _, rfl, _⟩ := h; rfl; done) | (obtain ⟨_, _, _, _, _, _, rfl, _⟩ := h; rfl; done) | (obtain ⟨_, _, _, _, _, _, _, rfl, _⟩ := h; rfl; done) | (obtain ⟨_, _, _, _, _, _, _, _, rfl, _⟩ := h; rfl; done) | (obtain ⟨_, _, _, _, _, _, _, _, _, rfl, _⟩ := h; rfl; done) | (obtain ⟨_, _, _, _, _, _, _, _, _, _, rfl, _⟩ := h; rfl; done) | (obtain ⟨_, _, _, _, _, _, _, _, _, _, _, rfl, _⟩ := h; rfl; done) | (obtain ⟨_, _, _, _, _, _, _, _, _, _, _, _, rfl, _⟩ := h; rfl; done) | (obtain ⟨_, _, _, _, _, _, _, _, _, _, _, _, _, rfl, _⟩ := h; rfl; done) | (obtain ⟨_, _, _, _, _, _, _, _, _, _, _, _, _, _, rfl, _⟩ := h; rfl; done) | (obtain ⟨_, _, _, _, _, _, _, _, _, _, _, _, _, _, _, rfl, _⟩ := h; rfl; done) | ((rcases h with h | h) <;> (first | (obtain ⟨_, rfl, _⟩ := h; rfl) | (obtain ⟨_, _, rfl, _⟩ := h; rfl) | (obtain ⟨_, _, _, rfl, _⟩ := h; rfl) | (obtain ⟨_, _, _, _, rfl, _⟩ := h; rfl) | (obtain ⟨_, _, _, _, _, rfl, _⟩ := h; rfl) | (obtain ⟨_, _, _, _, _, _, rfl, _⟩ := h; rfl) | (obtain ⟨_, _, _, _, _, _, _, rfl, _⟩ := h; rfl) | (obtain ⟨_, _, _, _, _, _, _, _, rfl, _⟩ := h; rfl) | (obtain ⟨_, _, _, _, _, _, _, _, _, rfl, _⟩ := h; rfl) | (obtain ⟨_, _, _, _, _, _, _, _, _, _, rfl, _⟩ := h; rfl) | (obtain ⟨_, _, _, _, _, _, _, _, _, _, _, rfl, _⟩ := h; rfl) | (obtain ⟨_, _, _, _, _, _, _, _, _, _, _, _, rfl, _⟩ := h; rfl) | (obtain ⟨_, _, _, _, _, _, _, _, _, _, _, _, _, rfl, _⟩ := h; rfl) | (obtain ⟨_, _, _, _, _, _, _, _, _, _, _, _, _, _, rfl, _⟩ := h; rfl) | (obtain ⟨_, _, _, _, _, _, _, _, _, _, _, _, _, _, _, rfl, _⟩ := h; rfl)))
  · have hu := hu_of hr
    exact pss_cons (ps_expr (pe_meth (pv 0) T.cl_Marks T.me_Marks_look_cell GR_Marks__Store_look_cell (hr.mono (by decide)) T.b_Store_look_cell .nil (passes_call (takes_of rfl rfl rfl rfl) fun _ _ _ _ h => h) (pa_cons (pv 1) (pa_nil))))
      (pss_cons (ps_expr (pe_call GR_look_number (hr.mono (by decide)) (by rfl) T.g_look_number T.F_look_number.kp T.b_look_number .nil (passes_call (takes_of rfl rfl rfl rfl) fun _ _ _ _ h => h) (pa_cons (pv 2) (pa_cons (pe_int) (pa_cons (pe_glob (by rfl) T.k_MOST_VALUE ⟨_, rfl⟩) (pa_nil))))))
      (pss_cons (ps_set (i := 3) sc_Store_swap.nd rfl (by first | exact Or.inl rfl | exact Or.inr rfl) (pe_ix ix_list (pe_fld (pv 0) (by rfl)) (pv 1) (fun _ _ => rfl)))
      (pss_cons (ps_dput hu (pe_fld (pv 0) (by rfl)) (pe_fld (pv 0) (by rfl)) (pv 2) (by rfl))
      (pss_cons (ps_asg (pe_fld (pv 0) (by rfl)) (pg_sub (pe_fld (pv 0) (by rfl)) (pv 1) set_list))
      (pss_cons (ps_fld (pv 0) (pe_op op_addI (pe_fld (pv 0) (by rfl)) (pe_int)) (by rfl))
      (pss_cons (ps_expr (pe_meth (pv 0) T.cl_Marks T.me_Marks_after_swap G_Marks__Marks_after_swap (hr.mono (by decide)) T.b_Marks_after_swap .nil passL (pa_cons (pv 3) (pa_nil))))
      (pss_one (ps_ret (pv 3)))))))))
  · exact purer_swap (X := (Exs.mk D.c_BadNumber D.c_NoHand D.c_NoCell D.c_NoMark D.c_IsIn D.c_NotIn D.c_NotHeld D.c_Gone D.c_BadPairs D.c_NotNow D.c_StoreError)) ⟨T.cl_Marks, T.na_Marks_hands, T.na_Marks_worth, T.na_Marks_cells, T.na_Marks_made⟩ h
set_option maxHeartbeats 8000000 in
theorem ok_Counts__Store_look_cell (T : Txt K mg D) : FnOk P w K mg base CX0 2 D.f_Store_look_cell D.d_Store_look_cell ["self", "cell"] (sp_look_cell D.c_Counts) := by
  have G_is_whole : FnOk P w K mg base CX0 1 D.f_is_whole D.d_is_whole ["thing", "low", "high"] (sp_is_whole) := ok_is_whole T
  refine T.F_Store_look_cell.ok sc_Store_look_cell (fun vs H Q E h => ?_) (fun cdv A outer s H vs Q E hr h => ⟨t_Store_look_cell K (sp_is_whole), ?_, ?_⟩)
  · first | (obtain ⟨_, rfl, _⟩ := h; rfl; done) | (obtain ⟨_, _, rfl, _⟩ := h; rfl; done) | (obtain ⟨_, _, _, rfl, _⟩ := h; rfl; done) | (obtain ⟨_, _, _, _, rfl, _⟩ := h; rfl; done) | (obtain ⟨_, _, _, _, _, rfl, _⟩ := h; rfl; done) | (obtain ⟨_, _, _, _, _, _, rfl, _⟩ := h; rfl; done) | (obtain ⟨_, _, _, _, _, _, _, rfl, _⟩ := h; rfl; done) | (obtain ⟨_, _, _, _, _, _, _, _, rfl, _⟩ := h; rfl; done) | (obtain ⟨_, _, _, _, _, _, _, _, _, rfl, _⟩ := h; rfl; done) | (obtain ⟨_, _, _, _, _, _, _, _, _, _, rfl, _⟩ := h; rfl; done) | (obtain ⟨_, _, _, _, _, _, _, _, _, _, _, rfl, _⟩ := h; rfl; done) | (obtain ⟨_, _, _, _, _, _, _, _, _, _, _, _, rfl, _⟩ := h; rfl; done) | (obtain ⟨_, _, _, _, _, _, _, _, _, _, _, _, _, rfl, _⟩ := h; rfl; done) | (obtain ⟨_, _, _, _, _, _, _, _, _, _, _, _, _, _, rfl, _⟩ := h; rfl; done) | (obtain ⟨_, _, _, _, _, _, _, _, _, _, _, _, _, _, _, rfl, _⟩ := h; rfl; done) | ((rcases h with h | h) <;> (first | (obtain ⟨_, rfl, _⟩ := h; rfl) | (obtain ⟨_, _, rfl, _⟩ := h; rfl) | (obtain ⟨_, _, _, rfl, _⟩ := h; rfl) | (obtain ⟨_, _, _, _, rfl, _⟩ := h; rfl) | (obtain ⟨_, _, _, _, _, rfl, _⟩ := h; rfl) | (obtain ⟨_, _, _, _, _, _, rfl, _⟩ := h; rfl) | (obtain ⟨_, _, _, _, _, _, _, rfl, _⟩ := h; rfl) | (obtain ⟨_, _, _, _, _, _, _, _, rfl, _⟩ := h; rfl) | (obtain ⟨_, _, _, _, _, _, _, _, _, rfl, _⟩ := h; rfl) | (obtain ⟨_, _, _, _, _, _, _, _, _, _, rfl, _⟩ := h; rfl) | (obtain ⟨_, _, _, _, _, _, _, _, _, _, _, rfl, _⟩ := h; rfl) | (obtain ⟨_, _, _, _, _, _, _, _, _, _, _, _, rfl, _⟩ := h; rfl) | (obtain ⟨_, _, _, _, _, _, _, _, _, _, _, _, _, rfl, _⟩ := h; rfl) | (obtain ⟨_, _, _, _, _, _, _, _, _, _, _, _, _, _, rfl, _⟩ := h; rfl) | (obtain ⟨_, _, _, _, _, _, _, _, _, _, _, _, _, _, _, rfl, _⟩ := h; rfl)))
  · have hu := hu_of hr
    exact pss_one (ps_if (pt_not (pt_val (pe_call G_is_whole (hr.mono (by decide)) (by rfl) T.g_is_whole T.F_is_whole.kp T.b_is_whole .nil pass0 (pa_cons (pv 1) (pa_cons (pe_int) (pa_cons (pe_op op_subI (pe_callB call_lenQ (by rfl) T.m_len PySem.boot_len (pa_cons (pe_fld (pv 0) (by rfl)) (pa_nil))) (pe_int)) (pa_nil))))))) (pss_one (ps_never)) (pss_nil))
  · exact pure_look_cell ⟨T.cl_Counts, T.na_Counts_hands, T.na_Counts_worth, T.na_Counts_cells, T.na_Counts_made⟩ h
set_option maxHeartbeats 8000000 in
theorem ok_Counts__Counts_count_of (T : Txt K mg D) : FnOk P w K mg base CX0 1 D.f_Counts_count_of D.d_Counts_count_of ["self", "thing"] (sp_count_of D.c_Counts) := by
  refine T.F_Counts_count_of.ok sc_Counts_count_of (fun vs H Q E h => ?_) (fun cdv A outer s H vs Q E hr h => ⟨t_Counts_count_of K, ?_, ?_⟩)
  · first | (obtain ⟨_, rfl, _⟩ := h; rfl; done) | (obtain ⟨_, _, rfl, _⟩ := h; rfl; done) | (obtain ⟨_, _, _, rfl, _⟩ := h; rfl; done) | (obtain ⟨_, _, _, _, rfl, _⟩ := h; rfl; done) | (obtain ⟨_, _, _, _, _, rfl, _⟩ := h; rfl; done) | (obtain ⟨_, _, _, _, _, _, rfl, _⟩ := h; rfl; done) | (obtain ⟨_, _, _, _, _, _, _, rfl, _⟩ := h; rfl; done) | (obtain ⟨_, _, _, _, _, _, _, _, rfl, _⟩ := h; rfl; done) | (obtain ⟨_, _, _, _, _, _, _, _, _, rfl, _⟩ := h; rfl; done) | (obtain ⟨_, _, _, _, _, _, _, _, _, _, rfl, _⟩ := h; rfl; done) | (obtain ⟨_, _, _, _, _, _, _, _, _, _, _, rfl, _⟩ := h; rfl; done) | (obtain ⟨_, _, _, _, _, _, _, _, _, _, _, _, rfl, _⟩ := h; rfl; done) | (obtain ⟨_, _, _, _, _, _, _, _, _, _, _, _, _, rfl, _⟩ := h; rfl; done) | (obtain ⟨_, _, _, _, _, _, _, _, _, _, _, _, _, _, rfl, _⟩ := h; rfl; done) | (obtain ⟨_, _, _, _, _, _, _, _, _, _, _, _, _, _, _, rfl, _⟩ := h; rfl; done) | ((rcases h with h | h) <;> (first | (obtain ⟨_, rfl, _⟩ := h; rfl) | (obtain ⟨_, _, rfl, _⟩ := h; rfl) | (obtain ⟨_, _, _, rfl, _⟩ := h; rfl) | (obtain ⟨_, _, _, _, rfl, _⟩ := h; rfl) | (obtain ⟨_, _, _, _, _, rfl, _⟩ := h; rfl) | (obtain ⟨_, _, _, _, _, _, rfl, _⟩ := h; rfl) | (obtain ⟨_, _, _, _, _, _, _, rfl, _⟩ := h; rfl) | (obtain ⟨_, _, _, _, _, _, _, _, rfl, _⟩ := h; rfl) | (obtain ⟨_, _, _, _, _, _, _, _, _, rfl, _⟩ := h; rfl) | (obtain ⟨_, _, _, _, _, _, _, _, _, _, rfl, _⟩ := h; rfl) | (obtain ⟨_, _, _, _, _, _, _, _, _, _, _, rfl, _⟩ := h; rfl) | (obtain ⟨_, _, _, _, _, _, _, _, _, _, _, _, rfl, _⟩ := h; rfl) | (obtain ⟨_, _, _, _, _, _, _, _, _, _, _, _, _, rfl, _⟩ := h; rfl) | (obtain ⟨_, _, _, _, _, _, _, _, _, _, _, _, _, _, rfl, _⟩ := h; rfl) | (obtain ⟨_, _, _, _, _, _, _, _, _, _, _, _, _, _, _, rfl, _⟩ := h; rfl)))
  · have hu := hu_of hr
    exact pss_one (ps_ret (pe_callB (cr_sum rfl) (by rfl) T.m_sum (by decide +kernel) (pa_cons (pe_lock (pe_lc (own := [("one", 2)]) (by rfl) sc_Counts_count_of.nd (pi_keys (pe_fld (pv 0) (by rfl))) (blkOk_by (own := [("one", 2)]) (N := ["self", "thing", "one"]) (sc := defScope s_Counts_count_of) (by decide +kernel)) (fun _ _ _ _ _ => pg_name (i := 2) sc_Counts_count_of.nd rfl (by first | exact Or.inl rfl | exact Or.inr rfl)) (fun _ _ _ _ _ => pts_one (pt_cmpR op_eq (pe_ix ix_tup (pv 2) (pe_int) (fun _ _ => rfl)) (pv 1) (nomark _))) (fun _ _ _ _ _ => pe_dget hu (pe_fld (pv 0) (by rfl)) (pv 2) (fun _ _ => rfl)))) (pa_nil))))
  · exact pure_count_of ⟨⟨T.cl_Counts, T.na_Counts_hands, T.na_Counts_worth, T.na_Counts_cells, T.na_Counts_made⟩, T.na_Counts_held⟩ h
set_option maxHeartbeats 8000000 in
theorem ok_Counts__Store_is_out (T : Txt K mg D) : FnOk P w K mg base CX0 1 D.f_Store_is_out D.d_Store_is_out ["self", "thing"] (sp_is_out D.c_Counts) := by
  refine T.F_Store_is_out.ok sc_Store_is_out (fun vs H Q E h => ?_) (fun cdv A outer s H vs Q E hr h => ⟨t_Store_is_out K, ?_, ?_⟩)
  · first | (obtain ⟨_, rfl, _⟩ := h; rfl; done) | (obtain ⟨_, _, rfl, _⟩ := h; rfl; done) | (obtain ⟨_, _, _, rfl, _⟩ := h; rfl; done) | (obtain ⟨_, _, _, _, rfl, _⟩ := h; rfl; done) | (obtain ⟨_, _, _, _, _, rfl, _⟩ := h; rfl; done) | (obtain ⟨_, _, _, _, _, _, rfl, _⟩ := h; rfl; done) | (obtain ⟨_, _, _, _, _, _, _, rfl, _⟩ := h; rfl; done) | (obtain ⟨_, _, _, _, _, _, _, _, rfl, _⟩ := h; rfl; done) | (obtain ⟨_, _, _, _, _, _, _, _, _, rfl, _⟩ := h; rfl; done) | (obtain ⟨_, _, _, _, _, _, _, _, _, _, rfl, _⟩ := h; rfl; done) | (obtain ⟨_, _, _, _, _, _, _, _, _, _, _, rfl, _⟩ := h; rfl; done) | (obtain ⟨_, _, _, _, _, _, _, _, _, _, _, _, rfl, _⟩ := h; rfl; done) | (obtain ⟨_, _, _, _, _, _, _, _, _, _, _, _, _, rfl, _⟩ := h; rfl; done) | (obtain ⟨_, _, _, _, _, _, _, _, _, _, _, _, _, _, rfl, _⟩ := h; rfl; done) | (obtain ⟨_, _, _, _, _, _, _, _, _, _, _, _, _, _, _, rfl, _⟩ := h; rfl; done) | ((rcases h with h | h) <;> (first | (obtain ⟨_, rfl, _⟩ := h; rfl) | (obtain ⟨_, _, rfl, _⟩ := h; rfl) | (obtain ⟨_, _, _, rfl, _⟩ := h; rfl) | (obtain ⟨_, _, _, _, rfl, _⟩ := h; rfl) | (obtain ⟨_, _, _, _, _, rfl, _⟩ := h; rfl) | (obtain ⟨_, _, _, _, _, _, rfl, _⟩ := h; rfl) | (obtain ⟨_, _, _, _, _, _, _, rfl, _⟩ := h; rfl) | (obtain ⟨_, _, _, _, _, _, _, _, rfl, _⟩ := h; rfl) | (obtain ⟨_, _, _, _, _, _, _, _, _, rfl, _⟩ := h; rfl) | (obtain ⟨_, _, _, _, _, _, _, _, _, _, rfl, _⟩ := h; rfl) | (obtain ⟨_, _, _, _, _, _, _, _, _, _, _, rfl, _⟩ := h; rfl) | (obtain ⟨_, _, _, _, _, _, _, _, _, _, _, _, rfl, _⟩ := h; rfl) | (obtain ⟨_, _, _, _, _, _, _, _, _, _, _, _, _, rfl, _⟩ := h; rfl) | (obtain ⟨_, _, _, _, _, _, _, _, _, _, _, _, _, _, rfl, _⟩ := h; rfl) | (obtain ⟨_, _, _, _, _, _, _, _, _, _, _, _, _, _, _, rfl, _⟩ := h; rfl)))
  · have hu := hu_of hr
    exact pss_one (ps_ret (pe_cmpR op_notIn_seq (pv 1) (pe_fld (pv 0) (by rfl)) (by rfl)))
  · exact pure_is_out ⟨T.cl_Counts, T.na_Counts_hands, T.na_Counts_worth, T.na_Counts_cells, T.na_Counts_made⟩ h
set_option maxHeartbeats 8000000 in
theorem ok_Counts__Store_let_go (T : Txt K mg D) : FnOk P w K mg base CX0 1 D.f_Store_let_go D.d_Store_let_go ["self", "things"] (sp_let_go D.c_Counts) := by
  refine T.F_Store_let_go.ok sc_Store_let_go (fun vs H Q E h => ?_) (fun cdv A outer s H vs Q E hr h => ⟨t_Store_let_go K, ?_, ?_⟩)
  · first | (obtain ⟨_, rfl, _⟩ := h; rfl; done) | (obtain ⟨_, _, rfl, _⟩ := h; rfl; done) | (obtain ⟨_, _, _, rfl, _⟩ := h; rfl; done) | (obtain ⟨_, _, _, _, rfl, _⟩ := h; rfl; done) | (obtain ⟨_, _, _, _, _, rfl, _⟩ := h; rfl; done) | (obtain ⟨_, _, _, _, _, _, rfl, _⟩ := h; rfl; done) | (obtain ⟨_, _, _, _, _, _, _, rfl, _⟩ := h; rfl; done) | (obtain ⟨_, _, _, _, _, _, _, _, rfl, _⟩ := h; rfl; done) | (obtain ⟨_, _, _, _, _, _, _, _, _, rfl, _⟩ := h; rfl; done) | (obtain ⟨_, _, _, _, _, _, _, _, _, _, rfl, _⟩ := h; rfl; done) | (obtain ⟨_, _, _, _, _, _, _, _, _, _, _, rfl, _⟩ := h; rfl; done) | (obtain ⟨_, _, _, _, _, _, _, _, _, _, _, _, rfl, _⟩ := h; rfl; done) | (obtain ⟨_, _, _, _, _, _, _, _, _, _, _, _, _, rfl, _⟩ := h; rfl; done) | (obtain ⟨_, _, _, _, _, _, _, _, _, _, _, _, _, _, rfl, _⟩ := h; rfl; done) | (obtain ⟨_, _, _, _, _, _, _, _, _, _, _, _, _, _, _, rfl, _⟩ := h; rfl; done) | ((rcases h with h | h) <;> (first | (obtain ⟨_, rfl, _⟩ := h; rfl) | (obtain ⟨_, _, rfl, _⟩ := h; rfl) | (obtain ⟨_, _, _, rfl, _⟩ := h; rfl) | (obtain ⟨_, _, _, _, rfl, _⟩ := h; rfl) | (obtain ⟨_, _, _, _, _, rfl, _⟩ := h; rfl) | (obtain ⟨_, _, _, _, _, _, rfl, _⟩ := h; rfl) | (obtain ⟨_, _, _, _, _, _, _, rfl, _⟩ := h; rfl) | (obtain ⟨_, _, _, _, _, _, _, _, rfl, _⟩ := h; rfl) | (obtain ⟨_, _, _, _, _, _, _, _, _, rfl, _⟩ := h; rfl) | (obtain ⟨_, _, _, _, _, _, _, _, _, _, rfl, _⟩ := h; rfl) | (obtain ⟨_, _, _, _, _, _, _, _, _, _, _, rfl, _⟩ := h; rfl) | (obtain ⟨_, _, _, _, _, _, _, _, _, _, _, _, rfl, _⟩ := h; rfl) | (obtain ⟨_, _, _, _, _, _, _, _, _, _, _, _, _, rfl, _⟩ := h; rfl) | (obtain ⟨_, _, _, _, _, _, _, _, _, _, _, _, _, _, rfl, _⟩ := h; rfl) | (obtain ⟨_, _, _, _, _, _, _, _, _, _, _, _, _, _, _, rfl, _⟩ := h; rfl)))
  · have hu := hu_of hr
    exact pss_cons (ps_for PassesOwn.never rfl (pi_list (pv 1)) (pg_name (i := 2) sc_Store_let_go.nd rfl (by first | exact Or.inl rfl | exact Or.inr rfl)) (pss_one (ps_expr (pe_dpop1 (pe_fld (pv 0) (by rfl)) (pv 2) ⟨rfl, rfl, rfl, rfl⟩))))
      (pss_one (ps_ret (pe_callB cr_sortedI (by rfl) T.m_sorted (by decide +kernel) (pa_cons (pv 1) (pa_nil)))))
  · exact pure_let_go ⟨T.cl_Counts, T.na_Counts_hands, T.na_Counts_worth, T.na_Counts_cells, T.na_Counts_made⟩ h
set_option maxHeartbeats 8000000 in
theorem ok_Counts__Counts_loose (T : Txt K mg D) : FnOk P w K mg base CX0 2 D.f_Counts_loose D.d_Counts_loose ["self", "thing"] (sp_loose D.c_Counts) := by
  have G_Counts__Counts_count_of : FnOk P w K mg base CX0 1 D.f_Counts_count_of D.d_Counts_count_of ["self", "thing"] (sp_count_of D.c_Counts) := ok_Counts__Counts_count_of T
  have G_Counts__Store_is_out : FnOk P w K mg base CX0 1 D.f_Store_is_out D.d_Store_is_out ["self", "thing"] (sp_is_out D.c_Counts) := ok_Counts__Store_is_out T
  have G_Counts__Store_let_go : FnOk P w K mg base CX0 1 D.f_Store_let_go D.d_Store_let_go ["self", "things"] (sp_let_go D.c_Counts) := ok_Counts__Store_let_go T
  refine T.F_Counts_loose.ok sc_Counts_loose (fun vs H Q E h => ?_) (fun cdv A outer s H vs Q E hr h => ⟨t_Counts_loose K D.c_Counts (sp_count_of D.c_Counts) (sp_is_out D.c_Counts) (sp_let_go D.c_Counts), ?_, ?_⟩)
  · first | (obtain ⟨_, rfl, _⟩ := h; rfl; done) | (obtain ⟨_, _, rfl, _⟩ := h; rfl; done) | (obtain ⟨_, _, _, rfl, _⟩ := h; rfl; done) | (obtain ⟨_, _, _, _, rfl, _⟩ := h; rfl; done) | (obtain ⟨_, _, _, _, _, rfl, _⟩ := h; rfl; done) | (obtain ⟨_, _, _, _, _, _, rfl, _⟩ := h; rfl; done) | (obtain ⟨_, _, _, _, _, _, _, rfl, _⟩ := h; rfl; done) | (obtain ⟨_, _, _, _, _, _, _, _, rfl, _⟩ := h; rfl; done) | (obtain ⟨_, _, _, _, _, _, _, _, _, rfl, _⟩ := h; rfl; done) | (obtain ⟨_, _, _, _, _, _, _, _, _, _, rfl, _⟩ := h; rfl; done) | (obtain ⟨_, _, _, _, _, _, _, _, _, _, _, rfl, _⟩ := h; rfl; done) | (obtain ⟨_, _, _, _, _, _, _, _, _, _, _, _, rfl, _⟩ := h; rfl; done) | (obtain ⟨_, _, _, _, _, _, _, _, _, _, _, _, _, rfl, _⟩ := h; rfl; done) | (obtain ⟨_, _, _, _, _, _, _, _, _, _, _, _, _, _, rfl, _⟩ := h; rfl; done) | (obtain ⟨_, _, _, _, _, _, _, _, _, _, _, _, _, _, _, rfl, _⟩ := h; rfl; done) | ((rcases h with h | h) <;> (first | (obtain ⟨_, rfl, _⟩ := h; rfl) | (obtain ⟨_, _, rfl, _⟩ := h; rfl) | (obtain ⟨_, _, _, rfl, _⟩ := h; rfl) | (obtain ⟨_, _, _, _, rfl, _⟩ := h; rfl) | (obtain ⟨_, _, _, _, _, rfl, _⟩ := h; rfl) | (obtain ⟨_, _, _, _, _, _, rfl, _⟩ := h; rfl) | (obtain ⟨_, _, _, _, _, _, _, rfl, _⟩ := h; rfl) | (obtain ⟨_, _, _, _, _, _, _, _, rfl, _⟩ := h; rfl) | (obtain ⟨_, _, _, _, _, _, _, _, _, rfl, _⟩ := h; rfl) | (obtain ⟨_, _, _, _, _, _, _, _, _, _, rfl, _⟩ := h; rfl) | (obtain ⟨_, _, _, _, _, _, _, _, _, _, _, rfl, _⟩ := h; rfl) | (obtain ⟨_, _, _, _, _, _, _, _, _, _, _, _, rfl, _⟩ := h; rfl) | (obtain ⟨_, _, _, _, _, _, _, _, _, _, _, _, _, rfl, _⟩ := h; rfl) | (obtain ⟨_, _, _, _, _, _, _, _, _, _, _, _, _, _, rfl, _⟩ := h; rfl) | (obtain ⟨_, _, _, _, _, _, _, _, _, _, _, _, _, _, _, rfl, _⟩ := h; rfl)))
  · have hu := hu_of hr
    exact pss_cons (ps_if (PW.pt (pw_or (pt_cmpR op_gtI (pe_meth (pv 0) T.cl_Counts T.me_Counts_count_of G_Counts__Counts_count_of (hr.mono (by decide)) T.b_Counts_count_of .nil pass0 (pa_cons (pv 1) (pa_nil))) (pe_int) (nomark _)) (pw_or1 (pt_not (pt_val (pe_meth (pv 0) T.cl_Counts T.me_Counts_is_out G_Counts__Store_is_out (hr.mono (by decide)) T.b_Store_is_out .nil pass0 (pa_cons (pv 1) (pa_nil)))))))) (pss_one (ps_ret (pe_bl))) (pss_nil))
      (pss_cons (ps_expr (pe_meth (pv 0) T.cl_Counts T.me_Counts_let_go G_Counts__Store_let_go (hr.mono (by decide)) T.b_Store_let_go .nil pass0 (pa_cons (pe_lst (pa_cons (pv 1) (pa_nil))) (pa_nil))))
      (pss_one (ps_ret (pe_bl))))
  · exact pure_loose ⟨⟨T.cl_Counts, T.na_Counts_hands, T.na_Counts_worth, T.na_Counts_cells, T.na_Counts_made⟩, T.na_Counts_held⟩ h
set_option maxHeartbeats 8000000 in
theorem ok_Counts__Counts_after_swap (T : Txt K mg D) : FnOk P w K mg base CX0 3 D.f_Counts_after_swap D.d_Counts_after_swap ["self", "thing"] (sp_cafter D.c_Counts) := by
  have G_Counts__Counts_loose : FnOk P w K mg base CX0 2 D.f_Counts_loose D.d_Counts_loose ["self", "thing"] (sp_loose D.c_Counts) := ok_Counts__Counts_loose T
  refine T.F_Counts_after_swap.ok sc_Counts_after_swap (fun vs H Q E h => ?_) (fun cdv A outer s H vs Q E hr h => ⟨t_Counts_after_swap K D.c_Counts (sp_loose D.c_Counts), ?_, ?_⟩)
  · first | (obtain ⟨_, rfl, _⟩ := h; rfl; done) | (obtain ⟨_, _, rfl, _⟩ := h; rfl; done) | (obtain ⟨_, _, _, rfl, _⟩ := h; rfl; done) | (obtain ⟨_, _, _, _, rfl, _⟩ := h; rfl; done) | (obtain ⟨_, _, _, _, _, rfl, _⟩ := h; rfl; done) | (obtain ⟨_, _, _, _, _, _, rfl, _⟩ := h; rfl; done) | (obtain ⟨_, _, _, _, _, _, _, rfl, _⟩ := h; rfl; done) | (obtain ⟨_, _, _, _, _, _, _, _, rfl, _⟩ := h; rfl; done) | (obtain ⟨_, _, _, _, _, _, _, _, _, rfl, _⟩ := h; rfl; done) | (obtain ⟨_, _, _, _, _, _, _, _, _, _, rfl, _⟩ := h; rfl; done) | (obtain ⟨_, _, _, _, _, _, _, _, _, _, _, rfl, _⟩ := h; rfl; done) | (obtain ⟨_, _, _, _, _, _, _, _, _, _, _, _, rfl, _⟩ := h; rfl; done) | (obtain ⟨_, _, _, _, _, _, _, _, _, _, _, _, _, rfl, _⟩ := h; rfl; done) | (obtain ⟨_, _, _, _, _, _, _, _, _, _, _, _, _, _, rfl, _⟩ := h; rfl; done) | (obtain ⟨_, _, _, _, _, _, _, _, _, _, _, _, _, _, _, rfl, _⟩ := h; rfl; done) | ((rcases h with h | h) <;> (first | (obtain ⟨_, rfl, _⟩ := h; rfl) | (obtain ⟨_, _, rfl, _⟩ := h; rfl) | (obtain ⟨_, _, _, rfl, _⟩ := h; rfl) | (obtain ⟨_, _, _, _, rfl, _⟩ := h; rfl) | (obtain ⟨_, _, _, _, _, rfl, _⟩ := h; rfl) | (obtain ⟨_, _, _, _, _, _, rfl, _⟩ := h; rfl) | (obtain ⟨_, _, _, _, _, _, _, rfl, _⟩ := h; rfl) | (obtain ⟨_, _, _, _, _, _, _, _, rfl, _⟩ := h; rfl) | (obtain ⟨_, _, _, _, _, _, _, _, _, rfl, _⟩ := h; rfl) | (obtain ⟨_, _, _, _, _, _, _, _, _, _, rfl, _⟩ := h; rfl) | (obtain ⟨_, _, _, _, _, _, _, _, _, _, _, rfl, _⟩ := h; rfl) | (obtain ⟨_, _, _, _, _, _, _, _, _, _, _, _, rfl, _⟩ := h; rfl) | (obtain ⟨_, _, _, _, _, _, _, _, _, _, _, _, _, rfl, _⟩ := h; rfl) | (obtain ⟨_, _, _, _, _, _, _, _, _, _, _, _, _, _, rfl, _⟩ := h; rfl) | (obtain ⟨_, _, _, _, _, _, _, _, _, _, _, _, _, _, _, rfl, _⟩ := h; rfl)))
  · have hu := hu_of hr
    exact pss_one (ps_expr (pe_meth (pv 0) T.cl_Counts T.me_Counts_loose G_Counts__Counts_loose (hr.mono (by decide)) T.b_Counts_loose .nil pass0 (pa_cons (pv 1) (pa_nil))))
  · exact pure_cafter ⟨⟨T.cl_Counts, T.na_Counts_hands, T.na_Counts_worth, T.na_Counts_cells, T.na_Counts_made⟩, T.na_Counts_held⟩ h
set_option maxHeartbeats 8000000 in
theorem ok_Counts__Store_swap (T : Txt K mg D) : FnOk P w K mg base CX0 4 D.f_Store_swap D.d_Store_swap ["self", "cell", "value"] (sp_swapC D.c_Counts) := by
  have G_Counts__Store_look_cell : FnOk P w K mg base CX0 2 D.f_Store_look_cell D.d_Store_look_cell ["self", "cell"] (sp_look_cell D.c_Counts) := ok_Counts__Store_look_cell T
  have G_look_number : FnOk P w K mg base CX0 2 D.f_look_number D.d_look_number ["thing", "low", "high"] (sp_look_number) := ok_look_number T
  have G_Counts__Counts_after_swap : FnOk P w K mg base CX0 3 D.f_Counts_after_swap D.d_Counts_after_swap ["self", "thing"] (sp_cafter D.c_Counts) := ok_Counts__Counts_after_swap T
  refine T.F_Store_swap.ok sc_Store_swap (fun vs H Q E h => ?_) (fun cdv A outer s H vs Q E hr h => ⟨t_Store_swap K D.c_Counts (sp_look_cell D.c_Counts) (sp_look_number) (sp_cafter D.c_Counts), ?_, ?_⟩)
  · first | (obtain ⟨_, rfl, _⟩ := h; rfl; done) | (obtain ⟨_, _, rfl, _⟩ := h; rfl; done) | (obtain ⟨_, _, _, rfl, _⟩ := h; rfl; done) | (obtain ⟨_, _, _, _, rfl, _⟩ := h; rfl; done) | (obtain ⟨_, _, _, _, _, rfl, _⟩ := h; rfl; done) | (obtain ⟨_, _, _, _, _, _, rfl, _⟩ := h; rfl; done) | (obtain ⟨_, _, _, _, _, _, _, rfl, _⟩ := h; rfl; done) | (obtain ⟨_, _, _, _, _, _, _, _, rfl, _⟩ := h; rfl; done) | (obtain ⟨_, _, _, _, _, _, _, _, _, rfl, _⟩ := h; rfl; done) | (obtain ⟨_, _, _, _, _, _, _, _, _, _, rfl, _⟩ := h; rfl; done) | (obtain ⟨_, _, _, _, _, _, _, _, _, _, _, rfl, _⟩ := h; rfl; done) | (obtain ⟨_, _, _, _, _, _, _, _, _, _, _, _, rfl, _⟩ := h; rfl; done) | (obtain ⟨_, _, _, _, _, _, _, _, _, _, _, _, _, rfl, _⟩ := h; rfl; done) | (obtain ⟨_, _, _, _, _, _, _, _, _, _, _, _, _, _, rfl, _⟩ := h; rfl; done) | (obtain ⟨_, _, _, _, _, _, _, _, _, _, _, _, _, _, _, rfl, _⟩ := h; rfl; done) | ((rcases h with h | h) <;> (first | (obtain ⟨_, rfl, _⟩ := h; rfl) | (obtain ⟨_, _, rfl, _⟩ := h; rfl) | (obtain ⟨_, _, _, rfl, _⟩ := h; rfl) | (obtain ⟨_, _, _, _, rfl, _⟩ := h; rfl) | (obtain ⟨_, _, _, _, _, rfl, _⟩ := h; rfl) | (obtain ⟨_, _, _, _, _, _, rfl, _⟩ := h; rfl) | (obtain ⟨_, _, _, _, _, _, _, rfl, _⟩ := h; rfl) | (obtain ⟨_, _, _, _, _, _, _, _, rfl, _⟩ := h; rfl) | (obtain ⟨_, _, _, _, _, _, _, _, _, rfl, _⟩ := h; rfl) | (obtain ⟨_, _, _, _, _, _, _, _, _, _, rfl, _⟩ := h; rfl) | (obtain ⟨_, _, _, _, _, _, _, _, _, _, _, rfl, _⟩ := h; rfl) | (obtain ⟨_, _, _, _, _, _, _, _, _, _, _, _, rfl, _⟩ := h; rfl) | (obtain ⟨_, _, _, _, _, _, _, _, _, _, _, _, _, rfl, _⟩ := h; rfl) | (obtain ⟨_, _, _, _, _, _, _, _, _, _, _, _, _, _, rfl, _⟩ := h; rfl) | (obtain ⟨_, _, _, _, _, _, _, _, _, _, _, _, _, _, _, rfl, _⟩ := h; rfl)))
  · have hu := hu_of hr
    exact pss_cons (ps_expr (pe_meth (pv 0) T.cl_Counts T.me_Counts_look_cell G_Counts__Store_look_cell (hr.mono (by decide)) T.b_Store_look_cell .nil pass0 (pa_cons (pv 1) (pa_nil))))
      (pss_cons (ps_expr (pe_call G_look_number (hr.mono (by decide)) (by rfl) T.g_look_number T.F_look_number.kp T.b_look_number .nil pass0 (pa_cons (pv 2) (pa_cons (pe_int) (pa_cons (pe_glob (by rfl) T.k_MOST_VALUE ⟨_, rfl⟩) (pa_nil))))))
      (pss_cons (ps_set (i := 3) sc_Store_swap.nd rfl (by first | exact Or.inl rfl | exact Or.inr rfl) (pe_ix ix_list (pe_fld (pv 0) (by rfl)) (pv 1) (fun _ _ => rfl)))
      (pss_cons (ps_dput hu (pe_fld (pv 0) (by rfl)) (pe_fld (pv 0) (by rfl)) (pv 2) (by rfl))
      (pss_cons (ps_asg (pe_fld (pv 0) (by rfl)) (pg_sub (pe_fld (pv 0) (by rfl)) (pv 1) set_list))
      (pss_cons (ps_fld (pv 0) (pe_op op_addI (pe_fld (pv 0) (by rfl)) (pe_int)) (by rfl))
      (pss_cons (ps_expr (pe_meth (pv 0) T.cl_Counts T.me_Counts_after_swap G_Counts__Counts_after_swap (hr.mono (by decide)) T.b_Counts_after_swap .nil pass0 (pa_cons (pv 3) (pa_nil))))
      (pss_one (ps_ret (pv 3)))))))))
  · exact pure_swap ⟨T.cl_Counts, T.na_Counts_hands, T.na_Counts_worth, T.na_Counts_cells, T.na_Counts_made⟩ h
set_option maxHeartbeats 8000000 in
theorem okr_Counts__Store_look_cell (T : Txt K mg D) : FnOk P w K mg base (L2.CX P w) 2 D.f_Store_look_cell D.d_Store_look_cell ["self", "cell"] (sr_look_cell D.c_Counts D.c_NoCell) := by
  have GR_is_whole : FnOk P w K mg base (L2.CX P w) 1 D.f_is_whole D.d_is_whole ["thing", "low", "high"] (spOr (sp_is_whole) (sr_is_whole)) := fn_or (fn_up (ok_is_whole T)) (okr_is_whole T)
  refine T.F_Store_look_cell.okX sc_Store_look_cell (fun vs H Q E h => ?_) (fun cdv A outer s H vs Q E hr h => ⟨tr_Store_look_cell K D.c_NoCell (spOr (sp_is_whole) (sr_is_whole)) E, ?_, ?_⟩)
  · first | (obtain ⟨_, rfl, _⟩ := h; rfl; done) | (obtain ⟨_, _, rfl, _⟩ := h; rfl; done) | (obtain ⟨_, _, _, rfl, _⟩ := h; rfl; done) | (obtain ⟨_, _, _, _, rfl, _⟩ := h; rfl; done) | (obtain ⟨_, _, _, _, _, rfl, _⟩ := h; rfl; done) | (obtain ⟨_, _, _, _, _, _, rfl, _⟩ := h; rfl; done) | (obtain ⟨_, _, _, _, _, _, _, rfl, _⟩ := h; rfl; done) | (obtain ⟨_, _, _, _, _, _, _, _, rfl, _⟩ := h; rfl; done) | (obtain ⟨_, _, _, _, _, _, _, _, _, rfl, _⟩ := h; rfl; done) | (obtain ⟨_, _, _, _, _, _, _, _, _, _, rfl, _⟩ := h; rfl; done) | (obtain ⟨_, _, _, _, _, _, _, _, _, _, _, rfl, _⟩ := h; rfl; done) | (obtain ⟨_, _, _, _, _, _, _, _, _, _, _, _, rfl, _⟩ := h; rfl; done) | (obtain ⟨_, _, _, _, _, _, _, _, _, _, _, _, _, rfl, _⟩ := h; rfl; done) | (obtain ⟨_, _, _, _, _, _, _, _, _, _, _, _, _, _, rfl, _⟩ := h; rfl; done) | (obtain ⟨_, _, _, _, _, _, _, _, _, _, _, _, _, _, _, rfl, _⟩ := h; rfl; done) | ((rcases h with h | h) <;> (first | (obtain ⟨_, rfl, _⟩ := h; rfl) | (obtain ⟨_, _, rfl, _⟩ := h; rfl) | (obtain ⟨_, _, _, rfl, _⟩ := h; rfl) | (obtain ⟨_, _, _, _, rfl, _⟩ := h; rfl) | (obtain ⟨_, _, _, _, _, rfl, _⟩ := h; rfl) | (obtain ⟨_, _, _, _, _, _, rfl, _⟩ := h; rfl) | (obtain ⟨_, _, _, _, _, _, _, rfl, _⟩ := h; rfl) | (obtain ⟨_, _, _, _, _, _, _, _, rfl, _⟩ := h; rfl) | (obtain ⟨_, _, _, _, _, _, _, _, _, rfl, _⟩ := h; rfl) | (obtain ⟨_, _, _, _, _, _, _, _, _, _, rfl, _⟩ := h; rfl) | (obtain ⟨_, _, _, _, _, _, _, _, _, _, _, rfl, _⟩ := h; rfl) | (obtain ⟨_, _, _, _, _, _, _, _, _, _, _, _, rfl, _⟩ := h; rfl) | (obtain ⟨_, _, _, _, _, _, _, _, _, _, _, _, _, rfl, _⟩ := h; rfl) | (obtain ⟨_, _, _, _, _, _, _, _, _, _, _, _, _, _, rfl, _⟩ := h; rfl) | (obtain ⟨_, _, _, _, _, _, _, _, _, _, _, _, _, _, _, rfl, _⟩ := h; rfl)))
  · have hu := hu_of hr
    exact pss_one (ps_if (pt_not (pt_val (pe_call GR_is_whole (hr.mono (by decide)) (by rfl) T.g_is_whole T.F_is_whole.kp T.b_is_whole .nil (passes_call (takes_of rfl rfl rfl rfl) fun _ _ _ _ h => h) (pa_cons (pv 1) (pa_cons (pe_int) (pa_cons (pe_op op_subI (pe_callB call_lenQ (by rfl) T.m_len PySem.boot_len (pa_cons (pe_fld (pv 0) (by rfl)) (pa_nil))) (pe_int)) (pa_nil))))))) (pss_one (ps_raise rfl (takes_of rfl rfl rfl rfl) (pmk_own PySem.F.excBase_ValueError T.xi_NoCell T.g_NoCell T.kp_NoCell (raises_own T.sb_NoCell T.ty_NoCell) (by rfl)))) (pss_nil))
  · exact purer_look_cell ⟨T.cl_Counts, T.na_Counts_hands, T.na_Counts_worth, T.na_Counts_cells, T.na_Counts_made⟩ h
set_option maxHeartbeats 8000000 in
theorem okr_Counts__Store_swap (T : Txt K mg D) : FnOk P w K mg base (L2.CX P w) 4 D.f_Store_swap D.d_Store_swap ["self", "cell", "value"] (sr_swap D.c_Counts (Exs.mk D.c_BadNumber D.c_NoHand D.c_NoCell D.c_NoMark D.c_IsIn D.c_NotIn D.c_NotHeld D.c_Gone D.c_BadPairs D.c_NotNow D.c_StoreError)) := by
  have GR_Counts__Store_look_cell : FnOk P w K mg base (L2.CX P w) 2 D.f_Store_look_cell D.d_Store_look_cell ["self", "cell"] (spOr (sp_look_cell D.c_Counts) (sr_look_cell D.c_Counts D.c_NoCell)) := fn_or (fn_up (ok_Counts__Store_look_cell T)) (okr_Counts__Store_look_cell T)
  have GR_look_number : FnOk P w K mg base (L2.CX P w) 2 D.f_look_number D.d_look_number ["thing", "low", "high"] (spOr (sp_look_number) (sr_look_number D.c_BadNumber)) := fn_or (fn_up (ok_look_number T)) (okr_look_number T)
  have G_Counts__Counts_after_swap : FnOk P w K mg base (L2.CX P w) 3 D.f_Counts_after_swap D.d_Counts_after_swap ["self", "thing"] (sp_cafter D.c_Counts) := fn_up (ok_Counts__Counts_after_swap T)
  refine T.F_Store_swap.okX sc_Store_swap (fun vs H Q E h => ?_) (fun cdv A outer s H vs Q E hr h => ⟨tr_Store_swap K D.c_Counts (spOr (sp_look_cell D.c_Counts) (sr_look_cell D.c_Counts D.c_NoCell)) (spOr (sp_look_number) (sr_look_number D.c_BadNumber)) (sp_cafter D.c_Counts) E, ?_, ?_⟩)
  · first | (obtain ⟨_, rfl, _⟩ := h; rfl; done) | (obtain ⟨_, _, rfl, _⟩ := h; rfl; done) | (obtain ⟨_, _, _, rfl, _⟩ := h; rfl; done) | (obtain ⟨_, _, _, _, rfl, _⟩ := h; rfl; done) | (obtain ⟨_, _, _, _, _, rfl, _⟩ := h; rfl; done) | (obtain ⟨_, _, _, _, _, _, rfl, _⟩ := h; rfl; done) | (obtain ⟨_, _, _, _, _, _, _, rfl, _⟩ := h; rfl; done) | (obtain ⟨_, _, _, _, _, _, _, _, rfl, _⟩ := h; rfl; done) | (obtain ⟨_, _, _, _, _, _, _, _, _, rfl, _⟩ := h; rfl; done) | (obtain ⟨_, _, _, _, _, _, _, _, _, _, rfl, _⟩ := h; rfl; done) | (obtain ⟨_, _, _, _, _, _, _, _, _, _, _, rfl, _⟩ := h; rfl; done) | (obtain ⟨_, _, _, _, _, _, _, _, _, _, _, _, rfl, _⟩ := h; rfl; done) | (obtain ⟨_, _, _, _, _, _, _, _, _, _, _, _, _, rfl, _⟩ := h; rfl; done) | (obtain ⟨_, _, _, _, _, _, _, _, _, _, _, _, _, _, rfl, _⟩ := h; rfl; done) | (obtain ⟨_, _, _, _, _, _, _, _, _, _, _, _, _, _, _, rfl, _⟩ := h; rfl; done) | ((rcases h with h | h) <;> (first | (obtain ⟨_, rfl, _⟩ := h; rfl) | (obtain ⟨_, _, rfl, _⟩ := h; rfl) | (obtain ⟨_, _, _, rfl, _⟩ := h; rfl) | (obtain ⟨_, _, _, _, rfl, _⟩ := h; rfl) | (obtain ⟨_, _, _, _, _, rfl, _⟩ := h; rfl) | (obtain ⟨_, _, _, _, _, _, rfl, _⟩ := h; rfl) | (obtain ⟨_, _, _, _, _, _, _, rfl, _⟩ := h; rfl) | (obtain ⟨_, _, _, _, _, _, _, _, rfl, _⟩ := h; rfl) | (obtain ⟨_, _, _, _, _, _, _, _, _, rfl, _⟩ := h; rfl) | (obtain ⟨_, _, _, _, _, _, _, _, _, _, rfl, _⟩ := h; rfl) | (obtain ⟨_, _, _, _, _, _, _, _, _, _, _, rfl, _⟩ := h; rfl) | (obtain ⟨_, _, _, _, _, _, _, _, _, _, _, _, rfl, _⟩ := h; rfl) | (obtain ⟨_, _, _, _, _, _, _, _, _, _, _, _, _, rfl, _⟩ := h; rfl) | (obtain ⟨_, _, _, _, _, _, _, _, _, _, _, _, _, _, rfl, _⟩ := h; rfl) | (obtain ⟨_, _, _, _, _, _, _, _, _, _, _, _, _, _, _, rfl, _⟩ := h; rfl)))
  · have hu := hu_of hr
    exact pss_cons (ps_expr (pe_meth (pv 0) T.cl_Counts T.me_Counts_look_cell GR_Counts__Store_look_cell (hr.mono (by decide)) T.b_Store_look_cell .nil (passes_call (takes_of rfl rfl rfl rfl) fun _ _ _ _ h => h) (pa_cons (pv 1) (pa_nil))))
      (pss_cons (ps_expr (pe_call GR_look_number (hr.mono (by decide)) (by rfl) T.g_look_number T.F_look_number.kp T.b_look_number .nil (passes_call (takes_of rfl rfl rfl rfl) fun _ _ _ _ h => h) (pa_cons (pv 2) (pa_cons (pe_int) (pa_cons (pe_glob (by rfl) T.k_MOST_VALUE ⟨_, rfl⟩) (pa_nil))))))
      (pss_cons (ps_set (i := 3) sc_Store_swap.nd rfl (by first | exact Or.inl rfl | exact Or.inr rfl) (pe_ix ix_list (pe_fld (pv 0) (by rfl)) (pv 1) (fun _ _ => rfl)))
      (pss_cons (ps_dput hu (pe_fld (pv 0) (by rfl)) (pe_fld (pv 0) (by rfl)) (pv 2) (by rfl))
      (pss_cons (ps_asg (pe_fld (pv 0) (by rfl)) (pg_sub (pe_fld (pv 0) (by rfl)) (pv 1) set_list))
      (pss_cons (ps_fld (pv 0) (pe_op op_addI (pe_fld (pv 0) (by rfl)) (pe_int)) (by rfl))
      (pss_cons (ps_expr (pe_meth (pv 0) T.cl_Counts T.me_Counts_after_swap G_Counts__Counts_after_swap (hr.mono (by decide)) T.b_Counts_after_swap .nil passL (pa_cons (pv 3) (pa_nil))))
      (pss_one (ps_ret (pv 3)))))))))
  · exact purer_swap (X := (Exs.mk D.c_BadNumber D.c_NoHand D.c_NoCell D.c_NoMark D.c_IsIn D.c_NotIn D.c_NotHeld D.c_Gone D.c_BadPairs D.c_NotNow D.c_StoreError)) ⟨T.cl_Counts, T.na_Counts_hands, T.na_Counts_worth, T.na_Counts_cells, T.na_Counts_made⟩ h
set_option maxHeartbeats 8000000 in
theorem ok__law_refusal (T : Txt K mg D) : FnOk P w K mg base CX0 1 D.f__law_refusal D.d__law_refusal ["caught"] (sp__law_refusal (Exs.mk D.c_BadNumber D.c_NoHand D.c_NoCell D.c_NoMark D.c_IsIn D.c_NotIn D.c_NotHeld D.c_Gone D.c_BadPairs D.c_NotNow D.c_StoreError) [0, 2]) := by
  refine T.F__law_refusal.ok sc__law_refusal (fun vs H Q E h => ?_) (fun cdv A outer s H vs Q E hr h => ⟨t__law_refusal K D.c_NoCell D.c_NoHand D.c_BadNumber D.c_NotIn D.c_IsIn D.c_NoMark D.c_BadPairs D.c_Gone D.c_NotHeld D.c_NotNow D.c_StoreError, ?_, ?_⟩)
  · first | (obtain ⟨_, rfl, _⟩ := h; rfl; done) | (obtain ⟨_, _, rfl, _⟩ := h; rfl; done) | (obtain ⟨_, _, _, rfl, _⟩ := h; rfl; done) | (obtain ⟨_, _, _, _, rfl, _⟩ := h; rfl; done) | (obtain ⟨_, _, _, _, _, rfl, _⟩ := h; rfl; done) | (obtain ⟨_, _, _, _, _, _, rfl, _⟩ := h; rfl; done) | (obtain ⟨_, _, _, _, _, _, _, rfl, _⟩ := h; rfl; done) | (obtain ⟨_, _, _, _, _, _, _, _, rfl, _⟩ := h; rfl; done) | (obtain ⟨_, _, _, _, _, _, _, _, _, rfl, _⟩ := h; rfl; done) | (obtain ⟨_, _, _, _, _, _, _, _, _, _, rfl, _⟩ := h; rfl; done) | (obtain ⟨_, _, _, _, _, _, _, _, _, _, _, rfl, _⟩ := h; rfl; done) | (obtain ⟨_, _, _, _, _, _, _, _, _, _, _, _, rfl, _⟩ := h; rfl; done) | (obtain ⟨_, _, _, _, _, _, _, _, _, _, _, _, _, rfl, _⟩ := h; rfl; done) | (obtain ⟨_, _, _, _, _, _, _, _, _, _, _, _, _, _, rfl, _⟩ := h; rfl; done) | (obtain ⟨_, _, _, _, _, _, _, _, _, _, _, _, _, _, _, rfl, _⟩ := h; rfl; done) | ((rcases h with h | h) <;> (first | (obtain ⟨_, rfl, _⟩ := h; rfl) | (obtain ⟨_, _, rfl, _⟩ := h; rfl) | (obtain ⟨_, _, _, rfl, _⟩ := h; rfl) | (obtain ⟨_, _, _, _, rfl, _⟩ := h; rfl) | (obtain ⟨_, _, _, _, _, rfl, _⟩ := h; rfl) | (obtain ⟨_, _, _, _, _, _, rfl, _⟩ := h; rfl) | (obtain ⟨_, _, _, _, _, _, _, rfl, _⟩ := h; rfl) | (obtain ⟨_, _, _, _, _, _, _, _, rfl, _⟩ := h; rfl) | (obtain ⟨_, _, _, _, _, _, _, _, _, rfl, _⟩ := h; rfl) | (obtain ⟨_, _, _, _, _, _, _, _, _, _, rfl, _⟩ := h; rfl) | (obtain ⟨_, _, _, _, _, _, _, _, _, _, _, rfl, _⟩ := h; rfl) | (obtain ⟨_, _, _, _, _, _, _, _, _, _, _, _, rfl, _⟩ := h; rfl) | (obtain ⟨_, _, _, _, _, _, _, _, _, _, _, _, _, rfl, _⟩ := h; rfl) | (obtain ⟨_, _, _, _, _, _, _, _, _, _, _, _, _, _, rfl, _⟩ := h; rfl) | (obtain ⟨_, _, _, _, _, _, _, _, _, _, _, _, _, _, _, rfl, _⟩ := h; rfl)))
  · have hu := hu_of hr
    exact pss_cons (ps_set (i := 1) sc__law_refusal.nd rfl (by first | exact Or.inl rfl | exact Or.inr rfl) (pe_lst (pa_cons (pe_callB call_isK (by rfl) T.m_isinstance (by decide +kernel) (pa_cons (pv 0) (pa_cons (pe_glob (v := .ref D.c_BadNumber) (by rfl) T.g_BadNumber rfl) (pa_nil)))) (pa_cons (pe_callB call_isK (by rfl) T.m_isinstance (by decide +kernel) (pa_cons (pv 0) (pa_cons (pe_glob (v := .ref D.c_NoHand) (by rfl) T.g_NoHand rfl) (pa_nil)))) (pa_cons (pe_callB call_isK (by rfl) T.m_isinstance (by decide +kernel) (pa_cons (pv 0) (pa_cons (pe_glob (v := .ref D.c_NoCell) (by rfl) T.g_NoCell rfl) (pa_nil)))) (pa_nil))))))
      (pss_cons (ps_set (i := 1) sc__law_refusal.nd rfl (by first | exact Or.inl rfl | exact Or.inr rfl) (pe_op op_cat (pv 1) (pe_lst (pa_cons (pe_callB call_isK (by rfl) T.m_isinstance (by decide +kernel) (pa_cons (pv 0) (pa_cons (pe_glob (v := .ref D.c_NoMark) (by rfl) T.g_NoMark rfl) (pa_nil)))) (pa_cons (pe_callB call_isK (by rfl) T.m_isinstance (by decide +kernel) (pa_cons (pv 0) (pa_cons (pe_glob (v := .ref D.c_IsIn) (by rfl) T.g_IsIn rfl) (pa_nil)))) (pa_cons (pe_callB call_isK (by rfl) T.m_isinstance (by decide +kernel) (pa_cons (pv 0) (pa_cons (pe_glob (v := .ref D.c_NotIn) (by rfl) T.g_NotIn rfl) (pa_nil)))) (pa_nil)))))))
      (pss_cons (ps_set (i := 1) sc__law_refusal.nd rfl (by first | exact Or.inl rfl | exact Or.inr rfl) (pe_op op_cat (pv 1) (pe_lst (pa_cons (pe_callB call_isK (by rfl) T.m_isinstance (by decide +kernel) (pa_cons (pv 0) (pa_cons (pe_glob (v := .ref D.c_NotHeld) (by rfl) T.g_NotHeld rfl) (pa_nil)))) (pa_cons (pe_callB call_isK (by rfl) T.m_isinstance (by decide +kernel) (pa_cons (pv 0) (pa_cons (pe_glob (v := .ref D.c_Gone) (by rfl) T.g_Gone rfl) (pa_nil)))) (pa_cons (pe_callB call_isK (by rfl) T.m_isinstance (by decide +kernel) (pa_cons (pv 0) (pa_cons (pe_glob (v := .ref D.c_BadPairs) (by rfl) T.g_BadPairs rfl) (pa_nil)))) (pa_nil)))))))
      (pss_cons (ps_set (i := 1) sc__law_refusal.nd rfl (by first | exact Or.inl rfl | exact Or.inr rfl) (pe_op op_cat (pv 1) (pe_lst (pa_cons (pe_callB call_isK (by rfl) T.m_isinstance (by decide +kernel) (pa_cons (pv 0) (pa_cons (pe_glob (v := .ref D.c_NotNow) (by rfl) T.g_NotNow rfl) (pa_nil)))) (pa_nil)))))
      (pss_cons (ps_if (PW.pt (pw_or (pt_cmpR op_ne (pe_bm PySem.F.plainAttrs_list PySem.F.slot_list_count PySem.F.type_list_count mt_countV (pv 1) (pa_cons (pe_bl) (pa_nil))) (pe_int) (nomark _)) (pw_or (pt_not (pt_val (pe_callB call_isK (by rfl) T.m_isinstance (by decide +kernel) (pa_cons (pv 0) (pa_cons (pe_glob (v := .ref D.c_StoreError) (by rfl) T.g_StoreError rfl) (pa_nil)))))) (pw_or1 (pt_not (pt_val (pe_callB call_isK (by rfl) T.m_isinstance (by decide +kernel) (pa_cons (pv 0) (pa_cons (pe_bltn (v := .ty "ValueError") (by rfl) T.m_ValueError (by decide +kernel) rfl) pa_nil))))))))) (pss_one (ps_ret (pe_str))) (pss_nil))
      (pss_cons (ps_set (i := 2) sc__law_refusal.nd rfl (by first | exact Or.inl rfl | exact Or.inr rfl) (pe_lst (pa_cons (pe_str) (pa_cons (pe_str) (pa_cons (pe_str) (pa_cons (pe_str) (pa_cons (pe_str) (pa_cons (pe_str) (pa_cons (pe_str) (pa_cons (pe_str) (pa_cons (pe_str) (pa_cons (pe_str) (pa_nil)))))))))))))
      (pss_one (ps_ret (pe_ix ix_list (pv 2) (pe_bm PySem.F.plainAttrs_list PySem.F.slot_list_index PySem.F.type_list_index mt_index (pv 1) (pa_cons (pe_bl) (pa_nil))) (fun _ _ => rfl)))))))))
  · exact pure__law_refusal (X := (Exs.mk D.c_BadNumber D.c_NoHand D.c_NoCell D.c_NoMark D.c_IsIn D.c_NotIn D.c_NotHeld D.c_Gone D.c_BadPairs D.c_NotNow D.c_StoreError)) (fun i hi => by rcases (by simpa using hi : i = 0 ∨ i = 2) with rfl | rfl <;> first | exact (⟨by decide, T.ec_BadNumber, T.ki_BadNumber_BadNumber, T.ki_BadNumber_NoHand, T.ki_BadNumber_NoCell, T.ki_BadNumber_NoMark, T.ki_BadNumber_IsIn, T.ki_BadNumber_NotIn, T.ki_BadNumber_NotHeld, T.ki_BadNumber_Gone, T.ki_BadNumber_BadPairs, T.ki_BadNumber_NotNow, T.ki_BadNumber_StoreError, T.kv_BadNumber, T.em_BadNumber⟩ : RefK K (Exs.mk D.c_BadNumber D.c_NoHand D.c_NoCell D.c_NoMark D.c_IsIn D.c_NotIn D.c_NotHeld D.c_Gone D.c_BadPairs D.c_NotNow D.c_StoreError) 0) | exact (⟨by decide, T.ec_NoCell, T.ki_NoCell_BadNumber, T.ki_NoCell_NoHand, T.ki_NoCell_NoCell, T.ki_NoCell_NoMark, T.ki_NoCell_IsIn, T.ki_NoCell_NotIn, T.ki_NoCell_NotHeld, T.ki_NoCell_Gone, T.ki_NoCell_BadPairs, T.ki_NoCell_NotNow, T.ki_NoCell_StoreError, T.kv_NoCell, T.em_NoCell⟩ : RefK K (Exs.mk D.c_BadNumber D.c_NoHand D.c_NoCell D.c_NoMark D.c_IsIn D.c_NotIn D.c_NotHeld D.c_Gone D.c_BadPairs D.c_NotNow D.c_StoreError) 2)) h
set_option maxHeartbeats 8000000 in
theorem ok__law_asked (T : Txt K mg D) : FnOk P w K mg base CX0 6 D.f__law_asked D.d__law_asked ["store", "kind", "one", "other"] (sp__law_asked D.c_Store D.c_Rounds D.c_Marks D.c_Counts (Exs.mk D.c_BadNumber D.c_NoHand D.c_NoCell D.c_NoMark D.c_IsIn D.c_NotIn D.c_NotHeld D.c_Gone D.c_BadPairs D.c_NotNow D.c_StoreError)) := by
  have GR_mk_Store : FnOk P w K mg base (L2.CX P w) 3 D.f_Store_init D.d_Store_init ["self", "hands", "cells"] (spOr (sp_init D.c_Store) (sr_init D.c_Store (Exs.mk D.c_BadNumber D.c_NoHand D.c_NoCell D.c_NoMark D.c_IsIn D.c_NotIn D.c_NotHeld D.c_Gone D.c_BadPairs D.c_NotNow D.c_StoreError))) := fn_or (fn_up (ok_mk_Store T)) (okr_mk_Store T)
  have GR_mk_Marks : FnOk P w K mg base (L2.CX P w) 4 D.f_Marks_init D.d_Marks_init ["self", "hands", "cells"] (spOr (sp_minit D.c_Marks) (sr_minit D.c_Marks (Exs.mk D.c_BadNumber D.c_NoHand D.c_NoCell D.c_NoMark D.c_IsIn D.c_NotIn D.c_NotHeld D.c_Gone D.c_BadPairs D.c_NotNow D.c_StoreError))) := fn_or (fn_up (ok_mk_Marks T)) (okr_mk_Marks T)
  have GR_Store__Store_swap : FnOk P w K mg base (L2.CX P w) 3 D.f_Store_swap D.d_Store_swap ["self", "cell", "value"] (spOr (sp_swap D.c_Store sp_after0) (sr_swap D.c_Store (Exs.mk D.c_BadNumber D.c_NoHand D.c_NoCell D.c_NoMark D.c_IsIn D.c_NotIn D.c_NotHeld D.c_Gone D.c_BadPairs D.c_NotNow D.c_StoreError))) := fn_or (fn_up (ok_Store__Store_swap T)) (okr_Store__Store_swap T)
  have GR_Rounds__Store_swap : FnOk P w K mg base (L2.CX P w) 3 D.f_Store_swap D.d_Store_swap ["self", "cell", "value"] (spOr (sp_swapR D.c_Rounds) (sr_swap D.c_Rounds (Exs.mk D.c_BadNumber D.c_NoHand D.c_NoCell D.c_NoMark D.c_IsIn D.c_NotIn D.c_NotHeld D.c_Gone D.c_BadPairs D.c_NotNow D.c_StoreError))) := fn_or (fn_up (ok_Rounds__Store_swap T)) (okr_Rounds__Store_swap T)
  have GR_Marks__Store_swap : FnOk P w K mg base (L2.CX P w) 3 D.f_Store_swap D.d_Store_swap ["self", "cell", "value"] (spOr (sp_swapM D.c_Marks) (sr_swap D.c_Marks (Exs.mk D.c_BadNumber D.c_NoHand D.c_NoCell D.c_NoMark D.c_IsIn D.c_NotIn D.c_NotHeld D.c_Gone D.c_BadPairs D.c_NotNow D.c_StoreError))) := fn_or (fn_up (ok_Marks__Store_swap T)) (okr_Marks__Store_swap T)
  have GR_Counts__Store_swap : FnOk P w K mg base (L2.CX P w) 4 D.f_Store_swap D.d_Store_swap ["self", "cell", "value"] (spOr (sp_swapC D.c_Counts) (sr_swap D.c_Counts (Exs.mk D.c_BadNumber D.c_NoHand D.c_NoCell D.c_NoMark D.c_IsIn D.c_NotIn D.c_NotHeld D.c_Gone D.c_BadPairs D.c_NotNow D.c_StoreError))) := fn_or (fn_up (ok_Counts__Store_swap T)) (okr_Counts__Store_swap T)
  have G__law_refusal : FnOk P w K mg base CX0 1 D.f__law_refusal D.d__law_refusal ["caught"] (sp__law_refusal (Exs.mk D.c_BadNumber D.c_NoHand D.c_NoCell D.c_NoMark D.c_IsIn D.c_NotIn D.c_NotHeld D.c_Gone D.c_BadPairs D.c_NotNow D.c_StoreError) [0, 2]) := ok__law_refusal T
  refine T.F__law_asked.ok sc__law_asked (fun vs H Q E h => ?_) (fun cdv A outer s H vs Q E hr h => ⟨t__law_asked K D.c_StoreError D.c_Store D.c_Marks D.c_Rounds D.c_Counts (spOr (sp_init D.c_Store) (sr_init D.c_Store (Exs.mk D.c_BadNumber D.c_NoHand D.c_NoCell D.c_NoMark D.c_IsIn D.c_NotIn D.c_NotHeld D.c_Gone D.c_BadPairs D.c_NotNow D.c_StoreError))) (spOr (sp_minit D.c_Marks) (sr_minit D.c_Marks (Exs.mk D.c_BadNumber D.c_NoHand D.c_NoCell D.c_NoMark D.c_IsIn D.c_NotIn D.c_NotHeld D.c_Gone D.c_BadPairs D.c_NotNow D.c_StoreError))) (spOr (sp_swap D.c_Store sp_after0) (sr_swap D.c_Store (Exs.mk D.c_BadNumber D.c_NoHand D.c_NoCell D.c_NoMark D.c_IsIn D.c_NotIn D.c_NotHeld D.c_Gone D.c_BadPairs D.c_NotNow D.c_StoreError))) (spOr (sp_swapR D.c_Rounds) (sr_swap D.c_Rounds (Exs.mk D.c_BadNumber D.c_NoHand D.c_NoCell D.c_NoMark D.c_IsIn D.c_NotIn D.c_NotHeld D.c_Gone D.c_BadPairs D.c_NotNow D.c_StoreError))) (spOr (sp_swapM D.c_Marks) (sr_swap D.c_Marks (Exs.mk D.c_BadNumber D.c_NoHand D.c_NoCell D.c_NoMark D.c_IsIn D.c_NotIn D.c_NotHeld D.c_Gone D.c_BadPairs D.c_NotNow D.c_StoreError))) (spOr (sp_swapC D.c_Counts) (sr_swap D.c_Counts (Exs.mk D.c_BadNumber D.c_NoHand D.c_NoCell D.c_NoMark D.c_IsIn D.c_NotIn D.c_NotHeld D.c_Gone D.c_BadPairs D.c_NotNow D.c_StoreError))) (sp__law_refusal (Exs.mk D.c_BadNumber D.c_NoHand D.c_NoCell D.c_NoMark D.c_IsIn D.c_NotIn D.c_NotHeld D.c_Gone D.c_BadPairs D.c_NotNow D.c_StoreError) [0, 2]), ?_, ?_⟩)
  · first | (obtain ⟨_, rfl, _⟩ := h; rfl; done) | (obtain ⟨_, _, rfl, _⟩ := h; rfl; done) | (obtain ⟨_, _, _, rfl, _⟩ := h; rfl; done) | (obtain ⟨_, _, _, _, rfl, _⟩ := h; rfl; done) | (obtain ⟨_, _, _, _, _, rfl, _⟩ := h; rfl; done) | (obtain ⟨_, _, _, _, _, _, rfl, _⟩ := h; rfl; done) | (obtain ⟨_, _, _, _, _, _, _, rfl, _⟩ := h; rfl; done) | (obtain ⟨_, _, _, _, _, _, _, _, rfl, _⟩ := h; rfl; done) | (obtain ⟨_, _, _, _, _, _, _, _, _, rfl, _⟩ := h; rfl; done) | (obtain ⟨_, _, _, _, _, _, _, _, _, _, rfl, _⟩ := h; rfl; done) | (obtain ⟨_, _, _, _, _, _, _, _, _, _, _, rfl, _⟩ := h; rfl; done) | (obtain ⟨_, _, _, _, _, _, _, _, _, _, _, _, rfl, _⟩ := h; rfl; done) | (obtain ⟨_, _, _, _, _, _, _, _, _, _, _, _, _, rfl, _⟩ := h; rfl; done) | (obtain ⟨_, _, _, _, _, _, _, _, _, _, _, _, _, _, rfl, _⟩ := h; rfl; done) | (obtain ⟨_, _, _, _, _, _, _, _, _, _, _, _, _, _, _, rfl, _⟩ := h; rfl; done) | ((rcases h with h | h) <;> (first | (obtain ⟨_, rfl, _⟩ := h; rfl) | (obtain ⟨_, _, rfl, _⟩ := h; rfl) | (obtain ⟨_, _, _, rfl, _⟩ := h; rfl) | (obtain ⟨_, _, _, _, rfl, _⟩ := h; rfl) | (obtain ⟨_, _, _, _, _, rfl, _⟩ := h; rfl) | (obtain ⟨_, _, _, _, _, _, rfl, _⟩ := h; rfl) | (obtain ⟨_, _, _, _, _, _, _, rfl, _⟩ := h; rfl) | (obtain ⟨_, _, _, _, _, _, _, _, rfl, _⟩ := h; rfl) | (obtain ⟨_, _, _, _, _, _, _, _, _, rfl, _⟩ := h; rfl) | (obtain ⟨_, _, _, _, _, _, _, _, _, _, rfl, _⟩ := h; rfl) | (obtain ⟨_, _, _, _, _, _, _, _, _, _, _, rfl, _⟩ := h; rfl) | (obtain ⟨_, _, _, _, _, _, _, _, _, _, _, _, rfl, _⟩ := h; rfl) | (obtain ⟨_, _, _, _, _, _, _, _, _, _, _, _, _, rfl, _⟩ := h; rfl) | (obtain ⟨_, _, _, _, _, _, _, _, _, _, _, _, _, _, rfl, _⟩ := h; rfl) | (obtain ⟨_, _, _, _, _, _, _, _, _, _, _, _, _, _, _, rfl, _⟩ := h; rfl)))
  · have hu := hu_of hr
    exact pss_cons (ps_set (i := 4) sc__law_asked.nd rfl (by first | exact Or.inl rfl | exact Or.inr rfl) (pe_non))
      (pss_cons (ps_try_keep (i := 5) rfl rfl rfl sc__law_asked.nd rfl rfl ⟨by rfl, by decide, .inl T.g_StoreError⟩ takes0 (fun W pn xe tk _ => pss_one (ps_if (pt_cmpR op_eq (pv 1) (pe_int) (nomark _)) (pss_one (ps_expr (pe_makeS T.mk_Store GR_mk_Store (hr.mono (by decide)) (by rfl) T.g_Store T.b_Store_init (fun σ => passAt tk σ) (pa_cons (pv 2) (pa_cons (pv 3) (pa_nil)))))) (pss_one (ps_if (pt_cmpR op_eq (pv 1) (pe_int) (nomark _)) (pss_one (ps_expr (pe_makeS T.mk_Marks GR_mk_Marks (hr.mono (by decide)) (by rfl) T.g_Marks T.b_Marks_init (fun σ => passAt tk σ) (pa_cons (pv 2) (pa_cons (pv 3) (pa_nil)))))) (pss_one (ps_expr (pe_orE (pe_methS' (pv 0) T.cl_Store T.me_Store_swap GR_Store__Store_swap (hr.mono (by decide)) T.b_Store_swap (fun σ => passAt tk σ) (pa_cons (pv 2) (pa_cons (pv 3) (pa_nil)))) (pe_orE (pe_methS' (pv 0) T.cl_Rounds T.me_Rounds_swap GR_Rounds__Store_swap (hr.mono (by decide)) T.b_Store_swap (fun σ => passAt tk σ) (pa_cons (pv 2) (pa_cons (pv 3) (pa_nil)))) (pe_orE (pe_methS' (pv 0) T.cl_Marks T.me_Marks_swap GR_Marks__Store_swap (hr.mono (by decide)) T.b_Store_swap (fun σ => passAt tk σ) (pa_cons (pv 2) (pa_cons (pv 3) (pa_nil)))) (pe_methS' (pv 0) T.cl_Counts T.me_Counts_swap GR_Counts__Store_swap (hr.mono (by decide)) T.b_Store_swap (fun σ => passAt tk σ) (pa_cons (pv 2) (pa_cons (pv 3) (pa_nil))))))))))))) (fun a oe cls d pn hz hf => pss_one (ps_set (i := 4) sc__law_asked.nd rfl (by first | exact Or.inl rfl | exact Or.inr rfl) (pv 5))))
      (pss_one (ps_ret (pe_ifExp (pt_cmpR op_isNo (pv 4) (pe_non) (nomark _)) (pe_str) (pe_call G__law_refusal (hr.mono (by decide)) (by rfl) T.g__law_refusal T.F__law_refusal.kp T.b__law_refusal .nil pass0 (pa_cons (pv 4) (pa_nil)))))))
  · exact pure__law_asked (X := (Exs.mk D.c_BadNumber D.c_NoHand D.c_NoCell D.c_NoMark D.c_IsIn D.c_NotIn D.c_NotHeld D.c_Gone D.c_BadPairs D.c_NotNow D.c_StoreError)) (fun i hi => by rcases (by simpa using hi : i = 0 ∨ i = 2) with rfl | rfl <;> first | exact (⟨by decide, T.ec_BadNumber, T.ki_BadNumber_BadNumber, T.ki_BadNumber_NoHand, T.ki_BadNumber_NoCell, T.ki_BadNumber_NoMark, T.ki_BadNumber_IsIn, T.ki_BadNumber_NotIn, T.ki_BadNumber_NotHeld, T.ki_BadNumber_Gone, T.ki_BadNumber_BadPairs, T.ki_BadNumber_NotNow, T.ki_BadNumber_StoreError, T.kv_BadNumber, T.em_BadNumber⟩ : RefK K (Exs.mk D.c_BadNumber D.c_NoHand D.c_NoCell D.c_NoMark D.c_IsIn D.c_NotIn D.c_NotHeld D.c_Gone D.c_BadPairs D.c_NotNow D.c_StoreError) 0) | exact (⟨by decide, T.ec_NoCell, T.ki_NoCell_BadNumber, T.ki_NoCell_NoHand, T.ki_NoCell_NoCell, T.ki_NoCell_NoMark, T.ki_NoCell_IsIn, T.ki_NoCell_NotIn, T.ki_NoCell_NotHeld, T.ki_NoCell_Gone, T.ki_NoCell_BadPairs, T.ki_NoCell_NotNow, T.ki_NoCell_StoreError, T.kv_NoCell, T.em_NoCell⟩ : RefK K (Exs.mk D.c_BadNumber D.c_NoHand D.c_NoCell D.c_NoMark D.c_IsIn D.c_NotIn D.c_NotHeld D.c_Gone D.c_BadPairs D.c_NotNow D.c_StoreError) 2)) h
set_option maxHeartbeats 8000000 in
theorem ok__law_odd (T : Txt K mg D) : FnOk P w K mg base CX0 3 D.f__law_odd D.d__law_odd ["town", "most"] (sp__law_odd) := by
  have G__law_pick : FnOk P w K mg base CX0 2 D.f__law_pick D.d__law_pick ["town", "some"] (sp__law_pick) := ok__law_pick T
  have G__law_draw : FnOk P w K mg base CX0 1 D.f__law_draw D.d__law_draw ["town", "many"] (sp__law_draw) := ok__law_draw T
  refine T.F__law_odd.ok sc__law_odd (fun vs H Q E h => ?_) (fun cdv A outer s H vs Q E hr h => ⟨t__law_odd K (sp__law_pick) (sp__law_draw), ?_, ?_⟩)
  · first | (obtain ⟨_, rfl, _⟩ := h; rfl; done) | (obtain ⟨_, _, rfl, _⟩ := h; rfl; done) | (obtain ⟨_, _, _, rfl, _⟩ := h; rfl; done) | (obtain ⟨_, _, _, _, rfl, _⟩ := h; rfl; done) | (obtain ⟨_, _, _, _, _, rfl, _⟩ := h; rfl; done) | (obtain ⟨_, _, _, _, _, _, rfl, _⟩ := h; rfl; done) | (obtain ⟨_, _, _, _, _, _, _, rfl, _⟩ := h; rfl; done) | (obtain ⟨_, _, _, _, _, _, _, _, rfl, _⟩ := h; rfl; done) | (obtain ⟨_, _, _, _, _, _, _, _, _, rfl, _⟩ := h; rfl; done) | (obtain ⟨_, _, _, _, _, _, _, _, _, _, rfl, _⟩ := h; rfl; done) | (obtain ⟨_, _, _, _, _, _, _, _, _, _, _, rfl, _⟩ := h; rfl; done) | (obtain ⟨_, _, _, _, _, _, _, _, _, _, _, _, rfl, _⟩ := h; rfl; done) | (obtain ⟨_, _, _, _, _, _, _, _, _, _, _, _, _, rfl, _⟩ := h; rfl; done) | (obtain ⟨_, _, _, _, _, _, _, _, _, _, _, _, _, _, rfl, _⟩ := h; rfl; done) | (obtain ⟨_, _, _, _, _, _, _, _, _, _, _, _, _, _, _, rfl, _⟩ := h; rfl; done) | ((rcases h with h | h) <;> (first | (obtain ⟨_, rfl, _⟩ := h; rfl) | (obtain ⟨_, _, rfl, _⟩ := h; rfl) | (obtain ⟨_, _, _, rfl, _⟩ := h; rfl) | (obtain ⟨_, _, _, _, rfl, _⟩ := h; rfl) | (obtain ⟨_, _, _, _, _, rfl, _⟩ := h; rfl) | (obtain ⟨_, _, _, _, _, _, rfl, _⟩ := h; rfl) | (obtain ⟨_, _, _, _, _, _, _, rfl, _⟩ := h; rfl) | (obtain ⟨_, _, _, _, _, _, _, _, rfl, _⟩ := h; rfl) | (obtain ⟨_, _, _, _, _, _, _, _, _, rfl, _⟩ := h; rfl) | (obtain ⟨_, _, _, _, _, _, _, _, _, _, rfl, _⟩ := h; rfl) | (obtain ⟨_, _, _, _, _, _, _, _, _, _, _, rfl, _⟩ := h; rfl) | (obtain ⟨_, _, _, _, _, _, _, _, _, _, _, _, rfl, _⟩ := h; rfl) | (obtain ⟨_, _, _, _, _, _, _, _, _, _, _, _, _, rfl, _⟩ := h; rfl) | (obtain ⟨_, _, _, _, _, _, _, _, _, _, _, _, _, _, rfl, _⟩ := h; rfl) | (obtain ⟨_, _, _, _, _, _, _, _, _, _, _, _, _, _, _, rfl, _⟩ := h; rfl)))
  · have hu := hu_of hr
    exact pss_one (ps_ret (pe_call G__law_pick (hr.mono (by decide)) (by rfl) T.g__law_pick T.F__law_pick.kp T.b__law_pick .nil pass0 (pa_cons (pv 0) (pa_cons (pe_lst (pa_cons (pv 1) (pa_cons (pe_op op_subI (pe_int) (pe_int)) (pa_cons (pe_bl) (pa_cons (pe_non) (pa_cons (pe_str) (pa_cons (pe_lst (pa_cons (pe_int) (pa_nil))) (pa_cons (pe_bl) (pa_cons (pe_op op_addI (pv 1) (pe_call G__law_draw (hr.mono (by decide)) (by rfl) T.g__law_draw T.F__law_draw.kp T.b__law_draw .nil pass0 (pa_cons (pv 0) (pa_cons (pe_int) (pa_nil))))) (pa_nil)))))))))) (pa_nil)))))
  · exact pure__law_odd h
set_option maxHeartbeats 8000000 in
theorem ok_Store__Store_kept (T : Txt K mg D) : FnOk P w K mg base CX0 1 D.f_Store_kept D.d_Store_kept ["self"] (sp_kept D.c_Store) := by
  refine T.F_Store_kept.ok sc_Store_kept (fun vs H Q E h => ?_) (fun cdv A outer s H vs Q E hr h => ⟨t_Store_kept K, ?_, ?_⟩)
  · first | (obtain ⟨_, rfl, _⟩ := h; rfl; done) | (obtain ⟨_, _, rfl, _⟩ := h; rfl; done) | (obtain ⟨_, _, _, rfl, _⟩ := h; rfl; done) | (obtain ⟨_, _, _, _, rfl, _⟩ := h; rfl; done) | (obtain ⟨_, _, _, _, _, rfl, _⟩ := h; rfl; done) | (obtain ⟨_, _, _, _, _, _, rfl, _⟩ := h; rfl; done) | (obtain ⟨_, _, _, _, _, _, _, rfl, _⟩ := h; rfl; done) | (obtain ⟨_, _, _, _, _, _, _, _, rfl, _⟩ := h; rfl; done) | (obtain ⟨_, _, _, _, _, _, _, _, _, rfl, _⟩ := h; rfl; done) | (obtain ⟨_, _, _, _, _, _, _, _, _, _, rfl, _⟩ := h; rfl; done) | (obtain ⟨_, _, _, _, _, _, _, _, _, _, _, rfl, _⟩ := h; rfl; done) | (obtain ⟨_, _, _, _, _, _, _, _, _, _, _, _, rfl, _⟩ := h; rfl; done) | (obtain ⟨_, _, _, _, _, _, _, _, _, _, _, _, _, rfl, _⟩ := h; rfl; done) | (obtain ⟨_, _, _, _, _, _, _, _, _, _, _, _, _, _, rfl, _⟩ := h; rfl; done) | (obtain ⟨_, _, _, _, _, _, _, _, _, _, _, _, _, _, _, rfl, _⟩ := h; rfl; done) | ((rcases h with h | h) <;> (first | (obtain ⟨_, rfl, _⟩ := h; rfl) | (obtain ⟨_, _, rfl, _⟩ := h; rfl) | (obtain ⟨_, _, _, rfl, _⟩ := h; rfl) | (obtain ⟨_, _, _, _, rfl, _⟩ := h; rfl) | (obtain ⟨_, _, _, _, _, rfl, _⟩ := h; rfl) | (obtain ⟨_, _, _, _, _, _, rfl, _⟩ := h; rfl) | (obtain ⟨_, _, _, _, _, _, _, rfl, _⟩ := h; rfl) | (obtain ⟨_, _, _, _, _, _, _, _, rfl, _⟩ := h; rfl) | (obtain ⟨_, _, _, _, _, _, _, _, _, rfl, _⟩ := h; rfl) | (obtain ⟨_, _, _, _, _, _, _, _, _, _, rfl, _⟩ := h; rfl) | (obtain ⟨_, _, _, _, _, _, _, _, _, _, _, rfl, _⟩ := h; rfl) | (obtain ⟨_, _, _, _, _, _, _, _, _, _, _, _, rfl, _⟩ := h; rfl) | (obtain ⟨_, _, _, _, _, _, _, _, _, _, _, _, _, rfl, _⟩ := h; rfl) | (obtain ⟨_, _, _, _, _, _, _, _, _, _, _, _, _, _, rfl, _⟩ := h; rfl) | (obtain ⟨_, _, _, _, _, _, _, _, _, _, _, _, _, _, _, rfl, _⟩ := h; rfl)))
  · have hu := hu_of hr
    exact pss_one (ps_ret (pe_callB (call_sortD rfl) (by rfl) T.m_sorted (by decide +kernel) (pa_cons (pe_fld (pv 0) (by rfl)) (pa_nil))))
  · exact pure_kept ⟨T.cl_Store, T.na_Store_hands, T.na_Store_worth, T.na_Store_cells, T.na_Store_made⟩ h
set_option maxHeartbeats 8000000 in
theorem ok_Rounds__Store_kept (T : Txt K mg D) : FnOk P w K mg base CX0 1 D.f_Store_kept D.d_Store_kept ["self"] (sp_kept D.c_Rounds) := by
  refine T.F_Store_kept.ok sc_Store_kept (fun vs H Q E h => ?_) (fun cdv A outer s H vs Q E hr h => ⟨t_Store_kept K, ?_, ?_⟩)
  · first | (obtain ⟨_, rfl, _⟩ := h; rfl; done) | (obtain ⟨_, _, rfl, _⟩ := h; rfl; done) | (obtain ⟨_, _, _, rfl, _⟩ := h; rfl; done) | (obtain ⟨_, _, _, _, rfl, _⟩ := h; rfl; done) | (obtain ⟨_, _, _, _, _, rfl, _⟩ := h; rfl; done) | (obtain ⟨_, _, _, _, _, _, rfl, _⟩ := h; rfl; done) | (obtain ⟨_, _, _, _, _, _, _, rfl, _⟩ := h; rfl; done) | (obtain ⟨_, _, _, _, _, _, _, _, rfl, _⟩ := h; rfl; done) | (obtain ⟨_, _, _, _, _, _, _, _, _, rfl, _⟩ := h; rfl; done) | (obtain ⟨_, _, _, _, _, _, _, _, _, _, rfl, _⟩ := h; rfl; done) | (obtain ⟨_, _, _, _, _, _, _, _, _, _, _, rfl, _⟩ := h; rfl; done) | (obtain ⟨_, _, _, _, _, _, _, _, _, _, _, _, rfl, _⟩ := h; rfl; done) | (obtain ⟨_, _, _, _, _, _, _, _, _, _, _, _, _, rfl, _⟩ := h; rfl; done) | (obtain ⟨_, _, _, _, _, _, _, _, _, _, _, _, _, _, rfl, _⟩ := h; rfl; done) | (obtain ⟨_, _, _, _, _, _, _, _, _, _, _, _, _, _, _, rfl, _⟩ := h; rfl; done) | ((rcases h with h | h) <;> (first | (obtain ⟨_, rfl, _⟩ := h; rfl) | (obtain ⟨_, _, rfl, _⟩ := h; rfl) | (obtain ⟨_, _, _, rfl, _⟩ := h; rfl) | (obtain ⟨_, _, _, _, rfl, _⟩ := h; rfl) | (obtain ⟨_, _, _, _, _, rfl, _⟩ := h; rfl) | (obtain ⟨_, _, _, _, _, _, rfl, _⟩ := h; rfl) | (obtain ⟨_, _, _, _, _, _, _, rfl, _⟩ := h; rfl) | (obtain ⟨_, _, _, _, _, _, _, _, rfl, _⟩ := h; rfl) | (obtain ⟨_, _, _, _, _, _, _, _, _, rfl, _⟩ := h; rfl) | (obtain ⟨_, _, _, _, _, _, _, _, _, _, rfl, _⟩ := h; rfl) | (obtain ⟨_, _, _, _, _, _, _, _, _, _, _, rfl, _⟩ := h; rfl) | (obtain ⟨_, _, _, _, _, _, _, _, _, _, _, _, rfl, _⟩ := h; rfl) | (obtain ⟨_, _, _, _, _, _, _, _, _, _, _, _, _, rfl, _⟩ := h; rfl) | (obtain ⟨_, _, _, _, _, _, _, _, _, _, _, _, _, _, rfl, _⟩ := h; rfl) | (obtain ⟨_, _, _, _, _, _, _, _, _, _, _, _, _, _, _, rfl, _⟩ := h; rfl)))
  · have hu := hu_of hr
    exact pss_one (ps_ret (pe_callB (call_sortD rfl) (by rfl) T.m_sorted (by decide +kernel) (pa_cons (pe_fld (pv 0) (by rfl)) (pa_nil))))
  · exact pure_kept ⟨T.cl_Rounds, T.na_Rounds_hands, T.na_Rounds_worth, T.na_Rounds_cells, T.na_Rounds_made⟩ h
set_option maxHeartbeats 8000000 in
theorem ok_Marks__Store_kept (T : Txt K mg D) : FnOk P w K mg base CX0 1 D.f_Store_kept D.d_Store_kept ["self"] (sp_kept D.c_Marks) := by
  refine T.F_Store_kept.ok sc_Store_kept (fun vs H Q E h => ?_) (fun cdv A outer s H vs Q E hr h => ⟨t_Store_kept K, ?_, ?_⟩)
  · first | (obtain ⟨_, rfl, _⟩ := h; rfl; done) | (obtain ⟨_, _, rfl, _⟩ := h; rfl; done) | (obtain ⟨_, _, _, rfl, _⟩ := h; rfl; done) | (obtain ⟨_, _, _, _, rfl, _⟩ := h; rfl; done) | (obtain ⟨_, _, _, _, _, rfl, _⟩ := h; rfl; done) | (obtain ⟨_, _, _, _, _, _, rfl, _⟩ := h; rfl; done) | (obtain ⟨_, _, _, _, _, _, _, rfl, _⟩ := h; rfl; done) | (obtain ⟨_, _, _, _, _, _, _, _, rfl, _⟩ := h; rfl; done) | (obtain ⟨_, _, _, _, _, _, _, _, _, rfl, _⟩ := h; rfl; done) | (obtain ⟨_, _, _, _, _, _, _, _, _, _, rfl, _⟩ := h; rfl; done) | (obtain ⟨_, _, _, _, _, _, _, _, _, _, _, rfl, _⟩ := h; rfl; done) | (obtain ⟨_, _, _, _, _, _, _, _, _, _, _, _, rfl, _⟩ := h; rfl; done) | (obtain ⟨_, _, _, _, _, _, _, _, _, _, _, _, _, rfl, _⟩ := h; rfl; done) | (obtain ⟨_, _, _, _, _, _, _, _, _, _, _, _, _, _, rfl, _⟩ := h; rfl; done) | (obtain ⟨_, _, _, _, _, _, _, _, _, _, _, _, _, _, _, rfl, _⟩ := h; rfl; done) | ((rcases h with h | h) <;> (first | (obtain ⟨_, rfl, _⟩ := h; rfl) | (obtain ⟨_, _, rfl, _⟩ := h; rfl) | (obtain ⟨_, _, _, rfl, _⟩ := h; rfl) | (obtain ⟨_, _, _, _, rfl, _⟩ := h; rfl) | (obtain ⟨_, _, _, _, _, rfl, _⟩ := h; rfl) | (obtain ⟨_, _, _, _, _, _, rfl, _⟩ := h; rfl) | (obtain ⟨_, _, _, _, _, _, _, rfl, _⟩ := h; rfl) | (obtain ⟨_, _, _, _, _, _, _, _, rfl, _⟩ := h; rfl) | (obtain ⟨_, _, _, _, _, _, _, _, _, rfl, _⟩ := h; rfl) | (obtain ⟨_, _, _, _, _, _, _, _, _, _, rfl, _⟩ := h; rfl) | (obtain ⟨_, _, _, _, _, _, _, _, _, _, _, rfl, _⟩ := h; rfl) | (obtain ⟨_, _, _, _, _, _, _, _, _, _, _, _, rfl, _⟩ := h; rfl) | (obtain ⟨_, _, _, _, _, _, _, _, _, _, _, _, _, rfl, _⟩ := h; rfl) | (obtain ⟨_, _, _, _, _, _, _, _, _, _, _, _, _, _, rfl, _⟩ := h; rfl) | (obtain ⟨_, _, _, _, _, _, _, _, _, _, _, _, _, _, _, rfl, _⟩ := h; rfl)))
  · have hu := hu_of hr
    exact pss_one (ps_ret (pe_callB (call_sortD rfl) (by rfl) T.m_sorted (by decide +kernel) (pa_cons (pe_fld (pv 0) (by rfl)) (pa_nil))))
  · exact pure_kept ⟨T.cl_Marks, T.na_Marks_hands, T.na_Marks_worth, T.na_Marks_cells, T.na_Marks_made⟩ h
set_option maxHeartbeats 8000000 in
theorem ok_Counts__Store_kept (T : Txt K mg D) : FnOk P w K mg base CX0 1 D.f_Store_kept D.d_Store_kept ["self"] (sp_kept D.c_Counts) := by
  refine T.F_Store_kept.ok sc_Store_kept (fun vs H Q E h => ?_) (fun cdv A outer s H vs Q E hr h => ⟨t_Store_kept K, ?_, ?_⟩)
  · first | (obtain ⟨_, rfl, _⟩ := h; rfl; done) | (obtain ⟨_, _, rfl, _⟩ := h; rfl; done) | (obtain ⟨_, _, _, rfl, _⟩ := h; rfl; done) | (obtain ⟨_, _, _, _, rfl, _⟩ := h; rfl; done) | (obtain ⟨_, _, _, _, _, rfl, _⟩ := h; rfl; done) | (obtain ⟨_, _, _, _, _, _, rfl, _⟩ := h; rfl; done) | (obtain ⟨_, _, _, _, _, _, _, rfl, _⟩ := h; rfl; done) | (obtain ⟨_, _, _, _, _, _, _, _, rfl, _⟩ := h; rfl; done) | (obtain ⟨_, _, _, _, _, _, _, _, _, rfl, _⟩ := h; rfl; done) | (obtain ⟨_, _, _, _, _, _, _, _, _, _, rfl, _⟩ := h; rfl; done) | (obtain ⟨_, _, _, _, _, _, _, _, _, _, _, rfl, _⟩ := h; rfl; done) | (obtain ⟨_, _, _, _, _, _, _, _, _, _, _, _, rfl, _⟩ := h; rfl; done) | (obtain ⟨_, _, _, _, _, _, _, _, _, _, _, _, _, rfl, _⟩ := h; rfl; done) | (obtain ⟨_, _, _, _, _, _, _, _, _, _, _, _, _, _, rfl, _⟩ := h; rfl; done) | (obtain ⟨_, _, _, _, _, _, _, _, _, _, _, _, _, _, _, rfl, _⟩ := h; rfl; done) | ((rcases h with h | h) <;> (first | (obtain ⟨_, rfl, _⟩ := h; rfl) | (obtain ⟨_, _, rfl, _⟩ := h; rfl) | (obtain ⟨_, _, _, rfl, _⟩ := h; rfl) | (obtain ⟨_, _, _, _, rfl, _⟩ := h; rfl) | (obtain ⟨_, _, _, _, _, rfl, _⟩ := h; rfl) | (obtain ⟨_, _, _, _, _, _, rfl, _⟩ := h; rfl) | (obtain ⟨_, _, _, _, _, _, _, rfl, _⟩ := h; rfl) | (obtain ⟨_, _, _, _, _, _, _, _, rfl, _⟩ := h; rfl) | (obtain ⟨_, _, _, _, _, _, _, _, _, rfl, _⟩ := h; rfl) | (obtain ⟨_, _, _, _, _, _, _, _, _, _, rfl, _⟩ := h; rfl) | (obtain ⟨_, _, _, _, _, _, _, _, _, _, _, rfl, _⟩ := h; rfl) | (obtain ⟨_, _, _, _, _, _, _, _, _, _, _, _, rfl, _⟩ := h; rfl) | (obtain ⟨_, _, _, _, _, _, _, _, _, _, _, _, _, rfl, _⟩ := h; rfl) | (obtain ⟨_, _, _, _, _, _, _, _, _, _, _, _, _, _, rfl, _⟩ := h; rfl) | (obtain ⟨_, _, _, _, _, _, _, _, _, _, _, _, _, _, _, rfl, _⟩ := h; rfl)))
  · have hu := hu_of hr
    exact pss_one (ps_ret (pe_callB (call_sortD rfl) (by rfl) T.m_sorted (by decide +kernel) (pa_cons (pe_fld (pv 0) (by rfl)) (pa_nil))))
  · exact pure_kept ⟨T.cl_Counts, T.na_Counts_hands, T.na_Counts_worth, T.na_Counts_cells, T.na_Counts_made⟩ h
set_option maxHeartbeats 8000000 in
theorem ok_Store__Store_now (T : Txt K mg D) : FnOk P w K mg base CX0 1 D.f_Store_now D.d_Store_now ["self"] (sp_now D.c_Store) := by
  refine T.F_Store_now.ok sc_Store_now (fun vs H Q E h => ?_) (fun cdv A outer s H vs Q E hr h => ⟨t_Store_now K, ?_, ?_⟩)
  · first | (obtain ⟨_, rfl, _⟩ := h; rfl; done) | (obtain ⟨_, _, rfl, _⟩ := h; rfl; done) | (obtain ⟨_, _, _, rfl, _⟩ := h; rfl; done) | (obtain ⟨_, _, _, _, rfl, _⟩ := h; rfl; done) | (obtain ⟨_, _, _, _, _, rfl, _⟩ := h; rfl; done) | (obtain ⟨_, _, _, _, _, _, rfl, _⟩ := h; rfl; done) | (obtain ⟨_, _, _, _, _, _, _, rfl, _⟩ := h; rfl; done) | (obtain ⟨_, _, _, _, _, _, _, _, rfl, _⟩ := h; rfl; done) | (obtain ⟨_, _, _, _, _, _, _, _, _, rfl, _⟩ := h; rfl; done) | (obtain ⟨_, _, _, _, _, _, _, _, _, _, rfl, _⟩ := h; rfl; done) | (obtain ⟨_, _, _, _, _, _, _, _, _, _, _, rfl, _⟩ := h; rfl; done) | (obtain ⟨_, _, _, _, _, _, _, _, _, _, _, _, rfl, _⟩ := h; rfl; done) | (obtain ⟨_, _, _, _, _, _, _, _, _, _, _, _, _, rfl, _⟩ := h; rfl; done) | (obtain ⟨_, _, _, _, _, _, _, _, _, _, _, _, _, _, rfl, _⟩ := h; rfl; done) | (obtain ⟨_, _, _, _, _, _, _, _, _, _, _, _, _, _, _, rfl, _⟩ := h; rfl; done) | ((rcases h with h | h) <;> (first | (obtain ⟨_, rfl, _⟩ := h; rfl) | (obtain ⟨_, _, rfl, _⟩ := h; rfl) | (obtain ⟨_, _, _, rfl, _⟩ := h; rfl) | (obtain ⟨_, _, _, _, rfl, _⟩ := h; rfl) | (obtain ⟨_, _, _, _, _, rfl, _⟩ := h; rfl) | (obtain ⟨_, _, _, _, _, _, rfl, _⟩ := h; rfl) | (obtain ⟨_, _, _, _, _, _, _, rfl, _⟩ := h; rfl) | (obtain ⟨_, _, _, _, _, _, _, _, rfl, _⟩ := h; rfl) | (obtain ⟨_, _, _, _, _, _, _, _, _, rfl, _⟩ := h; rfl) | (obtain ⟨_, _, _, _, _, _, _, _, _, _, rfl, _⟩ := h; rfl) | (obtain ⟨_, _, _, _, _, _, _, _, _, _, _, rfl, _⟩ := h; rfl) | (obtain ⟨_, _, _, _, _, _, _, _, _, _, _, _, rfl, _⟩ := h; rfl) | (obtain ⟨_, _, _, _, _, _, _, _, _, _, _, _, _, rfl, _⟩ := h; rfl) | (obtain ⟨_, _, _, _, _, _, _, _, _, _, _, _, _, _, rfl, _⟩ := h; rfl) | (obtain ⟨_, _, _, _, _, _, _, _, _, _, _, _, _, _, _, rfl, _⟩ := h; rfl)))
  · have hu := hu_of hr
    exact pss_one (ps_ret (pe_lc (own := [("thing", 1)]) (by rfl) sc_Store_now.nd (pi_list (pe_fld (pv 0) (by rfl))) (blkOk_by (own := [("thing", 1)]) (N := ["self", "thing"]) (sc := defScope s_Store_now) (by decide +kernel)) (fun _ _ _ _ _ => pg_name (i := 1) sc_Store_now.nd rfl (by first | exact Or.inl rfl | exact Or.inr rfl)) (fun _ _ _ _ _ => pts_nil) (fun _ _ _ _ _ => pe_dget hu (pe_fld (pv 0) (by rfl)) (pv 1) (fun _ _ => rfl))))
  · exact pure_now ⟨T.cl_Store, T.na_Store_hands, T.na_Store_worth, T.na_Store_cells, T.na_Store_made⟩ h
set_option maxHeartbeats 8000000 in
theorem ok_Rounds__Store_now (T : Txt K mg D) : FnOk P w K mg base CX0 1 D.f_Store_now D.d_Store_now ["self"] (sp_now D.c_Rounds) := by
  refine T.F_Store_now.ok sc_Store_now (fun vs H Q E h => ?_) (fun cdv A outer s H vs Q E hr h => ⟨t_Store_now K, ?_, ?_⟩)
  · first | (obtain ⟨_, rfl, _⟩ := h; rfl; done) | (obtain ⟨_, _, rfl, _⟩ := h; rfl; done) | (obtain ⟨_, _, _, rfl, _⟩ := h; rfl; done) | (obtain ⟨_, _, _, _, rfl, _⟩ := h; rfl; done) | (obtain ⟨_, _, _, _, _, rfl, _⟩ := h; rfl; done) | (obtain ⟨_, _, _, _, _, _, rfl, _⟩ := h; rfl; done) | (obtain ⟨_, _, _, _, _, _, _, rfl, _⟩ := h; rfl; done) | (obtain ⟨_, _, _, _, _, _, _, _, rfl, _⟩ := h; rfl; done) | (obtain ⟨_, _, _, _, _, _, _, _, _, rfl, _⟩ := h; rfl; done) | (obtain ⟨_, _, _, _, _, _, _, _, _, _, rfl, _⟩ := h; rfl; done) | (obtain ⟨_, _, _, _, _, _, _, _, _, _, _, rfl, _⟩ := h; rfl; done) | (obtain ⟨_, _, _, _, _, _, _, _, _, _, _, _, rfl, _⟩ := h; rfl; done) | (obtain ⟨_, _, _, _, _, _, _, _, _, _, _, _, _, rfl, _⟩ := h; rfl; done) | (obtain ⟨_, _, _, _, _, _, _, _, _, _, _, _, _, _, rfl, _⟩ := h; rfl; done) | (obtain ⟨_, _, _, _, _, _, _, _, _, _, _, _, _, _, _, rfl, _⟩ := h; rfl; done) | ((rcases h with h | h) <;> (first | (obtain ⟨_, rfl, _⟩ := h; rfl) | (obtain ⟨_, _, rfl, _⟩ := h; rfl) | (obtain ⟨_, _, _, rfl, _⟩ := h; rfl) | (obtain ⟨_, _, _, _, rfl, _⟩ := h; rfl) | (obtain ⟨_, _, _, _, _, rfl, _⟩ := h; rfl) | (obtain ⟨_, _, _, _, _, _, rfl, _⟩ := h; rfl) | (obtain ⟨_, _, _, _, _, _, _, rfl, _⟩ := h; rfl) | (obtain ⟨_, _, _, _, _, _, _, _, rfl, _⟩ := h; rfl) | (obtain ⟨_, _, _, _, _, _, _, _, _, rfl, _⟩ := h; rfl) | (obtain ⟨_, _, _, _, _, _, _, _, _, _, rfl, _⟩ := h; rfl) | (obtain ⟨_, _, _, _, _, _, _, _, _, _, _, rfl, _⟩ := h; rfl) | (obtain ⟨_, _, _, _, _, _, _, _, _, _, _, _, rfl, _⟩ := h; rfl) | (obtain ⟨_, _, _, _, _, _, _, _, _, _, _, _, _, rfl, _⟩ := h; rfl) | (obtain ⟨_, _, _, _, _, _, _, _, _, _, _, _, _, _, rfl, _⟩ := h; rfl) | (obtain ⟨_, _, _, _, _, _, _, _, _, _, _, _, _, _, _, rfl, _⟩ := h; rfl)))
  · have hu := hu_of hr
    exact pss_one (ps_ret (pe_lc (own := [("thing", 1)]) (by rfl) sc_Store_now.nd (pi_list (pe_fld (pv 0) (by rfl))) (blkOk_by (own := [("thing", 1)]) (N := ["self", "thing"]) (sc := defScope s_Store_now) (by decide +kernel)) (fun _ _ _ _ _ => pg_name (i := 1) sc_Store_now.nd rfl (by first | exact Or.inl rfl | exact Or.inr rfl)) (fun _ _ _ _ _ => pts_nil) (fun _ _ _ _ _ => pe_dget hu (pe_fld (pv 0) (by rfl)) (pv 1) (fun _ _ => rfl))))
  · exact pure_now ⟨T.cl_Rounds, T.na_Rounds_hands, T.na_Rounds_worth, T.na_Rounds_cells, T.na_Rounds_made⟩ h
set_option maxHeartbeats 8000000 in
theorem ok_Marks__Store_now (T : Txt K mg D) : FnOk P w K mg base CX0 1 D.f_Store_now D.d_Store_now ["self"] (sp_now D.c_Marks) := by
  refine T.F_Store_now.ok sc_Store_now (fun vs H Q E h => ?_) (fun cdv A outer s H vs Q E hr h => ⟨t_Store_now K, ?_, ?_⟩)
  · first | (obtain ⟨_, rfl, _⟩ := h; rfl; done) | (obtain ⟨_, _, rfl, _⟩ := h; rfl; done) | (obtain ⟨_, _, _, rfl, _⟩ := h; rfl; done) | (obtain ⟨_, _, _, _, rfl, _⟩ := h; rfl; done) | (obtain ⟨_, _, _, _, _, rfl, _⟩ := h; rfl; done) | (obtain ⟨_, _, _, _, _, _, rfl, _⟩ := h; rfl; done) | (obtain ⟨_, _, _, _, _, _, _, rfl, _⟩ := h; rfl; done) | (obtain ⟨_, _, _, _, _, _, _, _, rfl, _⟩ := h; rfl; done) | (obtain ⟨_, _, _, _, _, _, _, _, _, rfl, _⟩ := h; rfl; done) | (obtain ⟨_, _, _, _, _, _, _, _, _, _, rfl, _⟩ := h; rfl; done) | (obtain ⟨_, _, _, _, _, _, _, _, _, _, _, rfl, _⟩ := h; rfl; done) | (obtain ⟨_, _, _, _, _, _, _, _, _, _, _, _, rfl, _⟩ := h; rfl; done) | (obtain ⟨_, _, _, _, _, _, _, _, _, _, _, _, _, rfl, _⟩ := h; rfl; done) | (obtain ⟨_, _, _, _, _, _, _, _, _, _, _, _, _, _, rfl, _⟩ := h; rfl; done) | (obtain ⟨_, _, _, _, _, _, _, _, _, _, _, _, _, _, _, rfl, _⟩ := h; rfl; done) | ((rcases h with h | h) <;> (first | (obtain ⟨_, rfl, _⟩ := h; rfl) | (obtain ⟨_, _, rfl, _⟩ := h; rfl) | (obtain ⟨_, _, _, rfl, _⟩ := h; rfl) | (obtain ⟨_, _, _, _, rfl, _⟩ := h; rfl) | (obtain ⟨_, _, _, _, _, rfl, _⟩ := h; rfl) | (obtain ⟨_, _, _, _, _, _, rfl, _⟩ := h; rfl) | (obtain ⟨_, _, _, _, _, _, _, rfl, _⟩ := h; rfl) | (obtain ⟨_, _, _, _, _, _, _, _, rfl, _⟩ := h; rfl) | (obtain ⟨_, _, _, _, _, _, _, _, _, rfl, _⟩ := h; rfl) | (obtain ⟨_, _, _, _, _, _, _, _, _, _, rfl, _⟩ := h; rfl) | (obtain ⟨_, _, _, _, _, _, _, _, _, _, _, rfl, _⟩ := h; rfl) | (obtain ⟨_, _, _, _, _, _, _, _, _, _, _, _, rfl, _⟩ := h; rfl) | (obtain ⟨_, _, _, _, _, _, _, _, _, _, _, _, _, rfl, _⟩ := h; rfl) | (obtain ⟨_, _, _, _, _, _, _, _, _, _, _, _, _, _, rfl, _⟩ := h; rfl) | (obtain ⟨_, _, _, _, _, _, _, _, _, _, _, _, _, _, _, rfl, _⟩ := h; rfl)))
  · have hu := hu_of hr
    exact pss_one (ps_ret (pe_lc (own := [("thing", 1)]) (by rfl) sc_Store_now.nd (pi_list (pe_fld (pv 0) (by rfl))) (blkOk_by (own := [("thing", 1)]) (N := ["self", "thing"]) (sc := defScope s_Store_now) (by decide +kernel)) (fun _ _ _ _ _ => pg_name (i := 1) sc_Store_now.nd rfl (by first | exact Or.inl rfl | exact Or.inr rfl)) (fun _ _ _ _ _ => pts_nil) (fun _ _ _ _ _ => pe_dget hu (pe_fld (pv 0) (by rfl)) (pv 1) (fun _ _ => rfl))))
  · exact pure_now ⟨T.cl_Marks, T.na_Marks_hands, T.na_Marks_worth, T.na_Marks_cells, T.na_Marks_made⟩ h
set_option maxHeartbeats 8000000 in
theorem ok_Counts__Store_now (T : Txt K mg D) : FnOk P w K mg base CX0 1 D.f_Store_now D.d_Store_now ["self"] (sp_now D.c_Counts) := by
  refine T.F_Store_now.ok sc_Store_now (fun vs H Q E h => ?_) (fun cdv A outer s H vs Q E hr h => ⟨t_Store_now K, ?_, ?_⟩)
  · first | (obtain ⟨_, rfl, _⟩ := h; rfl; done) | (obtain ⟨_, _, rfl, _⟩ := h; rfl; done) | (obtain ⟨_, _, _, rfl, _⟩ := h; rfl; done) | (obtain ⟨_, _, _, _, rfl, _⟩ := h; rfl; done) | (obtain ⟨_, _, _, _, _, rfl, _⟩ := h; rfl; done) | (obtain ⟨_, _, _, _, _, _, rfl, _⟩ := h; rfl; done) | (obtain ⟨_, _, _, _, _, _, _, rfl, _⟩ := h; rfl; done) | (obtain ⟨_, _, _, _, _, _, _, _, rfl, _⟩ := h; rfl; done) | (obtain ⟨_, _, _, _, _, _, _, _, _, rfl, _⟩ := h; rfl; done) | (obtain ⟨_, _, _, _, _, _, _, _, _, _, rfl, _⟩ := h; rfl; done) | (obtain ⟨_, _, _, _, _, _, _, _, _, _, _, rfl, _⟩ := h; rfl; done) | (obtain ⟨_, _, _, _, _, _, _, _, _, _, _, _, rfl, _⟩ := h; rfl; done) | (obtain ⟨_, _, _, _, _, _, _, _, _, _, _, _, _, rfl, _⟩ := h; rfl; done) | (obtain ⟨_, _, _, _, _, _, _, _, _, _, _, _, _, _, rfl, _⟩ := h; rfl; done) | (obtain ⟨_, _, _, _, _, _, _, _, _, _, _, _, _, _, _, rfl, _⟩ := h; rfl; done) | ((rcases h with h | h) <;> (first | (obtain ⟨_, rfl, _⟩ := h; rfl) | (obtain ⟨_, _, rfl, _⟩ := h; rfl) | (obtain ⟨_, _, _, rfl, _⟩ := h; rfl) | (obtain ⟨_, _, _, _, rfl, _⟩ := h; rfl) | (obtain ⟨_, _, _, _, _, rfl, _⟩ := h; rfl) | (obtain ⟨_, _, _, _, _, _, rfl, _⟩ := h; rfl) | (obtain ⟨_, _, _, _, _, _, _, rfl, _⟩ := h; rfl) | (obtain ⟨_, _, _, _, _, _, _, _, rfl, _⟩ := h; rfl) | (obtain ⟨_, _, _, _, _, _, _, _, _, rfl, _⟩ := h; rfl) | (obtain ⟨_, _, _, _, _, _, _, _, _, _, rfl, _⟩ := h; rfl) | (obtain ⟨_, _, _, _, _, _, _, _, _, _, _, rfl, _⟩ := h; rfl) | (obtain ⟨_, _, _, _, _, _, _, _, _, _, _, _, rfl, _⟩ := h; rfl) | (obtain ⟨_, _, _, _, _, _, _, _, _, _, _, _, _, rfl, _⟩ := h; rfl) | (obtain ⟨_, _, _, _, _, _, _, _, _, _, _, _, _, _, rfl, _⟩ := h; rfl) | (obtain ⟨_, _, _, _, _, _, _, _, _, _, _, _, _, _, _, rfl, _⟩ := h; rfl)))
  · have hu := hu_of hr
    exact pss_one (ps_ret (pe_lc (own := [("thing", 1)]) (by rfl) sc_Store_now.nd (pi_list (pe_fld (pv 0) (by rfl))) (blkOk_by (own := [("thing", 1)]) (N := ["self", "thing"]) (sc := defScope s_Store_now) (by decide +kernel)) (fun _ _ _ _ _ => pg_name (i := 1) sc_Store_now.nd rfl (by first | exact Or.inl rfl | exact Or.inr rfl)) (fun _ _ _ _ _ => pts_nil) (fun _ _ _ _ _ => pe_dget hu (pe_fld (pv 0) (by rfl)) (pv 1) (fun _ _ => rfl))))
  · exact pure_now ⟨T.cl_Counts, T.na_Counts_hands, T.na_Counts_worth, T.na_Counts_cells, T.na_Counts_made⟩ h
set_option maxHeartbeats 8000000 in
theorem ok_law (T : Txt K mg D) : FnOk P w K mg base CX0 7 D.f_law D.d_law ["script"] (sp_law K) := by
  have G__law_town : FnOk P w K mg base CX0 1 D.f__law_town D.d__law_town ["script"] (sp__law_town K) := ok__law_town T
  have G__law_draw : FnOk P w K mg base CX0 1 D.f__law_draw D.d__law_draw ["town", "many"] (sp__law_draw) := ok__law_draw T
  have G__law_pick : FnOk P w K mg base CX0 2 D.f__law_pick D.d__law_pick ["town", "some"] (sp__law_pick) := ok__law_pick T
  have G_mk_Counts : FnOk P w K mg base CX0 4 D.f_Counts_init D.d_Counts_init ["self", "hands", "cells"] (sp_cinit D.c_Counts) := ok_mk_Counts T
  have G_mk_Marks : FnOk P w K mg base CX0 4 D.f_Marks_init D.d_Marks_init ["self", "hands", "cells"] (sp_minit D.c_Marks) := ok_mk_Marks T
  have G_mk_Rounds : FnOk P w K mg base CX0 4 D.f_Rounds_init D.d_Rounds_init ["self", "hands", "cells"] (sp_rinit D.c_Rounds) := ok_mk_Rounds T
  have G_mk_Store : FnOk P w K mg base CX0 3 D.f_Store_init D.d_Store_init ["self", "hands", "cells"] (sp_init D.c_Store) := ok_mk_Store T
  have G__law_asked : FnOk P w K mg base CX0 6 D.f__law_asked D.d__law_asked ["store", "kind", "one", "other"] (sp__law_asked D.c_Store D.c_Rounds D.c_Marks D.c_Counts (Exs.mk D.c_BadNumber D.c_NoHand D.c_NoCell D.c_NoMark D.c_IsIn D.c_NotIn D.c_NotHeld D.c_Gone D.c_BadPairs D.c_NotNow D.c_StoreError)) := ok__law_asked T
  have G__law_odd : FnOk P w K mg base CX0 3 D.f__law_odd D.d__law_odd ["town", "most"] (sp__law_odd) := ok__law_odd T
  have G_Store__Store_kept : FnOk P w K mg base CX0 1 D.f_Store_kept D.d_Store_kept ["self"] (sp_kept D.c_Store) := ok_Store__Store_kept T
  have G_Rounds__Store_kept : FnOk P w K mg base CX0 1 D.f_Store_kept D.d_Store_kept ["self"] (sp_kept D.c_Rounds) := ok_Rounds__Store_kept T
  have G_Marks__Store_kept : FnOk P w K mg base CX0 1 D.f_Store_kept D.d_Store_kept ["self"] (sp_kept D.c_Marks) := ok_Marks__Store_kept T
  have G_Counts__Store_kept : FnOk P w K mg base CX0 1 D.f_Store_kept D.d_Store_kept ["self"] (sp_kept D.c_Counts) := ok_Counts__Store_kept T
  have G_Store__Store_now : FnOk P w K mg base CX0 1 D.f_Store_now D.d_Store_now ["self"] (sp_now D.c_Store) := ok_Store__Store_now T
  have G_Rounds__Store_now : FnOk P w K mg base CX0 1 D.f_Store_now D.d_Store_now ["self"] (sp_now D.c_Rounds) := ok_Rounds__Store_now T
  have G_Marks__Store_now : FnOk P w K mg base CX0 1 D.f_Store_now D.d_Store_now ["self"] (sp_now D.c_Marks) := ok_Marks__Store_now T
  have G_Counts__Store_now : FnOk P w K mg base CX0 1 D.f_Store_now D.d_Store_now ["self"] (sp_now D.c_Counts) := ok_Counts__Store_now T
  have G_Store__Store_swap : FnOk P w K mg base CX0 3 D.f_Store_swap D.d_Store_swap ["self", "cell", "value"] (sp_swap D.c_Store sp_after0) := ok_Store__Store_swap T
  have G_Rounds__Store_swap : FnOk P w K mg base CX0 3 D.f_Store_swap D.d_Store_swap ["self", "cell", "value"] (sp_swapR D.c_Rounds) := ok_Rounds__Store_swap T
  have G_Marks__Store_swap : FnOk P w K mg base CX0 3 D.f_Store_swap D.d_Store_swap ["self", "cell", "value"] (sp_swapM D.c_Marks) := ok_Marks__Store_swap T
  have G_Counts__Store_swap : FnOk P w K mg base CX0 4 D.f_Store_swap D.d_Store_swap ["self", "cell", "value"] (sp_swapC D.c_Counts) := ok_Counts__Store_swap T
  refine T.F_law.ok sc_law (fun vs H Q E h => ?_) (fun cdv A outer s H vs Q E hr h => ⟨t_law K D.c_Counts D.c_Marks D.c_Rounds D.c_Store (sp__law_town K) (sp__law_draw) (sp__law_pick) (sp_cinit D.c_Counts) (sp_minit D.c_Marks) (sp_rinit D.c_Rounds) (sp_init D.c_Store) (sp__law_asked D.c_Store D.c_Rounds D.c_Marks D.c_Counts (Exs.mk D.c_BadNumber D.c_NoHand D.c_NoCell D.c_NoMark D.c_IsIn D.c_NotIn D.c_NotHeld D.c_Gone D.c_BadPairs D.c_NotNow D.c_StoreError)) (sp__law_odd) (sp_kept D.c_Store) (sp_kept D.c_Rounds) (sp_kept D.c_Marks) (sp_kept D.c_Counts) (sp_now D.c_Store) (sp_now D.c_Rounds) (sp_now D.c_Marks) (sp_now D.c_Counts) (sp_swap D.c_Store sp_after0) (sp_swapR D.c_Rounds) (sp_swapM D.c_Marks) (sp_swapC D.c_Counts), ?_, ?_⟩)
  · first | (obtain ⟨_, rfl, _⟩ := h; rfl; done) | (obtain ⟨_, _, rfl, _⟩ := h; rfl; done) | (obtain ⟨_, _, _, rfl, _⟩ := h; rfl; done) | (obtain ⟨_, _, _, _, rfl, _⟩ := h; rfl; done) | (obtain ⟨_, _, _, _, _, rfl, _⟩ := h; rfl; done) | (obtain ⟨_, _, _, _, _, _, rfl, _⟩ := h; rfl; done) | (obtain ⟨_, _, _, _, _, _, _, rfl, _⟩ := h; rfl; done) | (obtain ⟨_, _, _, _, _, _, _, _, rfl, _⟩ := h; rfl; done) | (obtain ⟨_, _, _, _, _, _, _, _, _, rfl, _⟩ := h; rfl; done) | (obtain ⟨_, _, _, _, _, _, _, _, _, _, rfl, _⟩ := h; rfl; done) | (obtain ⟨_, _, _, _, _, _, _, _, _, _, _, rfl, _⟩ := h; rfl; done) | (obtain ⟨_, _, _, _, _, _, _, _, _, _, _, _, rfl, _⟩ := h; rfl; done) | (obtain ⟨_, _, _, _, _, _, _, _, _, _, _, _, _, rfl, _⟩ := h; rfl; done) | (obtain ⟨_, _, _, _, _, _, _, _, _, _, _, _, _, _, rfl, _⟩ := h; rfl; done) | (obtain ⟨_, _, _, _, _, _, _, _, _, _, _, _, _, _, _, rfl, _⟩ := h; rfl; done) | ((rcases h with h | h) <;> (first | (obtain ⟨_, rfl, _⟩ := h; rfl) | (obtain ⟨_, _, rfl, _⟩ := h; rfl) | (obtain ⟨_, _, _, rfl, _⟩ := h; rfl) | (obtain ⟨_, _, _, _, rfl, _⟩ := h; rfl) | (obtain ⟨_, _, _, _, _, rfl, _⟩ := h; rfl) | (obtain ⟨_, _, _, _, _, _, rfl, _⟩ := h; rfl) | (obtain ⟨_, _, _, _, _, _, _, rfl, _⟩ := h; rfl) | (obtain ⟨_, _, _, _, _, _, _, _, rfl, _⟩ := h; rfl) | (obtain ⟨_, _, _, _, _, _, _, _, _, rfl, _⟩ := h; rfl) | (obtain ⟨_, _, _, _, _, _, _, _, _, _, rfl, _⟩ := h; rfl) | (obtain ⟨_, _, _, _, _, _, _, _, _, _, _, rfl, _⟩ := h; rfl) | (obtain ⟨_, _, _, _, _, _, _, _, _, _, _, _, rfl, _⟩ := h; rfl) | (obtain ⟨_, _, _, _, _, _, _, _, _, _, _, _, _, rfl, _⟩ := h; rfl) | (obtain ⟨_, _, _, _, _, _, _, _, _, _, _, _, _, _, rfl, _⟩ := h; rfl) | (obtain ⟨_, _, _, _, _, _, _, _, _, _, _, _, _, _, _, rfl, _⟩ := h; rfl)))
  · have hu := hu_of hr
    exact pss_cons (ps_set (i := 1) sc_law.nd rfl (by first | exact Or.inl rfl | exact Or.inr rfl) (pe_call G__law_town (hr.mono (by decide)) (by rfl) T.g__law_town T.F__law_town.kp T.b__law_town .nil pass0 (pa_cons (pv 0) (pa_nil))))
      (pss_cons (ps_set (i := 2) sc_law.nd rfl (by first | exact Or.inl rfl | exact Or.inr rfl) (pe_op op_addI (pe_int) (pe_call G__law_draw (hr.mono (by decide)) (by rfl) T.g__law_draw T.F__law_draw.kp T.b__law_draw .nil pass0 (pa_cons (pv 1) (pa_cons (pe_int) (pa_nil))))))
      (pss_cons (ps_set (i := 3) sc_law.nd rfl (by first | exact Or.inl rfl | exact Or.inr rfl) (pe_call G__law_pick (hr.mono (by decide)) (by rfl) T.g__law_pick T.F__law_pick.kp T.b__law_pick .nil pass0 (pa_cons (pv 1) (pa_cons (pe_lst (pa_cons (pe_make T.mk_Store G_mk_Store (hr.mono (by decide)) (by rfl) T.g_Store T.b_Store_init .nil pass0 (pa_cons (pe_int) (pa_cons (pv 2) (pa_nil)))) (pa_cons (pe_make T.mk_Rounds G_mk_Rounds (hr.mono (by decide)) (by rfl) T.g_Rounds T.b_Rounds_init .nil pass0 (pa_cons (pe_int) (pa_cons (pv 2) (pa_nil)))) (pa_cons (pe_make T.mk_Marks G_mk_Marks (hr.mono (by decide)) (by rfl) T.g_Marks T.b_Marks_init .nil pass0 (pa_cons (pe_int) (pa_cons (pv 2) (pa_nil)))) (pa_cons (pe_make T.mk_Counts G_mk_Counts (hr.mono (by decide)) (by rfl) T.g_Counts T.b_Counts_init .nil pass0 (pa_cons (pe_int) (pa_cons (pv 2) (pa_nil)))) (pa_nil)))))) (pa_nil)))))
      (pss_cons (ps_for PassesOwn.never rfl (pi_list (pe_lst (pa_cons (pe_int) (pa_cons (pe_op op_subI (pe_int) (pe_int)) (pa_cons (pe_bl) (pa_cons (pe_non) (pa_cons (pe_str) (pa_cons (pe_lst (pa_cons (pe_int) (pa_nil))) (pa_nil))))))))) (pg_name (i := 4) sc_law.nd rfl (by first | exact Or.inl rfl | exact Or.inr rfl)) (pss_cons (ps_set (i := 5) sc_law.nd rfl (by first | exact Or.inl rfl | exact Or.inr rfl) (pe_op op_cat (pe_lc (own := [("kind", 6)]) (by rfl) sc_law.nd (pi_range1 (by rfl) T.m_range (pa_cons (pe_int) (pa_nil))) (blkOk_by (own := [("kind", 6)]) (N := ["script", "town", "cells", "store", "odd", "found", "kind", "value", "turn"]) (sc := defScope s_law) (by decide +kernel)) (fun _ _ _ _ _ => pg_name (i := 6) sc_law.nd rfl (by first | exact Or.inl rfl | exact Or.inr rfl)) (fun _ _ _ _ _ => pts_nil) (fun _ _ _ _ _ => pe_call G__law_asked (hr.mono (by decide)) (by rfl) T.g__law_asked T.F__law_asked.kp T.b__law_asked .nil pass0 (pa_cons (pv 3) (pa_cons (pv 6) (pa_cons (pv 4) (pa_cons (pe_int) (pa_nil))))))) (pe_lst (pa_cons (pe_call G__law_asked (hr.mono (by decide)) (by rfl) T.g__law_asked T.F__law_asked.kp T.b__law_asked .nil pass0 (pa_cons (pv 3) (pa_cons (pe_int) (pa_cons (pe_int) (pa_cons (pv 4) (pa_nil)))))) (pa_nil)))))
      (pss_one (ps_if (pt_cmpR (op_neD hr.units) (pv 5) (pe_op op_rep (pe_lst (pa_cons (pe_str) (pa_nil))) (pe_int)) (nomark _)) (pss_one (ps_ret (pe_bl))) (pss_nil)))))
      (pss_cons (ps_set (i := 5) sc_law.nd rfl (by first | exact Or.inl rfl | exact Or.inr rfl) (pe_lst (pa_cons (pe_call G__law_asked (hr.mono (by decide)) (by rfl) T.g__law_asked T.F__law_asked.kp T.b__law_asked .nil pass0 (pa_cons (pv 3) (pa_cons (pe_int) (pa_cons (pe_int) (pa_cons (pe_int) (pa_nil)))))) (pa_cons (pe_call G__law_asked (hr.mono (by decide)) (by rfl) T.g__law_asked T.F__law_asked.kp T.b__law_asked .nil pass0 (pa_cons (pv 3) (pa_cons (pe_int) (pa_cons (pe_int) (pa_cons (pe_int) (pa_nil)))))) (pa_cons (pe_call G__law_asked (hr.mono (by decide)) (by rfl) T.g__law_asked T.F__law_asked.kp T.b__law_asked .nil pass0 (pa_cons (pv 3) (pa_cons (pe_int) (pa_cons (pe_int) (pa_cons (pe_int) (pa_nil)))))) (pa_nil))))))
      (pss_cons (ps_if (pt_cmpR (op_neD hr.units) (pv 5) (pe_lst (pa_cons (pe_str) (pa_cons (pe_str) (pa_cons (pe_str) (pa_nil))))) (nomark _)) (pss_one (ps_ret (pe_bl))) (pss_nil))
      (pss_cons (ps_set (i := 7) sc_law.nd rfl (by first | exact Or.inl rfl | exact Or.inr rfl) (pe_call G__law_pick (hr.mono (by decide)) (by rfl) T.g__law_pick T.F__law_pick.kp T.b__law_pick .nil pass0 (pa_cons (pv 1) (pa_cons (pe_lst (pa_cons (pe_int) (pa_cons (pe_op op_subI (pe_int) (pe_int)) (pa_cons (pe_bl) (pa_cons (pe_non) (pa_cons (pe_str) (pa_nil))))))) (pa_nil)))))
      (pss_cons (ps_for PassesOwn.never rfl (pi_range1 (by rfl) T.m_range (pa_cons (pe_int) (pa_nil))) (pg_name (i := 8) sc_law.nd rfl (by first | exact Or.inl rfl | exact Or.inr rfl)) (pss_one (ps_if (pt_cmpR op_ne (pe_call G__law_asked (hr.mono (by decide)) (by rfl) T.g__law_asked T.F__law_asked.kp T.b__law_asked .nil pass0 (pa_cons (pv 3) (pa_cons (pe_int) (pa_cons (pe_call G__law_odd (hr.mono (by decide)) (by rfl) T.g__law_odd T.F__law_odd.kp T.b__law_odd .nil pass0 (pa_cons (pv 1) (pa_cons (pv 2) (pa_nil)))) (pa_cons (pv 7) (pa_nil)))))) (pe_str) (nomark _)) (pss_one (ps_ret (pe_bl))) (pss_nil))))
      (pss_cons (ps_if (PW.pt (pw_or (pt_cmpR op_ne (pe_call G__law_asked (hr.mono (by decide)) (by rfl) T.g__law_asked T.F__law_asked.kp T.b__law_asked .nil pass0 (pa_cons (pv 3) (pa_cons (pe_int) (pa_cons (pe_call G__law_odd (hr.mono (by decide)) (by rfl) T.g__law_odd T.F__law_odd.kp T.b__law_odd .nil pass0 (pa_cons (pv 1) (pa_cons (pv 2) (pa_nil)))) (pa_cons (pe_int) (pa_nil)))))) (pe_str) (nomark _)) (pw_or1 (pt_cmpR op_ne (pe_call G__law_asked (hr.mono (by decide)) (by rfl) T.g__law_asked T.F__law_asked.kp T.b__law_asked .nil pass0 (pa_cons (pv 3) (pa_cons (pe_int) (pa_cons (pe_int) (pa_cons (pv 7) (pa_nil)))))) (pe_str) (nomark _))))) (pss_one (ps_ret (pe_bl))) (pss_nil))
      (pss_one (ps_ret (pe_and (pe_cmpR (op_eqD hr.units) (pe_orE (pe_meth0 (pv 3) T.cl_Store T.me_Store_kept G_Store__Store_kept (hr.mono (by decide)) T.b_Store_kept .nil pass0) (pe_orE (pe_meth0 (pv 3) T.cl_Rounds T.me_Rounds_kept G_Rounds__Store_kept (hr.mono (by decide)) T.b_Store_kept .nil pass0) (pe_orE (pe_meth0 (pv 3) T.cl_Marks T.me_Marks_kept G_Marks__Store_kept (hr.mono (by decide)) T.b_Store_kept .nil pass0) (pe_meth0 (pv 3) T.cl_Counts T.me_Counts_kept G_Counts__Store_kept (hr.mono (by decide)) T.b_Store_kept .nil pass0)))) (pe_listRg rfl (by rfl) T.m_list (prg_1 (by rfl) T.m_range (pv 2))) (nomark _)) (pe_and (pe_cmpR (op_eqD hr.units) (pe_orE (pe_meth0 (pv 3) T.cl_Store T.me_Store_now G_Store__Store_now (hr.mono (by decide)) T.b_Store_now .nil pass0) (pe_orE (pe_meth0 (pv 3) T.cl_Rounds T.me_Rounds_now G_Rounds__Store_now (hr.mono (by decide)) T.b_Store_now .nil pass0) (pe_orE (pe_meth0 (pv 3) T.cl_Marks T.me_Marks_now G_Marks__Store_now (hr.mono (by decide)) T.b_Store_now .nil pass0) (pe_meth0 (pv 3) T.cl_Counts T.me_Counts_now G_Counts__Store_now (hr.mono (by decide)) T.b_Store_now .nil pass0)))) (pe_op op_rep (pe_lst (pa_cons (pe_int) (pa_nil))) (pv 2)) (nomark _)) (pe_one (pe_cmpR op_eq (pe_orE (pe_meth (pv 3) T.cl_Store T.me_Store_swap G_Store__Store_swap (hr.mono (by decide)) T.b_Store_swap .nil pass0 (pa_cons (pe_int) (pa_cons (pe_int) (pa_nil)))) (pe_orE (pe_meth (pv 3) T.cl_Rounds T.me_Rounds_swap G_Rounds__Store_swap (hr.mono (by decide)) T.b_Store_swap .nil pass0 (pa_cons (pe_int) (pa_cons (pe_int) (pa_nil)))) (pe_orE (pe_meth (pv 3) T.cl_Marks T.me_Marks_swap G_Marks__Store_swap (hr.mono (by decide)) T.b_Store_swap .nil pass0 (pa_cons (pe_int) (pa_cons (pe_int) (pa_nil)))) (pe_meth (pv 3) T.cl_Counts T.me_Counts_swap G_Counts__Store_swap (hr.mono (by decide)) T.b_Store_swap .nil pass0 (pa_cons (pe_int) (pa_cons (pe_int) (pa_nil))))))) (pe_int) (nomark _)))))))))))))))
  · exact pure_law h
end
theorem all_mk {l : PySem.W.OpenLaw} {w : World} {K : PySem.W.Frag} {h : Heap} {mg : Str → Option Value} {fa c_Counts c_Store c_Marks c_Rounds c_BadNumber c_NoCell c_NoHand c_NotIn c_IsIn c_NoMark c_BadPairs c_Gone c_NotHeld c_NotNow c_StoreError f__law_town f__law_draw f__law_pick f_is_whole f_look_number f_Store_init f_Counts_init f_Marks_init f_Rounds_init f_Store_look_cell f_Store_after_swap f_Store_swap f_Rounds_after_swap f_Marks_after_swap f_Counts_count_of f_Store_is_out f_Store_let_go f_Counts_loose f_Counts_after_swap f__law_refusal f__law_asked f__law_odd f_Store_kept f_Store_now f_law : Addr} (X : K.In h) (G : h.Ns mainGlobals mg) (hfa : mg "law" = some (.ref fa))
    {od__law_town an__law_town od__law_draw an__law_draw od__law_pick an__law_pick od_is_whole an_is_whole od_look_number an_look_number od_Store_init an_Store_init od_Counts_init an_Counts_init od_Marks_init an_Marks_init od_Rounds_init an_Rounds_init od_Store_look_cell an_Store_look_cell od_Store_after_swap an_Store_after_swap od_Store_swap an_Store_swap od_Rounds_after_swap an_Rounds_after_swap od_Marks_after_swap an_Marks_after_swap od_Counts_count_of an_Counts_count_of od_Store_is_out an_Store_is_out od_Store_let_go an_Store_let_go od_Counts_loose an_Counts_loose od_Counts_after_swap an_Counts_after_swap od__law_refusal an__law_refusal od__law_asked an__law_asked od__law_odd an__law_odd od_Store_kept an_Store_kept od_Store_now an_Store_now od_law an_law : Option Addr} {sl__law_town sl__law_draw sl__law_pick sl_is_whole sl_look_number sl_Store_init sl_Counts_init sl_Marks_init sl_Rounds_init sl_Store_look_cell sl_Store_after_swap sl_Store_swap sl_Rounds_after_swap sl_Marks_after_swap sl_Counts_count_of sl_Store_is_out sl_Store_let_go sl_Counts_loose sl_Counts_after_swap sl__law_refusal sl__law_asked sl__law_odd sl_Store_kept sl_Store_now sl_law : Array (Option Value)} {oc__law_town kV__law_town dc__law_town pm__law_town cd__law_town ct__law_town oc__law_draw kV__law_draw dc__law_draw pm__law_draw cd__law_draw ct__law_draw oc__law_pick kV__law_pick dc__law_pick pm__law_pick cd__law_pick ct__law_pick oc_is_whole kV_is_whole dc_is_whole pm_is_whole cd_is_whole ct_is_whole oc_look_number kV_look_number dc_look_number pm_look_number cd_look_number ct_look_number oc_Store_init kV_Store_init dc_Store_init pm_Store_init cd_Store_init ct_Store_init oc_Counts_init kV_Counts_init dc_Counts_init pm_Counts_init cd_Counts_init ct_Counts_init oc_Marks_init kV_Marks_init dc_Marks_init pm_Marks_init cd_Marks_init ct_Marks_init oc_Rounds_init kV_Rounds_init dc_Rounds_init pm_Rounds_init cd_Rounds_init ct_Rounds_init oc_Store_look_cell kV_Store_look_cell dc_Store_look_cell pm_Store_look_cell cd_Store_look_cell ct_Store_look_cell oc_Store_after_swap kV_Store_after_swap dc_Store_after_swap pm_Store_after_swap cd_Store_after_swap ct_Store_after_swap oc_Store_swap kV_Store_swap dc_Store_swap pm_Store_swap cd_Store_swap ct_Store_swap oc_Rounds_after_swap kV_Rounds_after_swap dc_Rounds_after_swap pm_Rounds_after_swap cd_Rounds_after_swap ct_Rounds_after_swap oc_Marks_after_swap kV_Marks_after_swap dc_Marks_after_swap pm_Marks_after_swap cd_Marks_after_swap ct_Marks_after_swap oc_Counts_count_of kV_Counts_count_of dc_Counts_count_of pm_Counts_count_of cd_Counts_count_of ct_Counts_count_of oc_Store_is_out kV_Store_is_out dc_Store_is_out pm_Store_is_out cd_Store_is_out ct_Store_is_out oc_Store_let_go kV_Store_let_go dc_Store_let_go pm_Store_let_go cd_Store_let_go ct_Store_let_go oc_Counts_loose kV_Counts_loose dc_Counts_loose pm_Counts_loose cd_Counts_loose ct_Counts_loose oc_Counts_after_swap kV_Counts_after_swap dc_Counts_after_swap pm_Counts_after_swap cd_Counts_after_swap ct_Counts_after_swap oc__law_refusal kV__law_refusal dc__law_refusal pm__law_refusal cd__law_refusal ct__law_refusal oc__law_asked kV__law_asked dc__law_asked pm__law_asked cd__law_asked ct__law_asked oc__law_odd kV__law_odd dc__law_odd pm__law_odd cd__law_odd ct__law_odd oc_Store_kept kV_Store_kept dc_Store_kept pm_Store_kept cd_Store_kept ct_Store_kept oc_Store_now kV_Store_now dc_Store_now pm_Store_now cd_Store_now ct_Store_now oc_law kV_law dc_law pm_law cd_law ct_law : Value}
    {t_MOST_CELLS t_MOST_HANDS t_MOST_VALUE : Tok}
    (aC_Counts : PySem.W.nsIn K mainGlobals "Counts" = some (some (.ref c_Counts)))
    (aC_Store : PySem.W.nsIn K mainGlobals "Store" = some (some (.ref c_Store)))
    (aC_Marks : PySem.W.nsIn K mainGlobals "Marks" = some (some (.ref c_Marks)))
    (aC_Rounds : PySem.W.nsIn K mainGlobals "Rounds" = some (some (.ref c_Rounds)))
    (aC_BadNumber : PySem.W.nsIn K mainGlobals "BadNumber" = some (some (.ref c_BadNumber)))
    (aC_NoCell : PySem.W.nsIn K mainGlobals "NoCell" = some (some (.ref c_NoCell)))
    (aC_NoHand : PySem.W.nsIn K mainGlobals "NoHand" = some (some (.ref c_NoHand)))
    (aC_NotIn : PySem.W.nsIn K mainGlobals "NotIn" = some (some (.ref c_NotIn)))
    (aC_IsIn : PySem.W.nsIn K mainGlobals "IsIn" = some (some (.ref c_IsIn)))
    (aC_NoMark : PySem.W.nsIn K mainGlobals "NoMark" = some (some (.ref c_NoMark)))
    (aC_BadPairs : PySem.W.nsIn K mainGlobals "BadPairs" = some (some (.ref c_BadPairs)))
    (aC_Gone : PySem.W.nsIn K mainGlobals "Gone" = some (some (.ref c_Gone)))
    (aC_NotHeld : PySem.W.nsIn K mainGlobals "NotHeld" = some (some (.ref c_NotHeld)))
    (aC_NotNow : PySem.W.nsIn K mainGlobals "NotNow" = some (some (.ref c_NotNow)))
    (aC_StoreError : PySem.W.nsIn K mainGlobals "StoreError" = some (some (.ref c_StoreError)))
    (pg_Counts : PySem.W.plainGet K c_Counts Str.empty = true)
    (hd_Counts : PySem.W.hasDictIn K c_Counts = true)
    (po_Counts : PySem.W.plainOver K c_Counts = true)
    (sa_Counts : PySem.W.findIn K (.ref c_Counts) "__setattr__" = some (some (.builtin "object.__setattr__")))
    (mk_Counts : PySem.W.makesIn K c_Counts = true)
    (kc_Counts : PySem.W.keepIn K (.ref c_Counts) = true)
    (ai_Counts : PySem.W.findIn K (.ref c_Counts) "__init__" = some (some (.ref f_Counts_init)))
    (ii_Counts : PySem.W.isFn K (.ref f_Counts_init) = true)
    (na_Counts_hands : PySem.W.findIn K (.ref c_Counts) "hands" = some none)
    (na_Counts_worth : PySem.W.findIn K (.ref c_Counts) "worth" = some none)
    (na_Counts_cells : PySem.W.findIn K (.ref c_Counts) "cells" = some none)
    (na_Counts_made : PySem.W.findIn K (.ref c_Counts) "made" = some none)
    (na_Counts_held : PySem.W.findIn K (.ref c_Counts) "held" = some none)
    (pg_Store : PySem.W.plainGet K c_Store Str.empty = true)
    (hd_Store : PySem.W.hasDictIn K c_Store = true)
    (po_Store : PySem.W.plainOver K c_Store = true)
    (sa_Store : PySem.W.findIn K (.ref c_Store) "__setattr__" = some (some (.builtin "object.__setattr__")))
    (mk_Store : PySem.W.makesIn K c_Store = true)
    (kc_Store : PySem.W.keepIn K (.ref c_Store) = true)
    (ai_Store : PySem.W.findIn K (.ref c_Store) "__init__" = some (some (.ref f_Store_init)))
    (ii_Store : PySem.W.isFn K (.ref f_Store_init) = true)
    (na_Store_hands : PySem.W.findIn K (.ref c_Store) "hands" = some none)
    (na_Store_worth : PySem.W.findIn K (.ref c_Store) "worth" = some none)
    (na_Store_cells : PySem.W.findIn K (.ref c_Store) "cells" = some none)
    (na_Store_made : PySem.W.findIn K (.ref c_Store) "made" = some none)
    (pg_Marks : PySem.W.plainGet K c_Marks Str.empty = true)
    (hd_Marks : PySem.W.hasDictIn K c_Marks = true)
    (po_Marks : PySem.W.plainOver K c_Marks = true)
    (sa_Marks : PySem.W.findIn K (.ref c_Marks) "__setattr__" = some (some (.builtin "object.__setattr__")))
    (mk_Marks : PySem.W.makesIn K c_Marks = true)
    (kc_Marks : PySem.W.keepIn K (.ref c_Marks) = true)
    (ai_Marks : PySem.W.findIn K (.ref c_Marks) "__init__" = some (some (.ref f_Marks_init)))
    (ii_Marks : PySem.W.isFn K (.ref f_Marks_init) = true)
    (na_Marks_hands : PySem.W.findIn K (.ref c_Marks) "hands" = some none)
    (na_Marks_worth : PySem.W.findIn K (.ref c_Marks) "worth" = some none)
    (na_Marks_cells : PySem.W.findIn K (.ref c_Marks) "cells" = some none)
    (na_Marks_made : PySem.W.findIn K (.ref c_Marks) "made" = some none)
    (na_Marks_marks : PySem.W.findIn K (.ref c_Marks) "marks" = some none)
    (na_Marks_waits : PySem.W.findIn K (.ref c_Marks) "waits" = some none)
    (pg_Rounds : PySem.W.plainGet K c_Rounds Str.empty = true)
    (hd_Rounds : PySem.W.hasDictIn K c_Rounds = true)
    (po_Rounds : PySem.W.plainOver K c_Rounds = true)
    (sa_Rounds : PySem.W.findIn K (.ref c_Rounds) "__setattr__" = some (some (.builtin "object.__setattr__")))
    (mk_Rounds : PySem.W.makesIn K c_Rounds = true)
    (kc_Rounds : PySem.W.keepIn K (.ref c_Rounds) = true)
    (ai_Rounds : PySem.W.findIn K (.ref c_Rounds) "__init__" = some (some (.ref f_Rounds_init)))
    (ii_Rounds : PySem.W.isFn K (.ref f_Rounds_init) = true)
    (na_Rounds_hands : PySem.W.findIn K (.ref c_Rounds) "hands" = some none)
    (na_Rounds_worth : PySem.W.findIn K (.ref c_Rounds) "worth" = some none)
    (na_Rounds_cells : PySem.W.findIn K (.ref c_Rounds) "cells" = some none)
    (na_Rounds_made : PySem.W.findIn K (.ref c_Rounds) "made" = some none)
    (na_Rounds_era : PySem.W.findIn K (.ref c_Rounds) "era" = some none)
    (na_Rounds_inside : PySem.W.findIn K (.ref c_Rounds) "inside" = some none)
    (na_Rounds_saw : PySem.W.findIn K (.ref c_Rounds) "saw" = some none)
    (na_Rounds_waits : PySem.W.findIn K (.ref c_Rounds) "waits" = some none)
    (xi_BadNumber : PySem.W.excIn K c_BadNumber [.type "ValueError", .type "Exception", .type "BaseException", .type "object"] "ValueError.__new__" = true)
    (kp_BadNumber : PySem.W.keepIn K (.ref c_BadNumber) = true)
    (sb_BadNumber : PySem.W.subIn K (.ref c_BadNumber) (.type "BaseException") = some true)
    (ty_BadNumber : PySem.W.typeIn K (.ref c_BadNumber) = some (.type "type"))
    (em_BadNumber : PySem.W.exmOne K (.ref c_BadNumber) (.ref c_StoreError) = some true)
    (e1_BadNumber : PySem.W.findIn K (.ref c_BadNumber) "__getattribute__" = some (some (.builtin "BaseException.__getattribute__")))
    (e2_BadNumber : PySem.W.findIn K (.ref c_BadNumber) "__getattr__" = some none)
    (e4_BadNumber : PySem.W.hasDictIn K c_BadNumber = true)
    (e5_BadNumber : PySem.W.findIn K (.ref c_BadNumber) "__class__" = some (some (.builtin "object.__class__")))
    (e6_BadNumber : PySem.W.specialIn K (.builtin "object.__class__") "__get__" = some (some (.builtin "getset_descriptor.__get__")))
    (e7_BadNumber : PySem.W.takesIn K (.builtin "object.__class__") = some true)
    (e8_BadNumber : PySem.W.mroIn K c_BadNumber (.type "object") = some true)
    (ki_BadNumber_BadNumber : PySem.W.kitOne K (.ref c_BadNumber) (.ref c_BadNumber) = some true)
    (ki_BadNumber_NoHand : PySem.W.kitOne K (.ref c_BadNumber) (.ref c_NoHand) = some false)
    (ki_BadNumber_NoCell : PySem.W.kitOne K (.ref c_BadNumber) (.ref c_NoCell) = some false)
    (ki_BadNumber_NoMark : PySem.W.kitOne K (.ref c_BadNumber) (.ref c_NoMark) = some false)
    (ki_BadNumber_IsIn : PySem.W.kitOne K (.ref c_BadNumber) (.ref c_IsIn) = some false)
    (ki_BadNumber_NotIn : PySem.W.kitOne K (.ref c_BadNumber) (.ref c_NotIn) = some false)
    (ki_BadNumber_NotHeld : PySem.W.kitOne K (.ref c_BadNumber) (.ref c_NotHeld) = some false)
    (ki_BadNumber_Gone : PySem.W.kitOne K (.ref c_BadNumber) (.ref c_Gone) = some false)
    (ki_BadNumber_BadPairs : PySem.W.kitOne K (.ref c_BadNumber) (.ref c_BadPairs) = some false)
    (ki_BadNumber_NotNow : PySem.W.kitOne K (.ref c_BadNumber) (.ref c_NotNow) = some false)
    (ki_BadNumber_StoreError : PySem.W.kitOne K (.ref c_BadNumber) (.ref c_StoreError) = some true)
    (kv_BadNumber : PySem.W.kitOne K (.ref c_BadNumber) (.type "ValueError") = some true)
    (xi_NoCell : PySem.W.excIn K c_NoCell [.type "ValueError", .type "Exception", .type "BaseException", .type "object"] "ValueError.__new__" = true)
    (kp_NoCell : PySem.W.keepIn K (.ref c_NoCell) = true)
    (sb_NoCell : PySem.W.subIn K (.ref c_NoCell) (.type "BaseException") = some true)
    (ty_NoCell : PySem.W.typeIn K (.ref c_NoCell) = some (.type "type"))
    (em_NoCell : PySem.W.exmOne K (.ref c_NoCell) (.ref c_StoreError) = some true)
    (e1_NoCell : PySem.W.findIn K (.ref c_NoCell) "__getattribute__" = some (some (.builtin "BaseException.__getattribute__")))
    (e2_NoCell : PySem.W.findIn K (.ref c_NoCell) "__getattr__" = some none)
    (e4_NoCell : PySem.W.hasDictIn K c_NoCell = true)
    (e5_NoCell : PySem.W.findIn K (.ref c_NoCell) "__class__" = some (some (.builtin "object.__class__")))
    (e6_NoCell : PySem.W.specialIn K (.builtin "object.__class__") "__get__" = some (some (.builtin "getset_descriptor.__get__")))
    (e7_NoCell : PySem.W.takesIn K (.builtin "object.__class__") = some true)
    (e8_NoCell : PySem.W.mroIn K c_NoCell (.type "object") = some true)
    (ki_NoCell_BadNumber : PySem.W.kitOne K (.ref c_NoCell) (.ref c_BadNumber) = some false)
    (ki_NoCell_NoHand : PySem.W.kitOne K (.ref c_NoCell) (.ref c_NoHand) = some false)
    (ki_NoCell_NoCell : PySem.W.kitOne K (.ref c_NoCell) (.ref c_NoCell) = some true)
    (ki_NoCell_NoMark : PySem.W.kitOne K (.ref c_NoCell) (.ref c_NoMark) = some false)
    (ki_NoCell_IsIn : PySem.W.kitOne K (.ref c_NoCell) (.ref c_IsIn) = some false)
    (ki_NoCell_NotIn : PySem.W.kitOne K (.ref c_NoCell) (.ref c_NotIn) = some false)
    (ki_NoCell_NotHeld : PySem.W.kitOne K (.ref c_NoCell) (.ref c_NotHeld) = some false)
    (ki_NoCell_Gone : PySem.W.kitOne K (.ref c_NoCell) (.ref c_Gone) = some false)
    (ki_NoCell_BadPairs : PySem.W.kitOne K (.ref c_NoCell) (.ref c_BadPairs) = some false)
    (ki_NoCell_NotNow : PySem.W.kitOne K (.ref c_NoCell) (.ref c_NotNow) = some false)
    (ki_NoCell_StoreError : PySem.W.kitOne K (.ref c_NoCell) (.ref c_StoreError) = some true)
    (kv_NoCell : PySem.W.kitOne K (.ref c_NoCell) (.type "ValueError") = some true)
    (am_Store_look_cell : PySem.W.findIn K (.ref c_Store) "look_cell" = some (some (.ref f_Store_look_cell)))
    (am_Store_after_swap : PySem.W.findIn K (.ref c_Store) "after_swap" = some (some (.ref f_Store_after_swap)))
    (am_Store_swap : PySem.W.findIn K (.ref c_Store) "swap" = some (some (.ref f_Store_swap)))
    (am_Rounds_look_cell : PySem.W.findIn K (.ref c_Rounds) "look_cell" = some (some (.ref f_Store_look_cell)))
    (am_Rounds_after_swap : PySem.W.findIn K (.ref c_Rounds) "after_swap" = some (some (.ref f_Rounds_after_swap)))
    (am_Rounds_swap : PySem.W.findIn K (.ref c_Rounds) "swap" = some (some (.ref f_Store_swap)))
    (am_Marks_look_cell : PySem.W.findIn K (.ref c_Marks) "look_cell" = some (some (.ref f_Store_look_cell)))
    (am_Marks_after_swap : PySem.W.findIn K (.ref c_Marks) "after_swap" = some (some (.ref f_Marks_after_swap)))
    (am_Marks_swap : PySem.W.findIn K (.ref c_Marks) "swap" = some (some (.ref f_Store_swap)))
    (am_Counts_look_cell : PySem.W.findIn K (.ref c_Counts) "look_cell" = some (some (.ref f_Store_look_cell)))
    (am_Counts_count_of : PySem.W.findIn K (.ref c_Counts) "count_of" = some (some (.ref f_Counts_count_of)))
    (am_Counts_is_out : PySem.W.findIn K (.ref c_Counts) "is_out" = some (some (.ref f_Store_is_out)))
    (am_Counts_let_go : PySem.W.findIn K (.ref c_Counts) "let_go" = some (some (.ref f_Store_let_go)))
    (am_Counts_loose : PySem.W.findIn K (.ref c_Counts) "loose" = some (some (.ref f_Counts_loose)))
    (am_Counts_after_swap : PySem.W.findIn K (.ref c_Counts) "after_swap" = some (some (.ref f_Counts_after_swap)))
    (am_Counts_swap : PySem.W.findIn K (.ref c_Counts) "swap" = some (some (.ref f_Store_swap)))
    (am_Store_kept : PySem.W.findIn K (.ref c_Store) "kept" = some (some (.ref f_Store_kept)))
    (am_Rounds_kept : PySem.W.findIn K (.ref c_Rounds) "kept" = some (some (.ref f_Store_kept)))
    (am_Marks_kept : PySem.W.findIn K (.ref c_Marks) "kept" = some (some (.ref f_Store_kept)))
    (am_Counts_kept : PySem.W.findIn K (.ref c_Counts) "kept" = some (some (.ref f_Store_kept)))
    (am_Store_now : PySem.W.findIn K (.ref c_Store) "now" = some (some (.ref f_Store_now)))
    (am_Rounds_now : PySem.W.findIn K (.ref c_Rounds) "now" = some (some (.ref f_Store_now)))
    (am_Marks_now : PySem.W.findIn K (.ref c_Marks) "now" = some (some (.ref f_Store_now)))
    (am_Counts_now : PySem.W.findIn K (.ref c_Counts) "now" = some (some (.ref f_Store_now)))
    (cr_Store_init : PySem.W.readsIn K c_Store (.type "type") = true)
    (cg_Store_init : PySem.W.specialIn K (.ref c_Store) "__getattribute__" = some (some (.builtin "type.__getattribute__")))
    (ca_Store_init : PySem.W.findCls K (.ref c_Store) (.type "type") "__init__" = some (.val (.ref f_Store_init)))
    (im_Store_look_cell : PySem.W.isFn K (.ref f_Store_look_cell) = true)
    (im_Store_after_swap : PySem.W.isFn K (.ref f_Store_after_swap) = true)
    (im_Store_swap : PySem.W.isFn K (.ref f_Store_swap) = true)
    (im_Rounds_after_swap : PySem.W.isFn K (.ref f_Rounds_after_swap) = true)
    (im_Marks_after_swap : PySem.W.isFn K (.ref f_Marks_after_swap) = true)
    (im_Counts_count_of : PySem.W.isFn K (.ref f_Counts_count_of) = true)
    (im_Store_is_out : PySem.W.isFn K (.ref f_Store_is_out) = true)
    (im_Store_let_go : PySem.W.isFn K (.ref f_Store_let_go) = true)
    (im_Counts_loose : PySem.W.isFn K (.ref f_Counts_loose) = true)
    (im_Counts_after_swap : PySem.W.isFn K (.ref f_Counts_after_swap) = true)
    (im_Store_kept : PySem.W.isFn K (.ref f_Store_kept) = true)
    (im_Store_now : PySem.W.isFn K (.ref f_Store_now) = true)
    (a__law_town : PySem.W.nsIn K mainGlobals "_law_town" = some (some (.ref f__law_town)))
    (l__law_town : K.lookup f__law_town = some ⟨oc__law_town, od__law_town, .func (PySem.W.fnOf "_law_town" "_law_town" (defArgs s__law_town) (defBody s__law_town) (defScope s__law_town) .none kV__law_town dc__law_town pm__law_town an__law_town cd__law_town ct__law_town), sl__law_town⟩)
    (c__law_town : PySem.W.codeIn K cd__law_town "_law_town" = true)
    (k__law_town : PySem.W.keepIn K (.ref f__law_town) = true)
    (a__law_draw : PySem.W.nsIn K mainGlobals "_law_draw" = some (some (.ref f__law_draw)))
    (l__law_draw : K.lookup f__law_draw = some ⟨oc__law_draw, od__law_draw, .func (PySem.W.fnOf "_law_draw" "_law_draw" (defArgs s__law_draw) (defBody s__law_draw) (defScope s__law_draw) .none kV__law_draw dc__law_draw pm__law_draw an__law_draw cd__law_draw ct__law_draw), sl__law_draw⟩)
    (c__law_draw : PySem.W.codeIn K cd__law_draw "_law_draw" = true)
    (k__law_draw : PySem.W.keepIn K (.ref f__law_draw) = true)
    (a__law_pick : PySem.W.nsIn K mainGlobals "_law_pick" = some (some (.ref f__law_pick)))
    (l__law_pick : K.lookup f__law_pick = some ⟨oc__law_pick, od__law_pick, .func (PySem.W.fnOf "_law_pick" "_law_pick" (defArgs s__law_pick) (defBody s__law_pick) (defScope s__law_pick) .none kV__law_pick dc__law_pick pm__law_pick an__law_pick cd__law_pick ct__law_pick), sl__law_pick⟩)
    (c__law_pick : PySem.W.codeIn K cd__law_pick "_law_pick" = true)
    (k__law_pick : PySem.W.keepIn K (.ref f__law_pick) = true)
    (a_is_whole : PySem.W.nsIn K mainGlobals "is_whole" = some (some (.ref f_is_whole)))
    (l_is_whole : K.lookup f_is_whole = some ⟨oc_is_whole, od_is_whole, .func (PySem.W.fnOf "is_whole" "is_whole" (defArgs s_is_whole) (defBody s_is_whole) (defScope s_is_whole) .none kV_is_whole dc_is_whole pm_is_whole an_is_whole cd_is_whole ct_is_whole), sl_is_whole⟩)
    (c_is_whole : PySem.W.codeIn K cd_is_whole "is_whole" = true)
    (k_is_whole : PySem.W.keepIn K (.ref f_is_whole) = true)
    (a_look_number : PySem.W.nsIn K mainGlobals "look_number" = some (some (.ref f_look_number)))
    (l_look_number : K.lookup f_look_number = some ⟨oc_look_number, od_look_number, .func (PySem.W.fnOf "look_number" "look_number" (defArgs s_look_number) (defBody s_look_number) (defScope s_look_number) .none kV_look_number dc_look_number pm_look_number an_look_number cd_look_number ct_look_number), sl_look_number⟩)
    (c_look_number : PySem.W.codeIn K cd_look_number "look_number" = true)
    (k_look_number : PySem.W.keepIn K (.ref f_look_number) = true)
    (l_Store_init : K.lookup f_Store_init = some ⟨oc_Store_init, od_Store_init, .func (PySem.W.fnOf "__init__" "Store.__init__" (defArgs s_Store_init) (defBody s_Store_init) (defScope s_Store_init) .none kV_Store_init dc_Store_init pm_Store_init an_Store_init cd_Store_init ct_Store_init), sl_Store_init⟩)
    (c_Store_init : PySem.W.codeIn K cd_Store_init "Store.__init__" = true)
    (k_Store_init : PySem.W.keepIn K (.ref f_Store_init) = true)
    (l_Counts_init : K.lookup f_Counts_init = some ⟨oc_Counts_init, od_Counts_init, .func (PySem.W.fnOf "__init__" "Counts.__init__" (defArgs s_Counts_init) (defBody s_Counts_init) (defScope s_Counts_init) .none kV_Counts_init dc_Counts_init pm_Counts_init an_Counts_init cd_Counts_init ct_Counts_init), sl_Counts_init⟩)
    (c_Counts_init : PySem.W.codeIn K cd_Counts_init "Counts.__init__" = true)
    (k_Counts_init : PySem.W.keepIn K (.ref f_Counts_init) = true)
    (l_Marks_init : K.lookup f_Marks_init = some ⟨oc_Marks_init, od_Marks_init, .func (PySem.W.fnOf "__init__" "Marks.__init__" (defArgs s_Marks_init) (defBody s_Marks_init) (defScope s_Marks_init) .none kV_Marks_init dc_Marks_init pm_Marks_init an_Marks_init cd_Marks_init ct_Marks_init), sl_Marks_init⟩)
    (c_Marks_init : PySem.W.codeIn K cd_Marks_init "Marks.__init__" = true)
    (k_Marks_init : PySem.W.keepIn K (.ref f_Marks_init) = true)
    (l_Rounds_init : K.lookup f_Rounds_init = some ⟨oc_Rounds_init, od_Rounds_init, .func (PySem.W.fnOf "__init__" "Rounds.__init__" (defArgs s_Rounds_init) (defBody s_Rounds_init) (defScope s_Rounds_init) .none kV_Rounds_init dc_Rounds_init pm_Rounds_init an_Rounds_init cd_Rounds_init ct_Rounds_init), sl_Rounds_init⟩)
    (c_Rounds_init : PySem.W.codeIn K cd_Rounds_init "Rounds.__init__" = true)
    (k_Rounds_init : PySem.W.keepIn K (.ref f_Rounds_init) = true)
    (l_Store_look_cell : K.lookup f_Store_look_cell = some ⟨oc_Store_look_cell, od_Store_look_cell, .func (PySem.W.fnOf "look_cell" "Store.look_cell" (defArgs s_Store_look_cell) (defBody s_Store_look_cell) (defScope s_Store_look_cell) .none kV_Store_look_cell dc_Store_look_cell pm_Store_look_cell an_Store_look_cell cd_Store_look_cell ct_Store_look_cell), sl_Store_look_cell⟩)
    (c_Store_look_cell : PySem.W.codeIn K cd_Store_look_cell "Store.look_cell" = true)
    (k_Store_look_cell : PySem.W.keepIn K (.ref f_Store_look_cell) = true)
    (l_Store_after_swap : K.lookup f_Store_after_swap = some ⟨oc_Store_after_swap, od_Store_after_swap, .func (PySem.W.fnOf "after_swap" "Store.after_swap" (defArgs s_Store_after_swap) (defBody s_Store_after_swap) (defScope s_Store_after_swap) .none kV_Store_after_swap dc_Store_after_swap pm_Store_after_swap an_Store_after_swap cd_Store_after_swap ct_Store_after_swap), sl_Store_after_swap⟩)
    (c_Store_after_swap : PySem.W.codeIn K cd_Store_after_swap "Store.after_swap" = true)
    (k_Store_after_swap : PySem.W.keepIn K (.ref f_Store_after_swap) = true)
    (l_Store_swap : K.lookup f_Store_swap = some ⟨oc_Store_swap, od_Store_swap, .func (PySem.W.fnOf "swap" "Store.swap" (defArgs s_Store_swap) (defBody s_Store_swap) (defScope s_Store_swap) .none kV_Store_swap dc_Store_swap pm_Store_swap an_Store_swap cd_Store_swap ct_Store_swap), sl_Store_swap⟩)
    (c_Store_swap : PySem.W.codeIn K cd_Store_swap "Store.swap" = true)
    (k_Store_swap : PySem.W.keepIn K (.ref f_Store_swap) = true)
    (l_Rounds_after_swap : K.lookup f_Rounds_after_swap = some ⟨oc_Rounds_after_swap, od_Rounds_after_swap, .func (PySem.W.fnOf "after_swap" "Rounds.after_swap" (defArgs s_Rounds_after_swap) (defBody s_Rounds_after_swap) (defScope s_Rounds_after_swap) .none kV_Rounds_after_swap dc_Rounds_after_swap pm_Rounds_after_swap an_Rounds_after_swap cd_Rounds_after_swap ct_Rounds_after_swap), sl_Rounds_after_swap⟩)
    (c_Rounds_after_swap : PySem.W.codeIn K cd_Rounds_after_swap "Rounds.after_swap" = true)
    (k_Rounds_after_swap : PySem.W.keepIn K (.ref f_Rounds_after_swap) = true)
    (l_Marks_after_swap : K.lookup f_Marks_after_swap = some ⟨oc_Marks_after_swap, od_Marks_after_swap, .func (PySem.W.fnOf "after_swap" "Marks.after_swap" (defArgs s_Marks_after_swap) (defBody s_Marks_after_swap) (defScope s_Marks_after_swap) .none kV_Marks_after_swap dc_Marks_after_swap pm_Marks_after_swap an_Marks_after_swap cd_Marks_after_swap ct_Marks_after_swap), sl_Marks_after_swap⟩)
    (c_Marks_after_swap : PySem.W.codeIn K cd_Marks_after_swap "Marks.after_swap" = true)
    (k_Marks_after_swap : PySem.W.keepIn K (.ref f_Marks_after_swap) = true)
    (l_Counts_count_of : K.lookup f_Counts_count_of = some ⟨oc_Counts_count_of, od_Counts_count_of, .func (PySem.W.fnOf "count_of" "Counts.count_of" (defArgs s_Counts_count_of) (defBody s_Counts_count_of) (defScope s_Counts_count_of) .none kV_Counts_count_of dc_Counts_count_of pm_Counts_count_of an_Counts_count_of cd_Counts_count_of ct_Counts_count_of), sl_Counts_count_of⟩)
    (c_Counts_count_of : PySem.W.codeIn K cd_Counts_count_of "Counts.count_of" = true)
    (k_Counts_count_of : PySem.W.keepIn K (.ref f_Counts_count_of) = true)
    (l_Store_is_out : K.lookup f_Store_is_out = some ⟨oc_Store_is_out, od_Store_is_out, .func (PySem.W.fnOf "is_out" "Store.is_out" (defArgs s_Store_is_out) (defBody s_Store_is_out) (defScope s_Store_is_out) .none kV_Store_is_out dc_Store_is_out pm_Store_is_out an_Store_is_out cd_Store_is_out ct_Store_is_out), sl_Store_is_out⟩)
    (c_Store_is_out : PySem.W.codeIn K cd_Store_is_out "Store.is_out" = true)
    (k_Store_is_out : PySem.W.keepIn K (.ref f_Store_is_out) = true)
    (l_Store_let_go : K.lookup f_Store_let_go = some ⟨oc_Store_let_go, od_Store_let_go, .func (PySem.W.fnOf "let_go" "Store.let_go" (defArgs s_Store_let_go) (defBody s_Store_let_go) (defScope s_Store_let_go) .none kV_Store_let_go dc_Store_let_go pm_Store_let_go an_Store_let_go cd_Store_let_go ct_Store_let_go), sl_Store_let_go⟩)
    (c_Store_let_go : PySem.W.codeIn K cd_Store_let_go "Store.let_go" = true)
    (k_Store_let_go : PySem.W.keepIn K (.ref f_Store_let_go) = true)
    (l_Counts_loose : K.lookup f_Counts_loose = some ⟨oc_Counts_loose, od_Counts_loose, .func (PySem.W.fnOf "loose" "Counts.loose" (defArgs s_Counts_loose) (defBody s_Counts_loose) (defScope s_Counts_loose) .none kV_Counts_loose dc_Counts_loose pm_Counts_loose an_Counts_loose cd_Counts_loose ct_Counts_loose), sl_Counts_loose⟩)
    (c_Counts_loose : PySem.W.codeIn K cd_Counts_loose "Counts.loose" = true)
    (k_Counts_loose : PySem.W.keepIn K (.ref f_Counts_loose) = true)
    (l_Counts_after_swap : K.lookup f_Counts_after_swap = some ⟨oc_Counts_after_swap, od_Counts_after_swap, .func (PySem.W.fnOf "after_swap" "Counts.after_swap" (defArgs s_Counts_after_swap) (defBody s_Counts_after_swap) (defScope s_Counts_after_swap) .none kV_Counts_after_swap dc_Counts_after_swap pm_Counts_after_swap an_Counts_after_swap cd_Counts_after_swap ct_Counts_after_swap), sl_Counts_after_swap⟩)
    (c_Counts_after_swap : PySem.W.codeIn K cd_Counts_after_swap "Counts.after_swap" = true)
    (k_Counts_after_swap : PySem.W.keepIn K (.ref f_Counts_after_swap) = true)
    (a__law_refusal : PySem.W.nsIn K mainGlobals "_law_refusal" = some (some (.ref f__law_refusal)))
    (l__law_refusal : K.lookup f__law_refusal = some ⟨oc__law_refusal, od__law_refusal, .func (PySem.W.fnOf "_law_refusal" "_law_refusal" (defArgs s__law_refusal) (defBody s__law_refusal) (defScope s__law_refusal) .none kV__law_refusal dc__law_refusal pm__law_refusal an__law_refusal cd__law_refusal ct__law_refusal), sl__law_refusal⟩)
    (c__law_refusal : PySem.W.codeIn K cd__law_refusal "_law_refusal" = true)
    (k__law_refusal : PySem.W.keepIn K (.ref f__law_refusal) = true)
    (a__law_asked : PySem.W.nsIn K mainGlobals "_law_asked" = some (some (.ref f__law_asked)))
    (l__law_asked : K.lookup f__law_asked = some ⟨oc__law_asked, od__law_asked, .func (PySem.W.fnOf "_law_asked" "_law_asked" (defArgs s__law_asked) (defBody s__law_asked) (defScope s__law_asked) .none kV__law_asked dc__law_asked pm__law_asked an__law_asked cd__law_asked ct__law_asked), sl__law_asked⟩)
    (c__law_asked : PySem.W.codeIn K cd__law_asked "_law_asked" = true)
    (k__law_asked : PySem.W.keepIn K (.ref f__law_asked) = true)
    (a__law_odd : PySem.W.nsIn K mainGlobals "_law_odd" = some (some (.ref f__law_odd)))
    (l__law_odd : K.lookup f__law_odd = some ⟨oc__law_odd, od__law_odd, .func (PySem.W.fnOf "_law_odd" "_law_odd" (defArgs s__law_odd) (defBody s__law_odd) (defScope s__law_odd) .none kV__law_odd dc__law_odd pm__law_odd an__law_odd cd__law_odd ct__law_odd), sl__law_odd⟩)
    (c__law_odd : PySem.W.codeIn K cd__law_odd "_law_odd" = true)
    (k__law_odd : PySem.W.keepIn K (.ref f__law_odd) = true)
    (l_Store_kept : K.lookup f_Store_kept = some ⟨oc_Store_kept, od_Store_kept, .func (PySem.W.fnOf "kept" "Store.kept" (defArgs s_Store_kept) (defBody s_Store_kept) (defScope s_Store_kept) .none kV_Store_kept dc_Store_kept pm_Store_kept an_Store_kept cd_Store_kept ct_Store_kept), sl_Store_kept⟩)
    (c_Store_kept : PySem.W.codeIn K cd_Store_kept "Store.kept" = true)
    (k_Store_kept : PySem.W.keepIn K (.ref f_Store_kept) = true)
    (l_Store_now : K.lookup f_Store_now = some ⟨oc_Store_now, od_Store_now, .func (PySem.W.fnOf "now" "Store.now" (defArgs s_Store_now) (defBody s_Store_now) (defScope s_Store_now) .none kV_Store_now dc_Store_now pm_Store_now an_Store_now cd_Store_now ct_Store_now), sl_Store_now⟩)
    (c_Store_now : PySem.W.codeIn K cd_Store_now "Store.now" = true)
    (k_Store_now : PySem.W.keepIn K (.ref f_Store_now) = true)
    (a_law : PySem.W.nsIn K mainGlobals "law" = some (some (.ref f_law)))
    (l_law : K.lookup f_law = some ⟨oc_law, od_law, .func (PySem.W.fnOf "law" "law" (defArgs s_law) (defBody s_law) (defScope s_law) .none kV_law dc_law pm_law an_law cd_law ct_law), sl_law⟩)
    (c_law : PySem.W.codeIn K cd_law "law" = true)
    (k_law : PySem.W.keepIn K (.ref f_law) = true)
    (z_ValueError : PySem.W.nsIn K mainGlobals "ValueError" = some none)
    (z_bool : PySem.W.nsIn K mainGlobals "bool" = some none)
    (z_dict : PySem.W.nsIn K mainGlobals "dict" = some none)
    (z_int : PySem.W.nsIn K mainGlobals "int" = some none)
    (z_isinstance : PySem.W.nsIn K mainGlobals "isinstance" = some none)
    (z_len : PySem.W.nsIn K mainGlobals "len" = some none)
    (z_list : PySem.W.nsIn K mainGlobals "list" = some none)
    (z_range : PySem.W.nsIn K mainGlobals "range" = some none)
    (z_sorted : PySem.W.nsIn K mainGlobals "sorted" = some none)
    (z_sum : PySem.W.nsIn K mainGlobals "sum" = some none)
    (zk_MOST_CELLS : PySem.W.nsIn K mainGlobals "MOST_CELLS" = some (some (.int (5) t_MOST_CELLS)))
    (zk_MOST_HANDS : PySem.W.nsIn K mainGlobals "MOST_HANDS" = some (some (.int (6) t_MOST_HANDS)))
    (zk_MOST_VALUE : PySem.W.nsIn K mainGlobals "MOST_VALUE" = some (some (.int (999) t_MOST_VALUE))) :
    ∃ fd : FuncData, (∀ (s : Shared) (v : Value), BindsTo s fd ⟨[v], []⟩ [("script", v)]) ∧ ∀ base : Heap, K.In base → base.Ns mainGlobals mg → FnOk l.prog w K mg base CX0 7 fa fd ["script"] (sp_law K) := by
  have e := hfa.symm.trans (PySem.W.mg_of X G a_law)
  cases e
  have F__law_town := fun_mk (st := s__law_town) l__law_town c__law_town k__law_town
  have F__law_draw := fun_mk (st := s__law_draw) l__law_draw c__law_draw k__law_draw
  have F__law_pick := fun_mk (st := s__law_pick) l__law_pick c__law_pick k__law_pick
  have F_is_whole := fun_mk (st := s_is_whole) l_is_whole c_is_whole k_is_whole
  have F_look_number := fun_mk (st := s_look_number) l_look_number c_look_number k_look_number
  have F_Store_init := fun_mk (st := s_Store_init) l_Store_init c_Store_init k_Store_init
  have F_Counts_init := fun_mk (st := s_Counts_init) l_Counts_init c_Counts_init k_Counts_init
  have F_Marks_init := fun_mk (st := s_Marks_init) l_Marks_init c_Marks_init k_Marks_init
  have F_Rounds_init := fun_mk (st := s_Rounds_init) l_Rounds_init c_Rounds_init k_Rounds_init
  have F_Store_look_cell := fun_mk (st := s_Store_look_cell) l_Store_look_cell c_Store_look_cell k_Store_look_cell
  have F_Store_after_swap := fun_mk (st := s_Store_after_swap) l_Store_after_swap c_Store_after_swap k_Store_after_swap
  have F_Store_swap := fun_mk (st := s_Store_swap) l_Store_swap c_Store_swap k_Store_swap
  have F_Rounds_after_swap := fun_mk (st := s_Rounds_after_swap) l_Rounds_after_swap c_Rounds_after_swap k_Rounds_after_swap
  have F_Marks_after_swap := fun_mk (st := s_Marks_after_swap) l_Marks_after_swap c_Marks_after_swap k_Marks_after_swap
  have F_Counts_count_of := fun_mk (st := s_Counts_count_of) l_Counts_count_of c_Counts_count_of k_Counts_count_of
  have F_Store_is_out := fun_mk (st := s_Store_is_out) l_Store_is_out c_Store_is_out k_Store_is_out
  have F_Store_let_go := fun_mk (st := s_Store_let_go) l_Store_let_go c_Store_let_go k_Store_let_go
  have F_Counts_loose := fun_mk (st := s_Counts_loose) l_Counts_loose c_Counts_loose k_Counts_loose
  have F_Counts_after_swap := fun_mk (st := s_Counts_after_swap) l_Counts_after_swap c_Counts_after_swap k_Counts_after_swap
  have F__law_refusal := fun_mk (st := s__law_refusal) l__law_refusal c__law_refusal k__law_refusal
  have F__law_asked := fun_mk (st := s__law_asked) l__law_asked c__law_asked k__law_asked
  have F__law_odd := fun_mk (st := s__law_odd) l__law_odd c__law_odd k__law_odd
  have F_Store_kept := fun_mk (st := s_Store_kept) l_Store_kept c_Store_kept k_Store_kept
  have F_Store_now := fun_mk (st := s_Store_now) l_Store_now c_Store_now k_Store_now
  have F_law := fun_mk (st := s_law) l_law c_law k_law
  have b__law_town := F__law_town.binds (ps := ["script"]) fun _ _ _ _ _ _ us hl => match us, hl with | [_], _ => rfl
  have b__law_draw := F__law_draw.binds (ps := ["town", "many"]) fun _ _ _ _ _ _ us hl => match us, hl with | [_, _], _ => rfl
  have b__law_pick := F__law_pick.binds (ps := ["town", "some"]) fun _ _ _ _ _ _ us hl => match us, hl with | [_, _], _ => rfl
  have b_is_whole := F_is_whole.binds (ps := ["thing", "low", "high"]) fun _ _ _ _ _ _ us hl => match us, hl with | [_, _, _], _ => rfl
  have b_look_number := F_look_number.binds (ps := ["thing", "low", "high"]) fun _ _ _ _ _ _ us hl => match us, hl with | [_, _, _], _ => rfl
  have b_Store_init := F_Store_init.binds (ps := ["self", "hands", "cells"]) fun _ _ _ _ _ _ us hl => match us, hl with | [_, _, _], _ => rfl
  have b_Counts_init := F_Counts_init.binds (ps := ["self", "hands", "cells"]) fun _ _ _ _ _ _ us hl => match us, hl with | [_, _, _], _ => rfl
  have b_Marks_init := F_Marks_init.binds (ps := ["self", "hands", "cells"]) fun _ _ _ _ _ _ us hl => match us, hl with | [_, _, _], _ => rfl
  have b_Rounds_init := F_Rounds_init.binds (ps := ["self", "hands", "cells"]) fun _ _ _ _ _ _ us hl => match us, hl with | [_, _, _], _ => rfl
  have b_Store_look_cell := F_Store_look_cell.binds (ps := ["self", "cell"]) fun _ _ _ _ _ _ us hl => match us, hl with | [_, _], _ => rfl
  have b_Store_after_swap := F_Store_after_swap.binds (ps := ["self", "thing"]) fun _ _ _ _ _ _ us hl => match us, hl with | [_, _], _ => rfl
  have b_Store_swap := F_Store_swap.binds (ps := ["self", "cell", "value"]) fun _ _ _ _ _ _ us hl => match us, hl with | [_, _, _], _ => rfl
  have b_Rounds_after_swap := F_Rounds_after_swap.binds (ps := ["self", "thing"]) fun _ _ _ _ _ _ us hl => match us, hl with | [_, _], _ => rfl
  have b_Marks_after_swap := F_Marks_after_swap.binds (ps := ["self", "thing"]) fun _ _ _ _ _ _ us hl => match us, hl with | [_, _], _ => rfl
  have b_Counts_count_of := F_Counts_count_of.binds (ps := ["self", "thing"]) fun _ _ _ _ _ _ us hl => match us, hl with | [_, _], _ => rfl
  have b_Store_is_out := F_Store_is_out.binds (ps := ["self", "thing"]) fun _ _ _ _ _ _ us hl => match us, hl with | [_, _], _ => rfl
  have b_Store_let_go := F_Store_let_go.binds (ps := ["self", "things"]) fun _ _ _ _ _ _ us hl => match us, hl with | [_, _], _ => rfl
  have b_Counts_loose := F_Counts_loose.binds (ps := ["self", "thing"]) fun _ _ _ _ _ _ us hl => match us, hl with | [_, _], _ => rfl
  have b_Counts_after_swap := F_Counts_after_swap.binds (ps := ["self", "thing"]) fun _ _ _ _ _ _ us hl => match us, hl with | [_, _], _ => rfl
  have b__law_refusal := F__law_refusal.binds (ps := ["caught"]) fun _ _ _ _ _ _ us hl => match us, hl with | [_], _ => rfl
  have b__law_asked := F__law_asked.binds (ps := ["store", "kind", "one", "other"]) fun _ _ _ _ _ _ us hl => match us, hl with | [_, _, _, _], _ => rfl
  have b__law_odd := F__law_odd.binds (ps := ["town", "most"]) fun _ _ _ _ _ _ us hl => match us, hl with | [_, _], _ => rfl
  have b_Store_kept := F_Store_kept.binds (ps := ["self"]) fun _ _ _ _ _ _ us hl => match us, hl with | [_], _ => rfl
  have b_Store_now := F_Store_now.binds (ps := ["self"]) fun _ _ _ _ _ _ us hl => match us, hl with | [_], _ => rfl
  have b_law := F_law.binds (ps := ["script"]) fun _ _ _ _ _ _ us hl => match us, hl with | [_], _ => rfl
  let D : Adr := { c_Counts := c_Counts, c_Store := c_Store, c_Marks := c_Marks, c_Rounds := c_Rounds, c_BadNumber := c_BadNumber, c_NoCell := c_NoCell, c_NoHand := c_NoHand, c_NotIn := c_NotIn, c_IsIn := c_IsIn, c_NoMark := c_NoMark, c_BadPairs := c_BadPairs, c_Gone := c_Gone, c_NotHeld := c_NotHeld, c_NotNow := c_NotNow, c_StoreError := c_StoreError, f__law_town := f__law_town, d__law_town := PySem.W.fnOf "_law_town" "_law_town" (defArgs s__law_town) (defBody s__law_town) (defScope s__law_town) .none kV__law_town dc__law_town pm__law_town an__law_town cd__law_town ct__law_town, f__law_draw := f__law_draw, d__law_draw := PySem.W.fnOf "_law_draw" "_law_draw" (defArgs s__law_draw) (defBody s__law_draw) (defScope s__law_draw) .none kV__law_draw dc__law_draw pm__law_draw an__law_draw cd__law_draw ct__law_draw, f__law_pick := f__law_pick, d__law_pick := PySem.W.fnOf "_law_pick" "_law_pick" (defArgs s__law_pick) (defBody s__law_pick) (defScope s__law_pick) .none kV__law_pick dc__law_pick pm__law_pick an__law_pick cd__law_pick ct__law_pick, f_is_whole := f_is_whole, d_is_whole := PySem.W.fnOf "is_whole" "is_whole" (defArgs s_is_whole) (defBody s_is_whole) (defScope s_is_whole) .none kV_is_whole dc_is_whole pm_is_whole an_is_whole cd_is_whole ct_is_whole, f_look_number := f_look_number, d_look_number := PySem.W.fnOf "look_number" "look_number" (defArgs s_look_number) (defBody s_look_number) (defScope s_look_number) .none kV_look_number dc_look_number pm_look_number an_look_number cd_look_number ct_look_number, f_Store_init := f_Store_init, d_Store_init := PySem.W.fnOf "__init__" "Store.__init__" (defArgs s_Store_init) (defBody s_Store_init) (defScope s_Store_init) .none kV_Store_init dc_Store_init pm_Store_init an_Store_init cd_Store_init ct_Store_init, f_Counts_init := f_Counts_init, d_Counts_init := PySem.W.fnOf "__init__" "Counts.__init__" (defArgs s_Counts_init) (defBody s_Counts_init) (defScope s_Counts_init) .none kV_Counts_init dc_Counts_init pm_Counts_init an_Counts_init cd_Counts_init ct_Counts_init, f_Marks_init := f_Marks_init, d_Marks_init := PySem.W.fnOf "__init__" "Marks.__init__" (defArgs s_Marks_init) (defBody s_Marks_init) (defScope s_Marks_init) .none kV_Marks_init dc_Marks_init pm_Marks_init an_Marks_init cd_Marks_init ct_Marks_init, f_Rounds_init := f_Rounds_init, d_Rounds_init := PySem.W.fnOf "__init__" "Rounds.__init__" (defArgs s_Rounds_init) (defBody s_Rounds_init) (defScope s_Rounds_init) .none kV_Rounds_init dc_Rounds_init pm_Rounds_init an_Rounds_init cd_Rounds_init ct_Rounds_init, f_Store_look_cell := f_Store_look_cell, d_Store_look_cell := PySem.W.fnOf "look_cell" "Store.look_cell" (defArgs s_Store_look_cell) (defBody s_Store_look_cell) (defScope s_Store_look_cell) .none kV_Store_look_cell dc_Store_look_cell pm_Store_look_cell an_Store_look_cell cd_Store_look_cell ct_Store_look_cell, f_Store_after_swap := f_Store_after_swap, d_Store_after_swap := PySem.W.fnOf "after_swap" "Store.after_swap" (defArgs s_Store_after_swap) (defBody s_Store_after_swap) (defScope s_Store_after_swap) .none kV_Store_after_swap dc_Store_after_swap pm_Store_after_swap an_Store_after_swap cd_Store_after_swap ct_Store_after_swap, f_Store_swap := f_Store_swap, d_Store_swap := PySem.W.fnOf "swap" "Store.swap" (defArgs s_Store_swap) (defBody s_Store_swap) (defScope s_Store_swap) .none kV_Store_swap dc_Store_swap pm_Store_swap an_Store_swap cd_Store_swap ct_Store_swap, f_Rounds_after_swap := f_Rounds_after_swap, d_Rounds_after_swap := PySem.W.fnOf "after_swap" "Rounds.after_swap" (defArgs s_Rounds_after_swap) (defBody s_Rounds_after_swap) (defScope s_Rounds_after_swap) .none kV_Rounds_after_swap dc_Rounds_after_swap pm_Rounds_after_swap an_Rounds_after_swap cd_Rounds_after_swap ct_Rounds_after_swap, f_Marks_after_swap := f_Marks_after_swap, d_Marks_after_swap := PySem.W.fnOf "after_swap" "Marks.after_swap" (defArgs s_Marks_after_swap) (defBody s_Marks_after_swap) (defScope s_Marks_after_swap) .none kV_Marks_after_swap dc_Marks_after_swap pm_Marks_after_swap an_Marks_after_swap cd_Marks_after_swap ct_Marks_after_swap, f_Counts_count_of := f_Counts_count_of, d_Counts_count_of := PySem.W.fnOf "count_of" "Counts.count_of" (defArgs s_Counts_count_of) (defBody s_Counts_count_of) (defScope s_Counts_count_of) .none kV_Counts_count_of dc_Counts_count_of pm_Counts_count_of an_Counts_count_of cd_Counts_count_of ct_Counts_count_of, f_Store_is_out := f_Store_is_out, d_Store_is_out := PySem.W.fnOf "is_out" "Store.is_out" (defArgs s_Store_is_out) (defBody s_Store_is_out) (defScope s_Store_is_out) .none kV_Store_is_out dc_Store_is_out pm_Store_is_out an_Store_is_out cd_Store_is_out ct_Store_is_out, f_Store_let_go := f_Store_let_go, d_Store_let_go := PySem.W.fnOf "let_go" "Store.let_go" (defArgs s_Store_let_go) (defBody s_Store_let_go) (defScope s_Store_let_go) .none kV_Store_let_go dc_Store_let_go pm_Store_let_go an_Store_let_go cd_Store_let_go ct_Store_let_go, f_Counts_loose := f_Counts_loose, d_Counts_loose := PySem.W.fnOf "loose" "Counts.loose" (defArgs s_Counts_loose) (defBody s_Counts_loose) (defScope s_Counts_loose) .none kV_Counts_loose dc_Counts_loose pm_Counts_loose an_Counts_loose cd_Counts_loose ct_Counts_loose, f_Counts_after_swap := f_Counts_after_swap, d_Counts_after_swap := PySem.W.fnOf "after_swap" "Counts.after_swap" (defArgs s_Counts_after_swap) (defBody s_Counts_after_swap) (defScope s_Counts_after_swap) .none kV_Counts_after_swap dc_Counts_after_swap pm_Counts_after_swap an_Counts_after_swap cd_Counts_after_swap ct_Counts_after_swap, f__law_refusal := f__law_refusal, d__law_refusal := PySem.W.fnOf "_law_refusal" "_law_refusal" (defArgs s__law_refusal) (defBody s__law_refusal) (defScope s__law_refusal) .none kV__law_refusal dc__law_refusal pm__law_refusal an__law_refusal cd__law_refusal ct__law_refusal, f__law_asked := f__law_asked, d__law_asked := PySem.W.fnOf "_law_asked" "_law_asked" (defArgs s__law_asked) (defBody s__law_asked) (defScope s__law_asked) .none kV__law_asked dc__law_asked pm__law_asked an__law_asked cd__law_asked ct__law_asked, f__law_odd := f__law_odd, d__law_odd := PySem.W.fnOf "_law_odd" "_law_odd" (defArgs s__law_odd) (defBody s__law_odd) (defScope s__law_odd) .none kV__law_odd dc__law_odd pm__law_odd an__law_odd cd__law_odd ct__law_odd, f_Store_kept := f_Store_kept, d_Store_kept := PySem.W.fnOf "kept" "Store.kept" (defArgs s_Store_kept) (defBody s_Store_kept) (defScope s_Store_kept) .none kV_Store_kept dc_Store_kept pm_Store_kept an_Store_kept cd_Store_kept ct_Store_kept, f_Store_now := f_Store_now, d_Store_now := PySem.W.fnOf "now" "Store.now" (defArgs s_Store_now) (defBody s_Store_now) (defScope s_Store_now) .none kV_Store_now dc_Store_now pm_Store_now an_Store_now cd_Store_now ct_Store_now, f_law := fa, d_law := PySem.W.fnOf "law" "law" (defArgs s_law) (defBody s_law) (defScope s_law) .none kV_law dc_law pm_law an_law cd_law ct_law, t_MOST_CELLS := t_MOST_CELLS, t_MOST_HANDS := t_MOST_HANDS, t_MOST_VALUE := t_MOST_VALUE }
  have T : Txt K mg D :=
    { F__law_town := F__law_town, b__law_town := b__law_town,
      g__law_town := PySem.W.mg_of X G a__law_town,
      F__law_draw := F__law_draw, b__law_draw := b__law_draw,
      g__law_draw := PySem.W.mg_of X G a__law_draw,
      F__law_pick := F__law_pick, b__law_pick := b__law_pick,
      g__law_pick := PySem.W.mg_of X G a__law_pick,
      F_is_whole := F_is_whole, b_is_whole := b_is_whole,
      g_is_whole := PySem.W.mg_of X G a_is_whole,
      F_look_number := F_look_number, b_look_number := b_look_number,
      g_look_number := PySem.W.mg_of X G a_look_number,
      F_Store_init := F_Store_init, b_Store_init := b_Store_init,
      F_Counts_init := F_Counts_init, b_Counts_init := b_Counts_init,
      F_Marks_init := F_Marks_init, b_Marks_init := b_Marks_init,
      F_Rounds_init := F_Rounds_init, b_Rounds_init := b_Rounds_init,
      F_Store_look_cell := F_Store_look_cell, b_Store_look_cell := b_Store_look_cell,
      F_Store_after_swap := F_Store_after_swap, b_Store_after_swap := b_Store_after_swap,
      F_Store_swap := F_Store_swap, b_Store_swap := b_Store_swap,
      F_Rounds_after_swap := F_Rounds_after_swap, b_Rounds_after_swap := b_Rounds_after_swap,
      F_Marks_after_swap := F_Marks_after_swap, b_Marks_after_swap := b_Marks_after_swap,
      F_Counts_count_of := F_Counts_count_of, b_Counts_count_of := b_Counts_count_of,
      F_Store_is_out := F_Store_is_out, b_Store_is_out := b_Store_is_out,
      F_Store_let_go := F_Store_let_go, b_Store_let_go := b_Store_let_go,
      F_Counts_loose := F_Counts_loose, b_Counts_loose := b_Counts_loose,
      F_Counts_after_swap := F_Counts_after_swap, b_Counts_after_swap := b_Counts_after_swap,
      F__law_refusal := F__law_refusal, b__law_refusal := b__law_refusal,
      g__law_refusal := PySem.W.mg_of X G a__law_refusal,
      F__law_asked := F__law_asked, b__law_asked := b__law_asked,
      g__law_asked := PySem.W.mg_of X G a__law_asked,
      F__law_odd := F__law_odd, b__law_odd := b__law_odd,
      g__law_odd := PySem.W.mg_of X G a__law_odd,
      F_Store_kept := F_Store_kept, b_Store_kept := b_Store_kept,
      F_Store_now := F_Store_now, b_Store_now := b_Store_now,
      F_law := F_law, b_law := b_law,
      g_law := PySem.W.mg_of X G a_law,
      cl_Counts := ⟨pg_Counts, hd_Counts, po_Counts, sa_Counts⟩, g_Counts := PySem.W.mg_of X G aC_Counts,
      na_Counts_hands := na_Counts_hands,
      na_Counts_worth := na_Counts_worth,
      na_Counts_cells := na_Counts_cells,
      na_Counts_made := na_Counts_made,
      na_Counts_held := na_Counts_held,
      mk_Counts := ⟨mk_Counts, ai_Counts, ii_Counts, kc_Counts⟩,
      cl_Store := ⟨pg_Store, hd_Store, po_Store, sa_Store⟩, g_Store := PySem.W.mg_of X G aC_Store,
      na_Store_hands := na_Store_hands,
      na_Store_worth := na_Store_worth,
      na_Store_cells := na_Store_cells,
      na_Store_made := na_Store_made,
      mk_Store := ⟨mk_Store, ai_Store, ii_Store, kc_Store⟩,
      cl_Marks := ⟨pg_Marks, hd_Marks, po_Marks, sa_Marks⟩, g_Marks := PySem.W.mg_of X G aC_Marks,
      na_Marks_hands := na_Marks_hands,
      na_Marks_worth := na_Marks_worth,
      na_Marks_cells := na_Marks_cells,
      na_Marks_made := na_Marks_made,
      na_Marks_marks := na_Marks_marks,
      na_Marks_waits := na_Marks_waits,
      mk_Marks := ⟨mk_Marks, ai_Marks, ii_Marks, kc_Marks⟩,
      cl_Rounds := ⟨pg_Rounds, hd_Rounds, po_Rounds, sa_Rounds⟩, g_Rounds := PySem.W.mg_of X G aC_Rounds,
      na_Rounds_hands := na_Rounds_hands,
      na_Rounds_worth := na_Rounds_worth,
      na_Rounds_cells := na_Rounds_cells,
      na_Rounds_made := na_Rounds_made,
      na_Rounds_era := na_Rounds_era,
      na_Rounds_inside := na_Rounds_inside,
      na_Rounds_saw := na_Rounds_saw,
      na_Rounds_waits := na_Rounds_waits,
      mk_Rounds := ⟨mk_Rounds, ai_Rounds, ii_Rounds, kc_Rounds⟩,
      g_BadNumber := PySem.W.mg_of X G aC_BadNumber,
      xi_BadNumber := xi_BadNumber, kp_BadNumber := kp_BadNumber, sb_BadNumber := sb_BadNumber, ty_BadNumber := ty_BadNumber, em_BadNumber := em_BadNumber, kv_BadNumber := kv_BadNumber,
      ec_BadNumber := ⟨e1_BadNumber, e2_BadNumber, sb_BadNumber, e4_BadNumber, e5_BadNumber, e6_BadNumber, e7_BadNumber, e8_BadNumber⟩,
      ki_BadNumber_BadNumber := ki_BadNumber_BadNumber,
      ki_BadNumber_NoHand := ki_BadNumber_NoHand,
      ki_BadNumber_NoCell := ki_BadNumber_NoCell,
      ki_BadNumber_NoMark := ki_BadNumber_NoMark,
      ki_BadNumber_IsIn := ki_BadNumber_IsIn,
      ki_BadNumber_NotIn := ki_BadNumber_NotIn,
      ki_BadNumber_NotHeld := ki_BadNumber_NotHeld,
      ki_BadNumber_Gone := ki_BadNumber_Gone,
      ki_BadNumber_BadPairs := ki_BadNumber_BadPairs,
      ki_BadNumber_NotNow := ki_BadNumber_NotNow,
      ki_BadNumber_StoreError := ki_BadNumber_StoreError,
      g_NoCell := PySem.W.mg_of X G aC_NoCell,
      xi_NoCell := xi_NoCell, kp_NoCell := kp_NoCell, sb_NoCell := sb_NoCell, ty_NoCell := ty_NoCell, em_NoCell := em_NoCell, kv_NoCell := kv_NoCell,
      ec_NoCell := ⟨e1_NoCell, e2_NoCell, sb_NoCell, e4_NoCell, e5_NoCell, e6_NoCell, e7_NoCell, e8_NoCell⟩,
      ki_NoCell_BadNumber := ki_NoCell_BadNumber,
      ki_NoCell_NoHand := ki_NoCell_NoHand,
      ki_NoCell_NoCell := ki_NoCell_NoCell,
      ki_NoCell_NoMark := ki_NoCell_NoMark,
      ki_NoCell_IsIn := ki_NoCell_IsIn,
      ki_NoCell_NotIn := ki_NoCell_NotIn,
      ki_NoCell_NotHeld := ki_NoCell_NotHeld,
      ki_NoCell_Gone := ki_NoCell_Gone,
      ki_NoCell_BadPairs := ki_NoCell_BadPairs,
      ki_NoCell_NotNow := ki_NoCell_NotNow,
      ki_NoCell_StoreError := ki_NoCell_StoreError,
      g_NoHand := PySem.W.mg_of X G aC_NoHand,
      g_NotIn := PySem.W.mg_of X G aC_NotIn,
      g_IsIn := PySem.W.mg_of X G aC_IsIn,
      g_NoMark := PySem.W.mg_of X G aC_NoMark,
      g_BadPairs := PySem.W.mg_of X G aC_BadPairs,
      g_Gone := PySem.W.mg_of X G aC_Gone,
      g_NotHeld := PySem.W.mg_of X G aC_NotHeld,
      g_NotNow := PySem.W.mg_of X G aC_NotNow,
      g_StoreError := PySem.W.mg_of X G aC_StoreError,
      me_Store_look_cell := ⟨am_Store_look_cell, im_Store_look_cell, k_Store_look_cell⟩,
      me_Store_after_swap := ⟨am_Store_after_swap, im_Store_after_swap, k_Store_after_swap⟩,
      me_Store_swap := ⟨am_Store_swap, im_Store_swap, k_Store_swap⟩,
      me_Rounds_look_cell := ⟨am_Rounds_look_cell, im_Store_look_cell, k_Store_look_cell⟩,
      me_Rounds_after_swap := ⟨am_Rounds_after_swap, im_Rounds_after_swap, k_Rounds_after_swap⟩,
      me_Rounds_swap := ⟨am_Rounds_swap, im_Store_swap, k_Store_swap⟩,
      me_Marks_look_cell := ⟨am_Marks_look_cell, im_Store_look_cell, k_Store_look_cell⟩,
      me_Marks_after_swap := ⟨am_Marks_after_swap, im_Marks_after_swap, k_Marks_after_swap⟩,
      me_Marks_swap := ⟨am_Marks_swap, im_Store_swap, k_Store_swap⟩,
      me_Counts_look_cell := ⟨am_Counts_look_cell, im_Store_look_cell, k_Store_look_cell⟩,
      me_Counts_count_of := ⟨am_Counts_count_of, im_Counts_count_of, k_Counts_count_of⟩,
      me_Counts_is_out := ⟨am_Counts_is_out, im_Store_is_out, k_Store_is_out⟩,
      me_Counts_let_go := ⟨am_Counts_let_go, im_Store_let_go, k_Store_let_go⟩,
      me_Counts_loose := ⟨am_Counts_loose, im_Counts_loose, k_Counts_loose⟩,
      me_Counts_after_swap := ⟨am_Counts_after_swap, im_Counts_after_swap, k_Counts_after_swap⟩,
      me_Counts_swap := ⟨am_Counts_swap, im_Store_swap, k_Store_swap⟩,
      me_Store_kept := ⟨am_Store_kept, im_Store_kept, k_Store_kept⟩,
      me_Rounds_kept := ⟨am_Rounds_kept, im_Store_kept, k_Store_kept⟩,
      me_Marks_kept := ⟨am_Marks_kept, im_Store_kept, k_Store_kept⟩,
      me_Counts_kept := ⟨am_Counts_kept, im_Store_kept, k_Store_kept⟩,
      me_Store_now := ⟨am_Store_now, im_Store_now, k_Store_now⟩,
      me_Rounds_now := ⟨am_Rounds_now, im_Store_now, k_Store_now⟩,
      me_Marks_now := ⟨am_Marks_now, im_Store_now, k_Store_now⟩,
      me_Counts_now := ⟨am_Counts_now, im_Store_now, k_Store_now⟩,
      cf_Store_init := ⟨cr_Store_init, cg_Store_init, ca_Store_init, k_Store_init⟩,
      m_ValueError := PySem.W.mg_none_of X G z_ValueError,
      m_bool := PySem.W.mg_none_of X G z_bool,
      m_dict := PySem.W.mg_none_of X G z_dict,
      m_int := PySem.W.mg_none_of X G z_int,
      m_isinstance := PySem.W.mg_none_of X G z_isinstance,
      m_len := PySem.W.mg_none_of X G z_len,
      m_list := PySem.W.mg_none_of X G z_list,
      m_range := PySem.W.mg_none_of X G z_range,
      m_sorted := PySem.W.mg_none_of X G z_sorted,
      m_sum := PySem.W.mg_none_of X G z_sum,
      k_MOST_CELLS := PySem.W.mg_of X G zk_MOST_CELLS,
      k_MOST_HANDS := PySem.W.mg_of X G zk_MOST_HANDS,
      k_MOST_VALUE := PySem.W.mg_of X G zk_MOST_VALUE }
  exact ⟨_, fun s v => .of_eq rfl, fun base _ _ => ok_law T⟩
theorem walk {l : PySem.W.OpenLaw} {q : Program} {loose : List Str} {XP : (Str → Option Value) → Heap → Prop} {YP : World → Heap → Prop} {d : DefRec} {K : Params → PySem.W.Frag} (hn : l.most = some 63) (hdf : d.params.defaults = [])
    (hY : ∀ (w : World) (h : Heap), YP w h → (K w.params).In h)
    (F : ∀ (w : World) (mg : Str → Option Value) (fa : Addr) (h : Heap), (K w.params).In h → h.Ns mainGlobals mg → mg d.name = some (.ref fa) →
      ∃ fd : FuncData, (∀ (s : Shared) (u : Value), BindsTo s fd ⟨[u], []⟩ [("script", u)]) ∧ ∀ base : Heap, (K w.params).In base → base.Ns mainGlobals mg → FnOk l.prog w (K w.params) mg base CX0 7 fa fd ["script"] (sp_law (K w.params))) :
    PySem.W.WalkO q loose XP YP l.row.toRowW d [] (fun f vs => PySem.call f vs) :=
  L2.walk_of (n := 63) (k := 7) (x := "script") (CX := fun _ => CX0) (sp := fun w => sp_law (K w.params)) hn (by decide) hdf ⟨rfl, by decide, by decide⟩ hY F (fun _ _ a ns hl _ hS => ⟨a, ns, rfl, hS, hl, fun _ => rfl⟩) fun _ _ _ _ _ z => z
end La
open PySem PySem.W PyProof.Rows in
set_option maxRecDepth 100000 in
set_option maxHeartbeats 0 in
theorem PySem.Challenge.cw_lastreader_k02_stores_refused_holds : PySem.Challenge.rw_lastreader_k02_stores_refused.Holds := by
  w_on; o_law; k_head; (case hw => w_witness2)
  k_fill
  refine La.walk (l := PySem.Challenge.rw_lastreader_k02_stores_refused) rfl rfl (fun w h Y => PySem.W.kIn_of Y) ?F
  case F =>
    intro w mg fa h KX G hmg
    refine' La.all_mk KX G hmg ?aC_Counts ?aC_Store ?aC_Marks ?aC_Rounds ?aC_BadNumber ?aC_NoCell ?aC_NoHand ?aC_NotIn ?aC_IsIn ?aC_NoMark ?aC_BadPairs ?aC_Gone ?aC_NotHeld ?aC_NotNow ?aC_StoreError ?pg_Counts ?hd_Counts ?po_Counts ?sa_Counts ?mk_Counts ?kc_Counts ?ai_Counts ?ii_Counts ?na_Counts_hands ?na_Counts_worth ?na_Counts_cells ?na_Counts_made ?na_Counts_held ?pg_Store ?hd_Store ?po_Store ?sa_Store ?mk_Store ?kc_Store ?ai_Store ?ii_Store ?na_Store_hands ?na_Store_worth ?na_Store_cells ?na_Store_made ?pg_Marks ?hd_Marks ?po_Marks ?sa_Marks ?mk_Marks ?kc_Marks ?ai_Marks ?ii_Marks ?na_Marks_hands ?na_Marks_worth ?na_Marks_cells ?na_Marks_made ?na_Marks_marks ?na_Marks_waits ?pg_Rounds ?hd_Rounds ?po_Rounds ?sa_Rounds ?mk_Rounds ?kc_Rounds ?ai_Rounds ?ii_Rounds ?na_Rounds_hands ?na_Rounds_worth ?na_Rounds_cells ?na_Rounds_made ?na_Rounds_era ?na_Rounds_inside ?na_Rounds_saw ?na_Rounds_waits ?xi_BadNumber ?kp_BadNumber ?sb_BadNumber ?ty_BadNumber ?em_BadNumber ?e1_BadNumber ?e2_BadNumber ?e4_BadNumber ?e5_BadNumber ?e6_BadNumber ?e7_BadNumber ?e8_BadNumber ?ki_BadNumber_BadNumber ?ki_BadNumber_NoHand ?ki_BadNumber_NoCell ?ki_BadNumber_NoMark ?ki_BadNumber_IsIn ?ki_BadNumber_NotIn ?ki_BadNumber_NotHeld ?ki_BadNumber_Gone ?ki_BadNumber_BadPairs ?ki_BadNumber_NotNow ?ki_BadNumber_StoreError ?kv_BadNumber ?xi_NoCell ?kp_NoCell ?sb_NoCell ?ty_NoCell ?em_NoCell ?e1_NoCell ?e2_NoCell ?e4_NoCell ?e5_NoCell ?e6_NoCell ?e7_NoCell ?e8_NoCell ?ki_NoCell_BadNumber ?ki_NoCell_NoHand ?ki_NoCell_NoCell ?ki_NoCell_NoMark ?ki_NoCell_IsIn ?ki_NoCell_NotIn ?ki_NoCell_NotHeld ?ki_NoCell_Gone ?ki_NoCell_BadPairs ?ki_NoCell_NotNow ?ki_NoCell_StoreError ?kv_NoCell ?am_Store_look_cell ?am_Store_after_swap ?am_Store_swap ?am_Rounds_look_cell ?am_Rounds_after_swap ?am_Rounds_swap ?am_Marks_look_cell ?am_Marks_after_swap ?am_Marks_swap ?am_Counts_look_cell ?am_Counts_count_of ?am_Counts_is_out ?am_Counts_let_go ?am_Counts_loose ?am_Counts_after_swap ?am_Counts_swap ?am_Store_kept ?am_Rounds_kept ?am_Marks_kept ?am_Counts_kept ?am_Store_now ?am_Rounds_now ?am_Marks_now ?am_Counts_now ?cr_Store_init ?cg_Store_init ?ca_Store_init ?im_Store_look_cell ?im_Store_after_swap ?im_Store_swap ?im_Rounds_after_swap ?im_Marks_after_swap ?im_Counts_count_of ?im_Store_is_out ?im_Store_let_go ?im_Counts_loose ?im_Counts_after_swap ?im_Store_kept ?im_Store_now ?a__law_town ?l__law_town ?c__law_town ?k__law_town ?a__law_draw ?l__law_draw ?c__law_draw ?k__law_draw ?a__law_pick ?l__law_pick ?c__law_pick ?k__law_pick ?a_is_whole ?l_is_whole ?c_is_whole ?k_is_whole ?a_look_number ?l_look_number ?c_look_number ?k_look_number ?l_Store_init ?c_Store_init ?k_Store_init ?l_Counts_init ?c_Counts_init ?k_Counts_init ?l_Marks_init ?c_Marks_init ?k_Marks_init ?l_Rounds_init ?c_Rounds_init ?k_Rounds_init ?l_Store_look_cell ?c_Store_look_cell ?k_Store_look_cell ?l_Store_after_swap ?c_Store_after_swap ?k_Store_after_swap ?l_Store_swap ?c_Store_swap ?k_Store_swap ?l_Rounds_after_swap ?c_Rounds_after_swap ?k_Rounds_after_swap ?l_Marks_after_swap ?c_Marks_after_swap ?k_Marks_after_swap ?l_Counts_count_of ?c_Counts_count_of ?k_Counts_count_of ?l_Store_is_out ?c_Store_is_out ?k_Store_is_out ?l_Store_let_go ?c_Store_let_go ?k_Store_let_go ?l_Counts_loose ?c_Counts_loose ?k_Counts_loose ?l_Counts_after_swap ?c_Counts_after_swap ?k_Counts_after_swap ?a__law_refusal ?l__law_refusal ?c__law_refusal ?k__law_refusal ?a__law_asked ?l__law_asked ?c__law_asked ?k__law_asked ?a__law_odd ?l__law_odd ?c__law_odd ?k__law_odd ?l_Store_kept ?c_Store_kept ?k_Store_kept ?l_Store_now ?c_Store_now ?k_Store_now ?a_law ?l_law ?c_law ?k_law ?z_ValueError ?z_bool ?z_dict ?z_int ?z_isinstance ?z_len ?z_list ?z_range ?z_sorted ?z_sum ?zk_MOST_CELLS ?zk_MOST_HANDS ?zk_MOST_VALUE
    (case aC_Counts => k_is)
    (case aC_Store => k_is)
    (case aC_Marks => k_is)
    (case aC_Rounds => k_is)
    (case aC_BadNumber => k_is)
    (case aC_NoCell => k_is)
    (case aC_NoHand => k_is)
    (case aC_NotIn => k_is)
    (case aC_IsIn => k_is)
    (case aC_NoMark => k_is)
    (case aC_BadPairs => k_is)
    (case aC_Gone => k_is)
    (case aC_NotHeld => k_is)
    (case aC_NotNow => k_is)
    (case aC_StoreError => k_is)
    (case pg_Counts => k_is)
    (case hd_Counts => k_is)
    (case po_Counts => k_is)
    (case sa_Counts => k_is)
    (case mk_Counts => k_is)
    (case kc_Counts => k_is)
    (case ai_Counts => k_is)
    (case ii_Counts => k_is)
    (case na_Counts_hands => k_is)
    (case na_Counts_worth => k_is)
    (case na_Counts_cells => k_is)
    (case na_Counts_made => k_is)
    (case na_Counts_held => k_is)
    (case pg_Store => k_is)
    (case hd_Store => k_is)
    (case po_Store => k_is)
    (case sa_Store => k_is)
    (case mk_Store => k_is)
    (case kc_Store => k_is)
    (case ai_Store => k_is)
    (case ii_Store => k_is)
    (case na_Store_hands => k_is)
    (case na_Store_worth => k_is)
    (case na_Store_cells => k_is)
    (case na_Store_made => k_is)
    (case pg_Marks => k_is)
    (case hd_Marks => k_is)
    (case po_Marks => k_is)
    (case sa_Marks => k_is)
    (case mk_Marks => k_is)
    (case kc_Marks => k_is)
    (case ai_Marks => k_is)
    (case ii_Marks => k_is)
    (case na_Marks_hands => k_is)
    (case na_Marks_worth => k_is)
    (case na_Marks_cells => k_is)
    (case na_Marks_made => k_is)
    (case na_Marks_marks => k_is)
    (case na_Marks_waits => k_is)
    (case pg_Rounds => k_is)
    (case hd_Rounds => k_is)
    (case po_Rounds => k_is)
    (case sa_Rounds => k_is)
    (case mk_Rounds => k_is)
    (case kc_Rounds => k_is)
    (case ai_Rounds => k_is)
    (case ii_Rounds => k_is)
    (case na_Rounds_hands => k_is)
    (case na_Rounds_worth => k_is)
    (case na_Rounds_cells => k_is)
    (case na_Rounds_made => k_is)
    (case na_Rounds_era => k_is)
    (case na_Rounds_inside => k_is)
    (case na_Rounds_saw => k_is)
    (case na_Rounds_waits => k_is)
    (case xi_BadNumber => k_exc)
    (case kp_BadNumber => k_is)
    (case sb_BadNumber => k_is)
    (case ty_BadNumber => k_is)
    (case em_BadNumber => kts_exm)
    (case e1_BadNumber => k_is)
    (case e2_BadNumber => k_is)
    (case e4_BadNumber => k_is)
    (case e5_BadNumber => k_is)
    (case e6_BadNumber => k_is)
    (case e7_BadNumber => k_is)
    (case e8_BadNumber => k_is)
    (case ki_BadNumber_BadNumber => kit_is)
    (case ki_BadNumber_NoHand => kit_is)
    (case ki_BadNumber_NoCell => kit_is)
    (case ki_BadNumber_NoMark => kit_is)
    (case ki_BadNumber_IsIn => kit_is)
    (case ki_BadNumber_NotIn => kit_is)
    (case ki_BadNumber_NotHeld => kit_is)
    (case ki_BadNumber_Gone => kit_is)
    (case ki_BadNumber_BadPairs => kit_is)
    (case ki_BadNumber_NotNow => kit_is)
    (case ki_BadNumber_StoreError => kit_is)
    (case kv_BadNumber => kit_is)
    (case xi_NoCell => k_exc)
    (case kp_NoCell => k_is)
    (case sb_NoCell => k_is)
    (case ty_NoCell => k_is)
    (case em_NoCell => kts_exm)
    (case e1_NoCell => k_is)
    (case e2_NoCell => k_is)
    (case e4_NoCell => k_is)
    (case e5_NoCell => k_is)
    (case e6_NoCell => k_is)
    (case e7_NoCell => k_is)
    (case e8_NoCell => k_is)
    (case ki_NoCell_BadNumber => kit_is)
    (case ki_NoCell_NoHand => kit_is)
    (case ki_NoCell_NoCell => kit_is)
    (case ki_NoCell_NoMark => kit_is)
    (case ki_NoCell_IsIn => kit_is)
    (case ki_NoCell_NotIn => kit_is)
    (case ki_NoCell_NotHeld => kit_is)
    (case ki_NoCell_Gone => kit_is)
    (case ki_NoCell_BadPairs => kit_is)
    (case ki_NoCell_NotNow => kit_is)
    (case ki_NoCell_StoreError => kit_is)
    (case kv_NoCell => kit_is)
    (case am_Store_look_cell => k_is)
    (case am_Store_after_swap => k_is)
    (case am_Store_swap => k_is)
    (case am_Rounds_look_cell => k_is)
    (case am_Rounds_after_swap => k_is)
    (case am_Rounds_swap => k_is)
    (case am_Marks_look_cell => k_is)
    (case am_Marks_after_swap => k_is)
    (case am_Marks_swap => k_is)
    (case am_Counts_look_cell => k_is)
    (case am_Counts_count_of => k_is)
    (case am_Counts_is_out => k_is)
    (case am_Counts_let_go => k_is)
    (case am_Counts_loose => k_is)
    (case am_Counts_after_swap => k_is)
    (case am_Counts_swap => k_is)
    (case am_Store_kept => k_is)
    (case am_Rounds_kept => k_is)
    (case am_Marks_kept => k_is)
    (case am_Counts_kept => k_is)
    (case am_Store_now => k_is)
    (case am_Rounds_now => k_is)
    (case am_Marks_now => k_is)
    (case am_Counts_now => k_is)
    (case cr_Store_init => k_is)
    (case cg_Store_init => k_is)
    (case ca_Store_init => k_is)
    (case im_Store_look_cell => k_is)
    (case im_Store_after_swap => k_is)
    (case im_Store_swap => k_is)
    (case im_Rounds_after_swap => k_is)
    (case im_Marks_after_swap => k_is)
    (case im_Counts_count_of => k_is)
    (case im_Store_is_out => k_is)
    (case im_Store_let_go => k_is)
    (case im_Counts_loose => k_is)
    (case im_Counts_after_swap => k_is)
    (case im_Store_kept => k_is)
    (case im_Store_now => k_is)
    (case a__law_town => k_is)
    (case l__law_town => k_is)
    (case c__law_town => k_is)
    (case k__law_town => k_is)
    (case a__law_draw => k_is)
    (case l__law_draw => k_is)
    (case c__law_draw => k_is)
    (case k__law_draw => k_is)
    (case a__law_pick => k_is)
    (case l__law_pick => k_is)
    (case c__law_pick => k_is)
    (case k__law_pick => k_is)
    (case a_is_whole => k_is)
    (case l_is_whole => k_is)
    (case c_is_whole => k_is)
    (case k_is_whole => k_is)
    (case a_look_number => k_is)
    (case l_look_number => k_is)
    (case c_look_number => k_is)
    (case k_look_number => k_is)
    (case l_Store_init => k_is)
    (case c_Store_init => k_is)
    (case k_Store_init => k_is)
    (case l_Counts_init => k_is)
    (case c_Counts_init => k_is)
    (case k_Counts_init => k_is)
    (case l_Marks_init => k_is)
    (case c_Marks_init => k_is)
    (case k_Marks_init => k_is)
    (case l_Rounds_init => k_is)
    (case c_Rounds_init => k_is)
    (case k_Rounds_init => k_is)
    (case l_Store_look_cell => k_is)
    (case c_Store_look_cell => k_is)
    (case k_Store_look_cell => k_is)
    (case l_Store_after_swap => k_is)
    (case c_Store_after_swap => k_is)
    (case k_Store_after_swap => k_is)
    (case l_Store_swap => k_is)
    (case c_Store_swap => k_is)
    (case k_Store_swap => k_is)
    (case l_Rounds_after_swap => k_is)
    (case c_Rounds_after_swap => k_is)
    (case k_Rounds_after_swap => k_is)
    (case l_Marks_after_swap => k_is)
    (case c_Marks_after_swap => k_is)
    (case k_Marks_after_swap => k_is)
    (case l_Counts_count_of => k_is)
    (case c_Counts_count_of => k_is)
    (case k_Counts_count_of => k_is)
    (case l_Store_is_out => k_is)
    (case c_Store_is_out => k_is)
    (case k_Store_is_out => k_is)
    (case l_Store_let_go => k_is)
    (case c_Store_let_go => k_is)
    (case k_Store_let_go => k_is)
    (case l_Counts_loose => k_is)
    (case c_Counts_loose => k_is)
    (case k_Counts_loose => k_is)
    (case l_Counts_after_swap => k_is)
    (case c_Counts_after_swap => k_is)
    (case k_Counts_after_swap => k_is)
    (case a__law_refusal => k_is)
    (case l__law_refusal => k_is)
    (case c__law_refusal => k_is)
    (case k__law_refusal => k_is)
    (case a__law_asked => k_is)
    (case l__law_asked => k_is)
    (case c__law_asked => k_is)
    (case k__law_asked => k_is)
    (case a__law_odd => k_is)
    (case l__law_odd => k_is)
    (case c__law_odd => k_is)
    (case k__law_odd => k_is)
    (case l_Store_kept => k_is)
    (case c_Store_kept => k_is)
    (case k_Store_kept => k_is)
    (case l_Store_now => k_is)
    (case c_Store_now => k_is)
    (case k_Store_now => k_is)
    (case a_law => k_is)
    (case l_law => k_is)
    (case c_law => k_is)
    (case k_law => k_is)
    (case z_ValueError => k_is)
    (case z_bool => k_is)
    (case z_dict => k_is)
    (case z_int => k_is)
    (case z_isinstance => k_is)
    (case z_len => k_is)
    (case z_list => k_is)
    (case z_range => k_is)
    (case z_sorted => k_is)
    (case z_sum => k_is)
    (case zk_MOST_CELLS => k_is)
    (case zk_MOST_HANDS => k_is)
    (case zk_MOST_VALUE => k_is)
