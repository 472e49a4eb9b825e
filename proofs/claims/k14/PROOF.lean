import PyProof.Rows.All
import Wide.All
import OpenK.AllK
import Wide.FinOn
import HandS.ForMost
import HandS.Walk
import HandS.Wide
import HandS.IsInst
import HandS.Zip
import HandS.Rev
import HandS.Style
import HandS.TupAny
import HandS.SortInts
import HandS.SortRule
import HandS.Strs
import HandS.Deep
import HandS.Exc
import HandS.ExcOwn
import HandS.ExcInit
import HandS.ExcInitHot
import HandS.ExcField
import HandS.ExcIs
import HandS.CallSlots
import HandS.Conv
import HandS.SetFor
import HandS.More
import HandS.RaiseMore
import PyProof.ReprRoads
import PyProof.ReprBulk
import PyProof.FitsInt
import HandS.Set
import PyProof.Rows.BitMore
import KE.BitLaws
import KE.KExcIs
import KE.KDictZip
import HandS.TupMul
import PySem.Challenge.RW_caseways_k14_rows_read_beyond
set_option Elab.async false
set_option linter.all false
set_option maxRecDepth 100000
set_option maxHeartbeats 4000000
/-! Pd: data as trees; what an expression, a statement, a def does, as a plain function on them. -/
namespace Pd
open PySem PySem.Spec PyProof.Rows L2

/-! ### data -/
/-- a dict's keys: numbers and texts, or tuples of them -/
inductive DC where
  | k (ks : List Key) | t (ks : List (List Key))
def DC.len : DC → Nat
  | .k ks => ks.length | .t ks => ks.length
def DC.ho : DC → List V → HO
  | .k ks, vs => .dK (ks.zip vs) | .t ks, vs => .dT (ks.zip vs)
inductive D where
  | non | bl (b : Bool) | int (i : Int) | str (s : Str) | tup (xs : List D) | lst (xs : List D) | scr (xs : List Int) | ty (n : String) | own (xs : List D) | dct (kvs : List (Str × Int))
  | dix (c : DC) (xs : List D) | odx (c : DC) (xs : List D) | otp (xs : List D) | kt (ks : List Key)
  | exc (nm : Str) (ns : List Str) (xs : List D)

/-! ### heaps that grow -/
def Ex (H H' : Hp) : Prop := ∀ a o, H a = some o → H' a = some o
theorem Ex.refl (H : Hp) : Ex H H := fun _ _ h => h
theorem Ex.trans {H H1 H2 : Hp} (a : Ex H H1) (b : Ex H1 H2) : Ex H H2 := fun x o h => b x o (a x o h)
theorem Ex.new {H : Hp} {p : Addr} {o : HO} (h : H p = none) : Ex H (upd H p o) := fun a u e => by
  rw [upd_ne (ne_of_none e h)]; exact e
theorem Ex.none {H H' : Hp} {p : Addr} (e : Ex H H') (h : H' p = none) : H p = none := by
  cases h1 : H p with
  | none => rfl
  | some o => rw [e p o h1] at h; cases h
theorem Ex.rd {H H' : Hp} {a : Addr} {u : HO} (e : Ex H H') (h : Rd H a u) : Rd H' a u := by
  rcases h with h | ⟨o, h⟩
  · exact .inl (e a _ h)
  · exact .inr ⟨o, e a _ h⟩
theorem Ex.sqL {K : PySem.W.Frag} {H H' : Hp} {a : Addr} {xs : List V} (e : Ex H H') (h : SqL K H a xs) : SqL K H' a xs := by
  rcases h with h | h
  · exact .inl (e.rd h)
  · exact .inr h
theorem Ex.sqT {K : PySem.W.Frag} {H H' : Hp} {a : Addr} {xs : List V} (e : Ex H H') (h : SqT K H a xs) : SqT K H' a xs := by
  rcases h with h | h
  · exact .inl (e.rd h)
  · exact .inr h
theorem sqL_of {K : PySem.W.Frag} {H : Hp} {a : Addr} {xs : List V} (h : H a = some (.lst xs)) : SqL K H a xs := .inl (.inl h)
theorem sqT_of {K : PySem.W.Frag} {H : Hp} {a : Addr} {xs : List V} (h : H a = some (.tup xs)) : SqT K H a xs := .inl (.inl h)

/-! ### what stands for what: pure data -/
/-- a dict's part: a text, a number -/
def kvV (p : Str × Int) : Key × V := (Sum.inr p.1, V.int p.2)
/-- a caught exception of an own class, its dict -/
def exf (a C : Addr) (d : Option Addr) : HO := .ext fun h => ∃ (oe : Obj) (vs : Array Value), h.get? a = some oe ∧ Zc (.ref C) d oe ∧ oe.data = .fields vs
def xdc (G : Hp) (d : Option Addr) (ns : List Str) (vs : List V) : Prop := match d with
  | none => ns = [] ∧ vs = []
  | some dx => G dx = some (.xd (ns.zip vs)) ∧ ns.length = vs.length
theorem xdc.mono {G G' : Hp} {d : Option Addr} {ns : List Str} {vs : List V} (e : ∀ a o, G a = some o → G' a = some o) (h : xdc G d ns vs) : xdc G' d ns vs := by
  cases d with
  | none => exact h
  | some dx => exact ⟨e _ _ h.1, h.2⟩
mutual
inductive Rep (K : PySem.W.Frag) (G : Hp) : V → D → Prop
  | non : Rep K G .non .non
  | bl (b : Bool) : Rep K G (.bl b) (.bl b)
  | int (i : Int) : Rep K G (.int i) (.int i)
  | str (s : Str) : Rep K G (.str s) (.str s)
  | ty (n : String) : Rep K G (.ty n) (.ty n)
  | tup {a : Addr} {vs : List V} {ds : List D} : SqT K G a vs → RepL K G vs ds → Rep K G (.ref a) (.tup ds)
  | lst {a : Addr} {vs : List V} {ds : List D} : G a = some (.lst vs) → RepL K G vs ds → Rep K G (.ref a) (.lst ds)
  | scr {a : Addr} {ns : List Int} : SqL K G a (ns.map V.int) → Rep K G (.ref a) (.scr ns)
  | dct {a : Addr} {kvs : List (Str × Int)} : G a = some (.dK (kvs.map kvV)) → Rep K G (.ref a) (.dct kvs)
  | dix {a : Addr} {c : DC} {vs : List V} {ds : List D} : G a = some (c.ho vs) → c.len = ds.length → RepL K G vs ds → Rep K G (.ref a) (.dix c ds)
  | kt {a : Addr} {ks : List Key} : G a = some (.tup (ks.map kV)) → Rep K G (.ref a) (.kt ks)
  | exc {a C : Addr} {nm : Str} {d : Option Addr} {ns : List Str} {vs : List V} {ds : List D} : PySem.W.nsIn K mainGlobals nm = some (some (.ref C)) → G a = some (exf a C d) → xdc G d ns vs → RepL K G vs ds → Rep K G (.ref a) (.exc nm ns ds)
inductive RepL (K : PySem.W.Frag) (G : Hp) : List V → List D → Prop
  | nil : RepL K G [] []
  | cons {v : V} {d : D} {vs : List V} {ds : List D} : Rep K G v d → RepL K G vs ds → RepL K G (v :: vs) (d :: ds)
end
section
variable {K : PySem.W.Frag} {G G' : Hp}
mutual
theorem Rep.mono (e : Ex G G') : ∀ {v : V} {d : D}, Rep K G v d → Rep K G' v d
  | _, _, .non => .non
  | _, _, .bl b => .bl b
  | _, _, .int i => .int i
  | _, _, .str s => .str s
  | _, _, .ty n => .ty n
  | _, _, .tup h r => .tup (e.sqT h) (RepL.mono e r)
  | _, _, .lst h r => .lst (e _ _ h) (RepL.mono e r)
  | _, _, .scr h => .scr (e.sqL h)
  | _, _, .dct h => .dct (e _ _ h)
  | _, _, .dix h l r => .dix (e _ _ h) l (RepL.mono e r)
  | _, _, .kt h => .kt (e _ _ h)
  | _, _, .exc q h x r => .exc q (e _ _ h) (x.mono e) (RepL.mono e r)
theorem RepL.mono (e : Ex G G') : ∀ {vs : List V} {ds : List D}, RepL K G vs ds → RepL K G' vs ds
  | _, _, .nil => .nil
  | _, _, .cons h r => .cons (Rep.mono e h) (RepL.mono e r)
end
theorem RepL.length : ∀ {vs : List V} {ds : List D}, RepL K G vs ds → vs.length = ds.length
  | _, _, .nil => rfl
  | _, _, .cons _ r => by rw [List.length_cons, List.length_cons, RepL.length r]
theorem RepL.get : ∀ {vs : List V} {ds : List D} {i : Nat} {d : D}, RepL K G vs ds → ds[i]? = some d → ∃ v, vs[i]? = some v ∧ Rep K G v d
  | _, _, _, _, .nil, h => by simp at h
  | _, _, 0, _, .cons h r, q => by simp at q; subst q; exact ⟨_, rfl, h⟩
  | _, _, i + 1, _, .cons h r, q => RepL.get (i := i) r (by simpa using q)
theorem RepL.getV : ∀ {vs : List V} {ds : List D} {i : Nat} {v : V}, RepL K G vs ds → vs[i]? = some v → ∃ d, ds[i]? = some d ∧ Rep K G v d
  | _, _, _, _, .nil, h => by simp at h
  | _, _, 0, _, .cons h r, q => by simp at q; subst q; exact ⟨_, rfl, h⟩
  | _, _, i + 1, _, .cons h r, q => RepL.getV (i := i) r (by simpa using q)
theorem RepL.append : ∀ {vs us : List V} {ds es : List D}, RepL K G vs ds → RepL K G us es → RepL K G (vs ++ us) (ds ++ es)
  | _, _, _, _, .nil, s => s
  | _, _, _, _, .cons h r, s => .cons h (RepL.append r s)
theorem RepL.take : ∀ {vs : List V} {ds : List D} (n : Nat), RepL K G vs ds → RepL K G (vs.take n) (ds.take n)
  | _, _, 0, _ => .nil
  | _, _, _ + 1, .nil => .nil
  | _, _, n + 1, .cons h r => .cons h (RepL.take n r)
theorem RepL.drop : ∀ {vs : List V} {ds : List D} (n : Nat), RepL K G vs ds → RepL K G (vs.drop n) (ds.drop n)
  | _, _, 0, r => r
  | _, _, _ + 1, .nil => .nil
  | _, _, n + 1, .cons _ r => RepL.drop n r
theorem RepL.set {v : V} {d : D} (h : Rep K G v d) : ∀ {vs : List V} {ds : List D} (i : Nat), RepL K G vs ds → RepL K G (vs.set i v) (ds.set i d)
  | _, _, _, .nil => .nil
  | _, _, 0, .cons _ r => .cons h r
  | _, _, i + 1, .cons q r => .cons q (RepL.set h i r)
theorem RepL.reverse : ∀ {vs : List V} {ds : List D}, RepL K G vs ds → RepL K G vs.reverse ds.reverse
  | _, _, .nil => .nil
  | _, _, .cons h r => by
    rw [List.reverse_cons, List.reverse_cons]
    exact (RepL.reverse r).append (.cons h .nil)
end

/-! ### what a place holds alone: own lists, to any depth, and pure data below -/
abbrev Fp := List (Addr × HO)
mutual
inductive Own (K : PySem.W.Frag) (G : Hp) : V → D → Fp → Prop
  | pure {v : V} {d : D} : Rep K G v d → Own K G v d []
  | own {p : Addr} {vs : List V} {ds : List D} {L : Fp} : OwnL K G vs ds L → Own K G (.ref p) (.own ds) ((p, .lst vs) :: L)
  | odx {p : Addr} {c : DC} {vs : List V} {ds : List D} : c.len = ds.length → RepL K G vs ds → Own K G (.ref p) (.odx c ds) [(p, c.ho vs)]
  | otp {a : Addr} {vs : List V} {ds : List D} {L : Fp} : SqT K G a vs → OwnL K G vs ds L → Own K G (.ref a) (.otp ds) L
inductive OwnL (K : PySem.W.Frag) (G : Hp) : List V → List D → Fp → Prop
  | nil : OwnL K G [] [] []
  | cons {v : V} {d : D} {vs : List V} {ds : List D} {L M : Fp} : Own K G v d L → OwnL K G vs ds M → OwnL K G (v :: vs) (d :: ds) (L ++ M)
end
mutual
def frz : D → D
  | .own ds => .lst (frzL ds)
  | .odx c ds => .dix c ds
  | .otp ds => .tup (frzL ds)
  | d => d
def frzL : List D → List D
  | [] => []
  | d :: ds => frz d :: frzL ds
end
theorem frzL_map : ∀ ds : List D, frzL ds = ds.map frz
  | [] => rfl
  | d :: ds => by rw [frzL, frzL_map ds]; rfl
/-- not an own list -/
def D.pu : D → Bool
  | .own _ => false | .odx _ _ => false | .otp _ => false
  | _ => true
section
variable {K : PySem.W.Frag} {G G' : Hp}
mutual
theorem Own.mono (e : Ex G G') : ∀ {v : V} {d : D} {L : Fp}, Own K G v d L → Own K G' v d L
  | _, _, _, .pure h => .pure (h.mono e)
  | _, _, _, .own h => .own (OwnL.mono e h)
  | _, _, _, .odx l h => .odx l (h.mono e)
  | _, _, _, .otp h r => .otp (e.sqT h) (OwnL.mono e r)
theorem OwnL.mono (e : Ex G G') : ∀ {vs : List V} {ds : List D} {L : Fp}, OwnL K G vs ds L → OwnL K G' vs ds L
  | _, _, _, .nil => .nil
  | _, _, _, .cons h r => .cons (Own.mono e h) (OwnL.mono e r)
end
theorem Own.rep {v : V} {d : D} {L : Fp} (h : Own K G v d L) (p : d.pu = true) : Rep K G v d ∧ L = [] := by
  cases h with
  | pure h => exact ⟨h, rfl⟩
  | own h => cases p
  | odx _ _ => cases p
  | otp _ _ => cases p
theorem Rep.pu {v : V} {d : D} (h : Rep K G v d) : d.pu = true := by cases h <;> rfl
theorem Rep.frz {v : V} {d : D} (h : Rep K G v d) : frz d = d := by cases h <;> rfl
theorem RepL.ownL : ∀ {vs : List V} {ds : List D}, RepL K G vs ds → OwnL K G vs ds []
  | _, _, .nil => .nil
  | _, _, .cons h r => .cons (L := []) (.pure h) (RepL.ownL r)
theorem OwnL.length : ∀ {vs : List V} {ds : List D} {L : Fp}, OwnL K G vs ds L → vs.length = ds.length
  | _, _, _, .nil => rfl
  | _, _, _, .cons _ r => by rw [List.length_cons, List.length_cons, OwnL.length r]
theorem OwnL.repL : ∀ {vs : List V} {ds : List D} {L : Fp}, OwnL K G vs ds L → ds.all D.pu = true → RepL K G vs ds ∧ L = []
  | _, _, _, .nil, _ => ⟨.nil, rfl⟩
  | _, _, _, .cons h r, q => by
    rw [List.all_cons, Bool.and_eq_true] at q
    obtain ⟨h1, rfl⟩ := h.rep q.1
    obtain ⟨h2, rfl⟩ := OwnL.repL r q.2
    exact ⟨.cons h1 h2, rfl⟩
end

/-! ### the state -/
def key (L : Fp) (a : Addr) : Prop := ∃ vs : HO, (a, vs) ∈ L
/-- G: what is known for good, H: the heap, L: the own lists -/
structure Sta (G H : Hp) (L : Fp) : Prop where
  ex : Ex G H
  hold : ∀ p vs, (p, vs) ∈ L → H p = some vs
  out : ∀ p vs, (p, vs) ∈ L → G p = none
  nd : (L.map Prod.fst).Nodup
/-- from one state to a later one -/
structure Stp (G H : Hp) (L : Fp) (G' H' : Hp) (L' : Fp) : Prop where
  ex : Ex G G'
  fr : ∀ a o, H a = some o → G a = none → ¬ key L a → H' a = some o ∧ G' a = none ∧ ¬ key L' a
theorem Stp.refl {G H : Hp} {L : Fp} : Stp G H L G H L := ⟨Ex.refl G, fun _ _ h g k => ⟨h, g, k⟩⟩
theorem Stp.trans {G H G1 H1 G2 H2 : Hp} {L L1 L2 : Fp} (a : Stp G H L G1 H1 L1) (b : Stp G1 H1 L1 G2 H2 L2) : Stp G H L G2 H2 L2 :=
  ⟨a.ex.trans b.ex, fun x o h g k => let ⟨h1, g1, k1⟩ := a.fr x o h g k; b.fr x o h1 g1 k1⟩
section
variable {G H G' H' : Hp} {L L' M : Fp}
theorem key_app {a : Addr} : key (L ++ M) a ↔ key L a ∨ key M a := by
  unfold key
  constructor
  · rintro ⟨vs, h⟩
    rcases List.mem_append.mp h with h | h
    · exact .inl ⟨vs, h⟩
    · exact .inr ⟨vs, h⟩
  · rintro (⟨vs, h⟩ | ⟨vs, h⟩)
    · exact ⟨vs, List.mem_append.mpr (.inl h)⟩
    · exact ⟨vs, List.mem_append.mpr (.inr h)⟩
theorem key_perm {a : Addr} (p : L.Perm M) : key L a ↔ key M a := by
  unfold key
  exact ⟨fun ⟨vs, h⟩ => ⟨vs, p.mem_iff.mp h⟩, fun ⟨vs, h⟩ => ⟨vs, p.mem_iff.mpr h⟩⟩
theorem key_cons {a p : Addr} {vs : HO} : key ((p, vs) :: L) a ↔ a = p ∨ key L a := by
  unfold key
  constructor
  · rintro ⟨us, h⟩
    rcases List.mem_cons.mp h with h | h
    · cases h; exact .inl rfl
    · exact .inr ⟨us, h⟩
  · rintro (h | ⟨us, h⟩)
    · subst h; exact ⟨vs, List.mem_cons_self⟩
    · exact ⟨us, List.mem_cons_of_mem _ h⟩
theorem not_key_nil {a : Addr} : ¬ key [] a := fun ⟨_, h⟩ => nomatch h
theorem Sta.perm (s : Sta G H L) (p : L.Perm M) : Sta G H M :=
  ⟨s.ex, fun a vs h => s.hold a vs (p.mem_iff.mpr h), fun a vs h => s.out a vs (p.mem_iff.mpr h), (p.map Prod.fst).nodup_iff.mp s.nd⟩
theorem Sta.left (s : Sta G H (M ++ L)) : Sta G H L :=
  ⟨s.ex, fun a vs h => s.hold a vs (List.mem_append.mpr (.inr h)), fun a vs h => s.out a vs (List.mem_append.mpr (.inr h)), by
    have := s.nd
    rw [List.map_append] at this
    exact (List.nodup_append.mp this).2.1⟩
theorem Sta.right (s : Sta G H (M ++ L)) : Sta G H M :=
  ⟨s.ex, fun a vs h => s.hold a vs (List.mem_append.mpr (.inl h)), fun a vs h => s.out a vs (List.mem_append.mpr (.inl h)), by
    have := s.nd
    rw [List.map_append] at this
    exact (List.nodup_append.mp this).1⟩
theorem Sta.known (s : Sta G H L) {a : Addr} {o : HO} (h : G a = some o) : ¬ key L a := fun ⟨vs, q⟩ => by
  rw [s.out a vs q] at h; cases h
/-- a new object that is known at once -/
theorem Sta.new (s : Sta G H L) {p : Addr} (o : HO) (h : H p = none) : Sta (upd G p o) (upd H p o) L ∧ Stp G H L (upd G p o) (upd H p o) L ∧ Ex G (upd G p o) := by
  have hg : G p = none := s.ex.none h
  have hk : ¬ key L p := fun ⟨vs, q⟩ => by rw [s.hold p vs q] at h; cases h
  have ne : ∀ q, key L q → q ≠ p := fun q kq e => hk (e ▸ kq)
  refine ⟨⟨fun a u e => ?_, fun a vs q => ?_, fun a vs q => ?_, s.nd⟩, ⟨Ex.new hg, fun a u ha ga ka => ?_⟩, Ex.new hg⟩
  · by_cases ha : a = p
    · subst ha; rw [upd_same] at e ⊢; exact e
    · rw [upd_ne ha] at e ⊢; exact s.ex a u e
  · rw [upd_ne (ne a ⟨vs, q⟩)]; exact s.hold a vs q
  · rw [upd_ne (ne a ⟨vs, q⟩)]; exact s.out a vs q
  · have hap : a ≠ p := ne_of_none ha h
    exact ⟨by rw [upd_ne hap]; exact ha, by rw [upd_ne hap]; exact ga, ka⟩
/-- a new own list -/
theorem Sta.newOwn (s : Sta G H L) {p : Addr} (vs : HO) (h : H p = none) : Sta G (upd H p vs) ((p, vs) :: L) ∧ Stp G H L G (upd H p vs) ((p, vs) :: L) := by
  have hg : G p = none := s.ex.none h
  have hk : ¬ key L p := fun ⟨vs, q⟩ => by rw [s.hold p vs q] at h; cases h
  have ne : ∀ q, key L q → q ≠ p := fun q kq e => hk (e ▸ kq)
  refine ⟨⟨s.ex.trans (Ex.new h), fun a us q => ?_, fun a us q => ?_, ?_⟩, ⟨Ex.refl G, fun a u ha ga ka => ?_⟩⟩
  · rcases List.mem_cons.mp q with q | q
    · cases q; exact upd_same
    · rw [upd_ne (ne a ⟨us, q⟩)]; exact s.hold a us q
  · rcases List.mem_cons.mp q with q | q
    · cases q; exact hg
    · exact s.out a us q
  · rw [List.map_cons, List.nodup_cons]
    refine ⟨fun q => ?_, s.nd⟩
    obtain ⟨⟨a, us⟩, q1, q2⟩ := List.mem_map.mp q
    exact hk ⟨us, by have e : a = p := q2
                     subst e; exact q1⟩
  · have hap : a ≠ p := ne_of_none ha h
    exact ⟨by rw [upd_ne hap]; exact ha, ga, fun kk => (key_cons.mp kk).elim hap ka⟩
/-- an own list is changed -/
theorem Sta.change {p : Addr} {vs : HO} (s : Sta G H ((p, vs) :: L)) (us : HO) : Sta G (upd H p us) ((p, us) :: L) ∧ Stp G H ((p, vs) :: L) G (upd H p us) ((p, us) :: L) := by
  have hp : H p = some vs := s.hold p vs List.mem_cons_self
  have hg : G p = none := s.out p vs List.mem_cons_self
  have hk : ¬ key L p := fun ⟨ws, q⟩ => by
    have := s.nd
    rw [List.map_cons, List.nodup_cons] at this
    exact this.1 (List.mem_map.mpr ⟨_, q, rfl⟩)
  have ne : ∀ q, key L q → q ≠ p := fun q kq e => hk (e ▸ kq)
  refine ⟨⟨fun a u e => ?_, fun a ws q => ?_, fun a ws q => ?_, s.nd⟩, ⟨Ex.refl G, fun a u ha ga ka => ?_⟩⟩
  · rw [upd_ne (ne_of_none e hg)]; exact s.ex a u e
  · rcases List.mem_cons.mp q with q | q
    · cases q; exact upd_same
    · rw [upd_ne (ne a ⟨ws, q⟩)]; exact s.hold a ws (List.mem_cons_of_mem _ q)
  · rcases List.mem_cons.mp q with q | q
    · cases q; exact hg
    · exact s.out a ws (List.mem_cons_of_mem _ q)
  · have hap : a ≠ p := fun e => ka (key_cons.mpr (.inl e))
    exact ⟨by rw [upd_ne hap]; exact ha, ga, fun kk => ka (key_cons.mpr (.inr ((key_cons.mp kk).resolve_left hap)))⟩
/-- own lists become known -/
def addF (G : Hp) : Fp → Hp
  | [] => G
  | (p, vs) :: L => upd (addF G L) p vs
theorem addF_out : ∀ {L : Fp} {a : Addr}, ¬ key L a → addF G L a = G a
  | [], a, _ => rfl
  | (p, vs) :: L, a, h => by
    rw [addF, upd_ne (fun e => h (key_cons.mpr (.inl e)))]
    exact addF_out fun k => h (key_cons.mpr (.inr k))
theorem addF_in : ∀ {L : Fp} {a : Addr} {vs : HO}, (L.map Prod.fst).Nodup → (a, vs) ∈ L → addF G L a = some vs
  | (p, us) :: L, a, vs, nd, h => by
    rw [List.map_cons, List.nodup_cons] at nd
    rcases List.mem_cons.mp h with h | h
    · cases h; exact upd_same
    · have hap : a ≠ p := fun e => nd.1 (List.mem_map.mpr ⟨_, h, e⟩)
      rw [addF, upd_ne hap]
      exact addF_in nd.2 h
theorem Sta.freeze (s : Sta G H (M ++ L)) : Sta (addF G M) H L ∧ Stp G H (M ++ L) (addF G M) H L ∧ Ex G (addF G M) := by
  have hnd := s.nd
  rw [List.map_append] at hnd
  have nd1 := (List.nodup_append.mp hnd).1
  have dis : ∀ a, key M a → ¬ key L a := fun a ⟨vs, h1⟩ ⟨us, h2⟩ =>
    (List.nodup_append.mp hnd).2.2 a (List.mem_map.mpr ⟨_, h1, rfl⟩) a (List.mem_map.mpr ⟨_, h2, rfl⟩) rfl
  have exG : Ex G (addF G M) := fun a o h => by
    have hk : ¬ key M a := fun ⟨vs, q⟩ => by rw [s.out a vs (List.mem_append.mpr (.inl q))] at h; cases h
    rw [addF_out hk]; exact h
  refine ⟨⟨fun a o h => ?_, s.left.hold, fun a vs h => ?_, s.left.nd⟩, ⟨exG, fun a o ha ga ka => ⟨ha, ?_, fun k => ka (key_app.mpr (.inr k))⟩⟩, exG⟩
  · by_cases hk : key M a
    · obtain ⟨vs, q⟩ := hk
      rw [addF_in nd1 q] at h
      rw [← h]
      exact s.hold a vs (List.mem_append.mpr (.inl q))
    · rw [addF_out hk] at h; exact s.ex a o h
  · rw [addF_out fun k => dis a k ⟨vs, h⟩]
    exact s.left.out a vs h
  · rw [addF_out fun k => ka (key_app.mpr (.inl k))]; exact ga
end
section
variable {K : PySem.W.Frag} {G : Hp}
mutual
theorem Own.freeze : ∀ {v : V} {d : D} {M : Fp} {G' : Hp}, Own K G v d M → Ex G G' → (∀ a vs, (a, vs) ∈ M → G' a = some vs) → Rep K G' v (frz d)
  | _, _, _, _, .pure h, e, _ => by rw [h.frz]; exact h.mono e
  | _, _, _, _, .own h, e, q => by
    rw [Pd.frz]
    exact .lst (q _ _ List.mem_cons_self) (OwnL.freeze h e fun a vs m => q a vs (List.mem_cons_of_mem _ m))
  | _, _, _, _, .odx l h, e, q => by
    rw [Pd.frz]
    exact .dix (q _ _ List.mem_cons_self) l (h.mono e)
  | _, _, _, _, .otp h r, e, q => by
    rw [Pd.frz]
    exact .tup (e.sqT h) (OwnL.freeze r e q)
theorem OwnL.freeze : ∀ {vs : List V} {ds : List D} {M : Fp} {G' : Hp}, OwnL K G vs ds M → Ex G G' → (∀ a vs, (a, vs) ∈ M → G' a = some vs) → RepL K G' vs (frzL ds)
  | _, _, _, _, .nil, _, _ => .nil
  | _, _, _, _, .cons h r, e, q => .cons (Own.freeze h e fun a vs m => q a vs (List.mem_append.mpr (.inl m))) (OwnL.freeze r e fun a vs m => q a vs (List.mem_append.mpr (.inr m)))
end
theorem Own.addF {H : Hp} {v : V} {d : D} {M L : Fp} (h : Own K G v d M) (s : Sta G H (M ++ L)) : Rep K (addF G M) v (frz d) := by
  have nd1 := s.right.nd
  exact h.freeze s.freeze.2.2 fun a vs m => addF_in nd1 m
end

/-! ### the slots -/
abbrev Ev := List (Option D)
inductive Sl (K : PySem.W.Frag) (G : Hp) : L2.St → Ev → Fp → Prop
  | nil : Sl K G [] [] []
  | un {x : Option V} {σ : L2.St} {ρ : Ev} {L : Fp} : Sl K G σ ρ L → Sl K G (x :: σ) (none :: ρ) L
  | cons {v : V} {d : D} {σ : L2.St} {ρ : Ev} {M L : Fp} : Own K G v d M → Sl K G σ ρ L → Sl K G (some v :: σ) (some d :: ρ) (M ++ L)
section
variable {K : PySem.W.Frag} {G G' : Hp}
theorem Sl.mono (e : Ex G G') : ∀ {σ : L2.St} {ρ : Ev} {L : Fp}, Sl K G σ ρ L → Sl K G' σ ρ L
  | _, _, _, .nil => .nil
  | _, _, _, .un r => .un (Sl.mono e r)
  | _, _, _, .cons h r => .cons (h.mono e) (Sl.mono e r)
theorem Sl.length : ∀ {σ : L2.St} {ρ : Ev} {L : Fp}, Sl K G σ ρ L → σ.length = ρ.length
  | _, _, _, .nil => rfl
  | _, _, _, .un r => by rw [List.length_cons, List.length_cons, Sl.length r]
  | _, _, _, .cons _ r => by rw [List.length_cons, List.length_cons, Sl.length r]
/-- the slot i taken out, and put back with another content, of the same value or another -/
theorem Sl.at : ∀ {σ : L2.St} {ρ : Ev} {L : Fp} {i : Nat} {d : D}, Sl K G σ ρ L → ρ[i]? = some (some d) →
    ∃ v M R, σ[i]? = some (some v) ∧ Own K G v d M ∧ L.Perm (M ++ R) ∧ Sl K G σ (ρ.set i none) R ∧
      ∀ (G' : Hp) (v' : V) (d' : D) (M' : Fp), Ex G G' → Own K G' v' d' M' → ∃ L', Sl K G' (σ.set i (some v')) (ρ.set i (some d')) L' ∧ L'.Perm (M' ++ R)
  | _, _, _, _, _, .nil, h => by simp at h
  | _, _, _, 0, _, .un r, h => by simp at h
  | _, _, _, i + 1, _, .un r, h => by
    obtain ⟨v, M, R, h1, h2, h3, h4, h5⟩ := Sl.at (i := i) r (by simpa using h)
    refine ⟨v, M, R, by simpa using h1, h2, h3, .un h4, fun G' v' d' M' e o => ?_⟩
    obtain ⟨L', q1, q2⟩ := h5 G' v' d' M' e o
    exact ⟨L', .un q1, q2⟩
  | _, _, _, 0, _, .cons (M := M) (L := L) o r, h => by
    simp at h
    subst h
    exact ⟨_, M, L, rfl, o, .refl _, .un r, fun G' v' d' M' e o' => ⟨M' ++ L, .cons o' (r.mono e), .refl _⟩⟩
  | _, _, _, i + 1, _, .cons (M := M0) (L := L0) o r, h => by
    obtain ⟨v, M, R, h1, h2, h3, h4, h5⟩ := Sl.at (i := i) r (by simpa using h)
    refine ⟨v, M, M0 ++ R, by simpa using h1, h2, ?_, .cons o h4, fun G' v' d' M' e o' => ?_⟩
    · exact (h3.append_left M0).trans (by rw [← List.append_assoc, ← List.append_assoc]; exact List.perm_append_comm.append_right R)
    · obtain ⟨L', q1, q2⟩ := h5 G' v' d' M' e o'
      exact ⟨M0 ++ L', .cons (o.mono e) q1, (q2.append_left M0).trans (by rw [← List.append_assoc, ← List.append_assoc]; exact List.perm_append_comm.append_right R)⟩
/-- the slot i gets a content, whatever it held -/
theorem Sl.put : ∀ {σ : L2.St} {ρ : Ev} {L : Fp} {i : Nat} {G' : Hp} {v' : V} {d' : D} {M' : Fp}, Sl K G σ ρ L → i < ρ.length → Ex G G' → Own K G' v' d' M' →
    ∃ L' R, Sl K G' (σ.set i (some v')) (ρ.set i (some d')) L' ∧ L'.Perm (M' ++ R) ∧ ∃ M, L.Perm (M ++ R)
  | _, _, _, _, _, _, _, _, .nil, h, _, _ => by simp at h
  | _, _, _, 0, _, _, _, M', .un (L := L) r, _, e, o => ⟨M' ++ L, L, .cons o (r.mono e), .refl _, [], .refl _⟩
  | _, _, _, 0, _, _, _, M', .cons (M := M) (L := L) _ r, _, e, o => ⟨M' ++ L, L, .cons o (r.mono e), .refl _, M, .refl _⟩
  | _, _, _, i + 1, _, _, _, M', .un r, h, e, o => by
    obtain ⟨L', R, q1, q2, M, q3⟩ := Sl.put (i := i) r (by simpa using h) e o
    exact ⟨L', R, .un q1, q2, M, q3⟩
  | _, _, _, i + 1, _, _, _, M', .cons (M := M0) o0 r, h, e, o => by
    obtain ⟨L', R, q1, q2, M, q3⟩ := Sl.put (i := i) r (by simpa using h) e o
    refine ⟨M0 ++ L', M0 ++ R, .cons (o0.mono e) q1, ?_, M, ?_⟩
    · exact (q2.append_left M0).trans (by rw [← List.append_assoc, ← List.append_assoc]; exact List.perm_append_comm.append_right R)
    · exact (q3.append_left M0).trans (by rw [← List.append_assoc, ← List.append_assoc]; exact List.perm_append_comm.append_right R)
/-- the slot i is forgotten -/
theorem Sl.drop : ∀ {σ : L2.St} {ρ : Ev} {L : Fp} (i : Nat) (x : Option V), Sl K G σ ρ L → ∃ M R, L.Perm (M ++ R) ∧ Sl K G (σ.set i x) (ρ.set i none) R
  | _, _, _, _, _, .nil => ⟨[], [], .refl _, .nil⟩
  | _, _, _, 0, x, .un r => ⟨[], _, .refl _, .un r⟩
  | _, _, _, 0, x, .cons o r => ⟨_, _, .refl _, .un r⟩
  | _, _, _, i + 1, x, .un r => by
    obtain ⟨M, R, q1, q2⟩ := Sl.drop i x r
    exact ⟨M, R, q1, .un q2⟩
  | _, _, _, i + 1, x, .cons (M := M0) o r => by
    obtain ⟨M, R, q1, q2⟩ := Sl.drop i x r
    exact ⟨M, M0 ++ R, (q1.append_left M0).trans (by rw [← List.append_assoc, ← List.append_assoc]; exact List.perm_append_comm.append_right R), .cons o q2⟩
theorem Sl.start : ∀ {vs : List V} {ds : List D} {L : Fp} (n : Nat), OwnL K G vs ds L → Sl K G (vs.map some ++ List.replicate n none) (ds.map some ++ List.replicate n none) L
  | _, _, _, 0, .nil => .nil
  | _, _, _, n + 1, .nil => by
    rw [List.replicate_succ]
    exact .un (Sl.start (vs := []) (ds := []) n .nil)
  | _, _, _, n, .cons h r => .cons h (Sl.start n r)
end
theorem Stp.less {G H G' H' : Hp} {L L' M' : Fp} (s : Stp G H L G' H' (M' ++ L')) : Stp G H L G' H' L' :=
  ⟨s.ex, fun a o h g k => let ⟨h1, g1, k1⟩ := s.fr a o h g k; ⟨h1, g1, fun q => k1 (key_app.mpr (.inr q))⟩⟩
theorem Stp.permR {G H G' H' : Hp} {L L' M' : Fp} (s : Stp G H L G' H' L') (p : L'.Perm M') : Stp G H L G' H' M' :=
  ⟨s.ex, fun a o h g k => let ⟨h1, g1, k1⟩ := s.fr a o h g k; ⟨h1, g1, fun q => k1 ((key_perm p).mpr q)⟩⟩
theorem Stp.permL {G H G' H' : Hp} {L L' M : Fp} (s : Stp G H L G' H' L') (p : L.Perm M) : Stp G H M G' H' L' :=
  ⟨s.ex, fun a o h g k => s.fr a o h g fun q => k ((key_perm p).mp q)⟩
end Pd

namespace Pd
open PySem PySem.Spec PyProof.Rows L2

/-! ### weaker readings -/
theorem pe_weak {X : Cx} {e : Expr} {t t' : TE} (h : PE X e t) (w : ∀ σ H Q, t' σ H Q → t σ H Q) : PE X e t' := ⟨fun pins s σ H Q I q => h.run pins s σ H Q I (w σ H Q q)⟩
theorem pt_weak {X : Cx} {e : Expr} {t t' : TT} (h : PT X e t) (w : ∀ σ H Q, t' σ H Q → t σ H Q) : PT X e t' := ⟨fun pins s σ H Q I q => h.run pins s σ H Q I (w σ H Q q)⟩
theorem pw_weak {X : Cx} {e : Expr} {t t' : TT} (h : PW X e t) (w : ∀ σ H Q, t' σ H Q → t σ H Q) : PW X e t' := ⟨fun wh pins s σ H Q I q => h.run wh pins s σ H Q I (w σ H Q q)⟩
theorem pa_weak {X : Cx} {e : List Expr} {t t' : TA} (h : PA X e t) (w : ∀ σ H Q, t' σ H Q → t σ H Q) : PA X e t' := ⟨fun pos pins s σ H Q I q => h.run pos pins s σ H Q I (w σ H Q q)⟩
theorem po_weak {X : Cx} {e : Option Expr} {t t' : TO} (h : PO X e t) (w : ∀ σ H Q, t' σ H Q → t σ H Q) : PO X e t' := ⟨fun pins s σ H Q I q => h.run pins s σ H Q I (w σ H Q q)⟩
theorem ps_weak {X : Cx} {e : Stmt} {t t' : TS} (h : PS X e t) (w : ∀ D σ H, t' D σ H → t D σ H) : PS X e t' := ⟨fun pins s σ H D I q => h.run pins s σ H D I (w D σ H q)⟩
theorem pss_weak {X : Cx} {e : List Stmt} {t t' : TS} (h : PSs X e t) (w : ∀ D σ H, t' D σ H → t D σ H) : PSs X e t' := ⟨fun pins s σ H D I q => h.run pins s σ H D I (w D σ H q)⟩
theorem pg_weak {X : Cx} {e : Expr} {t t' : TG} (h : PG X e t) (w : ∀ v σ H Q, t' v σ H Q → t v σ H Q) : PG X e t' := ⟨fun pins s σ H v u Q I r q => h.run pins s σ H v u Q I r (w v σ H Q q)⟩
theorem pgs_weak {X : Cx} {e : List Expr} {t t' : TGs} (h : PGs X e t) (w : ∀ v σ H Q, t' v σ H Q → t v σ H Q) : PGs X e t' := ⟨fun pins s σ H v u Q I r q => h.run pins s σ H v u Q I r (w v σ H Q q)⟩
theorem pi_weak {X : Cx} {tg e : Expr} {t t' : TI} (h : PI X tg e t) (w : ∀ σ H R, t' σ H R → t σ H R) : PI X tg e t' := ⟨fun pins s σ H R I q => h.run pins s σ H R I (w σ H R q)⟩

/-! ### what an expression does -/
abbrev DE := Ev → Option (D × Ev)
abbrev DA := Ev → Option (List D × Ev)
/-- the end wanted of a pure answer | of an answer that may be an own list | of answers -/
def EndE (K : PySem.W.Frag) (σ : L2.St) (G H : Hp) (L : Fp) (d : D) (ρ : Ev) (Q : VK) : Prop :=
  ∀ v G' H' L', Sta G' H' L' → Stp G H L G' H' L' → Sl K G' σ ρ L' → Rep K G' v d → Q v H'
def EndN (K : PySem.W.Frag) (σ : L2.St) (G H : Hp) (L : Fp) (d : D) (ρ : Ev) (Q : VK) : Prop :=
  ∀ v G' H' M L', Sta G' H' (M ++ L') → Stp G H L G' H' (M ++ L') → Sl K G' σ ρ L' → Own K G' v d M → Q v H'
def EndB (K : PySem.W.Frag) (σ : L2.St) (G H : Hp) (L : Fp) (ρ : Ev) (Q : Hp → Prop) : Prop :=
  ∀ G' H' L', Sta G' H' L' → Stp G H L G' H' L' → Sl K G' σ ρ L' → Q H'
def EndA (K : PySem.W.Frag) (σ : L2.St) (G H : Hp) (L : Fp) (ds : List D) (ρ : Ev) (Q : List V → Hp → Prop) : Prop :=
  ∀ vs G' H' L', Sta G' H' L' → Stp G H L G' H' L' → Sl K G' σ ρ L' → RepL K G' vs ds → Q vs H'
def tE (K : PySem.W.Frag) (f : DE) : TE := fun σ H Q => ∃ G ρ L d ρ', Sta G H L ∧ Sl K G σ ρ L ∧ f ρ = some (d, ρ') ∧ EndE K σ G H L d ρ' Q
def tN (K : PySem.W.Frag) (f : DE) : TE := fun σ H Q => ∃ G ρ L d ρ', Sta G H L ∧ Sl K G σ ρ L ∧ f ρ = some (d, ρ') ∧ EndN K σ G H L d ρ' Q
def tT (K : PySem.W.Frag) (f : DE) : TT := fun σ H Q => ∃ G ρ L b ρ', Sta G H L ∧ Sl K G σ ρ L ∧ f ρ = some (.bl b, ρ') ∧ EndB K σ G H L ρ' (Q b)
def tAs (K : PySem.W.Frag) (f : DA) : TA := fun σ H Q => ∃ G ρ L ds ρ', Sta G H L ∧ Sl K G σ ρ L ∧ f ρ = some (ds, ρ') ∧ EndA K σ G H L ds ρ' Q
def SE (X : Cx) (e : Expr) (f : DE) : Prop := PE X e (tE X.K f)
def SN (X : Cx) (e : Expr) (f : DE) : Prop := PE X e (tN X.K f)
def ST (X : Cx) (e : Expr) (f : DE) : Prop := PT X e (tT X.K f)
def SW (X : Cx) (e : Expr) (f : DE) : Prop := PW X e (tT X.K f)
def SA (X : Cx) (es : List Expr) (f : DA) : Prop := PA X es (tAs X.K f)

section
variable {K : PySem.W.Frag} {σ : L2.St} {G H G1 H1 : Hp} {L L1 : Fp} {ρ ρ' : Ev} {d : D}
theorem EndE.after {Q : VK} (q : EndE K σ G H L d ρ Q) (s : Stp G H L G1 H1 L1) : EndE K σ G1 H1 L1 d ρ Q := fun v G' H' L' a b c r => q v G' H' L' a (s.trans b) c r
theorem EndN.after {Q : VK} (q : EndN K σ G H L d ρ Q) (s : Stp G H L G1 H1 L1) : EndN K σ G1 H1 L1 d ρ Q := fun v G' H' M L' a b c r => q v G' H' M L' a (s.trans b) c r
theorem EndB.after {Q : Hp → Prop} (q : EndB K σ G H L ρ Q) (s : Stp G H L G1 H1 L1) : EndB K σ G1 H1 L1 ρ Q := fun G' H' L' a b c => q G' H' L' a (s.trans b) c
theorem EndA.after {Q : List V → Hp → Prop} {ds : List D} (q : EndA K σ G H L ds ρ Q) (s : Stp G H L G1 H1 L1) : EndA K σ G1 H1 L1 ds ρ Q := fun v G' H' L' a b c r => q v G' H' L' a (s.trans b) c r
end
/-- an own answer becomes known -/
def dFz (f : DE) : DE := fun ρ => (f ρ).bind fun p => some (frz p.1, p.2)
section
variable {X : Cx} {e a b c : Expr} {f g h : DE}
theorem sn_of (s : SE X e f) : SN X e f := pe_weak s fun σ H Q ⟨G, ρ, L, d, ρ', h1, h2, h3, q⟩ => ⟨G, ρ, L, d, ρ', h1, h2, h3, fun v G' H' L' a b c r => q v G' H' [] L' a b c (.pure r)⟩
theorem se_fz (s : SN X e f) : SE X e (dFz f) := pe_weak s fun σ H Q ⟨G, ρ, L, d, ρ', h1, h2, h3, q⟩ => by
  unfold dFz at h3
  obtain ⟨⟨d0, ρ0⟩, e1, e2⟩ := Option.bind_eq_some_iff.mp h3
  cases e2
  refine ⟨G, ρ, L, d0, ρ0, h1, h2, e1, fun v G' H' M L' a b c r => ?_⟩
  obtain ⟨z1, z2, z3⟩ := a.freeze
  exact q v _ H' L' z1 (b.trans z2) (c.mono z3) (r.addF a)
end

/-! ### names and constants -/
def dVar (i : Nat) : DE := fun ρ => match ρ[i]? with
  | some (some d) => if d.pu = true then some (d, ρ) else none
  | _ => none
/-- an own list that becomes known -/
def dFrz (i : Nat) : DE := fun ρ => match ρ[i]? with
  | some (some d) => some (frz d, ρ.set i (some (frz d)))
  | _ => none
/-- an own list that leaves its place -/
def dMove (i : Nat) : DE := fun ρ => match ρ[i]? with
  | some (some d) => some (d, ρ.set i none)
  | _ => none
def dInt (n : Int) : DE := fun ρ => some (.int n, ρ)
def dBl (b : Bool) : DE := fun ρ => some (.bl b, ρ)
def dNon : DE := fun ρ => some (.non, ρ)
def dStr (s : Str) : DE := fun ρ => some (.str s, ρ)
theorem set_self {α : Type} {xs : List (Option α)} {i : Nat} {x : α} (h : xs[i]? = some (some x)) : xs.set i (some x) = xs := by
  apply List.ext_getElem?
  intro j
  rw [List.getElem?_set]
  by_cases e : i = j
  · subst e
    rw [if_pos rfl, h]
    have : i < xs.length := by
      rcases Nat.lt_or_ge i xs.length with z | z
      · exact z
      · rw [List.getElem?_eq_none z] at h; cases h
    rw [if_pos this]
  · rw [if_neg e]
section
variable {X : Cx} {pos : Pos} {x : Str}
theorem se_var (i : Nat) (hN : X.N[i]? = some x := by rfl) (hv : Vis X.env.scope x := by first | exact Or.inl rfl | exact Or.inr (Or.inl rfl) | exact Or.inr (Or.inr rfl)) (hd : (x == ("__debug__" : Str)) = false := by decide)
    (hcd : (x == ("__classdict__" : Str)) = false := by decide) : SE X (.Name x pos) (dVar i) := pe_weak (pe_var hN hv hd hcd) fun σ H Q ⟨G, ρ, L, d, ρ', h1, h2, h3, q⟩ => by
  unfold dVar at h3
  split at h3
  · rename_i d0 hd0
    split at h3
    · rename_i hp
      cases h3
      obtain ⟨v, M, R, s1, s2, s3, s4, s5⟩ := h2.at hd0
      exact ⟨v, s1, q v G H L h1 .refl h2 (s2.rep hp).1⟩
    · cases h3
  · cases h3
theorem se_frz (i : Nat) (hN : X.N[i]? = some x := by rfl) (hv : Vis X.env.scope x := by first | exact Or.inl rfl | exact Or.inr (Or.inl rfl) | exact Or.inr (Or.inr rfl)) (hd : (x == ("__debug__" : Str)) = false := by decide)
    (hcd : (x == ("__classdict__" : Str)) = false := by decide) : SE X (.Name x pos) (dFrz i) := pe_weak (pe_var hN hv hd hcd) fun σ H Q ⟨G, ρ, L, d, ρ', h1, h2, h3, q⟩ => by
  unfold dFrz at h3
  split at h3
  · rename_i d0 hd0
    cases h3
    obtain ⟨v, M, R, s1, s2, s3, s4, s5⟩ := h2.at hd0
    have sp := h1.perm s3
    obtain ⟨z1, z2, z3⟩ := sp.freeze
    have r := s2.addF sp
    obtain ⟨L', q1, q2⟩ := s5 _ v (frz d0) [] z3 (.pure r)
    rw [set_self s1] at q1
    refine ⟨v, s1, q v _ H L' (z1.perm q2.symm) ((z2.permL s3.symm).permR q2.symm) q1 r⟩
  · cases h3
theorem sn_move (i : Nat) (hN : X.N[i]? = some x := by rfl) (hv : Vis X.env.scope x := by first | exact Or.inl rfl | exact Or.inr (Or.inl rfl) | exact Or.inr (Or.inr rfl)) (hd : (x == ("__debug__" : Str)) = false := by decide)
    (hcd : (x == ("__classdict__" : Str)) = false := by decide) : SN X (.Name x pos) (dMove i) := pe_weak (pe_var hN hv hd hcd) fun σ H Q ⟨G, ρ, L, d, ρ', h1, h2, h3, q⟩ => by
  unfold dMove at h3
  split at h3
  · rename_i d0 hd0
    cases h3
    obtain ⟨v, M, R, s1, s2, s3, s4, s5⟩ := h2.at hd0
    exact ⟨v, s1, q v G H M R (h1.perm s3) (Stp.refl.permR s3) s4 s2⟩
  · cases h3
theorem se_c {e : Expr} {v : V} {d : D} (h : PE X e (tC v)) (r : ∀ G, Rep X.K G v d) : SE X e fun ρ => some (d, ρ) := pe_weak h fun σ H Q ⟨G, ρ, L, d', ρ', h1, h2, h3, q⟩ => by
  cases h3
  exact q v G H L h1 .refl h2 (r G)
theorem se_int {i : Int} {j : Nat} : SE X (.Constant (.int i) j pos) (dInt i) := se_c pe_int fun _ => .int i
theorem se_bl {b : Bool} {j : Nat} : SE X (.Constant (.bool b) j pos) (dBl b) := se_c pe_bl fun _ => .bl b
theorem se_non {j : Nat} : SE X (.Constant .none j pos) dNon := se_c pe_non fun _ => .non
theorem se_str {s : Str} {j : Nat} : SE X (.Constant (.str s) j pos) (dStr s) := se_c pe_str fun _ => .str s
end

/-! ### operators by values -/
/-- a two-place operation on data; its answer pure, or an own list -/
def OpD (K : PySem.W.Frag) (R : R2) (r : D → D → Option D) : Prop :=
  ∀ x y a b d G H L (Q : VK), Sta G H L → Rep K G x a → Rep K G y b → r a b = some d →
    (∀ v G' H' M, Sta G' H' (M ++ L) → Stp G H L G' H' (M ++ L) → Own K G' v d M → Q v H') → R x y H Q
def dOp (r : D → D → Option D) (f g : DE) : DE := fun ρ => (f ρ).bind fun p => (g p.2).bind fun q => (r p.1 q.1).bind fun d => some (d, q.2)
theorem OpD.or {K : PySem.W.Frag} {R R' : R2} {r r' : D → D → Option D} (h : OpD K R r) (h' : OpD K R' r') : OpD K (fun x y H Q => R x y H Q ∨ R' x y H Q) (fun a b => (r a b).or (r' a b)) :=
  fun x y a b d G H L Q s ra rb e q => by
    dsimp only at e
    cases e1 : r a b with
    | some z =>
      rw [e1] at e
      cases e
      exact .inl (h x y a b _ G H L Q s ra rb e1 q)
    | none =>
      rw [e1] at e
      exact .inr (h' x y a b d G H L Q s ra rb e q)
theorem opr_or {X : Cx} {f : Value → Value → Sem Value} {R R' : R2} (h : OpR X f R) (h' : OpR X f R') : OpR X f (fun x y H Q => R x y H Q ∨ R' x y H Q) := fun pins s σ H x y v u Q I rx ry q =>
  q.elim (h pins s σ H x y v u Q I rx ry) (h' pins s σ H x y v u Q I rx ry)
section
variable {X : Cx} {a b c : Expr} {f g h : DE} {pos : Pos}
theorem tN_op {R : R2} {r : D → D → Option D} (o : OpD X.K R r) {σ : L2.St} {H : Hp} {Q : VK} (hq : tN X.K (dOp r f g) σ H Q) : tOp R (tE X.K f) (tE X.K g) σ H Q := by
  obtain ⟨G, ρ, L, d, ρ', h1, h2, h3, q⟩ := hq
  unfold dOp at h3
  obtain ⟨⟨d1, ρ1⟩, e1, h3⟩ := Option.bind_eq_some_iff.mp h3
  obtain ⟨⟨d2, ρ2⟩, e2, h3⟩ := Option.bind_eq_some_iff.mp h3
  obtain ⟨d3, e3, h3⟩ := Option.bind_eq_some_iff.mp h3
  cases h3
  refine ⟨G, ρ, L, d1, ρ1, h1, h2, e1, fun x G1 H1 L1 a1 b1 c1 r1 => ⟨G1, ρ1, L1, d2, _, a1, c1, e2, fun y G2 H2 L2 a2 b2 c2 r2 => ?_⟩⟩
  refine o x y d1 d2 _ G2 H2 L2 Q a2 (r1.mono b2.ex) r2 e3 fun v G' H' M a3 b3 r3 => ?_
  exact q v G' H' M L2 a3 ((b1.trans b2).trans b3) (c2.mono b3.ex) r3
theorem tE_op {R : R2} {r : D → D → Option D} (o : OpD X.K R r) (hp : ∀ a b d, r a b = some d → d.pu = true) {σ : L2.St} {H : Hp} {Q : VK} (hq : tE X.K (dOp r f g) σ H Q) : tOp R (tE X.K f) (tE X.K g) σ H Q := by
  refine tN_op o ?_
  obtain ⟨G, ρ, L, d, ρ', h1, h2, h3, q⟩ := hq
  refine ⟨G, ρ, L, d, ρ', h1, h2, h3, fun v G' H' M L' a b c r => ?_⟩
  unfold dOp at h3
  obtain ⟨⟨d1, ρ1⟩, e1, h3⟩ := Option.bind_eq_some_iff.mp h3
  obtain ⟨⟨d2, ρ2⟩, e2, h3⟩ := Option.bind_eq_some_iff.mp h3
  obtain ⟨d3, e3, h3⟩ := Option.bind_eq_some_iff.mp h3
  cases h3
  obtain ⟨r1, rfl⟩ := r.rep (hp _ _ _ e3)
  exact q v G' H' L' a b c r1
theorem sn_op {op : Operator} {R : R2} {r : D → D → Option D} (ho : OpR X (binaryOp op) R) (o : OpD X.K R r) (ha : SE X a f) (hb : SE X b g) : SN X (.BinOp a op b pos) (dOp r f g) :=
  pe_weak (pe_op ho ha hb) fun _ _ _ => tN_op o
theorem se_op {op : Operator} {R : R2} {r : D → D → Option D} (ho : OpR X (binaryOp op) R) (o : OpD X.K R r) (hp : ∀ a b d, r a b = some d → d.pu = true) (ha : SE X a f) (hb : SE X b g) : SE X (.BinOp a op b pos) (dOp r f g) :=
  pe_weak (pe_op ho ha hb) fun _ _ _ => tE_op o hp
theorem se_cmp {op : CmpOp} {R : R2} {r : D → D → Option D} (ho : OpR X (compareOp op) R) (o : OpD X.K R r) (hp : ∀ a b d, r a b = some d → d.pu = true) (ha : SE X a f) (hb : SE X b g) (hm : behindInMarks op b = false) : SE X (.Compare a [op] [b] pos) (dOp r f g) :=
  pe_weak (pe_cmpR ho ha hb hm) fun _ _ _ => tE_op o hp
/-- from an expression's reading with a bool answer to a test's -/
theorem tT_of {t : TE} {f : DE} {K : PySem.W.Frag} (w : ∀ σ H Q, tE K f σ H Q → t σ H Q) {σ : L2.St} {H : Hp} {Q : Bool → Hp → Prop} (hq : tT K f σ H Q) : t σ H fun x H' => ∃ k, x = .bl k ∧ Q k H' := by
  obtain ⟨G, ρ, L, b, ρ', h1, h2, h3, q⟩ := hq
  refine w _ _ _ ⟨G, ρ, L, .bl b, ρ', h1, h2, h3, fun v G' H' L' a1 b1 c1 r1 => ?_⟩
  cases r1
  exact ⟨b, rfl, q G' H' L' a1 b1 c1⟩
theorem st_cmp {op : CmpOp} {R : R2} {r : D → D → Option D} (ho : OpR X (compareOp op) R) (o : OpD X.K R r) (hp : ∀ a b d, r a b = some d → d.pu = true) (ha : SE X a f) (hb : SE X b g) (hm : behindInMarks op b = false) : ST X (.Compare a [op] [b] pos) (dOp r f g) :=
  pt_weak (pt_cmpR ho ha hb hm) fun _ _ _ hq => tT_of (fun _ _ _ => tE_op o hp) hq
/-- a test whose expression is plain: a name, a call, a constant .. -/
theorem st_val {e : Expr} (s : SE X e f) (he : ∀ whole, isTrue e X.env whole = (do let v ← whole; standAt e.pos; holding [v] (truthy v)) := by intro _; rfl) : ST X e f :=
  pt_weak (pt_val s he) fun _ _ _ hq => tT_of (fun _ _ _ z => z) hq
def dChain (r r' : D → D → Option D) (f g h : DE) : DE := fun ρ => (f ρ).bind fun p => (g p.2).bind fun q => (r p.1 q.1).bind fun d => match d with
  | .bl true => (h q.2).bind fun z => (r' q.1 z.1).bind fun d' => some (d', z.2)
  | .bl false => some (.bl false, q.2)
  | _ => none
theorem tE_chain {R R' : R2} {r r' : D → D → Option D} (o : OpD X.K R r) (o' : OpD X.K R' r') (hp' : ∀ a b d, r' a b = some d → d.pu = true) {σ : L2.St} {H : Hp} {Q : VK} (hq : tE X.K (dChain r r' f g h) σ H Q) :
    tChain R R' (tE X.K f) (tE X.K g) (tE X.K h) σ H Q := by
  obtain ⟨G, ρ, L, d, ρ', h1, h2, h3, q⟩ := hq
  unfold dChain at h3
  obtain ⟨⟨d1, ρ1⟩, e1, h3⟩ := Option.bind_eq_some_iff.mp h3
  obtain ⟨⟨d2, ρ2⟩, e2, h3⟩ := Option.bind_eq_some_iff.mp h3
  obtain ⟨d3, e3, h3⟩ := Option.bind_eq_some_iff.mp h3
  refine ⟨G, ρ, L, d1, ρ1, h1, h2, e1, fun x G1 H1 L1 a1 b1 c1 r1 => ⟨G1, ρ1, L1, d2, ρ2, a1, c1, e2, fun y G2 H2 L2 a2 b2 c2 r2 => ?_⟩⟩
  refine o x y d1 d2 d3 G2 H2 L2 _ a2 (r1.mono b2.ex) r2 e3 fun v G3 H3 M a3 b3 r3 => ?_
  dsimp only at h3
  split at h3
  · obtain ⟨r9, rfl⟩ := r3.rep rfl
    cases r9
    obtain ⟨⟨d4, ρ4⟩, e4, h3⟩ := Option.bind_eq_some_iff.mp h3
    obtain ⟨d5, e5, h3⟩ := Option.bind_eq_some_iff.mp h3
    cases h3
    refine ⟨true, rfl, ?_⟩
    rw [if_pos rfl]
    refine ⟨G3, ρ2, L2, d4, ρ4, a3, c2.mono b3.ex, e4, fun w G4 H4 L4 a4 b4 c4 r4 => ?_⟩
    refine o' y w d2 d4 _ G4 H4 L4 Q a4 (r2.mono (b3.ex.trans b4.ex)) r4 e5 fun v G5 H5 M5 a5 b5 r5 => ?_
    obtain ⟨r9, rfl⟩ := r5.rep (hp' _ _ _ e5)
    exact q v G5 H5 L4 a5 ((((b1.trans b2).trans b3).trans b4).trans b5) (c4.mono b5.ex) r9
  · obtain ⟨r9, rfl⟩ := r3.rep rfl
    cases r9
    cases h3
    refine ⟨false, rfl, ?_⟩
    rw [if_neg Bool.false_ne_true]
    exact q (.bl false) G3 H3 L2 a3 ((b1.trans b2).trans b3) (c2.mono b3.ex) (.bl false)
  · cases h3
theorem se_chain {op op' : CmpOp} {R R' : R2} {r r' : D → D → Option D} (ho : OpR X (compareOp op) R) (o : OpD X.K R r) (ho' : OpR X (compareOp op') R') (o' : OpD X.K R' r') (hp' : ∀ a b d, r' a b = some d → d.pu = true)
    (ha : SE X a f) (hb : SE X b g) (hc : SE X c h) (hm : lastMarks [op, op'] [b, c] = false := by with_unfolding_all rfl) : SE X (.Compare a [op, op'] [b, c] pos) (dChain r r' f g h) :=
  pe_weak (pe_chain ho ho' ha hb hc hm) fun _ _ _ => tE_chain o o' hp'
theorem st_chain {op op' : CmpOp} {R R' : R2} {r r' : D → D → Option D} (ho : OpR X (compareOp op) R) (o : OpD X.K R r) (ho' : OpR X (compareOp op') R') (o' : OpD X.K R' r') (hp' : ∀ a b d, r' a b = some d → d.pu = true)
    (ha : SE X a f) (hb : SE X b g) (hc : SE X c h) (hm : lastMarks [op, op'] [b, c] = false := by with_unfolding_all rfl) : ST X (.Compare a [op, op'] [b, c] pos) (dChain r r' f g h) :=
  pt_weak (pt_chain ho ho' ha hb hc hm) fun _ _ _ hq => tT_of (fun _ _ _ => tE_chain o o' hp') hq
/-- a one-place operation -/
def UnD (K : PySem.W.Frag) (R : V → Hp → VK → Prop) (r : D → Option D) : Prop :=
  ∀ x a d G H L (Q : VK), Sta G H L → Rep K G x a → r a = some d → (∀ v G' H' M, Sta G' H' (M ++ L) → Stp G H L G' H' (M ++ L) → Own K G' v d M → Q v H') → R x H Q
def dUn (r : D → Option D) (f : DE) : DE := fun ρ => (f ρ).bind fun p => (r p.1).bind fun d => some (d, p.2)
theorem se_un {op : UnaryOp} {R : V → Hp → VK → Prop} {r : D → Option D} (ho : UnR X (unaryOp op) R) (o : UnD X.K R r) (hp : ∀ a d, r a = some d → d.pu = true) (ha : SE X a f) : SE X (.UnaryOp op a pos) (dUn r f) :=
  pe_weak (pe_un ho ha) fun σ H Q ⟨G, ρ, L, d, ρ', h1, h2, h3, q⟩ => by
    unfold dUn at h3
    obtain ⟨⟨d1, ρ1⟩, e1, h3⟩ := Option.bind_eq_some_iff.mp h3
    obtain ⟨d3, e3, h3⟩ := Option.bind_eq_some_iff.mp h3
    cases h3
    refine ⟨G, ρ, L, d1, _, h1, h2, e1, fun x G1 H1 L1 a1 b1 c1 r1 => o x d1 _ G1 H1 L1 Q a1 r1 e3 fun v G' H' M a3 b3 r3 => ?_⟩
    obtain ⟨r9, rfl⟩ := r3.rep (hp _ _ e3)
    exact q v G' H' L1 a3 (b1.trans b3) (c1.mono b3.ex) r9
end

/-! ### and, or, not, if -/
def dAnd (f g : DE) : DE := fun ρ => (f ρ).bind fun p => match p.1 with
  | .bl true => g p.2
  | .bl false => some (.bl false, p.2)
  | _ => none
def dOr (f g : DE) : DE := fun ρ => (f ρ).bind fun p => match p.1 with
  | .bl true => some (.bl true, p.2)
  | .bl false => g p.2
  | _ => none
def dNot (f : DE) : DE := fun ρ => (f ρ).bind fun p => match p.1 with
  | .bl b => some (.bl (!b), p.2)
  | _ => none
def dIf (c f g : DE) : DE := fun ρ => (c ρ).bind fun p => match p.1 with
  | .bl true => f p.2
  | .bl false => g p.2
  | _ => none
section
variable {X : Cx} {a b c : Expr} {f g h : DE} {pos : Pos} {rest : List Expr}
theorem se_one {op : BoolOp} (ha : SE X a f) : SE X (.BoolOp op [a] pos) f := pe_one ha
theorem se_and (ha : SE X a f) (hb : SE X (.BoolOp .And (b :: rest) pos) g) : SE X (.BoolOp .And (a :: b :: rest) pos) (dAnd f g) := pe_weak (pe_and ha hb) fun σ H Q ⟨G, ρ, L, d, ρ', h1, h2, h3, q⟩ => by
  unfold dAnd at h3
  obtain ⟨⟨d1, ρ1⟩, e1, h3⟩ := Option.bind_eq_some_iff.mp h3
  refine ⟨G, ρ, L, d1, ρ1, h1, h2, e1, fun x G1 H1 L1 a1 b1 c1 r1 => ?_⟩
  dsimp only at h3
  split at h3
  · cases r1
    refine ⟨true, rfl, ?_⟩
    rw [if_pos rfl]
    exact ⟨G1, ρ1, L1, d, ρ', a1, c1, h3, q.after b1⟩
  · cases r1
    cases h3
    refine ⟨false, rfl, ?_⟩
    rw [if_neg Bool.false_ne_true]
    exact q _ G1 H1 L1 a1 b1 c1 (.bl false)
  · cases h3
theorem se_or (ha : SE X a f) (hb : SE X (.BoolOp .Or (b :: rest) pos) g) : SE X (.BoolOp .Or (a :: b :: rest) pos) (dOr f g) := pe_weak (pe_or ha hb) fun σ H Q ⟨G, ρ, L, d, ρ', h1, h2, h3, q⟩ => by
  unfold dOr at h3
  obtain ⟨⟨d1, ρ1⟩, e1, h3⟩ := Option.bind_eq_some_iff.mp h3
  refine ⟨G, ρ, L, d1, ρ1, h1, h2, e1, fun x G1 H1 L1 a1 b1 c1 r1 => ?_⟩
  dsimp only at h3
  split at h3
  · cases r1
    cases h3
    refine ⟨true, rfl, ?_⟩
    rw [if_pos rfl]
    exact q _ G1 H1 L1 a1 b1 c1 (.bl true)
  · cases r1
    refine ⟨false, rfl, ?_⟩
    rw [if_neg Bool.false_ne_true]
    exact ⟨G1, ρ1, L1, d, ρ', a1, c1, h3, q.after b1⟩
  · cases h3
theorem se_not (ha : SE X a f) : SE X (.UnaryOp .Not a pos) (dNot f) := pe_weak (pe_not ha) fun σ H Q ⟨G, ρ, L, d, ρ', h1, h2, h3, q⟩ => by
  unfold dNot at h3
  obtain ⟨⟨d1, ρ1⟩, e1, h3⟩ := Option.bind_eq_some_iff.mp h3
  refine ⟨G, ρ, L, d1, ρ1, h1, h2, e1, fun x G1 H1 L1 a1 b1 c1 r1 => ?_⟩
  dsimp only at h3
  split at h3
  · cases r1
    cases h3
    exact ⟨_, rfl, q _ G1 H1 L1 a1 b1 c1 (.bl _)⟩
  · cases h3
theorem sw_pt (h : SW X a f) : ST X a f := PW.pt h
theorem sw_and1 (ha : ST X a f) : SW X (.BoolOp .And [a] pos) f := pw_and1 ha
theorem sw_or1 (ha : ST X a f) : SW X (.BoolOp .Or [a] pos) f := pw_or1 ha
theorem sw_and (ha : ST X a f) (hb : SW X (.BoolOp .And (b :: rest) pos) g) : SW X (.BoolOp .And (a :: b :: rest) pos) (dAnd f g) := pw_weak (pw_and ha hb) fun σ H Q ⟨G, ρ, L, d, ρ', h1, h2, h3, q⟩ => by
  unfold dAnd at h3
  obtain ⟨⟨d1, ρ1⟩, e1, h3⟩ := Option.bind_eq_some_iff.mp h3
  dsimp only at h3
  split at h3
  · refine ⟨G, ρ, L, true, ρ1, h1, h2, e1, fun G1 H1 L1 a1 b1 c1 => ?_⟩
    dsimp only
    rw [if_pos rfl]
    exact ⟨G1, ρ1, L1, d, ρ', a1, c1, h3, q.after b1⟩
  · cases h3
    refine ⟨G, ρ, L, false, _, h1, h2, e1, fun G1 H1 L1 a1 b1 c1 => ?_⟩
    dsimp only
    rw [if_neg Bool.false_ne_true]
    exact q G1 H1 L1 a1 b1 c1
  · cases h3
theorem sw_or (ha : ST X a f) (hb : SW X (.BoolOp .Or (b :: rest) pos) g) : SW X (.BoolOp .Or (a :: b :: rest) pos) (dOr f g) := pw_weak (pw_or ha hb) fun σ H Q ⟨G, ρ, L, d, ρ', h1, h2, h3, q⟩ => by
  unfold dOr at h3
  obtain ⟨⟨d1, ρ1⟩, e1, h3⟩ := Option.bind_eq_some_iff.mp h3
  dsimp only at h3
  split at h3
  · cases h3
    refine ⟨G, ρ, L, true, _, h1, h2, e1, fun G1 H1 L1 a1 b1 c1 => ?_⟩
    dsimp only
    rw [if_pos rfl]
    exact q G1 H1 L1 a1 b1 c1
  · refine ⟨G, ρ, L, false, ρ1, h1, h2, e1, fun G1 H1 L1 a1 b1 c1 => ?_⟩
    dsimp only
    rw [if_neg Bool.false_ne_true]
    exact ⟨G1, ρ1, L1, d, ρ', a1, c1, h3, q.after b1⟩
  · cases h3
theorem st_not (ha : ST X a f) : ST X (.UnaryOp .Not a pos) (dNot f) := pt_weak (pt_not ha) fun σ H Q ⟨G, ρ, L, d, ρ', h1, h2, h3, q⟩ => by
  unfold dNot at h3
  obtain ⟨⟨d1, ρ1⟩, e1, h3⟩ := Option.bind_eq_some_iff.mp h3
  dsimp only at h3
  split at h3
  · cases h3
    exact ⟨G, ρ, L, _, _, h1, h2, e1, fun G1 H1 L1 a1 b1 c1 => q G1 H1 L1 a1 b1 c1⟩
  · cases h3
theorem sn_if (hc : ST X c h) (ha : SN X a f) (hb : SN X b g) : SN X (.IfExp c a b pos) (dIf h f g) := pe_weak (pe_ifExp hc ha hb) fun σ H Q ⟨G, ρ, L, d, ρ', h1, h2, h3, q⟩ => by
  unfold dIf at h3
  obtain ⟨⟨d1, ρ1⟩, e1, h3⟩ := Option.bind_eq_some_iff.mp h3
  dsimp only at h3
  split at h3
  · refine ⟨G, ρ, L, true, ρ1, h1, h2, e1, fun G1 H1 L1 a1 b1 c1 => ?_⟩
    dsimp only
    rw [if_pos rfl]
    exact ⟨G1, ρ1, L1, d, ρ', a1, c1, h3, q.after b1⟩
  · refine ⟨G, ρ, L, false, ρ1, h1, h2, e1, fun G1 H1 L1 a1 b1 c1 => ?_⟩
    dsimp only
    rw [if_neg Bool.false_ne_true]
    exact ⟨G1, ρ1, L1, d, ρ', a1, c1, h3, q.after b1⟩
  · cases h3
theorem se_if (hc : ST X c h) (ha : SE X a f) (hb : SE X b g) : SE X (.IfExp c a b pos) (dIf h f g) := pe_weak (pe_ifExp hc ha hb) fun σ H Q ⟨G, ρ, L, d, ρ', h1, h2, h3, q⟩ => by
  unfold dIf at h3
  obtain ⟨⟨d1, ρ1⟩, e1, h3⟩ := Option.bind_eq_some_iff.mp h3
  dsimp only at h3
  split at h3
  · refine ⟨G, ρ, L, true, ρ1, h1, h2, e1, fun G1 H1 L1 a1 b1 c1 => ?_⟩
    dsimp only
    rw [if_pos rfl]
    exact ⟨G1, ρ1, L1, d, ρ', a1, c1, h3, q.after b1⟩
  · refine ⟨G, ρ, L, false, ρ1, h1, h2, e1, fun G1 H1 L1 a1 b1 c1 => ?_⟩
    dsimp only
    rw [if_neg Bool.false_ne_true]
    exact ⟨G1, ρ1, L1, d, ρ', a1, c1, h3, q.after b1⟩
  · cases h3
end

/-! ### displays, argument lists -/
def dNil : DA := fun ρ => some ([], ρ)
def dCons (f : DE) (g : DA) : DA := fun ρ => (f ρ).bind fun p => (g p.2).bind fun q => some (p.1 :: q.1, q.2)
def dTup (f : DA) : DE := fun ρ => (f ρ).bind fun p => if p.1.length ≤ 1000 then some (.tup p.1, p.2) else none
def dLst (f : DA) : DE := fun ρ => (f ρ).bind fun p => if p.1.length ≤ 1000 then some (.own p.1, p.2) else none
section
variable {X : Cx} {e : Expr} {es : List Expr} {f : DE} {g : DA} {pos : Pos}
theorem sa_nil : SA X [] dNil := pa_weak pa_nil fun σ H Q ⟨G, ρ, L, d, ρ', h1, h2, h3, q⟩ => by
  cases h3
  exact q [] G H L h1 .refl h2 .nil
theorem sa_cons (ha : SE X e f) (hr : SA X es g) (hs : starEach (e :: es) X.env = (false, eval e X.env) :: starEach es X.env := by rfl) : SA X (e :: es) (dCons f g) := pa_weak (pa_cons ha hr hs) fun σ H Q ⟨G, ρ, L, d, ρ', h1, h2, h3, q⟩ => by
  unfold dCons at h3
  obtain ⟨⟨d1, ρ1⟩, e1, h3⟩ := Option.bind_eq_some_iff.mp h3
  obtain ⟨⟨d2, ρ2⟩, e2, h3⟩ := Option.bind_eq_some_iff.mp h3
  cases h3
  refine ⟨G, ρ, L, d1, ρ1, h1, h2, e1, fun x G1 H1 L1 a1 b1 c1 r1 => ⟨G1, ρ1, L1, d2, ρ2, a1, c1, e2, fun vs G2 H2 L2 a2 b2 c2 r2 => ?_⟩⟩
  exact q _ G2 H2 L2 a2 (b1.trans b2) c2 (.cons (r1.mono b2.ex) r2)
theorem small {n : Nat} (h : n ≤ 1000) : n ≤ sizeLine := Nat.le_trans h (by decide)
theorem se_tup {k : Nat} (ha : SA X es g) : SE X (.Tuple es k pos) (dTup g) := pe_weak (pe_tup ha) fun σ H Q ⟨G, ρ, L, d, ρ', h1, h2, h3, q⟩ => by
  unfold dTup at h3
  obtain ⟨⟨ds, ρ1⟩, e1, h3⟩ := Option.bind_eq_some_iff.mp h3
  dsimp only at h3
  split at h3
  · rename_i hz
    cases h3
    refine ⟨G, ρ, L, ds, _, h1, h2, e1, fun vs G1 H1 L1 a1 b1 c1 r1 => ⟨small (by rw [r1.length]; exact hz), fun p hp => ?_⟩⟩
    obtain ⟨z1, z2, z3⟩ := a1.new (.tup vs) hp
    exact q _ _ _ L1 z1 (b1.trans z2) (c1.mono z3) (.tup (sqT_of upd_same) (r1.mono z3))
  · cases h3
theorem sn_lst (ha : SA X es g) : SN X (.List es pos) (dLst g) := pe_weak (pe_lst ha) fun σ H Q ⟨G, ρ, L, d, ρ', h1, h2, h3, q⟩ => by
  unfold dLst at h3
  obtain ⟨⟨ds, ρ1⟩, e1, h3⟩ := Option.bind_eq_some_iff.mp h3
  dsimp only at h3
  split at h3
  · rename_i hz
    cases h3
    refine ⟨G, ρ, L, ds, _, h1, h2, e1, fun vs G1 H1 L1 a1 b1 c1 r1 => ⟨small (by rw [r1.length]; exact hz), fun p hp => ?_⟩⟩
    obtain ⟨z1, z2⟩ := a1.newOwn (.lst vs) hp
    exact q _ _ _ [(p, .lst vs)] L1 z1 (b1.trans z2) c1 (.own r1.ownL)
  · cases h3
end
end Pd

namespace Pd
open PySem PySem.Spec PyProof.Rows L2 RZ

/-! ### targets -/
abbrev DG := D → Ev → Option Ev
abbrev DGs := List D → Ev → Option Ev
/-- the slots of the def's own in-out parameters keep their values -/
def Kp (io : List Nat) (σ σ' : L2.St) : Prop := σ'.length = σ.length ∧ ∀ i ∈ io, σ'[i]? = σ[i]?
theorem Kp.refl {io : List Nat} {σ : L2.St} : Kp io σ σ := ⟨rfl, fun _ _ => rfl⟩
theorem Kp.trans {io : List Nat} {σ σ1 σ2 : L2.St} (a : Kp io σ σ1) (b : Kp io σ1 σ2) : Kp io σ σ2 := ⟨b.1.trans a.1, fun i h => (b.2 i h).trans (a.2 i h)⟩
theorem Kp.set {io : List Nat} {σ : L2.St} {i : Nat} {x : Option V} (h : io.contains i = false) : Kp io σ (σ.set i x) := ⟨List.length_set, fun j hj => by
  rw [List.getElem?_set_ne]
  intro e
  subst e
  rw [List.contains_eq_mem, decide_eq_false_iff_not] at h
  exact h hj⟩
def EndG (K : PySem.W.Frag) (io : List Nat) (σ : L2.St) (G H : Hp) (L : Fp) (ρ : Ev) (Q : L2.St → Hp → Prop) : Prop :=
  ∀ σ' L', Sta G H L' → Stp G H L G H L' → Sl K G σ' ρ L' → Kp io σ σ' → Q σ' H
def tG (K : PySem.W.Frag) (io : List Nat) (g : DG) : TG := fun v σ H Q => ∃ G ρ L d ρ', Sta G H L ∧ Sl K G σ ρ L ∧ Rep K G v d ∧ g d ρ = some ρ' ∧ EndG K io σ G H L ρ' Q
def tGs (K : PySem.W.Frag) (io : List Nat) (g : DGs) : TGs := fun vs σ H Q => ∃ G ρ L ds ρ', Sta G H L ∧ Sl K G σ ρ L ∧ RepL K G vs ds ∧ g ds ρ = some ρ' ∧ EndG K io σ G H L ρ' Q
def SG (X : Cx) (io : List Nat) (tg : Expr) (g : DG) : Prop := PG X tg (tG X.K io g)
def SGs (X : Cx) (io : List Nat) (tgs : List Expr) (g : DGs) : Prop := PGs X tgs (tGs X.K io g)
def put (i : Nat) (d : D) (ρ : Ev) : Option Ev := if i < ρ.length then some (ρ.set i (some d)) else none
def gNam (i : Nat) : DG := fun d ρ => put i d ρ
def gsNil : DGs := fun ds ρ => match ds with | [] => some ρ | _ => none
def gsCons (g : DG) (h : DGs) : DGs := fun ds ρ => match ds with | d :: r => (g d ρ).bind (h r) | [] => none
def gTp (n : Nat) (h : DGs) : DG := fun d ρ => match d with | .tup ds => if ds.length = n then h ds ρ else none | _ => none
section
variable {X : Cx} {io : List Nat} {pos : Pos} {e : Expr} {es : List Expr} {g : DG} {h : DGs}
theorem sl_put {K : PySem.W.Frag} {G H : Hp} {σ : L2.St} {ρ ρ' : Ev} {L M : Fp} {i : Nat} {v : V} {d : D} (s : Sta G H (M ++ L)) (h : Sl K G σ ρ L) (o : Own K G v d M) (e : put i d ρ = some ρ') :
    ∃ L', Sta G H L' ∧ Stp G H (M ++ L) G H L' ∧ Sl K G (σ.set i (some v)) ρ' L' := by
  unfold put at e
  split at e
  · rename_i hi
    cases e
    obtain ⟨L', R, q1, q2, M0, q3⟩ := h.put hi (Ex.refl G) o
    have s1 : Sta G H (M0 ++ (M ++ R)) := s.perm ((q3.append_left M).trans (by rw [← List.append_assoc, ← List.append_assoc]; exact List.perm_append_comm.append_right R))
    have st : Stp G H (M ++ L) G H (M0 ++ (M ++ R)) := Stp.refl.permR ((q3.append_left M).trans (by rw [← List.append_assoc, ← List.append_assoc]; exact List.perm_append_comm.append_right R))
    exact ⟨L', s1.left.perm q2.symm, st.less.permR q2.symm, q1⟩
  · cases e
theorem sg_name {i : Nat} {x : Str} (hN : X.N.Nodup) (hi : X.N[i]? = some x := by rfl) (hx : Loc X.env.scope x := by first | exact .inl rfl | exact .inr rfl) (hf : X.fn x = true ∨ X.env.scope.names.lookup x = some .local := by first | exact .inl rfl | exact .inr rfl | assumption)
    (ho : io.contains i = false := by rfl) : SG X io (.Name x pos) (gNam i) := pg_weak (pg_name hN hi hx hf) fun v σ H Q ⟨G, ρ, L, d, ρ', h1, h2, h3, h4, q⟩ => by
  obtain ⟨L', q1, q2, q3⟩ := sl_put (M := []) h1 h2 (.pure h3) h4
  exact q _ L' q1 q2 q3 (Kp.set ho)
theorem sgs_nil : SGs X io [] gsNil := pgs_weak pgs_nil fun vs σ H Q ⟨G, ρ, L, ds, ρ', h1, h2, h3, h4, q⟩ => by
  unfold gsNil at h4
  cases h3 with
  | nil => cases h4; exact ⟨rfl, q σ L h1 .refl h2 .refl⟩
  | cons _ _ => cases h4
theorem sgs_cons (h1 : SG X io e g) (h2 : SGs X io es h) (hs : (assignEach (e :: es) X.env).map (·.2) = assign e X.env :: (assignEach es X.env).map (·.2) := by rfl) : SGs X io (e :: es) (gsCons g h) :=
  pgs_weak (pgs_cons h1 h2 hs) fun vs σ H Q ⟨G, ρ, L, ds, ρ', h1, h2, h3, h4, q⟩ => by
    unfold gsCons at h4
    cases h3 with
    | nil => cases h4
    | cons r rr =>
      obtain ⟨ρ1, e1, e2⟩ := Option.bind_eq_some_iff.mp h4
      refine ⟨_, _, rfl, G, ρ, L, _, ρ1, h1, h2, r, e1, fun σ1 L1 a1 b1 c1 k1 => ⟨G, ρ1, L1, _, ρ', a1, c1, rr, e2, fun σ2 L2 a2 b2 c2 k2 => q σ2 L2 a2 (b1.trans b2) c2 (k1.trans k2)⟩⟩
theorem sg_tup {k n : Nat} (hc : X.calm = true) (hh : SGs X io es h) (hn : (assignEach es X.env).length = n := by rfl) (hst : (assignEach es X.env).findIdx? (·.1) = none := by rfl) : SG X io (.Tuple es k pos) (gTp n h) :=
  pg_weak (pg_tup hc hh hn hst) fun v σ H Q ⟨G, ρ, L, d, ρ', h1, h2, h3, h4, q⟩ => by
    unfold gTp at h4
    cases h3 with
    | tup hs hr =>
      dsimp only at h4
      split at h4
      · rename_i hl
        exact ⟨_, _, rfl, h1.ex.sqT hs, by rw [hr.length]; exact hl, G, ρ, L, _, ρ', h1, h2, hr, h4, q⟩
      · cases h4
    | _ => cases h4
end

/-! ### statements -/
inductive Fl where
  | nx (ρ : Ev) | rt (d : D) (ρ : Ev) | bk (ρ : Ev) | ct (ρ : Ev)
abbrev DS := Ev → Option Fl
def EndS (K : PySem.W.Frag) (io : List Nat) (σ : L2.St) (G H : Hp) (L : Fp) (De : Ends) : Fl → Prop
  | .nx ρ => ∀ σ' G' H' L', Sta G' H' L' → Stp G H L G' H' L' → Sl K G' σ' ρ L' → Kp io σ σ' → De.nx σ' H'
  | .bk ρ => ∀ σ' G' H' L', Sta G' H' L' → Stp G H L G' H' L' → Sl K G' σ' ρ L' → Kp io σ σ' → De.bk σ' H'
  | .ct ρ => ∀ σ' G' H' L', Sta G' H' L' → Stp G H L G' H' L' → Sl K G' σ' ρ L' → Kp io σ σ' → De.ct σ' H'
  | .rt d ρ => ∀ v σ' G' H' M L', Sta G' H' (M ++ L') → Stp G H L G' H' (M ++ L') → Sl K G' σ' ρ L' → Kp io σ σ' → Own K G' v d M → De.rt v H'
def tS (K : PySem.W.Frag) (io : List Nat) (g : DS) : TS := fun De σ H => ∃ G ρ L fl, Sta G H L ∧ Sl K G σ ρ L ∧ g ρ = some fl ∧ EndS K io σ G H L De fl
def SS (X : Cx) (io : List Nat) (st : Stmt) (g : DS) : Prop := PS X st (tS X.K io g)
def SSs (X : Cx) (io : List Nat) (st : List Stmt) (g : DS) : Prop := PSs X st (tS X.K io g)
section
variable {K : PySem.W.Frag} {io : List Nat} {σ σ1 : L2.St} {G H G1 H1 : Hp} {L L1 : Fp} {De De' : Ends} {fl : Fl}
theorem EndS.after (q : EndS K io σ G H L De fl) (s : Stp G H L G1 H1 L1) (k : Kp io σ σ1) : EndS K io σ1 G1 H1 L1 De fl := by
  cases fl with
  | nx ρ => exact fun σ' G' H' L' a b c d => q σ' G' H' L' a (s.trans b) c (k.trans d)
  | bk ρ => exact fun σ' G' H' L' a b c d => q σ' G' H' L' a (s.trans b) c (k.trans d)
  | ct ρ => exact fun σ' G' H' L' a b c d => q σ' G' H' L' a (s.trans b) c (k.trans d)
  | rt d ρ => exact fun v σ' G' H' M L' a b c d o => q v σ' G' H' M L' a (s.trans b) c (k.trans d) o
end
def dSkip : DS := fun ρ => some (.nx ρ)
def dBrk : DS := fun ρ => some (.bk ρ)
def dCon : DS := fun ρ => some (.ct ρ)
def dSeq (g h : DS) : DS := fun ρ => (g ρ).bind fun fl => match fl with
  | .nx ρ' => h ρ'
  | f => some f
def dIfS (c : DE) (g h : DS) : DS := fun ρ => (c ρ).bind fun p => match p.1 with
  | .bl true => g p.2
  | .bl false => h p.2
  | _ => none
def dRet (f : DE) : DS := fun ρ => (f ρ).bind fun p => some (.rt p.1 p.2)
def dDrop (f : DE) : DS := fun ρ => (f ρ).bind fun p => some (.nx p.2)
def dSet (i : Nat) (f : DE) : DS := fun ρ => (f ρ).bind fun p => (put i p.1 p.2).bind fun ρ' => some (.nx ρ')
def dAsg (g : DG) (f : DE) : DS := fun ρ => (f ρ).bind fun p => (g p.1 p.2).bind fun ρ' => some (.nx ρ')
section
variable {X : Cx} {io : List Nat} {pos : Pos} {e c : Expr} {st : Stmt} {sts as bs rest : List Stmt} {f h : DE} {g g' : DS}
theorem ss_nil : SSs X io [] dSkip := pss_weak pss_nil fun De σ H ⟨G, ρ, L, fl, h1, h2, h3, q⟩ => by
  cases h3
  exact q σ G H L h1 .refl h2 .refl
theorem ss_pass : SS X io (.Pass pos) dSkip := ps_weak ps_pass fun De σ H ⟨G, ρ, L, fl, h1, h2, h3, q⟩ => by
  cases h3
  exact q σ G H L h1 .refl h2 .refl
theorem ss_break : SS X io (.Break pos) dBrk := ps_weak ps_break fun De σ H ⟨G, ρ, L, fl, h1, h2, h3, q⟩ => by
  cases h3
  exact q σ G H L h1 .refl h2 .refl
theorem ss_cont : SS X io (.Continue pos) dCon := ps_weak ps_continue fun De σ H ⟨G, ρ, L, fl, h1, h2, h3, q⟩ => by
  cases h3
  exact q σ G H L h1 .refl h2 .refl
theorem ss_cons (h1 : SS X io st g) (h2 : SSs X io rest g') : SSs X io (st :: rest) (dSeq g g') := pss_weak (pss_cons h1 h2) fun De σ H ⟨G, ρ, L, fl, h1, h2, h3, q⟩ => by
  unfold dSeq at h3
  obtain ⟨fl1, e1, h3⟩ := Option.bind_eq_some_iff.mp h3
  refine ⟨G, ρ, L, fl1, h1, h2, e1, ?_⟩
  cases fl1 with
  | nx ρ1 => exact fun σ' G' H' L' a b c d => ⟨G', ρ1, L', fl, a, c, h3, q.after b d⟩
  | bk ρ1 => cases h3; exact q
  | ct ρ1 => cases h3; exact q
  | rt d ρ1 => cases h3; exact q
theorem ss_one (h1 : SS X io st g) : SSs X io [st] g := pss_one h1
theorem ss_if (hc : ST X c h) (ha : SSs X io as g) (hb : SSs X io bs g') : SS X io (.If c as bs pos) (dIfS h g g') := ps_weak (ps_if hc ha hb) fun De σ H ⟨G, ρ, L, fl, h1, h2, h3, q⟩ => by
  unfold dIfS at h3
  obtain ⟨⟨d1, ρ1⟩, e1, h3⟩ := Option.bind_eq_some_iff.mp h3
  dsimp only at h3
  split at h3
  · refine ⟨G, ρ, L, true, ρ1, h1, h2, e1, fun G1 H1 L1 a1 b1 c1 => ?_⟩
    dsimp only
    rw [if_pos rfl]
    exact ⟨G1, ρ1, L1, fl, a1, c1, h3, q.after b1 .refl⟩
  · refine ⟨G, ρ, L, false, ρ1, h1, h2, e1, fun G1 H1 L1 a1 b1 c1 => ?_⟩
    dsimp only
    rw [if_neg Bool.false_ne_true]
    exact ⟨G1, ρ1, L1, fl, a1, c1, h3, q.after b1 .refl⟩
  · cases h3
theorem ss_ret (he : SN X e f) : SS X io (.Return (some e) pos) (dRet f) := ps_weak (ps_ret he) fun De σ H ⟨G, ρ, L, fl, h1, h2, h3, q⟩ => by
  unfold dRet at h3
  obtain ⟨⟨d1, ρ1⟩, e1, h3⟩ := Option.bind_eq_some_iff.mp h3
  cases h3
  exact ⟨G, ρ, L, d1, ρ1, h1, h2, e1, fun v G' H' M L' a b c r => q v σ G' H' M L' a b c .refl r⟩
theorem ss_retN : SS X io (.Return none pos) (fun ρ => some (.rt .non ρ)) := ps_weak ps_retN fun De σ H ⟨G, ρ, L, fl, h1, h2, h3, q⟩ => by
  cases h3
  exact q .non σ G H [] L h1 .refl h2 .refl (.pure .non)
theorem ss_expr (he : SE X e f) (hs : swapsWith e none pos.line X.env = pure false := by rfl) : SS X io (.Expr e pos) (dDrop f) := ps_weak (ps_expr he hs) fun De σ H ⟨G, ρ, L, fl, h1, h2, h3, q⟩ => by
  unfold dDrop at h3
  obtain ⟨⟨d1, ρ1⟩, e1, h3⟩ := Option.bind_eq_some_iff.mp h3
  cases h3
  exact ⟨G, ρ, L, d1, ρ1, h1, h2, e1, fun v G' H' L' a b c r => q σ G' H' L' a b c .refl⟩
theorem tS_set {i : Nat} (ho : io.contains i = false) {De : Ends} {σ : L2.St} {H : Hp} (hq : tS X.K io (dSet i f) De σ H) : tAsg (tN X.K f) (gName i) De σ H := by
  obtain ⟨G, ρ, L, fl, h1, h2, h3, q⟩ := hq
  unfold dSet at h3
  obtain ⟨⟨d1, ρ1⟩, e1, h3⟩ := Option.bind_eq_some_iff.mp h3
  obtain ⟨ρ2, e2, h3⟩ := Option.bind_eq_some_iff.mp h3
  cases h3
  refine ⟨G, ρ, L, d1, ρ1, h1, h2, e1, fun v G' H' M L' a b c r => ?_⟩
  obtain ⟨L2, q1, q2, q3⟩ := sl_put a c r e2
  exact q _ G' H' L2 q1 (b.trans q2) q3 (Kp.set ho)
theorem ss_set (i : Nat) {x : Str} {pos' : Pos} (hN : X.N.Nodup) (he : SN X e f) (hi : X.N[i]? = some x := by rfl) (hx : Loc X.env.scope x := by first | exact .inl rfl | exact .inr rfl) (hs : swapsWith e (some (.Name x pos')) pos.line X.env = pure false := by rfl)
    (hf : X.fn x = true ∨ X.env.scope.names.lookup x = some .local := by first | exact .inl rfl | exact .inr rfl | assumption) (ho : io.contains i = false := by rfl) : SS X io (.Assign [.Name x pos'] e pos) (dSet i f) :=
  ps_weak (ps_set hN hi hx he hs hf) fun De σ H => tS_set ho
theorem ss_asg {tg : Expr} {gg : DG} (he : SE X e f) (hg : SG X io tg gg) (hs : swapsWithSole [tg] e pos.line X.env = pure false := by rfl) (hw : swappedStores [tg] e X.env = pure none := by rfl)
    (h1 : (assignEach [tg] X.env).map (·.2) = [assign tg X.env] := by rfl) : SS X io (.Assign [tg] e pos) (dAsg gg f) := ps_weak (ps_asg he hg hs hw h1) fun De σ H ⟨G, ρ, L, fl, h1, h2, h3, q⟩ => by
  unfold dAsg at h3
  obtain ⟨⟨d1, ρ1⟩, e1, h3⟩ := Option.bind_eq_some_iff.mp h3
  obtain ⟨ρ2, e2, h3⟩ := Option.bind_eq_some_iff.mp h3
  cases h3
  exact ⟨G, ρ, L, d1, ρ1, h1, h2, e1, fun v G' H' L' a b c r => ⟨G', ρ1, L', d1, ρ2, a, c, r, e2, fun σ2 L2 a2 b2 c2 k2 => q σ2 G' H' L2 a2 (b.trans b2) c2 k2⟩⟩
end
/-- a, b = x, y by names -/
def dPar (i j : Nat) (f : DA) : DS := fun ρ => (f ρ).bind fun p => match p.1 with
  | [a, b] => (put i a p.2).bind fun ρ1 => (put j b ρ1).bind fun ρ2 => some (.nx ρ2)
  | _ => none
def dPar3 (i j l : Nat) (f : DA) : DS := fun ρ => (f ρ).bind fun p => match p.1 with
  | [a, b, c] => (put i a p.2).bind fun ρ1 => (put j b ρ1).bind fun ρ2 => (put l c ρ2).bind fun ρ3 => some (.nx ρ3)
  | _ => none
section
variable {X : Cx} {io : List Nat} {pos : Pos} {e c : Expr} {g : DA}
theorem sl_put0 {K : PySem.W.Frag} {G H : Hp} {σ : L2.St} {ρ ρ' : Ev} {L : Fp} {i : Nat} {v : V} {d : D} (s : Sta G H L) (h : Sl K G σ ρ L) (o : Rep K G v d) (e : put i d ρ = some ρ') :
    ∃ L', Sta G H L' ∧ Stp G H L G H L' ∧ Sl K G (σ.set i (some v)) ρ' L' := sl_put (M := []) s h (.pure o) e
theorem tS_par {i j : Nat} (ho : io.contains i = false) (ho' : io.contains j = false) {De : Ends} {σ : L2.St} {H : Hp} (hq : tS X.K io (dPar i j g) De σ H) : tPar i j (tAs X.K g) De σ H := by
  obtain ⟨G, ρ, L, fl, h1, h2, h3, q⟩ := hq
  unfold dPar at h3
  obtain ⟨⟨d1, ρ1⟩, e1, h3⟩ := Option.bind_eq_some_iff.mp h3
  dsimp only at h3
  split at h3
  · rename_i a b
    obtain ⟨ρ2, e2, h3⟩ := Option.bind_eq_some_iff.mp h3
    obtain ⟨ρ3, e3, h3⟩ := Option.bind_eq_some_iff.mp h3
    cases h3
    refine ⟨G, ρ, L, _, ρ1, h1, h2, e1, fun vs G' H' L' a' b' c' r => ?_⟩
    cases r with
    | cons r1 r =>
      cases r with
      | cons r2 r =>
        cases r
        obtain ⟨L2, q1, q2, q3⟩ := sl_put0 a' c' r1 e2
        obtain ⟨L3, q4, q5, q6⟩ := sl_put0 q1 q3 r2 e3
        exact ⟨_, _, rfl, q _ G' H' L3 q4 ((b'.trans q2).trans q5) q6 ((Kp.set ho).trans (Kp.set ho'))⟩
  · cases h3
theorem ss_par (i j : Nat) {x y : Str} {a b : Expr} {px py pt : Pos} {kt k2 : Nat} {pt2 : Pos} (hc : X.calm = true) (hN : X.N.Nodup) (ha : SA X [a, b] g) (hi : X.N[i]? = some x := by rfl) (hj : X.N[j]? = some y := by rfl) (hij : i ≠ j := by decide)
    (hx : X.env.scope.names.lookup x = some .local := by rfl) (hy : X.env.scope.names.lookup y = some .local := by rfl)
    {st : Stmt} (hst : ∀ {ta : TA}, PA X [a, b] ta → PS X st (tPar i j ta)) (ho : io.contains i = false := by rfl) (ho' : io.contains j = false := by rfl) : SS X io st (dPar i j g) :=
  ps_weak (hst ha) fun De σ H => tS_par ho ho'
theorem tS_par3 {i j l : Nat} (ho : io.contains i = false) (ho' : io.contains j = false) (ho2 : io.contains l = false) {De : Ends} {σ : L2.St} {H : Hp} (hq : tS X.K io (dPar3 i j l g) De σ H) : tPar3 i j l (tAs X.K g) De σ H := by
  obtain ⟨G, ρ, L, fl, h1, h2, h3, q⟩ := hq
  unfold dPar3 at h3
  obtain ⟨⟨d1, ρ1⟩, e1, h3⟩ := Option.bind_eq_some_iff.mp h3
  dsimp only at h3
  split at h3
  · rename_i a b c
    obtain ⟨ρ2, e2, h3⟩ := Option.bind_eq_some_iff.mp h3
    obtain ⟨ρ3, e3, h3⟩ := Option.bind_eq_some_iff.mp h3
    obtain ⟨ρ4, e4, h3⟩ := Option.bind_eq_some_iff.mp h3
    cases h3
    refine ⟨G, ρ, L, _, ρ1, h1, h2, e1, fun vs G' H' L' a' b' c' r => ?_⟩
    cases r with
    | cons r1 r =>
      cases r with
      | cons r2 r =>
        cases r with
        | cons r3 r =>
          cases r
          obtain ⟨L2, q1, q2, q3⟩ := sl_put0 a' c' r1 e2
          obtain ⟨L3, q4, q5, q6⟩ := sl_put0 q1 q3 r2 e3
          obtain ⟨L4, q7, q8, q9⟩ := sl_put0 q4 q6 r3 e4
          exact ⟨_, _, _, rfl, q _ G' H' L4 q7 (((b'.trans q2).trans q5).trans q8) q9 (((Kp.set ho).trans (Kp.set ho')).trans (Kp.set ho2))⟩
  · cases h3
end

/-! ### for, while, comprehensions -/
/-- what is walked: the items -/
abbrev DI := Ev → Option (List D × Ev)
/-- a walk: from the state and the slots, an iterator that gives data ds, each stored by the target -/
def EndI (K : PySem.W.Frag) (σ : L2.St) (G H : Hp) (L : Fp) (ds : List D) (ρ : Ev) (R : It → Hp → Prop) : Prop :=
  ∀ J G' H' L' (n : Nat) (W : Hp → Prop) (Y : Nat → Hp → V → Hp → Prop), Sta G' H' L' → Stp G H L G' H' L' → Sl K G' σ ρ L' → Walk J n W Y → n = ds.length →
    (∀ H2, Ex G' H2 → W H2) →
    (∀ i G2 H2 x H3 L2, i < n → Sta G2 H2 L2 → Ex G' G2 → Y i H2 x H3 → ∃ G3 d, Sta G3 H3 L2 ∧ Stp G2 H2 L2 G3 H3 L2 ∧ ds[i]? = some d ∧ Rep K G3 x d) → R J H'
def tI (K : PySem.W.Frag) (f : DI) : TI := fun σ H R => ∃ G ρ L ds ρ', Sta G H L ∧ Sl K G σ ρ L ∧ f ρ = some (ds, ρ') ∧ EndI K σ G H L ds ρ' R
def SI (X : Cx) (tg iter : Expr) (f : DI) : Prop := PI X tg iter (tI X.K f)
def forL (g : DG) (b : DS) : List D → Ev → Option Fl
  | [], ρ => some (.nx ρ)
  | d :: ds, ρ => (g d ρ).bind fun ρ1 => (b ρ1).bind fun fl => match fl with
    | .nx ρ2 => forL g b ds ρ2
    | .ct ρ2 => forL g b ds ρ2
    | .bk ρ2 => some (.nx ρ2)
    | .rt d ρ2 => some (.rt d ρ2)
def dFor (f : DI) (g : DG) (b : DS) : DS := fun ρ => (f ρ).bind fun p => forL g b p.1 p.2
theorem drop_get {α : Type} {xs : List α} {i : Nat} {x : α} (h : xs[i]? = some x) : xs.drop i = x :: xs.drop (i + 1) := by
  have hi : i < xs.length := by
    rcases Nat.lt_or_ge i xs.length with z | z
    · exact z
    · rw [List.getElem?_eq_none z] at h; cases h
  rw [List.drop_eq_getElem_cons hi]
  rw [List.getElem?_eq_getElem hi] at h
  cases h
  rfl
section
variable {X : Cx} {io : List Nat} {pos : Pos} {tg iter c : Expr} {body : List Stmt} {f : DI} {gg : DG} {g : DS} {h : DE}
theorem ss_for (hp : PassesOwn (model X.prog X.w) X.A X.env X.xe) (hc : X.calm = true) (hi : SI X tg iter f) (hg : SG X io tg gg) (hb : SSs X io body g) (hs : ∀ x, foldedSetIterable iter X.env x = pure x := by intro _; rfl) :
    SS X io (.For tg iter body [] pos) (dFor f gg g) := ps_weak (ps_for hp hc hi hg hb hs) fun De σ H ⟨G, ρ, L, fl, h1, h2, h3, q⟩ => by
  unfold dFor at h3
  obtain ⟨⟨ds, ρ1⟩, e1, h3⟩ := Option.bind_eq_some_iff.mp h3
  dsimp only at h3
  refine ⟨G, ρ, L, ds, ρ1, h1, h2, e1, fun J G1 H1 L1 n W Y a1 b1 c1 w hn hw hy => ?_⟩
  subst hn
  refine for_it w (fun i σ2 H2 => ∃ G2 ρ2 L2, Sta G2 H2 L2 ∧ Stp G1 H1 L1 G2 H2 L2 ∧ Sl X.K G2 σ2 ρ2 L2 ∧ Kp io σ σ2 ∧ forL gg g (ds.drop i) ρ2 = some fl) ⟨G1, ρ1, L1, a1, .refl, c1, .refl, h3⟩
    (fun i σ2 H2 _ ⟨G2, ρ2, L2, a2, b2, _⟩ => hw H2 (b2.ex.trans a2.ex)) (fun i x σ2 H2 H3 hi ⟨G2, ρ2, L2, a2, b2, c2, k2, e2⟩ y => ?_) (fun σ2 H2 ⟨G2, ρ2, L2, a2, b2, c2, k2, e2⟩ => ?_)
  · obtain ⟨G3, d, a3, b3, d3, r3⟩ := hy i G2 H2 x H3 L2 hi a2 b2.ex y
    rw [drop_get d3, forL] at e2
    obtain ⟨ρ4, e4, e2⟩ := Option.bind_eq_some_iff.mp e2
    obtain ⟨fl5, e5, e2⟩ := Option.bind_eq_some_iff.mp e2
    refine ⟨G3, ρ2, L2, d, ρ4, a3, c2.mono b3.ex, r3, e4, fun σ4 L4 a4 b4 c4 k4 => ⟨G3, ρ4, L4, fl5, a4, c4, e5, ?_⟩⟩
    have st := (b2.trans b3).trans b4
    cases fl5 with
    | nx ρ5 => exact fun σ' G' H' L' a b c d => ⟨G', ρ5, L', a, st.trans b, c, (k2.trans k4).trans d, e2⟩
    | ct ρ5 => exact fun σ' G' H' L' a b c d => ⟨G', ρ5, L', a, st.trans b, c, (k2.trans k4).trans d, e2⟩
    | bk ρ5 =>
      cases e2
      exact fun σ' G' H' L' a b c d => q σ' G' H' L' a ((b1.trans st).trans b) c ((k2.trans k4).trans d)
    | rt d5 ρ5 =>
      cases e2
      exact fun v σ' G' H' M L' a b c d o => q v σ' G' H' M L' a ((b1.trans st).trans b) c ((k2.trans k4).trans d) o
  · rw [List.drop_length, forL] at e2
    cases e2
    exact q σ2 G2 H2 L2 a2 (b1.trans b2) c2 k2
/-- while: at most n turns -/
def whileN (h : DE) (b : DS) : Nat → Ev → Option Fl
  | 0, _ => none
  | n + 1, ρ => (h ρ).bind fun p => match p.1 with
    | .bl true => (b p.2).bind fun fl => match fl with
      | .nx ρ2 => whileN h b n ρ2
      | .ct ρ2 => whileN h b n ρ2
      | .bk ρ2 => some (.nx ρ2)
      | .rt d ρ2 => some (.rt d ρ2)
    | .bl false => some (.nx p.2)
    | _ => none
def dWhile (n : Ev → Nat) (h : DE) (b : DS) : DS := fun ρ => whileN h b (n ρ) ρ
theorem ss_while (n : Ev → Nat) (hp : PassesOwn (model X.prog X.w) X.A X.env X.xe) (hc : ST X c h) (hb : SSs X io body g) : SS X io (.While c body [] pos) (dWhile n h g) :=
  ps_weak (ps_while hp hc hb) fun De σ H ⟨G, ρ, L, fl, h1, h2, h3, q⟩ => by
    unfold dWhile at h3
    refine ⟨fun m σ2 H2 => ∃ G2 ρ2 L2, Sta G2 H2 L2 ∧ Stp G H L G2 H2 L2 ∧ Sl X.K G2 σ2 ρ2 L2 ∧ Kp io σ σ2 ∧ whileN h g m ρ2 = some fl, ⟨_, G, ρ, L, h1, .refl, h2, .refl, h3⟩, fun m σ2 H2 ⟨G2, ρ2, L2, a2, b2, c2, k2, e2⟩ => ?_⟩
    cases m with
    | zero => cases e2
    | succ m =>
      rw [whileN] at e2
      obtain ⟨⟨d3, ρ3⟩, e3, e2⟩ := Option.bind_eq_some_iff.mp e2
      dsimp only at e2
      split at e2
      · refine ⟨G2, ρ2, L2, true, ρ3, a2, c2, e3, fun G3 H3 L3 a3 b3 c3 => ?_⟩
        dsimp only
        rw [if_pos rfl]
        obtain ⟨fl5, e5, e2⟩ := Option.bind_eq_some_iff.mp e2
        refine ⟨fun σ' H' => ∃ G' ρ' L', Sta G' H' L' ∧ Stp G H L G' H' L' ∧ Sl X.K G' σ' ρ' L' ∧ Kp io σ σ' ∧ whileN h g m ρ' = some fl, fun σ' H' z => ⟨m, Nat.lt_succ_self m, z⟩, G3, ρ3, L3, fl5, a3, c3, e5, ?_⟩
        have st := b2.trans b3
        cases fl5 with
        | nx ρ5 => exact fun σ' G' H' L' a b c d => ⟨G', ρ5, L', a, st.trans b, c, k2.trans d, e2⟩
        | ct ρ5 => exact fun σ' G' H' L' a b c d => ⟨G', ρ5, L', a, st.trans b, c, k2.trans d, e2⟩
        | bk ρ5 =>
          cases e2
          exact fun σ' G' H' L' a b c d => q σ' G' H' L' a (st.trans b) c (k2.trans d)
        | rt d5 ρ5 =>
          cases e2
          exact fun v σ' G' H' M L' a b c d o => q v σ' G' H' M L' a (st.trans b) c (k2.trans d) o
      · cases e2
        refine ⟨G2, ρ2, L2, false, _, a2, c2, e3, fun G3 H3 L3 a3 b3 c3 => ?_⟩
        dsimp only
        rw [if_neg Bool.false_ne_true]
        exact q σ2 G3 H3 L3 a3 (b2.trans b3) c3 k2
      · cases e2
end

/-! ### walks -/
def iLst (f : DE) : DI := fun ρ => (f ρ).bind fun p => match p.1 with | .lst ds => some (ds, p.2) | _ => none
def iTpl (f : DE) : DI := fun ρ => (f ρ).bind fun p => match p.1 with | .tup ds => some (ds, p.2) | _ => none
def rng (lo : Int) (n : Nat) : List D := (List.range n).map fun i : Nat => D.int (lo + (i : Int))
def R62 (i : Int) : Prop := -(2 ^ 62) ≤ i ∧ i < 2 ^ 62
instance (i : Int) : Decidable (R62 i) := inferInstanceAs (Decidable (_ ∧ _))
def iRg1 (f : DE) : DI := fun ρ => (f ρ).bind fun p => match p.1 with | .int j => if R62 j then some (rng 0 j.toNat, p.2) else none | _ => none
def iRg2 (f g : DE) : DI := fun ρ => (f ρ).bind fun p => (g p.2).bind fun q => match p.1, q.1 with | .int i, .int j => if R62 i ∧ R62 j then some (rng i (j - i).toNat, q.2) else none | _, _ => none
def enumD : Nat → List D → List D
  | _, [] => []
  | k, d :: ds => .tup [.int k, d] :: enumD (k + 1) ds
def zipD : List D → List D → List D
  | a :: as, b :: bs => .tup [a, b] :: zipD as bs
  | _, _ => []
def iEnm (f : DE) : DI := fun ρ => (f ρ).bind fun p => match p.1 with | .lst ds => some (enumD 0 ds, p.2) | _ => none
def iZp (f g : DE) : DI := fun ρ => (f ρ).bind fun p => (g p.2).bind fun q => match p.1, q.1 with
  | .lst as, .lst bs => some (zipD as bs, q.2)
  | .tup as, .tup bs => some (zipD as bs, q.2)
  | _, _ => none
def iRvs (f : DE) : DI := fun ρ => (f ρ).bind fun p => match p.1 with | .lst ds => some (ds.reverse, p.2) | _ => none
theorem enumD_get : ∀ (ds : List D) (k i : Nat), (enumD k ds)[i]? = ds[i]?.map fun d => .tup [.int ((k + i : Nat) : Int), d]
  | [], _, _ => by simp [enumD]
  | d :: ds, k, 0 => by simp [enumD]
  | d :: ds, k, i + 1 => by
    rw [enumD, List.getElem?_cons_succ, List.getElem?_cons_succ, enumD_get ds (k + 1) i]
    have e : k + 1 + i = k + (i + 1) := by omega
    rw [e]
theorem enumD_len : ∀ (ds : List D) (k : Nat), (enumD k ds).length = ds.length
  | [], _ => rfl
  | d :: ds, k => by rw [enumD, List.length_cons, List.length_cons, enumD_len ds]
theorem zipD_get : ∀ (as bs : List D) (i : Nat) (a b : D), as[i]? = some a → bs[i]? = some b → (zipD as bs)[i]? = some (.tup [a, b])
  | [], _, _, _, _, h, _ => by simp at h
  | _ :: _, [], _, _, _, _, h => by simp at h
  | x :: as, y :: bs, 0, a, b, h, h' => by
    simp at h h'
    subst h h'
    rfl
  | x :: as, y :: bs, i + 1, a, b, h, h' => zipD_get as bs i a b (by simpa using h) (by simpa using h')
theorem zipD_len : ∀ (as bs : List D), (zipD as bs).length = min as.length bs.length
  | [], bs => by simp [zipD]
  | a :: as, [] => by simp [zipD]
  | a :: as, b :: bs => by rw [zipD, List.length_cons, zipD_len as bs, List.length_cons, List.length_cons]; omega
theorem rng_get {lo : Int} {n i : Nat} (h : i < n) : (rng lo n)[i]? = some (.int (lo + (i : Int))) := by
  unfold rng
  rw [List.getElem?_map, List.getElem?_range h]
  rfl
theorem rng_len {lo : Int} {n : Nat} : (rng lo n).length = n := by
  unfold rng
  rw [List.length_map, List.length_range]
section
variable {X : Cx} {tg iter a b : Expr} {f g : DE} {pos p : Pos}
theorem yAt {K : PySem.W.Frag} {G : Hp} {vs : List V} {ds : List D} (r : RepL K G vs ds) {i : Nat} {G2 H2 H3 : Hp} {x : V} {L2 : Fp} (s : Sta G2 H2 L2) (e : Ex G G2) (y : YAt vs i H2 x H3) :
    ∃ G3 d, Sta G3 H3 L2 ∧ Stp G2 H2 L2 G3 H3 L2 ∧ ds[i]? = some d ∧ Rep K G3 x d := by
  obtain ⟨rfl, y⟩ := y
  obtain ⟨d, e1, e2⟩ := r.getV y
  exact ⟨G2, d, s, .refl, e1, e2.mono e⟩
theorem si_list (he : SE X iter f) : SI X tg iter (iLst f) := pi_weak (pi_list he) fun σ H R ⟨G, ρ, L, ds, ρ', h1, h2, h3, q⟩ => by
  unfold iLst at h3
  obtain ⟨⟨d1, ρ1⟩, e1, h3⟩ := Option.bind_eq_some_iff.mp h3
  dsimp only at h3
  split at h3
  · cases h3
    refine ⟨G, ρ, L, _, _, h1, h2, e1, fun v G' H' L' a b c r => ?_⟩
    cases r with
    | lst hs hr =>
      refine ⟨_, rfl, ⟨_, a.ex.sqL (sqL_of hs)⟩, ?_⟩
      exact q _ G' H' L' _ _ _ a b c walk_list hr.length (fun H2 e => e.sqL (sqL_of hs)) fun i G2 H2 x H3 L2 _ s e y => yAt hr s e y
  · cases h3
theorem si_tup (he : SE X iter f) : SI X tg iter (iTpl f) := pi_weak (pi_tup he) fun σ H R ⟨G, ρ, L, ds, ρ', h1, h2, h3, q⟩ => by
  unfold iTpl at h3
  obtain ⟨⟨d1, ρ1⟩, e1, h3⟩ := Option.bind_eq_some_iff.mp h3
  dsimp only at h3
  split at h3
  · cases h3
    refine ⟨G, ρ, L, _, _, h1, h2, e1, fun v G' H' L' a b c r => ?_⟩
    cases r with
    | tup hs hr =>
      refine ⟨_, rfl, ⟨_, a.ex.sqT hs⟩, ?_⟩
      exact q _ G' H' L' _ _ _ a b c walk_tup hr.length (fun H2 e => e.sqT hs) fun i G2 H2 x H3 L2 _ s e y => yAt hr s e y
  · cases h3
theorem si_rg1 (hm : X.mg "range" = none) (ha : SA X [a] (dCons f dNil)) (hg : Gl X "range" := by rfl) (hs : starEach [a] X.env = [(false, eval a X.env)] := by rfl) : SI X tg (.Call (.Name "range" p) [a] [] pos) (iRg1 f) :=
  pi_weak (pi_range1 hg hm ha hs) fun σ H R ⟨G, ρ, L, ds, ρ', h1, h2, h3, q⟩ => by
    unfold iRg1 at h3
    obtain ⟨⟨d1, ρ1⟩, e1, h3⟩ := Option.bind_eq_some_iff.mp h3
    dsimp only at h3
    split at h3
    · split at h3
      · rename_i hr
        cases h3
        refine ⟨G, ρ, L, _, _, h1, h2, (show dCons f dNil ρ = some _ by unfold dCons; rw [e1]; rfl), fun vs G' H' L' a b c r => ?_⟩
        cases r with
        | cons r1 r =>
          cases r
          cases r1
          refine ⟨_, rfl, hr.1, hr.2, ?_⟩
          refine q _ G' H' L' _ _ _ a b c walk_range rng_len.symm (fun _ _ => trivial) fun i G2 H2 x H3 L2 hi s e y => ?_
          obtain ⟨rfl, rfl⟩ := y
          exact ⟨G2, _, s, .refl, rng_get hi, .int _⟩
      · cases h3
    · cases h3
theorem si_rg2 (hm : X.mg "range" = none) (ha : SA X [a, b] (dCons f (dCons g dNil))) (hg : Gl X "range" := by rfl) (hs : starEach [a, b] X.env = [(false, eval a X.env), (false, eval b X.env)] := by rfl) (hs2 : starEach [b] X.env = [(false, eval b X.env)] := by rfl) :
    SI X tg (.Call (.Name "range" p) [a, b] [] pos) (iRg2 f g) :=
  pi_weak (pi_range2 hg hm ha hs hs2) fun σ H R ⟨G, ρ, L, ds, ρ', h1, h2, h3, q⟩ => by
    unfold iRg2 at h3
    obtain ⟨⟨d1, ρ1⟩, e1, h3⟩ := Option.bind_eq_some_iff.mp h3
    obtain ⟨⟨d2, ρ2⟩, e2, h3⟩ := Option.bind_eq_some_iff.mp h3
    dsimp only at h3 e2
    split at h3
    · split at h3
      · rename_i hr
        cases h3
        refine ⟨G, ρ, L, _, _, h1, h2, (show dCons f (dCons g dNil) ρ = some _ by unfold dCons; rw [e1]; show ((g ρ1).bind _).bind _ = _; rw [e2]; rfl), fun vs G' H' L' a b c r => ?_⟩
        cases r with
        | cons r1 r =>
          cases r with
          | cons r2 r =>
            cases r
            cases r1
            cases r2
            refine ⟨_, _, rfl, ⟨hr.1.1, hr.1.2, hr.2.1, hr.2.2⟩, ?_⟩
            refine q _ G' H' L' _ _ _ a b c walk_range rng_len.symm (fun _ _ => trivial) fun i G2 H2 x H3 L2 hi s e y => ?_
            obtain ⟨rfl, rfl⟩ := y
            exact ⟨G2, _, s, .refl, rng_get hi, .int _⟩
      · cases h3
    · cases h3
theorem yPair {K : PySem.W.Frag} {xs ys : Nat → Option V} {i : Nat} {G2 H2 H3 : Hp} {x : V} {L2 : Fp} {a b : D} (s : Sta G2 H2 L2) (y : YPair xs ys i H2 x H3) (h1 : ∀ u, xs i = some u → Rep K G2 u a) (h2 : ∀ u, ys i = some u → Rep K G2 u b) :
    ∃ G3, Sta G3 H3 L2 ∧ Stp G2 H2 L2 G3 H3 L2 ∧ Rep K G3 x (.tup [a, b]) := by
  obtain ⟨T, u, w, rfl, nT, rfl, e1, e2⟩ := y
  obtain ⟨z1, z2, z3⟩ := s.new (.tup [u, w]) nT
  exact ⟨_, z1, z2, .tup (sqT_of upd_same) (.cons ((h1 u e1).mono z3) (.cons ((h2 w e2).mono z3) .nil))⟩
theorem si_enum {tpos : Pos} {elts : List Expr} {kk : Nat} (hm : X.mg "enumerate" = none) (ha : SA X [a] (dCons f dNil)) (hg : Gl X "enumerate" := by rfl) (hs : starEach [a] X.env = [(false, eval a X.env)] := by rfl) :
    SI X (.Tuple elts kk tpos) (.Call (.Name "enumerate" p) [a] [] pos) (iEnm f) :=
  pi_weak (pi_enum hg hm ha hs) fun σ H R ⟨G, ρ, L, ds, ρ', h1, h2, h3, q⟩ => by
    unfold iEnm at h3
    obtain ⟨⟨d1, ρ1⟩, e1, h3⟩ := Option.bind_eq_some_iff.mp h3
    dsimp only at h3
    split at h3
    · rename_i ds0
      cases h3
      refine ⟨G, ρ, L, _, _, h1, h2, (show dCons f dNil ρ = some _ by unfold dCons; rw [e1]; rfl), fun vs G' H' L' a b c r => ?_⟩
      cases r with
      | cons r1 r =>
        cases r
        cases r1 with
        | lst hs hr =>
          refine ⟨_, _, rfl, a.ex.sqL (sqL_of hs), ?_⟩
          refine q _ G' H' L' _ _ _ a b c walk_enum (by rw [enumD_len]; exact hr.length) (fun H2 e => e.sqL (sqL_of hs)) fun i G2 H2 x H3 L2 hi s e y => ?_
          have hi' : i < ds0.length := by rw [← hr.length]; exact hi
          obtain ⟨G3, z1, z2, z3⟩ := yPair (K := X.K) (a := .int ((0 + i : Nat) : Int)) (b := ds0[i]) s y (fun u hu => by cases hu; rw [Nat.zero_add]; exact .int _) (fun u hu => by
            obtain ⟨d, q1, q2⟩ := hr.getV hu
            rw [List.getElem?_eq_getElem hi'] at q1
            cases q1
            exact q2.mono e)
          exact ⟨G3, _, z1, z2, by rw [enumD_get, List.getElem?_eq_getElem hi']; rfl, z3⟩
    · cases h3
theorem walk_zipT {K : PySem.W.Frag} {a b : Addr} {xs ys : List V} {n : Nat} (hn : n = min xs.length ys.length) : Walk (ItzT K a b) n (fun H => SqT K H a xs ∧ SqT K H b ys) (YPair (fun i => xs[i]?) (fun i => ys[i]?)) := by
  subst hn
  refine ⟨fun i _ hi q => ?_, fun _ q => ⟨xs, ys, q.1, q.2, by omega⟩, fun i H v H' _ q y => ?_⟩
  · have h1 : i < xs.length := by omega
    have h2 : i < ys.length := by omega
    exact ⟨xs, ys, xs[i], ys[i], q.1, q.2, by simp [h1], by simp [h2]⟩
  · obtain ⟨T, x, z, h1, h2, h3, h4, h5⟩ := y
    exact ⟨T, x, z, h1, h2, h3, h4 xs q.1, h5 ys q.2⟩
theorem yZip {K : PySem.W.Frag} {G : Hp} {us vs : List V} {as bs : List D} (r : RepL K G us as) (r' : RepL K G vs bs) {i n : Nat} (hn : n = min us.length vs.length) (hi : i < n) {G2 H2 H3 : Hp} {x : V} {L2 : Fp} (s : Sta G2 H2 L2) (e : Ex G G2)
    (y : YPair (fun i => us[i]?) (fun i => vs[i]?) i H2 x H3) : ∃ G3 d, Sta G3 H3 L2 ∧ Stp G2 H2 L2 G3 H3 L2 ∧ (zipD as bs)[i]? = some d ∧ Rep K G3 x d := by
  have l1 := r.length
  have l2 := r'.length
  have h1 : i < as.length := by omega
  have h2 : i < bs.length := by omega
  obtain ⟨G3, z1, z2, z3⟩ := yPair (K := K) (a := as[i]) (b := bs[i]) s y (fun u hu => by
    obtain ⟨d, q1, q2⟩ := r.getV hu
    rw [List.getElem?_eq_getElem h1] at q1
    cases q1
    exact q2.mono e) (fun u hu => by
    obtain ⟨d, q1, q2⟩ := r'.getV hu
    rw [List.getElem?_eq_getElem h2] at q1
    cases q1
    exact q2.mono e)
  exact ⟨G3, _, z1, z2, zipD_get as bs i _ _ (List.getElem?_eq_getElem h1) (List.getElem?_eq_getElem h2), z3⟩
theorem si_zip {tpos : Pos} {elts : List Expr} {kk : Nat} (hm : X.mg "zip" = none) (ha : SA X [a, b] (dCons f (dCons g dNil))) (hg : Gl X "zip" := by rfl) (hs : starEach [a, b] X.env = (false, eval a X.env) :: starEach [b] X.env := by rfl) (hpl : (backTo pos (starEach [b] X.env)).any (·.1) = false := by rfl) :
    SI X (.Tuple elts kk tpos) (.Call (.Name "zip" p) [a, b] [] pos) (iZp f g) :=
  pi_weak (pi_zipA hg hm ha hs hpl) fun σ H R ⟨G, ρ, L, ds, ρ', h1, h2, h3, q⟩ => by
    unfold iZp at h3
    obtain ⟨⟨d1, ρ1⟩, e1, h3⟩ := Option.bind_eq_some_iff.mp h3
    obtain ⟨⟨d2, ρ2⟩, e2, h3⟩ := Option.bind_eq_some_iff.mp h3
    dsimp only at h3 e2
    refine ⟨G, ρ, L, [d1, d2], ρ2, h1, h2, (show dCons f (dCons g dNil) ρ = some _ by unfold dCons; rw [e1]; show ((g ρ1).bind _).bind _ = _; rw [e2]; rfl), fun vs G' H' L' a b c r => ?_⟩
    cases r with
    | cons r1 r =>
      cases r with
      | cons r2 r =>
        cases r
        split at h3
        · cases h3
          cases r1 with
          | lst hs hr =>
            cases r2 with
            | lst hs' hr' =>
              refine ⟨_, _, _, _, rfl, .inl ⟨a.ex.sqL (sqL_of hs), a.ex.sqL (sqL_of hs'), ?_⟩⟩
              exact q _ G' H' L' _ _ _ a b c (walk_zip rfl) (by rw [zipD_len, hr.length, hr'.length]) (fun H2 e => ⟨e.sqL (sqL_of hs), e.sqL (sqL_of hs')⟩) fun i G2 H2 x H3 L2 hi s e y => yZip hr hr' rfl hi s e y
        · cases h3
          cases r1 with
          | tup hs hr =>
            cases r2 with
            | tup hs' hr' =>
              refine ⟨_, _, _, _, rfl, .inr ⟨a.ex.sqT hs, a.ex.sqT hs', ?_⟩⟩
              exact q _ G' H' L' _ _ _ a b c (walk_zipT rfl) (by rw [zipD_len, hr.length, hr'.length]) (fun H2 e => ⟨e.sqT hs, e.sqT hs'⟩) fun i G2 H2 x H3 L2 hi s e y => yZip hr hr' rfl hi s e y
        · cases h3
theorem si_rev (hm : X.mg "reversed" = none) (ha : SA X [a] (dCons f dNil)) (hg : Gl X "reversed" := by rfl) (hs : starEach [a] X.env = [(false, eval a X.env)] := by rfl) : SI X tg (.Call (.Name "reversed" p) [a] [] pos) (iRvs f) :=
  pi_weak (pi_reversed hg hm ha hs) fun σ H R ⟨G, ρ, L, ds, ρ', h1, h2, h3, q⟩ => by
    unfold iRvs at h3
    obtain ⟨⟨d1, ρ1⟩, e1, h3⟩ := Option.bind_eq_some_iff.mp h3
    dsimp only at h3
    split at h3
    · rename_i ds0
      cases h3
      refine ⟨G, ρ, L, _, _, h1, h2, (show dCons f dNil ρ = some _ by unfold dCons; rw [e1]; rfl), fun vs G' H' L' a b c r => ?_⟩
      cases r with
      | cons r1 r =>
        cases r
        cases r1 with
        | lst hs hr =>
          refine ⟨_, _, rfl, a.ex.sqL (sqL_of hs), ?_⟩
          refine q _ G' H' L' _ _ _ a b c walk_rev (by rw [List.length_reverse]; exact hr.length) (fun H2 e => e.sqL (sqL_of hs)) fun i G2 H2 x H3 L2 hi s e y => ?_
          obtain ⟨rfl, y⟩ := y
          obtain ⟨d, q1, q2⟩ := hr.getV y
          refine ⟨G2, d, s, .refl, ?_, q2.mono e⟩
          have hl := hr.length
          rw [List.getElem?_reverse (by omega), ← hl]
          exact q1
    · cases h3
end
end Pd

namespace Pd
open PySem PySem.Spec PyProof.Rows L2

/-! ### comprehensions -/
def wipeE : List Nat → Ev → Ev
  | [], ρ => ρ
  | v :: vs, ρ => (wipeE vs ρ).set v none
def restE (ρ0 : Ev) : List Nat → Ev → Ev
  | [], ρ => ρ
  | v :: vs, ρ => (restE ρ0 vs ρ).set v (ρ0.getD v none)
def restS (σ0 : L2.St) : List Nat → L2.St → L2.St
  | [], σ => σ
  | v :: vs, σ => (restS σ0 vs σ).set v (σ0.getD v none)
def okV (vs : List Nat) (ρ : Ev) : Bool := vs.all fun v => match ρ[v]? with | some (some d) => d.pu | _ => true
def compL (g : DG) (c e : DE) (vs : List Nat) : List D → Ev → Option (List D × Ev)
  | [], ρ => some ([], ρ)
  | d :: ds, ρ => (g d ρ).bind fun ρ1 => (c ρ1).bind fun p => match p.1 with
    | .bl true => (e p.2).bind fun q => (compL g c e vs ds (wipeE vs q.2)).bind fun r => some (q.1 :: r.1, r.2)
    | .bl false => compL g c e vs ds (wipeE vs p.2)
    | _ => none
def dComp (it : DI) (g : DG) (c e : DE) (vs : List Nat) : DE := fun ρ => (it ρ).bind fun p => if okV vs p.2 = true then
    (compL g c e vs p.1 (wipeE vs p.2)).bind fun r => if r.1.length ≤ 1000000 then some (.own r.1, restE p.2 vs r.2) else none
  else none
/-- all slots but these -/
def but (n : Nat) (vs : List Nat) : List Nat := (List.range n).filter fun i => !vs.contains i
def dYes : DE := fun ρ => some (.bl true, ρ)
theorem sl_wipe {K : PySem.W.Frag} {G : Hp} : ∀ {σ : L2.St} {ρ : Ev} {L : Fp} (vs : List Nat), Sl K G σ ρ L → ∃ M R, L.Perm (M ++ R) ∧ Sl K G (wipe σ vs) (wipeE vs ρ) R
  | _, _, _, [], h => ⟨[], _, .refl _, h⟩
  | _, _, L, v :: vs, h => by
    obtain ⟨M, R, q1, q2⟩ := sl_wipe vs h
    obtain ⟨M', R', q3, q4⟩ := q2.drop v none
    exact ⟨M ++ M', R', q1.trans (by rw [List.append_assoc]; exact q3.append_left M), q4⟩
theorem restS_get (σ0 : L2.St) (j : Nat) : ∀ (vs : List Nat) (σ : L2.St), σ.length = σ0.length → (restS σ0 vs σ).length = σ0.length ∧ (restS σ0 vs σ)[j]? = if j ∈ vs then σ0[j]? else σ[j]?
  | [], σ, h => ⟨h, by simp [restS]⟩
  | v :: vs, σ, h => by
    obtain ⟨l, q⟩ := restS_get σ0 j vs σ h
    rw [restS]
    refine ⟨by rw [List.length_set]; exact l, ?_⟩
    rw [List.getElem?_set]
    by_cases e : v = j
    · subst e
      rw [if_pos rfl, if_pos List.mem_cons_self]
      by_cases hv : v < σ0.length
      · rw [if_pos (by rw [l]; exact hv), List.getD_eq_getElem?_getD, List.getElem?_eq_getElem hv]; rfl
      · rw [if_neg (by rw [l]; exact hv), List.getElem?_eq_none (by omega)]
    · rw [if_neg e, q]
      by_cases hm : j ∈ vs
      · rw [if_pos hm, if_pos (List.mem_cons_of_mem _ hm)]
      · rw [if_neg hm, if_neg]
        intro z
        rcases List.mem_cons.mp z with z | z
        · exact e z.symm
        · exact hm z
theorem restS_wipe (σ : L2.St) (vs : List Nat) : restS σ vs (wipe σ vs) = σ := by
  apply List.ext_getElem?
  intro j
  rw [(restS_get σ j vs _ (wipe_length σ vs)).2]
  by_cases h : j ∈ vs
  · rw [if_pos h]
  · rw [if_neg h, wipe_out h]
theorem wipe_eq {σ σ' : L2.St} {vs : List Nat} (k : Kp (but σ.length vs) (wipe σ vs) σ') : wipe σ' vs = wipe σ vs := by
  apply List.ext_getElem?
  intro j
  have l : σ'.length = σ.length := by rw [k.1, wipe_length]
  by_cases h : j ∈ vs
  · have key : ∀ (τ : L2.St) (us : List Nat), j ∈ us → (wipe τ us)[j]? = if j < τ.length then some none else none := by
      intro τ us
      induction us with
      | nil => intro z; cases z
      | cons u us ih =>
        intro z
        show ((wipe τ us).set u none)[j]? = _
        rw [List.getElem?_set, wipe_length]
        by_cases e : u = j
        · subst e; rw [if_pos rfl]
        · rw [if_neg e]
          exact ih ((List.mem_cons.mp z).resolve_left fun q => e q.symm)
    rw [key σ' vs h, key σ vs h, l]
  · rw [wipe_out h, wipe_out h]
    by_cases hj : j < σ.length
    · have m : j ∈ but σ.length vs := by
        unfold but
        rw [List.mem_filter]
        refine ⟨List.mem_range.mpr hj, ?_⟩
        rw [List.contains_eq_mem, decide_eq_false h]
        rfl
      rw [k.2 j m, wipe_out h]
    · rw [List.getElem?_eq_none (by omega), List.getElem?_eq_none (by omega)]
/-- the slots of the block's own names get back what they held -/
theorem sl_rest {K : PySem.W.Frag} {G0 G : Hp} {σ0 : L2.St} {ρ0 : Ev} {L0 : Fp} (h0 : Sl K G0 σ0 ρ0 L0) (e : Ex G0 G) : ∀ (vs : List Nat) {σ : L2.St} {ρ : Ev} {L : Fp}, okV vs ρ0 = true → Sl K G σ ρ L → ρ.length = ρ0.length →
    ∃ M R, L.Perm (M ++ R) ∧ Sl K G (restS σ0 vs σ) (restE ρ0 vs ρ) R ∧ (restE ρ0 vs ρ).length = ρ0.length
  | [], _, _, L, _, h, hl => ⟨[], L, .refl _, h, hl⟩
  | v :: vs, σ, ρ, L, ok, h, hl => by
    unfold okV at ok
    rw [List.all_cons, Bool.and_eq_true] at ok
    obtain ⟨M, R, q1, q2, q3⟩ := sl_rest h0 e vs ok.2 h hl
    rw [restS, restE]
    cases hv : ρ0[v]? with
    | none =>
      have e1 : ρ0.getD v none = none := by rw [List.getD_eq_getElem?_getD, hv]; rfl
      rw [e1]
      obtain ⟨M', R', q4, q5⟩ := q2.drop v (σ0.getD v none)
      exact ⟨M ++ M', R', q1.trans (by rw [List.append_assoc]; exact q4.append_left M), q5, by rw [List.length_set]; exact q3⟩
    | some z =>
      have e1 : ρ0.getD v none = z := by rw [List.getD_eq_getElem?_getD, hv]; rfl
      rw [e1]
      cases z with
      | none =>
        obtain ⟨M', R', q4, q5⟩ := q2.drop v (σ0.getD v none)
        exact ⟨M ++ M', R', q1.trans (by rw [List.append_assoc]; exact q4.append_left M), q5, by rw [List.length_set]; exact q3⟩
      | some d =>
        have hp : d.pu = true := by
          have := ok.1
          rw [hv] at this
          exact this
        obtain ⟨x, M1, R1, s1, s2, _⟩ := h0.at hv
        have rp := (s2.rep hp).1
        have e2 : σ0.getD v none = some x := by rw [List.getD_eq_getElem?_getD, s1]; rfl
        rw [e2]
        have hlt : v < (restE ρ0 vs ρ).length := by
          rw [q3]
          rcases Nat.lt_or_ge v ρ0.length with z | z
          · exact z
          · rw [List.getElem?_eq_none z] at hv; cases hv
        obtain ⟨L', R', p1, p2, M', p3⟩ := q2.put (M' := []) hlt (Ex.refl G) (.pure (rp.mono e))
        refine ⟨M ++ M', L', q1.trans ?_, p1, by rw [List.length_set]; exact q3⟩
        rw [List.append_assoc]
        exact (p3.append_left M).trans ((p2.symm.append_left M').append_left M)
section
variable {X : Cx} {elt tg iter : Expr} {ifs : List Expr} {scope : Scope} {own : List (Str × Nat)} {pos : Pos} {it : DI} {gg : DG} {c e : DE}
def SIf (X : Cx) (ifs : List Expr) (c : DE) : Prop := PTs X ifs (tT X.K c)
theorem sif_nil : SIf X [] dYes := ⟨fun pins s σ H Q I ⟨G, ρ, L, b, ρ', h1, h2, h3, q⟩ => by
  cases h3
  exact pts_nil.run pins s σ H Q I (q G H L h1 .refl h2)⟩
theorem sif_one {t : Expr} (h : ST X t c) : SIf X [t] c := pts_one h
/-- the reading of a comprehension -/
theorem tN_comp {n : Nat} (hn : X.N.length = n) {σ : L2.St} {H : Hp} {Q : VK} (hl : σ.length = n) (vs : List Nat) (hq : tN X.K (dComp it gg c e vs) σ H Q) :
    tLc (tI X.K it) (tG X.K (but n vs) gg) (tT X.K c) (tE X.K e) vs σ H Q := by
  obtain ⟨G, ρ, L, d, ρ', h1, h2, h3, q⟩ := hq
  unfold dComp at h3
  obtain ⟨⟨ds, ρ1⟩, e1, h3⟩ := Option.bind_eq_some_iff.mp h3
  dsimp only at h3
  split at h3
  · rename_i ok
    obtain ⟨⟨ys, ρ2⟩, e2, h3⟩ := Option.bind_eq_some_iff.mp h3
    dsimp only at h3
    split at h3
    · rename_i hz
      cases h3
      refine ⟨G, ρ, L, ds, ρ1, h1, h2, e1, fun J G1 H1 L1 m W Y a1 b1 c1 w hm hw hy => fun D hD => ?_⟩
      subst hm
      obtain ⟨z1, z2⟩ := a1.newOwn (.lst []) hD
      obtain ⟨M0, R0, w1, w2⟩ := sl_wipe vs c1
      have z1' : Sta G1 (upd H1 D (.lst [])) ((D, .lst []) :: R0) := (z1.perm ((w1.cons (D, .lst [])).trans (List.perm_middle.symm))).left
      have z2' : Stp G1 H1 L1 G1 (upd H1 D (.lst [])) ((D, .lst []) :: R0) := (z2.permR ((w1.cons (D, .lst [])).trans (List.perm_middle.symm))).less
      refine lc_it w (fun i H2 => ∃ G2 ρ3 L2 accV accD rest, Sta G2 H2 ((D, .lst accV) :: L2) ∧ Stp G1 H1 L1 G2 H2 ((D, .lst accV) :: L2) ∧ Sl X.K G2 (wipe σ vs) ρ3 L2 ∧ RepL X.K G2 accV accD ∧ compL gg c e vs (ds.drop i) ρ3 = some (rest, ρ2) ∧ accD ++ rest = ys)
        ⟨G1, _, R0, [], [], ys, z1', z2', w2, .nil, e2, rfl⟩ (fun i H2 _ ⟨G2, ρ3, L2, accV, accD, rest, a2, b2, _⟩ => hw H2 (b2.ex.trans a2.ex)) (fun i x H2 H3 hi ⟨G2, ρ3, L2, accV, accD, rest, a2, b2, c2, r2, e3, e4⟩ y => ?_)
        (fun H2 ⟨G2, ρ3, L2, accV, accD, rest, a2, b2, c2, r2, e3, e4⟩ => ?_)
      · obtain ⟨G3, d, a3, b3, d3, r3⟩ := hy i G2 H2 x H3 _ hi a2 b2.ex y
        rw [drop_get d3, compL] at e3
        obtain ⟨ρ4, e5, e3⟩ := Option.bind_eq_some_iff.mp e3
        obtain ⟨⟨d6, ρ6⟩, e6, e3⟩ := Option.bind_eq_some_iff.mp e3
        dsimp only at e3
        have a3' : Sta G3 H3 L2 := Sta.left (M := [(D, .lst accV)]) a3
        refine ⟨G3, ρ3, L2, d, ρ4, a3', c2.mono b3.ex, r3, e5, fun σ4 L4 a4 b4 c4 k4 => ⟨wipe_eq (by rw [hl]; exact k4), ?_⟩⟩
        have hD3 : H3 D = some (.lst accV) := a3.hold D _ List.mem_cons_self
        have gD3 : G3 D = none := a3.out D _ List.mem_cons_self
        have kD3 : ¬ key L2 D := fun ⟨us, z⟩ => by
          have nd := a3.nd
          rw [List.map_cons, List.nodup_cons] at nd
          exact nd.1 (List.mem_map.mpr ⟨_, z, rfl⟩)
        -- the new list through a step
        have fold : ∀ {G' H' : Hp} {L' : Fp}, Sta G' H' L' → Stp G3 H3 L2 G' H' L' → Sta G' H' ((D, .lst accV) :: L') ∧ Stp G3 H3 ((D, .lst accV) :: L2) G' H' ((D, .lst accV) :: L') := fun {G' H' L'} a b => by
          obtain ⟨p1, p2, p3⟩ := b.fr D _ hD3 gD3 kD3
          refine ⟨⟨a.ex, fun p us z => ?_, fun p us z => ?_, ?_⟩, ⟨b.ex, fun p o hp gp kp => ?_⟩⟩
          · rcases List.mem_cons.mp z with z | z
            · cases z; exact p1
            · exact a.hold p us z
          · rcases List.mem_cons.mp z with z | z
            · cases z; exact p2
            · exact a.out p us z
          · rw [List.map_cons, List.nodup_cons]
            refine ⟨fun z => ?_, a.nd⟩
            obtain ⟨⟨p, us⟩, y1, y2⟩ := List.mem_map.mp z
            have : p = D := y2
            subst this
            exact p3 ⟨us, y1⟩
          · obtain ⟨y1, y2, y3⟩ := b.fr p o hp gp fun z => kp (key_cons.mpr (.inr z))
            exact ⟨y1, y2, fun z => (key_cons.mp z).elim (fun z => kp (key_cons.mpr (.inl z))) y3⟩
        split at e3
        · obtain ⟨⟨d7, ρ7⟩, e7, e3⟩ := Option.bind_eq_some_iff.mp e3
          obtain ⟨⟨ys8, ρ8⟩, e8, e3⟩ := Option.bind_eq_some_iff.mp e3
          cases e3
          refine ⟨G3, ρ4, L4, true, ρ6, a4, c4, e6, fun G6 H6 L6 a6 b6 c6 => ?_⟩
          dsimp only
          rw [if_pos rfl]
          refine ⟨G6, ρ6, L6, d7, ρ7, a6, c6, e7, fun v G7 H7 L7 a7 b7 c7 r7 => ?_⟩
          obtain ⟨f1, f2⟩ := fold a7 ((b4.trans b6).trans b7)
          have hD7 : H7 D = some (.lst accV) := f1.hold D _ List.mem_cons_self
          have hacc : accV.length < sizeLine := by
            have l1 := r2.length
            have l2 : (accD ++ d7 :: ys8).length ≤ 1000000 := by rw [e4]; exact hz
            rw [List.length_append, List.length_cons] at l2
            have : sizeLine = 16777216 := sizeLine_eq
            omega
          obtain ⟨f3, f4⟩ := f1.change (.lst (accV ++ [v]))
          refine ⟨accV, hD7, hacc, ?_⟩
          obtain ⟨M9, R9, y1, y2⟩ := sl_wipe vs c7
          have wq : wipe σ4 vs = wipe σ vs := wipe_eq (by rw [hl]; exact k4)
          rw [wq] at y2
          refine ⟨G7, wipeE vs ρ7, R9, accV ++ [v], accD ++ [d7], ys8, ?_, ?_, y2, (r2.mono (b3.ex.trans f2.ex)).append (.cons r7 .nil), e8, by rw [List.append_assoc]; exact e4⟩
          · exact (f3.perm ((y1.cons _).trans List.perm_middle.symm)).left
          · exact ((((b2.trans b3).trans f2).trans f4).permR ((y1.cons _).trans List.perm_middle.symm)).less
        · refine ⟨G3, ρ4, L4, false, ρ6, a4, c4, e6, fun G6 H6 L6 a6 b6 c6 => ?_⟩
          dsimp only
          rw [if_neg Bool.false_ne_true]
          obtain ⟨f1, f2⟩ := fold a6 (b4.trans b6)
          obtain ⟨M9, R9, y1, y2⟩ := sl_wipe vs c6
          have wq : wipe σ4 vs = wipe σ vs := wipe_eq (by rw [hl]; exact k4)
          rw [wq] at y2
          refine ⟨G6, wipeE vs ρ6, R9, accV, accD, rest, ?_, ?_, y2, r2.mono (b3.ex.trans f2.ex), e3, e4⟩
          · exact (f1.perm ((y1.cons _).trans List.perm_middle.symm)).left
          · exact (((b2.trans b3).trans f2).permR ((y1.cons _).trans List.perm_middle.symm)).less
        · cases e3
      · rw [List.drop_length, compL] at e3
        cases e3
        rw [List.append_nil] at e4
        subst e4
        have lw : ρ2.length = ρ1.length := by rw [← c2.length, wipe_length, ← c1.length]
        obtain ⟨M9, R9, y1, y2, _⟩ := sl_rest c1 b2.ex vs ok c2 lw
        rw [restS_wipe] at y2
        have st1 : Sta G2 H2 ([(D, .lst accV)] ++ R9) := (a2.perm ((y1.cons _).trans List.perm_middle.symm)).left
        have st2 : Stp G1 H1 L1 G2 H2 ([(D, .lst accV)] ++ R9) := (b2.permR ((y1.cons _).trans List.perm_middle.symm)).less
        exact q _ G2 H2 [(D, .lst accV)] R9 st1 (b1.trans st2) y2 (.own r2.ownL)
    · cases h3
  · cases h3
end
/-- a reading may lean on the number of the slots -/
theorem pe_len {X : Cx} {e : Expr} {t t' : TE} (h : PE X e t) (w : ∀ σ H Q, σ.length = X.N.length → t' σ H Q → t σ H Q) : PE X e t' := ⟨fun pins s σ H Q I q => h.run pins s σ H Q I (w σ H Q I.len q)⟩
theorem ps_len {X : Cx} {e : Stmt} {t t' : TS} (h : PS X e t) (w : ∀ D σ H, σ.length = X.N.length → t' D σ H → t D σ H) : PS X e t' := ⟨fun pins s σ H D I q => h.run pins s σ H D I (w D σ H I.len q)⟩
abbrev ixs (own : List (Str × Nat)) : List Nat := own.map (·.2)
section
variable {X : Cx} {elt tg iter : Expr} {ifs : List Expr} {scope : Scope} {pos : Pos} {it : DI} {gg : DG} {c e : DE}
theorem sn_lc (own : List (Str × Nat)) (n : Nat) (hn : X.N.length = n) (hc : X.calm = true) (hN : X.N.Nodup) (hi : SI X tg iter it) (ok : BlkOk X.N X.env.scope scope own)
    (hg : ∀ (s : Shared) (H : Hp) (C : Addr) (cl : List (Str × Addr)) (fp : List Addr), SG (X.blk s H scope (compEnvC scope cl C X.env) fp) (but n (ixs own)) tg gg)
    (ht : ∀ (s : Shared) (H : Hp) (C : Addr) (cl : List (Str × Addr)) (fp : List Addr), SIf (X.blk s H scope (compEnvC scope cl C X.env) fp) ifs c)
    (he : ∀ (s : Shared) (H : Hp) (C : Addr) (cl : List (Str × Addr)) (fp : List Addr), SE (X.blk s H scope (compEnvC scope cl C X.env) fp) elt e) (hs : ∀ x, foldedSetIterable iter X.env x = pure x := by intro _; rfl) :
    SN X (.ListComp elt [⟨tg, iter, ifs, 0⟩] scope pos) (dComp it gg c e (ixs own)) :=
  pe_len (pe_lc (g := tG X.K (but n (ixs own)) gg) (tt := tT X.K c) (te := tE X.K e) hc hN hi ok hg ht he hs) fun σ H Q hl => tN_comp hn (by rw [hl, hn]) _
theorem ss_setLc (i : Nat) {io : List Nat} {y : Str} {py spos : Pos} (own : List (Str × Nat)) (n : Nat) (hn : X.N.length = n) (hc : X.calm = true) (hN : X.N.Nodup) (hy : X.N[i]? = some y) (hyl : X.env.scope.names.lookup y = some .local)
    (hsw : swapsWith (.ListComp elt [⟨tg, iter, ifs, 0⟩] scope pos) (some (.Name y py)) spos.line X.env = pure true) (hi : SI X tg iter it) (ok : BlkOk X.N X.env.scope scope own)
    (hg : ∀ (s : Shared) (H : Hp) (C : Addr) (cl : List (Str × Addr)) (fp : List Addr), SG (X.blk s H scope (compEnvC scope cl C X.env) fp) (but n (ixs own)) tg gg)
    (ht : ∀ (s : Shared) (H : Hp) (C : Addr) (cl : List (Str × Addr)) (fp : List Addr), SIf (X.blk s H scope (compEnvC scope cl C X.env) fp) ifs c)
    (he : ∀ (s : Shared) (H : Hp) (C : Addr) (cl : List (Str × Addr)) (fp : List Addr), SE (X.blk s H scope (compEnvC scope cl C X.env) fp) elt e) (hs : ∀ x, foldedSetIterable iter X.env x = pure x := by intro _; rfl) (ho : io.contains i = false := by rfl) :
    SS X io (.Assign [.Name y py] (.ListComp elt [⟨tg, iter, ifs, 0⟩] scope pos) spos) (dSet i (dComp it gg c e (ixs own))) :=
  ps_len (ps_setLc (g := tG X.K (but n (ixs own)) gg) (tt := tT X.K c) (te := tE X.K e) hc hN hy hyl hsw hi ok hg ht he hs) fun De σ H hl hq => tN_comp hn (by rw [hl, hn]) _ (tS_set ho hq)
end

/-! ### defs -/
abbrev Ct := List D → Option (D × List D)
/-- the promise: n arguments; io: the places of those that are changed -/
def spC (K : PySem.W.Frag) (n : Nat) (io : List Nat) (C : Ct) : Sp := fun vs H Q _ => vs.length = n ∧ ∃ G ds L d outs, Sta G H L ∧ OwnL K G vs ds L ∧ C ds = some (d, outs) ∧
  ∀ v G' H' M L', Sta G' H' (M ++ L') → Stp G H L G' H' (M ++ L') → Own K G' v d M → OwnL K G' (io.filterMap fun i => vs[i]?) outs L' → Q v H'
def outs (ρ : Ev) : List Nat → Option (List D)
  | [] => some []
  | i :: is => match ρ[i]? with
    | some (some d) => (outs (ρ.set i none) is).bind fun r => some (d :: r)
    | _ => none
def run (N n : Nat) (io : List Nat) (g : DS) : Ct := fun ds => if ds.length = n then (g (ds.map some ++ List.replicate (N - n) none)).bind fun fl => match fl with
    | .rt d ρ => (outs ρ io).bind fun r => some (d, r)
    | .nx ρ => (outs ρ io).bind fun r => some (.non, r)
    | _ => none
  else none
theorem outs_ok {K : PySem.W.Frag} {G : Hp} {σ : L2.St} {vs : List V} : ∀ (io : List Nat) {ρ : Ev} {L : Fp} {r : List D}, (∀ i ∈ io, i < vs.length ∧ σ[i]? = (vs.map some)[i]?) → Sl K G σ ρ L → outs ρ io = some r →
    ∃ M R, L.Perm (M ++ R) ∧ OwnL K G (io.filterMap fun i => vs[i]?) r M
  | [], _, L, _, _, _, e => by cases e; exact ⟨[], L, .refl _, .nil⟩
  | i :: is, ρ, L, r, hk, h, e => by
    rw [outs] at e
    split at e
    · rename_i d hd
      obtain ⟨r', e1, e⟩ := Option.bind_eq_some_iff.mp e
      cases e
      obtain ⟨v, M, R, s1, s2, s3, s4, _⟩ := h.at hd
      obtain ⟨M', R', q1, q2⟩ := outs_ok is (fun j hj => hk j (List.mem_cons_of_mem _ hj)) s4 e1
      obtain ⟨k1, k2⟩ := hk i List.mem_cons_self
      have hv : vs[i]? = some v := by
        rw [s1, List.getElem?_map] at k2
        rw [List.getElem?_eq_getElem k1] at k2 ⊢
        cases k2
        rfl
      refine ⟨M ++ M', R', s3.trans (by rw [List.append_assoc]; exact q1.append_left M), ?_⟩
      rw [List.filterMap_cons, hv]
      exact .cons s2 q2
    · cases e
/-- room, and no guard of a repr that runs -/
structure Rm (k : Nat) (A : Around) : Prop where
  room : Room k A
  gu : A.guards = some []
theorem Rm.mono {j k : Nat} {A : Around} (r : Rm k A) (h : j ≤ k) : Rm j A := ⟨r.room.mono h, r.gu⟩
/-- a def at f keeps its promise wherever there is room and no such guard -/
structure FnG (P : Program) (w : World) (K : PySem.W.Frag) (mg : Str → Option Value) (base : Heap) (k : Nat) (f : Addr) (fd : FuncData) (ps : List Str) (sp : Sp) : Prop where
  run : ∀ (A : Around) (outer : List Env) (s : Shared) (H : Hp) (args : Args) (us : List Value) (vs : List V) (Q : VK), Rm k A → Env0 P w K mg base A outer s H → BindsTo s fd args (ps.zip us) → Vals vs us → sp vs H Q E0 →
    codeAny (model P w) A (.call (.ref f) args) (CR CX0 outer P w H s Q E0) s
/-- where a def stands -/
structure At (K : PySem.W.Frag) (mg : Str → Option Value) (x : Str) (st : Stmt) (ps : List Str) (f : Addr) (fd : FuncData) : Prop where
  F : Fun K x x st f fd
  g : mg x = some (.ref f)
  b : Binds K fd ps []
/-- a def that is known, for its callers -/
structure Fd (P : Program) (w : World) (K : PySem.W.Frag) (mg : Str → Option Value) (base : Heap) (k : Nat) (x : Str) (n : Nat) (io : List Nat) (C : Ct) : Prop where
  len : ∀ ds r, C ds = some r → ds.length = n
  ex : ∃ f fd ps, ps.length = n ∧ FnG P w K mg base k f fd ps (spC K n io C) ∧ mg x = some (.ref f) ∧ PySem.W.keepIn K (.ref f) = true ∧ Binds K fd ps []
section
variable {P : Program} {w : World} {K : PySem.W.Frag} {mg : Str → Option Value} {base : Heap}
theorem FnG.mono {j k : Nat} {f : Addr} {fd : FuncData} {ps : List Str} {sp : Sp} (F : FnG P w K mg base j f fd ps sp) (h : j ≤ k) : FnG P w K mg base k f fd ps sp :=
  ⟨fun A outer s H args us vs Q hr => F.run A outer s H args us vs Q (hr.mono h)⟩
theorem Fd.mono {j k : Nat} {x : Str} {n : Nat} {io : List Nat} {C : Ct} (F : Fd P w K mg base j x n io C) (h : j ≤ k) : Fd P w K mg base k x n io C :=
  let ⟨f, fd, ps, l, a, b, c, d⟩ := F.ex
  ⟨F.len, ⟨f, fd, ps, l, a.mono h, b, c, d⟩⟩
/-- a body's end is the call's end -/
theorem call_end {N : List Str} {x : Str} {sc : Scope} {f : Addr} {cdv : Value} {A : Around} {outer : List Env} {s : Shared} {H : Hp} {Q : VK} {fl : Flow} {s' : Shared}
    (h : SP (cxOf CX0 P w K mg base N x sc f cdv A outer s H E0) [] { nx := fun _ H' => Q .non H', rt := Q } fl s') :
    match fl with | .ret u => CE outer P w H s Q u s' | .next => CE outer P w H s Q .none s' | _ => False := by
  cases fl with
  | ret u =>
    obtain ⟨v, _, H2, J, rv, q⟩ := h
    exact ⟨v, H2, J.os, J.bare, J.base, J.hok, rv, q⟩
  | next =>
    obtain ⟨_, H2, J, q⟩ := h
    exact ⟨.non, H2, J.os, J.bare, J.base, J.hok, rfl, q⟩
  | brk => obtain ⟨_, _, _, q⟩ := h; exact q
  | cont => obtain ⟨_, _, _, q⟩ := h; exact q
theorem Fn.mk' {x : Str} {st : Stmt} {f : Addr} {fd : FuncData} {N ps : List Str} {k : Nat} {io : List Nat} {g : DS} {C : Ct} (F : At K mg x st ps f fd) (S : FnScope N ps (defScope st)) (hio : ∀ i ∈ io, i < ps.length) (hC : C = run N.length ps.length io g)
    (hb : ∀ (cdv : Value) (A : Around) (outer : List Env) (s : Shared) (H : Hp) (E : XK), Rm k (A.deeper (envOfC x (defScope st) s.heap.objs.size f cdv)) → SSs (cxOf CX0 P w K mg base N x (defScope st) f cdv A outer s H E).nox io (defBody st) g) :
    FnG P w K mg base (k + 1) f fd ps (spC K ps.length io C) := by
  subst hC
  obtain ⟨oc, od, kV, doc, pm, an, cdv, ct, osl, hfd, lk, hcd⟩ := F.F.ex
  subst hfd
  constructor
  intro A outer s H args us vs Q hr e0 hbind rv hsp
  obtain ⟨hl, G, ds, L, d, o, h1, h2, h3, q⟩ := hsp
  -- the reading of the body
  have ld : ds.length = ps.length := by rw [← h2.length]; exact hl
  unfold run at h3
  rw [if_pos ld] at h3
  obtain ⟨fl, e1, h3⟩ := Option.bind_eq_some_iff.mp h3
  have hst : L2.start N vs = vs.map some ++ List.replicate (N.length - ps.length) none := by unfold L2.start; rw [hl]
  have hk : ∀ {σ' : L2.St}, Kp io (L2.start N vs) σ' → ∀ i ∈ io, i < vs.length ∧ σ'[i]? = (vs.map some)[i]? := fun {σ'} k i hi => by
    have h0 : i < vs.length := by rw [hl]; exact hio i hi
    refine ⟨h0, ?_⟩
    rw [k.2 i hi, hst, List.getElem?_append_left (by rw [List.length_map]; exact h0)]
  have reading : tS K io g { nx := fun _ H' => Q .non H', rt := Q } (L2.start N vs) H := by
    refine ⟨G, _, L, fl, h1, by rw [hst]; exact Sl.start _ h2, e1, ?_⟩
    cases fl with
    | rt d0 ρ0 =>
      obtain ⟨r, e2, h3⟩ := Option.bind_eq_some_iff.mp h3
      cases h3
      intro v σ' G' H' M L' a b c k o
      obtain ⟨M', R', p1, p2⟩ := outs_ok io (hk k) c e2
      have pm : (M ++ L').Perm (R' ++ (M ++ M')) := (p1.append_left M).trans (by rw [← List.append_assoc]; exact List.perm_append_comm)
      exact q v G' H' M M' (a.perm pm).left (b.permR pm).less o p2
    | nx ρ0 =>
      obtain ⟨r, e2, h3⟩ := Option.bind_eq_some_iff.mp h3
      cases h3
      intro σ' G' H' L' a b c k
      obtain ⟨M', R', p1, p2⟩ := outs_ok io (hk k) c e2
      have pm : L'.Perm (R' ++ ([] ++ M')) := p1.trans (by rw [List.nil_append]; exact List.perm_append_comm)
      exact q .non G' H' [] M' (a.perm pm).left (b.permR pm).less (.pure .non) p2
    | bk _ => cases h3
    | ct _ => cases h3
  -- the call
  have old : ∀ b u, base.get? b = some u → s.heap.get? b = some u := fun b u e => (e0.bs b u e).1
  have KX : K.In s.heap := e0.mod.kin.keeps old
  have lim : s.heap.NoLimit := e0.mod.nolimit.keeps old
  refine codeAny_call_function hr.room.depth (KX _ _ lk) rfl S.co S.gen rfl (PySem.W.codeRec_of KX hcd) (hbind _ _ _ _ (wpAny_newFunctionEnv_cells S.kind (fun ⟨n, v⟩ hy => ?_) fun env he s1 fresh => ?_))
  · cases S.par n (List.of_mem_zip hy).1 with
    | inl z => exact .inl z
    | inr z => exact .inr ⟨z, PySem.W.cellsFrom_some _ _ _ (.inl z)⟩
  · subst he
    refine ⟨lim.keeps fresh.toInCall.keep, codeAny_func ?_⟩
    have rm : Rm k (A.deeper (envOfC x (defScope st) s.heap.objs.size f cdv)) := ⟨hr.room.deeper _, hr.gu⟩
    have body := (hb cdv A outer s H E0 rm).nox
    have I := inv_start (N := N) (ps := ps) (qual := x) (scope := defScope st) (f := f) (cd := cdv) (E := E0) (CX := CX0) S hr.room.hd e0 hl rv fresh
    refine wpAny_mono (body.run [] s1 _ H _ I reading) (fun fl2 s2 hs => ?_) fun _ _ z => z
    have fin := call_end hs
    cases fl2 <;> first | exact fin | exact False.elim fin
theorem Fd.mk' {x : Str} {st : Stmt} {f : Addr} {fd : FuncData} {N ps : List Str} {k : Nat} {io : List Nat} {g : DS} {C : Ct} (F : At K mg x st ps f fd) (S : FnScope N ps (defScope st)) (hio : ∀ i ∈ io, i < ps.length) (hC : C = run N.length ps.length io g)
    (hb : ∀ (cdv : Value) (A : Around) (outer : List Env) (s : Shared) (H : Hp) (E : XK), Rm k (A.deeper (envOfC x (defScope st) s.heap.objs.size f cdv)) → SSs (cxOf CX0 P w K mg base N x (defScope st) f cdv A outer s H E).nox io (defBody st) g) :
    Fd P w K mg base (k + 1) x ps.length io C :=
  ⟨fun ds r e => (by
    rw [hC] at e
    unfold run at e
    split at e
    · assumption
    · cases e), ⟨f, fd, ps, rfl, Fn.mk' F S hio hC hb, F.g, F.F.kp, F.b⟩⟩
theorem Fd.zero {x : Str} {st : Stmt} {f : Addr} {fd : FuncData} {N ps : List Str} {k : Nat} {io : List Nat} (F : At K mg x st ps f fd) (S : FnScope N ps (defScope st)) : Fd P w K mg base k x ps.length io (fun _ => none) :=
  ⟨fun ds r e => (nomatch e), ⟨f, fd, ps, rfl, ⟨fun A outer s H args us vs Q hr e0 hb hv h => by
    obtain ⟨_, _, _, _, _, _, _, _, h3, _⟩ := h
    cases h3⟩, F.g, F.F.kp, F.b⟩⟩
end
/-- a call of a def by its name -/
theorem pe_callG {X : Cx} {k n : Nat} {x : Str} {f : Addr} {fd : FuncData} {ps : List Str} {sp : Sp} {e : Expr} {es : List Expr} {t : TA} {p pos : Pos} (F : FnG X.prog X.w X.K X.mg X.base k f fd ps sp) (hn : ps.length = n) (hl : ∀ vs H Q E, sp vs H Q E → vs.length = n)
    (hr : Rm k X.A) (hg : Gl X x) (hm : X.mg x = some (.ref f)) (hk : PySem.W.keepIn X.K (.ref f) = true) (hb : Binds X.K fd ps []) (ha : PA X (e :: es) t) (hdb : (x == ("__debug__" : Str)) = false)
    (he : starEach (e :: es) X.env = (false, eval e X.env) :: starEach es X.env) (hpl : (backTo pos (starEach es X.env)).any (·.1) = false) : PE X (.Call (.Name x p) (e :: es) [] pos) (fun σ H Q => t σ H fun vs H1 => sp vs H1 Q E0) := by
  constructor
  intro pins s σ H Q I h
  refine wpAny_Call_Name_kw (ld_glob I hg hm (PySem.W.callWith_K (h₀ := X.base) I.ok.mod.kin hk (thn (ha.run pos pins s σ H _ I h) fun us s1 ⟨vs, H1, I1, rv, q⟩ => ⟨I1.kIn, wpAny_call ?_⟩) he hpl) hdb)
  have lv : (us ++ []).length = ps.length := by rw [List.append_nil, ← rv.length, hl _ _ _ _ q, hn]
  have bd := hb s1 us I1.kIn lv
  rw [List.append_nil] at bd
  refine codeAny_mono (F.run X.A X.stack s1 H1 ⟨us, []⟩ us vs Q hr I1.env0 bd rv q) fun r s2 hq => ?_
  match r with
  | .error _ => exact False.elim hq
  | .ok (.ret u) => exact I1.after hq
  | .ok .next => exact False.elim hq
  | .ok .brk => exact False.elim hq
  | .ok .cont => exact False.elim hq

/-! ### calls -/
/-- an argument: data, or what stands in a slot -/
inductive Ar where
  | val (d : D) | ref (i : Nat)
abbrev DR := Ev → Option (List Ar × Ev)
def ArV (K : PySem.W.Frag) (G : Hp) (σ : L2.St) (v : V) : Ar → Prop
  | .val d => Rep K G v d
  | .ref i => σ[i]? = some (some v)
inductive ArL (K : PySem.W.Frag) (G : Hp) (σ : L2.St) : List V → List Ar → Prop
  | nil : ArL K G σ [] []
  | cons {v : V} {a : Ar} {vs : List V} {as : List Ar} : ArV K G σ v a → ArL K G σ vs as → ArL K G σ (v :: vs) (a :: as)
theorem ArV.mono {K : PySem.W.Frag} {G G' : Hp} {σ : L2.St} {v : V} {a : Ar} (e : Ex G G') (h : ArV K G σ v a) : ArV K G' σ v a := by
  cases a with
  | val d => exact Rep.mono e h
  | ref i => exact h
theorem ArL.mono {K : PySem.W.Frag} {G G' : Hp} {σ : L2.St} (e : Ex G G') : ∀ {vs : List V} {as : List Ar}, ArL K G σ vs as → ArL K G' σ vs as
  | _, _, .nil => .nil
  | _, _, .cons h r => .cons (h.mono e) (ArL.mono e r)
def EndR (K : PySem.W.Frag) (σ : L2.St) (G H : Hp) (L : Fp) (as : List Ar) (ρ : Ev) (Q : List V → Hp → Prop) : Prop :=
  ∀ vs G' H' L', Sta G' H' L' → Stp G H L G' H' L' → Sl K G' σ ρ L' → ArL K G' σ vs as → Q vs H'
def tRs (K : PySem.W.Frag) (f : DR) : TA := fun σ H Q => ∃ G ρ L as ρ', Sta G H L ∧ Sl K G σ ρ L ∧ f ρ = some (as, ρ') ∧ EndR K σ G H L as ρ' Q
def SR (X : Cx) (es : List Expr) (f : DR) : Prop := PA X es (tRs X.K f)
def rNil : DR := fun ρ => some ([], ρ)
def rVal (f : DE) (g : DR) : DR := fun ρ => (f ρ).bind fun p => (g p.2).bind fun q => some (.val p.1 :: q.1, q.2)
def rRef (i : Nat) (g : DR) : DR := fun ρ => match ρ[i]? with | some (some _) => (g ρ).bind fun q => some (.ref i :: q.1, q.2) | _ => none
section
variable {X : Cx} {e : Expr} {es : List Expr} {f : DE} {g : DR} {pos : Pos} {x : Str}
theorem sr_nil : SR X [] rNil := pa_weak pa_nil fun σ H Q ⟨G, ρ, L, d, ρ', h1, h2, h3, q⟩ => by
  cases h3
  exact q [] G H L h1 .refl h2 .nil
theorem sr_val (ha : SE X e f) (hr : SR X es g) (hs : starEach (e :: es) X.env = (false, eval e X.env) :: starEach es X.env := by rfl) : SR X (e :: es) (rVal f g) := pa_weak (pa_cons ha hr hs) fun σ H Q ⟨G, ρ, L, d, ρ', h1, h2, h3, q⟩ => by
  unfold rVal at h3
  obtain ⟨⟨d1, ρ1⟩, e1, h3⟩ := Option.bind_eq_some_iff.mp h3
  obtain ⟨⟨d2, ρ2⟩, e2, h3⟩ := Option.bind_eq_some_iff.mp h3
  cases h3
  refine ⟨G, ρ, L, d1, ρ1, h1, h2, e1, fun x G1 H1 L1 a1 b1 c1 r1 => ⟨G1, ρ1, L1, d2, _, a1, c1, e2, fun vs G2 H2 L2 a2 b2 c2 r2 => ?_⟩⟩
  exact q _ G2 H2 L2 a2 (b1.trans b2) c2 (.cons (r1.mono b2.ex) r2)
theorem sr_ref (i : Nat) (hr : SR X es g) (hN : X.N[i]? = some x := by rfl) (hv : Vis X.env.scope x := by first | exact Or.inl rfl | exact Or.inr (Or.inl rfl) | exact Or.inr (Or.inr rfl)) (hd : (x == ("__debug__" : Str)) = false := by decide)
    (hcd : (x == ("__classdict__" : Str)) = false := by decide) (hs : starEach (.Name x pos :: es) X.env = (false, eval (.Name x pos) X.env) :: starEach es X.env := by rfl) : SR X (.Name x pos :: es) (rRef i g) :=
  pa_weak (pa_cons (pe_var hN hv hd hcd) hr hs) fun σ H Q ⟨G, ρ, L, d, ρ', h1, h2, h3, q⟩ => by
    unfold rRef at h3
    split at h3
    · rename_i d0 hd0
      obtain ⟨⟨d2, ρ2⟩, e2, h3⟩ := Option.bind_eq_some_iff.mp h3
      cases h3
      obtain ⟨v, M, R, s1, s2, _⟩ := h2.at hd0
      exact ⟨v, s1, G, ρ, L, d2, _, h1, h2, e2, fun vs G2 H2 L2 a2 b2 c2 r2 => q _ G2 H2 L2 a2 b2 c2 (.cons s1 r2)⟩
    · cases h3
end
def valsR : List Ar → Option (List D)
  | [] => some []
  | .val d :: as => (valsR as).bind fun r => some (d :: r)
  | .ref _ :: _ => none
/-- one argument that is changed: what stands ahead of it, its slot, what stands behind it -/
def splitR : List Ar → Option (List D × Nat × List D)
  | [] => none
  | .val d :: as => (splitR as).bind fun p => some (d :: p.1, p.2.1, p.2.2)
  | .ref i :: as => (valsR as).bind fun ds => some ([], i, ds)
/-- no argument is changed; own lists are lent, the answer being plain -/
def lentR (ρ : Ev) : List Ar → Option (List D)
  | [] => some []
  | .val d :: as => (lentR ρ as).bind fun r => some (d :: r)
  | .ref i :: as => match ρ[i]? with | some (some d) => (lentR ρ as).bind fun r => some (frz d :: r) | _ => none
def D.flat : D → Bool
  | .non => true | .bl _ => true | .int _ => true | .str _ => true | _ => false
def dCall (C : Ct) (f : DA) : DE := fun ρ => (f ρ).bind fun p => (C p.1).bind fun q => match q.2 with | [] => some (q.1, p.2) | _ => none
def dCall1 (C : Ct) (f : DR) : DE := fun ρ => (f ρ).bind fun p => (splitR p.1).bind fun z => match p.2[z.2.1]? with
  | some (some (.own xs)) => (C (z.1 ++ .own xs :: z.2.2)).bind fun q => match q.2 with | [.own ys] => some (q.1, p.2.set z.2.1 (some (.own ys))) | _ => none
  | _ => none
def dLent (C : Ct) (f : DR) : DE := fun ρ => (f ρ).bind fun p => (lentR p.2 p.1).bind fun ds => (C ds).bind fun q => if q.1.flat = true then some (q.1, p.2) else none
/-- what a step leaves alone stays -/
theorem Sta.frame {G H G' H' : Hp} {A A' B : Fp} (s : Sta G H (A ++ B)) (st : Stp G H A G' H' A') (s' : Sta G' H' A') : Sta G' H' (A' ++ B) ∧ Stp G H (A ++ B) G' H' (A' ++ B) := by
  have nd := s.nd
  rw [List.map_append] at nd
  have dis : ∀ a, key A a → ¬ key B a := fun a ⟨vs, h1⟩ ⟨us, h2⟩ =>
    (List.nodup_append.mp nd).2.2 a (List.mem_map.mpr ⟨_, h1, rfl⟩) a (List.mem_map.mpr ⟨_, h2, rfl⟩) rfl
  have fb : ∀ p vs, (p, vs) ∈ B → H' p = some vs ∧ G' p = none ∧ ¬ key A' p := fun p vs h =>
    st.fr p _ (s.hold p vs (List.mem_append.mpr (.inr h))) (s.out p vs (List.mem_append.mpr (.inr h))) fun k => dis p k ⟨vs, h⟩
  refine ⟨⟨s'.ex, fun p vs h => ?_, fun p vs h => ?_, ?_⟩, ⟨st.ex, fun a o ha ga ka => ?_⟩⟩
  · rcases List.mem_append.mp h with h | h
    · exact s'.hold p vs h
    · exact (fb p vs h).1
  · rcases List.mem_append.mp h with h | h
    · exact s'.out p vs h
    · exact (fb p vs h).2.1
  · rw [List.map_append]
    refine List.nodup_append.mpr ⟨s'.nd, (List.nodup_append.mp nd).2.1, fun a h1 b h2 e => ?_⟩
    subst e
    obtain ⟨⟨p, vs⟩, q1, q2⟩ := List.mem_map.mp h1
    obtain ⟨⟨p', us⟩, q3, q4⟩ := List.mem_map.mp h2
    have e1 : p = a := q2
    have e2 : p' = a := q4
    subst e1 e2
    exact (fb p' us q3).2.2 ⟨vs, q1⟩
  · obtain ⟨y1, y2, y3⟩ := st.fr a o ha ga fun k => ka (key_app.mpr (.inl k))
    exact ⟨y1, y2, fun k => (key_app.mp k).elim y3 fun k => ka (key_app.mpr (.inr k))⟩
theorem Sta.nil {G H : Hp} {L : Fp} (s : Sta G H L) : Sta G H [] := ⟨s.ex, fun _ _ z => (nomatch z), fun _ _ z => (nomatch z), List.nodup_nil⟩
theorem Rep.of_flat {K : PySem.W.Frag} {G G' : Hp} {v : V} {d : D} (h : Rep K G v d) (f : d.flat = true) : Rep K G' v d := by
  cases h with
  | non => exact .non
  | bl b => exact .bl b
  | int i => exact .int i
  | str s => exact .str s
  | ty n => exact .ty n
  | tup _ _ => cases f
  | lst _ _ => cases f
  | scr _ => cases f
  | dct _ => cases f
  | dix _ _ _ => cases f
  | kt _ => cases f
  | exc => cases f
theorem ArL.vals {K : PySem.W.Frag} {G : Hp} {σ : L2.St} : ∀ {vs : List V} {as : List Ar} {ds : List D}, ArL K G σ vs as → valsR as = some ds → RepL K G vs ds
  | _, _, _, .nil, e => by cases e; exact .nil
  | _, .val d :: as, _, .cons h r, e => by
    rw [valsR] at e
    obtain ⟨ds', e1, e⟩ := Option.bind_eq_some_iff.mp e
    cases e
    exact .cons h (ArL.vals r e1)
  | _, .ref i :: as, _, .cons h r, e => by rw [valsR] at e; cases e
/-- the arguments of which one is changed -/
theorem ArL.split {K : PySem.W.Frag} {G : Hp} {σ : L2.St} : ∀ {vs : List V} {as : List Ar} {z : List D × Nat × List D}, ArL K G σ vs as → splitR as = some z →
    ∃ us v ws, vs = us ++ v :: ws ∧ RepL K G us z.1 ∧ σ[z.2.1]? = some (some v) ∧ RepL K G ws z.2.2 ∧ us.length = z.1.length
  | _, _, _, .nil, e => by cases e
  | _, .val d :: as, _, .cons h r, e => by
    rw [splitR] at e
    obtain ⟨z', e1, e⟩ := Option.bind_eq_some_iff.mp e
    cases e
    obtain ⟨us, v, ws, q1, q2, q3, q4, q5⟩ := ArL.split r e1
    subst q1
    exact ⟨_ :: us, v, ws, rfl, .cons h q2, q3, q4, by rw [List.length_cons, List.length_cons, q5]⟩
  | _, .ref i :: as, _, .cons h r, e => by
    rw [splitR] at e
    obtain ⟨ds', e1, e⟩ := Option.bind_eq_some_iff.mp e
    cases e
    exact ⟨[], _, _, rfl, .nil, h, ArL.vals r e1, rfl⟩
theorem OwnL.mid {K : PySem.W.Frag} {G : Hp} : ∀ {us : List V} {as : List D} {v : V} {ws : List V} {d : D} {bs : List D} {M : Fp}, RepL K G us as → Own K G v d M → RepL K G ws bs → OwnL K G (us ++ v :: ws) (as ++ d :: bs) M
  | _, _, _, _, _, _, M, .nil, o, r => by
    have := OwnL.cons o r.ownL
    rw [List.append_nil] at this
    exact this
  | _, _, _, _, _, _, M, .cons h r', o, r => .cons (L := []) (.pure h) (OwnL.mid r' o r)
/-- own lists are lent: all slots' lists are known meanwhile -/
theorem Sl.all {K : PySem.W.Frag} {G G' : Hp} (e : Ex G G') : ∀ {σ : L2.St} {ρ : Ev} {L : Fp}, Sl K G σ ρ L → (∀ a vs, (a, vs) ∈ L → G' a = some vs) → ∀ {i : Nat} {d : D}, ρ[i]? = some (some d) → ∃ v, σ[i]? = some (some v) ∧ Rep K G' v (frz d)
  | _, _, _, .nil, _, _, _, h => by simp at h
  | _, _, _, .un r, q, 0, _, h => by simp at h
  | _, _, _, .un r, q, i + 1, _, h => Sl.all e r q (i := i) (by simpa using h)
  | _, _, _, .cons o r, q, 0, _, h => by
    simp at h
    subst h
    exact ⟨_, rfl, o.freeze e fun a vs m => q a vs (List.mem_append.mpr (.inl m))⟩
  | _, _, _, .cons o r, q, i + 1, _, h => Sl.all e r (fun a vs m => q a vs (List.mem_append.mpr (.inr m))) (i := i) (by simpa using h)
theorem ArL.lent {K : PySem.W.Frag} {G G' : Hp} {σ : L2.St} {ρ : Ev} {L : Fp} (e : Ex G G') (h : Sl K G σ ρ L) (q : ∀ a vs, (a, vs) ∈ L → G' a = some vs) : ∀ {vs : List V} {as : List Ar} {ds : List D}, ArL K G σ vs as → lentR ρ as = some ds → RepL K G' vs ds
  | _, _, _, .nil, z => by cases z; exact .nil
  | _, .val d :: as, _, .cons hh r, z => by
    rw [lentR] at z
    obtain ⟨ds', e1, z⟩ := Option.bind_eq_some_iff.mp z
    cases z
    exact .cons (Rep.mono e hh) (ArL.lent e h q r e1)
  | _, .ref i :: as, _, .cons hh r, z => by
    rw [lentR] at z
    split at z
    · rename_i d hd
      obtain ⟨ds', e1, z⟩ := Option.bind_eq_some_iff.mp z
      cases z
      obtain ⟨v, q1, q2⟩ := h.all e q hd
      have hh' : σ[i]? = some (some _) := hh
      rw [q1] at hh'
      cases hh'
      exact .cons q2 (ArL.lent e h q r e1)
    · cases z
section
variable {X : Cx} {k n : Nat} {x : Str} {C : Ct} {e : Expr} {es : List Expr} {f : DA} {g : DR} {p pos : Pos}
theorem sn_call {io : List Nat} (F : Fd X.prog X.w X.K X.mg X.base k x n io C) (hr : Rm k X.A) (ha : SA X (e :: es) f) (hio : io = [] := by rfl) (hg : Gl X x := by rfl) (hdb : (x == ("__debug__" : Str)) = false := by decide)
    (he : starEach (e :: es) X.env = (false, eval e X.env) :: starEach es X.env := by rfl) (hpl : (backTo pos (starEach es X.env)).any (·.1) = false := by rfl) : SN X (.Call (.Name x p) (e :: es) [] pos) (dCall C f) := by
  subst hio
  obtain ⟨ff, fd, ps, F0, F1, F2, F3, F4⟩ := F.ex
  refine pe_weak (pe_callG F1 F0 (fun _ _ _ _ z => z.1) hr hg F2 F3 F4 ha hdb he hpl) fun σ H Q ⟨G, ρ, L, d, ρ', h1, h2, h3, q⟩ => ?_
  unfold dCall at h3
  obtain ⟨⟨ds, ρ1⟩, e1, h3⟩ := Option.bind_eq_some_iff.mp h3
  obtain ⟨⟨d2, o2⟩, e2, h3⟩ := Option.bind_eq_some_iff.mp h3
  dsimp only at h3 e2
  split at h3
  · cases h3
    refine ⟨G, ρ, L, ds, _, h1, h2, e1, fun vs G1 H1 L1 a1 b1 c1 r1 => ?_⟩
    refine ⟨by rw [r1.length]; exact F.len _ _ e2, G1, ds, [], d, [], a1.nil, r1.ownL, e2, fun v G' H' M L' a b o oo => ?_⟩
    cases oo
    rw [List.append_nil] at a b
    obtain ⟨z1, z2⟩ := Sta.frame (A := []) (B := L1) a1 b a
    exact q v G' H' M L1 z1 (b1.trans z2) (c1.mono b.ex) o
  · cases h3
theorem sn_call1 {j : Nat} (F : Fd X.prog X.w X.K X.mg X.base k x n [j] C) (hr : Rm k X.A) (ha : SR X (e :: es) g) (hj : ∀ ρ as ρ' z, g ρ = some (as, ρ') → splitR as = some z → z.1.length = j) (hg : Gl X x := by rfl) (hdb : (x == ("__debug__" : Str)) = false := by decide)
    (he : starEach (e :: es) X.env = (false, eval e X.env) :: starEach es X.env := by rfl) (hpl : (backTo pos (starEach es X.env)).any (·.1) = false := by rfl) : SN X (.Call (.Name x p) (e :: es) [] pos) (dCall1 C g) := by
  obtain ⟨ff, fd, ps, F0, F1, F2, F3, F4⟩ := F.ex
  refine pe_weak (pe_callG F1 F0 (fun _ _ _ _ z => z.1) hr hg F2 F3 F4 ha hdb he hpl) fun σ H Q ⟨G, ρ, L, d, ρ', h1, h2, h3, q⟩ => ?_
  unfold dCall1 at h3
  obtain ⟨⟨as, ρ1⟩, e1, h3⟩ := Option.bind_eq_some_iff.mp h3
  obtain ⟨z, e2, h3⟩ := Option.bind_eq_some_iff.mp h3
  dsimp only at h3 e2
  split at h3
  · rename_i xs hxs
    obtain ⟨⟨d3, o3⟩, e3, h3⟩ := Option.bind_eq_some_iff.mp h3
    dsimp only at h3 e3
    split at h3
    · rename_i ys
      cases h3
      refine ⟨G, ρ, L, as, _, h1, h2, e1, fun vs G1 H1 L1 a1 b1 c1 r1 => ?_⟩
      obtain ⟨us, v, ws, rfl, t2, t3, t4, t5⟩ := r1.split e2
      obtain ⟨v', M, R, s1, s2, s3, s4, s5⟩ := c1.at hxs
      rw [s1] at t3
      cases t3
      have a1' := a1.perm s3
      have ow : OwnL X.K G1 (us ++ v :: ws) (z.1 ++ .own xs :: z.2.2) M := OwnL.mid t2 s2 t4
      have hlen := F.len _ _ e3
      refine ⟨by rw [ow.length]; exact hlen, G1, _, M, d, [.own ys], a1'.right, ow, e3, fun v2 G' H' M2 L2 a b o oo => ?_⟩
      have hjz := hj _ _ _ _ e1 e2
      have hat : (us ++ v :: ws)[j]? = some v := by rw [← hjz, ← t5]; simp
      rw [show ([j].filterMap fun i => (us ++ v :: ws)[i]?) = [v] by rw [List.filterMap_cons, hat]; rfl] at oo
      cases oo with
      | cons o1 o2 =>
        cases o2
        rw [List.append_nil] at a b
        obtain ⟨z1, z2⟩ := Sta.frame (A := M) (B := R) a1' b a
        obtain ⟨L9, y1, y2⟩ := s5 G' v (.own ys) _ b.ex o1
        rw [set_self s1] at y1
        refine q v2 G' H' M2 L9 (z1.perm ?_) (b1.trans ((z2.permL s3.symm).permR ?_)) y1 o
        · rw [List.append_assoc]; exact (y2.symm.append_left M2)
        · rw [List.append_assoc]; exact (y2.symm.append_left M2)
    · cases h3
  · cases h3
/-- own lists are lent to a call whose answer is plain -/
theorem se_lent {io : List Nat} (F : Fd X.prog X.w X.K X.mg X.base k x n io C) (hr : Rm k X.A) (ha : SR X (e :: es) g) (hio : io = [] := by rfl) (hg : Gl X x := by rfl) (hdb : (x == ("__debug__" : Str)) = false := by decide)
    (he : starEach (e :: es) X.env = (false, eval e X.env) :: starEach es X.env := by rfl) (hpl : (backTo pos (starEach es X.env)).any (·.1) = false := by rfl) : SE X (.Call (.Name x p) (e :: es) [] pos) (dLent C g) := by
  subst hio
  obtain ⟨ff, fd, ps, F0, F1, F2, F3, F4⟩ := F.ex
  refine pe_weak (pe_callG F1 F0 (fun _ _ _ _ z => z.1) hr hg F2 F3 F4 ha hdb he hpl) fun σ H Q ⟨G, ρ, L, d, ρ', h1, h2, h3, q⟩ => ?_
  unfold dLent at h3
  obtain ⟨⟨as, ρ1⟩, e1, h3⟩ := Option.bind_eq_some_iff.mp h3
  obtain ⟨ds, e2, h3⟩ := Option.bind_eq_some_iff.mp h3
  obtain ⟨⟨d3, o3⟩, e3, h3⟩ := Option.bind_eq_some_iff.mp h3
  dsimp only at h3 e2 e3
  split at h3
  · rename_i hf
    cases h3
    refine ⟨G, ρ, L, as, _, h1, h2, e1, fun vs G1 H1 L1 a1 b1 c1 r1 => ?_⟩
    have a0 : Sta G1 H1 (L1 ++ []) := by rw [List.append_nil]; exact a1
    obtain ⟨f1, f2, f3⟩ := a0.freeze
    have hin : ∀ a us, (a, us) ∈ L1 → addF G1 L1 a = some us := fun a us m => addF_in a1.nd m
    have rl := r1.lent f3 c1 hin e2
    refine ⟨by rw [rl.length]; exact F.len _ _ e3, addF G1 L1, ds, [], d, o3, f1, rl.ownL, e3, fun v G' H' M L' a b o oo => ?_⟩
    have rv := (o.rep (by cases d <;> first | rfl | cases hf)).1
    have s9 : Sta G1 H' L1 := ⟨f3.trans (b.ex.trans a.ex), fun p us m => a.ex p _ (b.ex p _ (hin p us m)), a1.out, a1.nd⟩
    have p9 : Stp G1 H1 L1 G1 H' L1 := ⟨Ex.refl _, fun a o ha ga ka => by
      obtain ⟨y1, _, _⟩ := b.fr a o ha (by rw [addF_out ka]; exact ga) not_key_nil
      exact ⟨y1, ga, ka⟩⟩
    exact q v G1 H' L1 s9 (b1.trans p9) c1 (rv.of_flat hf)
  · cases h3
end
end Pd

namespace Pd
open PySem PySem.Spec PyProof.Rows L2

/-! ### data as the model's own data: equality -/
mutual
def toP : D → PyData
  | .non => .none | .bl b => .bool b | .int i => .int i | .str s => .str s
  | .tup ds => .tuple (toPL ds) | .lst ds => .list (toPL ds) | .own ds => .list (toPL ds)
  | .scr ns => .list (ns.map PyData.int) | .ty _ => .none | .dct _ => .none | .dix _ _ => .none | .odx _ _ => .none | .otp _ => .none | .kt _ => .none | .exc _ _ _ => .none
def toPL : List D → List PyData
  | [] => []
  | d :: ds => toP d :: toPL ds
end
mutual
def noTy : D → Bool
  | .ty _ => false | .dct _ => false | .dix _ _ => false | .odx _ _ => false | .otp _ => false | .kt _ => false | .exc _ _ _ => false | .tup ds => noTyL ds | .lst ds => noTyL ds | .own ds => noTyL ds | _ => true
def noTyL : List D → Bool
  | [] => true
  | d :: ds => noTy d && noTyL ds
end
theorem dpAll_ints {K : PySem.W.Frag} {H : Hp} : ∀ ns : List Int, DpAll K H (ns.map V.int) (ns.map PyData.int)
  | [] => .nil
  | n :: ns => .cons (.int n) (dpAll_ints ns)
section
variable {K : PySem.W.Frag} {G H : Hp}
mutual
theorem Rep.dp (e : Ex G H) : ∀ {v : V} {d : D}, Rep K G v d → noTy d = true → Dp K H v (toP d)
  | _, _, .non, _ => .non
  | _, _, .bl b, _ => .bl b
  | _, _, .int i, _ => .int i
  | _, _, .str s, _ => .str s
  | _, _, .ty n, z => by cases z
  | _, _, .dct _, z => by cases z
  | _, _, .dix _ _ _, z => by cases z
  | _, _, .kt _, z => by cases z
  | _, _, .exc _ _ _ _, z => by cases z
  | _, _, .tup h r, z => .tup (e.sqT h) (RepL.dp e r z)
  | _, _, .lst h r, z => .lst (e.sqL (sqL_of h)) (RepL.dp e r z)
  | _, _, .scr h, _ => .lst (e.sqL h) (dpAll_ints _)
theorem RepL.dp (e : Ex G H) : ∀ {vs : List V} {ds : List D}, RepL K G vs ds → noTyL ds = true → DpAll K H vs (toPL ds)
  | _, _, .nil, _ => .nil
  | _, _, .cons h r, z => by
    rw [noTyL, Bool.and_eq_true] at z
    exact .cons (Rep.dp e h z.1) (RepL.dp e r z.2)
end
end
def shp (d : D) : Bool := noTy d && SeqAt.shaped (toP d)
def deq (a b : D) : Bool := PyData.eqv (toP a) (toP b)
def strB (neg : Bool) (a b : D) : Option D := match a, b with
  | .str x, .str y => some (.bl (if neg then !(x == y) else x == y))
  | _, _ => none
def opEq (a b : D) : Option D := if shp a && shp b then some (.bl (deq a b)) else strB false a b
def opNe (a b : D) : Option D := if shp a && shp b then some (.bl (!deq a b)) else strB true a b
section
variable {K : PySem.W.Frag}
theorem shp_of {a b : D} (h : (shp a && shp b) = true) : (noTy a = true ∧ SeqAt.shaped (toP a) = true) ∧ noTy b = true ∧ SeqAt.shaped (toP b) = true := by
  unfold shp at h
  rw [Bool.and_eq_true, Bool.and_eq_true, Bool.and_eq_true] at h
  exact h
/-- an answer that is plain, the heap as it was -/
theorem plain_end {G H : Hp} {L : Fp} {Q : VK} {d : D} {v : V} (s : Sta G H L) (r : Rep K G v d) (q : ∀ v G' H' M, Sta G' H' (M ++ L) → Stp G H L G' H' (M ++ L) → Own K G' v d M → Q v H') : Q v H := q v G H [] s .refl (.pure r)
theorem strB_some {neg : Bool} {a b d : D} (h : strB neg a b = some d) : ∃ x y, a = .str x ∧ b = .str y ∧ d = .bl (if neg then !(x == y) else x == y) := by
  unfold strB at h
  split at h
  · cases h; exact ⟨_, _, rfl, rfl, rfl⟩
  · cases h
theorem or_eq {X : Cx} (hu : X.A.units + 64 < cLine) : OpR X (compareOp .Eq) (fun x y H Q => rEqD X.K x y H Q ∨ rEq x y H Q) := opr_or (op_eqD hu) op_eq
theorem or_ne {X : Cx} (hu : X.A.units + 64 < cLine) : OpR X (compareOp .NotEq) (fun x y H Q => rNeD X.K x y H Q ∨ rNe x y H Q) := opr_or (op_neD hu) op_ne
theorem od_eq : OpD K (fun x y H Q => rEqD K x y H Q ∨ rEq x y H Q) opEq := fun x y a b d G H L Q s ra rb e q => by
  unfold opEq at e
  split at e
  · rename_i h
    cases e
    obtain ⟨⟨n1, s1⟩, n2, s2⟩ := shp_of h
    exact .inl ⟨_, _, ra.dp s.ex n1, rb.dp s.ex n2, s1, s2, plain_end s (.bl _) q⟩
  · obtain ⟨x', y', rfl, rfl, rfl⟩ := strB_some e
    cases ra
    cases rb
    refine .inr ⟨rfl, ?_⟩
    rw [dec_str]
    exact plain_end s (.bl _) q
theorem od_ne : OpD K (fun x y H Q => rNeD K x y H Q ∨ rNe x y H Q) opNe := fun x y a b d G H L Q s ra rb e q => by
  unfold opNe at e
  split at e
  · rename_i h
    cases e
    obtain ⟨⟨n1, s1⟩, n2, s2⟩ := shp_of h
    exact .inl ⟨_, _, ra.dp s.ex n1, rb.dp s.ex n2, s1, s2, plain_end s (.bl _) q⟩
  · obtain ⟨x', y', rfl, rfl, rfl⟩ := strB_some e
    cases ra
    cases rb
    refine .inr ⟨rfl, ?_⟩
    rw [dec_str]
    exact plain_end s (.bl _) q
theorem pu_eq (a b d : D) (h : opEq a b = some d) : d.pu = true := by
  unfold opEq at h
  split at h
  · cases h; rfl
  · obtain ⟨x', y', rfl, rfl, rfl⟩ := strB_some h; rfl
theorem pu_ne (a b d : D) (h : opNe a b = some d) : d.pu = true := by
  unfold opNe at h
  split at h
  · cases h; rfl
  · obtain ⟨x', y', rfl, rfl, rfl⟩ := strB_some h; rfl

/-! ### whole numbers -/
def opI (C : Int → Int → Prop) [∀ i j, Decidable (C i j)] (g : Int → Int → Int) (a b : D) : Option D := match a, b with
  | .int i, .int j => if C i j then some (.int (g i j)) else none
  | _, _ => none
def opI0 (g : Int → Int → Int) (a b : D) : Option D := match a, b with
  | .int i, .int j => some (.int (g i j))
  | _, _ => none
def opB (g : Int → Int → Bool) (a b : D) : Option D := match a, b with
  | .int i, .int j => some (.bl (g i j))
  | _, _ => none
theorem od_I {C : Int → Int → Prop} [∀ i j, Decidable (C i j)] {g : Int → Int → Int} : OpD K (rI C fun i j => .int (g i j)) (opI C g) := fun x y a b d G H L Q s ra rb e q => by
  unfold opI at e
  split at e
  · split at e
    · rename_i hc
      cases e
      cases ra
      cases rb
      exact ⟨_, _, rfl, rfl, hc, plain_end s (.int _) q⟩
    · cases e
  · cases e
theorem od_I0 {g : Int → Int → Int} : OpD K (rI0 fun i j => .int (g i j)) (opI0 g) := fun x y a b d G H L Q s ra rb e q => by
  unfold opI0 at e
  split at e
  · cases e
    cases ra
    cases rb
    exact ⟨_, _, rfl, rfl, plain_end s (.int _) q⟩
  · cases e
theorem od_B {g : Int → Int → Bool} : OpD K (rI0 fun i j => .bl (g i j)) (opB g) := fun x y a b d G H L Q s ra rb e q => by
  unfold opB at e
  split at e
  · cases e
    cases ra
    cases rb
    exact ⟨_, _, rfl, rfl, plain_end s (.bl _) q⟩
  · cases e
theorem pu_I {C : Int → Int → Prop} [∀ i j, Decidable (C i j)] {g : Int → Int → Int} (a b d : D) (h : opI C g a b = some d) : d.pu = true := by
  unfold opI at h
  split at h
  · split at h <;> cases h
    rfl
  · cases h
theorem pu_I0 {g : Int → Int → Int} (a b d : D) (h : opI0 g a b = some d) : d.pu = true := by
  unfold opI0 at h
  split at h <;> cases h
  rfl
theorem pu_B {g : Int → Int → Bool} (a b d : D) (h : opB g a b = some d) : d.pu = true := by
  unfold opB at h
  split at h <;> cases h
  rfl
def CMod (_ j : Int) : Prop := 0 < j
def CShr (_ j : Int) : Prop := 0 ≤ j
instance (i j : Int) : Decidable (CMod i j) := inferInstanceAs (Decidable (_ < _))
instance (i j : Int) : Decidable (CShr i j) := inferInstanceAs (Decidable (_ ≤ _))
instance (i j : Int) : Decidable (CDivW i j) := inferInstanceAs (Decidable (_ ∧ _))
instance (i j : Int) : Decidable (CMul i j) := inferInstanceAs (Decidable (_ ∨ _))
instance (i j : Int) : Decidable (CPow i j) := inferInstanceAs (Decidable (_ ∧ _ ∧ _))
abbrev opSub : D → D → Option D := opI0 fun i j => i - j
abbrev opMulI : D → D → Option D := opI CMul fun i j => i * j
abbrev opMod : D → D → Option D := opI CMod fun i j => i % j
abbrev opDiv : D → D → Option D := opI CDivW fun i j => i / j
abbrev opPow : D → D → Option D := opI CPow fun i j => i ^ j.toNat
abbrev opShl : D → D → Option D := opI CPow fun i j => i * 2 ^ j.toNat
abbrev opShr : D → D → Option D := opI CShr fun i j => i / 2 ^ j.toNat
abbrev opAnd : D → D → Option D := opI0 Builtin.bitAnd
abbrev opLt : D → D → Option D := opB fun i j => decide (i < j)
abbrev opLe : D → D → Option D := opB fun i j => decide (i ≤ j)
abbrev opGt : D → D → Option D := opB fun i j => decide (j < i)
abbrev opGe : D → D → Option D := opB fun i j => decide (j ≤ i)
def unNeg (a : D) : Option D := match a with | .int i => some (.int (-i)) | _ => none
theorem ud_neg : UnD K (rU fun i => .int (-i)) unNeg := fun x a d G H L Q s ra e q => by
  unfold unNeg at e
  split at e
  · cases e
    cases ra
    exact ⟨_, rfl, plain_end s (.int _) q⟩
  · cases e
theorem pu_neg (a d : D) (h : unNeg a = some d) : d.pu = true := by
  unfold unNeg at h
  split at h <;> cases h
  rfl
/-- a + b: numbers, texts, tuples, lists -/
def opAdd (a b : D) : Option D := match a, b with
  | .int i, .int j => some (.int (i + j))
  | .str x, .str y => if x.length + y.length ≤ 1000000 then some (.str (x ++ y)) else none
  | .tup xs, .tup ys => if xs.length + ys.length ≤ 1000000 then some (.tup (xs ++ ys)) else none
  | .lst xs, .lst ys => if xs.length + ys.length ≤ 1000000 then some (.own (xs ++ ys)) else none
  | _, _ => none
def rAddS : R2 := fun x y H Q => ∃ i j, x = .str i ∧ y = .str j ∧ i.length + j.length ≤ sizeLine ∧ Q (.str (i ++ j)) H
def rAddA (K : PySem.W.Frag) : R2 := fun x y H Q => (rI0 (fun i j => .int (i + j)) x y H Q ∨ rAddS x y H Q) ∨ (rCatA K x y H Q ∨ rCat x y H Q)
theorem or_add {X : Cx} : OpR X (binaryOp .Add) (rAddA X.K) := opr_or (opr_or op_add op_add_str) (opr_or op_catA op_cat)
theorem million {n : Nat} (h : n ≤ 1000000) : n ≤ sizeLine := by
  have : sizeLine = 16777216 := sizeLine_eq
  omega
theorem od_add : OpD K (rAddA K) opAdd := fun x y a b d G H L Q s ra rb e q => by
  unfold opAdd at e
  split at e
  · cases e
    cases ra
    cases rb
    exact .inl (.inl ⟨_, _, rfl, rfl, plain_end s (.int _) q⟩)
  · split at e
    · rename_i hz
      cases e
      cases ra
      cases rb
      exact .inl (.inr ⟨_, _, rfl, rfl, million hz, plain_end s (.str _) q⟩)
    · cases e
  · split at e
    · rename_i xs ys hz
      cases e
      cases ra with
      | tup h1 r1 =>
        cases rb with
        | tup h2 r2 =>
          refine .inr (.inl ⟨_, _, _, _, rfl, rfl, s.ex.sqT h1, s.ex.sqT h2, million (by rw [r1.length, r2.length]; exact hz), fun e1 => ?_, fun e1 e2 => ?_, fun e1 e2 p hp => ?_⟩)
          · subst e1
            cases r1
            exact plain_end s (.tup h2 r2) q
          · subst e2
            cases r2
            rw [List.append_nil] at q
            exact plain_end s (.tup h1 r1) q
          · obtain ⟨z1, z2, z3⟩ := s.new (.tup _) hp
            exact q _ _ _ [] z1 z2 (.pure (.tup (sqT_of upd_same) ((r1.mono z3).append (r2.mono z3))))
    · cases e
  · split at e
    · rename_i xs ys hz
      cases e
      cases ra with
      | lst h1 r1 =>
        cases rb with
        | lst h2 r2 =>
          refine .inr (.inr ⟨_, _, _, _, rfl, rfl, s.ex _ _ h1, s.ex _ _ h2, million (by rw [r1.length, r2.length]; exact hz), fun p hp => ?_⟩)
          obtain ⟨z1, z2⟩ := s.newOwn _ hp
          exact q _ _ _ [_] z1 z2 (.own (r1.append r2).ownL)
    · cases e
  · cases e
/-- a * b: numbers, a list and a number -/
def C63 (k : Int) : Prop := -(2 ^ 63) ≤ k ∧ k < 2 ^ 63
instance (k : Int) : Decidable (C63 k) := inferInstanceAs (Decidable (_ ∧ _))
def opMul (a b : D) : Option D := match a, b with
  | .int i, .int j => if CMul i j then some (.int (i * j)) else none
  | .lst xs, .int k => if C63 k ∧ xs.length * k.toNat ≤ 1000000 then some (.own (List.replicate k.toNat xs).flatten) else none
  | _, _ => none
theorem RepL.rep {G : Hp} {vs : List V} {ds : List D} (r : RepL K G vs ds) : ∀ n, RepL K G (List.replicate n vs).flatten (List.replicate n ds).flatten
  | 0 => .nil
  | n + 1 => by
    rw [List.replicate_succ, List.replicate_succ, List.flatten_cons, List.flatten_cons]
    exact r.append (RepL.rep r n)
theorem or_mul {X : Cx} : OpR X (binaryOp .Mult) (fun x y H Q => rI CMul (fun i j => .int (i * j)) x y H Q ∨ rRep x y H Q) := opr_or op_mul op_rep
theorem od_mul : OpD K (fun x y H Q => rI CMul (fun i j => .int (i * j)) x y H Q ∨ rRep x y H Q) opMul := fun x y a b d G H L Q s ra rb e q => by
  unfold opMul at e
  split at e
  · split at e
    · rename_i hc
      cases e
      cases ra
      cases rb
      exact .inl ⟨_, _, rfl, rfl, hc, plain_end s (.int _) q⟩
    · cases e
  · split at e
    · rename_i xs k hz
      cases e
      cases rb
      cases ra with
      | lst h1 r1 =>
        refine .inr ⟨_, _, _, rfl, rfl, s.ex _ _ h1, hz.1.1, hz.1.2, million (by rw [r1.length]; exact hz.2), fun p hp => ?_⟩
        obtain ⟨z1, z2⟩ := s.newOwn _ hp
        exact q _ _ _ [_] z1 z2 (.own (r1.rep _).ownL)
    · cases e
  · cases e

/-! ### in -/
def opIn (neg : Bool) (a b : D) : Option D := match b with
  | .lst ds => if shp a && shp (.lst ds) then some (.bl (if neg then !(ds.any fun z => deq z a) else ds.any fun z => deq z a)) else none
  | .tup ds => if a.flat && ds.all D.flat then some (.bl (if neg then !(ds.any fun z => deq z a) else ds.any fun z => deq z a)) else none
  | _ => none
def rInA (K : PySem.W.Frag) (neg : Bool) : R2 := fun x y H Q => (if neg then rNotInD K x y H Q else rInD K x y H Q) ∨ rIn K neg x y H Q
theorem or_in {X : Cx} (hu : X.A.units + 65 < cLine) : OpR X (compareOp .In) (rInA X.K false) := opr_or (op_inD hu) op_in_seq
theorem or_notin {X : Cx} (hu : X.A.units + 65 < cLine) : OpR X (compareOp .NotIn) (rInA X.K true) := opr_or (op_notInD hu) op_notIn_seq
theorem toPL_any (a : D) : ∀ ds : List D, ((toPL ds).any fun z => PyData.eqv z (toP a)) = ds.any fun z => deq z a
  | [] => rfl
  | d :: ds => by rw [toPL, List.any_cons, List.any_cons, toPL_any a ds]; rfl
theorem flat_rep {G : Hp} {v : V} {d : D} (r : Rep K G v d) (f : d.flat = true) : flatV v = true := by cases r <;> first | rfl | cases f
theorem eqV_deq {G : Hp} {x y : V} {a b : D} (r : Rep K G x a) (r' : Rep K G y b) (f : a.flat = true) (f' : b.flat = true) : eqV y x = deq b a := by
  cases r <;> first | (cases f; done) | (cases r' <;> first | (cases f'; done) | rfl | (unfold deq; simp only [toP, PyData.eqv, eqV]))
theorem inV_deq {G : Hp} {x : V} {a : D} (r : Rep K G x a) (f : a.flat = true) : ∀ {vs : List V} {ds : List D}, RepL K G vs ds → ds.all D.flat = true → inV x vs = (ds.any fun z => deq z a) ∧ vs.all flatV = true
  | _, _, .nil, _ => ⟨rfl, rfl⟩
  | _, _, .cons h rr, z => by
    rw [List.all_cons, Bool.and_eq_true] at z
    obtain ⟨q1, q2⟩ := inV_deq r f rr z.2
    refine ⟨?_, by rw [List.all_cons, flat_rep h z.1, q2]; rfl⟩
    unfold inV at q1 ⊢
    rw [List.any_cons, List.any_cons, q1, eqV_deq r h f z.1]
theorem od_in {neg : Bool} : OpD K (rInA K neg) (opIn neg) := fun x y a b d G H L Q s ra rb e q => by
  unfold opIn at e
  split at e
  · rename_i ds
    split at e
    · rename_i h
      cases e
      obtain ⟨⟨n1, s1⟩, n2, s2⟩ := shp_of h
      have h2 : Dp K H y (.list (toPL ds)) := rb.dp s.ex n2
      left
      cases neg with
      | true =>
        rw [if_pos rfl] at q ⊢
        rw [← toPL_any] at q
        exact ⟨_, _, ra.dp s.ex n1, h2, s1, s2, plain_end s (.bl _) q⟩
      | false =>
        rw [if_neg Bool.false_ne_true] at q ⊢
        rw [← toPL_any] at q
        exact ⟨_, _, ra.dp s.ex n1, h2, s1, s2, plain_end s (.bl _) q⟩
    · cases e
  · rename_i ds
    split at e
    · rename_i h
      cases e
      rw [Bool.and_eq_true] at h
      cases rb with
      | tup hs hr =>
        obtain ⟨q1, q2⟩ := inV_deq ra h.1 hr h.2
        right
        refine ⟨_, _, rfl, .inr (s.ex.sqT hs), flat_rep ra h.1, q2, ?_⟩
        rw [q1]
        exact plain_end s (.bl _) q
    · cases e
  · cases e
theorem pu_in {neg : Bool} (a b d : D) (h : opIn neg a b = some d) : d.pu = true := by
  unfold opIn at h
  split at h
  · split at h <;> cases h
    rfl
  · split at h <;> cases h
    rfl
  · cases h
/-! ### is None -/
def opIsN (neg : Bool) (a b : D) : Option D := match a, b with
  | .non, .non => some (.bl (!neg))
  | _, .non => some (.bl neg)
  | _, _ => none
def rIsN (neg : Bool) : R2 := fun x y H Q => y = .non ∧ Q (.bl (if neg then !decide (x = .non) else decide (x = .non))) H
theorem od_isN {neg : Bool} : OpD K (rIsN neg) (opIsN neg) := fun x y a b d G H L Q s ra rb e q => by
  unfold opIsN at e
  split at e
  · cases e
    cases ra
    cases rb
    refine ⟨rfl, ?_⟩
    have z : (if neg then !decide (V.non = V.non) else decide (V.non = V.non)) = !neg := by cases neg <;> rfl
    rw [z]
    exact plain_end s (.bl _) q
  · rename_i hn
    cases e
    cases rb
    refine ⟨rfl, ?_⟩
    have hx : x ≠ .non := fun z => by subst z; cases ra; exact hn rfl
    have z : (if neg then !decide (x = V.non) else decide (x = V.non)) = neg := by rw [decide_eq_false hx]; cases neg <;> rfl
    rw [z]
    exact plain_end s (.bl _) q
  · cases e
theorem pu_isN {neg : Bool} (a b d : D) (h : opIsN neg a b = some d) : d.pu = true := by
  unfold opIsN at h
  split at h <;> cases h <;> rfl
theorem or_isN {X : Cx} : OpR X (compareOp .Is) (rIsN false) := op_isN
theorem or_notN {X : Cx} : OpR X (compareOp .IsNot) (rIsN true) := op_notN

/-! ### an item, a part -/
def opIx (a b : D) : Option D := match a, b with
  | .lst ds, .int k => atI ds k
  | .tup ds, .int k => atI ds k
  | .scr ns, .int k => (atI ns k).map D.int
  | .str z, .int k => if z.length ≤ 1000000 then (atI z.cps.toList k).map fun c => .str ⟨#[c]⟩ else none
  | _, _ => none
theorem atI_rep {G : Hp} {vs : List V} {ds : List D} (r : RepL K G vs ds) {k : Int} {d : D} (h : atI ds k = some d) : ∃ v, atI vs k = some v ∧ Rep K G v d := by
  unfold atI at h ⊢
  obtain ⟨j, e1, e2⟩ := Option.bind_eq_some_iff.mp h
  obtain ⟨v, q1, q2⟩ := r.get e2
  rw [r.length, e1]
  exact ⟨v, q1, q2⟩
theorem atI_map {α β : Type} {f : α → β} {xs : List α} {k : Int} : atI (xs.map f) k = (atI xs k).map f := by
  unfold atI
  rw [List.length_map]
  cases ixN xs.length k with
  | none => rfl
  | some j => show (xs.map f)[j]? = Option.map f xs[j]?; rw [List.getElem?_map]
theorem od_ix : OpD K (rIx K) opIx := fun x y a b d G H L Q s ra rb e q => by
  unfold opIx at e
  split at e
  · cases rb
    cases ra with
    | lst hs hr =>
      obtain ⟨v, q1, q2⟩ := atI_rep hr e
      exact .inl ⟨_, _, _, _, rfl, rfl, s.ex.sqL (sqL_of hs), q1, plain_end s q2 q⟩
  · cases rb
    cases ra with
    | tup hs hr =>
      obtain ⟨v, q1, q2⟩ := atI_rep hr e
      exact .inr (.inl ⟨_, _, _, _, rfl, rfl, s.ex.sqT hs, q1, plain_end s q2 q⟩)
  · cases rb
    cases ra with
    | scr hs =>
      obtain ⟨i, e1, e2⟩ := Option.map_eq_some_iff.mp e
      subst e2
      exact .inl ⟨_, _, _, _, rfl, rfl, s.ex.sqL hs, by rw [atI_map, e1]; rfl, plain_end s (.int i) q⟩
  · split at e
    · rename_i hz
      cases rb
      cases ra
      obtain ⟨c, e1, e2⟩ := Option.map_eq_some_iff.mp e
      subst e2
      exact .inr (.inr ⟨_, _, _, rfl, rfl, million hz, e1, plain_end s (.str _) q⟩)
    · cases e
  · cases e
end
section
variable {X : Cx} {a b e : Expr} {f g h : DE} {pos p2 : Pos}
theorem sn_ix (ha : SE X a f) (hb : SE X b g) (hs : PlainIx b := by exact fun _ _ => rfl) : SN X (.Subscript a b pos) (dOp opIx f g) := pe_weak (pe_ix ix_seq ha hb hs) fun _ _ _ => tN_op od_ix
/-- where the item is pure -/
theorem se_ix (ha : SE X a f) (hb : SE X b g) (hs : PlainIx b := by exact fun _ _ => rfl) : SE X (.Subscript a b pos) (dFz (dOp opIx f g)) := se_fz (sn_ix ha hb hs)
/-- an item of an own list -/
def dIxO (i : Nat) (g : DE) : DE := fun ρ => match ρ[i]? with
  | some (some _) => (g ρ).bind fun q => match q.2[i]?, q.1 with
    | some (some (.own ds)), .int k => (atI ds k).bind fun d => if d.pu = true then some (d, q.2) else none
    | some (some (.lst ds)), .int k => (atI ds k).bind fun d => if d.pu = true then some (d, q.2) else none
    | _, _ => none
  | _ => none
theorem OwnL.at {K : PySem.W.Frag} {G : Hp} : ∀ {vs : List V} {ds : List D} {L : Fp} {i : Nat} {d : D}, OwnL K G vs ds L → ds[i]? = some d → ∃ v M, vs[i]? = some v ∧ Own K G v d M
  | _, _, _, _, _, .nil, h => by simp at h
  | _, _, _, 0, _, .cons o r, h => by simp at h; subst h; exact ⟨_, _, rfl, o⟩
  | _, _, _, i + 1, _, .cons o r, h => OwnL.at (i := i) r (by simpa using h)
theorem se_ixO (i : Nat) {x : Str} {px : Pos} (hb : SE X b g) (hs : PlainIx b := by exact fun _ _ => rfl) (hN : X.N[i]? = some x := by rfl) (hv : Vis X.env.scope x := by first | exact Or.inl rfl | exact Or.inr (Or.inl rfl) | exact Or.inr (Or.inr rfl)) (hd : (x == ("__debug__" : Str)) = false := by decide)
    (hcd : (x == ("__classdict__" : Str)) = false := by decide) : SE X (.Subscript (.Name x px) b pos) (dIxO i g) := pe_weak (pe_ix ix_seq (pe_var hN hv hd hcd) hb hs) fun σ H Q ⟨G, ρ, L, d, ρ', h1, h2, h3, q⟩ => by
  unfold dIxO at h3
  split at h3
  · rename_i d0 hd0
    obtain ⟨⟨d1, ρ1⟩, e1, h3⟩ := Option.bind_eq_some_iff.mp h3
    dsimp only at h3
    obtain ⟨ds, k, hds, rfl, h5⟩ : ∃ ds k, (ρ1[i]? = some (some (.own ds)) ∨ ρ1[i]? = some (some (.lst ds))) ∧ d1 = .int k ∧ ((atI ds k).bind fun d => if d.pu = true then some (d, ρ1) else none) = some (d, ρ') := by
      split at h3
      · exact ⟨_, _, .inl (by assumption), rfl, h3⟩
      · exact ⟨_, _, .inr (by assumption), rfl, h3⟩
      · cases h3
    obtain ⟨d2, e2, h5⟩ := Option.bind_eq_some_iff.mp h5
    split at h5
    · rename_i hp
      cases h5
      obtain ⟨v0, M0, R0, s1, _⟩ := h2.at hd0
      refine ⟨v0, s1, G, ρ, L, _, _, h1, h2, e1, fun y G1 H1 L1 a1 b1 c1 r1 => ?_⟩
      cases r1
      rcases hds with hds | hds
      · obtain ⟨v, M, R, t1, t2, t3, _⟩ := c1.at hds
        rw [s1] at t1
        cases t1
        cases t2 with
        | own ow =>
          unfold atI at e2
          obtain ⟨j, e3, e4⟩ := Option.bind_eq_some_iff.mp e2
          obtain ⟨w, M2, q1, q2⟩ := ow.at e4
          have hh := a1.hold _ _ (t3.mem_iff.mpr (List.mem_append.mpr (.inl List.mem_cons_self)))
          refine .inl ⟨_, _, k, w, rfl, rfl, sqL_of hh, ?_, q w G1 H1 L1 a1 b1 c1 (q2.rep hp).1⟩
          unfold atI
          rw [ow.length, e3]
          exact q1
        | pure r => cases r
      · obtain ⟨v, M, R, t1, t2, t3, _⟩ := c1.at hds
        rw [s1] at t1
        cases t1
        cases (t2.rep rfl).1 with
        | lst hs hr =>
          obtain ⟨w, q1, q2⟩ := atI_rep hr e2
          exact .inl ⟨_, _, k, w, rfl, rfl, a1.ex.sqL (sqL_of hs), q1, q w G1 H1 L1 a1 b1 c1 q2⟩
    · cases h5
  · cases h3
/-- the parts of a slice -/
abbrev DO := Ev → Option (Option Int × Ev)
def EndO (K : PySem.W.Frag) (σ : L2.St) (G H : Hp) (L : Fp) (ρ : Ev) (Q : Hp → Prop) : Prop := EndB K σ G H L ρ Q
def tO (K : PySem.W.Frag) (f : DO) : TO := fun σ H Q => ∃ G ρ L o ρ', Sta G H L ∧ Sl K G σ ρ L ∧ f ρ = some (o, ρ') ∧ EndB K σ G H L ρ' (Q o)
def SO (X : Cx) (e : Option Expr) (f : DO) : Prop := PO X e (tO X.K f)
def oNo : DO := fun ρ => some (none, ρ)
def oSo (f : DE) : DO := fun ρ => (f ρ).bind fun p => match p.1 with | .int i => some (some i, p.2) | _ => none
theorem so_none : SO X none oNo := po_weak po_none fun σ H Q ⟨G, ρ, L, o, ρ', h1, h2, h3, q⟩ => by
  cases h3
  exact q G H L h1 .refl h2
theorem so_some (he : SE X e f) : SO X (some e) (oSo f) := po_weak (po_some he) fun σ H Q ⟨G, ρ, L, o, ρ', h1, h2, h3, q⟩ => by
  unfold oSo at h3
  obtain ⟨⟨d1, ρ1⟩, e1, h3⟩ := Option.bind_eq_some_iff.mp h3
  dsimp only at h3
  split at h3
  · cases h3
    refine ⟨G, ρ, L, _, _, h1, h2, e1, fun v G' H' L' a b c r => ?_⟩
    cases r
    exact ⟨_, rfl, q G' H' L' a b c⟩
  · cases h3
def cutD (ds : List D) (lo hi : Option Int) : List D := (ds.drop (HT.sIx ds.length 0 lo)).take (HT.sIx ds.length ds.length hi - HT.sIx ds.length 0 lo)
def opSl (a : D) (lo hi : Option Int) : Option D := match a with
  | .lst ds => some (.own (cutD ds lo hi))
  | .tup ds => some (.tup (cutD ds lo hi))
  | _ => none
def dSl (f : DE) (l h : DO) : DE := fun ρ => (f ρ).bind fun p => (l p.2).bind fun q => (h q.2).bind fun z => (opSl p.1 q.1 z.1).bind fun d => some (d, z.2)
def rSlB (K : PySem.W.Frag) : V → Option Int → Option Int → Hp → VK → Prop := fun x lo hi H Q => rSlL K x lo hi H Q ∨ rSlA K x lo hi H Q
theorem cut_whole {α : Type} (xs : List α) {lo hi : Option Int} (h : HT.sIx xs.length 0 lo = 0 ∧ HT.sIx xs.length xs.length hi = xs.length) : (xs.drop (HT.sIx xs.length 0 lo)).take (HT.sIx xs.length xs.length hi - HT.sIx xs.length 0 lo) = xs := by
  rw [h.1, h.2, List.drop_zero, Nat.sub_zero, List.take_length]
theorem RepL.cut {K : PySem.W.Frag} {G : Hp} {vs : List V} {ds : List D} (r : RepL K G vs ds) (lo hi : Option Int) : RepL K G (cutV vs lo hi) (cutD ds lo hi) := by
  unfold cutV cutD
  rw [r.length]
  exact (r.drop _).take _
theorem sn_sl {lo hi : Option Expr} {l h : DO} (ha : SE X a f) (hl : SO X lo l) (hh : SO X hi h) : SN X (.Subscript a (.Slice lo hi none p2) pos) (dSl f l h) :=
  pe_weak (pe_slice (r := rSlB X.K) (sl_list.or sl_tupA) ha hl hh) fun σ H Q ⟨G, ρ, L, d, ρ', h1, h2, h3, q⟩ => by
    unfold dSl at h3
    obtain ⟨⟨d1, ρ1⟩, e1, h3⟩ := Option.bind_eq_some_iff.mp h3
    obtain ⟨⟨o2, ρ2⟩, e2, h3⟩ := Option.bind_eq_some_iff.mp h3
    obtain ⟨⟨o3, ρ3⟩, e3, h3⟩ := Option.bind_eq_some_iff.mp h3
    obtain ⟨d4, e4, h3⟩ := Option.bind_eq_some_iff.mp h3
    cases h3
    refine ⟨G, ρ, L, d1, ρ1, h1, h2, e1, fun v G1 H1 L1 a1 b1 c1 r1 => ⟨G1, ρ1, L1, o2, ρ2, a1, c1, e2, fun G2 H2 L2 a2 b2 c2 => ⟨G2, ρ2, L2, o3, _, a2, c2, e3, fun G3 H3 L3 a3 b3 c3 => ?_⟩⟩⟩
    have r3 := r1.mono (b2.ex.trans b3.ex)
    unfold opSl at e4
    dsimp only at e4
    split at e4
    · cases e4
      cases r3 with
      | lst hs hr =>
        refine .inl ⟨_, _, rfl, a3.ex.sqL (sqL_of hs), fun p hp => ?_⟩
        obtain ⟨z1, z2⟩ := a3.newOwn _ hp
        exact q _ _ _ [_] L3 z1 (((b1.trans b2).trans b3).trans z2) c3 (.own (hr.cut o2 o3).ownL)
    · cases e4
      cases r3 with
      | tup hs hr =>
        refine .inr ⟨_, _, rfl, a3.ex.sqT hs, fun hw => ?_, fun hw p hp => ?_⟩
        · refine q _ G3 H3 [] L3 a3 ((b1.trans b2).trans b3) c3 (.pure (.tup hs ?_))
          have z : cutD _ o2 o3 = _ := cut_whole _ (by rw [hr.length] at hw; exact hw)
          rw [z]
          exact hr
        · obtain ⟨z1, z2, z3⟩ := a3.new (.tup _) hp
          exact q _ _ _ [] L3 z1 (((b1.trans b2).trans b3).trans z2) (c3.mono z3) (.pure (.tup (sqT_of upd_same) ((hr.cut o2 o3).mono z3)))
    · cases e4
def dRevL (f : DE) : DE := fun ρ => (f ρ).bind fun p => match p.1 with | .lst ds => some (.own ds.reverse, p.2) | _ => none
theorem sn_revL {k : Nat} {p1 p2 p3 : Pos} (he : SE X e f) : SN X (.Subscript e (.Slice none none (some (.UnaryOp .USub (.Constant (.int 1) k p1) p2)) p3) pos) (dRevL f) := pe_weak (pe_revL he) fun σ H Q ⟨G, ρ, L, d, ρ', h1, h2, h3, q⟩ => by
  unfold dRevL at h3
  obtain ⟨⟨d1, ρ1⟩, e1, h3⟩ := Option.bind_eq_some_iff.mp h3
  dsimp only at h3
  split at h3
  · cases h3
    refine ⟨G, ρ, L, _, _, h1, h2, e1, fun v G' H' L' a b c r => ?_⟩
    cases r with
    | lst hs hr =>
      refine ⟨_, _, rfl, a.ex.sqL (sqL_of hs), fun p hp => ?_⟩
      obtain ⟨z1, z2⟩ := a.newOwn _ hp
      exact q _ _ _ [_] L' z1 (b.trans z2) c (.own hr.reverse.ownL)
  · cases h3
end

/-! ### built-ins by name -/
def CallD (K : PySem.W.Frag) (R : List V → Hp → VK → Prop) (r : List D → Option D) : Prop :=
  ∀ vs ds d G H L (Q : VK), Sta G H L → RepL K G vs ds → r ds = some d → (∀ v G' H' M, Sta G' H' (M ++ L) → Stp G H L G' H' (M ++ L) → Own K G' v d M → Q v H') → R vs H Q
def dBi (r : List D → Option D) (f : DA) : DE := fun ρ => (f ρ).bind fun p => (r p.1).bind fun d => some (d, p.2)
def dBiL (r : List D → Option D) (g : DR) : DE := fun ρ => (g ρ).bind fun p => (lentR p.2 p.1).bind fun ds => (r ds).bind fun d => if d.flat = true then some (d, p.2) else none
theorem callr_or {X : Cx} {f : Value} {R R' : List V → Hp → VK → Prop} (h : CallR X f R) (h' : CallR X f R') : CallR X f (fun xs H Q => R xs H Q ∨ R' xs H Q) := fun pins s σ H xs us Q I r q => q.elim (h pins s σ H xs us Q I r) (h' pins s σ H xs us Q I r)
section
variable {X : Cx} {e : Expr} {es : List Expr} {f : DA} {g : DR} {p pos : Pos} {x : Str} {R : List V → Hp → VK → Prop} {r : List D → Option D} {id T : String}
theorem tN_bi (cd : CallD X.K R r) {σ : L2.St} {H : Hp} {Q : VK} (hq : tN X.K (dBi r f) σ H Q) : tCB R (tAs X.K f) σ H Q := by
  obtain ⟨G, ρ, L, d, ρ', h1, h2, h3, q⟩ := hq
  unfold dBi at h3
  obtain ⟨⟨ds, ρ1⟩, e1, h3⟩ := Option.bind_eq_some_iff.mp h3
  obtain ⟨d2, e2, h3⟩ := Option.bind_eq_some_iff.mp h3
  cases h3
  exact ⟨G, ρ, L, ds, _, h1, h2, e1, fun vs G1 H1 L1 a1 b1 c1 r1 => cd vs ds _ G1 H1 L1 Q a1 r1 e2 fun v G' H' M a b o => q v G' H' M L1 a (b1.trans b) (c1.mono b.ex) o⟩
theorem tE_biL (cd : CallD X.K R r) {σ : L2.St} {H : Hp} {Q : VK} (hq : tE X.K (dBiL r g) σ H Q) : tCB R (tRs X.K g) σ H Q := by
  obtain ⟨G, ρ, L, d, ρ', h1, h2, h3, q⟩ := hq
  unfold dBiL at h3
  obtain ⟨⟨as, ρ1⟩, e1, h3⟩ := Option.bind_eq_some_iff.mp h3
  obtain ⟨ds, e2, h3⟩ := Option.bind_eq_some_iff.mp h3
  obtain ⟨d3, e3, h3⟩ := Option.bind_eq_some_iff.mp h3
  dsimp only at h3 e2 e3
  split at h3
  · rename_i hf
    cases h3
    refine ⟨G, ρ, L, as, _, h1, h2, e1, fun vs G1 H1 L1 a1 b1 c1 r1 => ?_⟩
    have a0 : Sta G1 H1 (L1 ++ []) := by rw [List.append_nil]; exact a1
    obtain ⟨f1, f2, f3⟩ := a0.freeze
    have hin : ∀ a us, (a, us) ∈ L1 → addF G1 L1 a = some us := fun a us m => addF_in a1.nd m
    have rl := r1.lent f3 c1 hin e2
    refine cd vs ds _ (addF G1 L1) H1 [] Q f1 rl e3 fun v G' H' M a b o => ?_
    have rv := (o.rep (by cases d <;> first | rfl | cases hf)).1
    have s9 : Sta G1 H' L1 := ⟨f3.trans (b.ex.trans a.ex), fun p us m => a.ex p _ (b.ex p _ (hin p us m)), a1.out, a1.nd⟩
    have p9 : Stp G1 H1 L1 G1 H' L1 := ⟨Ex.refl _, fun a o ha ga ka => by
      obtain ⟨y1, _, _⟩ := b.fr a o ha (by rw [addF_out ka]; exact ga) not_key_nil
      exact ⟨y1, ga, ka⟩⟩
    exact q v G1 H' L1 s9 (b1.trans p9) c1 (rv.of_flat hf)
  · cases h3
theorem sn_bi (hc : CallR X (.builtin id) R) (cd : CallD X.K R r) (hm : X.mg x = none) (hv : bootBuiltins x = some (.builtin id)) (ha : SA X (e :: es) f) (hg : Gl X x := by rfl) (hn : x ≠ "__name__" := by decide) (hdb : (x == ("__debug__" : Str)) = false := by decide)
    (he : starEach (e :: es) X.env = (false, eval e X.env) :: starEach es X.env := by rfl) (hpl : (backTo pos (starEach es X.env)).any (·.1) = false := by rfl) : SN X (.Call (.Name x p) (e :: es) [] pos) (dBi r f) :=
  pe_weak (pe_callB hc hg hm hv ha hn hdb he hpl) fun _ _ _ => tN_bi cd
theorem sn_ty (hc : CallR X (.type T) R) (cd : CallD X.K R r) (hm : X.mg x = none) (hv : bootBuiltins x = some (.type T)) (ha : SA X (e :: es) f) (hg : Gl X x := by rfl) (hn : x ≠ "__name__" := by decide) (hdb : (x == ("__debug__" : Str)) = false := by decide)
    (he : starEach (e :: es) X.env = (false, eval e X.env) :: starEach es X.env := by rfl) (hpl : (backTo pos (starEach es X.env)).any (·.1) = false := by rfl) : SN X (.Call (.Name x p) (e :: es) [] pos) (dBi r f) :=
  pe_weak (pe_callTy hc hg hm hv ha hn hdb he hpl) fun _ _ _ => tN_bi cd
theorem se_biL (hc : CallR X (.builtin id) R) (cd : CallD X.K R r) (hm : X.mg x = none) (hv : bootBuiltins x = some (.builtin id)) (ha : SR X (e :: es) g) (hg : Gl X x := by rfl) (hn : x ≠ "__name__" := by decide) (hdb : (x == ("__debug__" : Str)) = false := by decide)
    (he : starEach (e :: es) X.env = (false, eval e X.env) :: starEach es X.env := by rfl) (hpl : (backTo pos (starEach es X.env)).any (·.1) = false := by rfl) : SE X (.Call (.Name x p) (e :: es) [] pos) (dBiL r g) :=
  pe_weak (pe_callB hc hg hm hv ha hn hdb he hpl) fun _ _ _ => tE_biL cd
/-- a pure answer -/
theorem se_pu {e : Expr} {f : DE} (s : SN X e f) (hp : ∀ ρ d ρ', f ρ = some (d, ρ') → d.pu = true) : SE X e f := pe_weak s fun σ H Q ⟨G, ρ, L, d, ρ', h1, h2, h3, q⟩ => ⟨G, ρ, L, d, ρ', h1, h2, h3, fun v G' H' M L' a b c r => by
  obtain ⟨r9, rfl⟩ := r.rep (hp _ _ _ h3)
  exact q v G' H' L' a b c r9⟩
theorem pu_bi (h : ∀ ds d, r ds = some d → d.pu = true) : ∀ ρ d ρ', dBi r f ρ = some (d, ρ') → d.pu = true := fun ρ d ρ' e => by
  unfold dBi at e
  obtain ⟨⟨ds, ρ1⟩, e1, e⟩ := Option.bind_eq_some_iff.mp e
  obtain ⟨d2, e2, e⟩ := Option.bind_eq_some_iff.mp e
  cases e
  exact h _ _ e2
end
/-! the built-ins -/
def biLen (ds : List D) : Option D := match ds with
  | [.lst xs] => some (.int xs.length) | [.tup xs] => some (.int xs.length) | [.scr xs] => some (.int xs.length)
  | [.str z] => if z.length ≤ 1000000 then some (.int z.length) else none
  | _ => none
def biAbs (ds : List D) : Option D := match ds with | [.int i] => some (.int (if i < 0 then -i else i)) | _ => none
def biMin2 (ds : List D) : Option D := match ds with | [.int i, .int j] => some (.int (if j < i then j else i)) | _ => none
def biMax2 (ds : List D) : Option D := match ds with | [.int i, .int j] => some (.int (if j > i then j else i)) | _ => none
def biInt (ds : List D) : Option D := match ds with | [.int i] => some (.int i) | [.bl b] => some (.int (if b then 1 else 0)) | _ => none
def bools : List D → Option (List Bool)
  | [] => some []
  | .bl b :: ds => (bools ds).bind fun r => some (b :: r)
  | _ => none
def intsD : List D → Option (List Int)
  | [] => some []
  | .int b :: ds => (intsD ds).bind fun r => some (b :: r)
  | _ => none
def biAll (ds : List D) : Option D := match ds with | [.lst xs] => (bools xs).bind fun bs => some (.bl (bs.all id)) | _ => none
def biAny (ds : List D) : Option D := match ds with | [.lst xs] => (bools xs).bind fun bs => some (.bl (bs.any id)) | _ => none
def biSum (ds : List D) : Option D := match ds with | [.lst xs] => (intsD xs).bind fun bs => some (.int bs.sum) | _ => none
def biList (ds : List D) : Option D := match ds with | [.lst xs] => some (.own xs) | [.tup xs] => some (.own xs) | _ => none
def biTuple (ds : List D) : Option D := match ds with | [.lst xs] => some (.tup xs) | [.tup xs] => some (.tup xs) | _ => none
section
variable {K : PySem.W.Frag} {X : Cx}
theorem bools_rep {G : Hp} : ∀ {vs : List V} {ds : List D} {bs : List Bool}, RepL K G vs ds → bools ds = some bs → vs = bs.map V.bl
  | _, _, _, .nil, e => by cases e; rfl
  | _, _, bs, .cons h r, e => by
    cases h <;> try (cases e; done)
    rw [bools] at e
    obtain ⟨r', e1, e⟩ := Option.bind_eq_some_iff.mp e
    cases e
    rw [bools_rep r e1]
    rfl
theorem ints_rep {G : Hp} : ∀ {vs : List V} {ds : List D} {bs : List Int}, RepL K G vs ds → intsD ds = some bs → vs = bs.map V.int
  | _, _, _, .nil, e => by cases e; rfl
  | _, _, bs, .cons h r, e => by
    cases h <;> try (cases e; done)
    rw [intsD] at e
    obtain ⟨r', e1, e⟩ := Option.bind_eq_some_iff.mp e
    cases e
    rw [ints_rep r e1]
    rfl
theorem cd_len : CallD K (fun xs H Q => ∃ x n, xs = [x] ∧ LenV K x H n ∧ Q (.int n) H) biLen := fun vs ds d G H L Q s r e q => by
  unfold biLen at e
  split at e
  · cases e
    cases r with
    | cons r1 r =>
      cases r
      cases r1 with
      | lst hs hr => exact ⟨_, _, rfl, .inl ⟨_, s.ex.sqL (sqL_of hs), rfl⟩, by rw [hr.length]; exact plain_end s (.int _) q⟩
  · cases e
    cases r with
    | cons r1 r =>
      cases r
      cases r1 with
      | tup hs hr => exact ⟨_, _, rfl, .inr ⟨_, s.ex.sqT hs, rfl⟩, by rw [hr.length]; exact plain_end s (.int _) q⟩
  · cases e
    cases r with
    | cons r1 r =>
      cases r
      cases r1 with
      | scr hs => exact ⟨_, _, rfl, .inl ⟨_, s.ex.sqL hs, rfl⟩, by rw [List.length_map]; exact plain_end s (.int _) q⟩
  · split at e
    · rename_i hz
      cases e
      cases r with
      | cons r1 r =>
        cases r
        cases r1
        exact ⟨_, _, rfl, ⟨million hz, rfl⟩, plain_end s (.int _) q⟩
    · cases e
  · cases e
theorem pu_len (ds : List D) (d : D) (h : biLen ds = some d) : d.pu = true := by
  unfold biLen at h
  split at h
  · cases h; rfl
  · cases h; rfl
  · cases h; rfl
  · split at h <;> cases h
    rfl
  · cases h
theorem cd_abs : CallD K (fun xs H Q => ∃ i, xs = [.int i] ∧ Q (.int (if i < 0 then -i else i)) H) biAbs := fun vs ds d G H L Q s r e q => by
  unfold biAbs at e
  split at e
  · cases e
    cases r with
    | cons r1 r =>
      cases r
      cases r1
      exact ⟨_, rfl, plain_end s (.int _) q⟩
  · cases e
theorem pu_abs (ds : List D) (d : D) (h : biAbs ds = some d) : d.pu = true := by unfold biAbs at h; split at h <;> cases h; rfl
theorem cd_min2 : CallD K (fun xs H Q => ∃ i j, xs = [.int i, .int j] ∧ Q (.int (if j < i then j else i)) H) biMin2 := fun vs ds d G H L Q s r e q => by
  unfold biMin2 at e
  split at e
  · cases e
    cases r with
    | cons r1 r =>
      cases r with
      | cons r2 r =>
        cases r
        cases r1
        cases r2
        exact ⟨_, _, rfl, plain_end s (.int _) q⟩
  · cases e
theorem pu_min2 (ds : List D) (d : D) (h : biMin2 ds = some d) : d.pu = true := by unfold biMin2 at h; split at h <;> cases h; rfl
theorem cd_max2 : CallD K (fun xs H Q => ∃ i j, xs = [.int i, .int j] ∧ Q (.int (if j > i then j else i)) H) biMax2 := fun vs ds d G H L Q s r e q => by
  unfold biMax2 at e
  split at e
  · cases e
    cases r with
    | cons r1 r =>
      cases r with
      | cons r2 r =>
        cases r
        cases r1
        cases r2
        exact ⟨_, _, rfl, plain_end s (.int _) q⟩
  · cases e
theorem pu_max2 (ds : List D) (d : D) (h : biMax2 ds = some d) : d.pu = true := by unfold biMax2 at h; split at h <;> cases h; rfl
theorem cd_int : CallD K (fun xs H Q => (∃ i, xs = [.int i] ∧ Q (.int i) H) ∨ ∃ k, xs = [.bl k] ∧ Q (.int (if k then 1 else 0)) H) biInt := fun vs ds d G H L Q s r e q => by
  unfold biInt at e
  split at e
  · cases e
    cases r with
    | cons r1 r =>
      cases r
      cases r1
      exact .inl ⟨_, rfl, plain_end s (.int _) q⟩
  · cases e
    cases r with
    | cons r1 r =>
      cases r
      cases r1
      exact .inr ⟨_, rfl, plain_end s (.int _) q⟩
  · cases e
theorem pu_int (ds : List D) (d : D) (h : biInt ds = some d) : d.pu = true := by unfold biInt at h; split at h <;> cases h <;> rfl
theorem cd_all : CallD K (rAll K) biAll := fun vs ds d G H L Q s r e q => by
  unfold biAll at e
  split at e
  · obtain ⟨bs, e1, e⟩ := Option.bind_eq_some_iff.mp e
    cases e
    cases r with
    | cons r1 r =>
      cases r
      cases r1 with
      | lst hs hr =>
        have z := bools_rep hr e1
        subst z
        exact ⟨_, bs, rfl, s.ex.sqL (sqL_of hs), plain_end s (.bl _) q⟩
  · cases e
theorem pu_all (ds : List D) (d : D) (h : biAll ds = some d) : d.pu = true := by
  unfold biAll at h
  split at h
  · obtain ⟨bs, e1, h⟩ := Option.bind_eq_some_iff.mp h
    cases h
    rfl
  · cases h
theorem cd_any : CallD K (rAny K) biAny := fun vs ds d G H L Q s r e q => by
  unfold biAny at e
  split at e
  · obtain ⟨bs, e1, e⟩ := Option.bind_eq_some_iff.mp e
    cases e
    cases r with
    | cons r1 r =>
      cases r
      cases r1 with
      | lst hs hr =>
        have z := bools_rep hr e1
        subst z
        exact ⟨_, bs, rfl, s.ex.sqL (sqL_of hs), plain_end s (.bl _) q⟩
  · cases e
theorem pu_any (ds : List D) (d : D) (h : biAny ds = some d) : d.pu = true := by
  unfold biAny at h
  split at h
  · obtain ⟨bs, e1, h⟩ := Option.bind_eq_some_iff.mp h
    cases h
    rfl
  · cases h
theorem cd_sum : CallD K (rSum K) biSum := fun vs ds d G H L Q s r e q => by
  unfold biSum at e
  split at e
  · obtain ⟨bs, e1, e⟩ := Option.bind_eq_some_iff.mp e
    cases e
    cases r with
    | cons r1 r =>
      cases r
      cases r1 with
      | lst hs hr =>
        have z := ints_rep hr e1
        subst z
        exact ⟨_, bs, rfl, s.ex.sqL (sqL_of hs), plain_end s (.int _) q⟩
  · cases e
theorem pu_sum (ds : List D) (d : D) (h : biSum ds = some d) : d.pu = true := by
  unfold biSum at h
  split at h
  · obtain ⟨bs, e1, h⟩ := Option.bind_eq_some_iff.mp h
    cases h
    rfl
  · cases h
theorem cd_list : CallD K (fun xs H Q => ∃ p ys, xs = [.ref p] ∧ (SqL K H p ys ∨ SqT K H p ys) ∧ ∀ l, H l = none → Q (.ref l) (upd H l (.lst ys))) biList := fun vs ds d G H L Q s r e q => by
  unfold biList at e
  split at e
  · cases e
    cases r with
    | cons r1 r =>
      cases r
      cases r1 with
      | lst hs hr =>
        refine ⟨_, _, rfl, .inl (s.ex.sqL (sqL_of hs)), fun p hp => ?_⟩
        obtain ⟨z1, z2⟩ := s.newOwn _ hp
        exact q _ _ _ [_] z1 z2 (.own hr.ownL)
  · cases e
    cases r with
    | cons r1 r =>
      cases r
      cases r1 with
      | tup hs hr =>
        refine ⟨_, _, rfl, .inr (s.ex.sqT hs), fun p hp => ?_⟩
        obtain ⟨z1, z2⟩ := s.newOwn _ hp
        exact q _ _ _ [_] z1 z2 (.own hr.ownL)
  · cases e
theorem cd_tuple : CallD K (fun xs H Q => ∃ p ys, xs = [.ref p] ∧ ((SqL K H p ys ∧ ∀ l, H l = none → Q (.ref l) (upd H l (.tup ys))) ∨ (SqT K H p ys ∧ Q (.ref p) H))) biTuple := fun vs ds d G H L Q s r e q => by
  unfold biTuple at e
  split at e
  · cases e
    cases r with
    | cons r1 r =>
      cases r
      cases r1 with
      | lst hs hr =>
        refine ⟨_, _, rfl, .inl ⟨s.ex.sqL (sqL_of hs), fun p hp => ?_⟩⟩
        obtain ⟨z1, z2, z3⟩ := s.new (.tup _) hp
        exact q _ _ _ [] z1 z2 (.pure (.tup (sqT_of upd_same) (hr.mono z3)))
  · cases e
    cases r with
    | cons r1 r =>
      cases r
      cases r1 with
      | tup hs hr => exact ⟨_, _, rfl, .inr ⟨s.ex.sqT hs, plain_end s (.tup hs hr) q⟩⟩
  · cases e
theorem pu_tuple (ds : List D) (d : D) (h : biTuple ds = some d) : d.pu = true := by unfold biTuple at h; split at h <;> cases h <;> rfl

/-! isinstance -/
def tyN : D → String
  | .non => "NoneType" | .bl _ => "bool" | .int _ => "int" | .str _ => "str" | .tup _ => "tuple" | .lst _ => "list" | .scr _ => "list" | .own _ => "list" | .ty _ => "" | .dct _ => "" | .dix _ _ => "" | .odx _ _ => "" | .otp _ => "" | .kt _ => "" | .exc _ _ _ => ""
theorem tyx_of {G H : Hp} {v : V} {d : D} (e : Ex G H) (h : Rep K G v d) (n : noTy d = true) : TyX K H v (.type (tyN d)) := by
  cases h with
  | non => exact .base .non
  | bl b => exact .base (.bl b)
  | int i => exact .base (.int i)
  | str s => exact .base (.str s)
  | ty n => cases n
  | dct _ => cases n
  | dix _ _ _ => cases n
  | kt _ => cases n
  | exc => cases n
  | tup hs _ =>
    rcases e.sqT hs with (h | ⟨o, h⟩) | ⟨o, its, n, h1, h2, _⟩
    · exact .base (.tup h)
    · exact .fTuple h
    · exact .kTuple h1 h2
  | lst hs _ => exact .base (.lst (e _ _ hs))
  | scr hs =>
    rcases e.sqL hs with (h | ⟨o, h⟩) | ⟨o, its, n, h1, h2, _⟩
    · exact .base (.lst h)
    · exact .base (.frz h)
    · exact .kList h1 h2
def isT (T : String) (d : D) : Bool := tyN d == T || (tyN d == "bool" && T == "int")
def okT (T : String) : Bool := T == "int" || T == "bool" || T == "str" || T == "list" || T == "tuple"
theorem kit_all : (["NoneType", "bool", "int", "str", "tuple", "list"].all fun a => ["int", "bool", "str", "list", "tuple"].all fun b => decide (kitB a b = some (a == b || (a == "bool" && b == "int")))) = true := by decide +kernel
theorem kit_isT {d : D} {T : String} (h : okT T = true) (n : noTy d = true) : PySem.W.kitOne K (.type (tyN d)) (.type T) = some (isT T d) := by
  have k := kit_all
  rw [List.all_eq_true] at k
  have m : tyN d ∈ ["NoneType", "bool", "int", "str", "tuple", "list"] := by cases d <;> first | (cases n; done) | simp [tyN]
  have k2 := k _ m
  rw [List.all_eq_true] at k2
  have m2 : T ∈ ["int", "bool", "str", "list", "tuple"] := by
    unfold okT at h
    simp only [Bool.or_eq_true, beq_iff_eq] at h
    rcases h with (((h | h) | h) | h) | h <;> subst h <;> simp
  exact kit_ty (of_decide_eq_true (k2 _ m2))
def dIsi (T : String) (f : DE) : DE := fun ρ => (f ρ).bind fun p => if noTy p.1 = true then some (.bl (isT T p.1), p.2) else none
def dIsi2 (T U : String) (f : DE) : DE := fun ρ => (f ρ).bind fun p => if noTy p.1 = true then some (.bl (isT T p.1 || isT U p.1), p.2) else none
theorem se_isi {e : Expr} {f : DE} {T : Str} {U : String} {pt p pos : Pos} (he : SE X e f) (hm : X.mg "isinstance" = none) (hmT : X.mg T = none) (hvT : bootBuiltins T = some (.type U)) (ok : okT U = true) (hg : Gl X "isinstance" := by rfl) (hgT : Gl X T := by rfl)
    (hn : T ≠ "__name__" := by decide) (hd : (T == ("__debug__" : Str)) = false := by decide)
    (hs1 : starEach [e, .Name T pt] X.env = (false, eval e X.env) :: starEach [.Name T pt] X.env := by rfl) (hs2 : starEach [.Name T pt] X.env = (false, eval (.Name T pt) X.env) :: starEach [] X.env := by rfl) (hpl : (backTo pos (starEach [.Name T pt] X.env)).any (·.1) = false := by rfl) :
    SE X (.Call (.Name "isinstance" p) [e, .Name T pt] [] pos) (dIsi U f) :=
  pe_weak (pe_callB call_isi hg hm boot_isinstance (pa_cons he (pa_cons (pe_bltn (v := .ty U) hgT hmT hvT rfl hn hd) pa_nil hs2) hs1) (by decide) (by decide) hs1 hpl) fun σ H Q ⟨G, ρ, L, d, ρ', h1, h2, h3, q⟩ => by
    unfold dIsi at h3
    obtain ⟨⟨d1, ρ1⟩, e1, h3⟩ := Option.bind_eq_some_iff.mp h3
    dsimp only at h3
    split at h3
    · rename_i hnt
      cases h3
      refine ⟨G, ρ, L, d1, _, h1, h2, e1, fun v G1 H1 L1 a1 b1 c1 r1 => ?_⟩
      exact ⟨v, .ty U, _, _, _, rfl, .ty U, tyx_of a1.ex r1 hnt, kit_isT ok hnt, q _ G1 H1 L1 a1 b1 c1 (.bl _)⟩
    · cases h3
theorem se_isi2 {e : Expr} {f : DE} {T T' : Str} {U U' : String} {kt : Nat} {pt pt' p2 p pos : Pos} (he : SE X e f) (hm : X.mg "isinstance" = none) (hmT : X.mg T = none) (hvT : bootBuiltins T = some (.type U)) (ok : okT U = true)
    (hmT' : X.mg T' = none) (hvT' : bootBuiltins T' = some (.type U')) (ok' : okT U' = true) (hg : Gl X "isinstance" := by rfl) (hgT : Gl X T := by rfl) (hgT' : Gl X T' := by rfl)
    (hn : T ≠ "__name__" := by decide) (hd : (T == ("__debug__" : Str)) = false := by decide) (hn' : T' ≠ "__name__" := by decide) (hd' : (T' == ("__debug__" : Str)) = false := by decide)
    (hs1 : starEach [e, .Tuple [.Name T pt, .Name T' pt'] kt p2] X.env = (false, eval e X.env) :: starEach [.Tuple [.Name T pt, .Name T' pt'] kt p2] X.env := by rfl) (hs2 : starEach [.Tuple [.Name T pt, .Name T' pt'] kt p2] X.env = (false, eval (.Tuple [.Name T pt, .Name T' pt'] kt p2) X.env) :: starEach [] X.env := by rfl)
    (hs3 : starEach [.Name T pt, .Name T' pt'] X.env = (false, eval (.Name T pt) X.env) :: starEach [.Name T' pt'] X.env := by rfl) (hs4 : starEach [.Name T' pt'] X.env = (false, eval (.Name T' pt') X.env) :: starEach [] X.env := by rfl)
    (hpl : (backTo pos (starEach [.Tuple [.Name T pt, .Name T' pt'] kt p2] X.env)).any (·.1) = false := by rfl) :
    SE X (.Call (.Name "isinstance" p) [e, .Tuple [.Name T pt, .Name T' pt'] kt p2] [] pos) (dIsi2 U U' f) :=
  pe_weak (pe_callB call_isiT hg hm boot_isinstance (pa_cons he (pa_cons (pe_tup (pa_cons (pe_bltn (v := .ty U) hgT hmT hvT rfl hn hd) (pa_cons (pe_bltn (v := .ty U') hgT' hmT' hvT' rfl hn' hd') pa_nil hs4) hs3)) pa_nil hs2) hs1) (by decide) (by decide) hs1 hpl) fun σ H Q ⟨G, ρ, L, d, ρ', h1, h2, h3, q⟩ => by
    unfold dIsi2 at h3
    obtain ⟨⟨d1, ρ1⟩, e1, h3⟩ := Option.bind_eq_some_iff.mp h3
    dsimp only at h3
    split at h3
    · rename_i hnt
      cases h3
      refine ⟨G, ρ, L, d1, _, h1, h2, e1, fun v G1 H1 L1 a1 b1 c1 r1 => ⟨small (by simp), fun tp hp => ?_⟩⟩
      obtain ⟨z1, z2, z3⟩ := a1.new (.tup [.ty U, .ty U']) hp
      refine ⟨v, tp, _, _, _, _, rfl, upd_same, .cons (.ty U) (.cons (.ty U') .nil), tyx_of (z3.trans z1.ex) r1 hnt, ?_, q _ _ _ L1 z1 (b1.trans z2) (c1.mono z3) (.bl (isT U d1 || isT U' d1))⟩
      refine kitAny_cons (kit_isT ok hnt) (fun e => ?_) (fun e => by rw [e]; rfl)
      rw [e, Bool.false_or]
      refine kitAny_cons (kit_isT ok' hnt) (fun e => by rw [e]; exact kitAny_nil) (fun e => e)
    · cases h3
end
end Pd

namespace Pd
open PySem PySem.Spec PyProof.Rows L2

/-! ### own lists, changed in place -/
theorem OwnL.append {K : PySem.W.Frag} {G : Hp} : ∀ {us vs : List V} {as bs : List D} {L M : Fp}, OwnL K G us as L → OwnL K G vs bs M → OwnL K G (us ++ vs) (as ++ bs) (L ++ M)
  | _, _, _, _, _, _, .nil, r => r
  | _, _, _, _, _, _, .cons (L := L0) o h, r => by
    rw [List.append_assoc]
    exact .cons o (OwnL.append h r)
theorem OwnL.set {K : PySem.W.Frag} {G : Hp} {v : V} {d : D} {M' : Fp} (o : Own K G v d M') : ∀ {us : List V} {as : List D} {L : Fp} (j : Nat), j < as.length → OwnL K G us as L → ∃ M R L', L.Perm (M ++ R) ∧ OwnL K G (us.set j v) (as.set j d) L' ∧ L'.Perm (M' ++ R)
  | _, _, _, _, h, .nil => by simp at h
  | _, _, _, 0, _, .cons (L := L0) (M := M0) o' r => ⟨L0, M0, M' ++ M0, .refl _, .cons o r, .refl _⟩
  | _, _, _, j + 1, h, .cons (L := L0) (M := M0) o' r => by
    obtain ⟨M, R, L', q1, q2, q3⟩ := OwnL.set o j (by simpa using h) r
    refine ⟨M, L0 ++ R, L0 ++ L', ?_, .cons o' q2, ?_⟩
    · exact (q1.append_left L0).trans (by rw [← List.append_assoc, ← List.append_assoc]; exact List.perm_append_comm.append_right R)
    · exact (q3.append_left L0).trans (by rw [← List.append_assoc, ← List.append_assoc]; exact List.perm_append_comm.append_right R)
theorem OwnL.one {K : PySem.W.Frag} {G : Hp} {v : V} {d : D} {M : Fp} (o : Own K G v d M) : OwnL K G [v] [d] M := by
  have := OwnL.cons o (.nil : OwnL K G [] [] [])
  rw [List.append_nil] at this
  exact this
/-- the own list at slot i, its state at the front -/
theorem Sl.front {K : PySem.W.Frag} {G H : Hp} {σ : L2.St} {ρ : Ev} {L : Fp} {i : Nat} {ds : List D} (h : Sl K G σ ρ L) (s : Sta G H L) (e : ρ[i]? = some (some (.own ds))) :
    ∃ p vs M R, σ[i]? = some (some (.ref p)) ∧ OwnL K G vs ds M ∧ Sta G H ((p, .lst vs) :: (M ++ R)) ∧ L.Perm ((p, .lst vs) :: (M ++ R)) ∧
      ∀ (G' : Hp) (us : List V) (es : List D) (M' : Fp), Ex G G' → OwnL K G' us es M' → ∃ L', Sl K G' σ (ρ.set i (some (.own es))) L' ∧ L'.Perm ((p, .lst us) :: (M' ++ R)) := by
  obtain ⟨v, M, R, s1, s2, s3, s4, s5⟩ := h.at e
  cases s2 with
  | own ow =>
    refine ⟨_, _, _, R, s1, ow, s.perm s3, s3, fun G' us es M' ex o => ?_⟩
    obtain ⟨L', q1, q2⟩ := s5 G' _ (.own es) _ ex (.own o)
    rw [set_self s1] at q1
    exact ⟨L', q1, q2⟩
  | pure r => cases r
def ownAt (ρ : Ev) (i : Nat) : Option (List D) := match ρ[i]? with | some (some (.own ds)) => some ds | _ => none
theorem ownAt_some {ρ : Ev} {i : Nat} {ds : List D} (h : ownAt ρ i = some ds) : ρ[i]? = some (some (.own ds)) := by
  unfold ownAt at h
  split at h
  · cases h; assumption
  · cases h
/-- x[k] = e, x an own list -/
def dSetIx (i : Nat) (f k : DE) : DS := fun ρ => (f ρ).bind fun p => (ownAt p.2 i).bind fun _ => (k p.2).bind fun q => match q.1 with
  | .int n => (ownAt q.2 i).bind fun ds => (ixN ds.length n).bind fun j => some (.nx (q.2.set i (some (.own (ds.set j p.1)))))
  | _ => none
def dApp (i : Nat) (f : DE) : DS := fun ρ => (ownAt ρ i).bind fun _ => (f ρ).bind fun p => (ownAt p.2 i).bind fun ds => if ds.length < 1000000 then some (.nx (p.2.set i (some (.own (ds ++ [p.1]))))) else none
section
variable {X : Cx} {io : List Nat} {pos px p2 : Pos} {e k : Expr} {f g : DE} {x : Str}
theorem ixN_lt {n : Nat} {i : Int} {j : Nat} (h : ixN n i = some j) : j < n := (ixN_seq h).2.1
theorem perm3 {p : Addr × HO} {A B C : Fp} : (A ++ (p :: (B ++ C))).Perm (p :: ((A ++ B) ++ C)) := by
  rw [List.append_assoc]
  exact List.perm_middle
theorem ss_setix (i : Nat) (he : SE X e f) (hk : SE X k g) (hN : X.N[i]? = some x := by rfl) (hv : Vis X.env.scope x := by first | exact Or.inl rfl | exact Or.inr (Or.inl rfl) | exact Or.inr (Or.inr rfl)) (hd : (x == ("__debug__" : Str)) = false := by decide)
    (hcd : (x == ("__classdict__" : Str)) = false := by decide) (ha : ∀ v, assign (.Subscript (.Name x px) k p2) X.env v = (do
      let ov ← holding [v] (eval (.Name x px) X.env)
      let iv ← holding [v, ov] (eval k X.env)
      standAt p2
      holding [v, ov, iv] (setItem ov iv v)
      release [v, ov, iv] []) := by intro _; rfl) (hs : swapsWithSole [.Subscript (.Name x px) k p2] e pos.line X.env = pure false := by rfl) (hw : swappedStores [.Subscript (.Name x px) k p2] e X.env = pure none := by rfl)
    (h1 : (assignEach [.Subscript (.Name x px) k p2] X.env).map (·.2) = [assign (.Subscript (.Name x px) k p2) X.env] := by rfl) :
    SS X io (.Assign [.Subscript (.Name x px) k p2] e pos) (dSetIx i f g) :=
  ps_weak (ps_asg he (pg_sub (pe_var hN hv hd hcd) hk set_list ha) hs hw h1) fun De σ H ⟨G, ρ, L, fl, h1, h2, h3, q⟩ => by
    unfold dSetIx at h3
    obtain ⟨⟨d1, ρ1⟩, e1, h3⟩ := Option.bind_eq_some_iff.mp h3
    obtain ⟨ds0, e0, h3⟩ := Option.bind_eq_some_iff.mp h3
    obtain ⟨⟨d2, ρ2⟩, e2, h3⟩ := Option.bind_eq_some_iff.mp h3
    dsimp only at h3 e2 e0
    split at h3
    · rename_i n
      obtain ⟨ds, e3, h3⟩ := Option.bind_eq_some_iff.mp h3
      obtain ⟨j, e4, h3⟩ := Option.bind_eq_some_iff.mp h3
      cases h3
      refine ⟨G, ρ, L, d1, ρ1, h1, h2, e1, fun v G1 H1 L1 a1 b1 c1 r1 => ?_⟩
      obtain ⟨v0, M0, R0, s1, _⟩ := c1.at (ownAt_some e0)
      refine ⟨v0, s1, G1, ρ1, L1, _, ρ2, a1, c1, e2, fun y G2 H2 L2 a2 b2 c2 r2 => ?_⟩
      cases r2
      obtain ⟨p, vs, M, R, t1, t2, t3, t4, t5⟩ := c2.front a2 (ownAt_some e3)
      rw [s1] at t1
      cases t1
      refine ⟨p, vs, n, j, rfl, rfl, t3.hold p _ List.mem_cons_self, by rw [t2.length]; exact e4, ?_⟩
      obtain ⟨Md, Rd, L', q1, q2, q3⟩ := OwnL.set (.pure (r1.mono b2.ex) : Own X.K G2 v d1 []) j (ixN_lt e4) t2
      have pm : ((p, .lst vs) :: (M ++ R)).Perm (Md ++ ((p, .lst vs) :: (Rd ++ R))) := (List.Perm.cons _ (by rw [← List.append_assoc]; exact q1.append_right R)).trans List.perm_middle.symm
      have t3' := (t3.perm pm).left
      obtain ⟨z1, z2⟩ := t3'.change (.lst (vs.set j v))
      obtain ⟨L9, y1, y2⟩ := t5 G2 (vs.set j v) (ds.set j d1) L' (Ex.refl _) q2
      have pm2 : ((p, .lst (vs.set j v)) :: (Rd ++ R)).Perm L9 := (y2.trans (List.Perm.cons _ (q3.append_right R))).symm
      refine q σ G2 _ L9 (z1.perm pm2) ((b1.trans b2).trans ?_) y1 .refl
      exact (((Stp.refl.permR (t4.trans pm)).less).trans z2).permR pm2
    · cases h3
theorem own_app {K : PySem.W.Frag} {G2 H2 : Hp} {σ : L2.St} {ρ2 : Ev} {L2 : Fp} {i : Nat} {ds es : List D} {M2 : Fp} {us : List V} (c2 : Sl K G2 σ ρ2 L2) (a2 : Sta G2 H2 (M2 ++ L2)) (e3 : ρ2[i]? = some (some (.own ds))) (ow : OwnL K G2 us es M2) :
    ∃ p vs, σ[i]? = some (some (.ref p)) ∧ H2 p = some (.lst vs) ∧ vs.length = ds.length ∧ ∃ L9, Sta G2 (upd H2 p (.lst (vs ++ us))) L9 ∧ Stp G2 H2 (M2 ++ L2) G2 (upd H2 p (.lst (vs ++ us))) L9 ∧ Sl K G2 σ (ρ2.set i (some (.own (ds ++ es)))) L9 := by
  obtain ⟨p, vs, M, R, t1, t2, t3, t4, t5⟩ := c2.front a2.left e3
  have pm : (M2 ++ L2).Perm ((p, .lst vs) :: ((M ++ M2) ++ R)) := (t4.append_left M2).trans (by
    refine perm3.trans (List.Perm.cons _ ?_)
    exact (List.perm_append_comm).append_right R)
  have a3 := a2.perm pm
  obtain ⟨z1, z2⟩ := a3.change (.lst (vs ++ us))
  obtain ⟨L9, y1, y2⟩ := t5 G2 (vs ++ us) (ds ++ es) (M ++ M2) (Ex.refl _) (t2.append ow)
  exact ⟨p, vs, t1, a3.hold p _ List.mem_cons_self, t2.length, L9, z1.perm y2.symm, (z2.permL pm.symm).permR y2.symm, y1⟩
theorem ss_append (i : Nat) {pa pc : Pos} (he : SN X e f) (hN : X.N[i]? = some x := by rfl) (hv : Vis X.env.scope x := by first | exact Or.inl rfl | exact Or.inr (Or.inl rfl) | exact Or.inr (Or.inr rfl)) (hd : (x == ("__debug__" : Str)) = false := by decide)
    (hcd : (x == ("__classdict__" : Str)) = false := by decide) (hbase : attributeBase (.Name x px) "append" X.env (eval (.Name x px) X.env) = eval (.Name x px) X.env := by rfl)
    (hfew : ((backTo pc (starEach [e] X.env)).all (fun x => !x.1) && (backToKw pc (keywordEach [] X.env)).all (fun x => x.1.isSome)
      && decide ([e].length + ([] : List Keyword).length + (if ([] : List Keyword).isEmpty then 0 else 1) < 30)) = true := by rfl)
    (hline : (pa.endLine == pc.line) = true := by rfl) (hs : starEach [e] X.env = (false, eval e X.env) :: starEach [] X.env := by rfl) (hplain : (backTo pc (starEach [] X.env)).any (·.1) = false := by rfl)
    (hsw : swapsWith (.Call (.Attribute (.Name x px) "append" pa) [e] [] pc) none pos.line X.env = pure false := by rfl) :
    SS X io (.Expr (.Call (.Attribute (.Name x px) "append" pa) [e] [] pc) pos) (dApp i f) :=
  ps_weak (ps_expr (pe_bm PySem.F.plainAttrs_list PySem.F.slot_list_append PySem.F.type_list_append mt_append (pe_var hN hv hd hcd) (pa_cons he pa_nil hs) hbase hfew hline hs hplain) hsw) fun De σ H ⟨G, ρ, L, fl, h1, h2, h3, q⟩ => by
    unfold dApp at h3
    obtain ⟨ds0, e0, h3⟩ := Option.bind_eq_some_iff.mp h3
    obtain ⟨⟨d1, ρ1⟩, e1, h3⟩ := Option.bind_eq_some_iff.mp h3
    obtain ⟨ds, e3, h3⟩ := Option.bind_eq_some_iff.mp h3
    dsimp only at h3 e3
    split at h3
    · rename_i hz
      cases h3
      obtain ⟨p0, vs0, M0, R0, s1, s2, s3, _⟩ := h2.front h1 (ownAt_some e0)
      refine ⟨_, s1, .inl ⟨rfl, _, sqL_of (s3.hold _ _ List.mem_cons_self)⟩, G, ρ, L, d1, ρ1, h1, h2, e1, fun v G2 H2 M2 L2 a2 b2 c2 o2 => ?_⟩
      obtain ⟨p, vs, t1, t2, t3, L9, z1, z2, z3⟩ := own_app c2 a2 (ownAt_some e3) (OwnL.one o2)
      · rw [s1] at t1
        cases t1
        refine ⟨_, vs, v, rfl, rfl, t2, ?_, ?_⟩
        · rw [t3]
          have : sizeLine = 16777216 := sizeLine_eq
          omega
        · exact q σ G2 _ L9 z1 (b2.trans z2) z3 .refl
    · cases h3
/-- x op= e, at a name -/
def dAug (i : Nat) (r : D → D → Option D) (f : DE) : DS := fun ρ => match ρ[i]? with
  | some (some a) => (f ρ).bind fun p => (r a p.1).bind fun d => if a.flat = true ∧ d.flat = true then (put i d p.2).bind fun ρ' => some (.nx ρ') else none
  | _ => none
theorem ss_aug (i : Nat) {op : Operator} {R : R2} {r : D → D → Option D} {pos' : Pos} (hN : X.N.Nodup) (he : SE X e f) (ho : PIp X op R) (od : OpD X.K R r) (hi : X.N[i]? = some x := by rfl) (hx : Loc X.env.scope x := by first | exact .inl rfl | exact .inr rfl)
    (hf : X.fn x = true ∨ X.env.scope.names.lookup x = some .local := by first | exact .inl rfl | exact .inr rfl | assumption) (hio : io.contains i = false := by rfl) : SS X io (.AugAssign (.Name x pos') op e pos) (dAug i r f) :=
  ps_weak (ps_aug hN hi hx he ho hf) fun De σ H ⟨G, ρ, L, fl, h1, h2, h3, q⟩ => by
    unfold dAug at h3
    split at h3
    · rename_i a ha
      obtain ⟨⟨d1, ρ1⟩, e1, h3⟩ := Option.bind_eq_some_iff.mp h3
      obtain ⟨d2, e2, h3⟩ := Option.bind_eq_some_iff.mp h3
      split at h3
      · rename_i hfl
        obtain ⟨ρ2, e3, h3⟩ := Option.bind_eq_some_iff.mp h3
        cases h3
        obtain ⟨v0, M0, R0, s1, s2, _⟩ := h2.at ha
        have r0 := (s2.rep (by cases a <;> first | rfl | cases hfl.1)).1
        refine ⟨v0, s1, G, ρ, L, d1, ρ1, h1, h2, e1, fun y G1 H1 L1 a1 b1 c1 r1 => ?_⟩
        refine od v0 y a d1 d2 G1 H1 L1 _ a1 (r0.mono b1.ex) r1 e2 fun v G' H' M a' b' o => ?_
        have pu2 : d2.pu = true := by cases d2 <;> first | rfl | cases hfl.2
        obtain ⟨r9, rfl⟩ := o.rep pu2
        obtain ⟨L9, z1, z2, z3⟩ := sl_put0 a' (c1.mono b'.ex) r9 e3
        exact q _ G' H' L9 z1 ((b1.trans b').trans z2) z3 (Kp.set hio)
      · cases h3
    · cases h3
end
theorem od_ipI {K : PySem.W.Frag} {g : Int → Int → Int} : OpD K (ipI g) (opI0 g) := fun x y a b d G H L Q s ra rb e q => by
  unfold opI0 at e
  split at e
  · cases e
    cases ra
    cases rb
    exact ⟨_, _, rfl, rfl, plain_end s (.int _) q⟩
  · cases e
end Pd

namespace Pd
open PySem PySem.Spec PyProof.Rows L2

/-! ### list(range(..)) -/
def rngD (a b : Int) : List D := (List.range (b - a).toNat).map fun i : Nat => D.int (a + (i : Int))
instance (a b : Int) : Decidable (RgOk a b) := inferInstanceAs (Decidable (_ ∧ _ ∧ _ ∧ _ ∧ _))
theorem rep_rg {K : PySem.W.Frag} {G : Hp} {a : Int} : ∀ l : List Nat, RepL K G (l.map fun i : Nat => V.int (a + (i : Int))) (l.map fun i : Nat => D.int (a + (i : Int)))
  | [] => .nil
  | i :: l => .cons (.int _) (rep_rg l)
def dListRg1 (f : DE) : DE := fun ρ => (f ρ).bind fun p => match p.1 with
  | .int n => if RgOk 0 n then some (.own (rngD 0 n), p.2) else none
  | _ => none
def dListRg2 (f g : DE) : DE := fun ρ => (f ρ).bind fun p => (g p.2).bind fun q => match p.1, q.1 with
  | .int a, .int b => if RgOk a b then some (.own (rngD a b), q.2) else none
  | _, _ => none
section
variable {X : Cx} {e e' : Expr} {f g : DE} {p p2 pos pos2 : Pos}
theorem sn_listRg1 (hmL : X.mg "list" = none) (hmR : X.mg "range" = none) (he : SE X e f) (hc : X.calm = true := by rfl) (hgL : Gl X "list" := by rfl) (hgR : Gl X "range" := by rfl)
    (na : starEach [e] X.env = (false, eval e X.env) :: starEach [] X.env := by rfl) (nb : starEach [.Call (.Name "range" p2) [e] [] pos2] X.env = (false, eval (.Call (.Name "range" p2) [e] [] pos2) X.env) :: starEach [] X.env := by rfl) :
    SN X (.Call (.Name "list" p) [.Call (.Name "range" p2) [e] [] pos2] [] pos) (dListRg1 f) :=
  pe_weak (pe_listRg hc hgL hmL (prg_1 hgR hmR he na) nb) fun σ H Q ⟨G, ρ, L, d, ρ', h1, h2, h3, q⟩ => by
    unfold dListRg1 at h3
    obtain ⟨⟨d1, ρ1⟩, e1, h3⟩ := Option.bind_eq_some_iff.mp h3
    dsimp only at h3
    split at h3
    · split at h3
      · rename_i n hr
        cases h3
        refine ⟨G, ρ, L, _, _, h1, h2, e1, fun v G1 H1 L1 a1 b1 c1 r1 => ?_⟩
        cases r1
        refine ⟨_, rfl, hr, fun p hp => ?_⟩
        obtain ⟨z1, z2⟩ := a1.newOwn (.lst (rgV 0 n)) hp
        exact q _ _ _ [_] L1 z1 (b1.trans z2) c1 (.own (rep_rg _).ownL)
      · cases h3
    · cases h3
theorem sn_listRg2 (hmL : X.mg "list" = none) (hmR : X.mg "range" = none) (he : SE X e f) (he' : SE X e' g) (hc : X.calm = true := by rfl) (hgL : Gl X "list" := by rfl) (hgR : Gl X "range" := by rfl)
    (na : starEach [e, e'] X.env = (false, eval e X.env) :: starEach [e'] X.env := by rfl) (na2 : starEach [e'] X.env = (false, eval e' X.env) :: starEach [] X.env := by rfl)
    (hp : (backTo pos2 (starEach [e'] X.env)).any (·.1) = false := by rfl)
    (nb : starEach [.Call (.Name "range" p2) [e, e'] [] pos2] X.env = (false, eval (.Call (.Name "range" p2) [e, e'] [] pos2) X.env) :: starEach [] X.env := by rfl) :
    SN X (.Call (.Name "list" p) [.Call (.Name "range" p2) [e, e'] [] pos2] [] pos) (dListRg2 f g) :=
  pe_weak (pe_listRg hc hgL hmL (prg_2 hgR hmR he he' na na2 hp) nb) fun σ H Q ⟨G, ρ, L, d, ρ', h1, h2, h3, q⟩ => by
    unfold dListRg2 at h3
    obtain ⟨⟨d1, ρ1⟩, e1, h3⟩ := Option.bind_eq_some_iff.mp h3
    obtain ⟨⟨d2, ρ2⟩, e2, h3⟩ := Option.bind_eq_some_iff.mp h3
    dsimp only at h3
    split at h3
    · split at h3
      · rename_i n m hr
        cases h3
        refine ⟨G, ρ, L, _, _, h1, h2, e1, fun v G1 H1 L1 a1 b1 c1 r1 => ⟨G1, ρ1, L1, _, _, a1, c1, e2, fun u G2 H2 L2 a2 b2 c2 r2 => ?_⟩⟩
        cases r1
        cases r2
        refine ⟨_, _, rfl, rfl, hr, fun p hp => ?_⟩
        obtain ⟨z1, z2⟩ := a2.newOwn (.lst (rgV _ _)) hp
        exact q _ _ _ [_] L2 z1 ((b1.trans b2).trans z2) c2 (.own (rep_rg _).ownL)
      · cases h3
    · cases h3

/-! ### a module's number or text -/
theorem se_glob_int {x : Str} {n : Int} (hm : ∃ t, X.mg x = some (.int n t)) (hg : Gl X x := by rfl) (hd : (x == ("__debug__" : Str)) = false := by decide) : SE X (.Name x pos) (dInt n) := by
  obtain ⟨t, hm⟩ := hm
  exact se_c (pe_glob (v := .int n) hg hm ⟨t, rfl⟩ hd) fun _ => .int n
theorem se_glob_str {x : Str} {n : Str} (hm : ∃ t, X.mg x = some (.str n t)) (hg : Gl X x := by rfl) (hd : (x == ("__debug__" : Str)) = false := by decide) : SE X (.Name x pos) (dStr n) := by
  obtain ⟨t, hm⟩ := hm
  exact se_c (pe_glob (v := .str n) hg hm ⟨t, rfl⟩ hd) fun _ => .str n

/-! ### chains of three -/
def tChain3 (r r' r'' : R2) (ta tb tc td : TE) : TE := fun σ H Q => ta σ H fun x H1 => tb σ H1 fun y H2 => r x y H2 fun z H3 => ∃ k, z = .bl k ∧
  (if k = true then tc σ H3 fun w H4 => r' y w H4 fun z H5 => ∃ k, z = .bl k ∧ (if k = true then td σ H5 fun w' H6 => r'' w w' H6 Q else Q (.bl false) H5) else Q (.bl false) H3)
theorem pe_chain3 {a b c d : Expr} {ta tb tc td : TE} {op op' op'' : CmpOp} {r r' r'' : R2} (ho : OpR X (compareOp op) r) (ho' : OpR X (compareOp op') r') (ho'' : OpR X (compareOp op'') r'') (ha : PE X a ta) (hb : PE X b tb) (hc : PE X c tc) (hd : PE X d td)
    (hm : lastMarks [op, op', op''] [b, c, d] = false := by with_unfolding_all rfl) : PE X (.Compare a [op, op', op''] [b, c, d] pos) (tChain3 r r' r'' ta tb tc td) := by
  refine ⟨fun pins s σ H Q I h => ?_⟩
  refine Compare_chain (thn (ha.run pins s σ H _ I h) fun v s1 ⟨x, H1, I1, r1, q1⟩ => chain_link (thn (hb.run pins s1 σ H1 _ I1 q1) fun u s2 ⟨y, H2, I2, r2, q2⟩ =>
    thn (ho pins s2 σ H2 x y v u _ I2 r1 r2 q2) fun d s3 ⟨z, H3, I3, r3, k, e, q3⟩ => ?_)) hm
  subst e
  cases r3
  refine wpAny_truthy_bool ?_
  cases k with
  | false => exact ite_ff ⟨.bl false, H3, I3, rfl, q3⟩
  | true =>
    refine ite_tt (chain_link (thn (hc.run pins s3 σ H3 _ I3 q3) fun w' s4 ⟨z', H4, I4, r4, q4⟩ => thn (ho' pins s4 σ H4 y z' u w' _ I4 r2 r4 q4) fun d5 s5 ⟨z5, H5, I5, r5, k5, e5, q5⟩ => ?_))
    subst e5
    cases r5
    refine wpAny_truthy_bool ?_
    cases k5 with
    | false => exact ite_ff ⟨.bl false, H5, I5, rfl, q5⟩
    | true => exact ite_tt (chain_last (thn (hd.run pins s5 σ H5 _ I5 q5) fun w6 s6 ⟨z6, H6, I6, r6, q6⟩ => ho'' pins s6 σ H6 z' z6 w' w6 Q I6 r4 r6 q6))
def dChain3 (r r' r'' : D → D → Option D) (f g h i : DE) : DE := fun ρ => (f ρ).bind fun p => (g p.2).bind fun q => (r p.1 q.1).bind fun d => match d with
  | .bl true => (h q.2).bind fun z => (r' q.1 z.1).bind fun d' => match d' with
    | .bl true => (i z.2).bind fun y => (r'' z.1 y.1).bind fun d'' => some (d'', y.2)
    | .bl false => some (.bl false, z.2)
    | _ => none
  | .bl false => some (.bl false, q.2)
  | _ => none
theorem tE_chain3 {f g h i : DE} {R R' R'' : R2} {r r' r'' : D → D → Option D} (o : OpD X.K R r) (o' : OpD X.K R' r') (o'' : OpD X.K R'' r'') (hp : ∀ a b d, r'' a b = some d → d.pu = true) {σ : L2.St} {H : Hp} {Q : VK} (hq : tE X.K (dChain3 r r' r'' f g h i) σ H Q) :
    tChain3 R R' R'' (tE X.K f) (tE X.K g) (tE X.K h) (tE X.K i) σ H Q := by
  obtain ⟨G, ρ, L, d, ρ', h1, h2, h3, q⟩ := hq
  unfold dChain3 at h3
  obtain ⟨⟨d1, ρ1⟩, e1, h3⟩ := Option.bind_eq_some_iff.mp h3
  obtain ⟨⟨d2, ρ2⟩, e2, h3⟩ := Option.bind_eq_some_iff.mp h3
  obtain ⟨d3, e3, h3⟩ := Option.bind_eq_some_iff.mp h3
  refine ⟨G, ρ, L, d1, ρ1, h1, h2, e1, fun x G1 H1 L1 a1 b1 c1 r1 => ⟨G1, ρ1, L1, d2, ρ2, a1, c1, e2, fun y G2 H2 L2 a2 b2 c2 r2 => ?_⟩⟩
  refine o x y d1 d2 d3 G2 H2 L2 _ a2 (r1.mono b2.ex) r2 e3 fun v G3 H3 M a3 b3 r3 => ?_
  dsimp only at h3
  split at h3
  · obtain ⟨r9, rfl⟩ := r3.rep rfl
    cases r9
    obtain ⟨⟨d4, ρ4⟩, e4, h3⟩ := Option.bind_eq_some_iff.mp h3
    obtain ⟨d5, e5, h3⟩ := Option.bind_eq_some_iff.mp h3
    refine ⟨true, rfl, ?_⟩
    rw [if_pos rfl]
    refine ⟨G3, ρ2, L2, d4, ρ4, a3, c2.mono b3.ex, e4, fun w G4 H4 L4 a4 b4 c4 r4 => ?_⟩
    refine o' y w d2 d4 d5 G4 H4 L4 _ a4 (r2.mono (b3.ex.trans b4.ex)) r4 e5 fun v G5 H5 M5 a5 b5 r5 => ?_
    dsimp only at h3
    split at h3
    · obtain ⟨r9, rfl⟩ := r5.rep rfl
      cases r9
      obtain ⟨⟨d6, ρ6⟩, e6, h3⟩ := Option.bind_eq_some_iff.mp h3
      obtain ⟨d7, e7, h3⟩ := Option.bind_eq_some_iff.mp h3
      cases h3
      refine ⟨true, rfl, ?_⟩
      rw [if_pos rfl]
      refine ⟨G5, ρ4, L4, d6, _, a5, c4.mono b5.ex, e6, fun w6 G6 H6 L6 a6 b6 c6 r6 => ?_⟩
      refine o'' w w6 d4 d6 _ G6 H6 L6 Q a6 (r4.mono (b5.ex.trans b6.ex)) r6 e7 fun v G7 H7 M7 a7 b7 r7 => ?_
      obtain ⟨r9, rfl⟩ := r7.rep (hp _ _ _ e7)
      exact q v G7 H7 L6 a7 ((((((b1.trans b2).trans b3).trans b4).trans b5).trans b6).trans b7) (c6.mono b7.ex) r9
    · obtain ⟨r9, rfl⟩ := r5.rep rfl
      cases r9
      cases h3
      refine ⟨false, rfl, ?_⟩
      rw [if_neg Bool.false_ne_true]
      exact q (.bl false) G5 H5 L4 a5 ((((b1.trans b2).trans b3).trans b4).trans b5) (c4.mono b5.ex) (.bl false)
    · cases h3
  · obtain ⟨r9, rfl⟩ := r3.rep rfl
    cases r9
    cases h3
    refine ⟨false, rfl, ?_⟩
    rw [if_neg Bool.false_ne_true]
    exact q (.bl false) G3 H3 L2 a3 ((b1.trans b2).trans b3) (c2.mono b3.ex) (.bl false)
  · cases h3
theorem se_chain3 {a b c d : Expr} {f g h i : DE} {op op' op'' : CmpOp} {R R' R'' : R2} {r r' r'' : D → D → Option D} (ho : OpR X (compareOp op) R) (o : OpD X.K R r) (ho' : OpR X (compareOp op') R') (o' : OpD X.K R' r') (ho'' : OpR X (compareOp op'') R'') (o'' : OpD X.K R'' r'') (hp : ∀ a b d, r'' a b = some d → d.pu = true)
    (ha : SE X a f) (hb : SE X b g) (hc : SE X c h) (hd : SE X d i) (hm : lastMarks [op, op', op''] [b, c, d] = false := by with_unfolding_all rfl) : SE X (.Compare a [op, op', op''] [b, c, d] pos) (dChain3 r r' r'' f g h i) :=
  pe_weak (pe_chain3 ho ho' ho'' ha hb hc hd hm) fun _ _ _ => tE_chain3 o o' o'' hp
end

/-! ### methods of data, methods that change an own list -/
def MtD (K : PySem.W.Frag) (T : String) (R : V → List V → Hp → VK → Prop) (r : D → List D → Option D) : Prop :=
  ∀ x vs a ds d G H L (Q : VK), Sta G H L → Rep K G x a → RepL K G vs ds → r a ds = some d → (∀ v G' H' M, Sta G' H' (M ++ L) → Stp G H L G' H' (M ++ L) → Own K G' v d M → Q v H') → R x vs H Q
/-- the type of what a method is called of -/
def TyD (K : PySem.W.Frag) (T : String) (t : D → Bool) : Prop := ∀ x a G H, Ex G H → Rep K G x a → t a = true → tyV K T x H
def isStr : D → Bool | .str _ => true | _ => false
def isLst : D → Bool | .lst _ => true | .scr _ => true | _ => false
theorem ty_str {K : PySem.W.Frag} : TyD K "str" isStr := fun x a G H e r t => by
  cases r <;> first | (cases t; done) | rfl
theorem ty_lst {K : PySem.W.Frag} : TyD K "list" isLst := fun x a G H e r t => by
  cases r with
  | lst h _ => exact .inl ⟨rfl, _, e.sqL (sqL_of h)⟩
  | scr h => exact .inl ⟨rfl, _, e.sqL h⟩
  | _ => cases t
def dMt (t : D → Bool) (r : D → List D → Option D) (f : DE) (g : DA) : DE := fun ρ => (f ρ).bind fun p => if t p.1 = true then (g p.2).bind fun q => (r p.1 q.1).bind fun d => some (d, q.2) else none
section
variable {X : Cx} {o e : Expr} {es : List Expr} {f : DE} {g : DA} {name : Str} {apos cpos : Pos} {T id : String} {R : V → List V → Hp → VK → Prop} {r : D → List D → Option D} {t : D → Bool}
theorem sn_mt (pa : PlainAttrs T) (slot : Slot T name id) (hty : typeOf (.builtin id) = pure (.type "method_descriptor")) (hm : MtR X id R) (md : MtD X.K T R r) (td : TyD X.K T t) (ho : SE X o f) (ha : SA X (e :: es) g)
    (hbase : attributeBase o name X.env (eval o X.env) = eval o X.env := by rfl)
    (hfew : ((backTo cpos (starEach (e :: es) X.env)).all (fun x => !x.1) && (backToKw cpos (keywordEach [] X.env)).all (fun x => x.1.isSome)
      && decide ((e :: es).length + ([] : List Keyword).length + (if ([] : List Keyword).isEmpty then 0 else 1) < 30)) = true := by rfl)
    (hline : (apos.endLine == cpos.line) = true := by rfl) (hs : starEach (e :: es) X.env = (false, eval e X.env) :: starEach es X.env := by rfl) (hplain : (backTo cpos (starEach es X.env)).any (·.1) = false := by rfl) :
    SN X (.Call (.Attribute o name apos) (e :: es) [] cpos) (dMt t r f g) :=
  pe_weak (pe_bm pa slot hty hm ho ha hbase hfew hline hs hplain) fun σ H Q ⟨G, ρ, L, d, ρ', h1, h2, h3, q⟩ => by
    unfold dMt at h3
    obtain ⟨⟨d1, ρ1⟩, e1, h3⟩ := Option.bind_eq_some_iff.mp h3
    dsimp only at h3
    split at h3
    · rename_i ht
      obtain ⟨⟨ds, ρ2⟩, e2, h3⟩ := Option.bind_eq_some_iff.mp h3
      obtain ⟨d3, e3, h3⟩ := Option.bind_eq_some_iff.mp h3
      cases h3
      refine ⟨G, ρ, L, d1, ρ1, h1, h2, e1, fun v G1 H1 L1 a1 b1 c1 r1 => ⟨td v d1 G1 H1 a1.ex r1 ht, G1, ρ1, L1, ds, _, a1, c1, e2, fun vs G2 H2 L2 a2 b2 c2 r2 => ?_⟩⟩
      exact md v vs d1 ds _ G2 H2 L2 Q a2 (r1.mono b2.ex) r2 e3 fun v G3 H3 M a3 b3 o3 => q v G3 H3 M L2 a3 ((b1.trans b2).trans b3) (c2.mono b3.ex) o3
    · cases h3
theorem sn_mt0 (pa : PlainAttrs T) (slot : Slot T name id) (hty : typeOf (.builtin id) = pure (.type "method_descriptor")) (hm : MtR X id R) (md : MtD X.K T R r) (td : TyD X.K T t) (ho : SE X o f)
    (hbase : attributeBase o name X.env (eval o X.env) = eval o X.env := by rfl) (hline : (apos.endLine == cpos.line) = true := by rfl) :
    SN X (.Call (.Attribute o name apos) [] [] cpos) (dMt t r f dNil) :=
  pe_weak (pe_bm0 pa slot hty hm ho hbase hline) fun σ H Q ⟨G, ρ, L, d, ρ', h1, h2, h3, q⟩ => by
    unfold dMt at h3
    obtain ⟨⟨d1, ρ1⟩, e1, h3⟩ := Option.bind_eq_some_iff.mp h3
    dsimp only at h3
    split at h3
    · rename_i ht
      obtain ⟨⟨ds, ρ2⟩, e2, h3⟩ := Option.bind_eq_some_iff.mp h3
      obtain ⟨d3, e3, h3⟩ := Option.bind_eq_some_iff.mp h3
      cases e2
      cases h3
      refine ⟨G, ρ, L, d1, _, h1, h2, e1, fun v G1 H1 L1 a1 b1 c1 r1 => ⟨td v d1 G1 H1 a1.ex r1 ht, ?_⟩⟩
      exact md v [] d1 [] _ G1 H1 L1 Q a1 r1 .nil e3 fun v G3 H3 M a3 b3 o3 => q v G3 H3 M L1 a3 (b1.trans b3) (c1.mono b3.ex) o3
    · cases h3
end
/-- a method that changes an own list whose items are pure -/
def OwnD (K : PySem.W.Frag) (R : V → List V → Hp → VK → Prop) (r : List D → List D → Option (List D)) : Prop :=
  ∀ p vs as ds args es G H L (Q : VK), Sta G H ((p, .lst vs) :: L) → RepL K G vs ds → RepL K G as args → r ds args = some es → (∀ vs', RepL K G vs' es → Q .non (upd H p (.lst vs'))) → R (.ref p) as H Q
def dOwn (i : Nat) (r : List D → List D → Option (List D)) (g : DA) : DS := fun ρ => (ownAt ρ i).bind fun _ => (g ρ).bind fun p => (ownAt p.2 i).bind fun ds => if ds.all D.pu = true then (r ds p.1).bind fun es => some (.nx (p.2.set i (some (.own es)))) else none
section
variable {X : Cx} {io : List Nat} {pos px : Pos} {e : Expr} {es : List Expr} {g : DA} {x name : Str} {id : String} {R : V → List V → Hp → VK → Prop} {r : List D → List D → Option (List D)}
theorem own_mt (od : OwnD X.K R r) {σ : L2.St} {G1 H1 : Hp} {L1 : Fp} {ρ1 : Ev} {ds args es' : List D} {as : List V} {Q : VK} (i : Nat) (a1 : Sta G1 H1 L1) (c1 : Sl X.K G1 σ ρ1 L1) (e3 : ρ1[i]? = some (some (.own ds))) (pu : ds.all D.pu = true) (ra : RepL X.K G1 as args)
    (hr : r ds args = some es') (q : ∀ p H' L', σ[i]? = some (some (.ref p)) → Sta G1 H' L' → Stp G1 H1 L1 G1 H' L' → Sl X.K G1 σ (ρ1.set i (some (.own es'))) L' → Q .non H') : ∃ p, σ[i]? = some (some (.ref p)) ∧ R (.ref p) as H1 Q := by
  obtain ⟨p, vs, M, R0, t1, t2, t3, t4, t5⟩ := c1.front a1 e3
  obtain ⟨rl, rfl⟩ := t2.repL pu
  refine ⟨p, t1, od p vs as ds args es' G1 H1 _ Q t3 rl ra hr fun vs' r' => ?_⟩
  obtain ⟨z1, z2⟩ := t3.change (.lst vs')
  obtain ⟨L9, y1, y2⟩ := t5 G1 vs' es' [] (Ex.refl _) r'.ownL
  exact q p _ L9 t1 (z1.perm y2.symm) ((z2.permL t4.symm).permR y2.symm) y1
theorem ss_own (i : Nat) {pa pc : Pos} (slot : Slot "list" name id) (hty : typeOf (.builtin id) = pure (.type "method_descriptor")) (hm : MtR X id R) (od : OwnD X.K R r) (ha : SA X (e :: es) g)
    (hN : X.N[i]? = some x := by rfl) (hv : Vis X.env.scope x := by first | exact Or.inl rfl | exact Or.inr (Or.inl rfl) | exact Or.inr (Or.inr rfl)) (hd : (x == ("__debug__" : Str)) = false := by decide)
    (hcd : (x == ("__classdict__" : Str)) = false := by decide) (hbase : attributeBase (.Name x px) name X.env (eval (.Name x px) X.env) = eval (.Name x px) X.env := by rfl)
    (hfew : ((backTo pc (starEach (e :: es) X.env)).all (fun x => !x.1) && (backToKw pc (keywordEach [] X.env)).all (fun x => x.1.isSome)
      && decide ((e :: es).length + ([] : List Keyword).length + (if ([] : List Keyword).isEmpty then 0 else 1) < 30)) = true := by rfl)
    (hline : (pa.endLine == pc.line) = true := by rfl) (hs : starEach (e :: es) X.env = (false, eval e X.env) :: starEach es X.env := by rfl) (hplain : (backTo pc (starEach es X.env)).any (·.1) = false := by rfl)
    (hsw : swapsWith (.Call (.Attribute (.Name x px) name pa) (e :: es) [] pc) none pos.line X.env = pure false := by rfl) :
    SS X io (.Expr (.Call (.Attribute (.Name x px) name pa) (e :: es) [] pc) pos) (dOwn i r g) :=
  ps_weak (ps_expr (pe_bm PySem.F.plainAttrs_list slot hty hm (pe_var hN hv hd hcd) ha hbase hfew hline hs hplain) hsw) fun De σ H ⟨G, ρ, L, fl, h1, h2, h3, q⟩ => by
    unfold dOwn at h3
    obtain ⟨ds0, e0, h3⟩ := Option.bind_eq_some_iff.mp h3
    obtain ⟨⟨as, ρ1⟩, e1, h3⟩ := Option.bind_eq_some_iff.mp h3
    obtain ⟨ds, e3, h3⟩ := Option.bind_eq_some_iff.mp h3
    dsimp only at h3 e3
    split at h3
    · rename_i pu
      obtain ⟨es', e4, h3⟩ := Option.bind_eq_some_iff.mp h3
      cases h3
      obtain ⟨p0, vs0, M0, R0, s1, s2, s3, _⟩ := h2.front h1 (ownAt_some e0)
      refine ⟨_, s1, .inl ⟨rfl, _, sqL_of (s3.hold _ _ List.mem_cons_self)⟩, G, ρ, L, as, ρ1, h1, h2, e1, fun vs G1 H1 L1 a1 b1 c1 r1 => ?_⟩
      obtain ⟨p, t1, t2⟩ := own_mt od (Q := fun _ H' => De.nx σ H') i a1 c1 (ownAt_some e3) pu r1 e4 fun p H' L' _ a b c => q σ G1 H' L' a (b1.trans b) c .refl
      rw [s1] at t1
      cases t1
      exact t2
    · cases h3
theorem ss_own0 (i : Nat) {pa pc : Pos} (slot : Slot "list" name id) (hty : typeOf (.builtin id) = pure (.type "method_descriptor")) (hm : MtR X id R) (od : OwnD X.K R r)
    (hN : X.N[i]? = some x := by rfl) (hv : Vis X.env.scope x := by first | exact Or.inl rfl | exact Or.inr (Or.inl rfl) | exact Or.inr (Or.inr rfl)) (hd : (x == ("__debug__" : Str)) = false := by decide)
    (hcd : (x == ("__classdict__" : Str)) = false := by decide) (hbase : attributeBase (.Name x px) name X.env (eval (.Name x px) X.env) = eval (.Name x px) X.env := by rfl)
    (hline : (pa.endLine == pc.line) = true := by rfl)
    (hsw : swapsWith (.Call (.Attribute (.Name x px) name pa) [] [] pc) none pos.line X.env = pure false := by rfl) :
    SS X io (.Expr (.Call (.Attribute (.Name x px) name pa) [] [] pc) pos) (dOwn i r dNil) :=
  ps_weak (ps_expr (pe_bm0 PySem.F.plainAttrs_list slot hty hm (pe_var hN hv hd hcd) hbase hline) hsw) fun De σ H ⟨G, ρ, L, fl, h1, h2, h3, q⟩ => by
    unfold dOwn at h3
    obtain ⟨ds0, e0, h3⟩ := Option.bind_eq_some_iff.mp h3
    obtain ⟨⟨as, ρ1⟩, e1, h3⟩ := Option.bind_eq_some_iff.mp h3
    obtain ⟨ds, e3, h3⟩ := Option.bind_eq_some_iff.mp h3
    dsimp only at h3 e3
    split at h3
    · rename_i pu
      obtain ⟨es', e4, h9⟩ := Option.bind_eq_some_iff.mp h3
      unfold dNil at e1
      obtain ⟨rfl, rfl⟩ := Prod.mk.inj (Option.some.inj e1)
      cases h9
      obtain ⟨p0, vs0, M0, R0, s1, s2, s3, _⟩ := h2.front h1 (ownAt_some e0)
      obtain ⟨p, t1, t2⟩ := own_mt od (Q := fun _ H' => De.nx σ H') (as := []) i h1 h2 (ownAt_some e3) pu .nil e4 fun p H' L' _ a b c => q σ G H' L' a b c .refl
      rw [s1] at t1
      cases t1
      exact ⟨_, s1, .inl ⟨rfl, _, sqL_of (s3.hold _ _ List.mem_cons_self)⟩, t2⟩
    · cases h3
end
end Pd

namespace Pd
open PySem PySem.Spec PyProof.Rows L2

/-! ### repr of data: enough that it is small -/
mutual
def rpk : D → Bool
  | .non => true | .bl _ => true | .ty _ => false | .own _ => false | .scr _ => false | .dct _ => false | .dix _ _ => false | .odx _ _ => false | .otp _ => false | .kt _ => false | .exc _ _ _ => false
  | .int i => decide (i.natAbs < 2 ^ 78)
  | .str s => PyData.strOk s
  | .tup ds => rpkL ds | .lst ds => rpkL ds
def rpkL : List D → Bool
  | [] => true
  | d :: ds => rpk d && rpkL ds
end
mutual
/-- signs of texts, and places in lists and tuples -/
def rpn : D → Nat
  | .str s => s.length
  | .tup ds => rpnL ds | .lst ds => rpnL ds
  | _ => 0
def rpnL : List D → Nat
  | [] => 0
  | d :: ds => rpn d + 1 + rpnL ds
end
mutual
def dpt : D → Nat
  | .tup ds => dptL ds + 1 | .lst ds => dptL ds + 1
  | _ => 0
def dptL : List D → Nat
  | [] => 0
  | d :: ds => max (dpt d) (dptL ds)
end
theorem log78 {i : Int} (h : i.natAbs < 2 ^ 78) : i.natAbs.log2 < 78 := by
  by_cases z : i.natAbs = 0
  · rw [z]; decide
  · exact (Nat.log2_lt z).mpr h
mutual
theorem rpk_ok : ∀ d : D, rpk d = true → noTy d = true ∧ (toP d).showable = true ∧ (toP d).leavesShort 80 = true ∧ (toP d).hasDict = false ∧ (toP d).bulk = rpn d ∧ (toP d).depth = dpt d
  | .non, _ => ⟨rfl, rfl, rfl, rfl, rfl, rfl⟩
  | .bl b, _ => ⟨rfl, rfl, rfl, rfl, rfl, rfl⟩
  | .ty _, h => by cases h
  | .own _, h => by cases h
  | .scr _, h => by cases h
  | .dct _, h => by cases h
  | .dix _ _, h => by cases h
  | .odx _ _, h => by cases h
  | .otp _, h => by cases h
  | .kt _, h => by cases h
  | .exc _ _ _, h => by cases h
  | .int i, h => by
    have h2 : i.natAbs < 2 ^ 78 := of_decide_eq_true h
    have h3 := log78 h2
    refine ⟨rfl, decide_eq_true (by omega), decide_eq_true ?_, rfl, rfl, rfl⟩
    have := int_text_length_le (a := i) (k := 78) (by decide) h3
    show (Str.ofString (toString i)).length ≤ 80
    rw [PySem.ofString_length]
    omega
  | .str s, h => ⟨rfl, rfl, by
    have h2 : s.cps.all (fun c => decide (c < 0x110000)) = true := h
    rw [← Array.all_toList] at h2
    refine List.all_eq_true.mpr fun c hc => ?_
    have := of_decide_eq_true (List.all_eq_true.mp h2 c hc)
    exact decide_eq_true (by omega), rfl, rfl, rfl⟩
  | .tup ds, h => by
    obtain ⟨a, b, c, e, f, g⟩ := rpkL_ok ds h
    exact ⟨a, b, c, e, f, by rw [toP, dpt, PyData.depth, g]⟩
  | .lst ds, h => by
    obtain ⟨a, b, c, e, f, g⟩ := rpkL_ok ds h
    exact ⟨a, b, c, e, f, by rw [toP, dpt, PyData.depth, g]⟩
theorem rpkL_ok : ∀ ds : List D, rpkL ds = true → noTyL ds = true ∧ PyData.showableAll (toPL ds) = true ∧ PyData.leavesShortAll 80 (toPL ds) = true ∧ PyData.hasDictAll (toPL ds) = false ∧ PyData.bulkAll (toPL ds) = rpnL ds ∧ PyData.depthAll (toPL ds) = dptL ds
  | [], _ => ⟨rfl, rfl, rfl, rfl, rfl, rfl⟩
  | d :: ds, h => by
    rw [rpkL, Bool.and_eq_true] at h
    obtain ⟨a, b, c, e, f, g⟩ := rpk_ok d h.1
    obtain ⟨a', b', c', e', f', g'⟩ := rpkL_ok ds h.2
    refine ⟨by rw [noTyL, a, a']; rfl, ?_, ?_, ?_, ?_, ?_⟩
    · rw [toPL, PyData.showableAll, b, b']; rfl
    · rw [toPL, PyData.leavesShortAll, c, c']; rfl
    · rw [toPL, PyData.hasDictAll, e, e']; rfl
    · rw [toPL, PyData.bulkAll, f, f']; rfl
    · rw [toPL, PyData.depthAll, g, g']; rfl
end
def rpOk (d : D) : Bool := rpk d && decide (rpn d ≤ 100000) && decide (dpt d ≤ 60)
def shw (d : D) : Str := (toP d).shown
def biRepr (ds : List D) : Option D := match ds with | [d] => if rpOk d = true then some (.str (shw d)) else none | _ => none
theorem shw_fits {d : D} (h : rpOk d = true) : (toP d).shown.length ≤ sizeLine := by
  unfold rpOk at h
  rw [Bool.and_eq_true, Bool.and_eq_true] at h
  obtain ⟨a, b, c, e, f, g⟩ := rpk_ok d h.1.1
  have h2 : rpn d ≤ 100000 := of_decide_eq_true h.1.2
  have := PyData.shown_le_bulk 80 (by decide) (toP d) c
  rw [f] at this
  rw [sizeLine_eq]
  omega
def rRepr (K : PySem.W.Frag) : List V → Hp → VK → Prop := fun vs H Q => ∃ v d, vs = [v] ∧ Dp K H v (toP d) ∧ rpOk d = true ∧ Q (.str (shw d)) H
theorem cr_repr {X : Cx} (hg : X.A.guards = some []) (hu : X.A.units + 64 < cLine) : CallR X (.builtin "repr") (rRepr X.K) := by
  intro pins s σ H xs us Q I r h
  obtain ⟨v, d, rfl, hd, ok, q⟩ := h
  obtain ⟨u, rfl, ru⟩ := vals1 r
  have hfit := shw_fits ok
  unfold rpOk at ok
  rw [Bool.and_eq_true, Bool.and_eq_true] at ok
  obtain ⟨z1, z2, z3, z4, z5, z6⟩ := rpk_ok d ok.1.1
  have hdep : dpt d ≤ 60 := of_decide_eq_true ok.2
  obtain ⟨as, rd⟩ := Dp.reads I (toP d) v u hd ru
  have fin : ∀ a, u = .ref a → wpAny (model X.prog X.w) X.A (call (.builtin "repr") [u]) (EP X pins σ Q) X.xe s := fun a e => by
    subst e
    refine repr_of_reads' rd z2 (PyData.noDict_hsm z4) hg (by rw [z6]; omega) (fun _ _ e => e) (fun h' t tk kp => ?_) hfit
    exact ⟨.str (shw d), H, I.kept (t' := tk) kp, ⟨t, rfl⟩, q⟩
  cases d with
  | non =>
    cases hd
    cases ru
    exact PySem.P.repr_of_none ⟨.str _, H, I.tok _, ⟨_, rfl⟩, q⟩
  | bl b =>
    cases hd
    cases ru
    refine PySem.P.repr_of_bool ⟨.str (shw (.bl b)), H, I.tok _, ⟨s.toks, ?_⟩, q⟩
    cases b <;> rfl
  | int i =>
    cases hd
    obtain ⟨t, rfl⟩ := ru
    exact PySem.P.repr_of_int (Nat.lt_trans (log78 (of_decide_eq_true ok.1.1)) (by decide)) ⟨.str _, H, I.tok _, ⟨_, rfl⟩, q⟩
  | str s0 =>
    cases hd
    obtain ⟨t, rfl⟩ := ru
    exact PySem.P.repr_of_str ⟨.str _, H, I.tok _, ⟨_, rfl⟩, q⟩ hfit
  | tup ds =>
    cases rd with
    | tuple => exact fin _ rfl
  | lst ds =>
    cases rd with
    | list => exact fin _ rfl
  | scr ns => cases ok.1.1
  | dct _ => cases ok.1.1
  | dix _ _ => cases ok.1.1
  | odx _ _ => cases ok.1.1
  | otp _ => cases ok.1.1
  | kt _ => cases ok.1.1
  | exc => cases ok.1.1
  | ty n => cases ok.1.1
  | own ds => cases ok.1.1
theorem cd_repr {K : PySem.W.Frag} : CallD K (rRepr K) biRepr := fun vs ds d G H L Q s r e q => by
  unfold biRepr at e
  split at e
  · split at e
    · rename_i ok
      cases e
      cases r with
      | cons r1 r =>
        cases r
        have ok2 := ok
        unfold rpOk at ok2
        rw [Bool.and_eq_true, Bool.and_eq_true] at ok2
        exact ⟨_, _, rfl, r1.dp s.ex (rpk_ok _ ok2.1.1).1, ok, plain_end s (.str _) q⟩
    · cases e
  · cases e
theorem pu_repr (ds : List D) (d : D) (h : biRepr ds = some d) : d.pu = true := by
  unfold biRepr at h
  split at h
  · split at h <;> cases h
    rfl
  · cases h

/-! ### bounds for repr -/
/-- at most n places and signs, at most k deep -/
structure Rb (n k : Nat) (d : D) : Prop where
  rk : rpk d = true
  le : rpn d ≤ n
  dp : dpt d ≤ k
theorem Rb.ok {n k : Nat} {d : D} (h : Rb n k d) (hn : n ≤ 100000) (hk : k ≤ 60) : rpOk d = true := by
  unfold rpOk
  rw [h.rk, decide_eq_true (Nat.le_trans h.le hn), decide_eq_true (Nat.le_trans h.dp hk)]
  rfl
theorem Rb.mono {n k n' k' : Nat} {d : D} (h : Rb n k d) (hn : n ≤ n') (hk : k ≤ k') : Rb n' k' d := ⟨h.rk, Nat.le_trans h.le hn, Nat.le_trans h.dp hk⟩
theorem Rb.int {i : Int} (h : i.natAbs < 2 ^ 78) : Rb 0 0 (.int i) := ⟨decide_eq_true h, Nat.le_refl _, Nat.le_refl _⟩
theorem Rb.bl {b : Bool} : Rb 0 0 (.bl b) := ⟨rfl, Nat.le_refl _, Nat.le_refl _⟩
theorem Rb.non : Rb 0 0 .non := ⟨rfl, Nat.le_refl _, Nat.le_refl _⟩
theorem Rb.str {s : Str} (h : PyData.strOk s = true) : Rb s.length 0 (.str s) := ⟨h, Nat.le_refl _, Nat.le_refl _⟩
theorem rbL {n k : Nat} : ∀ {ds : List D}, (∀ d ∈ ds, Rb n k d) → rpkL ds = true ∧ rpnL ds ≤ (n + 1) * ds.length ∧ dptL ds ≤ k
  | [], _ => ⟨rfl, Nat.zero_le _, Nat.zero_le _⟩
  | d :: ds, h => by
    obtain ⟨a, b, c⟩ := rbL fun x hx => h x (List.mem_cons_of_mem _ hx)
    have h1 := h d List.mem_cons_self
    refine ⟨by rw [rpkL, h1.rk, a]; rfl, ?_, ?_⟩
    · rw [rpnL, List.length_cons, Nat.mul_add, Nat.mul_one]
      have := h1.le
      omega
    · rw [dptL]
      have := h1.dp
      omega
theorem Rb.lst {n k m : Nat} {ds : List D} (h : ∀ d ∈ ds, Rb n k d) (hm : ds.length ≤ m) : Rb ((n + 1) * m) (k + 1) (.lst ds) := by
  obtain ⟨a, b, c⟩ := rbL h
  exact ⟨a, Nat.le_trans b (Nat.mul_le_mul_left _ hm), Nat.succ_le_succ c⟩
theorem Rb.tup {n k m : Nat} {ds : List D} (h : ∀ d ∈ ds, Rb n k d) (hm : ds.length ≤ m) : Rb ((n + 1) * m) (k + 1) (.tup ds) := by
  obtain ⟨a, b, c⟩ := rbL h
  exact ⟨a, Nat.le_trans b (Nat.mul_le_mul_left _ hm), Nat.succ_le_succ c⟩
end Pd

namespace Pd
open PySem PySem.Spec PyProof.Rows L2

/-! ### stores side by side, own lists too -/
def tAo (K : PySem.W.Frag) (f : DA) : TA := fun σ H Q => ∃ G ρ L ds ρ', Sta G H L ∧ Sl K G σ ρ L ∧ f ρ = some (ds, ρ') ∧
  ∀ vs G' H' M L', Sta G' H' (M ++ L') → Stp G H L G' H' (M ++ L') → Sl K G' σ ρ' L' → OwnL K G' vs ds M → Q vs H'
def SAo (X : Cx) (es : List Expr) (f : DA) : Prop := PA X es (tAo X.K f)
section
variable {X : Cx} {io : List Nat} {e : Expr} {es : List Expr} {st : Stmt} {f : DE} {g : DA}
theorem sao_nil : SAo X [] dNil := pa_weak pa_nil fun σ H Q ⟨G, ρ, L, ds, ρ', h1, h2, h3, q⟩ => by
  unfold dNil at h3
  cases h3
  exact q [] G H [] L h1 .refl h2 .nil
theorem sao_cons (ha : SN X e f) (hr : SAo X es g) (hs : starEach (e :: es) X.env = (false, eval e X.env) :: starEach es X.env := by rfl) : SAo X (e :: es) (dCons f g) := pa_weak (pa_cons ha hr hs) fun σ H Q ⟨G, ρ, L, d, ρ', h1, h2, h3, q⟩ => by
  unfold dCons at h3
  obtain ⟨⟨d1, ρ1⟩, e1, h3⟩ := Option.bind_eq_some_iff.mp h3
  obtain ⟨⟨d2, ρ2⟩, e2, h3⟩ := Option.bind_eq_some_iff.mp h3
  cases h3
  refine ⟨G, ρ, L, d1, ρ1, h1, h2, e1, fun x G1 H1 M1 L1 a1 b1 c1 r1 => ⟨G1, ρ1, L1, d2, ρ2, a1.left, c1, e2, fun vs G2 H2 M2 L2 a2 b2 c2 r2 => ?_⟩⟩
  obtain ⟨z1, z2⟩ := (a1.perm List.perm_append_comm).frame b2 a2
  have pm : ((M2 ++ L2) ++ M1).Perm ((M1 ++ M2) ++ L2) := List.perm_append_comm.trans (by rw [List.append_assoc])
  exact q (x :: vs) G2 H2 (M1 ++ M2) L2 (z1.perm pm) (b1.trans ((z2.permL List.perm_append_comm).permR pm)) c2 (.cons (r1.mono b2.ex) r2)
/-- one of several own answers is stored, the others wait -/
theorem sl_putF {K : PySem.W.Frag} {G H : Hp} {σ : L2.St} {ρ ρ' : Ev} {L M B : Fp} {i : Nat} {v : V} {d : D} (s : Sta G H ((M ++ B) ++ L)) (h : Sl K G σ ρ L) (o : Own K G v d M) (e : put i d ρ = some ρ') :
    ∃ L', Sta G H (B ++ L') ∧ Stp G H ((M ++ B) ++ L) G H (B ++ L') ∧ Sl K G (σ.set i (some v)) ρ' L' := by
  have pm : ((M ++ B) ++ L).Perm ((M ++ L) ++ B) := by rw [List.append_assoc, List.append_assoc]; exact List.perm_append_comm.append_left M
  have s1 := s.perm pm
  have s0 : Sta G H (M ++ L) := (s1.perm List.perm_append_comm).left
  obtain ⟨L', a, b, c⟩ := sl_put s0 h o e
  obtain ⟨z1, z2⟩ := s1.frame b a
  exact ⟨L', z1.perm List.perm_append_comm, (z2.permL pm.symm).permR List.perm_append_comm, c⟩
theorem ss_par2o {i j : Nat} (hst : PS X st (tPar i j (tAo X.K g))) (ho : io.contains i = false := by rfl) (ho' : io.contains j = false := by rfl) : SS X io st (dPar i j g) :=
  ps_weak hst fun De σ H ⟨G, ρ, L, fl, h1, h2, h3, q⟩ => by
    unfold dPar at h3
    obtain ⟨⟨d1, ρ1⟩, e1, h3⟩ := Option.bind_eq_some_iff.mp h3
    dsimp only at h3
    split at h3
    · rename_i a b
      obtain ⟨ρ2, e2, h3⟩ := Option.bind_eq_some_iff.mp h3
      obtain ⟨ρ3, e3, h3⟩ := Option.bind_eq_some_iff.mp h3
      cases h3
      refine ⟨G, ρ, L, _, ρ1, h1, h2, e1, fun vs G' H' M L' a' b' c' r => ?_⟩
      cases r with
      | cons r1 r =>
        cases r with
        | cons r2 r =>
          cases r
          obtain ⟨L2, q1, q2, q3⟩ := sl_putF a' c' r1 e2
          obtain ⟨L3, q4, q5, q6⟩ := sl_putF q1 q3 r2 e3
          rw [List.nil_append] at q4 q5
          exact ⟨_, _, rfl, q _ G' H' L3 q4 ((b'.trans q2).trans q5) q6 ((Kp.set ho).trans (Kp.set ho'))⟩
    · cases h3
theorem ss_par3o {i j l : Nat} (hst : PS X st (tPar3 i j l (tAo X.K g))) (ho : io.contains i = false := by rfl) (ho' : io.contains j = false := by rfl) (ho2 : io.contains l = false := by rfl) : SS X io st (dPar3 i j l g) :=
  ps_weak hst fun De σ H ⟨G, ρ, L, fl, h1, h2, h3, q⟩ => by
    unfold dPar3 at h3
    obtain ⟨⟨d1, ρ1⟩, e1, h3⟩ := Option.bind_eq_some_iff.mp h3
    dsimp only at h3
    split at h3
    · rename_i a b c
      obtain ⟨ρ2, e2, h3⟩ := Option.bind_eq_some_iff.mp h3
      obtain ⟨ρ3, e3, h3⟩ := Option.bind_eq_some_iff.mp h3
      obtain ⟨ρ4, e4, h3⟩ := Option.bind_eq_some_iff.mp h3
      cases h3
      refine ⟨G, ρ, L, _, ρ1, h1, h2, e1, fun vs G' H' M L' a' b' c' r => ?_⟩
      cases r with
      | cons r1 r =>
        cases r with
        | cons r2 r =>
          cases r with
          | cons r3 r =>
            cases r
            obtain ⟨L2, q1, q2, q3⟩ := sl_putF a' c' r1 e2
            obtain ⟨L3, q4, q5, q6⟩ := sl_putF q1 q3 r2 e3
            obtain ⟨L4, q7, q8, q9⟩ := sl_putF q4 q6 r3 e4
            rw [List.nil_append] at q7 q8
            exact ⟨_, _, _, rfl, q _ G' H' L4 q7 (((b'.trans q2).trans q5).trans q8) q9 (((Kp.set ho).trans (Kp.set ho')).trans (Kp.set ho2))⟩
    · cases h3
end

/-! ### methods of own lists -/
section
variable {K : PySem.W.Frag}
def owExtend (ds args : List D) : Option (List D) := match args with
  | [.lst es] => if ds.length + es.length ≤ 1000000 then some (ds ++ es) else none
  | _ => none
theorem od_extend : OwnD K rExtend owExtend := fun p vs as ds args es G H L Q s r ra e q => by
  unfold owExtend at e
  split at e
  · split at e
    · rename_i hz
      cases e
      cases ra with
      | cons r1 ra =>
        cases ra
        cases r1 with
        | lst h1 r1 => exact ⟨p, _, _, _, rfl, rfl, s.hold p _ List.mem_cons_self, s.ex _ _ h1, million (by rw [r.length, r1.length]; exact hz), q _ (r.append r1)⟩
    · cases e
  · cases e
def owInsert (ds args : List D) : Option (List D) := match args with
  | [.int i, d] => if 0 ≤ i ∧ i < 2 ^ 63 ∧ ds.length < 1000000 then some (ds.take i.toNat ++ [d] ++ ds.drop i.toNat) else none
  | _ => none
def rInsert : V → List V → Hp → VK → Prop := fun x vs H Q => ∃ (l : Addr) (xs : List V) (i : Int) (y : V), x = .ref l ∧ vs = [.int i, y] ∧ H l = some (.lst xs) ∧ xs.length < sizeLine ∧ 0 ≤ i ∧ i < 2 ^ 63 ∧ Q .non (upd H l (.lst (xs.take i.toNat ++ [y] ++ xs.drop i.toNat)))
theorem od_insert : OwnD K rInsert owInsert := fun p vs as ds args es G H L Q s r ra e q => by
  unfold owInsert at e
  split at e
  · split at e
    · rename_i hz
      cases e
      cases ra with
      | cons r1 ra =>
        cases ra with
        | cons r2 ra =>
          cases ra
          cases r1
          refine ⟨p, _, _, _, rfl, rfl, s.hold p _ List.mem_cons_self, ?_, hz.1, hz.2.1, q _ (((r.take _).append (.cons r2 .nil)).append (r.drop _))⟩
          rw [r.length]
          have : sizeLine = 16777216 := sizeLine_eq
          have := hz.2.2
          omega
    · cases e
  · cases e
def owReverse (ds args : List D) : Option (List D) := match args with | [] => some ds.reverse | _ => none
theorem od_reverse : OwnD K rReverse owReverse := fun p vs as ds args es G H L Q s r ra e q => by
  unfold owReverse at e
  split at e
  · cases e
    cases ra
    exact ⟨p, _, rfl, rfl, s.hold p _ List.mem_cons_self, q _ r.reverse⟩
  · cases e
theorem idx_first (k : Int) : ∀ {ns : List Int}, k ∈ ns → ns[ns.idxOf k]? = some k ∧ ∀ m, m < ns.idxOf k → ns[m]? ≠ some k
  | n :: ns, h => by
    rw [List.idxOf_cons]
    by_cases e : n = k
    · subst e
      rw [beq_self_eq_true]
      exact ⟨rfl, fun m hm => absurd hm (Nat.not_lt_zero m)⟩
    · rw [beq_false_of_ne e]
      obtain ⟨a, b⟩ := idx_first k (List.mem_of_ne_of_mem (fun z => e z.symm) h)
      refine ⟨a, fun m hm => ?_⟩
      cases m with
      | zero => intro z; exact e (Option.some.inj z)
      | succ m => exact b m (Nat.lt_of_succ_lt_succ hm)
theorem repL_ints {G : Hp} : ∀ ns : List Int, RepL K G (ns.map V.int) (ns.map D.int)
  | [] => .nil
  | n :: ns => .cons (.int n) (repL_ints ns)
def owRemove (ds args : List D) : Option (List D) := match args with
  | [.int k] => (intsD ds).bind fun ns => if k ∈ ns then some ((ns.eraseIdx (ns.idxOf k)).map D.int) else none
  | _ => none
theorem od_remove : OwnD K rRemI owRemove := fun p vs as ds args es G H L Q s r ra e q => by
  unfold owRemove at e
  split at e
  · rename_i k
    obtain ⟨ns, e1, e⟩ := Option.bind_eq_some_iff.mp e
    split at e
    · rename_i hk
      cases e
      have e2 := ints_rep r e1
      subst e2
      cases ra with
      | cons r1 ra =>
        cases ra
        cases r1
        obtain ⟨z1, z2⟩ := idx_first k hk
        exact ⟨p, ns, k, _, rfl, rfl, s.hold p _ List.mem_cons_self, z1, z2, q _ (repL_ints _)⟩
    · cases e
  · cases e

/-! ### methods of lists -/
/-- the first place of what is equal; flat items -/
def ixD (a : D) : List D → Option Nat
  | [] => none
  | d :: ds => if deq d a = true then some 0 else (ixD a ds).bind fun j => some (j + 1)
def mdIndex (a : D) (args : List D) : Option D := match a, args with
  | .lst ds, [d] => if (d.flat && ds.all D.flat) = true then (ixD d ds).bind fun j => some (.int (j : Int)) else none
  | _, _ => none
theorem ixD_rep {G : Hp} {x : V} {a : D} (r : Rep K G x a) (f : a.flat = true) : ∀ {vs : List V} {ds : List D} {j : Nat}, RepL K G vs ds → ds.all D.flat = true → ixD a ds = some j →
    ∃ z, vs[j]? = some z ∧ eqV z x = true ∧ ∀ m z', m < j → vs[m]? = some z' → eqV z' x = false
  | _, _, _, .nil, _, e => by cases e
  | _, _, j, .cons (v := v) (d := d) h rr, fl, e => by
    rw [List.all_cons, Bool.and_eq_true] at fl
    have q := eqV_deq r h f fl.1
    rw [ixD] at e
    split at e
    · rename_i hd
      cases e
      exact ⟨v, rfl, by rw [q]; exact hd, fun m z' hm => absurd hm (Nat.not_lt_zero m)⟩
    · rename_i hd
      obtain ⟨j', e1, e2⟩ := Option.bind_eq_some_iff.mp e
      cases e2
      obtain ⟨z, z1, z2, z3⟩ := ixD_rep r f rr fl.2 e1
      refine ⟨z, z1, z2, fun m z' hm hz => ?_⟩
      cases m with
      | zero =>
        cases hz
        rw [q]
        exact Bool.eq_false_iff.mpr hd
      | succ m => exact z3 m z' (Nat.lt_of_succ_lt_succ hm) hz
theorem flatV_all {G : Hp} : ∀ {vs : List V} {ds : List D}, RepL K G vs ds → ds.all D.flat = true → vs.all flatV = true
  | _, _, .nil, _ => rfl
  | _, _, .cons h r, f => by
    rw [List.all_cons, Bool.and_eq_true] at f
    rw [List.all_cons, flat_rep h f.1, flatV_all r f.2]
    rfl
theorem md_index : MtD K "list" (rIndex K) mdIndex := fun x vs a ds d G H L Q s r rs e q => by
  unfold mdIndex at e
  split at e
  · split at e
    · rename_i hf
      obtain ⟨j, e1, e⟩ := Option.bind_eq_some_iff.mp e
      cases e
      rw [Bool.and_eq_true] at hf
      cases r with
      | lst h1 r1 =>
        cases rs with
        | cons r2 rs =>
          cases rs
          obtain ⟨z, z1, z2, z3⟩ := ixD_rep r2 hf.1 r1 hf.2 e1
          exact ⟨_, _, _, j, z, rfl, rfl, s.ex.sqL (sqL_of h1), flat_rep r2 hf.1, flatV_all r1 hf.2, z1, z2, z3, plain_end s (.int _) q⟩
    · cases e
  · cases e
def mdCount (a : D) (args : List D) : Option D := match a, args with
  | .lst ds, [.int k] => (intsD ds).bind fun ns => some (.int ((ns.count k : Nat) : Int))
  | _, _ => none
theorem md_count : MtD K "list" (rCntI K) mdCount := fun x vs a ds d G H L Q s r rs e q => by
  unfold mdCount at e
  split at e
  · obtain ⟨ns, e1, e⟩ := Option.bind_eq_some_iff.mp e
    cases e
    cases r with
    | lst h1 r1 =>
      have e2 := ints_rep r1 e1
      subst e2
      cases rs with
      | cons r2 rs =>
        cases rs
        cases r2
        exact ⟨_, _, _, rfl, rfl, s.ex.sqL (sqL_of h1), plain_end s (.int _) q⟩
  · cases e
theorem pu_mt {t : D → Bool} {r : D → List D → Option D} {f : DE} {g : DA} (h : ∀ a ds d, r a ds = some d → d.pu = true) : ∀ ρ d ρ', dMt t r f g ρ = some (d, ρ') → d.pu = true := fun ρ d ρ' e => by
  unfold dMt at e
  obtain ⟨p, e1, e⟩ := Option.bind_eq_some_iff.mp e
  split at e
  · obtain ⟨q, e2, e⟩ := Option.bind_eq_some_iff.mp e
    obtain ⟨z, e3, e⟩ := Option.bind_eq_some_iff.mp e
    cases e
    exact h _ _ _ e3
  · cases e
theorem pu_mindex (a : D) (ds : List D) (d : D) (h : mdIndex a ds = some d) : d.pu = true := by
  unfold mdIndex at h
  split at h
  · split at h
    · obtain ⟨j, e1, e⟩ := Option.bind_eq_some_iff.mp h
      cases e
      rfl
    · cases h
  · cases h
theorem pu_mcount (a : D) (ds : List D) (d : D) (h : mdCount a ds = some d) : d.pu = true := by
  unfold mdCount at h
  split at h
  · obtain ⟨j, e1, e⟩ := Option.bind_eq_some_iff.mp h
    cases e
    rfl
  · cases h

/-! ### min, max, sorted of a list of numbers, str of a number -/
def leastI : List Int → Int
  | [] => 0
  | n :: ns => ns.foldl min n
def mostI : List Int → Int
  | [] => 0
  | n :: ns => ns.foldl max n
theorem foldl_min (ns : List Int) : ∀ n : Int, (ns.foldl min n = n ∨ ns.foldl min n ∈ ns) ∧ ns.foldl min n ≤ n ∧ ∀ y ∈ ns, ns.foldl min n ≤ y := by
  induction ns with
  | nil => exact fun n => ⟨.inl rfl, Int.le_refl _, fun y h => (nomatch h)⟩
  | cons a ns ih =>
    intro n
    obtain ⟨h1, h2, h3⟩ := ih (min n a)
    rw [List.foldl_cons]
    refine ⟨?_, by omega, fun y hy => ?_⟩
    · rcases h1 with h1 | h1
      · rcases Int.le_total n a with z | z
        · left; omega
        · right; rw [h1, Int.min_eq_right z]; exact List.mem_cons_self
      · exact .inr (List.mem_cons_of_mem _ h1)
    · rcases List.mem_cons.mp hy with z | z
      · omega
      · exact h3 y z
theorem foldl_max (ns : List Int) : ∀ n : Int, (ns.foldl max n = n ∨ ns.foldl max n ∈ ns) ∧ n ≤ ns.foldl max n ∧ ∀ y ∈ ns, y ≤ ns.foldl max n := by
  induction ns with
  | nil => exact fun n => ⟨.inl rfl, Int.le_refl _, fun y h => (nomatch h)⟩
  | cons a ns ih =>
    intro n
    obtain ⟨h1, h2, h3⟩ := ih (max n a)
    rw [List.foldl_cons]
    refine ⟨?_, by omega, fun y hy => ?_⟩
    · rcases h1 with h1 | h1
      · rcases Int.le_total a n with z | z
        · left; omega
        · right; rw [h1, Int.max_eq_right z]; exact List.mem_cons_self
      · exact .inr (List.mem_cons_of_mem _ h1)
    · rcases List.mem_cons.mp hy with z | z
      · omega
      · exact h3 y z
theorem leastI_ok {ns : List Int} (h : ns ≠ []) : leastI ns ∈ ns ∧ ∀ y ∈ ns, leastI ns ≤ y := by
  cases ns with
  | nil => exact absurd rfl h
  | cons n ns =>
    obtain ⟨h1, h2, h3⟩ := foldl_min ns n
    refine ⟨?_, fun y hy => ?_⟩
    · rcases h1 with z | z
      · show ns.foldl min n ∈ _
        rw [z]; exact List.mem_cons_self
      · exact List.mem_cons_of_mem _ z
    · rcases List.mem_cons.mp hy with z | z
      · rw [z]; exact h2
      · exact h3 y z
theorem mostI_ok {ns : List Int} (h : ns ≠ []) : mostI ns ∈ ns ∧ ∀ y ∈ ns, y ≤ mostI ns := by
  cases ns with
  | nil => exact absurd rfl h
  | cons n ns =>
    obtain ⟨h1, h2, h3⟩ := foldl_max ns n
    refine ⟨?_, fun y hy => ?_⟩
    · rcases h1 with z | z
      · show ns.foldl max n ∈ _
        rw [z]; exact List.mem_cons_self
      · exact List.mem_cons_of_mem _ z
    · rcases List.mem_cons.mp hy with z | z
      · rw [z]; exact h2
      · exact h3 y z
def biMin1 (ds : List D) : Option D := match ds with | [.lst xs] => (intsD xs).bind fun ns => if ns = [] then none else some (.int (leastI ns)) | _ => none
def biMax1 (ds : List D) : Option D := match ds with | [.lst xs] => (intsD xs).bind fun ns => if ns = [] then none else some (.int (mostI ns)) | _ => none
theorem cd_min1 : CallD K (rMin K) biMin1 := fun vs ds d G H L Q s r e q => by
  unfold biMin1 at e
  split at e
  · obtain ⟨ns, e1, e⟩ := Option.bind_eq_some_iff.mp e
    split at e
    · cases e
    · rename_i hne
      cases e
      cases r with
      | cons r1 r =>
        cases r
        cases r1 with
        | lst hs hr =>
          have z := ints_rep hr e1
          subst z
          refine ⟨_, ns, rfl, s.ex.sqL (sqL_of hs), List.length_pos_iff.mpr hne, fun m hm hl => ?_⟩
          obtain ⟨z1, z2⟩ := leastI_ok hne
          have : m = leastI ns := Int.le_antisymm (hl _ z1) (z2 m hm)
          subst this
          exact plain_end s (.int _) q
  · cases e
theorem cd_max1 : CallD K (rMax K) biMax1 := fun vs ds d G H L Q s r e q => by
  unfold biMax1 at e
  split at e
  · obtain ⟨ns, e1, e⟩ := Option.bind_eq_some_iff.mp e
    split at e
    · cases e
    · rename_i hne
      cases e
      cases r with
      | cons r1 r =>
        cases r
        cases r1 with
        | lst hs hr =>
          have z := ints_rep hr e1
          subst z
          refine ⟨_, ns, rfl, s.ex.sqL (sqL_of hs), List.length_pos_iff.mpr hne, fun m hm hl => ?_⟩
          obtain ⟨z1, z2⟩ := mostI_ok hne
          have : m = mostI ns := Int.le_antisymm (z2 m hm) (hl _ z1)
          subst this
          exact plain_end s (.int _) q
  · cases e
theorem pu_min1 (ds : List D) (d : D) (h : biMin1 ds = some d) : d.pu = true := by
  unfold biMin1 at h
  split at h
  · obtain ⟨ns, e1, h⟩ := Option.bind_eq_some_iff.mp h
    split at h <;> cases h
    rfl
  · cases h
theorem pu_max1 (ds : List D) (d : D) (h : biMax1 ds = some d) : d.pu = true := by
  unfold biMax1 at h
  split at h
  · obtain ⟨ns, e1, h⟩ := Option.bind_eq_some_iff.mp h
    split at h <;> cases h
    rfl
  · cases h
def srtI (ns : List Int) : List Int := ns.mergeSort fun a b => decide (a ≤ b)
theorem srtI_perm (ns : List Int) : (srtI ns).Perm ns := List.mergeSort_perm ns _
theorem srtI_sorted (ns : List Int) : (srtI ns).Pairwise (· ≤ ·) := (List.pairwise_mergeSort (le := fun a b => decide (a ≤ b)) (fun a b c h1 h2 => decide_eq_true (Int.le_trans (of_decide_eq_true h1) (of_decide_eq_true h2))) (fun a b => by
  rcases Int.le_total a b with z | z
  · rw [decide_eq_true z]; rfl
  · rw [decide_eq_true z, Bool.or_true]) ns).imp fun h => of_decide_eq_true h
theorem sorted_uniq : ∀ {as bs : List Int}, as.Perm bs → as.Pairwise (· ≤ ·) → bs.Pairwise (· ≤ ·) → as = bs := fun p h1 h2 => p.eq_of_pairwise (fun a b _ _ x y => Int.le_antisymm x y) h1 h2
def biSortedI (ds : List D) : Option D := match ds with | [.lst xs] => (intsD xs).bind fun ns => some (.own ((srtI ns).map D.int)) | _ => none
theorem cd_sortedI : CallD K (rSortedI K) biSortedI := fun vs ds d G H L Q s r e q => by
  unfold biSortedI at e
  split at e
  · obtain ⟨ns, e1, e⟩ := Option.bind_eq_some_iff.mp e
    cases e
    cases r with
    | cons r1 r =>
      cases r
      cases r1 with
      | lst hs hr =>
        have z := ints_rep hr e1
        subst z
        refine ⟨_, ns, rfl, s.ex.sqL (sqL_of hs), fun ns' p h1 h2 hp => ?_⟩
        have e2 : ns' = srtI ns := sorted_uniq (h1.trans (srtI_perm ns).symm) h2 (srtI_sorted ns)
        subst e2
        obtain ⟨z1, z2⟩ := s.newOwn _ hp
        exact q _ _ _ [_] z1 z2 (.own (repL_ints _).ownL)
  · cases e
def biStrI (ds : List D) : Option D := match ds with | [.int i] => if i.natAbs < 2 ^ 78 then some (.str (Str.ofString (toString i))) else none | _ => none
theorem cd_strI : CallD K (fun xs H Q => ∃ i, xs = [.int i] ∧ i.natAbs.log2 < 1920 ∧ Q (.str (toString i)) H) biStrI := fun vs ds d G H L Q s r e q => by
  unfold biStrI at e
  split at e
  · split at e
    · rename_i hz
      cases e
      cases r with
      | cons r1 r =>
        cases r
        cases r1
        exact ⟨_, rfl, Nat.lt_trans (log78 hz) (by decide), plain_end s (.str _) q⟩
    · cases e
  · cases e
theorem pu_strI (ds : List D) (d : D) (h : biStrI ds = some d) : d.pu = true := by
  unfold biStrI at h
  split at h
  · split at h <;> cases h
    rfl
  · cases h
end
end Pd

namespace Pd
open PySem PySem.Spec PyProof.Rows L2
/-- the place of the argument that is changed -/
def SpAt (j : Nat) (g : DR) : Prop := ∀ ρ as ρ' z, g ρ = some (as, ρ') → splitR as = some z → z.1.length = j
theorem spr {i : Nat} {g : DR} : SpAt 0 (rRef i g) := fun ρ as ρ' z h e => by
  unfold rRef at h
  split at h
  · obtain ⟨⟨d2, ρ2⟩, e2, h⟩ := Option.bind_eq_some_iff.mp h
    cases h
    rw [splitR] at e
    obtain ⟨ds', e1, e⟩ := Option.bind_eq_some_iff.mp e
    cases e
    rfl
  · cases h
theorem spv {j : Nat} {f : DE} {g : DR} (s : SpAt j g) : SpAt (j + 1) (rVal f g) := fun ρ as ρ' z h e => by
  unfold rVal at h
  obtain ⟨⟨d1, ρ1⟩, e1, h⟩ := Option.bind_eq_some_iff.mp h
  obtain ⟨⟨d2, ρ2⟩, e2, h⟩ := Option.bind_eq_some_iff.mp h
  cases h
  rw [splitR] at e
  obtain ⟨z', e3, e⟩ := Option.bind_eq_some_iff.mp e
  cases e
  have := s _ _ _ _ e2 e3
  show z'.1.length + 1 = j + 1
  rw [this]
section
variable {X : Cx} {io : List Nat} {pos : Pos} {st : Stmt} {g : DA}
theorem ss_no : SS X io st (fun _ => none) := ⟨fun _ _ _ _ _ _ ⟨_, _, _, _, _, _, h, _⟩ => by cases h⟩
theorem ss_par2 {i j : Nat} (hst : PS X st (tPar i j (tAs X.K g))) (ho : io.contains i = false := by rfl) (ho' : io.contains j = false := by rfl) : SS X io st (dPar i j g) :=
  ps_weak hst fun De σ H => tS_par ho ho'
theorem ss_par3 {i j l : Nat} (hst : PS X st (tPar3 i j l (tAs X.K g))) (ho : io.contains i = false := by rfl) (ho' : io.contains j = false := by rfl) (ho2 : io.contains l = false := by rfl) : SS X io st (dPar3 i j l g) :=
  ps_weak hst fun De σ H => tS_par3 ho ho' ho2
end
theorem Room_u64 {k : Nat} {A : Around} (r : Rm k A) : A.units + 64 < cLine := by have := r.room.un; omega
theorem Room_u65 {k : Nat} {A : Around} (r : Rm k A) : A.units + 65 < cLine := by have := r.room.un; omega
/-- the law's own promise, at the script -/
theorem spC_law {K : PySem.W.Frag} {H : Hp} {a : Addr} {ns : List Int} {C : Ct} (hS : SqL K H a (ns.map V.int)) (h : C [.scr ns] = some (.bl true, [])) : spC K 1 [] C [.ref a] H (fun v _ => v = .bl true) E0 := by
  refine ⟨rfl, H, [.scr ns], [], .bl true, [], ⟨Ex.refl H, fun _ _ z => (nomatch z), fun _ _ z => (nomatch z), List.nodup_nil⟩, OwnL.one (.pure (.scr hS)), h, fun v G' H' M L' a b o oo => ?_⟩
  obtain ⟨r, _⟩ := o.rep rfl
  cases r
  rfl
/-! ### the law is called -/
section
variable {P : Program} {w : World} {K : PySem.W.Frag} {mg mb : Str → Option Value} {k : Nat} {fa a : Addr} {fd : FuncData} {x : Str} {sp : Sp} {s1 : Shared} {vs : List Value} {ns : List Int}
/-- from an abstract heap that tracks the script alone, or nothing -/
theorem law_from {H : Hp} (KX : K.In s1.heap) (hns : s1.heap.Ns mainGlobals mg) (hb : s1.heap.Ns builtinsNs mb) (hbb : ∀ x : Str, x ≠ "__name__" → mb x = bootBuiltins x) (hlim : s1.heap.NoLimit) (hg : s1.gens = #[])
    (ha : s1.heap.get? a = some { cls := .type "list", data := .seq vs.toArray }) (hr : Rm k callerA) (F : ∀ base : Heap, K.In base → base.Ns mainGlobals mg → FnG P w K mg base k fa fd [x] sp) (hbind : ∀ (s : Shared) (u : Value), BindsTo s fd ⟨[u], []⟩ [(x, u)])
    (hsp : sp [.ref a] H (fun v _ => v = .bl true) E0) (hok : HOk P w H s1.heap) (only : ∀ b u, H b = some u → b = a ∧ ∃ o ys, u = .frz o (.lst ys)) (out : ∀ o, K.lookup a = some o → H a = none) :
    codeAny (model P w) callerA (.call (.ref fa) ⟨[.ref a], []⟩) (fun r s' => r = .ok (.ret (.bool true)) ∧ OldK s1.heap s'.heap ∧ s'.os = s1.os ∧ AllBare s'.gens) s1 := by
  -- what holds no dict of a namespace is not the script
  have free : ∀ {b : Addr} {o : Obj} {es : Array DictEntry} {ep : Nat}, s1.heap.get? b = some o → o.data = .dict es ep → H b = none := fun {b o es ep} e d => by
    match q : H b with
    | none => rfl
    | some u =>
      have z := (only b u q).1
      subst z
      rw [ha] at e
      cases e
      cases d
  have lift : ∀ {b : Addr} {m : Str → Option Value}, s1.heap.Ns b m → (hidT s1.heap H).Ns b m := fun {b m} z => by
    obtain ⟨o, es, ep, e, d, r⟩ := z
    exact ⟨o, es, ep, hidT_get e (free e d), d, r⟩
  have inB : K.In (hidT s1.heap H) := fun b o e => hidT_get (KX b o e) (by
    match q : H b with
    | none => rfl
    | some u =>
      have z := (only b u q).1
      subst z
      rw [out o e] at q
      cases q)
  have md : Mod K mg (hidT s1.heap H) := { kin := inB, glob := lift hns, blt := ⟨mb, lift hb, hbb⟩, nolimit := (by obtain ⟨m, h1, h2⟩ := hlim; exact ⟨m, lift h1, h2⟩) }
  have e0 : Env0 P w K mg (hidT s1.heap H) callerA [] s1 H :=
    { frames := rfl, mod := md, bs := fun b o e => of_hidT e, bsz := Nat.le_of_eq (hidT_size _ _), funs := trivial, frf := fun b z => (nomatch z), hok := hok, bare := .of_eq hg }
  refine codeAny_mono ((F _ inB (lift hns)).run callerA [] s1 H ⟨[.ref a], []⟩ [.ref a] [.ref a] _ hr e0 (hbind s1 (.ref a)) (.cons rfl .nil) hsp) fun r s2 h => ?_
  match r with
  | .error _ => exact False.elim h
  | .ok .next => exact False.elim h
  | .ok .brk => exact False.elim h
  | .ok .cont => exact False.elim h
  | .ok (.ret u) =>
    obtain ⟨v, H2, os, bare, un, ok2, rv, q⟩ := h
    have q1 : v = .bl true := q
    subst q1
    have q2 : u = .bool true := rv
    subst q2
    refine ⟨rfl, OldK.of_keep fun b o e => ?_, os, bare⟩
    match hb2 : H b with
    | none => exact un.keep b o e hb2 (fun z => (nomatch z)) (fun z => (nomatch z))
    | some u =>
      obtain ⟨_, o3, ys, rfl⟩ := only b u hb2
      have before := (hok b _ hb2).1
      rw [e] at before
      cases before
      exact (ok2 b _ (un.frzs b _ _ hb2)).1
theorem law_callG (KX : K.In s1.heap) (hns : s1.heap.Ns mainGlobals mg) (hb : s1.heap.Ns builtinsNs mb) (hbb : ∀ x : Str, x ≠ "__name__" → mb x = bootBuiltins x) (hlim : s1.heap.NoLimit) (hg : s1.gens = #[])
    (ha : s1.heap.get? a = some { cls := .type "list", data := .seq vs.toArray }) (hi : IntsAre vs ns) (hl : ns.length ≤ sizeLine) (hr : Rm k callerA) (F : ∀ base : Heap, K.In base → base.Ns mainGlobals mg → FnG P w K mg base k fa fd [x] sp) (hbind : ∀ (s : Shared) (u : Value), BindsTo s fd ⟨[u], []⟩ [(x, u)])
    (hsp : ∀ H : Hp, SqL K H a (ns.map V.int) → sp [.ref a] H (fun v _ => v = .bl true) E0) :
    codeAny (model P w) callerA (.call (.ref fa) ⟨[.ref a], []⟩) (fun r s' => r = .ok (.ret (.bool true)) ∧ OldK s1.heap s'.heap ∧ s'.os = s1.os ∧ AllBare s'.gens) s1 := by
  have rv := vals_ints hi
  by_cases hk : ∃ o, K.lookup a = some o
  · -- an object of the module
    obtain ⟨o, hk⟩ := hk
    have e := KX a o hk
    rw [ha] at e
    cases e
    exact law_from (H := fun _ => none) KX hns hb hbb hlim hg ha hr F hbind (hsp _ (.inr ⟨_, vs.toArray, _, hk, rfl, rfl, rfl, by rw [List.size_toArray, hi.length]; exact hl, by simpa using rv⟩)) (fun b u z => (nomatch z)) (fun b u z => (nomatch z)) fun _ _ => rfl
  · have at1 : (fun b : Addr => if b = a then some (HO.frz { cls := .type "list", data := .seq vs.toArray } (.lst (ns.map V.int))) else none) a = some (HO.frz { cls := .type "list", data := .seq vs.toArray } (.lst (ns.map V.int))) := if_pos rfl
    have only : ∀ b u, (fun b : Addr => if b = a then some (HO.frz { cls := .type "list", data := .seq vs.toArray } (.lst (ns.map V.int))) else none) b = some u → b = a ∧ u = HO.frz { cls := .type "list", data := .seq vs.toArray } (.lst (ns.map V.int)) := fun b u z => by
      dsimp only at z
      split at z
      · cases z
        exact ⟨by assumption, rfl⟩
      · cases z
    refine law_from (H := fun b : Addr => if b = a then some (HO.frz { cls := .type "list", data := .seq vs.toArray } (.lst (ns.map V.int))) else none) KX hns hb hbb hlim hg ha hr F hbind (hsp _ (.inl (.inr ⟨_, at1⟩))) (fun b u z => ?_) (fun b u z => ?_) fun o z => absurd ⟨o, z⟩ hk
    · obtain ⟨rfl, rfl⟩ := only b u z
      exact ⟨ha, by rw [List.length_map]; exact hl, vs, 0, rv, ha⟩
    · obtain ⟨z1, rfl⟩ := only b u z
      exact ⟨z1, _, _, rfl⟩
end
/-- what k_head leaves, from the law's promise -/
theorem walkG {l : PySem.W.OpenLaw} {n k : Nat} {q : Program} {loose : List Str} {XP : (Str → Option Value) → Heap → Prop} {YP : World → Heap → Prop} {d : DefRec} {K : Params → PySem.W.Frag} {C : Ct} {x : Str}
    (hn : l.most = some n) (hn2 : n ≤ sizeLine) (hdf : d.params.defaults = []) (hr : Rm k callerA) (hY : ∀ (w : World) (h : Heap), YP w h → (K w.params).In h)
    (F : ∀ (w : World) (mg : Str → Option Value) (fa : Addr) (h : Heap), (K w.params).In h → h.Ns mainGlobals mg → mg d.name = some (.ref fa) →
      ∃ fd : FuncData, (∀ (s : Shared) (u : Value), BindsTo s fd ⟨[u], []⟩ [(x, u)]) ∧ ∀ base : Heap, (K w.params).In base → base.Ns mainGlobals mg → FnG l.prog w (K w.params) mg base k fa fd [x] (spC (K w.params) 1 [] C))
    (law : ∀ ns : List Int, ns.length ≤ n → C [.scr ns] = some (.bl true, [])) : PySem.W.WalkO q loose XP YP l.row.toRowW d [] (fun f vs => PySem.call f vs) := by
  refine Att.attach_call hn hdf fun w s₀ s₁ mg mb fa o pm cd doc a vs ns G Y ho hd hcd hmg hobj hints hlen hg => ?_
  obtain ⟨fd, hb, hF⟩ := F w mg fa _ (hY w _ Y) G.T.g hmg
  exact law_callG (hY w _ Y) G.T.g G.T.b G.T.builtins G.T.nolimit hg hobj hints (Nat.le_trans hlen hn2) hr hF hb fun H hS => spC_law hS (law ns hlen)
end Pd

namespace Pd
open PySem PySem.Spec PyProof.Rows L2

/-! ### sorted(set(xs)) of numbers -/
/-- a set that holds nothing yet -/
abbrev bare (w : World) : Obj := { cls := .type "set", dict := none, data := .set #[] 0 (.fresh 0 0 (!w.params.followText "set-order")) }
/-- what a set made of the numbers ns is, behind the call -/
def Made (w : World) (s : Shared) (ns : List Int) (Q : Value → Shared → Prop) : Prop :=
  ∀ (h2 : Heap) (tk c : Nat), SetR w h2 s.heap.objs.size (fun j => decide (j ∈ ns)) c → c ≤ ns.length → (∀ b o, s.heap.get? b = some o → h2.get? b = some o) → Q (.ref s.heap.objs.size) { s with heap := h2, toks := tk }
section
variable {P : Program} {w : World} {A : Around} {E : Value → Shared → Prop} {s : Shared}
/-- set.__init__ of a list of numbers, at the bare set -/
theorem init_list {l : Addr} {its : Array Value} {ns : List Int} {Q : PySem.Fin → Shared → Prop} (hh : A.handled = none) (hl : s.heap.IsList l its) (hit : IntsAre its.toList ns) (hb : ns.length + 1 < scanBound)
    (q : ∀ (h2 : Heap) (tk c : Nat), SetR w h2 s.heap.objs.size (fun j => decide (j ∈ ns)) c → c ≤ ns.length → (∀ b o, s.heap.get? b = some o → h2.get? b = some o) → Q (.done (.ret .none)) { s with heap := h2, toks := tk }) :
    wpAny (model P w) A (Builtin.«set.__init__» ⟨[.ref s.heap.objs.size, .ref l], []⟩) Q E { s with heap := s.heap.push (bare w) } := by
  have sz : its.size = ns.length := by rw [← Array.length_toList]; exact IntsAre.length hit
  obtain ⟨⟨oc, od, oda, os⟩, lk, cl, n0, dl⟩ := hl
  dsimp only at cl dl
  subst cl dl
  have top : (s.heap.push (bare w)).get? s.heap.objs.size = some (bare w) := Heap.get?_push_size _ rfl
  have lk2 := Heap.get?_push_of_some (o := bare w) lk
  have il : (s.heap.push (bare w)).IsList l its := ⟨_, lk2, rfl, n0, rfl⟩
  have y1 := F.sub_list_set
  have y2 := F.sub_list_frozenset
  have y3 : (Value.type "list" == Value.type "dict") = false := by decide
  have y4 : Shared.TypeIs { s with heap := s.heap.push (bare w) } (.ref s.heap.objs.size) "set" := ⟨_, top, rfl⟩
  unfold Builtin.«set.__init__» noKeywords Builtin.Frozenset.updateFrom
  generalize eI : pyIter = PI
  wp_walk
  subst eI
  refine wpAny_pyIter_list il (wpAny_bind (wpAny_runValue ?_))
  have low : l < s.heap.objs.size := Heap.lt_size lk
  have up : (s.heap.push (bare w)).objs.size = s.heap.objs.size + 1 := Heap.size_push ..
  have hne : l ≠ (s.heap.push (bare w)).objs.size := by rw [up]; exact Nat.ne_of_lt (Nat.lt_succ_of_lt low)
  have far : s.heap.objs.size ∉ [(s.heap.push (bare w)).objs.size, l] := by
    intro m
    rcases List.mem_cons.mp m with m | m
    · rw [up] at m
      exact Nat.ne_of_lt (Nat.lt_succ_self _) m
    · exact Nat.ne_of_gt low (List.mem_singleton.mp m)
  have item : ∀ (i : Nat) (v : Value), its[i]? = some v → ∃ k t, ns[i]? = some k ∧ v = .int k t := fun i v hv => by
    have lt : i < ns.length := by rw [← sz]; exact (Array.getElem?_eq_some_iff.mp hv).1
    obtain ⟨t, e⟩ := IntsAre.int_at hit i v (by rw [Array.getElem?_toList]; exact hv)
    exact ⟨ns[i], t, List.getElem?_eq_getElem lt, by rw [e, List.getD_eq_getElem?_getD, List.getElem?_eq_getElem lt]; rfl⟩
  have hh2 : A.in1.handled = none := by simp [hh]
  refine set_update_ints ((Walks.list (by simp [hh]) _ l hne its).toS) s.heap.objs.size far ns sz hb item (its.size - 0) 0 _ (by omega) (Nat.zero_le _) ⟨⟨_, Heap.get?_push_size _ rfl, rfl, rfl⟩, il.push _⟩ ?_ fun s2 c2 mv le R2 => ?_
  · exact ⟨0, Nat.le_refl 0, setR_new_at (Heap.get?_push_of_some _ top)⟩
  · obtain ⟨h2, g2, d2, k2, o2⟩ := s2
    obtain rfl : g2 = s.gens := mv.gens
    obtain rfl : d2 = s.drawn := mv.drawn
    obtain rfl : o2 = s.os := mv.os
    refine wpAny_pure ?_
    refine wpAny_pure (q h2 k2 c2 R2 (by omega) fun b o e => ?_)
    have lb : b < s.heap.objs.size := Heap.lt_size e
    refine mv.heap b o (fun m => ?_) (Heap.get?_push_of_some _ (Heap.get?_push_of_some _ e))
    rcases List.mem_cons.mp m with m | m
    · exact Nat.ne_of_lt lb m
    · have m2 := List.mem_singleton.mp m
      rw [up] at m2
      exact Nat.ne_of_lt (Nat.lt_succ_of_lt lb) m2
set_option maxHeartbeats 8000000 in
/-- set(xs), xs a list of numbers -/
theorem set_list {l : Addr} {its : Array Value} {ns : List Int} {Q : Value → Shared → Prop} (hh : A.handled = none) (hl : s.heap.IsList l its) (hit : IntsAre its.toList ns) (hb : ns.length + 1 < scanBound) (q : Made w s ns Q) :
    wpAny (model P w) A (call (.type "set") [.ref l]) Q E s := by
  obtain ⟨c, tl, x1⟩ := F.called_set.mro
  have x2 := F.called_set.made
  have x3 := F.called_set.sub
  have x4 := F.called_set.notType
  have x5 := F.called_set.canCreate
  have x6 := F.typeCall_set_1 (.ref l)
  refine wpAny_call (codeAny_of_tree (show wpAny _ _ (callAny (.type "set") _) _ _ _ from wpAny_pure ⟨Code.quiet_builtin _ (by decide +kernel), codeAny_builtin F.entry_type_call ?_⟩))
  rw [Around.under_plain (weight_type_call_type "set" [.ref l] []) rfl]
  repeat (any_goals (first | assumption | wp_step))
  refine codeAny_mono (code_set_led1 (.ref l) (E := E) (Q₁ := fun v s1 => v = .ref s.heap.objs.size ∧ s1 = { s with heap := s.heap.push (bare w) }) ⟨rfl, rfl⟩) fun r s1 h1 => ?_
  match r with
  | .error _ => exact h1
  | .ok .next => exact h1.elim
  | .ok .brk => exact h1.elim
  | .ok .cont => exact h1.elim
  | .ok (.ret v) =>
    obtain ⟨rfl, rfl⟩ := h1
    have top : (s.heap.push (bare w)).get? s.heap.objs.size = some (bare w) := Heap.get?_push_size _ rfl
    have x7 : Shared.TypeIs { s with heap := s.heap.push (bare w) } (.ref s.heap.objs.size) "set" := ⟨_, top, rfl⟩
    have x8 := F.called_set.init.lookup
    have x9 := F.called_set.init.bind (.ref s.heap.objs.size)
    repeat (any_goals (first | assumption | wp_step))
    refine codeAny_mono (codeAny_call_builtin (R := wants (fun v s2 => v = .none ∧ ∃ h2 tk c, s2 = { s with heap := h2, toks := tk } ∧ SetR w h2 s.heap.objs.size (fun j => decide (j ∈ ns)) c ∧ c ≤ ns.length ∧ ∀ b o, s.heap.get? b = some o → h2.get? b = some o) E)
      F.called_set.init.plain F.entry_set_init (check_set_init_1 x7 (init_list (by simp [hh]) hl hit hb fun h2 tk c a1 a2 a3 => ⟨rfl, h2, tk, c, rfl, a1, a2, a3⟩))) fun r2 s2 h2 => ?_
    match r2 with
    | .error _ => exact h2
    | .ok .next => exact h2.elim
    | .ok .brk => exact h2.elim
    | .ok .cont => exact h2.elim
    | .ok (.ret v2) =>
      obtain ⟨rfl, h3, tk, c3, rfl, a1, a2, a3⟩ := h2
      repeat (any_goals (first | assumption | wp_step))
      exact q h3 tk c3 a1 a2 a3
/-- sorted(S) of a set of numbers, however many -/
theorem sorted_setR {a : Addr} {S : Int → Bool} {n : Nat} {Q : Value → Shared → Prop} (R : SetR w s.heap a S n) (hh : A.handled = none)
    (hQ : ∀ s2 p (out : List Value) (c : Nat) (ns : List Int), (∀ b o, s.heap.get? b = some o → s2.heap.get? b = some o) → s2.gens = s.gens → s2.os = s.os → s.heap.objs.size ≤ p → s2.heap.get? p = some (seqObj "list" out.toArray c) →
      IntsAre out ns → ns.Pairwise (· < ·) → (∀ k, k ∈ ns ↔ S k = true) → ns.length = n → Q (.ref p) s2) : wpAny (model P w) A (call (.builtin "sorted") [.ref a]) Q E s := by
  obtain ⟨o, es, ep, t, ho, hex, hd, good, nd, hm, hb, hf, hn, hr, hl⟩ := R
  refine Calls.call_function_entry kind_sorted plain_sorted entry_sorted (args_sorted1 _) ?_
  unfold Builtin.«sorted»
  refine wpAny_bind (m := checkCount "sorted" 1 1 _) (wpAny_pure (wpAny_bind (collect_set (A := A.in1) hh ⟨o, ho, hex.1, hd⟩ hf hb hr hl fun s1 vs k1 z1 g1 o1 pm => ?_)))
  have len : vs.length = n := by rw [pm.length_eq, List.length_map, Array.length_toList]; exact hn
  have allI : ∀ v ∈ vs, ∃ k tk, v = Value.int k tk := fun v hv => by
    obtain ⟨e, he, ev⟩ := List.mem_map.mp (pm.mem_iff.mp hv)
    obtain ⟨k, tk, y1, _⟩ := good e he
    exact ⟨k, tk, by rw [← ev]; exact y1⟩
  have allJ : IntsAre vs (vs.map SrtO.iv) := SrtO.ints_iv allI
  have keys : (vs.map SrtO.iv).Perm (es.toList.map keyOf) := by
    have y := pm.map SrtO.iv
    rw [List.map_map] at y
    exact y
  have fit : n ≤ sizeLine := by
    have := fits_of_scanBound hb
    omega
  refine wpAny_bind (wpAny_newList ?_ (by rw [len]; exact fit))
  have top : (s1.heap.push (seqObj "list" vs.toArray 0)).get? s1.heap.objs.size = some (seqObj "list" vs.toArray 0) := Heap.get?_push_size _ rfl
  refine wpAny_bind (wpAny_holding (wpAny_call_entry slot_list_sort ⟨_, top, rfl⟩ entry_list_sort (SrtO.list_sort_ord SrtO.swo_int top (by rw [len]; exact fit) (fun h2 => SrtO.ints_sortable allJ h2) fun out b1 b2 => ⟨_, rfl, ?_⟩) (args_list_sort _)))
  obtain ⟨c1, c2, c3⟩ := SrtO.ints_out allJ b1 b2
  obtain ⟨c, hc⟩ := sortedHeap_at (vs := vs) (out := out.toArray) top
  have pn := c2.trans keys
  refine wpAny_pure ⟨_, rfl, hQ _ s1.heap.objs.size out c (out.map SrtO.iv) (fun b u e => ?_) g1 o1 z1 hc c1 (lt_of_le_nodup _ c3 (pn.nodup_iff.mpr nd)) (fun k => by rw [pn.mem_iff, ← hm k]) ?_⟩
  · have y := k1 b u e
    have lt := Heap.lt_size y
    refine (sortedHeap_old (Nat.ne_of_lt lt) (by rw [size_push']; exact Nat.lt_succ_of_lt lt)).trans ?_
    exact Heap.get?_push_of_some _ y
  · rw [pn.length_eq, List.length_map, Array.length_toList]
    exact hn
end
/-- sorted(set(xs)), xs a list of numbers -/
def tSortedSet (K : PySem.W.Frag) (ta : TE) : TE := fun σ H Q => ta σ H fun x H1 => ∃ (l : Addr) (ns : List Int), x = .ref l ∧ SqL K H1 l (ns.map V.int) ∧ ns.length ≤ 4000 ∧ ∀ (ms : List Int) p, ms.Pairwise (· < ·) → (∀ k, k ∈ ms ↔ k ∈ ns) → H1 p = none → Q (.ref p) (upd H1 p (.lst (ms.map V.int)))
theorem pe_sortedSet {X : Cx} {e : Expr} {ta : TE} {p p2 q pos : Pos} (hm : X.mg "sorted" = none) (hm2 : X.mg "set" = none) (ha : PE X e ta) (hg : Gl X "sorted" := by rfl) (hg2 : Gl X "set" := by rfl) (hc : X.calm = true := by rfl)
    (na : starEach [e] X.env = (false, eval e X.env) :: starEach [] X.env := by rfl) : PE X (.Call (.Name "sorted" p) [.Call (.Name "set" p2) [e] [] q] [] pos) (tSortedSet X.K ta) := by
  refine ⟨fun pins s σ H Q I h => ?_⟩
  refine Call_ (ld_blt (u := .builtin "sorted") I hg hm (by decide +kernel) (PyProof.Rows.callWith_builtin1 (PyProof.Rows.args_cons ?_ rfl) rfl rfl))
  refine Call_ (ld_blt I hg2 hm2 boot_set (PyProof.Rows.callWith_type1 (PyProof.Rows.args_cons (thn (ha.run pins s σ H _ I h) fun v s1 ⟨x, H1, I1, r1, q1⟩ => PyProof.Rows.args_nil ?_) na) na rfl))
  obtain ⟨l, ns, rfl, hq, hl, q1⟩ := q1
  cases r1
  obtain ⟨its, r, pl, hz⟩ := I1.list hq
  refine set_list (I1.ok.hd hc) pl.isList (RZ.intsAre_vals r) (by unfold scanBound; omega) fun h2 tk c R2 le k2 => PyProof.Rows.args_nil ?_
  have I2 : Inv X pins σ H1 { s1 with heap := h2, toks := tk } := I1.kept k2
  refine sorted_setR (s := { s1 with heap := h2, toks := tk }) R2 (I1.ok.hd hc) fun s3 p out c ms k3 g3 o3 hp hob hi hs hms hn => ?_
  have fr : H1 p = none := I2.hok.fresh hp
  have fit : (ms.map V.int).length ≤ sizeLine := by rw [List.length_map, hn, sizeLine_eq]; omega
  have ok : ObjOk X.prog X.w (upd H1 p (.lst (ms.map V.int))) s3.heap p (.lst (ms.map V.int)) := ⟨fit, out, c, vals_of_ints hi, hob⟩
  have J : Inv X pins σ (upd H1 p (.lst (ms.map V.int))) { ({ s1 with heap := h2, toks := tk } : Shared) with heap := s3.heap, gens := s3.gens, drawn := s3.drawn, toks := s3.toks } :=
    I2.call (ch := []) (Un.laid k3 hp fr) (I2.hok.laid k3 hp ok) (by rw [g3]; exact I2.bare) (fun _ z => nomatch z)
  have e3 : s3 = { ({ s1 with heap := h2, toks := tk } : Shared) with heap := s3.heap, gens := s3.gens, drawn := s3.drawn, toks := s3.toks } := by
    obtain ⟨_, _, _, _, _⟩ := s3
    cases o3
    rfl
  rw [e3]
  exact ⟨.ref p, _, J, rfl, q1 ms p hs (fun k => by rw [hms k, decide_eq_true_eq]) fr⟩
def uniq : List Int → List Int
  | [] => []
  | n :: ns => if n ∈ ns then uniq ns else n :: uniq ns
theorem mem_uniq {k : Int} : ∀ {ns : List Int}, k ∈ uniq ns ↔ k ∈ ns
  | [] => Iff.rfl
  | n :: ns => by
    rw [uniq]
    split
    · rename_i h
      rw [mem_uniq, List.mem_cons]
      exact ⟨.inr, fun z => z.elim (fun e => e ▸ h) id⟩
    · rw [List.mem_cons, List.mem_cons, mem_uniq]
theorem uniq_nodup : ∀ ns : List Int, (uniq ns).Nodup
  | [] => List.nodup_nil
  | n :: ns => by
    rw [uniq]
    split
    · exact uniq_nodup ns
    · rename_i h
      exact List.nodup_cons.mpr ⟨fun z => h (mem_uniq.mp z), uniq_nodup ns⟩
theorem strict_uniq : ∀ {as bs : List Int}, as.Pairwise (· < ·) → bs.Pairwise (· < ·) → (∀ k, k ∈ as ↔ k ∈ bs) → as = bs
  | [], [], _, _, _ => rfl
  | [], b :: bs, _, _, h => by have := (h b).mpr List.mem_cons_self; cases this
  | a :: as, [], _, _, h => by have := (h a).mp List.mem_cons_self; cases this
  | a :: as, b :: bs, h1, h2, h => by
    obtain ⟨a1, a2⟩ := List.pairwise_cons.mp h1
    obtain ⟨b1, b2⟩ := List.pairwise_cons.mp h2
    have e : a = b := by
      rcases List.mem_cons.mp ((h a).mp List.mem_cons_self) with z | z
      · exact z
      · rcases List.mem_cons.mp ((h b).mpr List.mem_cons_self) with y | y
        · exact y.symm
        · have := b1 a z
          have := a1 b y
          omega
    subst e
    congr 1
    refine strict_uniq a2 b2 fun k => ⟨fun z => ?_, fun z => ?_⟩
    · rcases List.mem_cons.mp ((h k).mp (List.mem_cons_of_mem _ z)) with y | y
      · have := a1 k z
        omega
      · exact y
    · rcases List.mem_cons.mp ((h k).mpr (List.mem_cons_of_mem _ z)) with y | y
      · have := b1 k z
        omega
      · exact y
/-- the rising list of the numbers of a list -/
def sset (ns : List Int) : List Int := srtI (uniq ns)
theorem mem_sset {k : Int} {ns : List Int} : k ∈ sset ns ↔ k ∈ ns := by unfold sset; rw [(srtI_perm _).mem_iff, mem_uniq]
theorem sset_lt (ns : List Int) : (sset ns).Pairwise (· < ·) := lt_of_le_nodup _ (srtI_sorted _) ((srtI_perm _).nodup_iff.mpr (uniq_nodup ns))
theorem uniq_len : ∀ ns : List Int, (uniq ns).length ≤ ns.length
  | [] => Nat.le_refl _
  | n :: ns => by
    have := uniq_len ns
    rw [uniq]
    split
    · rw [List.length_cons]; omega
    · rw [List.length_cons, List.length_cons]; omega
theorem sset_len (ns : List Int) : (sset ns).length ≤ ns.length := by unfold sset; rw [(srtI_perm _).length_eq]; exact uniq_len ns
def dSortedSet (f : DE) : DE := fun ρ => (f ρ).bind fun p => match p.1 with
  | .lst xs => (intsD xs).bind fun ns => if ns.length ≤ 4000 then some (.own ((sset ns).map D.int), p.2) else none
  | _ => none
theorem sn_sortedSet {X : Cx} {e : Expr} {f : DE} {p p2 q pos : Pos} (hm : X.mg "sorted" = none) (hm2 : X.mg "set" = none) (ha : SE X e f) (hg : Gl X "sorted" := by rfl) (hg2 : Gl X "set" := by rfl) (hc : X.calm = true := by rfl)
    (na : starEach [e] X.env = (false, eval e X.env) :: starEach [] X.env := by rfl) : SN X (.Call (.Name "sorted" p) [.Call (.Name "set" p2) [e] [] q] [] pos) (dSortedSet f) :=
  pe_weak (pe_sortedSet hm hm2 ha hg hg2 hc na) fun σ H Q ⟨G, ρ, L, d, ρ', h1, h2, h3, q⟩ => by
    unfold dSortedSet at h3
    obtain ⟨⟨d1, ρ1⟩, e1, h3⟩ := Option.bind_eq_some_iff.mp h3
    dsimp only at h3
    split at h3
    · obtain ⟨ns, e2, h3⟩ := Option.bind_eq_some_iff.mp h3
      split at h3
      · rename_i hz
        cases h3
        refine ⟨G, ρ, L, _, _, h1, h2, e1, fun v G1 H1 L1 a1 b1 c1 r1 => ?_⟩
        cases r1 with
        | lst hs hr =>
          have z := ints_rep hr e2
          subst z
          refine ⟨_, ns, rfl, a1.ex.sqL (sqL_of hs), hz, fun ms p m1 m2 hp => ?_⟩
          have e3 : ms = sset ns := strict_uniq m1 (sset_lt ns) fun k => by rw [m2, mem_sset]
          subst e3
          obtain ⟨z1, z2⟩ := a1.newOwn _ hp
          exact q _ _ _ [_] L1 z1 (b1.trans z2) c1 (.own (repL_ints _).ownL)
      · cases h3
    · cases h3
end Pd

namespace Pd
open PySem PySem.Spec PyProof.Rows L2
/-! ### what is wanted of a run on data, from the left -/
def W {α : Type} (o : Option α) (Q : α → Prop) : Prop := ∃ a, o = some a ∧ Q a
def W2 {α β : Type} (o : Option (α × β)) (Q : α → β → Prop) : Prop := ∃ a b, o = some (a, b) ∧ Q a b
theorem W_some {α : Type} {a : α} {Q : α → Prop} : W (some a) Q = Q a := propext ⟨fun ⟨_, e, q⟩ => by cases e; exact q, fun q => ⟨a, rfl, q⟩⟩
theorem W_none {α : Type} {Q : α → Prop} : W (none : Option α) Q = False := propext ⟨fun ⟨_, e, _⟩ => (nomatch e), False.elim⟩
theorem W2_some {α β : Type} {a : α} {b : β} {Q : α → β → Prop} : W2 (some (a, b)) Q = Q a b := propext ⟨fun ⟨_, _, e, q⟩ => by cases e; exact q, fun q => ⟨a, b, rfl, q⟩⟩
theorem W2_none {α β : Type} {Q : α → β → Prop} : W2 (none : Option (α × β)) Q = False := propext ⟨fun ⟨_, _, e, _⟩ => (nomatch e), False.elim⟩
theorem W_bind {α β : Type} {o : Option α} {f : α → Option β} {Q : β → Prop} : W (o.bind f) Q = W o fun a => W (f a) Q := propext
  ⟨fun ⟨b, e, q⟩ => let ⟨a, e1, e2⟩ := Option.bind_eq_some_iff.mp e; ⟨a, e1, b, e2, q⟩, fun ⟨a, e1, b, e2, q⟩ => ⟨b, by rw [e1]; exact e2, q⟩⟩
theorem W2_bind {α β γ : Type} {o : Option α} {f : α → Option (β × γ)} {Q : β → γ → Prop} : W2 (o.bind f) Q = W o fun a => W2 (f a) Q := propext
  ⟨fun ⟨b, c, e, q⟩ => let ⟨a, e1, e2⟩ := Option.bind_eq_some_iff.mp e; ⟨a, e1, b, c, e2, q⟩, fun ⟨a, e1, b, c, e2, q⟩ => ⟨b, c, by rw [e1]; exact e2, q⟩⟩
theorem W_pair {α β : Type} {o : Option (α × β)} {Q : α × β → Prop} : W o Q = W2 o fun a b => Q (a, b) := propext ⟨fun ⟨⟨a, b⟩, e, q⟩ => ⟨a, b, e, q⟩, fun ⟨a, b, e, q⟩ => ⟨(a, b), e, q⟩⟩
theorem W_guard {α : Type} {c : Prop} [Decidable c] {a : Option α} {Q : α → Prop} : W (if c then a else none) Q = (c ∧ W a Q) := by
  by_cases h : c
  · rw [if_pos h]; exact propext ⟨fun q => ⟨h, q⟩, fun q => q.2⟩
  · rw [if_neg h, W_none]; exact propext ⟨False.elim, fun q => h q.1⟩
theorem W2_guard {α β : Type} {c : Prop} [Decidable c] {a : Option (α × β)} {Q : α → β → Prop} : W2 (if c then a else none) Q = (c ∧ W2 a Q) := by
  by_cases h : c
  · rw [if_pos h]; exact propext ⟨fun q => ⟨h, q⟩, fun q => q.2⟩
  · rw [if_neg h, W2_none]; exact propext ⟨False.elim, fun q => h q.1⟩
theorem W_mono {α : Type} {o : Option α} {Q Q' : α → Prop} (h : W o Q) (m : ∀ a, Q a → Q' a) : W o Q' := let ⟨a, e, q⟩ := h; ⟨a, e, m a q⟩
theorem W2_mono {α β : Type} {o : Option (α × β)} {Q Q' : α → β → Prop} (h : W2 o Q) (m : ∀ a b, Q a b → Q' a b) : W2 o Q' := let ⟨a, b, e, q⟩ := h; ⟨a, b, e, m a b q⟩
theorem W2_eq {α β : Type} {o : Option (α × β)} {a : α} {b : β} (h : W2 o fun x y => x = a ∧ y = b) : o = some (a, b) := by
  obtain ⟨x, y, e, q1, q2⟩ := h
  rw [e, q1, q2]
theorem W_of {α : Type} {o : Option α} {a : α} {Q : α → Prop} (h : o = some a) (q : Q a) : W o Q := ⟨a, h, q⟩
theorem W2_of {α β : Type} {o : Option (α × β)} {a : α} {b : β} {Q : α → β → Prop} (h : o = some (a, b)) (q : Q a b) : W2 o Q := ⟨a, b, h, q⟩
/-- by a truth -/
def WB (d : D) (A B : Prop) : Prop := match d with | .bl true => A | .bl false => B | _ => False
theorem WB_dec {c : Prop} [Decidable c] {A B : Prop} : WB (.bl (decide c)) A B = ((c → A) ∧ (¬ c → B)) := by
  by_cases h : c
  · rw [decide_eq_true h]; exact propext ⟨fun q => ⟨fun _ => q, fun n => absurd h n⟩, fun q => q.1 h⟩
  · rw [decide_eq_false h]; exact propext ⟨fun q => ⟨fun n => absurd n h, fun _ => q⟩, fun q => q.2 h⟩
theorem WB_bl {b : Bool} {A B : Prop} : WB (.bl b) A B = ((b = true → A) ∧ (b = false → B)) := by
  cases b with
  | true => exact propext ⟨fun q => ⟨fun _ => q, fun n => (nomatch n)⟩, fun q => q.1 rfl⟩
  | false => exact propext ⟨fun q => ⟨fun n => (nomatch n), fun _ => q⟩, fun q => q.2 rfl⟩
theorem WB_true {A B : Prop} : WB (.bl true) A B = A := rfl
theorem WB_false {A B : Prop} : WB (.bl false) A B = B := rfl
theorem WB_not {b : Bool} {A B : Prop} : WB (.bl (!b)) A B = WB (.bl b) B A := by cases b <;> rfl
/-- a slot's content -/
def At? (ρ : Ev) (i : Nat) (Q : D → Prop) : Prop := match ρ[i]? with | some (some d) => Q d | _ => False
theorem At_some {ρ : Ev} {i : Nat} {d : D} {Q : D → Prop} (h : ρ[i]? = some (some d)) : At? ρ i Q = Q d := by unfold At?; rw [h]
theorem At_no {ρ : Ev} {i : Nat} {Q : D → Prop} (h : ∀ d, ρ[i]? = some (some d) → False) : At? ρ i Q = False := by
  unfold At?
  split
  · rename_i d e; exact (h d e).elim
  · rfl
theorem At_0 {d : D} {ρ : Ev} {Q : D → Prop} : At? (some d :: ρ) 0 Q = Q d := rfl
theorem At_s {x : Option D} {ρ : Ev} {i : Nat} {Q : D → Prop} : At? (x :: ρ) (i + 1) Q = At? ρ i Q := rfl
/-- a slot's store -/
def Set? (ρ : Ev) (i : Nat) (x : Option D) (K : Ev → Prop) : Prop := i < ρ.length ∧ K (ρ.set i x)
theorem Set_0 {y x : Option D} {ρ : Ev} {K : Ev → Prop} : Set? (y :: ρ) 0 x K = K (x :: ρ) := propext ⟨fun h => h.2, fun h => ⟨Nat.zero_lt_succ _, h⟩⟩
theorem Set_s {y x : Option D} {ρ : Ev} {i : Nat} {K : Ev → Prop} : Set? (y :: ρ) (i + 1) x K = Set? ρ i x fun ρ' => K (y :: ρ') := by
  unfold Set?
  rw [List.length_cons, List.set_cons_succ]
  exact propext ⟨fun h => ⟨Nat.lt_of_succ_lt_succ h.1, h.2⟩, fun h => ⟨Nat.succ_lt_succ h.1, h.2⟩⟩
/-- by the kind of data -/
def OnInt (d : D) (K : Int → Prop) : Prop := match d with | .int i => K i | _ => False
def OnBl (d : D) (K : Bool → Prop) : Prop := match d with | .bl i => K i | _ => False
def OnOwn (d : D) (K : List D → Prop) : Prop := match d with | .own i => K i | _ => False
def OnLst (d : D) (K : List D → Prop) : Prop := match d with | .lst i => K i | _ => False
def OnTup (d : D) (K : List D → Prop) : Prop := match d with | .tup i => K i | _ => False
def One (os : List D) (K : List D → Prop) : Prop := match os with | [.own ys] => K ys | _ => False
def NoOut (os : List D) (A : Prop) : Prop := match os with | [] => A | _ => False
theorem OnInt_i {i : Int} {K : Int → Prop} : OnInt (.int i) K = K i := rfl
theorem OnBl_b {i : Bool} {K : Bool → Prop} : OnBl (.bl i) K = K i := rfl
theorem OnOwn_o {i : List D} {K : List D → Prop} : OnOwn (.own i) K = K i := rfl
theorem OnLst_l {i : List D} {K : List D → Prop} : OnLst (.lst i) K = K i := rfl
theorem OnTup_t {i : List D} {K : List D → Prop} : OnTup (.tup i) K = K i := rfl
theorem One_o {ys : List D} {K : List D → Prop} : One [.own ys] K = K ys := rfl
theorem NoOut_n {A : Prop} : NoOut [] A = A := rfl
def OnOL (d : D) (K : List D → Prop) : Prop := match d with | .own i => K i | .lst i => K i | _ => False
theorem OnOL_o {i : List D} {K : List D → Prop} : OnOL (.own i) K = K i := rfl
theorem OnOL_l {i : List D} {K : List D → Prop} : OnOL (.lst i) K = K i := rfl
def Frz? (d : D) (K : D → Prop) : Prop := K (frz d)
def FrzL? (d : List D) (K : List D → Prop) : Prop := K (frzL d)
theorem Frz_int {i : Int} {K : D → Prop} : Frz? (.int i) K = K (.int i) := rfl
theorem Frz_bl {i : Bool} {K : D → Prop} : Frz? (.bl i) K = K (.bl i) := rfl
theorem Frz_non {K : D → Prop} : Frz? .non K = K .non := rfl
theorem Frz_str {s : Str} {K : D → Prop} : Frz? (.str s) K = K (.str s) := rfl
theorem Frz_tup {s : List D} {K : D → Prop} : Frz? (.tup s) K = K (.tup s) := rfl
theorem Frz_lst {s : List D} {K : D → Prop} : Frz? (.lst s) K = K (.lst s) := rfl
theorem Frz_scr {s : List Int} {K : D → Prop} : Frz? (.scr s) K = K (.scr s) := rfl
theorem Frz_own {s : List D} {K : D → Prop} : Frz? (.own s) K = FrzL? s fun x => K (.lst x) := by unfold Frz? FrzL?; rw [frz]
theorem FrzL_nil {K : List D → Prop} : FrzL? [] K = K [] := rfl
theorem FrzL_cons {x : D} {s : List D} {K : List D → Prop} : FrzL? (x :: s) K = Frz? x fun y => FrzL? s fun ys => K (y :: ys) := rfl
/-- pure items are kept as they are -/
theorem frzL_pu : ∀ {ds : List D}, ds.all D.pu = true → frzL ds = ds
  | [], _ => rfl
  | d :: ds, h => by
    rw [List.all_cons, Bool.and_eq_true] at h
    rw [frzL, frzL_pu h.2]
    cases d <;> first | rfl | (cases h.1; done)
theorem FrzL_pu {ds : List D} {K : List D → Prop} (h : ds.all D.pu = true) (q : K ds) : FrzL? ds K := by unfold FrzL?; rw [frzL_pu h]; exact q
def PairO (r : D × List D) (Q : D → List D → Prop) : Prop := Q r.1 r.2
section
variable {f g h c : DE} {fa fb : DA} {gr : DR} {ρ : Ev} {Q : D → Ev → Prop} {QA : List D → Ev → Prop} {QR : List Ar → Ev → Prop} {i n : Nat} {r r' : D → D → Option D} {C : Ct}
theorem W_var : W2 (dVar i ρ) Q = At? ρ i fun d => d.pu = true ∧ Q d ρ := by
  unfold dVar
  split
  · rw [At_some (by assumption), W2_guard, W2_some]
  · rw [At_no (by assumption), W2_none]
theorem W_frz : W2 (dFrz i ρ) Q = At? ρ i fun d => Frz? d fun d' => Set? ρ i (some d') fun ρ' => Q d' ρ' := by
  unfold dFrz
  split
  · rename_i d e
    rw [At_some e, W2_some]
    refine propext ⟨fun q => ⟨?_, q⟩, fun q => q.2⟩
    rcases Nat.lt_or_ge i ρ.length with z | z
    · exact z
    · rw [List.getElem?_eq_none z] at e; cases e
  · rw [At_no (by assumption), W2_none]
theorem W_move : W2 (dMove i ρ) Q = At? ρ i fun d => Set? ρ i none fun ρ' => Q d ρ' := by
  unfold dMove
  split
  · rename_i d e
    rw [At_some e, W2_some]
    refine propext ⟨fun q => ⟨?_, q⟩, fun q => q.2⟩
    rcases Nat.lt_or_ge i ρ.length with z | z
    · exact z
    · rw [List.getElem?_eq_none z] at e; cases e
  · rw [At_no (by assumption), W2_none]
theorem W_int {k : Int} : W2 (dInt k ρ) Q = Q (.int k) ρ := W2_some
theorem W_bl {b : Bool} : W2 (dBl b ρ) Q = Q (.bl b) ρ := W2_some
theorem W_non : W2 (dNon ρ) Q = Q .non ρ := W2_some
theorem W_str {s : Str} : W2 (dStr s ρ) Q = Q (.str s) ρ := W2_some
theorem W_yes : W2 (dYes ρ) Q = Q (.bl true) ρ := W2_some
theorem W_fz : W2 (dFz f ρ) Q = W2 (f ρ) fun d ρ1 => Frz? d fun d' => Q d' ρ1 := by
  unfold dFz; simp only [W2_bind, W_pair, W2_some]; rfl
theorem W_op : W2 (dOp r f g ρ) Q = W2 (f ρ) fun a ρ1 => W2 (g ρ1) fun b ρ2 => W (r a b) fun d => Q d ρ2 := by
  unfold dOp; simp only [W2_bind, W_pair, W2_some]
theorem W_un {u : D → Option D} : W2 (dUn u f ρ) Q = W2 (f ρ) fun a ρ1 => W (u a) fun d => Q d ρ1 := by
  unfold dUn; simp only [W2_bind, W_pair, W2_some]
theorem W_chain : W2 (dChain r r' f g h ρ) Q = W2 (f ρ) fun a ρ1 => W2 (g ρ1) fun b ρ2 => W (r a b) fun d => WB d (W2 (h ρ2) fun z ρ3 => W (r' b z) fun d' => Q d' ρ3) (Q (.bl false) ρ2) := by
  unfold dChain; simp only [W2_bind, W_pair]
  congr; funext a ρ1; congr; funext b ρ2; congr; funext d
  cases d with
  | bl b => cases b <;> first | exact W2_some | (simp only [W2_bind, W_pair, W2_some]; rfl)
  | _ => exact W2_none
theorem W_and : W2 (dAnd f g ρ) Q = W2 (f ρ) fun a ρ1 => WB a (W2 (g ρ1) Q) (Q (.bl false) ρ1) := by
  unfold dAnd; simp only [W2_bind, W_pair]
  congr; funext d ρ1
  cases d with
  | bl b => cases b <;> first | rfl | exact W2_some
  | _ => exact W2_none
theorem W_or : W2 (dOr f g ρ) Q = W2 (f ρ) fun a ρ1 => WB a (Q (.bl true) ρ1) (W2 (g ρ1) Q) := by
  unfold dOr; simp only [W2_bind, W_pair]
  congr; funext d ρ1
  cases d with
  | bl b => cases b <;> first | rfl | exact W2_some
  | _ => exact W2_none
theorem W_not : W2 (dNot f ρ) Q = W2 (f ρ) fun a ρ1 => OnBl a fun b => Q (.bl (!b)) ρ1 := by
  unfold dNot; simp only [W2_bind, W_pair]
  congr; funext d ρ1
  cases d <;> first | exact W2_some | exact W2_none
theorem W_if : W2 (dIf c f g ρ) Q = W2 (c ρ) fun a ρ1 => WB a (W2 (f ρ1) Q) (W2 (g ρ1) Q) := by
  unfold dIf; simp only [W2_bind, W_pair]
  congr; funext d ρ1
  cases d with
  | bl b => cases b <;> rfl
  | _ => exact W2_none
theorem W_nil : W2 (dNil ρ) QA = QA [] ρ := W2_some
theorem W_cons : W2 (dCons f fa ρ) QA = W2 (f ρ) fun a ρ1 => W2 (fa ρ1) fun as ρ2 => QA (a :: as) ρ2 := by
  unfold dCons; simp only [W2_bind, W_pair, W2_some]
theorem W_tup : W2 (dTup fa ρ) Q = W2 (fa ρ) fun as ρ1 => as.length ≤ 1000 ∧ Q (.tup as) ρ1 := by
  unfold dTup; simp only [W2_bind, W_pair, W2_guard, W2_some]
theorem W_lst : W2 (dLst fa ρ) Q = W2 (fa ρ) fun as ρ1 => as.length ≤ 1000 ∧ Q (.own as) ρ1 := by
  unfold dLst; simp only [W2_bind, W_pair, W2_guard, W2_some]
theorem W_bi {b : List D → Option D} : W2 (dBi b fa ρ) Q = W2 (fa ρ) fun as ρ1 => W (b as) fun d => Q d ρ1 := by
  unfold dBi; simp only [W2_bind, W_pair, W2_some]
theorem W_biL {b : List D → Option D} : W2 (dBiL b gr ρ) Q = W2 (gr ρ) fun as ρ1 => W (lentR ρ1 as) fun ds => W (b ds) fun d => d.flat = true ∧ Q d ρ1 := by
  unfold dBiL; simp only [W2_bind, W_pair, W2_guard, W2_some]
theorem W_isi {T : String} : W2 (dIsi T f ρ) Q = W2 (f ρ) fun d ρ1 => noTy d = true ∧ Q (.bl (isT T d)) ρ1 := by
  unfold dIsi; simp only [W2_bind, W_pair, W2_guard, W2_some]
theorem W_isi2 {T U : String} : W2 (dIsi2 T U f ρ) Q = W2 (f ρ) fun d ρ1 => noTy d = true ∧ Q (.bl (isT T d || isT U d)) ρ1 := by
  unfold dIsi2; simp only [W2_bind, W_pair, W2_guard, W2_some]
theorem W_call : W2 (dCall C fa ρ) Q = W2 (fa ρ) fun as ρ1 => W2 (C as) fun d os => NoOut os (Q d ρ1) := by
  unfold dCall; simp only [W2_bind, W_pair]
  congr; funext p ρ1; congr; funext q os
  cases os <;> first | exact W2_some | exact W2_none
def W3 (o : Option (List D × Nat × List D)) (Q : List D → Nat → List D → Prop) : Prop := ∃ a b c, o = some (a, b, c) ∧ Q a b c
theorem W_trip {o : Option (List D × Nat × List D)} {Q : List D → Nat × List D → Prop} : W2 o Q = W3 o fun a b c => Q a (b, c) := propext ⟨fun ⟨a, ⟨b, c⟩, e, q⟩ => ⟨a, b, c, e, q⟩, fun ⟨a, b, c, e, q⟩ => ⟨a, (b, c), e, q⟩⟩
theorem W3_some {a c : List D} {b : Nat} {Q : List D → Nat → List D → Prop} : W3 (some (a, b, c)) Q = Q a b c := propext ⟨fun ⟨_, _, _, e, q⟩ => by cases e; exact q, fun q => ⟨a, b, c, rfl, q⟩⟩
theorem W_call1 : W2 (dCall1 C gr ρ) Q = W2 (gr ρ) fun as ρ1 => W3 (splitR as) fun pre j post => At? ρ1 j fun d => OnOwn d fun xs => W2 (C (pre ++ .own xs :: post)) fun d' os => One os fun ys => Set? ρ1 j (some (.own ys)) fun ρ2 => Q d' ρ2 := by
  unfold dCall1; simp only [W2_bind, W_pair, W_trip]
  congr; funext as ρ1; congr; funext pre j post
  cases hx : ρ1[j]? with
  | none => rw [At_no (by rw [hx]; intro d e; cases e), W2_none]
  | some x =>
    cases x with
    | none => rw [At_no (by rw [hx]; intro d e; cases e), W2_none]
    | some d =>
      have hj : j < ρ1.length := by
        rcases Nat.lt_or_ge j ρ1.length with z | z
        · exact z
        · rw [List.getElem?_eq_none z] at hx; cases hx
      rw [At_some hx]
      cases d <;> try exact W2_none
      simp only [W2_bind, W_pair, OnOwn]
      congr; funext q1 q2
      rcases q2 with _ | ⟨a, _ | ⟨b, q2⟩⟩
      · exact W2_none
      · cases a <;> first | exact W2_none | (refine W2_some.trans (propext ⟨fun q => ⟨hj, q⟩, fun q => q.2⟩))
      · cases a <;> exact W2_none
theorem W_lent : W2 (dLent C gr ρ) Q = W2 (gr ρ) fun as ρ1 => W (lentR ρ1 as) fun ds => W2 (C ds) fun d os => d.flat = true ∧ Q d ρ1 := by
  unfold dLent; simp only [W2_bind, W_pair, W2_guard, W2_some]
theorem W_rnil : W2 (rNil ρ) QR = QR [] ρ := W2_some
theorem W_rval : W2 (rVal f gr ρ) QR = W2 (f ρ) fun a ρ1 => W2 (gr ρ1) fun as ρ2 => QR (.val a :: as) ρ2 := by
  unfold rVal; simp only [W2_bind, W_pair, W2_some]
theorem W_rref : W2 (rRef i gr ρ) QR = At? ρ i fun _ => W2 (gr ρ) fun as ρ1 => QR (.ref i :: as) ρ1 := by
  unfold rRef
  split
  · rw [At_some (by assumption)]; simp only [W2_bind, W_pair, W2_some]
  · rw [At_no (by assumption), W2_none]
theorem W_ixO : W2 (dIxO i g ρ) Q = At? ρ i fun _ => W2 (g ρ) fun k ρ1 => At? ρ1 i fun d => OnOL d fun ds => OnInt k fun k => W (atI ds k) fun d => d.pu = true ∧ Q d ρ1 := by
  unfold dIxO
  split
  · rw [At_some (by assumption)]
    simp only [W2_bind, W_pair]
    congr; funext q1 q2
    cases hx : q2[i]? with
    | none => rw [At_no (by rw [hx]; intro d e; cases e), W2_none]
    | some x =>
      cases x with
      | none => rw [At_no (by rw [hx]; intro d e; cases e), W2_none]
      | some d =>
        rw [At_some hx]
        cases d <;> cases q1 <;> first | exact W2_none | simp only [W2_bind, W2_guard, W2_some, OnOL, OnInt]
  · rw [At_no (by assumption), W2_none]
theorem W_sl {l hh : DO} : W2 (dSl f l hh ρ) Q = W2 (f ρ) fun a ρ1 => W2 (l ρ1) fun lo ρ2 => W2 (hh ρ2) fun hi ρ3 => W (opSl a lo hi) fun d => Q d ρ3 := by
  unfold dSl; simp only [W2_bind, W_pair, W2_some]
theorem W_ono {QO : Option Int → Ev → Prop} : W2 (oNo ρ) QO = QO none ρ := W2_some
theorem W_oso {QO : Option Int → Ev → Prop} : W2 (oSo f ρ) QO = W2 (f ρ) fun d ρ1 => OnInt d fun i => QO (some i) ρ1 := by
  unfold oSo; simp only [W2_bind, W_pair]
  congr; funext d ρ1
  cases d <;> first | exact W2_some | exact W2_none
theorem W_revL : W2 (dRevL f ρ) Q = W2 (f ρ) fun d ρ1 => OnLst d fun ds => Q (.own ds.reverse) ρ1 := by
  unfold dRevL; simp only [W2_bind, W_pair]
  congr; funext d ρ1
  cases d <;> first | exact W2_some | exact W2_none
end
section
variable {f : DE} {g h : DS} {c : DE} {fa : DA} {ρ : Ev} {Q : Fl → Prop} {i j l : Nat} {it : DI} {gg : DG}
/-- behind a statement -/
def WS (fl : Fl) (A : Ev → Prop) (Q : Fl → Prop) : Prop := match fl with | .nx ρ => A ρ | f => Q f
theorem WS_nx {A : Ev → Prop} : WS (.nx ρ) A Q = A ρ := rfl
theorem WS_rt {A : Ev → Prop} {d : D} : WS (.rt d ρ) A Q = Q (.rt d ρ) := rfl
theorem WS_bk {A : Ev → Prop} : WS (.bk ρ) A Q = Q (.bk ρ) := rfl
theorem WS_ct {A : Ev → Prop} : WS (.ct ρ) A Q = Q (.ct ρ) := rfl
/-- behind a turn of a loop -/
def WL (fl : Fl) (A : Ev → Prop) (Q : Fl → Prop) : Prop := match fl with | .nx ρ => A ρ | .ct ρ => A ρ | .bk ρ => Q (.nx ρ) | .rt d ρ => Q (.rt d ρ)
theorem WL_nx {A : Ev → Prop} : WL (.nx ρ) A Q = A ρ := rfl
theorem WL_rt {A : Ev → Prop} {d : D} : WL (.rt d ρ) A Q = Q (.rt d ρ) := rfl
theorem WL_bk {A : Ev → Prop} : WL (.bk ρ) A Q = Q (.nx ρ) := rfl
theorem WL_ct {A : Ev → Prop} : WL (.ct ρ) A Q = A ρ := rfl
theorem W_skip : W (dSkip ρ) Q = Q (.nx ρ) := W_some
theorem W_brk : W (dBrk ρ) Q = Q (.bk ρ) := W_some
theorem W_con : W (dCon ρ) Q = Q (.ct ρ) := W_some
theorem W_seq : W (dSeq g h ρ) Q = W (g ρ) fun fl => WS fl (fun ρ' => W (h ρ') Q) Q := by
  unfold dSeq; simp only [W_bind]
  congr; funext fl
  cases fl <;> simp only [WS, W_some]
theorem W_ifS : W (dIfS c g h ρ) Q = W2 (c ρ) fun a ρ1 => WB a (W (g ρ1) Q) (W (h ρ1) Q) := by
  unfold dIfS; simp only [W_bind, W_pair]
  congr; funext d ρ1
  cases d with
  | bl b => cases b <;> rfl
  | _ => exact W_none
theorem W_ret : W (dRet f ρ) Q = W2 (f ρ) fun d ρ1 => Q (.rt d ρ1) := by
  unfold dRet; simp only [W_bind, W_pair, W_some]
theorem W_drop : W (dDrop f ρ) Q = W2 (f ρ) fun _ ρ1 => Q (.nx ρ1) := by
  unfold dDrop; simp only [W_bind, W_pair, W_some]
theorem W_put {d : D} {QE : Ev → Prop} : W (put i d ρ) QE = Set? ρ i (some d) QE := by
  unfold put; simp only [W_guard, W_some]; rfl
theorem W_set : W (dSet i f ρ) Q = W2 (f ρ) fun d ρ1 => Set? ρ1 i (some d) fun ρ2 => Q (.nx ρ2) := by
  unfold dSet; simp only [W_bind, W_pair, W_some, W_put]
theorem W_asg : W (dAsg gg f ρ) Q = W2 (f ρ) fun d ρ1 => W (gg d ρ1) fun ρ' => Q (.nx ρ') := by
  unfold dAsg; simp only [W_bind, W_pair, W_some]
theorem W_gnam {d : D} {QE : Ev → Prop} : W (gNam i d ρ) QE = Set? ρ i (some d) QE := W_put
theorem W_gtp {n : Nat} {hh : DGs} {ds : List D} {QE : Ev → Prop} : W (gTp n hh (.tup ds) ρ) QE = (ds.length = n ∧ W (hh ds ρ) QE) := by
  show W (if ds.length = n then hh ds ρ else none) QE = _
  rw [W_guard]
theorem W_gcons {gh : DG} {hh : DGs} {d : D} {ds : List D} {QE : Ev → Prop} : W (gsCons gh hh (d :: ds) ρ) QE = W (gh d ρ) fun ρ1 => W (hh ds ρ1) QE := by
  show W ((gh d ρ).bind (hh ds)) QE = _
  rw [W_bind]
theorem W_gnil {QE : Ev → Prop} : W (gsNil [] ρ) QE = QE ρ := W_some
def On2 (as : List D) (K : D → D → Prop) : Prop := match as with | [a, b] => K a b | _ => False
def On3 (as : List D) (K : D → D → D → Prop) : Prop := match as with | [a, b, c] => K a b c | _ => False
theorem On2_o {a b : D} {K : D → D → Prop} : On2 [a, b] K = K a b := rfl
theorem On3_o {a b c : D} {K : D → D → D → Prop} : On3 [a, b, c] K = K a b c := rfl
theorem W_par : W (dPar i j fa ρ) Q = W2 (fa ρ) fun as ρ1 => On2 as fun a b => Set? ρ1 i (some a) fun ρ2 => Set? ρ2 j (some b) fun ρ3 => Q (.nx ρ3) := by
  unfold dPar; simp only [W_bind, W_pair]
  congr; funext q ρ1
  rcases q with _ | ⟨a, _ | ⟨b, _ | ⟨c, q⟩⟩⟩ <;> first | exact W_none | (simp only [W_bind, W_some, W_put]; rfl)
theorem W_par3 : W (dPar3 i j l fa ρ) Q = W2 (fa ρ) fun as ρ1 => On3 as fun a b c => Set? ρ1 i (some a) fun ρ2 => Set? ρ2 j (some b) fun ρ3 => Set? ρ3 l (some c) fun ρ4 => Q (.nx ρ4) := by
  unfold dPar3; simp only [W_bind, W_pair]
  congr; funext q ρ1
  rcases q with _ | ⟨a, _ | ⟨b, _ | ⟨c, _ | ⟨d, q⟩⟩⟩⟩ <;> first | exact W_none | (simp only [W_bind, W_some, W_put]; rfl)
theorem W_for : W (dFor it gg g ρ) Q = W2 (it ρ) fun ds ρ1 => W (forL gg g ds ρ1) Q := by
  unfold dFor; simp only [W_bind, W_pair]
theorem W_while {n : Ev → Nat} : W (dWhile n c g ρ) Q = W (whileN c g (n ρ) ρ) Q := rfl
theorem W_whileN {n : Nat} : W (whileN c g (n + 1) ρ) Q = W2 (c ρ) fun a ρ1 => WB a (W (g ρ1) fun fl => WL fl (fun ρ2 => W (whileN c g n ρ2) Q) Q) (Q (.nx ρ1)) := by
  rw [whileN]; simp only [W_bind, W_pair]
  congr; funext d ρ1
  cases d with
  | bl b =>
    cases b with
    | true =>
      refine W_bind.trans ?_
      show W (g ρ1) _ = W (g ρ1) _
      congr; funext fl
      cases fl <;> first | rfl | exact W_some
    | false => exact W_some
  | _ => exact W_none
theorem W_own {QD : List D → Prop} : W (ownAt ρ i) QD = At? ρ i fun d => OnOwn d QD := by
  unfold ownAt
  cases hx : ρ[i]? with
  | none => rw [At_no (by rw [hx]; intro d e; cases e), W_none]
  | some x =>
    cases x with
    | none => rw [At_no (by rw [hx]; intro d e; cases e), W_none]
    | some d =>
      rw [At_some hx]
      cases d <;> first | exact W_none | exact W_some
/-- a list's store at an index -/
def SetI? (ds : List D) (n : Int) (d : D) (K : List D → Prop) : Prop := W (ixN ds.length n) fun j => K (ds.set j d)
theorem SetI_0 {x d : D} {xs : List D} {K : List D → Prop} : SetI? (x :: xs) 0 d K = K (d :: xs) := by
  unfold SetI? ixN
  rw [if_pos (by omega), if_pos (by rw [List.length_cons]; omega), W_some]
  rfl
theorem SetI_n {xs : List D} {d : D} {n : Nat} {K : List D → Prop} (h : n < xs.length) (q : K (xs.set n d)) : SetI? xs (n : Int) d K := by
  unfold SetI? ixN
  rw [if_pos (by omega), if_pos (by omega), W_some, Int.toNat_natCast]
  exact q
theorem SetI_1 {x y d : D} {xs : List D} {K : List D → Prop} : SetI? (x :: y :: xs) 1 d K = K (x :: d :: xs) := by
  unfold SetI? ixN
  rw [if_pos (by omega), if_pos (by rw [List.length_cons, List.length_cons]; omega), W_some]
  rfl
theorem SetI_2 {x y z d : D} {xs : List D} {K : List D → Prop} : SetI? (x :: y :: z :: xs) 2 d K = K (x :: y :: d :: xs) := by
  unfold SetI? ixN
  rw [if_pos (by omega), if_pos (by rw [List.length_cons, List.length_cons, List.length_cons]; omega), W_some]
  rfl
theorem W_setix {k : DE} : W (dSetIx i f k ρ) Q = W2 (f ρ) fun d ρ1 => At? ρ1 i fun o => OnOwn o fun _ => W2 (k ρ1) fun n ρ2 => OnInt n fun n => At? ρ2 i fun o => OnOwn o fun ds => SetI? ds n d fun ds' => Set? ρ2 i (some (.own ds')) fun ρ3 => Q (.nx ρ3) := by
  unfold dSetIx; simp only [W_bind, W_pair, W_own]
  congr; funext p ρ1; congr; funext d
  cases d <;> try rfl
  simp only [OnOwn]
  congr; funext d1 ρ2
  cases d1 <;> try exact W_none
  simp only [OnInt]
  rw [W_bind, W_own]
  cases hx : ρ2[i]? with
  | none => rw [At_no (by rw [hx]; intro d e; cases e), At_no (by rw [hx]; intro d e; cases e)]
  | some x =>
    cases x with
    | none => rw [At_no (by rw [hx]; intro d e; cases e), At_no (by rw [hx]; intro d e; cases e)]
    | some d2 =>
      have hj : i < ρ2.length := by
        rcases Nat.lt_or_ge i ρ2.length with z | z
        · exact z
        · rw [List.getElem?_eq_none z] at hx; cases hx
      rw [At_some hx, At_some hx]
      cases d2 <;> try rfl
      simp only [OnOwn, W_bind, W_some, SetI?]
      congr; funext j
      exact propext ⟨fun q => ⟨hj, q⟩, fun q => q.2⟩
theorem W_app : W (dApp i f ρ) Q = At? ρ i fun o => OnOwn o fun _ => W2 (f ρ) fun d ρ1 => At? ρ1 i fun o => OnOwn o fun ds => ds.length < 1000000 ∧ Set? ρ1 i (some (.own (ds ++ [d]))) fun ρ2 => Q (.nx ρ2) := by
  unfold dApp; simp only [W_bind, W_pair, W_own]
  congr; funext d
  cases d <;> try rfl
  simp only [OnOwn]
  congr; funext p ρ1
  cases hx : ρ1[i]? with
  | none => rw [At_no (by rw [hx]; intro d e; cases e), At_no (by rw [hx]; intro d e; cases e)]
  | some x =>
    cases x with
    | none => rw [At_no (by rw [hx]; intro d e; cases e), At_no (by rw [hx]; intro d e; cases e)]
    | some d2 =>
      have hj : i < ρ1.length := by
        rcases Nat.lt_or_ge i ρ1.length with z | z
        · exact z
        · rw [List.getElem?_eq_none z] at hx; cases hx
      rw [At_some hx, At_some hx]
      cases d2 <;> try rfl
      simp only [OnOwn, W_guard, W_some]
      congr
      exact propext ⟨fun q => ⟨hj, q⟩, fun q => q.2⟩
theorem W_aug {r : D → D → Option D} : W (dAug i r f ρ) Q = At? ρ i fun a => W2 (f ρ) fun b ρ1 => W (r a b) fun d => (a.flat = true ∧ d.flat = true) ∧ Set? ρ1 i (some d) fun ρ2 => Q (.nx ρ2) := by
  unfold dAug
  split
  · rw [At_some (by assumption)]; simp only [W_bind, W_pair, W_guard, W_put, W_some]
  · rw [At_no (by assumption), W_none]
theorem W_forL_nil : W (forL gg g [] ρ) Q = Q (.nx ρ) := W_some
theorem W_forL_cons {d : D} {ds : List D} : W (forL gg g (d :: ds) ρ) Q = W (gg d ρ) fun ρ1 => W (g ρ1) fun fl => WL fl (fun ρ2 => W (forL gg g ds ρ2) Q) Q := by
  rw [forL]; simp only [W_bind]
  congr; funext ρ1; congr; funext fl
  cases fl <;> simp only [W_some, WL]
/-- a for by what holds between its turns: I by the items done -/
theorem W_forL {ds : List D} (I : List D → Ev → Prop) (h0 : I [] ρ) (hs : ∀ pre d post ρ, ds = pre ++ d :: post → I pre ρ → W (gg d ρ) fun ρ1 => W (g ρ1) fun fl => WL fl (I (pre ++ [d])) Q) (hd : ∀ ρ, I ds ρ → Q (.nx ρ)) : W (forL gg g ds ρ) Q := by
  have key : ∀ (post pre : List D) (ρ : Ev), ds = pre ++ post → I pre ρ → W (forL gg g post ρ) Q := by
    intro post
    induction post with
    | nil =>
      intro pre ρ e hi
      rw [List.append_nil] at e
      subst e
      rw [W_forL_nil]
      exact hd ρ hi
    | cons d post ih =>
      intro pre ρ e hi
      rw [W_forL_cons]
      refine W_mono (hs pre d post ρ e hi) fun ρ1 h1 => W_mono h1 fun fl h2 => ?_
      cases fl with
      | nx ρ2 => exact ih (pre ++ [d]) ρ2 (by rw [e, List.append_assoc]; rfl) h2
      | ct ρ2 => exact ih (pre ++ [d]) ρ2 (by rw [e, List.append_assoc]; rfl) h2
      | bk ρ2 => exact h2
      | rt d ρ2 => exact h2
  exact key ds [] ρ rfl h0
/-- over a range: I by the turn -/
theorem W_forR {lo : Int} {n : Nat} (I : Nat → Ev → Prop) (h0 : I 0 ρ) (hs : ∀ k ρ, k < n → I k ρ → W (gg (.int (lo + (k : Int))) ρ) fun ρ1 => W (g ρ1) fun fl => WL fl (I (k + 1)) Q) (hd : ∀ ρ, I n ρ → Q (.nx ρ)) : W (forL gg g (rng lo n) ρ) Q := by
  refine W_forL (fun pre ρ => I pre.length ρ) h0 (fun pre d post ρ e hi => ?_) fun ρ hi => hd ρ (by rw [rng_len] at hi; exact hi)
  have hl : pre.length < n := by
    have := congrArg List.length e
    rw [rng_len, List.length_append, List.length_cons] at this
    omega
  have hd' : d = .int (lo + (pre.length : Int)) := by
    have z := rng_get (lo := lo) hl
    rw [e, List.getElem?_append_right (Nat.le_refl _), Nat.sub_self, List.getElem?_cons_zero] at z
    exact Option.some.inj z
  subst hd'
  refine W_mono (hs pre.length ρ hl hi) fun ρ1 h1 => W_mono h1 fun fl h2 => ?_
  cases fl <;> simp only [WL, List.length_append, List.length_cons, List.length_nil] at h2 ⊢ <;> exact h2
/-- a while by what holds between its turns and a number that falls -/
theorem W_whileI {n : Nat} (I : Ev → Prop) (m : Ev → Nat) (h0 : I ρ) (hm : m ρ < n) (hs : ∀ ρ, I ρ → W2 (c ρ) fun a ρ1 => WB a (W (g ρ1) fun fl => WL fl (fun ρ2 => I ρ2 ∧ m ρ2 < m ρ) Q) (Q (.nx ρ1))) : W (whileN c g n ρ) Q := by
  have key : ∀ (n : Nat) (ρ : Ev), I ρ → m ρ < n → W (whileN c g n ρ) Q := by
    intro n
    induction n with
    | zero => intro ρ _ h; omega
    | succ n ih =>
      intro ρ hi hm
      rw [W_whileN]
      refine W2_mono (hs ρ hi) fun a ρ1 hp => ?_
      revert hp
      unfold WB
      split
      · intro hp
        refine W_mono hp fun fl h2 => ?_
        cases fl with
        | nx ρ2 => exact ih ρ2 h2.1 (by have := h2.2; omega)
        | ct ρ2 => exact ih ρ2 h2.1 (by have := h2.2; omega)
        | bk ρ2 => exact h2
        | rt d ρ2 => exact h2
      · exact fun hp => hp
      · exact fun hp => hp
  exact key n ρ h0 hm
end
section
variable {f g : DE} {ρ : Ev} {Q : List D → Ev → Prop}
theorem W_ilst : W2 (iLst f ρ) Q = W2 (f ρ) fun d ρ1 => OnLst d fun ds => Q ds ρ1 := by
  unfold iLst; simp only [W2_bind, W_pair]
  congr; funext d ρ1
  cases d <;> first | exact W2_some | exact W2_none
theorem W_itpl : W2 (iTpl f ρ) Q = W2 (f ρ) fun d ρ1 => OnTup d fun ds => Q ds ρ1 := by
  unfold iTpl; simp only [W2_bind, W_pair]
  congr; funext d ρ1
  cases d <;> first | exact W2_some | exact W2_none
theorem W_irg1 : W2 (iRg1 f ρ) Q = W2 (f ρ) fun d ρ1 => OnInt d fun j => R62 j ∧ Q (rng 0 j.toNat) ρ1 := by
  unfold iRg1; simp only [W2_bind, W_pair]
  congr; funext d ρ1
  cases d <;> first | exact W2_none | simp only [W2_guard, W2_some, OnInt]
theorem W_irg2 : W2 (iRg2 f g ρ) Q = W2 (f ρ) fun a ρ1 => W2 (g ρ1) fun b ρ2 => OnInt a fun i => OnInt b fun j => (R62 i ∧ R62 j) ∧ Q (rng i (j - i).toNat) ρ2 := by
  unfold iRg2; simp only [W2_bind, W_pair]
  congr; funext d ρ1; congr; funext e ρ2
  cases d <;> cases e <;> first | exact W2_none | simp only [W2_guard, W2_some, OnInt]
theorem W_ienm : W2 (iEnm f ρ) Q = W2 (f ρ) fun d ρ1 => OnLst d fun ds => Q (enumD 0 ds) ρ1 := by
  unfold iEnm; simp only [W2_bind, W_pair]
  congr; funext d ρ1
  cases d <;> first | exact W2_some | exact W2_none
def OnZip (a b : D) (K : List D → List D → Prop) : Prop := match a, b with | .lst as, .lst bs => K as bs | .tup as, .tup bs => K as bs | _, _ => False
theorem OnZip_l {as bs : List D} {K : List D → List D → Prop} : OnZip (.lst as) (.lst bs) K = K as bs := rfl
theorem OnZip_t {as bs : List D} {K : List D → List D → Prop} : OnZip (.tup as) (.tup bs) K = K as bs := rfl
theorem W_izp : W2 (iZp f g ρ) Q = W2 (f ρ) fun a ρ1 => W2 (g ρ1) fun b ρ2 => OnZip a b fun as bs => Q (zipD as bs) ρ2 := by
  unfold iZp; simp only [W2_bind, W_pair]
  congr; funext d ρ1; congr; funext e ρ2
  cases d <;> cases e <;> first | exact W2_none | exact W2_some
theorem W_irvs : W2 (iRvs f ρ) Q = W2 (f ρ) fun d ρ1 => OnLst d fun ds => Q ds.reverse ρ1 := by
  unfold iRvs; simp only [W2_bind, W_pair]
  congr; funext d ρ1
  cases d <;> first | exact W2_some | exact W2_none
variable {it : DI} {gg : DG} {c e : DE} {vs : List Nat} {Q' : D → Ev → Prop}
/-- the block's own names forgotten | given back -/
def Wipe? (vs : List Nat) (ρ : Ev) (K : Ev → Prop) : Prop := okV vs ρ = true ∧ K (wipeE vs ρ)
def Rest? (ρ0 : Ev) (vs : List Nat) (ρ : Ev) (K : Ev → Prop) : Prop := K (restE ρ0 vs ρ)
theorem W_comp : W2 (dComp it gg c e vs ρ) Q' = W2 (it ρ) fun ds ρ1 => Wipe? vs ρ1 fun ρ2 => W2 (compL gg c e vs ds ρ2) fun ys ρ3 => ys.length ≤ 1000000 ∧ Rest? ρ1 vs ρ3 fun ρ4 => Q' (.own ys) ρ4 := by
  unfold dComp; simp only [W2_bind, W_pair, W2_guard, W2_some]
  rfl
theorem W_compL_nil : W2 (compL gg c e vs [] ρ) Q = Q [] ρ := W2_some
theorem W_compL_cons {d : D} {ds : List D} : W2 (compL gg c e vs (d :: ds) ρ) Q = W (gg d ρ) fun ρ1 => W2 (c ρ1) fun b ρ2 => WB b (W2 (e ρ2) fun y ρ3 => W2 (compL gg c e vs ds (wipeE vs ρ3)) fun ys ρ4 => Q (y :: ys) ρ4) (W2 (compL gg c e vs ds (wipeE vs ρ2)) Q) := by
  rw [compL]; simp only [W2_bind, W_pair]
  congr; funext ρ1; congr; funext d ρ1
  cases d with
  | bl b => cases b <;> first | rfl | (simp only [W2_bind, W_pair, W2_some]; rfl)
  | _ => exact W2_none
/-- a comprehension by what holds between its turns: I by the items done and those made -/
theorem W_compL {ds : List D} (I : List D → List D → Ev → Prop) (h0 : I [] [] ρ) (hs : ∀ pre d post acc ρ, ds = pre ++ d :: post → I pre acc ρ → W (gg d ρ) fun ρ1 => W2 (c ρ1) fun b ρ2 => WB b (W2 (e ρ2) fun y ρ3 => I (pre ++ [d]) (acc ++ [y]) (wipeE vs ρ3)) (I (pre ++ [d]) acc (wipeE vs ρ2)))
    (hd : ∀ acc ρ, I ds acc ρ → Q acc ρ) : W2 (compL gg c e vs ds ρ) Q := by
  have key : ∀ (post pre acc : List D) (ρ : Ev) (Q : List D → Ev → Prop), ds = pre ++ post → I pre acc ρ → (∀ acc2 ρ, I ds (acc ++ acc2) ρ → Q acc2 ρ) → W2 (compL gg c e vs post ρ) Q := by
    intro post
    induction post with
    | nil =>
      intro pre acc ρ Q e1 hi hd
      rw [List.append_nil] at e1
      subst e1
      rw [W_compL_nil]
      exact hd [] ρ (by rw [List.append_nil]; exact hi)
    | cons d post ih =>
      intro pre acc ρ Q e1 hi hd
      rw [W_compL_cons]
      refine W_mono (hs pre d post acc ρ e1 hi) fun ρ1 h1 => W2_mono h1 fun b ρ2 hp => ?_
      revert hp
      unfold WB
      split
      · intro hp
        refine W2_mono hp fun y ρ3 hq => ?_
        exact ih (pre ++ [d]) (acc ++ [y]) _ _ (by rw [e1, List.append_assoc]; rfl) hq fun acc2 ρ hi => hd (y :: acc2) ρ (by rw [List.append_assoc] at hi; exact hi)
      · intro hp
        exact ih (pre ++ [d]) acc _ _ (by rw [e1, List.append_assoc]; rfl) hp hd
      · exact fun hp => hp
  exact key ds [] [] ρ Q rfl h0 fun acc2 ρ hi => hd acc2 ρ hi
/-- a map: each item's image, the slots as they were -/
theorem W_map {ds : List D} (f : D → D) (h : ∀ d, d ∈ ds → W (gg d ρ) fun ρ1 => W2 (c ρ1) fun b ρ2 => WB b (W2 (e ρ2) fun y ρ3 => y = f d ∧ wipeE vs ρ3 = ρ) False) (q : Q (ds.map f) ρ) : W2 (compL gg c e vs ds ρ) Q := by
  refine W_compL (fun pre acc ρ' => acc = pre.map f ∧ ρ' = ρ) ⟨rfl, rfl⟩ (fun pre d post acc ρ' e1 hi => ?_) fun acc ρ' hi => by rw [hi.1, hi.2]; exact q
  obtain ⟨rfl, rfl⟩ := hi
  refine W_mono (h d (by rw [e1]; exact List.mem_append.mpr (.inr List.mem_cons_self))) fun ρ1 h1 => W2_mono h1 fun b ρ2 hp => ?_
  revert hp
  unfold WB
  split
  · intro hp
    refine W2_mono hp fun y ρ3 hq => ⟨?_, hq.2⟩
    rw [hq.1, List.map_append]
    rfl
  · exact False.elim
  · exact fun hp => hp
end
/-- a def's run -/
def outsP (r : Fl) (io : List Nat) (Q : D → List D → Prop) : Prop := match r with
  | .rt d ρ => W (outs ρ io) fun o => Q d o
  | .nx ρ => W (outs ρ io) fun o => Q .non o
  | _ => False
/-- the parameters' slots, then none -/
def Start (n m : Nat) (ds : List D) (K : Ev → Prop) : Prop := ds.length = n ∧ K (ds.map some ++ List.replicate m none)
def app? (a b : Ev) (K : Ev → Prop) : Prop := K (a ++ b)
def map? (ds : List D) (K : Ev → Prop) : Prop := K (ds.map some)
def rep? (m : Nat) (K : Ev → Prop) : Prop := K (List.replicate m none)
theorem Start_eq {n m : Nat} {ds : List D} {K : Ev → Prop} : Start n m ds K = (ds.length = n ∧ map? ds fun a => rep? m fun b => app? a b K) := rfl
theorem map_nil? {K : Ev → Prop} : map? [] K = K [] := rfl
theorem map_cons? {d : D} {ds : List D} {K : Ev → Prop} : map? (d :: ds) K = map? ds fun r => K (some d :: r) := rfl
theorem rep_z? {K : Ev → Prop} : rep? 0 K = K [] := rfl
theorem rep_s? {m : Nat} {K : Ev → Prop} : rep? (m + 1) K = rep? m fun r => K (none :: r) := rfl
theorem app_nil? {b : Ev} {K : Ev → Prop} : app? [] b K = K b := rfl
theorem app_cons? {x : Option D} {a b : Ev} {K : Ev → Prop} : app? (x :: a) b K = app? a b fun r => K (x :: r) := rfl
theorem W_run {N n : Nat} {io : List Nat} {g : DS} {ds : List D} {Q : D → List D → Prop} : W2 (run N n io g ds) Q = Start n (N - n) ds fun ρ => W (g ρ) fun fl => outsP fl io Q := by
  unfold run Start
  rw [W2_guard, W2_bind]
  congr; funext fl
  cases fl <;> simp only [outsP, W2_bind, W2_some, W2_none]
theorem outsP_rt {d : D} {ρ : Ev} {io : List Nat} {Q : D → List D → Prop} : outsP (.rt d ρ) io Q = W (outs ρ io) fun o => Q d o := rfl
theorem outsP_nx {ρ : Ev} {io : List Nat} {Q : D → List D → Prop} : outsP (.nx ρ) io Q = W (outs ρ io) fun o => Q .non o := rfl
theorem W_outs_nil {ρ : Ev} {Q : List D → Prop} : W (outs ρ []) Q = Q [] := W_some
theorem W_outs_cons {ρ : Ev} {i : Nat} {is : List Nat} {Q : List D → Prop} : W (outs ρ (i :: is)) Q = At? ρ i fun d => Set? ρ i none fun ρ' => W (outs ρ' is) fun r => Q (d :: r) := by
  rw [outs]
  split
  · rename_i d e
    rw [At_some e]; simp only [W_bind, W_some]
    refine propext ⟨fun q => ⟨?_, q⟩, fun q => q.2⟩
    rcases Nat.lt_or_ge i ρ.length with z | z
    · exact z
    · rw [List.getElem?_eq_none z] at e; cases e
  · rw [At_no (by assumption), W_none]
theorem W_split_val {d : D} {as : List Ar} {Q : List D → Nat → List D → Prop} : W3 (splitR (.val d :: as)) Q = W3 (splitR as) fun a b c => Q (d :: a) b c := by
  rw [splitR]
  cases splitR as with
  | none => exact propext ⟨fun ⟨_, _, _, e, _⟩ => (nomatch e), fun ⟨_, _, _, e, _⟩ => (nomatch e)⟩
  | some z => obtain ⟨a, b, c⟩ := z; rw [W3_some]; exact W3_some
theorem W_split_ref {i : Nat} {as : List Ar} {Q : List D → Nat → List D → Prop} : W3 (splitR (.ref i :: as)) Q = W (valsR as) fun ds => Q [] i ds := by
  rw [splitR]
  cases valsR as with
  | none => exact propext ⟨fun ⟨_, _, _, e, _⟩ => (nomatch e), fun ⟨_, e, _⟩ => (nomatch e)⟩
  | some z => rw [W_some]; exact W3_some
theorem W_vals_nil {Q : List D → Prop} : W (valsR []) Q = Q [] := W_some
theorem W_vals_val {d : D} {as : List Ar} {Q : List D → Prop} : W (valsR (.val d :: as)) Q = W (valsR as) fun r => Q (d :: r) := by
  rw [valsR]; simp only [W_bind, W_some]
theorem W_lent_nil {ρ : Ev} {Q : List D → Prop} : W (lentR ρ []) Q = Q [] := W_some
theorem W_lent_val {ρ : Ev} {d : D} {as : List Ar} {Q : List D → Prop} : W (lentR ρ (.val d :: as)) Q = W (lentR ρ as) fun r => Q (d :: r) := by
  rw [lentR]; simp only [W_bind, W_some]
theorem W_lent_ref {ρ : Ev} {i : Nat} {as : List Ar} {Q : List D → Prop} : W (lentR ρ (.ref i :: as)) Q = At? ρ i fun d => Frz? d fun d' => W (lentR ρ as) fun r => Q (d' :: r) := by
  rw [lentR]
  split
  · rw [At_some (by assumption)]; simp only [W_bind, W_some]; rfl
  · rw [At_no (by assumption), W_none]
/-! operators at known data -/
theorem W_eqI {i j : Int} {Q : D → Prop} : W (opEq (.int i) (.int j)) Q = Q (.bl (decide (i = j))) := by
  have e : opEq (.int i) (.int j) = some (.bl (decide (i = j))) := by
    unfold opEq deq
    rw [if_pos (by rfl)]
    simp only [toP, PyData.eqv]
    rw [Bool.beq_eq_decide_eq]
  rw [e, W_some]
theorem W_neI {i j : Int} {Q : D → Prop} : W (opNe (.int i) (.int j)) Q = Q (.bl (!decide (i = j))) := by
  have e : opNe (.int i) (.int j) = some (.bl (!decide (i = j))) := by
    unfold opNe deq
    rw [if_pos (by rfl)]
    simp only [toP, PyData.eqv]
    rw [Bool.beq_eq_decide_eq]
  rw [e, W_some]
theorem W_opI {Cn : Int → Int → Prop} [∀ i j, Decidable (Cn i j)] {g : Int → Int → Int} {i j : Int} {Q : D → Prop} : W (opI Cn g (.int i) (.int j)) Q = (Cn i j ∧ Q (.int (g i j))) := by
  show W (if Cn i j then some (D.int (g i j)) else none) Q = _
  rw [W_guard, W_some]
theorem W_opI0 {g : Int → Int → Int} {i j : Int} {Q : D → Prop} : W (opI0 g (.int i) (.int j)) Q = Q (.int (g i j)) := W_some
theorem W_opB {g : Int → Int → Bool} {i j : Int} {Q : D → Prop} : W (opB g (.int i) (.int j)) Q = Q (.bl (g i j)) := W_some
theorem W_addI {i j : Int} {Q : D → Prop} : W (opAdd (.int i) (.int j)) Q = Q (.int (i + j)) := W_some
theorem W_addL {xs ys : List D} {Q : D → Prop} : W (opAdd (.lst xs) (.lst ys)) Q = (xs.length + ys.length ≤ 1000000 ∧ Q (.own (xs ++ ys))) := by
  show W (if xs.length + ys.length ≤ 1000000 then some (D.own (xs ++ ys)) else none) Q = _
  rw [W_guard, W_some]
theorem W_addT {xs ys : List D} {Q : D → Prop} : W (opAdd (.tup xs) (.tup ys)) Q = (xs.length + ys.length ≤ 1000000 ∧ Q (.tup (xs ++ ys))) := by
  show W (if xs.length + ys.length ≤ 1000000 then some (D.tup (xs ++ ys)) else none) Q = _
  rw [W_guard, W_some]
theorem W_neg {i : Int} {Q : D → Prop} : W (unNeg (.int i)) Q = Q (.int (-i)) := W_some
theorem W_ixL {xs : List D} {k : Int} {Q : D → Prop} : W (opIx (.lst xs) (.int k)) Q = W (atI xs k) Q := rfl
theorem W_ixT {xs : List D} {k : Int} {Q : D → Prop} : W (opIx (.tup xs) (.int k)) Q = W (atI xs k) Q := rfl
theorem W_ixS {xs : List Int} {k : Int} {Q : D → Prop} : W (opIx (.scr xs) (.int k)) Q = W (atI xs k) fun i => Q (.int i) := by
  show W ((atI xs k).map D.int) Q = _
  cases atI xs k with
  | none => rw [Option.map_none, W_none, W_none]
  | some i => rw [Option.map_some, W_some, W_some]
theorem W_atI {α : Type} {xs : List α} {k : Int} {Q : α → Prop} {x : α} (h : 0 ≤ k) (e : xs[k.toNat]? = some x) (q : Q x) : W (atI xs k) Q := by
  have hl : k.toNat < xs.length := by
    rcases Nat.lt_or_ge k.toNat xs.length with z | z
    · exact z
    · rw [List.getElem?_eq_none z] at e; cases e
  refine ⟨x, ?_, q⟩
  unfold atI ixN
  rw [if_pos h, if_pos (by omega)]
  exact e
/-- an item of a list at an index that is not known: q of all -/
theorem W_atI_all {α : Type} {xs : List α} {k : Int} {Q : α → Prop} (h : 0 ≤ k) (h1 : k < xs.length) (q : ∀ x, x ∈ xs → Q x) : W (atI xs k) Q := by
  have hl : k.toNat < xs.length := by omega
  exact W_atI h (List.getElem?_eq_getElem hl) (q _ (List.getElem_mem hl))
section
variable {α : Type} {xs : List α} {x y z u v : α} {Q : α → Prop}
theorem atI_n (n : Nat) : atI xs (n : Int) = xs[n]? := by
  unfold atI ixN
  rw [if_pos (by omega)]
  by_cases h : n < xs.length
  · rw [if_pos (by omega)]
    show xs[(n : Int).toNat]? = _
    rw [Int.toNat_natCast]
  · rw [if_neg (by omega), List.getElem?_eq_none (by omega)]; rfl
theorem W_at0 : W (atI (x :: xs) 0) Q = Q x := by rw [show (0 : Int) = ((0 : Nat) : Int) from rfl, atI_n]; exact W_some
theorem W_at1 : W (atI (x :: y :: xs) 1) Q = Q y := by rw [show (1 : Int) = ((1 : Nat) : Int) from rfl, atI_n]; exact W_some
theorem W_at2 : W (atI (x :: y :: z :: xs) 2) Q = Q z := by rw [show (2 : Int) = ((2 : Nat) : Int) from rfl, atI_n]; exact W_some
theorem W_at3 : W (atI (x :: y :: z :: u :: xs) 3) Q = Q u := by rw [show (3 : Int) = ((3 : Nat) : Int) from rfl, atI_n]; exact W_some
theorem W_at4 : W (atI (x :: y :: z :: u :: v :: xs) 4) Q = Q v := by rw [show (4 : Int) = ((4 : Nat) : Int) from rfl, atI_n]; exact W_some
end
theorem W_lenL {xs : List D} {Q : D → Prop} : W (biLen [.lst xs]) Q = Q (.int xs.length) := W_some
theorem W_lenT {xs : List D} {Q : D → Prop} : W (biLen [.tup xs]) Q = Q (.int xs.length) := W_some
theorem W_lenS {xs : List Int} {Q : D → Prop} : W (biLen [.scr xs]) Q = Q (.int xs.length) := W_some
theorem W_abs {i : Int} {Q : D → Prop} : W (biAbs [.int i]) Q = Q (.int (if i < 0 then -i else i)) := W_some
theorem W_min2 {i j : Int} {Q : D → Prop} : W (biMin2 [.int i, .int j]) Q = Q (.int (if j < i then j else i)) := W_some
theorem W_max2 {i j : Int} {Q : D → Prop} : W (biMax2 [.int i, .int j]) Q = Q (.int (if j > i then j else i)) := W_some
theorem W_int_i {i : Int} {Q : D → Prop} : W (biInt [.int i]) Q = Q (.int i) := W_some
theorem W_int_b {b : Bool} {Q : D → Prop} : W (biInt [.bl b]) Q = Q (.int (if b then 1 else 0)) := W_some
theorem bools_map : ∀ bs : List Bool, bools (bs.map D.bl) = some bs
  | [] => rfl
  | b :: bs => by rw [List.map_cons, bools, bools_map bs]; rfl
theorem intsD_map : ∀ bs : List Int, intsD (bs.map D.int) = some bs
  | [] => rfl
  | b :: bs => by rw [List.map_cons, intsD, intsD_map bs]; rfl
theorem W_all {bs : List Bool} {Q : D → Prop} : W (biAll [.lst (bs.map D.bl)]) Q = Q (.bl (bs.all id)) := by
  show W ((bools (bs.map D.bl)).bind _) Q = _
  rw [bools_map]
  exact W_some
theorem W_any {bs : List Bool} {Q : D → Prop} : W (biAny [.lst (bs.map D.bl)]) Q = Q (.bl (bs.any id)) := by
  show W ((bools (bs.map D.bl)).bind _) Q = _
  rw [bools_map]
  exact W_some
theorem W_sum {bs : List Int} {Q : D → Prop} : W (biSum [.lst (bs.map D.int)]) Q = Q (.int bs.sum) := by
  show W ((intsD (bs.map D.int)).bind _) Q = _
  rw [intsD_map]
  exact W_some
theorem pu_i {i : Int} : (D.int i).pu = true := rfl
theorem pu_b {i : Bool} : (D.bl i).pu = true := rfl
theorem pu_n : D.non.pu = true := rfl
theorem pu_s {s : Str} : (D.str s).pu = true := rfl
theorem pu_t {s : List D} : (D.tup s).pu = true := rfl
theorem pu_l {s : List D} : (D.lst s).pu = true := rfl
theorem pu_c {s : List Int} : (D.scr s).pu = true := rfl
theorem fl_i {i : Int} : (D.int i).flat = true := rfl
theorem fl_b {i : Bool} : (D.bl i).flat = true := rfl
theorem fl_n : D.non.flat = true := rfl
theorem fl_s {s : Str} : (D.str s).flat = true := rfl
theorem t6 : (10 : Int) ^ Int.toNat 6 = 1000000 := by decide
theorem t9 : (10 : Int) ^ Int.toNat 9 = 1000000000 := by decide
theorem t12 : (10 : Int) ^ Int.toNat 12 = 1000000000000 := by decide
theorem t18 : (10 : Int) ^ Int.toNat 18 = 1000000000000000000 := by decide
/-- draws: a tape of three numbers, the last at most n -/
def IsT (n : Nat) (t : List D) : Prop := ∃ a b c : Int, t = [.int a, .int b, .int c] ∧ 0 ≤ a ∧ 0 ≤ b ∧ b < 2147483629 ∧ 0 ≤ c ∧ c ≤ n
theorem IsT.mono {n m : Nat} {t : List D} (h : IsT n t) (l : n ≤ m) : IsT m t := by
  obtain ⟨a, b, c, h1, h2, h3, h4, h5, h6⟩ := h
  exact ⟨a, b, c, h1, h2, h3, h4, h5, by omega⟩
theorem it_int_n  : isT "int" D.non = false := by rfl
theorem it_int_b {b : Bool} : isT "int" (D.bl b) = true := by rfl
theorem it_int_i {i : Int} : isT "int" (D.int i) = true := by rfl
theorem it_int_s {s : Str} : isT "int" (D.str s) = false := by rfl
theorem it_int_t {xs : List D} : isT "int" (D.tup xs) = false := by rfl
theorem it_int_l {xs : List D} : isT "int" (D.lst xs) = false := by rfl
theorem it_int_o {xs : List D} : isT "int" (D.own xs) = false := by rfl
theorem it_bool_n  : isT "bool" D.non = false := by rfl
theorem it_bool_b {b : Bool} : isT "bool" (D.bl b) = true := by rfl
theorem it_bool_i {i : Int} : isT "bool" (D.int i) = false := by rfl
theorem it_bool_s {s : Str} : isT "bool" (D.str s) = false := by rfl
theorem it_bool_t {xs : List D} : isT "bool" (D.tup xs) = false := by rfl
theorem it_bool_l {xs : List D} : isT "bool" (D.lst xs) = false := by rfl
theorem it_bool_o {xs : List D} : isT "bool" (D.own xs) = false := by rfl
theorem it_str_n  : isT "str" D.non = false := by rfl
theorem it_str_b {b : Bool} : isT "str" (D.bl b) = false := by rfl
theorem it_str_i {i : Int} : isT "str" (D.int i) = false := by rfl
theorem it_str_s {s : Str} : isT "str" (D.str s) = true := by rfl
theorem it_str_t {xs : List D} : isT "str" (D.tup xs) = false := by rfl
theorem it_str_l {xs : List D} : isT "str" (D.lst xs) = false := by rfl
theorem it_str_o {xs : List D} : isT "str" (D.own xs) = false := by rfl
theorem it_list_n  : isT "list" D.non = false := by rfl
theorem it_list_b {b : Bool} : isT "list" (D.bl b) = false := by rfl
theorem it_list_i {i : Int} : isT "list" (D.int i) = false := by rfl
theorem it_list_s {s : Str} : isT "list" (D.str s) = false := by rfl
theorem it_list_t {xs : List D} : isT "list" (D.tup xs) = false := by rfl
theorem it_list_l {xs : List D} : isT "list" (D.lst xs) = true := by rfl
theorem it_list_o {xs : List D} : isT "list" (D.own xs) = true := by rfl
theorem it_tuple_n  : isT "tuple" D.non = false := by rfl
theorem it_tuple_b {b : Bool} : isT "tuple" (D.bl b) = false := by rfl
theorem it_tuple_i {i : Int} : isT "tuple" (D.int i) = false := by rfl
theorem it_tuple_s {s : Str} : isT "tuple" (D.str s) = false := by rfl
theorem it_tuple_t {xs : List D} : isT "tuple" (D.tup xs) = true := by rfl
theorem it_tuple_l {xs : List D} : isT "tuple" (D.lst xs) = false := by rfl
theorem it_tuple_o {xs : List D} : isT "tuple" (D.own xs) = false := by rfl
theorem nt_n  : noTy D.non = true := rfl
theorem nt_b {b : Bool} : noTy (D.bl b) = true := rfl
theorem nt_i {i : Int} : noTy (D.int i) = true := rfl
theorem nt_s {s : Str} : noTy (D.str s) = true := rfl
theorem nt_t {xs : List D} : noTy (.tup xs) = noTyL xs := by rw [noTy]
theorem nt_l {xs : List D} : noTy (.lst xs) = noTyL xs := by rw [noTy]
theorem nt_o {xs : List D} : noTy (.own xs) = noTyL xs := by rw [noTy]
theorem nt_nil : noTyL [] = true := rfl
theorem nt_cons {x : D} {xs : List D} : noTyL (x :: xs) = (noTy x && noTyL xs) := by rw [noTyL]
theorem W_eqB {i j : Bool} {Q : D → Prop} : W (opEq (.bl i) (.bl j)) Q = Q (.bl (i == j)) := by
  have e : opEq (.bl i) (.bl j) = some (.bl (i == j)) := by
    unfold opEq deq
    rw [if_pos (by rfl)]
    simp only [toP, PyData.eqv]
  rw [e, W_some]
theorem W_neB {i j : Bool} {Q : D → Prop} : W (opNe (.bl i) (.bl j)) Q = Q (.bl (!(i == j))) := by
  have e : opNe (.bl i) (.bl j) = some (.bl (!(i == j))) := by
    unfold opNe deq
    rw [if_pos (by rfl)]
    simp only [toP, PyData.eqv]
  rw [e, W_some]
theorem W_eqN {Q : D → Prop} : W (opEq .non .non) Q = Q (.bl true) := by
  have e : opEq .non .non = some (.bl true) := by
    unfold opEq deq
    rw [if_pos (by rfl)]
    simp only [toP, PyData.eqv]
  rw [e, W_some]
theorem W_eqS {x y : Str} {Q : D → Prop} : W (opEq (.str x) (.str y)) Q = Q (.bl (x == y)) := by
  have e : opEq (.str x) (.str y) = some (.bl (x == y)) := by
    unfold opEq deq
    split
    · simp only [toP, PyData.eqv]
    · rfl
  rw [e, W_some]
theorem W_neS {x y : Str} {Q : D → Prop} : W (opNe (.str x) (.str y)) Q = Q (.bl (!(x == y))) := by
  have e : opNe (.str x) (.str y) = some (.bl (!(x == y))) := by
    unfold opNe deq
    split
    · simp only [toP, PyData.eqv]
    · rfl
  rw [e, W_some]
theorem W_isNn {n : Bool} {Q : D → Prop} : W (opIsN n .non .non) Q = Q (.bl (!n)) := W_some
theorem W_isNi {n : Bool} {i : Int} {Q : D → Prop} : W (opIsN n (.int i) .non) Q = Q (.bl n) := W_some
theorem W_isNb {n : Bool} {i : Bool} {Q : D → Prop} : W (opIsN n (.bl i) .non) Q = Q (.bl n) := W_some
theorem W_isNs {n : Bool} {i : Str} {Q : D → Prop} : W (opIsN n (.str i) .non) Q = Q (.bl n) := W_some
theorem W_isNt {n : Bool} {i : List D} {Q : D → Prop} : W (opIsN n (.tup i) .non) Q = Q (.bl n) := W_some
theorem W_isNl {n : Bool} {i : List D} {Q : D → Prop} : W (opIsN n (.lst i) .non) Q = Q (.bl n) := W_some
theorem pu_mapB : ∀ bs : List Bool, (bs.map D.bl).all D.pu = true
  | [] => rfl
  | b :: bs => by rw [List.map_cons, List.all_cons, pu_mapB bs]; rfl
theorem pu_mapI : ∀ bs : List Int, (bs.map D.int).all D.pu = true
  | [] => rfl
  | b :: bs => by rw [List.map_cons, List.all_cons, pu_mapI bs]; rfl
theorem FrzL_mapB {bs : List Bool} {K : List D → Prop} : FrzL? (bs.map D.bl) K = K (bs.map D.bl) := by unfold FrzL?; rw [frzL_pu (pu_mapB bs)]
theorem FrzL_mapI {bs : List Int} {K : List D → Prop} : FrzL? (bs.map D.int) K = K (bs.map D.int) := by unfold FrzL?; rw [frzL_pu (pu_mapI bs)]
section
variable {ρ : Ev} {Q : List D → Ev → Prop} {gg : DG} {c e : DE} {vs : List Nat}
theorem W_mapB {ds : List D} (f : D → Bool) (h : ∀ d, d ∈ ds → W (gg d ρ) fun ρ1 => W2 (c ρ1) fun b ρ2 => WB b (W2 (e ρ2) fun y ρ3 => y = .bl (f d) ∧ wipeE vs ρ3 = ρ) False) (q : Q ((ds.map f).map D.bl) ρ) : W2 (compL gg c e vs ds ρ) Q :=
  W_map (fun d => .bl (f d)) h (by rw [List.map_map] at q; exact q)
theorem W_mapI {ds : List D} (f : D → Int) (h : ∀ d, d ∈ ds → W (gg d ρ) fun ρ1 => W2 (c ρ1) fun b ρ2 => WB b (W2 (e ρ2) fun y ρ3 => y = .int (f d) ∧ wipeE vs ρ3 = ρ) False) (q : Q ((ds.map f).map D.int) ρ) : W2 (compL gg c e vs ds ρ) Q :=
  W_map (fun d => .int (f d)) h (by rw [List.map_map] at q; exact q)
end
theorem zip_self : ∀ {xs : List D} {d : D}, d ∈ zipD xs xs → ∃ x, x ∈ xs ∧ d = .tup [x, x]
  | [], _, h => by cases h
  | x :: xs, d, h => by
    rw [zipD] at h
    rcases List.mem_cons.mp h with h | h
    · exact ⟨x, List.mem_cons_self, h⟩
    · obtain ⟨y, h1, h2⟩ := zip_self h
      exact ⟨y, List.mem_cons_of_mem _ h1, h2⟩
/-! plain data, its depth -/
mutual
def plain : D → Bool
  | .non => true | .bl _ => true | .int _ => true | .str s => shp (.str s) | .tup ds => decide (ds.length ≤ 1000000) && plainL ds | .lst ds => decide (ds.length ≤ 1000000) && plainL ds | _ => false
def plainL : List D → Bool
  | [] => true
  | d :: ds => plain d && plainL ds
end
mutual
def dep : D → Nat
  | .tup ds => depL ds + 1 | .lst ds => depL ds + 1 | _ => 0
def depL : List D → Nat
  | [] => 0
  | d :: ds => max (dep d) (depL ds)
end
theorem plainL_mem : ∀ {ds : List D} {d : D}, plainL ds = true → d ∈ ds → plain d = true ∧ dep d ≤ depL ds
  | [], _, _, h => by cases h
  | x :: ds, d, p, h => by
    rw [plainL, Bool.and_eq_true] at p
    rw [depL]
    rcases List.mem_cons.mp h with h | h
    · subst h; exact ⟨p.1, by omega⟩
    · obtain ⟨q1, q2⟩ := plainL_mem p.2 h
      exact ⟨q1, by omega⟩
mutual
theorem plain_noTy : ∀ (d : D), plain d = true → noTy d = true
  | .non, _ => rfl
  | .bl _, _ => rfl
  | .int _, _ => rfl
  | .str _, _ => rfl
  | .tup ds, h => by rw [noTy]; rw [plain, Bool.and_eq_true] at h; exact plainL_noTy ds h.2
  | .lst ds, h => by rw [noTy]; rw [plain, Bool.and_eq_true] at h; exact plainL_noTy ds h.2
  | .scr _, h => by cases h
  | .dct _, h => by cases h
  | .dix _ _, h => by cases h
  | .odx _ _, h => by cases h
  | .otp _, h => by cases h
  | .kt _, h => by cases h
  | .exc _ _ _, h => by cases h
  | .ty _, h => by cases h
  | .own _, h => by cases h
theorem plainL_noTy : ∀ (ds : List D), plainL ds = true → noTyL ds = true
  | [], _ => rfl
  | d :: ds, h => by
    rw [plainL, Bool.and_eq_true] at h
    rw [noTyL, plain_noTy d h.1, plainL_noTy ds h.2]
    rfl
end
theorem plain_pu {d : D} (h : plain d = true) : d.pu = true := by cases d <;> first | rfl | cases h
theorem plainL_pu : ∀ {ds : List D}, plainL ds = true → ds.all D.pu = true
  | [], _ => rfl
  | d :: ds, h => by
    rw [plainL, Bool.and_eq_true] at h
    rw [List.all_cons, plain_pu h.1, plainL_pu h.2]
    rfl
/-! the block's names, slot by slot -/
def Put? (ρ : Ev) (i : Nat) (x : Option D) (K : Ev → Prop) : Prop := K (ρ.set i x)
theorem Put_0 {y x : Option D} {ρ : Ev} {K : Ev → Prop} : Put? (y :: ρ) 0 x K = K (x :: ρ) := rfl
theorem Put_s {y x : Option D} {ρ : Ev} {i : Nat} {K : Ev → Prop} : Put? (y :: ρ) (i + 1) x K = Put? ρ i x fun r => K (y :: r) := rfl
def Get? (ρ : Ev) (i : Nat) (K : Option D → Prop) : Prop := K (ρ.getD i none)
theorem Get_0 {y : Option D} {ρ : Ev} {K : Option D → Prop} : Get? (y :: ρ) 0 K = K y := rfl
theorem Get_s {y : Option D} {ρ : Ev} {i : Nat} {K : Option D → Prop} : Get? (y :: ρ) (i + 1) K = Get? ρ i K := by
  unfold Get?
  rw [List.getD_cons_succ]
def OkAt (ρ : Ev) (i : Nat) : Prop := (match ρ[i]? with | some (some d) => d.pu | _ => true) = true
theorem Ok_n {ρ : Ev} : OkAt (none :: ρ) 0 = True := propext ⟨fun _ => trivial, fun _ => rfl⟩
theorem Ok_0 {d : D} {ρ : Ev} : OkAt (some d :: ρ) 0 = (d.pu = true) := rfl
theorem Ok_s {y : Option D} {ρ : Ev} {i : Nat} : OkAt (y :: ρ) (i + 1) = OkAt ρ i := rfl
theorem Wipe_eq {vs : List Nat} {ρ : Ev} {K : Ev → Prop} : Wipe? vs ρ K = (okV vs ρ = true ∧ K (wipeE vs ρ)) := rfl
theorem Wipe_nil {ρ : Ev} {K : Ev → Prop} : Wipe? [] ρ K = K ρ := propext ⟨fun h => h.2, fun h => ⟨rfl, h⟩⟩
theorem Wipe_cons {v : Nat} {vs : List Nat} {ρ : Ev} {K : Ev → Prop} : Wipe? (v :: vs) ρ K = (OkAt ρ v ∧ Wipe? vs ρ fun r => Put? r v none K) := by
  unfold Wipe? okV OkAt
  rw [List.all_cons, Bool.and_eq_true]
  exact propext ⟨fun h => ⟨h.1.1, h.1.2, h.2⟩, fun h => ⟨⟨h.1, h.2.1⟩, h.2.2⟩⟩
theorem Rest_nil {ρ0 ρ : Ev} {K : Ev → Prop} : Rest? ρ0 [] ρ K = K ρ := rfl
theorem Rest_cons {ρ0 ρ : Ev} {v : Nat} {vs : List Nat} {K : Ev → Prop} : Rest? ρ0 (v :: vs) ρ K = Rest? ρ0 vs ρ fun r => Get? ρ0 v fun x => Put? r v x K := rfl
/-! ### the later rules -/
section
variable {f g h i' : DE} {fa : DA} {ρ : Ev} {Q : D → Ev → Prop} {QF : Fl → Prop} {i : Nat} {r r' r'' : D → D → Option D}
theorem W_lrg1 : W2 (dListRg1 f ρ) Q = W2 (f ρ) fun d ρ1 => OnInt d fun n => RgOk 0 n ∧ Q (.own (rngD 0 n)) ρ1 := by
  unfold dListRg1; simp only [W2_bind, W_pair]
  congr; funext d ρ1
  cases d <;> first | (simp only [W2_guard, W2_some]; rfl) | exact W2_none
theorem W_lrg2 : W2 (dListRg2 f g ρ) Q = W2 (f ρ) fun a ρ1 => W2 (g ρ1) fun b ρ2 => OnInt a fun m => OnInt b fun n => RgOk m n ∧ Q (.own (rngD m n)) ρ2 := by
  unfold dListRg2; simp only [W2_bind, W_pair]
  congr; funext a ρ1; congr; funext b ρ2
  cases a <;> cases b <;> first | (simp only [W2_guard, W2_some]; rfl) | exact W2_none
theorem rngD_pu (a b : Int) : (rngD a b).all D.pu = true := by
  unfold rngD
  rw [List.all_map]
  exact List.all_eq_true.mpr fun _ _ => rfl
theorem FrzL_rng {a b : Int} {K : List D → Prop} : FrzL? (rngD a b) K = K (rngD a b) := by unfold FrzL?; rw [frzL_pu (rngD_pu a b)]
theorem W_chain3 : W2 (dChain3 r r' r'' f g h i' ρ) Q = W2 (f ρ) fun a ρ1 => W2 (g ρ1) fun b ρ2 => W (r a b) fun d => WB d (W2 (h ρ2) fun z ρ3 => W (r' b z) fun d' => WB d' (W2 (i' ρ3) fun y ρ4 => W (r'' z y) fun d'' => Q d'' ρ4) (Q (.bl false) ρ3)) (Q (.bl false) ρ2) := by
  unfold dChain3; simp only [W2_bind, W_pair]
  congr; funext a ρ1; congr; funext b ρ2; congr; funext d
  cases d with
  | bl b1 =>
    cases b1 with
    | false => exact W2_some
    | true =>
      simp only [W2_bind, W_pair, WB]
      congr; funext z ρ3; congr; funext d'
      cases d' with
      | bl b2 => cases b2 <;> first | exact W2_some | (simp only [W2_bind, W_pair, W2_some] <;> rfl)
      | _ => exact W2_none
  | _ => exact W2_none
theorem W_mt {t : D → Bool} {m : D → List D → Option D} : W2 (dMt t m f fa ρ) Q = W2 (f ρ) fun a ρ1 => t a = true ∧ W2 (fa ρ1) fun ds ρ2 => W (m a ds) fun d => Q d ρ2 := by
  unfold dMt; simp only [W2_bind, W_pair, W2_guard, W2_some]
theorem W_ow {m : List D → List D → Option (List D)} : W (dOwn i m fa ρ) QF = At? ρ i fun o => OnOwn o fun _ => W2 (fa ρ) fun as ρ1 => At? ρ1 i fun o => OnOwn o fun ds => ds.all D.pu = true ∧ W (m ds as) fun es => Set? ρ1 i (some (.own es)) fun ρ2 => QF (.nx ρ2) := by
  unfold dOwn; simp only [W_bind, W_pair, W_own]
  congr; funext d
  cases d <;> try rfl
  simp only [OnOwn]
  congr; funext p ρ1
  cases hx : ρ1[i]? with
  | none => rw [At_no (by rw [hx]; intro d e; cases e), At_no (by rw [hx]; intro d e; cases e)]
  | some x =>
    cases x with
    | none => rw [At_no (by rw [hx]; intro d e; cases e), At_no (by rw [hx]; intro d e; cases e)]
    | some d2 =>
      have hj : i < ρ1.length := by
        rcases Nat.lt_or_ge i ρ1.length with z | z
        · exact z
        · rw [List.getElem?_eq_none z] at hx; cases hx
      rw [At_some hx, At_some hx]
      cases d2 <;> try rfl
      simp only [OnOwn, W_guard, W_bind, W_some]
      congr; funext es
      exact propext ⟨fun q => ⟨hj, q⟩, fun q => q.2⟩
theorem W_owExt {ds es : List D} {QL : List D → Prop} : W (owExtend ds [.lst es]) QL = (ds.length + es.length ≤ 1000000 ∧ QL (ds ++ es)) := by
  show W (if _ then _ else _) QL = _
  rw [W_guard, W_some]
theorem W_owIns {ds : List D} {n : Int} {d : D} {QL : List D → Prop} : W (owInsert ds [.int n, d]) QL = ((0 ≤ n ∧ n < 2 ^ 63 ∧ ds.length < 1000000) ∧ QL (ds.take n.toNat ++ [d] ++ ds.drop n.toNat)) := by
  show W (if _ then _ else _) QL = _
  rw [W_guard, W_some]
theorem W_owRev {ds : List D} {QL : List D → Prop} : W (owReverse ds []) QL = QL ds.reverse := W_some
theorem W_repr {d : D} {QD : D → Prop} : W (biRepr [d]) QD = (rpOk d = true ∧ QD (.str (shw d))) := by
  show W (if _ then _ else _) QD = _
  rw [W_guard, W_some]
theorem W_sset : W2 (dSortedSet f ρ) Q = W2 (f ρ) fun d ρ1 => OnLst d fun xs => W (intsD xs) fun ns => ns.length ≤ 4000 ∧ Q (.own ((sset ns).map D.int)) ρ1 := by
  unfold dSortedSet; simp only [W2_bind, W_pair]
  congr; funext d ρ1
  cases d <;> first | (simp only [W2_bind, W2_guard, W2_some]; rfl) | exact W2_none
theorem W_intsD {ns : List Int} {K : List Int → Prop} : W (intsD (ns.map D.int)) K = K ns := by rw [intsD_map, W_some]
theorem FrzL_appI {as bs : List Int} {K : List D → Prop} : FrzL? (as.map D.int ++ bs.map D.int) K = K ((as ++ bs).map D.int) := by rw [← List.map_append, FrzL_mapI]
theorem isLst_l {ds : List D} : isLst (.lst ds) = true := rfl
theorem isStr_s {s : Str} : isStr (.str s) = true := rfl
end
end Pd

local macro_rules
  | `(tactic| simp!) => `(tactic| simp (config := {maxSteps := 2000000}) only [↓Pd.W_run, ↓Pd.Start_eq, ↓Pd.map_nil?, ↓Pd.map_cons?, ↓Pd.rep_z?, ↓Pd.rep_s?, ↓Pd.app_nil?, ↓Pd.app_cons?, ↓Pd.W_seq, ↓Pd.WS_nx, ↓Pd.WS_rt, ↓Pd.WS_bk, ↓Pd.WS_ct, ↓Pd.WL_nx, ↓Pd.WL_rt, ↓Pd.WL_bk, ↓Pd.WL_ct, ↓Pd.W_ifS, ↓Pd.W_ret, ↓Pd.W_drop, ↓Pd.W_set, ↓Pd.W_asg, ↓Pd.W_skip, ↓Pd.W_brk, ↓Pd.W_con, ↓Pd.W_var, ↓Pd.W_frz, ↓Pd.W_move, ↓Pd.W_int, ↓Pd.W_bl, ↓Pd.W_non, ↓Pd.W_str, ↓Pd.W_yes, ↓Pd.W_fz, ↓Pd.W_op, ↓Pd.W_un, ↓Pd.W_chain, ↓Pd.W_and, ↓Pd.W_or, ↓Pd.W_not, ↓Pd.W_if, ↓Pd.W_nil, ↓Pd.W_cons, ↓Pd.W_tup, ↓Pd.W_lst, ↓Pd.W_bi, ↓Pd.W_biL, ↓Pd.W_isi, ↓Pd.W_isi2, ↓Pd.W_call, ↓Pd.W_call1, ↓Pd.W_lent, ↓Pd.W_rnil, ↓Pd.W_rval, ↓Pd.W_rref, ↓Pd.W_ixO, ↓Pd.W_sl, ↓Pd.W_ono, ↓Pd.W_oso, ↓Pd.W_revL, ↓Pd.W_put, ↓Pd.W_gnam, ↓Pd.W_gtp, ↓Pd.W_gcons, ↓Pd.W_gnil, ↓Pd.On2_o, ↓Pd.On3_o, ↓Pd.W_par, ↓Pd.W_par3, ↓Pd.W_for, ↓Pd.W_while, ↓Pd.W_own, ↓Pd.W_setix, ↓Pd.SetI_0, ↓Pd.SetI_1, ↓Pd.SetI_2, ↓Pd.W_app, ↓Pd.W_aug, ↓Pd.W_ilst, ↓Pd.W_itpl, ↓Pd.W_irg1, ↓Pd.W_irg2, ↓Pd.W_ienm, ↓Pd.W_izp, ↓Pd.OnZip_l, ↓Pd.OnZip_t, ↓Pd.W_irvs, ↓Pd.W_comp, ↓Pd.WB_dec, ↓Pd.WB_true, ↓Pd.WB_false, ↓Pd.WB_not, ↓Pd.At_0, ↓Pd.At_s, ↓Pd.Set_0, ↓Pd.Set_s, ↓Pd.OnInt_i, ↓Pd.OnBl_b, ↓Pd.OnOwn_o, ↓Pd.OnLst_l, ↓Pd.OnTup_t, ↓Pd.One_o, ↓Pd.NoOut_n, ↓Pd.Frz_int, ↓Pd.Frz_bl, ↓Pd.Frz_non, ↓Pd.Frz_str, ↓Pd.Frz_tup, ↓Pd.Frz_lst, ↓Pd.Frz_scr, ↓Pd.Frz_own, ↓Pd.FrzL_nil, ↓Pd.FrzL_cons, ↓Pd.outsP_rt, ↓Pd.outsP_nx, ↓Pd.W_outs_nil, ↓Pd.W_outs_cons, ↓Pd.W_split_val, ↓Pd.W_split_ref, ↓Pd.W_vals_nil, ↓Pd.W_vals_val, ↓Pd.W_lent_nil, ↓Pd.W_lent_val, ↓Pd.W_lent_ref, ↓Pd.W_eqI, ↓Pd.W_neI, ↓Pd.W_opI, ↓Pd.W_opI0, ↓Pd.W_opB, ↓Pd.W_addI, ↓Pd.W_addL, ↓Pd.W_addT, ↓Pd.W_neg, ↓Pd.W_ixL, ↓Pd.W_ixT, ↓Pd.W_ixS, ↓Pd.W_at0, ↓Pd.W_at1, ↓Pd.W_at2, ↓Pd.W_at3, ↓Pd.W_at4, ↓Pd.W_lenL, ↓Pd.W_lenT, ↓Pd.W_lenS, ↓Pd.W_abs, ↓Pd.W_min2, ↓Pd.W_max2, ↓Pd.W_int_i, ↓Pd.W_int_b, ↓Pd.W_all, ↓Pd.W_any, ↓Pd.W_sum, ↓Pd.Put_0, ↓Pd.Put_s, ↓Pd.Get_0, ↓Pd.Get_s, ↓Pd.Ok_n, ↓Pd.Ok_0, ↓Pd.Ok_s, ↓Pd.Wipe_nil, ↓Pd.Wipe_cons, ↓Pd.Rest_nil, ↓Pd.Rest_cons, ↓Pd.W_eqB, ↓Pd.W_neB, ↓Pd.W_eqN, ↓Pd.W_eqS, ↓Pd.W_isNn, ↓Pd.W_isNi, ↓Pd.W_isNb, ↓Pd.W_isNs, ↓Pd.W_isNt, ↓Pd.W_isNl, ↓Pd.FrzL_mapB, ↓Pd.FrzL_mapI, ↓Pd.W_some, ↓Pd.W2_some, ↓Pd.W_lrg1, ↓Pd.W_lrg2, ↓Pd.FrzL_rng, ↓Pd.W_chain3, ↓Pd.W_mt, ↓Pd.W_ow, ↓Pd.W_owExt, ↓Pd.W_owIns, ↓Pd.W_owRev, ↓Pd.W_repr, ↓Pd.W_neS, ↓Pd.isLst_l, ↓Pd.isStr_s, ↓Pd.OnOL_o, ↓Pd.OnOL_l, ↓Pd.FrzL_appI, ↓Pd.W_sset, ↓Pd.W_intsD, Pd.it_int_n, Pd.it_int_b, Pd.it_int_i, Pd.it_int_s, Pd.it_int_t, Pd.it_int_l, Pd.it_int_o, Pd.it_bool_n, Pd.it_bool_b, Pd.it_bool_i, Pd.it_bool_s, Pd.it_bool_t, Pd.it_bool_l, Pd.it_bool_o, Pd.it_str_n, Pd.it_str_b, Pd.it_str_i, Pd.it_str_s, Pd.it_str_t, Pd.it_str_l, Pd.it_str_o, Pd.it_list_n, Pd.it_list_b, Pd.it_list_i, Pd.it_list_s, Pd.it_list_t, Pd.it_list_l, Pd.it_list_o, Pd.it_tuple_n, Pd.it_tuple_b, Pd.it_tuple_i, Pd.it_tuple_s, Pd.it_tuple_t, Pd.it_tuple_l, Pd.it_tuple_o, Pd.nt_n, Pd.nt_b, Pd.nt_i, Pd.nt_s, Pd.nt_t, Pd.nt_l, Pd.nt_o, Pd.nt_nil, Pd.nt_cons, decide_eq_true_eq, decide_eq_false_iff_not, not_true_eq_false, not_false_eq_true, false_implies, true_implies, implies_true, Bool.false_eq_true, Bool.true_eq_false, Bool.or_true, Bool.true_or, Bool.or_false, Bool.false_or, Bool.not_true, Bool.not_false, beq_self_eq_true, Bool.and_true, Bool.true_and, Pd.pu_i, Pd.pu_b, Pd.pu_n, Pd.pu_s, Pd.pu_t, Pd.pu_l, Pd.pu_c, Pd.fl_i, Pd.fl_b, Pd.fl_n, Pd.fl_s, Pd.t6, Pd.t9, Pd.t12, Pd.t18, List.cons_append, List.nil_append, List.append_nil, List.length_cons, List.length_nil, Nat.reduceSub, Nat.reduceAdd, Nat.reduceLT, Nat.reduceLeDiff, true_and, and_true, decide_true, decide_false, and_self])
  | `(tactic| simp! [$es,*]) => `(tactic| simp (config := {maxSteps := 2000000}) only [↓Pd.W_run, ↓Pd.Start_eq, ↓Pd.map_nil?, ↓Pd.map_cons?, ↓Pd.rep_z?, ↓Pd.rep_s?, ↓Pd.app_nil?, ↓Pd.app_cons?, ↓Pd.W_seq, ↓Pd.WS_nx, ↓Pd.WS_rt, ↓Pd.WS_bk, ↓Pd.WS_ct, ↓Pd.WL_nx, ↓Pd.WL_rt, ↓Pd.WL_bk, ↓Pd.WL_ct, ↓Pd.W_ifS, ↓Pd.W_ret, ↓Pd.W_drop, ↓Pd.W_set, ↓Pd.W_asg, ↓Pd.W_skip, ↓Pd.W_brk, ↓Pd.W_con, ↓Pd.W_var, ↓Pd.W_frz, ↓Pd.W_move, ↓Pd.W_int, ↓Pd.W_bl, ↓Pd.W_non, ↓Pd.W_str, ↓Pd.W_yes, ↓Pd.W_fz, ↓Pd.W_op, ↓Pd.W_un, ↓Pd.W_chain, ↓Pd.W_and, ↓Pd.W_or, ↓Pd.W_not, ↓Pd.W_if, ↓Pd.W_nil, ↓Pd.W_cons, ↓Pd.W_tup, ↓Pd.W_lst, ↓Pd.W_bi, ↓Pd.W_biL, ↓Pd.W_isi, ↓Pd.W_isi2, ↓Pd.W_call, ↓Pd.W_call1, ↓Pd.W_lent, ↓Pd.W_rnil, ↓Pd.W_rval, ↓Pd.W_rref, ↓Pd.W_ixO, ↓Pd.W_sl, ↓Pd.W_ono, ↓Pd.W_oso, ↓Pd.W_revL, ↓Pd.W_put, ↓Pd.W_gnam, ↓Pd.W_gtp, ↓Pd.W_gcons, ↓Pd.W_gnil, ↓Pd.On2_o, ↓Pd.On3_o, ↓Pd.W_par, ↓Pd.W_par3, ↓Pd.W_for, ↓Pd.W_while, ↓Pd.W_own, ↓Pd.W_setix, ↓Pd.SetI_0, ↓Pd.SetI_1, ↓Pd.SetI_2, ↓Pd.W_app, ↓Pd.W_aug, ↓Pd.W_ilst, ↓Pd.W_itpl, ↓Pd.W_irg1, ↓Pd.W_irg2, ↓Pd.W_ienm, ↓Pd.W_izp, ↓Pd.OnZip_l, ↓Pd.OnZip_t, ↓Pd.W_irvs, ↓Pd.W_comp, ↓Pd.WB_dec, ↓Pd.WB_true, ↓Pd.WB_false, ↓Pd.WB_not, ↓Pd.At_0, ↓Pd.At_s, ↓Pd.Set_0, ↓Pd.Set_s, ↓Pd.OnInt_i, ↓Pd.OnBl_b, ↓Pd.OnOwn_o, ↓Pd.OnLst_l, ↓Pd.OnTup_t, ↓Pd.One_o, ↓Pd.NoOut_n, ↓Pd.Frz_int, ↓Pd.Frz_bl, ↓Pd.Frz_non, ↓Pd.Frz_str, ↓Pd.Frz_tup, ↓Pd.Frz_lst, ↓Pd.Frz_scr, ↓Pd.Frz_own, ↓Pd.FrzL_nil, ↓Pd.FrzL_cons, ↓Pd.outsP_rt, ↓Pd.outsP_nx, ↓Pd.W_outs_nil, ↓Pd.W_outs_cons, ↓Pd.W_split_val, ↓Pd.W_split_ref, ↓Pd.W_vals_nil, ↓Pd.W_vals_val, ↓Pd.W_lent_nil, ↓Pd.W_lent_val, ↓Pd.W_lent_ref, ↓Pd.W_eqI, ↓Pd.W_neI, ↓Pd.W_opI, ↓Pd.W_opI0, ↓Pd.W_opB, ↓Pd.W_addI, ↓Pd.W_addL, ↓Pd.W_addT, ↓Pd.W_neg, ↓Pd.W_ixL, ↓Pd.W_ixT, ↓Pd.W_ixS, ↓Pd.W_at0, ↓Pd.W_at1, ↓Pd.W_at2, ↓Pd.W_at3, ↓Pd.W_at4, ↓Pd.W_lenL, ↓Pd.W_lenT, ↓Pd.W_lenS, ↓Pd.W_abs, ↓Pd.W_min2, ↓Pd.W_max2, ↓Pd.W_int_i, ↓Pd.W_int_b, ↓Pd.W_all, ↓Pd.W_any, ↓Pd.W_sum, ↓Pd.Put_0, ↓Pd.Put_s, ↓Pd.Get_0, ↓Pd.Get_s, ↓Pd.Ok_n, ↓Pd.Ok_0, ↓Pd.Ok_s, ↓Pd.Wipe_nil, ↓Pd.Wipe_cons, ↓Pd.Rest_nil, ↓Pd.Rest_cons, ↓Pd.W_eqB, ↓Pd.W_neB, ↓Pd.W_eqN, ↓Pd.W_eqS, ↓Pd.W_isNn, ↓Pd.W_isNi, ↓Pd.W_isNb, ↓Pd.W_isNs, ↓Pd.W_isNt, ↓Pd.W_isNl, ↓Pd.FrzL_mapB, ↓Pd.FrzL_mapI, ↓Pd.W_some, ↓Pd.W2_some, ↓Pd.W_lrg1, ↓Pd.W_lrg2, ↓Pd.FrzL_rng, ↓Pd.W_chain3, ↓Pd.W_mt, ↓Pd.W_ow, ↓Pd.W_owExt, ↓Pd.W_owIns, ↓Pd.W_owRev, ↓Pd.W_repr, ↓Pd.W_neS, ↓Pd.isLst_l, ↓Pd.isStr_s, ↓Pd.OnOL_o, ↓Pd.OnOL_l, ↓Pd.FrzL_appI, ↓Pd.W_sset, ↓Pd.W_intsD, Pd.it_int_n, Pd.it_int_b, Pd.it_int_i, Pd.it_int_s, Pd.it_int_t, Pd.it_int_l, Pd.it_int_o, Pd.it_bool_n, Pd.it_bool_b, Pd.it_bool_i, Pd.it_bool_s, Pd.it_bool_t, Pd.it_bool_l, Pd.it_bool_o, Pd.it_str_n, Pd.it_str_b, Pd.it_str_i, Pd.it_str_s, Pd.it_str_t, Pd.it_str_l, Pd.it_str_o, Pd.it_list_n, Pd.it_list_b, Pd.it_list_i, Pd.it_list_s, Pd.it_list_t, Pd.it_list_l, Pd.it_list_o, Pd.it_tuple_n, Pd.it_tuple_b, Pd.it_tuple_i, Pd.it_tuple_s, Pd.it_tuple_t, Pd.it_tuple_l, Pd.it_tuple_o, Pd.nt_n, Pd.nt_b, Pd.nt_i, Pd.nt_s, Pd.nt_t, Pd.nt_l, Pd.nt_o, Pd.nt_nil, Pd.nt_cons, decide_eq_true_eq, decide_eq_false_iff_not, not_true_eq_false, not_false_eq_true, false_implies, true_implies, implies_true, Bool.false_eq_true, Bool.true_eq_false, Bool.or_true, Bool.true_or, Bool.or_false, Bool.false_or, Bool.not_true, Bool.not_false, beq_self_eq_true, Bool.and_true, Bool.true_and, Pd.pu_i, Pd.pu_b, Pd.pu_n, Pd.pu_s, Pd.pu_t, Pd.pu_l, Pd.pu_c, Pd.fl_i, Pd.fl_b, Pd.fl_n, Pd.fl_s, Pd.t6, Pd.t9, Pd.t12, Pd.t18, List.cons_append, List.nil_append, List.append_nil, List.length_cons, List.length_nil, Nat.reduceSub, Nat.reduceAdd, Nat.reduceLT, Nat.reduceLeDiff, true_and, and_true, decide_true, decide_false, and_self, $es,*])
namespace Pd
open PySem PySem.Spec PyProof.Rows L2
/-- _law_cell_at(_law_script, _law_k) -/
def g_cell_at : DS := (dRet (dIf (dOp opLt (dVar 1) (dBi biLen (dCons (dVar 0) dNil))) (dFz (dOp opIx (dVar 0) (dVar 1))) (dInt 0)))
def c_cell_at : Ct := run 2 2 [] g_cell_at
/-- _law_tape(_law_script, _law_k) -/
def g_tape : DS := (dSeq (dSet 2 (dFz (dCall Pd.c_cell_at (dCons (dVar 0) (dCons (dVar 1) dNil)))))
  (dRet (dLst (dCons (dOp opMulI (dBi biAbs (dCons (dVar 2) dNil)) (dBi biInt (dCons (dOp opGe (dBi biAbs (dCons (dVar 2) dNil)) (dOp opPow (dInt 10) (dInt 18))) dNil))) (dCons (dOp opMod (dOp opMulI (dFz (dOp opAdd (dFz (dOp opAdd (dOp opMod (dVar 2) (dInt 2147483647)) (dOp opMulI (dOp opMulI (dInt 7727) (dVar 1)) (dVar 1)))) (dInt 37))) (dInt 48271)) (dInt 2147483629)) (dCons (dInt 0) dNil))))))
def c_tape : Ct := run 3 2 [] g_tape
/-- _law_take(_law_tape_here, _law_many) -/
def g_take (C : Ct) : DS := (dSeq (dIfS (dOp opGt (dIxO 0 (dInt 0)) (dInt 0)) (dSeq (dSet 4 (dOp opMod (dIxO 0 (dInt 0)) (dVar 1)))
  (dSeq (dSetIx 0 (dOp opDiv (dIxO 0 (dInt 0)) (dVar 1)) (dInt 0))
  (dRet (dVar 4)))) dSkip)
  (dSeq (dSetIx 0 (dFz (dOp opAdd (dIxO 0 (dInt 2)) (dInt 1))) (dInt 2))
  (dSeq (dSet 2 (dFz (dOp opIx (dFz (dLst (dCons (dInt 2147483587) (dCons (dInt 2147483579) (dCons (dInt 2147483563) (dCons (dInt 2147483549) (dCons (dInt 2147483543) (dCons (dInt 2147483497) (dCons (dInt 2147483489) dNil))))))))) (dOp opMod (dIxO 0 (dInt 2)) (dInt 7)))))
  (dSeq (dSet 3 (dOp opMod (dOp opMulI (dFz (dOp opAdd (dIxO 0 (dInt 1)) (dOp opMulI (dInt 39373) (dIxO 0 (dInt 2))))) (dFz (dOp opAdd (dInt 48271) (dIxO 0 (dInt 2))))) (dVar 2)))
  (dSeq (dSetIx 0 (dOp opMod (dFz (dOp opAdd (dOp opMulI (dVar 3) (dFz (dOp opAdd (dOp opMod (dVar 3) (dInt 40009)) (dInt 7)))) (dIxO 0 (dInt 2)))) (dInt 2147483629)) (dInt 1))
  (dSeq (dSet 4 (dOp opDiv (dOp opMod (dOp opMulI (dIxO 0 (dInt 1)) (dFz (dOp opAdd (dOp opMod (dIxO 0 (dInt 1)) (dInt 1009)) (dInt 3)))) (dInt 998244353)) (dInt 7)))
  (dRet (dIf (dOp opLt (dVar 1) (dOp opPow (dInt 10) (dInt 6))) (dOp opMod (dVar 4) (dVar 1)) (dOp opMod (dFz (dOp opAdd (dOp opMulI (dVar 4) (dInt 99991)) (dFz (dCall1 C (rRef 0 (rVal (dInt 99991) rNil)))))) (dVar 1))))))))))
def c_take : Nat → Ct
  | 0 => fun _ => none
  | n + 1 => run 5 2 [0] (g_take (c_take n))
/-- _law_same(_law_found, _law_due) -/
def g_same (C : Ct) : DS := (dSeq (dIfS (dIsi2 "list" "tuple" (dVar 1)) (dSeq (dIfS (dOr (dOp opNe (dIsi "list" (dVar 0)) (dIsi "list" (dVar 1))) (dOp opNe (dIsi "tuple" (dVar 0)) (dIsi "tuple" (dVar 1)))) (dRet (dBl false)) dSkip)
  (dSeq (dIfS (dOp opNe (dBi biLen (dCons (dVar 0) dNil)) (dBi biLen (dCons (dVar 1) dNil))) (dRet (dBl false)) dSkip)
  (dRet (dBi biAll (dCons (dFz (dComp (iZp (dVar 0) (dVar 1)) (gTp 2 (gsCons (gNam 2) (gsCons (gNam 3) gsNil))) dYes (dFz (dCall C (dCons (dVar 2) (dCons (dVar 3) dNil)))) [2, 3])) dNil))))) dSkip)
  (dSeq (dIfS (dOr (dOp (opIsN false) (dVar 1) dNon) (dIsi "str" (dVar 1))) (dRet (dAnd (dOp opEq (dVar 0) (dVar 1)) (dOp opEq (dIsi "str" (dVar 0)) (dIsi "str" (dVar 1))))) dSkip)
  (dSeq (dIfS (dIsi "bool" (dVar 1)) (dRet (dAnd (dIsi "bool" (dVar 0)) (dOp opEq (dVar 0) (dVar 1)))) dSkip)
  (dRet (dAnd (dIsi "int" (dVar 0)) (dAnd (dNot (dIsi "bool" (dVar 0))) (dOp opEq (dVar 0) (dVar 1))))))))
def c_same : Nat → Ct
  | 0 => fun _ => none
  | n + 1 => run 4 2 [] (g_same (c_same n))
/-- least_of(width, sign) -/
def g_least_of : DS := (dRet (dIf (dOp opEq (dVar 1) (dInt 1)) (dUn unNeg (dOp opShl (dInt 1) (dOp opSub (dVar 0) (dInt 1)))) (dInt 0)))
def c_least_of : Ct := run 2 2 [] g_least_of
/-- most_of(width, sign) -/
def g_most_of : DS := (dRet (dOp opSub (dFz (dOp opAdd (dFz (dCall Pd.c_least_of (dCons (dVar 0) (dCons (dVar 1) dNil)))) (dOp opShl (dInt 1) (dVar 0)))) (dInt 1)))
def c_most_of : Ct := run 2 2 [] g_most_of
/-- pattern_of(number, width) -/
def g_pattern_of : DS := (dRet (dOp opMod (dVar 0) (dOp opShl (dInt 1) (dVar 1))))
def c_pattern_of : Ct := run 2 2 [] g_pattern_of
/-- number_of(pattern, width, sign) -/
def g_number_of : DS := (dRet (dIf (dOp opLe (dVar 0) (dFz (dCall Pd.c_most_of (dCons (dVar 1) (dCons (dVar 2) dNil))))) (dVar 0) (dOp opSub (dVar 0) (dOp opShl (dInt 1) (dVar 1)))))
def c_number_of : Ct := run 3 3 [] g_number_of

/-! ### what they give -/
theorem divW {i m : Int} (h1 : 1 ≤ m) (h2 : m ≤ 18446744073709551616) : CDivW i m :=
  ⟨by omega, Nat.lt_of_lt_of_le (PySem.Flt.log2_lt_of (k := 65) (by decide) (by omega)) (by decide)⟩
theorem W_take0 {k n e : Nat} {t : List D} {m : Int} {Q : D → List D → Prop} (ht : IsT n t) (hn : n ≤ 1000000000000) (h1 : 1 ≤ m) (h2 : m ≤ 18446744073709551616)
    (he : 1 ≤ e) (hr : m < 1000000 ∨ ∀ t', IsT (n + 1) t' → ∀ Q, (∀ r t'', 0 ≤ r → r < 99991 → IsT (n + e) t'' → Q (.int r) [.own t'']) → W2 (c_take k [.own t', .int 99991]) Q)
    (q : ∀ r t', 0 ≤ r → r < m → IsT (n + e) t' → Q (.int r) [.own t']) : W2 (c_take (k + 1) [.own t, .int m]) Q := by
  obtain ⟨a, b, c, rfl, ha, hb, hb2, hc, hcn⟩ := ht
  unfold c_take g_take
  simp!
  refine ⟨fun h => ⟨by unfold CMod; omega, ⟨by omega, ?_⟩, ?_⟩, fun h => ⟨by unfold CMod; omega, W_atI_all (by omega) (by simp only [List.length_cons, List.length_nil]; omega) fun d hd => ?_⟩⟩
  · exact (divW (i := a) h1 h2).2
  · refine q _ _ (Int.emod_nonneg _ (by omega)) (Int.emod_lt_of_pos _ (by omega)) ⟨_, _, _, rfl, Int.ediv_nonneg (by omega) (by omega), hb, hb2, hc, by omega⟩
  · obtain ⟨p, rfl, hp1, hp2⟩ : ∃ p : Int, d = .int p ∧ 2147483489 ≤ p ∧ p ≤ 2147483587 := by
      simp only [List.mem_cons, List.not_mem_nil, or_false] at hd
      rcases hd with hd | hd | hd | hd | hd | hd | hd <;> exact ⟨_, hd, by decide, by decide⟩
    simp!
    have o1 := Int.emod_nonneg ((b + 39373 * (c + 1)) * (48271 + (c + 1))) (show p ≠ 0 by omega)
    have o2 := Int.emod_lt_of_pos ((b + 39373 * (c + 1)) * (48271 + (c + 1))) (show 0 < p by omega)
    generalize (b + 39373 * (c + 1)) * (48271 + (c + 1)) % p = o at o1 o2 ⊢
    have u1 := Int.emod_nonneg (o * (o % 40009 + 7) + (c + 1)) (show (2147483629 : Int) ≠ 0 by omega)
    have u2 := Int.emod_lt_of_pos (o * (o % 40009 + 7) + (c + 1)) (show (0 : Int) < 2147483629 by omega)
    generalize (o * (o % 40009 + 7) + (c + 1)) % 2147483629 = u at u1 u2 ⊢
    have f1 := Int.emod_nonneg (u * (u % 1009 + 3)) (show (998244353 : Int) ≠ 0 by omega)
    have f2 := Int.emod_lt_of_pos (u * (u % 1009 + 3)) (show (0 : Int) < 998244353 by omega)
    generalize u * (u % 1009 + 3) % 998244353 = f at f1 f2 ⊢
    refine ⟨.inl ⟨by decide, by decide⟩, .inr ⟨by omega, by omega⟩, show 0 < p by omega, show (0 : Int) < 40009 by decide, .inl ⟨by omega, by omega⟩, show (0 : Int) < 2147483629 by decide, show (0 : Int) < 1009 by decide, .inl ⟨by omega, by omega⟩,
      show (0 : Int) < 998244353 by decide, divW (by decide) (by decide), ⟨by decide, by decide, by decide⟩, fun hm => ?_, fun hm => ?_⟩
    · exact ⟨by unfold CMod; omega, q _ _ (Int.emod_nonneg _ (by omega)) (Int.emod_lt_of_pos _ (by omega)) ⟨_, _, _, rfl, ha, u1, u2, by omega, by omega⟩⟩
    · refine ⟨.inl ⟨by omega, by omega⟩, ?_⟩
      refine (hr.resolve_left (by omega)) _ ⟨_, _, _, rfl, ha, u1, u2, by omega, by omega⟩ _ fun r t'' r1 r2 ht => ?_
      simp!
      exact ⟨by unfold CMod; omega, q _ _ (Int.emod_nonneg _ (by omega)) (Int.emod_lt_of_pos _ (by omega)) ht⟩
/-- a draw: any number below m -/
theorem W_take {k n : Nat} {t : List D} {m : Int} {Q : D → List D → Prop} (ht : IsT n t) (hn : n ≤ 100000000000) (h1 : 1 ≤ m) (h2 : m ≤ 18446744073709551616)
    (q : ∀ r t', 0 ≤ r → r < m → IsT (n + 2) t' → Q (.int r) [.own t']) : W2 (c_take (k + 2) [.own t, .int m]) Q :=
  W_take0 (e := 2) ht (by omega) h1 h2 (by decide) (.inr fun t' ht' Q' q' => W_take0 (e := 1) ht' (by omega) (by decide) (by decide) (by decide) (.inl (by decide)) q') q
theorem W_cell_at {ns : List Int} {k : Int} {Q : D → List D → Prop} (h : 0 ≤ k) (q : ∀ c, Q (.int c) []) : W2 (c_cell_at [.scr ns, .int k]) Q := by
  unfold c_cell_at g_cell_at
  simp!
  refine ⟨fun h1 => ?_, fun _ => q _⟩
  exact W_atI_all h h1 fun x _ => q x
/-- the tape of a cell -/
theorem W_tape {ns : List Int} {k : Int} {Q : D → List D → Prop} (h : 0 ≤ k) (h2 : k ≤ 1000) (q : ∀ t, IsT 0 t → Q (.own t) []) : W2 (c_tape [.scr ns, .int k]) Q := by
  unfold c_tape g_tape
  simp!
  refine W_cell_at h fun c => ?_
  simp!
  have hk : (0 : Int) ≤ 7727 * k * k := Int.mul_nonneg (by omega) h
  refine ⟨⟨by decide, by decide, by decide⟩, (.inr (by split <;> split <;> decide)), show (0 : Int) < 2147483647 by decide, .inl ⟨by decide, by decide⟩, .inr ⟨by omega, by omega⟩, .inr ⟨by decide, by decide⟩, show (0 : Int) < 2147483629 by decide, ?_⟩
  refine q _ ⟨_, _, _, rfl, ?_, Int.emod_nonneg _ (by decide), Int.emod_lt_of_pos _ (by decide), by decide, by decide⟩
  split <;> split <;> omega
theorem W_same : ∀ {k : Nat} {d : D} {Q : D → List D → Prop}, plain d = true → dep d < k → Q (.bl true) [] → W2 (c_same k [d, d]) Q
  | 0, _, _, _, h, _ => absurd h (Nat.not_lt_zero _)
  | k + 1, d, Q, p, h, q => by
    have many : ∀ (ds : List D), plainL ds = true → depL ds < k → ∀ (ρ : Ev) (Q' : List D → Ev → Prop) (a b : D), Q' ((List.replicate ds.length true).map D.bl) [some a, some b, none, none] →
        W2 (compL (gTp 2 (gsCons (gNam 2) (gsCons (gNam 3) gsNil))) dYes (dFz (dCall (c_same k) (dCons (dVar 2) (dCons (dVar 3) dNil)))) [2, 3] (zipD ds ds) [some a, some b, none, none]) Q' := by
      intro ds hp hd ρ Q' a b hq
      refine W_mapB (fun _ => true) (fun x hx => ?_) ?_
      · obtain ⟨y, hy, rfl⟩ := zip_self hx
        obtain ⟨p1, p2⟩ := plainL_mem hp hy
        simp!
        refine ⟨plain_pu p1, plain_pu p1, W_same p1 (by omega) ?_⟩
        simp!
        rfl
      · rw [List.map_const', zipD_len, Nat.min_self]
        exact hq
    unfold c_same g_same
    cases d with
    | non => simp!; exact q
    | bl b => simp!; exact q
    | int i => simp!; exact q
    | str s => simp!; exact q
    | tup ds =>
      rw [plain, Bool.and_eq_true, decide_eq_true_eq] at p
      rw [dep] at h
      simp! [plainL_noTy ds p.2]
      refine many ds p.2 (by omega) [] _ _ _ ?_
      simp!
      refine ⟨by rw [List.length_map, List.length_replicate]; exact p.1, ?_⟩
      rw [List.all_replicate]
      simp only [id, ite_self]
      exact q
    | lst ds =>
      rw [plain, Bool.and_eq_true, decide_eq_true_eq] at p
      rw [dep] at h
      simp! [plainL_noTy ds p.2]
      refine many ds p.2 (by omega) [] _ _ _ ?_
      simp!
      refine ⟨by rw [List.length_map, List.length_replicate]; exact p.1, ?_⟩
      rw [List.all_replicate]
      simp only [id, ite_self]
      exact q
    | scr ns => cases p
    | dct _ => cases p
    | dix _ _ => cases p
    | odx _ _ => cases p
    | otp _ => cases p
    | kt _ => cases p
    | exc => cases p
    | ty n => cases p
    | own ds => cases p
theorem W_sameR {k : Nat} {d : D} {Q : D → List D → Prop} (q : Q (.bl true) []) (p : plain d = true := by rfl) (h : Nat.blt (dep d) k = true := by rfl) : W2 (c_same k [d, d]) Q := W_same p (by unfold Nat.blt at h; exact Nat.le_of_ble_eq_true h) q
/-! kinds of numbers -/
theorem pow2_le {w : Int} (h : w ≤ 40) : (2 : Int) ^ w.toNat ≤ 1099511627776 := by
  have h2 : 2 ^ w.toNat ≤ 2 ^ 40 := Nat.pow_le_pow_right (by decide) (by omega)
  have h3 : ((2 ^ w.toNat : Nat) : Int) = (2 : Int) ^ w.toNat := by rw [Int.natCast_pow]; rfl
  rw [← h3]
  have h4 : (2 : Nat) ^ 40 = 1099511627776 := by decide
  rw [h4] at h2
  generalize 2 ^ w.toNat = x at h2 ⊢
  omega
theorem pow2_pos (w : Int) : 1 ≤ (2 : Int) ^ w.toNat := by
  have h : (0 : Int) < 2 ^ w.toNat := Int.pow_pos (by decide)
  omega
theorem pow2_s {w : Int} (h : 1 ≤ w) : (2 : Int) ^ w.toNat = 2 * 2 ^ (w - 1).toNat := by
  have e : w.toNat = (w - 1).toNat + 1 := by omega
  rw [e, Int.pow_succ, Int.mul_comm]
/-- the least number of a kind -/
def lowN (w s : Int) : Int := if s = 1 then -(2 ^ (w - 1).toNat) else 0
theorem W_least_of {w s : Int} {Q : D → List D → Prop} (h : 1 ≤ w) (h2 : w ≤ 40) (q : Q (.int (lowN w s)) []) : W2 (c_least_of [.int w, .int s]) Q := by
  unfold c_least_of g_least_of
  simp!
  unfold lowN at q
  refine ⟨fun e => ⟨⟨by omega, by omega, by decide⟩, ?_⟩, fun e => ?_⟩
  · rw [if_pos e] at q; rw [Int.one_mul]; exact q
  · rw [if_neg e] at q; exact q
theorem W_most_of {w s : Int} {Q : D → List D → Prop} (h : 1 ≤ w) (h2 : w ≤ 40) (q : Q (.int (lowN w s + 2 ^ w.toNat - 1)) []) : W2 (c_most_of [.int w, .int s]) Q := by
  unfold c_most_of g_most_of
  simp!
  refine W_least_of h h2 ?_
  simp!
  refine ⟨⟨by omega, by omega, by decide⟩, ?_⟩
  rw [Int.one_mul]; exact q
theorem W_pattern_of {n w : Int} {Q : D → List D → Prop} (h : 0 ≤ w) (h2 : w ≤ 40) (q : Q (.int (n % 2 ^ w.toNat)) []) : W2 (c_pattern_of [.int n, .int w]) Q := by
  unfold c_pattern_of g_pattern_of
  simp!
  rw [Int.one_mul]
  have := pow2_pos w
  exact ⟨⟨by omega, by omega, by decide⟩, by unfold CMod; omega, q⟩
theorem W_number_of {p w s : Int} {Q : D → List D → Prop} (h : 1 ≤ w) (h2 : w ≤ 40) (q : Q (.int (if p ≤ lowN w s + 2 ^ w.toNat - 1 then p else p - 2 ^ w.toNat)) []) : W2 (c_number_of [.int p, .int w, .int s]) Q := by
  unfold c_number_of g_number_of
  simp!
  refine W_most_of h h2 ?_
  simp!
  refine ⟨fun e => ?_, fun e => ⟨⟨by omega, by omega, by decide⟩, ?_⟩⟩
  · rw [if_pos e] at q; exact q
  · rw [if_neg e] at q; rw [Int.one_mul]; exact q
end Pd

namespace Pd
open PySem PySem.Spec PyProof.Rows L2
/-- picks(width, item, number) -/
def g_picks : DS := (dSeq (dIfS (dOp opEq (dFz (dOp opIx (dVar 1) (dInt 0))) (dStr "is")) (dRet (dOp opEq (dVar 2) (dFz (dOp opIx (dVar 1) (dInt 1))))) dSkip)
  (dSeq (dIfS (dOp opEq (dFz (dOp opIx (dVar 1) (dInt 0))) (dStr "from")) (dRet (dChain opLe opLe (dFz (dOp opIx (dVar 1) (dInt 1))) (dVar 2) (dFz (dOp opIx (dVar 1) (dInt 2))))) dSkip)
  (dRet (dOp opEq (dOp opAnd (dFz (dCall Pd.c_pattern_of (dCons (dVar 2) (dCons (dVar 0) dNil)))) (dFz (dOp opIx (dVar 1) (dInt 1)))) (dFz (dOp opIx (dVar 1) (dInt 2)))))))
def c_picks : Ct := run 3 3 [] g_picks
/-- _law_kind(_law_tape_here) -/
def g_kind : DS := (dSeq (dSet 1 (dOp opEq (dFz (dCall1 (Pd.c_take 2) (rRef 0 (rVal (dInt 8) rNil)))) (dInt 0)))
  (dSeq (dSet 2 (dFz (dIf (dVar 1) (dOp opAdd (dInt 8) (dFz (dCall1 (Pd.c_take 2) (rRef 0 (rVal (dInt 33) rNil))))) (dOp opAdd (dInt 1) (dFz (dCall1 (Pd.c_take 2) (rRef 0 (rVal (dInt 7) rNil))))))))
  (dRet (dTup (dCons (dVar 2) (dCons (dFz (dCall1 (Pd.c_take 2) (rRef 0 (rVal (dInt 2) rNil)))) dNil))))))
def c_kind : Ct := run 3 1 [0] g_kind
/-- _law_least(_law_width, _law_sign) -/
def g_least : DS := (dRet (dOp opSub (dInt 0) (dOp opMulI (dOp opShl (dInt 1) (dOp opSub (dVar 0) (dInt 1))) (dVar 1))))
def c_least : Ct := run 2 2 [] g_least
/-- _law_number(_law_tape_here, _law_width, _law_sign, _law_other) -/
def g_numb : DS := (dSeq (dPar 4 5 (dCons (dFz (dCall Pd.c_least (dCons (dVar 1) (dCons (dVar 2) dNil)))) (dCons (dOp opShl (dInt 1) (dVar 1)) dNil)))
  (dSeq (dPar 6 7 (dCons (dFz (dCall1 (Pd.c_take 2) (rRef 0 (rVal (dInt 5) rNil)))) (dCons (dFz (dCall1 (Pd.c_take 2) (rRef 0 (rVal (dBi biMin2 (dCons (dVar 5) (dCons (dInt 6) dNil))) rNil)))) dNil)))
  (dSeq (dIfS (dOp opEq (dVar 6) (dInt 0)) (dRet (dOp opAdd (dVar 4) (dVar 7))) dSkip)
  (dSeq (dIfS (dOp opEq (dVar 6) (dInt 1)) (dRet (dOp opSub (dOp opSub (dFz (dOp opAdd (dVar 4) (dVar 5))) (dInt 1)) (dVar 7))) dSkip)
  (dSeq (dIfS (dAnd (dOp opEq (dVar 6) (dInt 2)) (dChain opLe opLt (dVar 4) (dFz (dOp opAdd (dVar 3) (dVar 7))) (dFz (dOp opAdd (dVar 4) (dVar 5))))) (dRet (dOp opAdd (dVar 3) (dVar 7))) dSkip)
  (dRet (dOp opAdd (dVar 4) (dFz (dCall1 (Pd.c_take 2) (rRef 0 (rVal (dVar 5) rNil)))))))))))
def c_numb : Ct := run 8 4 [0] g_numb
/-- _law_mask(_law_tape_here, _law_width) -/
def g_mask : DS := (dSeq (dIfS (dOp opLt (dVar 1) (dInt 9)) (dRet (dCall1 (Pd.c_take 2) (rRef 0 (rVal (dOp opShl (dInt 1) (dVar 1)) rNil)))) dSkip)
  (dSeq (dPar 4 5 (dCons (dFz (dCall1 (Pd.c_take 2) (rRef 0 (rVal (dInt 3) rNil)))) (dCons (dFz (dOp opAdd (dInt 5) (dFz (dCall1 (Pd.c_take 2) (rRef 0 (rVal (dInt 4) rNil)))))) dNil)))
  (dSeq (dIfS (dOp opEq (dVar 4) (dInt 0)) (dRet (dOp opShl (dFz (dCall1 (Pd.c_take 2) (rRef 0 (rVal (dInt 16) rNil)))) (dOp opSub (dVar 1) (dInt 4)))) dSkip)
  (dSeq (dSet 2 (dIf (dOp opEq (dVar 4) (dInt 1)) (dOp opShl (dOp opSub (dOp opShl (dInt 1) (dVar 5)) (dInt 1)) (dOp opSub (dVar 1) (dVar 5))) (dOp opSub (dOp opShl (dInt 1) (dVar 1)) (dInt 1))))
  (dSeq (dFor (iRg1 (dFz (dCall1 (Pd.c_take 2) (rRef 0 (rVal (dInt 4) rNil))))) (gNam 3) (dSet 2 (dOp opSub (dVar 2) (dOp opAnd (dVar 2) (dOp opShl (dInt 1) (dFz (dCall1 (Pd.c_take 2) (rRef 0 (rVal (dVar 1) rNil)))))))))
  (dRet (dVar 2)))))))
def c_mask : Ct := run 6 2 [0] g_mask
/-- _law_item(_law_tape_here, _law_width, _law_sign, _law_other) -/
def g_item : DS := (dSeq (dSet 4 (dFz (dCall1 (Pd.c_take 2) (rRef 0 (rVal (dInt 5) rNil)))))
  (dSeq (dSet 5 (dFz (dCall1 Pd.c_numb (rRef 0 (rVal (dVar 1) (rVal (dVar 2) (rVal (dVar 3) rNil)))))))
  (dSeq (dIfS (dOp opLt (dVar 4) (dInt 2)) (dRet (dTup (dCons (dStr "is") (dCons (dVar 5) dNil)))) dSkip)
  (dSeq (dSet 6 (dFz (dCall1 Pd.c_numb (rRef 0 (rVal (dVar 1) (rVal (dVar 2) (rVal (dVar 5) rNil)))))))
  (dSeq (dIfS (dOp opLt (dVar 4) (dInt 4)) (dRet (dTup (dCons (dStr "from") (dCons (dBi biMin2 (dCons (dVar 5) (dCons (dVar 6) dNil))) (dCons (dBi biMax2 (dCons (dVar 5) (dCons (dVar 6) dNil))) dNil))))) dSkip)
  (dSeq (dSet 7 (dFz (dCall1 Pd.c_mask (rRef 0 (rVal (dVar 1) rNil)))))
  (dSeq (dSet 8 (dFz (dCall1 (Pd.c_take 2) (rRef 0 (rVal (dOp opShl (dInt 1) (dVar 1)) rNil)))))
  (dRet (dTup (dCons (dStr "bits") (dCons (dVar 7) (dCons (dIf (dOp opGt (dFz (dCall1 (Pd.c_take 2) (rRef 0 (rVal (dInt 5) rNil)))) (dInt 0)) (dOp opAnd (dVar 8) (dVar 7)) (dVar 8)) dNil))))))))))))
def c_item : Ct := run 9 4 [0] g_item
/-- _law_free(_law_width, _law_mask_here) -/
def g_free : DS := (dSeq (dSet 2 (dFz (dComp (iRg1 (dVar 0)) (gNam 3) (dOp opEq (dOp opAnd (dOp opShr (dVar 1) (dVar 3)) (dInt 1)) (dInt 1)) (dVar 3) [3])))
  (dRet (dComp (iRg1 (dVar 0)) (gNam 3) (dAnd (dOp opNe (dVar 2) (dFz (dLst dNil))) (dAnd (dOp opGt (dVar 3) (dFz (dOp opIx (dVar 2) (dInt 0)))) (dOp (opIn true) (dVar 3) (dVar 2)))) (dVar 3) [3])))
def c_free : Ct := run 4 2 [] g_free
/-- _law_bits_borders(_law_width, _law_sign, _law_mask_here, _law_value) -/
def g_bits_borders : DS := (dSeq (dIfS (dOr (dOp opEq (dVar 2) (dInt 0)) (dOp opNe (dOp opAnd (dVar 3) (dVar 2)) (dVar 3))) (dRet (dLst dNil)) dSkip)
  (dSeq (dPar3 5 6 7 (dCons (dInt 0) (dCons (dFz (dCall Pd.c_free (dCons (dVar 0) (dCons (dVar 2) dNil)))) (dCons (dFz (dLst dNil)) dNil))))
  (dSeq (dWhile (fun _ => 100000) (dOp opEq (dOp opAnd (dOp opShr (dVar 2) (dVar 5)) (dInt 1)) (dInt 0)) (dSet 5 (dFz (dOp opAdd (dVar 5) (dInt 1)))))
  (dSeq (dFor (iRg1 (dOp opShl (dInt 1) (dBi biLen (dCons (dVar 6) dNil)))) (gNam 4) (dSeq (dSet 8 (dFz (dOp opAdd (dVar 3) (dBi biSum (dCons (dFz (dComp (iEnm (dVar 6)) (gTp 2 (gsCons (gNam 10) (gsCons (gNam 11) gsNil))) (dOp opEq (dOp opAnd (dOp opShr (dVar 4) (dVar 10)) (dInt 1)) (dInt 1)) (dOp opShl (dInt 1) (dVar 11)) [10, 11])) dNil)))))
  (dSeq (dSet 9 (dOp opSub (dVar 8) (dOp opMulI (dOp opShl (dInt 1) (dVar 0)) (dBi biInt (dCons (dAnd (dOp opEq (dVar 1) (dInt 1)) (dOp opEq (dOp opShr (dVar 8) (dOp opSub (dVar 0) (dInt 1))) (dInt 1))) dNil)))))
  (dSet 7 (dFz (dOp opAdd (dVar 7) (dFz (dLst (dCons (dVar 9) (dCons (dFz (dOp opAdd (dVar 9) (dOp opShl (dInt 1) (dVar 5)))) dNil))))))))))
  (dRet (dVar 7))))))
def c_bits_borders : Ct := run 12 4 [] g_bits_borders

/-! ### bits -/
theorem band {x y : Int} (hx : 0 ≤ x) (hy : 0 ≤ y) : Builtin.bitAnd x y = ((x.toNat &&& y.toNat : Nat) : Int) := bitAnd_pp hx hy
theorem bit1 {m k : Int} (hm : 0 ≤ m) : Builtin.bitAnd (m / 2 ^ k.toNat) 1 = if m.toNat.testBit k.toNat = true then 1 else 0 := by
  obtain ⟨M, rfl⟩ := Int.eq_ofNat_of_zero_le hm
  rw [bitAnd_m1, Int.toNat_natCast, Nat.testBit_eq_decide_div_mod_eq]
  have e : ((M : Int) / 2 ^ k.toNat) = ((M / 2 ^ k.toNat : Nat) : Int) := by rw [Int.natCast_ediv, Int.natCast_pow]; rfl
  rw [e]
  simp only [decide_eq_true_eq]
  split <;> omega
theorem bit_flip {n p : Nat} : (n + 2 ^ p).testBit p = !n.testBit p := by rw [Nat.add_comm, Nat.testBit_two_pow_add_eq]
theorem bit_add {n p : Nat} (h : n.testBit p = false) (k : Nat) : (n + 2 ^ p).testBit k = (n.testBit k || decide (k = p)) := by
  rcases Nat.lt_trichotomy k p with z | z | z
  · rw [Nat.add_comm, Nat.testBit_two_pow_add_gt z, decide_eq_false (by omega), Bool.or_false]
  · subst z
    rw [bit_flip, h, decide_eq_true rfl]
    rfl
  · rw [decide_eq_false (by omega), Bool.or_false, Nat.testBit_eq_decide_div_mod_eq, Nat.testBit_eq_decide_div_mod_eq]
    rw [Nat.testBit_eq_decide_div_mod_eq] at h
    have h0 : n / 2 ^ p % 2 = 0 := by
      have := of_decide_eq_false h
      omega
    have e : 2 ^ k = 2 ^ (p + 1) * 2 ^ (k - (p + 1)) := by rw [← Nat.pow_add]; congr 1; omega
    have e2 : 2 ^ (p + 1) = 2 * 2 ^ p := by rw [Nat.pow_succ, Nat.mul_comm]
    have pp : 0 < 2 ^ p := Nat.two_pow_pos p
    rw [e, ← Nat.div_div_eq_div_mul, ← Nat.div_div_eq_div_mul, e2]
    have d1 := Nat.div_add_mod n (2 ^ p)
    have d2 := Nat.mod_lt n pp
    have e3 : (n + 2 ^ p) / (2 * 2 ^ p) = n / (2 * 2 ^ p) := by
      rw [Nat.mul_comm, ← Nat.div_div_eq_div_mul, ← Nat.div_div_eq_div_mul, Nat.add_div_right _ pp]
      omega
    rw [e3]
theorem bit_clear {m p : Nat} (k : Nat) : (m - (m &&& 2 ^ p)).testBit k = (m.testBit k && decide (k ≠ p)) := by
  by_cases h : m.testBit p = true
  · have e : m &&& 2 ^ p = 2 ^ p := by
      apply Nat.eq_of_testBit_eq
      intro i
      rw [Nat.testBit_and, Nat.testBit_two_pow]
      by_cases z : p = i
      · subst z; rw [h, decide_eq_true rfl]; rfl
      · rw [decide_eq_false z, Bool.and_false]
    have le : 2 ^ p ≤ m := Nat.ge_two_pow_of_testBit h
    rw [e]
    have f : (m - 2 ^ p).testBit p = false := by
      have := bit_flip (n := m - 2 ^ p) (p := p)
      rw [Nat.sub_add_cancel le, h] at this
      cases z : (m - 2 ^ p).testBit p with
      | false => rfl
      | true => rw [z] at this; cases this
    have g := bit_add f k
    rw [Nat.sub_add_cancel le] at g
    rw [g]
    by_cases z : k = p
    · subst z; rw [f]; simp
    · simp [z]
  · have e : m &&& 2 ^ p = 0 := by
      apply Nat.eq_of_testBit_eq
      intro i
      rw [Nat.testBit_and, Nat.testBit_two_pow, Nat.zero_testBit]
      by_cases z : p = i
      · subst z; rw [Bool.eq_false_iff.mpr h]; rfl
      · rw [decide_eq_false z, Bool.and_false]
    rw [e, Nat.sub_zero]
    by_cases z : k = p
    · subst z; rw [Bool.eq_false_iff.mpr h]; rfl
    · simp [z]
theorem pow_nat (k : Int) : (2 : Int) ^ k.toNat = ((2 ^ k.toNat : Nat) : Int) := by rw [Int.natCast_pow]; rfl
/-- few noughts above the lowest one -/
def MaskOk (w m : Nat) : Prop := ∃ (lo : Nat) (R : List Nat), R.length ≤ 4 ∧ (∀ k, k < w → lo ≤ k → k ∉ R → m.testBit k = true) ∧ ∀ k, k < lo → m.testBit k = false
def MaskN (c w m : Nat) : Prop := ∃ (lo : Nat) (R : List Nat), R.length ≤ c ∧ (∀ k, k < w → lo ≤ k → k ∉ R → m.testBit k = true) ∧ ∀ k, k < lo → m.testBit k = false
theorem MaskN.clear {c w m p : Nat} (h : MaskN c w m) : MaskN (c + 1) w (m - (m &&& 2 ^ p)) := by
  obtain ⟨lo, R, h1, h2, h3⟩ := h
  refine ⟨lo, p :: R, Nat.succ_le_succ h1, fun k a b c => ?_, fun k a => ?_⟩
  · rw [bit_clear, h2 k a b fun z => c (List.mem_cons_of_mem _ z)]
    have : k ≠ p := fun z => c (z ▸ List.mem_cons_self)
    simp [this]
  · rw [bit_clear, h3 k a]; rfl
theorem MaskN.top {w t : Nat} (h : t ≤ w) : MaskN 0 w ((2 ^ t - 1) * 2 ^ (w - t)) := by
  refine ⟨w - t, [], Nat.le_refl _, fun k a b _ => ?_, fun k a => ?_⟩
  · rw [Nat.testBit_mul_two_pow, Nat.testBit_two_pow_sub_one]
    simp only [Bool.and_eq_true, decide_eq_true_eq]
    omega
  · rw [Nat.testBit_mul_two_pow]
    simp only [Bool.and_eq_false_iff, decide_eq_false_iff_not]
    omega
theorem MaskN.four {w x : Nat} (h : 4 ≤ w) : MaskN 4 w (x * 2 ^ (w - 4)) := by
  refine ⟨w - 4, [w - 4, w - 3, w - 2, w - 1], Nat.le_refl _, fun k a b c => ?_, fun k a => ?_⟩
  · exfalso
    apply c
    simp only [List.mem_cons, List.not_mem_nil, or_false]
    omega
  · rw [Nat.testBit_mul_two_pow]
    simp only [Bool.and_eq_false_iff, decide_eq_false_iff_not]
    omega
theorem MaskN.mono {c d w m : Nat} (h : MaskN c w m) (l : c ≤ d) : MaskN d w m := by
  obtain ⟨lo, R, h1, h2⟩ := h
  exact ⟨lo, R, Nat.le_trans h1 l, h2⟩
/-! ### kinds, numbers, items -/
theorem W_kind {n : Nat} {t : List D} {Q : D → List D → Prop} (ht : IsT n t) (hn : n ≤ 1000000000) (q : ∀ w s t', 1 ≤ w → w ≤ 40 → (s = 0 ∨ s = 1) → IsT (n + 6) t' → Q (.tup [.int w, .int s]) [.own t']) : W2 (c_kind [.own t]) Q := by
  unfold c_kind g_kind
  simp!
  refine W_take ht (by omega) (by decide) (by decide) fun r1 t1 a1 b1 h1 => ?_
  simp!
  refine ⟨fun _ => ?_, fun _ => ?_⟩
  · refine W_take h1 (by omega) (by decide) (by decide) fun r2 t2 a2 b2 h2 => ?_
    simp!
    refine W_take h2 (by omega) (by decide) (by decide) fun r3 t3 a3 b3 h3 => ?_
    simp!
    exact q _ _ _ (by omega) (by omega) (by omega) h3
  · refine W_take h1 (by omega) (by decide) (by decide) fun r2 t2 a2 b2 h2 => ?_
    simp!
    refine W_take h2 (by omega) (by decide) (by decide) fun r3 t3 a3 b3 h3 => ?_
    simp!
    exact q _ _ _ (by omega) (by omega) (by omega) h3
theorem W_least {w s : Int} {Q : D → List D → Prop} (h : 1 ≤ w) (h2 : w ≤ 40) (hs : s = 0 ∨ s = 1) (q : Q (.int (lowN w s)) []) : W2 (c_least [.int w, .int s]) Q := by
  unfold c_least g_least
  simp!
  have e : lowN w s = 0 - 1 * 2 ^ (w - 1).toNat * s := by
    unfold lowN
    rcases hs with rfl | rfl
    · rw [if_neg (by decide)]; omega
    · rw [if_pos rfl]; omega
  rw [← e]
  refine ⟨⟨by omega, by omega, by decide⟩, .inr (by rcases hs with rfl | rfl <;> decide), q⟩
theorem W_numb {n : Nat} {t : List D} {w s o : Int} {Q : D → List D → Prop} (ht : IsT n t) (hn : n ≤ 1000000000) (h : 1 ≤ w) (h2 : w ≤ 40) (hs : s = 0 ∨ s = 1)
    (q : ∀ v t', lowN w s ≤ v → v < lowN w s + 2 ^ w.toNat → IsT (n + 6) t' → Q (.int v) [.own t']) : W2 (c_numb [.own t, .int w, .int s, .int o]) Q := by
  have S1 := pow2_pos w
  have S2 := pow2_le h2
  have e2 : 2 ≤ (2 : Int) ^ w.toNat := by have := pow2_s h; have := pow2_pos (w - 1); omega
  unfold c_numb g_numb
  simp!
  refine W_least h h2 hs ?_
  simp!
  rw [Int.one_mul]
  refine ⟨⟨by omega, by omega, by decide⟩, W_take ht (by omega) (by decide) (by decide) fun r1 t1 a1 b1 h1 => ?_⟩
  simp!
  generalize (2 : Int) ^ w.toNat = S at *
  refine W_take h1 (by omega) (by split <;> omega) (by split <;> omega) fun r2 t2 a2 b2 h2 => ?_
  have b3 : r2 < S := by revert b2; split <;> omega
  simp!
  refine ⟨fun _ => q _ _ (by omega) (by omega) (h2.mono (by omega)), fun _ => ⟨fun _ => q _ _ (by omega) (by omega) (h2.mono (by omega)), fun _ => ⟨fun _ => ⟨fun _ => ⟨fun _ => q _ _ (by omega) (by omega) (h2.mono (by omega)), fun _ => ?_⟩, fun _ => ?_⟩, fun _ => ?_⟩⟩⟩
  all_goals
    refine W_take h2 (by omega) (by omega) (by omega) fun r3 t3 a3 b3 h3 => ?_
    simp!
    exact q _ _ (by omega) (by omega) h3
/-- a mask of a width -/
structure IsMask (w m : Int) : Prop where
  ge : 0 ≤ m
  lt : m < 2 ^ w.toNat
  few : 9 ≤ w → MaskN 4 w.toNat m.toNat
theorem shl_nat {a : Int} {k : Nat} (ha : 0 ≤ a) : (a * 2 ^ k).toNat = a.toNat * 2 ^ k := by
  obtain ⟨A, rfl⟩ := Int.eq_ofNat_of_zero_le ha
  rw [Int.toNat_natCast]
  have e : (A : Int) * 2 ^ k = ((A * 2 ^ k : Nat) : Int) := by rw [Int.natCast_mul, Int.natCast_pow]; rfl
  rw [e, Int.toNat_natCast]
theorem W_mask {n : Nat} {t : List D} {w : Int} {Q : D → List D → Prop} (ht : IsT n t) (hn : n ≤ 1000000000) (h : 1 ≤ w) (h2 : w ≤ 40) (q : ∀ m t', IsMask w m → IsT (n + 12) t' → Q (.int m) [.own t']) : W2 (c_mask [.own t, .int w]) Q := by
  have S1 := pow2_pos w
  have S2 := pow2_le h2
  unfold c_mask g_mask
  simp!
  rw [Int.one_mul]
  refine ⟨fun hw => ⟨⟨by omega, by omega, by decide⟩, W_take ht (by omega) (by omega) (by omega) fun r t1 a1 b1 h1 => ?_⟩, fun hw => ?_⟩
  · simp!
    exact q _ _ ⟨a1, b1, fun z => absurd z (by omega)⟩ (h1.mono (by omega))
  · refine W_take ht (by omega) (by decide) (by decide) fun r1 t1 a1 b1 h1 => ?_
    simp!
    refine W_take h1 (by omega) (by decide) (by decide) fun r2 t2 a2 b2 h2 => ?_
    simp!
    have P5 := pow2_le (w := 5 + r2) (by omega)
    have P6 := pow2_pos (5 + r2)
    have E1 : (2 : Int) ^ (5 + r2).toNat * 2 ^ (w - (5 + r2)).toNat = 2 ^ w.toNat := by
      rw [← Int.pow_add]
      congr 1
      omega
    have P7 := pow2_pos (w - (5 + r2))
    have wn : w.toNat - (w.toNat - (5 + r2).toNat) = (5 + r2).toNat := by omega
    refine ⟨fun e => ?_, fun e => ⟨fun e2 => ?_, fun e2 => ?_⟩⟩
    · refine W_take h2 (by omega) (by decide) (by decide) fun r3 t3 a3 b3 h3 => ?_
      simp!
      have E2 : (16 : Int) * 2 ^ (w - 4).toNat = 2 ^ w.toNat := by
        have : (16 : Int) = 2 ^ 4 := by decide
        rw [this, ← Int.pow_add]
        congr 1
        omega
      have P8 := pow2_pos (w - 4)
      refine ⟨⟨by omega, by omega, by omega⟩, q _ _ ⟨Int.mul_nonneg a3 (by omega), ?_, fun _ => ?_⟩ (h3.mono (by omega))⟩
      · rw [← E2]
        exact Int.mul_lt_mul_of_pos_right b3 (by omega)
      · rw [shl_nat a3, show (w - 4).toNat = w.toNat - 4 by omega]
        exact MaskN.four (by omega)
    · have m0 : 0 ≤ (1 * (2 : Int) ^ (5 + r2).toNat - 1) * 2 ^ (w - (5 + r2)).toNat := Int.mul_nonneg (by omega) (by omega)
      have m1 : (1 * (2 : Int) ^ (5 + r2).toNat - 1) * 2 ^ (w - (5 + r2)).toNat < 2 ^ w.toNat := by
        rw [← E1]
        exact Int.mul_lt_mul_of_pos_right (by omega) (by omega)
      have mk : MaskN 0 w.toNat ((1 * (2 : Int) ^ (5 + r2).toNat - 1) * 2 ^ (w - (5 + r2)).toNat).toNat := by
        rw [shl_nat (by omega), show (w - (5 + r2)).toNat = w.toNat - (5 + r2).toNat by omega, Int.one_mul, pow_nat, show (((2 ^ (5 + r2).toNat : Nat) : Int) - 1).toNat = 2 ^ (5 + r2).toNat - 1 by omega]
        exact MaskN.top (by omega)
      refine ⟨⟨by omega, by omega, by decide⟩, ⟨by omega, by omega, by omega⟩, ?_⟩
      generalize (1 * (2 : Int) ^ (5 + r2).toNat - 1) * 2 ^ (w - (5 + r2)).toNat = m at m0 m1 mk ⊢
      refine W_take h2 (by omega) (by decide) (by decide) fun r3 t3 a3 b3 h3 => ?_
      simp!
      refine ⟨⟨by omega, by omega⟩, W_forR (fun k ρ => ∃ m t x, ρ = [some (.own t), some (.int w), some (.int m), x, some (.int r1), some (.int (5 + r2))] ∧ 0 ≤ m ∧ m < 2 ^ w.toNat ∧ MaskN k w.toNat m.toNat ∧ IsT (n + 6 + 2 * k) t) ⟨_, _, _, rfl, m0, m1, mk, h3⟩ (fun k ρ hk hi => ?_) (fun ρ hi => ?_)⟩
      · clear m0 m1 mk m
        obtain ⟨m, t, x, rfl, m0, m1, mk, ht⟩ := hi
        have hk2 : k < 3 := by omega
        simp!
        refine W_take ht (by omega) (by omega) (by omega) fun r t4 a4 b4 h4 => ?_
        have P9 := pow2_pos r
        simp!
        refine ⟨⟨by omega, by omega, by decide⟩, _, _, _, rfl, ?_, ?_, ?_, h4.mono (by omega)⟩
        all_goals rw [Int.one_mul, band m0 (by omega)]
        · have := Nat.and_le_left (n := m.toNat) (m := ((2 : Int) ^ r.toNat).toNat)
          omega
        · omega
        · rw [show (m - ((m.toNat &&& ((2 : Int) ^ r.toNat).toNat : Nat) : Int)).toNat = m.toNat - (m.toNat &&& ((2 : Int) ^ r.toNat).toNat) by omega, pow_nat, Int.toNat_natCast]
          exact mk.clear
      · clear m0 m1 mk m
        obtain ⟨m, t, x, rfl, m0, m1, mk, ht⟩ := hi
        simp!
        exact q _ _ ⟨m0, m1, fun _ => mk.mono (by omega)⟩ (ht.mono (by omega))
    · have m0 : 0 ≤ ((2 : Int) ^ w.toNat - 1) := by omega
      have m1 : ((2 : Int) ^ w.toNat - 1) < 2 ^ w.toNat := by omega
      have mk : MaskN 0 w.toNat ((2 : Int) ^ w.toNat - 1).toNat := by
        have := MaskN.top (w := w.toNat) (t := w.toNat) (Nat.le_refl _)
        rw [Nat.sub_self, Nat.pow_zero, Nat.mul_one] at this
        rw [pow_nat, show (((2 ^ w.toNat : Nat) : Int) - 1).toNat = 2 ^ w.toNat - 1 by omega]
        exact this
      refine ⟨⟨by omega, by omega, by decide⟩, ?_⟩
      generalize ((2 : Int) ^ w.toNat - 1) = m at m0 m1 mk ⊢
      refine W_take h2 (by omega) (by decide) (by decide) fun r3 t3 a3 b3 h3 => ?_
      simp!
      refine ⟨⟨by omega, by omega⟩, W_forR (fun k ρ => ∃ m t x, ρ = [some (.own t), some (.int w), some (.int m), x, some (.int r1), some (.int (5 + r2))] ∧ 0 ≤ m ∧ m < 2 ^ w.toNat ∧ MaskN k w.toNat m.toNat ∧ IsT (n + 6 + 2 * k) t) ⟨_, _, _, rfl, m0, m1, mk, h3⟩ (fun k ρ hk hi => ?_) (fun ρ hi => ?_)⟩
      · clear m0 m1 mk m
        obtain ⟨m, t, x, rfl, m0, m1, mk, ht⟩ := hi
        have hk2 : k < 3 := by omega
        simp!
        refine W_take ht (by omega) (by omega) (by omega) fun r t4 a4 b4 h4 => ?_
        have P9 := pow2_pos r
        simp!
        refine ⟨⟨by omega, by omega, by decide⟩, _, _, _, rfl, ?_, ?_, ?_, h4.mono (by omega)⟩
        all_goals rw [Int.one_mul, band m0 (by omega)]
        · have := Nat.and_le_left (n := m.toNat) (m := ((2 : Int) ^ r.toNat).toNat)
          omega
        · omega
        · rw [show (m - ((m.toNat &&& ((2 : Int) ^ r.toNat).toNat : Nat) : Int)).toNat = m.toNat - (m.toNat &&& ((2 : Int) ^ r.toNat).toNat) by omega, pow_nat, Int.toNat_natCast]
          exact mk.clear
      · clear m0 m1 mk m
        obtain ⟨m, t, x, rfl, m0, m1, mk, ht⟩ := hi
        simp!
        exact q _ _ ⟨m0, m1, fun _ => mk.mono (by omega)⟩ (ht.mono (by omega))
/-- an item of a kind -/
inductive Item (w s : Int) : D → Prop
  | is {v : Int} : lowN w s ≤ v → v < lowN w s + 2 ^ w.toNat → Item w s (.tup [.str "is", .int v])
  | fr {a b : Int} : lowN w s ≤ a → a ≤ b → b < lowN w s + 2 ^ w.toNat → Item w s (.tup [.str "from", .int a, .int b])
  | bits {m v : Int} : IsMask w m → 0 ≤ v → v < 2 ^ w.toNat → Item w s (.tup [.str "bits", .int m, .int v])
theorem W_item {n : Nat} {t : List D} {w s o : Int} {Q : D → List D → Prop} (ht : IsT n t) (hn : n ≤ 100000000) (h : 1 ≤ w) (h2 : w ≤ 40) (hs : s = 0 ∨ s = 1)
    (q : ∀ d t', Item w s d → IsT (n + 30) t' → Q d [.own t']) : W2 (c_item [.own t, .int w, .int s, .int o]) Q := by
  have S1 := pow2_pos w
  have S2 := pow2_le h2
  unfold c_item g_item
  simp!
  refine W_take ht (by omega) (by decide) (by decide) fun r1 t1 a1 b1 h1 => ?_
  simp!
  refine W_numb h1 (by omega) h h2 hs fun v t2 v1 v2 h2' => ?_
  simp!
  refine ⟨fun _ => q _ _ (.is v1 v2) (h2'.mono (by omega)), fun _ => ?_⟩
  refine W_numb h2' (by omega) h h2 hs fun u t3 u1 u2 h3 => ?_
  simp!
  refine ⟨fun _ => q _ _ (.fr ?_ ?_ ?_) (h3.mono (by omega)), fun _ => ?_⟩
  · split <;> omega
  · split <;> split <;> omega
  · split <;> omega
  · refine W_mask h3 (by omega) h h2 fun m t4 hm h4 => ?_
    simp!
    rw [Int.one_mul]
    refine ⟨⟨by omega, by omega, by decide⟩, W_take h4 (by omega) (by omega) (by omega) fun x t5 x1 x2 h5 => ?_⟩
    simp!
    refine W_take h5 (by omega) (by decide) (by decide) fun y t7 y1 y2 h6 => ?_
    simp!
    refine ⟨fun _ => q _ _ (.bits hm ?_ ?_) (h6.mono (by omega)), fun _ => q _ _ (.bits hm x1 x2) (h6.mono (by omega))⟩
    · rw [band x1 hm.ge]; omega
    · rw [band x1 hm.ge]
      have := Nat.and_le_left (n := x.toNat) (m := m.toNat)
      omega
theorem strs3 : ((("is" : Str) == ("from" : Str)) = false ∧ (("is" : Str) == ("bits" : Str)) = false ∧ (("from" : Str) == ("is" : Str)) = false) ∧ (("from" : Str) == ("bits" : Str)) = false ∧ (("bits" : Str) == ("is" : Str)) = false ∧ (("bits" : Str) == ("from" : Str)) = false := by decide
theorem s_if : (("is" : Str) == ("from" : Str)) = false := strs3.1.1
theorem s_ib : (("is" : Str) == ("bits" : Str)) = false := strs3.1.2.1
theorem s_fi : (("from" : Str) == ("is" : Str)) = false := strs3.1.2.2
theorem s_fb : (("from" : Str) == ("bits" : Str)) = false := strs3.2.1
theorem s_bi : (("bits" : Str) == ("is" : Str)) = false := strs3.2.2.1
theorem s_bf : (("bits" : Str) == ("from" : Str)) = false := strs3.2.2.2
/-- whether an item picks a number -/
def pk (w : Int) (d : D) (x : Int) : Bool := match d with
  | .tup [.str _, .int a] => decide (x = a)
  | .tup [.str k, .int a, .int b] => if k == "from" then decide (a ≤ x ∧ x ≤ b) else decide (Builtin.bitAnd (x % 2 ^ w.toNat) a = b)
  | _ => false
theorem pk_is {w x a : Int} {k : Str} : pk w (.tup [.str k, .int a]) x = decide (x = a) := rfl
theorem pk_fr {w x a b : Int} : pk w (.tup [.str "from", .int a, .int b]) x = decide (a ≤ x ∧ x ≤ b) := rfl
theorem pk_bits {w x a b : Int} : pk w (.tup [.str "bits", .int a, .int b]) x = decide (Builtin.bitAnd (x % 2 ^ w.toNat) a = b) := rfl
theorem W_picks {w s x : Int} {d : D} {Q : D → List D → Prop} (h : 1 ≤ w) (h2 : w ≤ 40) (hd : Item w s d) (q : Q (.bl (pk w d x)) []) : W2 (c_picks [.int w, d, .int x]) Q := by
  unfold c_picks g_picks
  cases hd with
  | is a b =>
    rw [pk_is] at q
    simp!
    exact q
  | fr a b c =>
    rw [pk_fr] at q
    simp! [s_fi]
    refine ⟨fun e => ?_, fun e => ?_⟩
    · simp only [e, true_and] at q
      exact q
    · simp only [e, false_and, decide_false] at q
      exact q
  | bits a b c =>
    rw [pk_bits] at q
    simp! [s_bi, s_bf]
    refine W_pattern_of (by omega) h2 ?_
    simp!
    exact q
/-! ### numbers picked out of numbers -/
def rngI (lo : Int) (n : Nat) : List Int := (List.range n).map fun i : Nat => lo + (i : Int)
theorem rng_eq (lo : Int) (n : Nat) : rng lo n = (rngI lo n).map D.int := by
  unfold rng rngI
  rw [List.map_map]
  rfl
theorem rngD_eq (a b : Int) : rngD a b = (rngI a (b - a).toNat).map D.int := by
  unfold rngD rngI
  rw [List.map_map]
  rfl
theorem mem_rngI {lo k : Int} {n : Nat} : k ∈ rngI lo n ↔ lo ≤ k ∧ k < lo + n := by
  unfold rngI
  rw [List.mem_map]
  constructor
  · rintro ⟨i, hi, rfl⟩
    rw [List.mem_range] at hi
    omega
  · intro h
    exact ⟨(k - lo).toNat, by rw [List.mem_range]; omega, by omega⟩
theorem rngI_len {lo : Int} {n : Nat} : (rngI lo n).length = n := by unfold rngI; rw [List.length_map, List.length_range]
theorem rngI_sorted (lo : Int) (n : Nat) : (rngI lo n).Pairwise (· < ·) := by
  unfold rngI
  rw [List.pairwise_map]
  exact List.pairwise_lt_range.imp fun h => by omega
theorem W_filterI {gg : DG} {c e : DE} {vs : List Nat} {ρ : Ev} {Q : List D → Ev → Prop} {is : List Int} (p : Int → Bool)
    (h : ∀ i, i ∈ is → W (gg (.int i) ρ) fun ρ1 => W2 (c ρ1) fun b ρ2 => b = .bl (p i) ∧ (p i = true → W2 (e ρ2) fun y ρ3 => y = .int i ∧ wipeE vs ρ3 = ρ) ∧ (p i = false → wipeE vs ρ2 = ρ)) (q : Q ((is.filter p).map D.int) ρ) : W2 (compL gg c e vs (is.map D.int) ρ) Q := by
  refine W_compL (fun pre acc ρ' => (∃ ip, pre = ip.map D.int ∧ acc = (ip.filter p).map D.int) ∧ ρ' = ρ) ⟨⟨[], rfl, rfl⟩, rfl⟩ (fun pre d post acc ρ' e1 hi => ?_) fun acc ρ' hi => ?_
  · obtain ⟨⟨ip, rfl, rfl⟩, rfl⟩ := hi
    obtain ⟨i, hi, rfl⟩ := List.mem_map.mp (show d ∈ is.map D.int by rw [e1]; exact List.mem_append.mpr (.inr List.mem_cons_self))
    refine W_mono (h i hi) fun ρ1 h1 => W2_mono h1 fun b ρ2 hp => ?_
    obtain ⟨rfl, h2, h3⟩ := hp
    rw [WB_bl]
    refine ⟨fun z => W2_mono (h2 z) fun y ρ3 hq => ⟨⟨ip ++ [i], by rw [List.map_append]; rfl, ?_⟩, hq.2⟩, fun z => ⟨⟨ip ++ [i], by rw [List.map_append]; rfl, ?_⟩, h3 z⟩⟩
    · rw [List.filter_append, List.map_append, hq.1, List.filter_cons, if_pos z]; rfl
    · rw [List.filter_append, List.map_append, List.filter_cons, if_neg (by rw [z]; decide)]; simp
  · obtain ⟨⟨ip, h1, rfl⟩, rfl⟩ := hi
    have : ip = is := (List.map_inj_right (f := D.int) fun a b h => by cases h; rfl).mp h1.symm
    rw [this]
    exact q
theorem W_mapII {gg : DG} {c e : DE} {vs : List Nat} {ρ : Ev} {Q : List D → Ev → Prop} {is : List Int} (f : Int → Int)
    (h : ∀ i, i ∈ is → W (gg (.int i) ρ) fun ρ1 => W2 (c ρ1) fun b ρ2 => WB b (W2 (e ρ2) fun y ρ3 => y = .int (f i) ∧ wipeE vs ρ3 = ρ) False) (q : Q ((is.map f).map D.int) ρ) : W2 (compL gg c e vs (is.map D.int) ρ) Q := by
  refine W_map (fun d => match d with | .int i => .int (f i) | d => d) (fun d hd => ?_) ?_
  · obtain ⟨i, hi, rfl⟩ := List.mem_map.mp hd
    exact h i hi
  · rw [List.map_map] at q ⊢
    exact q
theorem enumD_mem : ∀ {ds : List D} {n : Nat} {d : D}, d ∈ enumD n ds → ∃ (k : Nat) (x : D), d = .tup [.int (k : Int), x] ∧ x ∈ ds
  | [], _, _, h => (nomatch h)
  | a :: ds, n, d, h => by
    rw [enumD] at h
    rcases List.mem_cons.mp h with h | h
    · exact ⟨n, a, h, List.mem_cons_self⟩
    · obtain ⟨k, x, h1, h2⟩ := enumD_mem h
      exact ⟨k, x, h1, List.mem_cons_of_mem _ h2⟩
theorem nodup_le {α : Type} [DecidableEq α] : ∀ {l R : List α}, l.Nodup → (∀ x ∈ l, x ∈ R) → l.length ≤ R.length
  | [], _, _, _ => Nat.zero_le _
  | a :: l, R, h, s => by
    obtain ⟨h1, h2⟩ := List.nodup_cons.mp h
    have ha := s a List.mem_cons_self
    have ih := nodup_le (R := R.erase a) h2 fun x hx => (List.mem_erase_of_ne (fun e : x = a => h1 (by rw [← e]; exact hx))).mpr (s x (List.mem_cons_of_mem _ hx))
    rw [List.length_erase_of_mem ha] at ih
    have := List.length_pos_of_mem ha
    rw [List.length_cons]
    omega
theorem shp_ints (ns : List Int) : shp (.lst (ns.map D.int)) = true := by
  have h : ∀ ns : List Int, noTyL (ns.map D.int) = true ∧ PyData.canLayAll0 (toPL (ns.map D.int)) = true ∧ PyData.depthAll (toPL (ns.map D.int)) = 0 := by
    intro ns
    induction ns with
    | nil => exact ⟨rfl, rfl, rfl⟩
    | cons n ns ih =>
      obtain ⟨a, b, c⟩ := ih
      refine ⟨by rw [List.map_cons, noTyL, a]; rfl, by rw [List.map_cons, toPL, PyData.canLayAll0, b]; rfl, by rw [List.map_cons, toPL, PyData.depthAll, c]; rfl⟩
  obtain ⟨a, b, c⟩ := h ns
  unfold shp SeqAt.shaped
  rw [noTy, a, toP, PyData.canLay0, b, PyData.depth, c]
  rfl
theorem any_deq (k : Int) : ∀ ns : List Int, (List.any (ns.map D.int) fun z => deq z (.int k)) = decide (k ∈ ns)
  | [] => rfl
  | n :: ns => by
    rw [List.map_cons, List.any_cons, any_deq k ns]
    have : deq (.int n) (.int k) = decide (k = n) := by
      unfold deq
      simp only [toP, PyData.eqv]
      rw [Bool.beq_eq_decide_eq, Bool.eq_iff_iff]
      simp only [decide_eq_true_eq]
      exact ⟨fun h => h.symm, fun h => h.symm⟩
    rw [this, Bool.eq_iff_iff]
    simp only [Bool.or_eq_true, decide_eq_true_eq, List.mem_cons]
theorem W_inI {neg : Bool} {k : Int} {ns : List Int} {Q : D → Prop} (q : Q (.bl (if neg then !decide (k ∈ ns) else decide (k ∈ ns)))) : W (opIn neg (.int k) (.lst (ns.map D.int))) Q := by
  refine ⟨_, ?_, q⟩
  show (if _ then some _ else none) = _
  rw [if_pos (show (shp (.int k) && shp (.lst (ns.map D.int))) = true by rw [shp_ints]; rfl), any_deq]
theorem W_neNil {ns : List Int} {Q : D → Prop} (q : Q (.bl (!decide (ns = [])))) : W (opNe (.lst (ns.map D.int)) (.lst [])) Q := by
  refine ⟨_, ?_, q⟩
  unfold opNe
  rw [shp_ints, if_pos (by rfl)]
  cases ns <;> rfl
theorem W_free {w m : Int} {Q : D → List D → Prop} (h : 9 ≤ w) (h2 : w ≤ 40) (hm : IsMask w m) (q : ∀ fs : List Int, fs.length ≤ 4 → (∀ k ∈ fs, 0 ≤ k ∧ k < w) → Q (.own (fs.map D.int)) []) : W2 (c_free [.int w, .int m]) Q := by
  unfold c_free g_free
  simp!
  have hw : (w.toNat : Int) = w := by omega
  refine ⟨⟨by omega, by omega⟩, ?_⟩
  rw [rng_eq]
  refine W_filterI (fun k => m.toNat.testBit k.toNat) (fun i hi => ?_) ?_
  · rw [mem_rngI] at hi
    simp!
    rw [bit1 hm.ge]
    refine ⟨hi.1, ?_, fun _ => rfl, fun _ => rfl⟩
    split <;> rename_i z <;> simp [z]
  · simp!
    refine ⟨by rw [List.length_map]; exact Nat.le_trans (List.length_filter_le _ _) (by rw [rngI_len]; omega), ⟨by omega, by omega⟩, ?_⟩
    generalize ep : (rngI 0 w.toNat).filter (fun k => m.toNat.testBit k.toNat) = ps
    have hp : ∀ k, k ∈ ps ↔ ((0 ≤ k ∧ k < w) ∧ m.toNat.testBit k.toNat = true) := by
      intro k
      rw [← ep, List.mem_filter, mem_rngI, hw, Int.zero_add]
    clear ep
    rw [rng_eq]
    cases ps with
    | nil =>
      refine W_filterI (fun k => false) (fun i hi => ?_) ?_
      · simp!
        refine W_neNil (ns := []) ?_
        simp!
        exact rfl
      · rw [List.filter_eq_nil_iff.mpr fun _ _ => Bool.false_ne_true]
        simp!
        exact ⟨by decide, q [] (by decide) (fun k hk => (nomatch hk))⟩
    | cons p0 ps =>
      refine W_filterI (fun k => decide (p0 < k) && !decide (k ∈ p0 :: ps)) (fun i hi => ?_) ?_
      · simp!
        refine W_neNil (ns := p0 :: ps) ?_
        have : decide (p0 :: ps = []) = false := decide_eq_false (by simp)
        rw [this]
        simp!
        show W (atI (D.int p0 :: ps.map D.int) 0) _
        rw [W_at0]
        simp!
        refine ⟨fun z => W_inI (ns := p0 :: ps) ?_, fun z => ⟨by rw [decide_eq_false z]; rfl, fun _ => rfl, fun _ => rfl⟩⟩
        rw [decide_eq_true z, if_pos rfl, Bool.true_and]
        exact ⟨rfl, fun _ => rfl, fun _ => rfl⟩
      · simp!
        generalize ef : (rngI 0 w.toNat).filter (fun k => decide (p0 < k) && !decide (k ∈ p0 :: ps)) = fs
        have hf : ∀ k, k ∈ fs → (0 ≤ k ∧ k < w) ∧ p0 < k ∧ k ∉ p0 :: ps := by
          intro k hk
          rw [← ef, List.mem_filter, mem_rngI, hw, Int.zero_add, Bool.and_eq_true, decide_eq_true_eq] at hk
          refine ⟨hk.1, hk.2.1, fun z => ?_⟩
          have := hk.2.2
          rw [decide_eq_true z] at this
          cases this
        have hn : fs.Nodup := by
          rw [← ef]
          exact ((rngI_sorted _ _).imp fun h => by omega : (rngI 0 w.toNat).Nodup).filter _
        obtain ⟨lo, R, z1, z2, z3⟩ := hm.few h
        have hp0 := (hp p0).mp List.mem_cons_self
        have hlo : lo ≤ p0.toNat := by
          rcases Nat.lt_or_ge p0.toNat lo with z | z
          · rw [z3 _ z] at hp0; exact absurd hp0.2 (by decide)
          · exact z
        have sub : ∀ x ∈ fs.map Int.toNat, x ∈ R := by
          intro x hx
          obtain ⟨k, hk, rfl⟩ := List.mem_map.mp hx
          obtain ⟨⟨k1, k2⟩, k3, k4⟩ := hf k hk
          refine Classical.byContradiction fun hc => k4 ((hp k).mpr ⟨⟨k1, k2⟩, z2 _ (by omega) (by omega) hc⟩)
        have nd : (fs.map Int.toNat).Nodup := by
          unfold List.Nodup
          rw [List.pairwise_map]
          refine hn.imp_of_mem fun {a b} ha hb hab e => hab ?_
          have := (hf a ha).1
          have := (hf b hb).1
          omega
        have le := nodup_le nd sub
        rw [List.length_map] at le
        refine ⟨by rw [List.length_map]; omega, q fs (by omega) fun k hk => (hf k hk).1⟩
theorem bit0_all {m w : Nat} (h : m < 2 ^ w) (z : ∀ k, k < w → m.testBit k = false) : m = 0 := by
  apply Nat.eq_of_testBit_eq
  intro i
  rw [Nat.zero_testBit]
  rcases Nat.lt_or_ge i w with a | a
  · exact z i a
  · exact Nat.testBit_lt_two_pow (Nat.lt_of_lt_of_le h (Nat.pow_le_pow_right (by decide) a))
theorem frzL_ints {bs : List Int} {ds : List D} {K : List D → Prop} (h : ds = bs.map D.int) (q : K (bs.map D.int)) : FrzL? ds K := by rw [h, FrzL_mapI]; exact q
theorem frzL_two {bs : List Int} {a b : Int} {K : List D → Prop} (q : K ((bs ++ [a, b]).map D.int)) : FrzL? (bs.map D.int ++ [.int a, .int b]) K := frzL_ints (by rw [List.map_append]; rfl) q
theorem W_bits_borders {w s m v : Int} {Q : D → List D → Prop} (h : 9 ≤ w) (h2 : w ≤ 40) (hm : IsMask w m) (hv : 0 ≤ v) (q : ∀ bs : List Int, bs.length ≤ 32 → Q (.lst (bs.map D.int)) []) (q0 : Q (.own []) []) : W2 (c_bits_borders [.int w, .int s, .int m, .int v]) Q := by
  unfold c_bits_borders g_bits_borders
  simp!
  have mlt := hm.lt
  have mge := hm.ge
  refine ⟨fun _ => q0, fun hm0 => ⟨fun _ => ?_, fun _ => q0⟩⟩
  refine W_free h h2 hm fun fs f1 f2 => ?_
  simp!
  refine W_whileI (fun ρ => ∃ lo : Int, ρ = [some (.int w), some (.int s), some (.int m), some (.int v), none, some (.int lo), some (.lst (fs.map D.int)), some (.lst []), none, none, none, none] ∧ 0 ≤ lo ∧ lo ≤ w ∧ ∀ k, k < lo.toNat → m.toNat.testBit k = false) (fun ρ => match ρ with | [_, _, _, _, _, some (.int lo), _, _, _, _, _, _] => (w - lo).toNat | _ => 0) ⟨0, rfl, by omega, by omega, fun k hk => absurd hk (Nat.not_lt_zero k)⟩ ?_ (fun ρ hi => ?_)
  · show (w - 0).toNat < 100000
    omega
  · obtain ⟨lo, rfl, l0, l1, l2⟩ := hi
    simp!
    rw [bit1 mge]
    have ltw : lo < w := by
      rcases Int.lt_or_le lo w with z | z
      · exact z
      · have hz : lo = w := by omega
        subst hz
        have := bit0_all (m := m.toNat) (w := lo.toNat) (by rw [pow_nat] at mlt; omega) l2
        omega
    rw [List.length_map]
    have e16 : (2 : Int) ^ ((fs.length : Int)).toNat ≤ 16 := by
      have : 2 ^ fs.length ≤ 2 ^ 4 := Nat.pow_le_pow_right (by decide) f1
      rw [pow_nat, Int.toNat_natCast]
      have e : (2 : Nat) ^ 4 = 16 := by decide
      rw [e] at this
      omega
    have e0 := pow2_pos (fs.length : Int)
    rw [Int.one_mul]
    generalize (2 : Int) ^ ((fs.length : Int)).toNat = N at e16 e0 ⊢
    refine ⟨l0, fun z => ⟨⟨_, rfl, by omega, by omega, fun k hk => ?_⟩, by omega⟩, fun z => ⟨⟨by omega, by omega, by decide⟩, ⟨by omega, by omega⟩, ?_⟩⟩
    · by_cases hk2 : k < lo.toNat
      · exact l2 k hk2
      · have hk3 : k = lo.toNat := by omega
        subst hk3
        revert z
        cases m.toNat.testBit lo.toNat
        · exact fun _ => rfl
        · exact fun z => absurd z (by decide)
    · clear z
      refine W_forR (fun k ρ => ∃ bs : List Int, ∃ x4 x8 x9, ρ = [some (.int w), some (.int s), some (.int m), some (.int v), x4, some (.int lo), some (.lst (fs.map D.int)), some (.lst (bs.map D.int)), x8, x9, none, none] ∧ bs.length ≤ 2 * k) ⟨[], _, _, _, rfl, by decide⟩ (fun k ρ hk hi => ?_) (fun ρ hi => ?_)
      · obtain ⟨bs, x4, x8, x9, rfl, hb⟩ := hi
        simp!
        refine W_compL (fun pre acc ρ => (∃ is : List Int, acc = is.map D.int ∧ is.length = acc.length ∧ acc.length ≤ pre.length) ∧ ρ = [some (.int w), some (.int s), some (.int m), some (.int v), some (.int (0 + (k : Int))), some (.int lo), some (.lst (fs.map D.int)), some (.lst (bs.map D.int)), x8, x9, none, none]) ⟨⟨[], rfl, rfl, by decide⟩, rfl⟩ (fun pre d post acc ρ e hi => ?_) (fun acc ρ hi => ?_)
        · obtain ⟨⟨is, rfl, _, hl⟩, rfl⟩ := hi
          obtain ⟨j, x, rfl, hx⟩ := enumD_mem (show d ∈ enumD 0 (fs.map D.int) by rw [e]; exact List.mem_append.mpr (.inr List.mem_cons_self))
          obtain ⟨p, hp, rfl⟩ := List.mem_map.mp hx
          obtain ⟨p1, p2⟩ := f2 p hp
          simp!
          rw [bit1 (by omega)]
          refine ⟨show (0 : Int) ≤ j by omega, fun _ => ⟨⟨p1, by omega, by decide⟩, ⟨is ++ [1 * 2 ^ p.toNat], by rw [List.map_append]; rfl, by simp, by simp at hl ⊢; omega⟩, rfl⟩, fun _ => ⟨⟨is, rfl, by simp, by simp at hl ⊢; omega⟩, rfl⟩⟩
        · obtain ⟨⟨is, rfl, _, hl⟩, rfl⟩ := hi
          simp!
          rw [enumD_len] at hl
          simp only [List.length_map] at hl ⊢
          have ci : ∀ (c : Prop) [Decidable c], CMul (1 * 2 ^ w.toNat) (if c then 1 else 0) := fun c _ => .inr (by split <;> exact ⟨by decide, by decide⟩)
          refine ⟨by omega, ⟨by omega, by omega, by decide⟩, fun _ => ⟨show (0 : Int) ≤ w - 1 by omega, ci _, ⟨l0, by omega, by decide⟩, by omega, frzL_two ?_⟩, fun _ => ⟨ci _, ⟨l0, by omega, by decide⟩, by omega, frzL_two ?_⟩⟩
          · exact ⟨_, _, _, _, rfl, by rw [List.length_append]; simp only [List.length_cons, List.length_nil]; omega⟩
          · exact ⟨_, _, _, _, rfl, by rw [List.length_append]; simp only [List.length_cons, List.length_nil]; omega⟩
      · obtain ⟨bs, x4, x8, x9, rfl, hb⟩ := hi
        simp!
        exact q bs (by omega)
end Pd

namespace Pd
open PySem PySem.Spec PyProof.Rows L2
/-- picked(choice, number) -/
def g_picked : DS := (dSeq (dAsg (gTp 3 (gsCons (gNam 2) (gsCons (gNam 3) (gsCons (gNam 4) gsNil)))) (dVar 0))
  (dSeq (dFor (iEnm (dVar 4)) (gTp 2 (gsCons (gNam 5) (gsCons (gNam 6) gsNil))) (dIfS (dBi biAny (dCons (dFz (dComp (iLst (dVar 6)) (gNam 7) dYes (dFz (dCall Pd.c_picks (dCons (dVar 2) (dCons (dVar 7) (dCons (dVar 1) dNil))))) [7])) dNil)) (dRet (dVar 5)) dSkip))
  (dRet (dBi biLen (dCons (dVar 4) dNil)))))
def c_picked : Ct := run 8 2 [] g_picked
/-- _law_picks(_law_width, _law_item_here, _law_number_here) -/
def g_lpicks : DS := (dSeq (dIfS (dOp opEq (dFz (dOp opIx (dVar 1) (dInt 0))) (dStr "is")) (dRet (dOp opEq (dVar 2) (dFz (dOp opIx (dVar 1) (dInt 1))))) dSkip)
  (dSeq (dIfS (dOp opEq (dFz (dOp opIx (dVar 1) (dInt 0))) (dStr "from")) (dRet (dChain opLe opLe (dFz (dOp opIx (dVar 1) (dInt 1))) (dVar 2) (dFz (dOp opIx (dVar 1) (dInt 2))))) dSkip)
  (dRet (dOp opEq (dOp opAnd (dOp opMod (dVar 2) (dOp opShl (dInt 1) (dVar 0))) (dFz (dOp opIx (dVar 1) (dInt 1)))) (dFz (dOp opIx (dVar 1) (dInt 2)))))))
def c_lpicks : Ct := run 3 3 [] g_lpicks
/-- _law_label(_law_choice, _law_number_here) -/
def g_label : DS := (dSeq (dAsg (gTp 3 (gsCons (gNam 2) (gsCons (gNam 3) (gsCons (gNam 4) gsNil)))) (dVar 0))
  (dSeq (dFor (iEnm (dVar 4)) (gTp 2 (gsCons (gNam 5) (gsCons (gNam 6) gsNil))) (dIfS (dBi biAny (dCons (dFz (dComp (iLst (dVar 6)) (gNam 7) dYes (dFz (dCall Pd.c_lpicks (dCons (dVar 2) (dCons (dVar 7) (dCons (dVar 1) dNil))))) [7])) dNil)) (dRet (dVar 5)) dSkip))
  (dRet (dBi biLen (dCons (dVar 4) dNil)))))
def c_label : Ct := run 8 2 [] g_label
/-- _law_wild_choice(_law_tape_here) -/
def g_wild_choice : DS := (dSeq (dAsg (gTp 2 (gsCons (gNam 3) (gsCons (gNam 4) gsNil))) (dFz (dCall1 Pd.c_kind (rRef 0 rNil))))
  (dSeq (dSet 1 (dOp opEq (dFz (dCall1 (Pd.c_take 2) (rRef 0 (rVal (dInt 8) rNil)))) (dInt 0)))
  (dSeq (dPar3 5 6 7 (dCons (dLst dNil) (dCons (dFz (dCall Pd.c_least (dCons (dVar 3) (dCons (dVar 4) dNil)))) (dCons (dInt 0) dNil))))
  (dSeq (dFor (iRg1 (dFz (dCall1 (Pd.c_take 2) (rRef 0 (rVal (dIf (dVar 1) (dInt 13) (dInt 6)) rNil))))) (gNam 2) (dSeq (dSet 8 (dLst dNil))
  (dSeq (dFor (iRg1 (dFz (dCall1 (Pd.c_take 2) (rRef 0 (rVal (dIf (dVar 1) (dInt 7) (dInt 5)) rNil))))) (gNam 9) (dSeq (dSet 10 (dFz (dCall1 Pd.c_item (rRef 0 (rVal (dVar 3) (rVal (dVar 4) (rVal (dVar 6) rNil)))))))
  (dSeq (dSet 7 (dFz (dOp opAdd (dVar 7) (dBi biInt (dCons (dOp opEq (dFz (dOp opIx (dVar 10) (dInt 0))) (dStr "bits")) dNil)))))
  (dSeq (dApp 8 (dIf (dOr (dOp opLt (dVar 3) (dInt 9)) (dOr (dOp opLt (dVar 7) (dInt 11)) (dOp opNe (dFz (dOp opIx (dVar 10) (dInt 0))) (dStr "bits")))) (dVar 10) (dTup (dCons (dStr "is") (dCons (dVar 6) dNil)))))
  (dSet 6 (dIf (dOp opNe (dFz (dOp opIx (dIxO 8 (dUn unNeg (dInt 1))) (dInt 0))) (dStr "bits")) (dFz (dOp opIx (dIxO 8 (dUn unNeg (dInt 1))) (dInt 1))) (dVar 6)))))))
  (dApp 5 (dFrz 8)))))
  (dRet (dTup (dCons (dVar 3) (dCons (dVar 4) (dCons (dFrz 5) dNil)))))))))
def c_wild_choice : Ct := run 11 1 [0] g_wild_choice
/-- _law_borders(_law_choice) -/
def g_borders : DS := (dSeq (dAsg (gTp 3 (gsCons (gNam 3) (gsCons (gNam 4) (gsCons (gNam 5) gsNil)))) (dVar 0))
  (dSeq (dAsg (gTp 2 (gsCons (gNam 6) (gsCons (gNam 7) gsNil))) (dTup (dCons (dFz (dCall Pd.c_least (dCons (dVar 3) (dCons (dVar 4) dNil)))) (dCons (dOp opShl (dInt 1) (dVar 3)) dNil))))
  (dSeq (dIfS (dOp opLt (dVar 3) (dInt 9)) (dRet (dListRg2 (dVar 6) (dFz (dOp opAdd (dVar 6) (dVar 7))))) dSkip)
  (dSeq (dSet 1 (dFz (dLst (dCons (dVar 6) dNil))))
  (dSeq (dFor (iLst (dVar 5)) (gNam 2) (dFor (iLst (dVar 2)) (gNam 8) (dIfS (dOp opEq (dFz (dOp opIx (dVar 8) (dInt 0))) (dStr "bits")) (dSet 1 (dFz (dOp opAdd (dVar 1) (dFz (dCall Pd.c_bits_borders (dCons (dVar 3) (dCons (dVar 4) (dCons (dFz (dOp opIx (dVar 8) (dInt 1))) (dCons (dFz (dOp opIx (dVar 8) (dInt 2))) dNil))))))))) (dSet 1 (dFz (dOp opAdd (dVar 1) (dFz (dLst (dCons (dFz (dOp opIx (dVar 8) (dInt 1))) (dCons (dFz (dOp opAdd (dFz (dOp opIx (dVar 8) (dUn unNeg (dInt 1)))) (dInt 1))) dNil))))))))))
  (dRet (dSortedSet (dFz (dComp (iLst (dVar 1)) (gNam 9) (dOp opLt (dVar 9) (dFz (dOp opAdd (dVar 6) (dVar 7)))) (dVar 9) [9])))))))))
def c_borders : Ct := run 10 1 [] g_borders

/-! ### whole choices -/
theorem atI_last {α : Type} {xs : List α} {x : α} : atI (xs ++ [x]) (-1) = some x := by
  unfold atI ixN
  have e : (xs ++ [x]).length = xs.length + 1 := by simp
  rw [e]
  rw [if_neg (by decide), if_pos (by omega)]
  have e2 : (-1 + ((xs.length + 1 : Nat) : Int)).toNat = xs.length := by omega
  rw [e2]
  show (xs ++ [x])[xs.length]? = some x
  rw [List.getElem?_append_right (Nat.le_refl _), Nat.sub_self]
  rfl
theorem W_last {α : Type} {xs : List α} {x : α} {Q : α → Prop} : W (atI (xs ++ [x]) (-1)) Q = Q x := by rw [atI_last, W_some]
theorem W_atm {x y : D} {Q : D → Prop} : W (atI [x, y] (-1)) Q = Q y := by rw [show atI [x, y] (-1) = some y from rfl, W_some]
theorem W_atm' {x y z : D} {Q : D → Prop} : W (atI [x, y, z] (-1)) Q = Q z := by rw [show atI [x, y, z] (-1) = some z from rfl, W_some]
/-- a walk with numbers, by what is walked -/
theorem enumD_split : ∀ {ds : List D} {n : Nat} {pre : List D} {d : D} {post : List D}, enumD n ds = pre ++ d :: post → ∃ a c b, ds = a ++ c :: b ∧ d = .tup [.int ((n + a.length : Nat) : Int), c] ∧ pre = enumD n a
  | [], _, pre, _, _, e => by cases pre <;> cases e
  | x :: ds, n, [], d, post, e => by
    rw [enumD] at e
    cases e
    exact ⟨[], x, ds, rfl, rfl, rfl⟩
  | x :: ds, n, p :: pre, d, post, e => by
    rw [enumD] at e
    obtain ⟨rfl, e4⟩ := List.cons.inj e
    obtain ⟨a, c, b, rfl, rfl, rfl⟩ := enumD_split e4
    exact ⟨x :: a, c, b, rfl, by rw [List.length_cons]; congr 4; omega, by rw [enumD]⟩
theorem enumD_inj : ∀ {as bs : List D} {n : Nat}, enumD n as = enumD n bs → as = bs
  | [], [], _, _ => rfl
  | [], _ :: _, _, e => by rw [enumD, enumD] at e; cases e
  | _ :: _, [], _, e => by rw [enumD, enumD] at e; cases e
  | a :: as, b :: bs, n, e => by
    rw [enumD, enumD] at e
    obtain ⟨h1, h2⟩ := List.cons.inj e
    cases h1
    rw [enumD_inj h2]
theorem enumD_app : ∀ (as bs : List D) (n : Nat), enumD n (as ++ bs) = enumD n as ++ enumD (n + as.length) bs
  | [], bs, n => rfl
  | a :: as, bs, n => by
    rw [List.cons_append, enumD, enumD, enumD_app as bs (n + 1), List.length_cons, List.cons_append]
    congr 3
    omega
theorem W_forE {gg : DG} {g : DS} {ds : List D} {ρ : Ev} {Q : Fl → Prop} (I : List D → Ev → Prop) (h0 : I [] ρ) (hs : ∀ pre c post ρ, ds = pre ++ c :: post → I pre ρ → W (gg (.tup [.int ((pre.length : Nat) : Int), c]) ρ) fun ρ1 => W (g ρ1) fun fl => WL fl (I (pre ++ [c])) Q) (hd : ∀ ρ, I ds ρ → Q (.nx ρ)) : W (forL gg g (enumD 0 ds) ρ) Q := by
  refine W_forL (fun pre ρ => ∃ a, pre = enumD 0 a ∧ I a ρ) ⟨[], rfl, h0⟩ (fun pre d post ρ e hi => ?_) fun ρ hi => ?_
  · obtain ⟨a', rfl, hi⟩ := hi
    obtain ⟨a, c, b, rfl, rfl, e2⟩ := enumD_split e
    have := enumD_inj e2
    subst this
    have h := hs _ c b ρ rfl hi
    have e6 : enumD 0 a' ++ [D.tup [D.int ((0 + a'.length : Nat) : Int), c]] = enumD 0 (a' ++ [c]) := by rw [enumD_app]; rfl
    rw [e6, Nat.zero_add]
    refine W_mono h fun ρ1 h1 => W_mono h1 fun fl h2 => ?_
    cases fl with
    | nx ρ' => exact ⟨_, rfl, h2⟩
    | ct ρ' => exact ⟨_, rfl, h2⟩
    | bk ρ' => exact h2
    | rt d ρ' => exact h2
  · obtain ⟨a, e, hi⟩ := hi
    have := enumD_inj e
    subst this
    exact hd ρ hi
/-- cases of items: at most a of them, of at most b items each -/
structure IsCases (w s : Int) (a b : Nat) (cs : List D) : Prop where
  len : cs.length ≤ a
  all : ∀ c ∈ cs, ∃ is, c = .lst is ∧ is.length ≤ b ∧ ∀ d ∈ is, Item w s d
def hit (w x : Int) (c : D) : Bool := match c with | .lst is => is.any (fun d => pk w d x) | _ => false
/-- the first case that picks a number, else how many cases there are -/
def lab (w x : Int) : List D → Nat
  | [] => 0
  | c :: cs => if hit w x c = true then 0 else lab w x cs + 1
theorem lab_app {w x : Int} : ∀ {pre : List D} {c : D} {post : List D}, (∀ c ∈ pre, hit w x c = false) → hit w x c = true → lab w x (pre ++ c :: post) = pre.length
  | [], c, post, _, h => by rw [List.nil_append, lab, if_pos h]; rfl
  | p :: pre, c, post, h, h2 => by
    rw [List.cons_append, lab, if_neg (by rw [h p List.mem_cons_self]; decide), lab_app (fun c hc => h c (List.mem_cons_of_mem _ hc)) h2]
    rfl
theorem lab_none {w x : Int} : ∀ {cs : List D}, (∀ c ∈ cs, hit w x c = false) → lab w x cs = cs.length
  | [], _ => rfl
  | p :: pre, h => by
    rw [lab, if_neg (by rw [h p List.mem_cons_self]; decide), lab_none fun c hc => h c (List.mem_cons_of_mem _ hc)]
    rfl
theorem item_pu {w s : Int} {d : D} (h : Item w s d) : d.pu = true := by cases h <;> rfl
theorem item_frz {w s : Int} {d : D} (h : Item w s d) : frz d = d := by cases h <;> rfl
theorem frz_keep {d : D} {K : D → Prop} (h : frz d = d) (q : K d) : Frz? d K := by unfold Frz?; rw [h]; exact q
theorem W_lpicks {w s x : Int} {d : D} {Q : D → List D → Prop} (h : 1 ≤ w) (h2 : w ≤ 40) (hd : Item w s d) (q : Q (.bl (pk w d x)) []) : W2 (c_lpicks [.int w, d, .int x]) Q := by
  unfold c_lpicks g_lpicks
  have S1 := pow2_pos w
  cases hd with
  | is a b =>
    rw [pk_is] at q
    simp!
    exact q
  | fr a b c =>
    rw [pk_fr] at q
    simp! [s_fi]
    refine ⟨fun e => ?_, fun e => ?_⟩
    · simp only [e, true_and] at q
      exact q
    · simp only [e, false_and, decide_false] at q
      exact q
  | bits a b c =>
    rw [pk_bits] at q
    simp! [s_bi, s_bf]
    rw [Int.one_mul]
    exact ⟨⟨by omega, by omega, by decide⟩, by unfold CMod; omega, q⟩
theorem W_picked {w s x : Int} {a b : Nat} {cs : List D} {Q : D → List D → Prop} (h : 1 ≤ w) (h2 : w ≤ 40) (hc : IsCases w s a b cs) (hb : b ≤ 1000000) (q : Q (.int ((lab w x cs : Nat) : Int)) []) : W2 (c_picked [.tup [.int w, .int s, .lst cs], .int x]) Q := by
  unfold c_picked g_picked
  simp!
  refine W_forE (fun pre ρ => (∃ x5 x6, ρ = [some (.tup [.int w, .int s, .lst cs]), some (.int x), some (.int w), some (.int s), some (.lst cs), x5, x6, none]) ∧ ∀ c ∈ pre, hit w x c = false) ⟨⟨_, _, rfl⟩, fun c hc => nomatch hc⟩ (fun pre c post ρ e hi => ?_) (fun ρ hi => ?_)
  · obtain ⟨⟨x5, x6, rfl⟩, hp⟩ := hi
    obtain ⟨is, rfl, hl, hit0⟩ := hc.all c (by rw [e]; exact List.mem_append.mpr (.inr List.mem_cons_self))
    simp!
    refine W_mapB (fun d => pk w d x) (fun d hd => ?_) ?_
    · simp!
      refine ⟨item_pu (hit0 d hd), W_picks h h2 (hit0 d hd) ?_⟩
      simp!
      rfl
    · simp! [List.length_map]
      refine ⟨by omega, ?_⟩
      have eh : ((is.map fun d => pk w d x).any id) = hit w x (.lst is) := by rw [List.any_map]; rfl
      rw [eh]
      cases z : hit w x (.lst is) with
      | true =>
        simp!
        rw [e, lab_app hp z] at q
        exact q
      | false =>
        simp!
        refine ⟨⟨_, _, rfl⟩, fun c hc => ?_⟩
        rcases List.mem_append.mp hc with hc | hc
        · exact hp c hc
        · rw [List.mem_singleton.mp hc]; exact z
  · obtain ⟨⟨x5, x6, rfl⟩, hp⟩ := hi
    simp!
    rw [lab_none hp] at q
    exact q
theorem W_label {w s x : Int} {a b : Nat} {cs : List D} {Q : D → List D → Prop} (h : 1 ≤ w) (h2 : w ≤ 40) (hc : IsCases w s a b cs) (hb : b ≤ 1000000) (q : Q (.int ((lab w x cs : Nat) : Int)) []) : W2 (c_label [.tup [.int w, .int s, .lst cs], .int x]) Q := by
  unfold c_label g_label
  simp!
  refine W_forE (fun pre ρ => (∃ x5 x6, ρ = [some (.tup [.int w, .int s, .lst cs]), some (.int x), some (.int w), some (.int s), some (.lst cs), x5, x6, none]) ∧ ∀ c ∈ pre, hit w x c = false) ⟨⟨_, _, rfl⟩, fun c hc => nomatch hc⟩ (fun pre c post ρ e hi => ?_) (fun ρ hi => ?_)
  · obtain ⟨⟨x5, x6, rfl⟩, hp⟩ := hi
    obtain ⟨is, rfl, hl, hit0⟩ := hc.all c (by rw [e]; exact List.mem_append.mpr (.inr List.mem_cons_self))
    simp!
    refine W_mapB (fun d => pk w d x) (fun d hd => ?_) ?_
    · simp!
      refine ⟨item_pu (hit0 d hd), W_lpicks h h2 (hit0 d hd) ?_⟩
      simp!
      rfl
    · simp! [List.length_map]
      refine ⟨by omega, ?_⟩
      have eh : ((is.map fun d => pk w d x).any id) = hit w x (.lst is) := by rw [List.any_map]; rfl
      rw [eh]
      cases z : hit w x (.lst is) with
      | true =>
        simp!
        rw [e, lab_app hp z] at q
        exact q
      | false =>
        simp!
        refine ⟨⟨_, _, rfl⟩, fun c hc => ?_⟩
        rcases List.mem_append.mp hc with hc | hc
        · exact hp c hc
        · rw [List.mem_singleton.mp hc]; exact z
  · obtain ⟨⟨x5, x6, rfl⟩, hp⟩ := hi
    simp!
    rw [lab_none hp] at q
    exact q
theorem lowN_ge {w s : Int} (h : 1 ≤ w) : -(2 ^ w.toNat) ≤ lowN w s ∧ lowN w s ≤ 0 := by
  have := pow2_s h
  have := pow2_pos (w - 1)
  unfold lowN
  split <;> omega
theorem W_wild_choice {n : Nat} {t : List D} {Q : D → List D → Prop} (ht : IsT n t) (hn : n ≤ 1000000) (q : ∀ w s cs t', 1 ≤ w → w ≤ 40 → (s = 0 ∨ s = 1) → IsCases w s 12 6 cs → IsT (n + 5000) t' → Q (.tup [.int w, .int s, .lst cs]) [.own t']) : W2 (c_wild_choice [.own t]) Q := by
  unfold c_wild_choice g_wild_choice
  simp!
  refine W_kind ht (by omega) fun w s t1 h1 h2 hs ht1 => ?_
  simp!
  refine W_take ht1 (by omega) (by decide) (by decide) fun r1 t2 a1 b1 ht2 => ?_
  simp!
  refine W_least h1 h2 hs ?_
  have L := lowN_ge (s := s) h1
  have S1 := pow2_pos w
  have e2 : 2 ≤ (2 : Int) ^ w.toNat := by have := pow2_s h1; have := pow2_pos (w - 1); omega
  simp!
  have inr : ∀ o : Int, lowN w s ≤ o → o < lowN w s + 2 ^ w.toNat → Item w s (.tup [.str "is", .int o]) := fun o a b => .is a b
  refine ⟨fun _ => ?_, fun _ => ?_⟩
  all_goals
    refine W_take ht2 (by omega) (by decide) (by decide) fun r2 t3 a2 b2 ht3 => ?_
    simp!
    refine ⟨⟨by omega, by omega⟩, W_forR (fun k ρ => ∃ t cs many other x2 x8 x9 x10, ρ = [some (.own t), some (.bl (decide (r1 = 0))), x2, some (.int w), some (.int s), some (.own cs), some (.int other), some (.int many), x8, x9, x10] ∧ IsT (n + 10 + 300 * k) t ∧ IsCases w s k 6 cs ∧ lowN w s ≤ other ∧ other < lowN w s + 2 ^ w.toNat) ⟨_, _, _, _, _, _, _, _, rfl, ht3, ⟨Nat.le_refl _, fun c hc => nomatch hc⟩, by omega, by omega⟩ (fun k ρ hk hi => ?_) (fun ρ hi => ?_)⟩
    · obtain ⟨t, cs, many, other, x2, x8, x9, x10, rfl, ht, hc, o1, o2⟩ := hi
      simp!
      have hk13 : k < 13 := by omega
      refine ⟨fun _ => ?_, fun _ => ?_⟩
      all_goals
        refine W_take ht (by omega) (by decide) (by decide) fun r3 t4 a3 b3 ht4 => ?_
        simp!
        refine ⟨⟨by omega, by omega⟩, W_forR (fun j ρ => ∃ t is many other x9 x10, ρ = [some (.own t), some (.bl (decide (r1 = 0))), some (.int (0 + (k : Int))), some (.int w), some (.int s), some (.own cs), some (.int other), some (.int many), some (.own is), x9, x10] ∧ IsT (n + 10 + 300 * k + 2 + 40 * j) t ∧ is.length ≤ j ∧ (∀ d ∈ is, Item w s d) ∧ lowN w s ≤ other ∧ other < lowN w s + 2 ^ w.toNat) ⟨_, _, _, _, _, _, rfl, ht4, Nat.le_refl _, (fun d hd => nomatch hd), o1, o2⟩ (fun j ρ hj hi => ?_) (fun ρ hi => ?_)⟩
        · clear ht4
          obtain ⟨t, is, many, other, x9, x10, rfl, ht, hl, hi, o1, o2⟩ := hi
          have hj7 : j < 7 := by omega
          simp!
          refine W_item ht (by omega) h1 h2 hs fun d t5 hd ht5 => ?_
          have add : ∀ e, Item w s e → ∀ d ∈ is ++ [e], Item w s d := fun e he d hd => by
            rcases List.mem_append.mp hd with hd | hd
            · exact hi d hd
            · rw [List.mem_singleton.mp hd]; exact he
          have ll : ∀ e : D, (is ++ [e]).length ≤ j + 1 := fun e => by rw [List.length_append, List.length_singleton]; omega
          cases hd with
          | is a b =>
            rename_i v
            simp! [s_ib, ↓W_last]
            refine ⟨fun _ => ?_, fun _ => ⟨fun _ => ?_, fun _ => ?_⟩⟩
            all_goals exact ⟨by omega, _, _, _, _, _, _, rfl, ht5.mono (by omega), ll _, add _ (.is a b), a, b⟩
          | fr a b c =>
            rename_i v u
            simp! [s_fb, ↓W_last]
            refine ⟨fun _ => ?_, fun _ => ⟨fun _ => ?_, fun _ => ?_⟩⟩
            all_goals exact ⟨by omega, _, _, _, _, _, _, rfl, ht5.mono (by omega), ll _, add _ (.fr a b c), a, by omega⟩
          | bits a b c =>
            rename_i m v
            simp! [s_ib, ↓W_last]
            refine ⟨fun _ => ?_, fun _ => ⟨fun _ => ?_, fun _ => ?_⟩⟩
            · exact ⟨by omega, _, _, _, _, _, _, rfl, ht5.mono (by omega), ll _, add _ (.bits a b c), o1, o2⟩
            · exact ⟨by omega, _, _, _, _, _, _, rfl, ht5.mono (by omega), ll _, add _ (.bits a b c), o1, o2⟩
            · exact ⟨by omega, _, _, _, _, _, _, rfl, ht5.mono (by omega), ll _, add _ (inr _ o1 o2), o1, o2⟩
        · clear ht4
          obtain ⟨t, is, many, other, x9, x10, rfl, ht, hl, hi, o1, o2⟩ := hi
          have pu : is.all D.pu = true := List.all_eq_true.mpr fun d hd => item_pu (hi d hd)
          have hlc := hc.len
          simp!
          refine FrzL_pu pu ?_
          refine ⟨by omega, _, _, _, _, _, _, _, _, rfl, ht.mono (by omega), ⟨?_, fun c hc2 => ?_⟩, o1, o2⟩
          · rw [List.length_append, List.length_singleton]; omega
          · rcases List.mem_append.mp hc2 with z | z
            · exact hc.all c z
            · exact ⟨is, List.mem_singleton.mp z, by omega, hi⟩
    · obtain ⟨t, cs, many, other, x2, x8, x9, x10, rfl, ht, hc, o1, o2⟩ := hi
      have pu : cs.all D.pu = true := List.all_eq_true.mpr fun d hd => by obtain ⟨is, rfl, _⟩ := hc.all d hd; rfl
      simp!
      refine FrzL_pu pu ?_
      exact q _ _ _ _ h1 h2 hs ⟨Nat.le_trans hc.len (by omega), hc.all⟩ (ht.mono (by omega))
theorem pow2_8 {w : Int} (h : w < 9) : (2 : Int) ^ w.toNat ≤ 256 := by
  have : 2 ^ w.toNat ≤ 2 ^ 8 := Nat.pow_le_pow_right (by decide) (by omega)
  rw [pow_nat]
  have e : (2 : Nat) ^ 8 = 256 := by decide
  rw [e] at this
  omega
/-- how many borders an item has, at most -/
def icost : D → Nat
  | .tup [_, _] => 2
  | _ => 32
def ccost : D → Nat
  | .lst is => (is.map icost).sum
  | _ => 0
def costs (cs : List D) : Nat := (cs.map ccost).sum
theorem costs_app (as bs : List D) : costs (as ++ bs) = costs as + costs bs := by unfold costs; rw [List.map_append, List.sum_append]
theorem sum_le {f : D → Nat} {m : Nat} : ∀ {l : List D}, (∀ d ∈ l, f d ≤ m) → (l.map f).sum ≤ l.length * m
  | [], _ => by simp
  | d :: l, h => by
    have := sum_le fun x hx => h x (List.mem_cons_of_mem _ hx)
    have := h d List.mem_cons_self
    rw [List.map_cons, List.sum_cons, List.length_cons, Nat.succ_mul]
    omega
theorem IsCases.costs {w s : Int} {a b : Nat} {cs : List D} (h : IsCases w s a b cs) : Pd.costs cs ≤ a * (b * 32) := by
  refine Nat.le_trans (sum_le (m := b * 32) fun c hc => ?_) (Nat.mul_le_mul_right _ h.len)
  obtain ⟨is, rfl, hl, hi⟩ := h.all c hc
  refine Nat.le_trans (sum_le (m := 32) fun d hd => ?_) (Nat.mul_le_mul_right _ hl)
  cases hi d hd <;> (unfold icost; split <;> omega)
theorem W_borders0 {w s : Int} {a b : Nat} {cs : List D} {Q : D → List D → Prop} (h1 : 1 ≤ w) (h2 : w ≤ 40) (hs : s = 0 ∨ s = 1) (hc : IsCases w s a b cs) (hab : costs cs ≤ 2900) (q : ∀ bs : List Int, bs.length ≤ 3000 → Q (.own (bs.map D.int)) []) : W2 (c_borders [.tup [.int w, .int s, .lst cs]]) Q := by
  have L := lowN_ge (s := s) h1
  have S1 := pow2_pos w
  have S2 := pow2_le h2
  unfold c_borders g_borders
  simp!
  refine W_least h1 h2 hs ?_
  simp!
  rw [Int.one_mul]
  refine ⟨⟨by omega, by omega, by decide⟩, fun hw => ?_, fun hw => ?_⟩
  · have := pow2_8 hw
    rw [rngD_eq]
    exact ⟨⟨by omega, by omega, by omega, by omega, by omega⟩, q _ (by rw [rngI_len]; omega)⟩
  · refine W_forL (fun pre ρ => ∃ (bs : List Int) (x2 x8 : Option D), ρ = [some (.tup [.int w, .int s, .lst cs]), some (.lst (bs.map D.int)), x2, some (.int w), some (.int s), some (.lst cs), some (.int (lowN w s)), some (.int (2 ^ w.toNat)), x8, none] ∧ bs.length ≤ 1 + costs pre) ⟨[lowN w s], _, _, rfl, by simp [costs]⟩ (fun pre c post ρ e hi => ?_) (fun ρ hi => ?_)
    · obtain ⟨bs, x2, x8, rfl, hb⟩ := hi
      obtain ⟨is, rfl, hl, hit0⟩ := hc.all c (by rw [e]; exact List.mem_append.mpr (.inr List.mem_cons_self))
      have hm : costs pre + (is.map icost).sum ≤ costs cs := by rw [e, costs_app]; show _ ≤ costs pre + ((is.map icost).sum + _); omega
      simp!
      refine W_forL (fun pre2 ρ => ∃ (bs : List Int) (x8 : Option D), ρ = [some (.tup [.int w, .int s, .lst cs]), some (.lst (bs.map D.int)), some (.lst is), some (.int w), some (.int s), some (.lst cs), some (.int (lowN w s)), some (.int (2 ^ w.toNat)), x8, none] ∧ bs.length ≤ 1 + costs pre + (pre2.map icost).sum) ⟨bs, _, rfl, by simp; omega⟩ (fun pre2 d post2 ρ e2 hi => ?_) (fun ρ hi => ?_)
      · clear hb
        obtain ⟨bs, x8, rfl, hb⟩ := hi
        have hd := hit0 d (by rw [e2]; exact List.mem_append.mpr (.inr List.mem_cons_self))
        have hp2 : (pre2.map icost).sum + icost d ≤ (is.map icost).sum := by rw [e2, List.map_append, List.sum_append, List.map_cons, List.sum_cons]; omega
        rw [List.map_append, List.sum_append, List.map_singleton, List.sum_singleton]
        cases hd with
        | is c d =>
          rename_i v
          have ei : icost (.tup [.str "is", .int v]) = 2 := rfl
          rw [ei] at hp2 ⊢
          simp! [s_ib, ↓W_atm, List.length_map]
          exact ⟨by omega, FrzL_appI (bs := [v, v + 1]) |>.mpr ⟨bs ++ [v, v + 1], _, rfl, by simp only [List.length_append, List.length_cons, List.length_nil]; omega⟩⟩
        | fr c d e =>
          rename_i v u
          have ei : icost (.tup [.str "from", .int v, .int u]) = 32 := rfl
          rw [ei] at hp2 ⊢
          simp! [s_fb, ↓W_atm', List.length_map]
          exact ⟨by omega, FrzL_appI (bs := [v, u + 1]) |>.mpr ⟨bs ++ [v, u + 1], _, rfl, by simp only [List.length_append, List.length_cons, List.length_nil]; omega⟩⟩
        | bits c d e =>
          rename_i m v
          have ei : icost (.tup [.str "bits", .int m, .int v]) = 32 := rfl
          rw [ei] at hp2 ⊢
          simp!
          refine W_bits_borders (by omega) h2 c d (fun fs hf => ?_) ?_
          · simp! [List.length_map]
            exact ⟨by omega, bs ++ fs, _, rfl, by simp only [List.length_append, List.length_singleton]; omega⟩
          · simp! [List.length_map]
            exact ⟨by omega, bs, _, rfl, by omega⟩
      · clear hb
        obtain ⟨bs, x8, rfl, hb⟩ := hi
        exact ⟨bs, _, _, rfl, by rw [costs_app]; show _ ≤ 1 + (costs pre + ((is.map icost).sum + 0)); omega⟩
    · obtain ⟨bs, x2, x8, rfl, hb⟩ := hi
      simp!
      refine W_filterI (fun x => decide (x < lowN w s + 2 ^ w.toNat)) (fun x hx => ?_) ?_
      · simp!
        exact ⟨fun _ => rfl, fun _ => rfl⟩
      · simp! [List.length_map]
        have := List.length_filter_le (fun x => decide (x < lowN w s + 2 ^ w.toNat)) bs
        exact ⟨by omega, by omega, q _ (Nat.le_trans (sset_len _) (by omega))⟩
theorem rb_item {w s : Int} {d : D} (h : 1 ≤ w) (h2 : w ≤ 40) (hd : Item w s d) : Rb 20 1 d := by
  have L := lowN_ge (s := s) h
  have S2 := pow2_le h2
  have big : ∀ v : Int, -1099511627776 ≤ v → v ≤ 2199023255552 → v.natAbs < 2 ^ 78 := fun v a b => by omega
  cases hd with
  | is a b => exact (Rb.tup (n := 4) (m := 2) (k := 0) (fun d hd => by
      simp only [List.mem_cons, List.not_mem_nil, or_false] at hd
      rcases hd with rfl | rfl
      · exact (Rb.str (by decide +kernel)).mono (by decide) (by decide)
      · exact (Rb.int (big _ (by omega) (by omega))).mono (by decide) (by decide)) (by simp)).mono (by decide) (by decide)
  | fr a b c => exact (Rb.tup (n := 4) (m := 3) (k := 0) (fun d hd => by
      simp only [List.mem_cons, List.not_mem_nil, or_false] at hd
      rcases hd with rfl | rfl | rfl
      · exact (Rb.str (by decide +kernel)).mono (by decide) (by decide)
      · exact (Rb.int (big _ (by omega) (by omega))).mono (by decide) (by decide)
      · exact (Rb.int (big _ (by omega) (by omega))).mono (by decide) (by decide)) (by simp)).mono (by decide) (by decide)
  | bits a b c => exact (Rb.tup (n := 4) (m := 3) (k := 0) (fun d hd => by
      have := a.ge
      have := a.lt
      simp only [List.mem_cons, List.not_mem_nil, or_false] at hd
      rcases hd with rfl | rfl | rfl
      · exact (Rb.str (by decide +kernel)).mono (by decide) (by decide)
      · exact (Rb.int (big _ (by omega) (by omega))).mono (by decide) (by decide)
      · exact (Rb.int (big _ (by omega) (by omega))).mono (by decide) (by decide)) (by simp)).mono (by decide) (by decide)
theorem rp_choice {w s : Int} {cs : List D} (h : 1 ≤ w) (h2 : w ≤ 40) (hs : s = 0 ∨ s = 1) (hc : IsCases w s 13 30 cs) : rpOk (.tup [.int w, .int s, .lst cs]) = true := by
  refine Rb.ok (n := (((20 + 1) * 30 + 1) * 13 + 1) * 3) (k := 4) ?_ (by decide) (by decide)
  refine Rb.tup (k := 3) (fun d hd => ?_) (by simp)
  simp only [List.mem_cons, List.not_mem_nil, or_false] at hd
  rcases hd with rfl | rfl | rfl
  · exact (Rb.int (by omega)).mono (by decide) (by decide)
  · exact (Rb.int (by rcases hs with rfl | rfl <;> decide)).mono (by decide) (by decide)
  · refine Rb.lst (k := 2) (fun c hc2 => ?_) hc.len
    obtain ⟨is, rfl, hl, hi⟩ := hc.all c hc2
    exact Rb.lst (n := 20) (k := 1) (fun d hd => rb_item h h2 (hi d hd)) hl
theorem IsCases.mono {w s : Int} {a b a' b' : Nat} {cs : List D} (h : IsCases w s a b cs) (ha : a ≤ a') (hb : b ≤ b') : IsCases w s a' b' cs :=
  ⟨Nat.le_trans h.len ha, fun c hc => let ⟨is, e, l, i⟩ := h.all c hc; ⟨is, e, Nat.le_trans l hb, i⟩⟩
theorem W_fmI {gg : DG} {c e : DE} {vs : List Nat} {ρ : Ev} {Q : List D → Ev → Prop} {is : List Int} (p : Int → Bool) (f : Int → Int)
    (h : ∀ i, i ∈ is → W (gg (.int i) ρ) fun ρ1 => W2 (c ρ1) fun b ρ2 => b = .bl (p i) ∧ (p i = true → W2 (e ρ2) fun y ρ3 => y = .int (f i) ∧ wipeE vs ρ3 = ρ) ∧ (p i = false → wipeE vs ρ2 = ρ)) (q : Q (((is.filter p).map f).map D.int) ρ) : W2 (compL gg c e vs (is.map D.int) ρ) Q := by
  refine W_compL (fun pre acc ρ' => (∃ ip, pre = ip.map D.int ∧ acc = ((ip.filter p).map f).map D.int) ∧ ρ' = ρ) ⟨⟨[], rfl, rfl⟩, rfl⟩ (fun pre d post acc ρ' e1 hi => ?_) fun acc ρ' hi => ?_
  · obtain ⟨⟨ip, rfl, rfl⟩, rfl⟩ := hi
    obtain ⟨i, hi, rfl⟩ := List.mem_map.mp (show d ∈ is.map D.int by rw [e1]; exact List.mem_append.mpr (.inr List.mem_cons_self))
    refine W_mono (h i hi) fun ρ1 h1 => W2_mono h1 fun b ρ2 hp => ?_
    obtain ⟨rfl, h2, h3⟩ := hp
    rw [WB_bl]
    refine ⟨fun z => W2_mono (h2 z) fun y ρ3 hq => ⟨⟨ip ++ [i], by rw [List.map_append]; rfl, ?_⟩, hq.2⟩, fun z => ⟨⟨ip ++ [i], by rw [List.map_append]; rfl, ?_⟩, h3 z⟩⟩
    · rw [List.filter_append, List.map_append, List.map_append, hq.1, List.filter_cons, if_pos z]; rfl
    · rw [List.filter_append, List.map_append, List.map_append, List.filter_cons, if_neg (by rw [z]; decide)]; simp
  · obtain ⟨⟨ip, h1, rfl⟩, rfl⟩ := hi
    have : ip = is := (List.map_inj_right (f := D.int) fun a b h => by cases h; rfl).mp h1.symm
    rw [this]
    exact q
theorem FrzL_snoc {as : List Int} {a : Int} {K : List D → Prop} (q : K ((as ++ [a]).map D.int)) : FrzL? (as.map D.int ++ [.int a]) K := frzL_ints (by rw [List.map_append]; rfl) q
end Pd

namespace Pd
open PySem PySem.Spec PyProof.Rows L2
/-- is_number(thing) -/
def g_is_number : DS := (dRet (dAnd (dIsi "int" (dVar 0)) (dNot (dIsi "bool" (dVar 0)))))
def c_is_number : Ct := run 1 1 [] g_is_number
/-- is_kind(width, sign) -/
def g_is_kind : DS := (dSeq (dIfS (dOr (dNot (dFz (dCall Pd.c_is_number (dCons (dVar 0) dNil)))) (dNot (dFz (dCall Pd.c_is_number (dCons (dVar 1) dNil))))) (dRet (dBl false)) dSkip)
  (dRet (dAnd (dChain opLe opLe (dInt 1) (dVar 0) (dInt 40)) (dOp (opIn false) (dVar 1) (dTup (dCons (dInt 0) (dCons (dInt 1) dNil)))))))
def c_is_kind : Ct := run 2 2 [] g_is_kind
/-- is_item(width, sign, thing) -/
def g_is_item : DS := (dSeq (dIfS (dOr (dNot (dIsi "tuple" (dVar 2))) (dOr (dOp opEq (dBi biLen (dCons (dVar 2) dNil)) (dInt 0)) (dNot (dBi biAll (dCons (dFz (dComp (iTpl (dFz (dSl (dVar 2) (oSo (dInt 1)) oNo))) (gNam 5) dYes (dFz (dCall Pd.c_is_number (dCons (dVar 5) dNil))) [5])) dNil))))) (dRet (dBl false)) dSkip)
  (dSeq (dPar 3 4 (dCons (dFz (dCall Pd.c_least_of (dCons (dVar 0) (dCons (dVar 1) dNil)))) (dCons (dFz (dCall Pd.c_most_of (dCons (dVar 0) (dCons (dVar 1) dNil)))) dNil)))
  (dSeq (dIfS (dOp opEq (dFz (dOp opIx (dVar 2) (dInt 0))) (dStr "is")) (dRet (dAnd (dOp opEq (dBi biLen (dCons (dVar 2) dNil)) (dInt 2)) (dChain opLe opLe (dVar 3) (dFz (dOp opIx (dVar 2) (dInt 1))) (dVar 4)))) dSkip)
  (dSeq (dIfS (dOp opEq (dFz (dOp opIx (dVar 2) (dInt 0))) (dStr "from")) (dRet (dAnd (dOp opEq (dBi biLen (dCons (dVar 2) dNil)) (dInt 3)) (dChain3 opLe opLe opLe (dVar 3) (dFz (dOp opIx (dVar 2) (dInt 1))) (dFz (dOp opIx (dVar 2) (dInt 2))) (dVar 4)))) dSkip)
  (dSeq (dIfS (dOr (dOp opNe (dFz (dOp opIx (dVar 2) (dInt 0))) (dStr "bits")) (dOp opNe (dBi biLen (dCons (dVar 2) dNil)) (dInt 3))) (dRet (dBl false)) dSkip)
  (dRet (dAnd (dChain opLe opLt (dInt 0) (dFz (dOp opIx (dVar 2) (dInt 1))) (dOp opShl (dInt 1) (dVar 0))) (dChain opLe opLt (dInt 0) (dFz (dOp opIx (dVar 2) (dInt 2))) (dOp opShl (dInt 1) (dVar 0))))))))))
def c_is_item : Ct := run 6 3 [] g_is_item
/-- is_choice(thing) -/
def g_is_choice : DS := (dSeq (dIfS (dOr (dNot (dIsi "tuple" (dVar 0))) (dOr (dOp opNe (dBi biLen (dCons (dVar 0) dNil)) (dInt 3)) (dNot (dFz (dCall Pd.c_is_kind (dCons (dFz (dOp opIx (dVar 0) (dInt 0))) (dCons (dFz (dOp opIx (dVar 0) (dInt 1))) dNil))))))) (dRet (dBl false)) dSkip)
  (dSeq (dIfS (dOr (dNot (dIsi "list" (dFz (dOp opIx (dVar 0) (dInt 2))))) (dNot (dBi biAll (dCons (dFz (dComp (iLst (dFz (dOp opIx (dVar 0) (dInt 2)))) (gNam 1) dYes (dIsi "list" (dVar 1)) [1])) dNil)))) (dRet (dBl false)) dSkip)
  (dRet (dBi biAll (dCons (dFz (dComp (iLst (dFz (dOp opIx (dVar 0) (dInt 2)))) (gNam 1) dYes (dBi biAll (dCons (dFz (dComp (iLst (dVar 1)) (gNam 2) dYes (dFz (dCall Pd.c_is_item (dCons (dFz (dOp opIx (dVar 0) (dInt 0))) (dCons (dFz (dOp opIx (dVar 0) (dInt 1))) (dCons (dVar 2) dNil))))) [2])) dNil)) [1])) dNil)))))
def c_is_choice : Ct := run 3 1 [] g_is_choice
/-- _law_is_item(_law_width, _law_sign, _law_thing) -/
def g_lis_item : DS := (dSeq (dIfS (dOr (dNot (dIsi "tuple" (dVar 2))) (dOr (dOp (opIn true) (dBi biLen (dCons (dVar 2) dNil)) (dTup (dCons (dInt 2) (dCons (dInt 3) dNil)))) (dNot (dIsi "str" (dFz (dOp opIx (dVar 2) (dInt 0))))))) (dRet (dBl false)) dSkip)
  (dSeq (dIfS (dNot (dBi biAll (dCons (dFz (dComp (iTpl (dFz (dSl (dVar 2) (oSo (dInt 1)) oNo))) (gNam 5) dYes (dFz (dCall Pd.c_is_number (dCons (dVar 5) dNil))) [5])) dNil))) (dRet (dBl false)) dSkip)
  (dSeq (dAsg (gTp 2 (gsCons (gNam 3) (gsCons (gNam 4) gsNil))) (dTup (dCons (dFz (dCall Pd.c_least (dCons (dVar 0) (dCons (dVar 1) dNil)))) (dCons (dOp opShl (dInt 1) (dVar 0)) dNil))))
  (dSeq (dIfS (dOp opEq (dFz (dOp opIx (dVar 2) (dInt 0))) (dStr "bits")) (dRet (dAnd (dOp opEq (dBi biLen (dCons (dVar 2) dNil)) (dInt 3)) (dBi biAll (dCons (dFz (dComp (iTpl (dFz (dSl (dVar 2) (oSo (dInt 1)) oNo))) (gNam 5) dYes (dChain opLe opLt (dInt 0) (dVar 5) (dVar 4)) [5])) dNil)))) dSkip)
  (dSeq (dIfS (dNot (dBi biAll (dCons (dFz (dComp (iTpl (dFz (dSl (dVar 2) (oSo (dInt 1)) oNo))) (gNam 5) dYes (dChain opLe opLt (dVar 3) (dVar 5) (dFz (dOp opAdd (dVar 3) (dVar 4)))) [5])) dNil))) (dRet (dBl false)) dSkip)
  (dRet (dOr (dAnd (dOp opEq (dFz (dOp opIx (dVar 2) (dInt 0))) (dStr "is")) (dOp opEq (dBi biLen (dCons (dVar 2) dNil)) (dInt 2))) (dAnd (dOp opEq (dFz (dOp opIx (dVar 2) (dInt 0))) (dStr "from")) (dAnd (dOp opEq (dBi biLen (dCons (dVar 2) dNil)) (dInt 3)) (dOp opLe (dFz (dOp opIx (dVar 2) (dInt 1))) (dFz (dOp opIx (dVar 2) (dInt 2)))))))))))))
def c_lis_item : Ct := run 6 3 [] g_lis_item
/-- _law_is_choice(_law_thing) -/
def g_lis_choice : DS := (dSeq (dIfS (dOr (dNot (dIsi "tuple" (dVar 0))) (dOr (dOp opNe (dBi biLen (dCons (dVar 0) dNil)) (dInt 3)) (dNot (dIsi "list" (dFz (dOp opIx (dVar 0) (dInt 2))))))) (dRet (dBl false)) dSkip)
  (dSeq (dAsg (gTp 3 (gsCons (gNam 2) (gsCons (gNam 3) (gsCons (gNam 4) gsNil)))) (dVar 0))
  (dSeq (dIfS (dOr (dNot (dFz (dCall Pd.c_is_number (dCons (dVar 2) dNil)))) (dOr (dNot (dFz (dCall Pd.c_is_number (dCons (dVar 3) dNil)))) (dOr (dNot (dChain opLe opLe (dInt 1) (dVar 2) (dInt 40))) (dNot (dChain opLe opLe (dInt 0) (dVar 3) (dInt 1)))))) (dRet (dBl false)) dSkip)
  (dSeq (dFor (iLst (dVar 4)) (gNam 1) (dIfS (dOr (dNot (dIsi "list" (dVar 1))) (dNot (dBi biAll (dCons (dFz (dComp (iLst (dVar 1)) (gNam 5) dYes (dFz (dCall Pd.c_lis_item (dCons (dVar 2) (dCons (dVar 3) (dCons (dVar 5) dNil))))) [5])) dNil)))) (dRet (dBl false)) dSkip))
  (dRet (dBl true))))))
def c_lis_choice : Ct := run 6 1 [] g_lis_choice

/-! ### things of any make -/
def isS (z : Str) (d : D) : Bool := match d with | .str x => x == z | _ => false
def numB (d : D) : Bool := match d with | .int _ => true | _ => false
/-- plain data that can be compared -/
def thg (d : D) : Bool := plain d && shp d
theorem shp_in {ds : List D} {d : D} (h : shp (.tup ds) = true ∨ shp (.lst ds) = true) (m : d ∈ ds) : shp d = true := by
  have h2 : noTyL ds = true ∧ PyData.canLayAll0 (toPL ds) = true ∧ PyData.depthAll (toPL ds) ≤ 63 := by
    rcases h with h | h
    all_goals
      unfold shp SeqAt.shaped at h
      simp only [noTy, toP, PyData.canLay0, PyData.depth, Bool.and_eq_true, decide_eq_true_eq] at h
      exact ⟨h.1, h.2.1, by omega⟩
  clear h
  induction ds with
  | nil => cases m
  | cons x ds ih =>
    obtain ⟨a, b, c⟩ := h2
    rw [noTyL, Bool.and_eq_true] at a
    rw [toPL, PyData.canLayAll0, Bool.and_eq_true] at b
    rw [toPL, PyData.depthAll] at c
    rcases List.mem_cons.mp m with m | m
    · subst m
      unfold shp SeqAt.shaped
      rw [a.1, b.1, decide_eq_true (by omega)]
      rfl
    · exact ih m ⟨a.2, b.2, by omega⟩
theorem thg_in {ds : List D} {d : D} (h : thg (.tup ds) = true ∨ thg (.lst ds) = true) (m : d ∈ ds) : thg d = true := by
  unfold thg at h ⊢
  have h1 : plainL ds = true := by
    rcases h with h | h <;> (rw [plain, Bool.and_eq_true, Bool.and_eq_true] at h; exact h.1.2)
  have h2 : shp d = true := shp_in (h.imp (fun z => (Bool.and_eq_true_iff.mp z).2) (fun z => (Bool.and_eq_true_iff.mp z).2)) m
  rw [(plainL_mem h1 m).1, h2]
  rfl
theorem thg_pu {d : D} (h : thg d = true) : d.pu = true := plain_pu (Bool.and_eq_true_iff.mp h).1
theorem thg_nt {d : D} (h : thg d = true) : noTy d = true := plain_noTy d (Bool.and_eq_true_iff.mp h).1
theorem W_eqT {d : D} {z : Str} {Q : D → Prop} (h : thg d = true) (hz : shp (.str z) = true) (q : Q (.bl (isS z d))) : W (opEq d (.str z)) Q := by
  refine ⟨_, ?_, q⟩
  unfold opEq
  rw [(Bool.and_eq_true_iff.mp h).2, hz, if_pos (by rfl)]
  congr 2
  cases d <;> first | rfl | (unfold deq isS; simp only [toP, PyData.eqv])
theorem W_neT {d : D} {z : Str} {Q : D → Prop} (h : thg d = true) (hz : shp (.str z) = true) (q : Q (.bl (!isS z d))) : W (opNe d (.str z)) Q := by
  refine ⟨_, ?_, q⟩
  unfold opNe
  rw [(Bool.and_eq_true_iff.mp h).2, hz, if_pos (by rfl)]
  congr 3
  cases d <;> first | rfl | (unfold deq isS; simp only [toP, PyData.eqv])
theorem W_sl1 {a : D} {r : List D} {Q : D → Prop} (q : Q (.tup r)) : W (opSl (.tup (a :: r)) (some 1) none) Q := by
  have e : cutD (a :: r) (some 1) none = r := by
    unfold cutD HT.sIx
    simp
  refine ⟨.tup (cutD (a :: r) (some 1) none), rfl, ?_⟩
  rw [e]
  exact q
theorem W_is_number {d : D} {Q : D → List D → Prop} (h : thg d = true) (q : Q (.bl (numB d)) []) : W2 (c_is_number [d]) Q := by
  unfold c_is_number g_is_number
  have h1 := thg_nt h
  have h2 := thg_pu h
  cases d with
  | non => simp!; exact q
  | bl b => simp!; exact q
  | int i => simp!; exact q
  | str s => simp!; exact q
  | tup ds => rw [nt_t] at h1; simp! [h1]; exact q
  | lst ds => rw [nt_l] at h1; simp! [h1]; exact q
  | scr ns => cases h
  | dct _ => cases h
  | dix _ _ => cases h
  | odx _ _ => cases h
  | otp _ => cases h
  | kt _ => cases h
  | exc => cases h
  | ty n => cases h
  | own ds => cases h
theorem mapB_id {f : D → Bool} {r : List D} : ((r.map f).all id) = r.all f := by rw [List.all_map]; rfl
/-- the look at an item -/
def itemB (w s : Int) (d : D) : Bool := match d with
  | .tup [k, .int i] => isS "is" k && (decide (lowN w s ≤ i) && decide (i < lowN w s + 2 ^ w.toNat))
  | .tup [k, .int i, .int j] => if isS "is" k then false else if isS "from" k then decide (lowN w s ≤ i) && (decide (i ≤ j) && decide (j < lowN w s + 2 ^ w.toNat)) else isS "bits" k && (decide (0 ≤ i ∧ i < 2 ^ w.toNat) && decide (0 ≤ j ∧ j < 2 ^ w.toNat))
  | _ => false
theorem thg_frz {d : D} (h : thg d = true) : frz d = d := by cases d <;> first | rfl | cases h
theorem itemB_num {w s : Int} {a : D} {r : List D} (h : r.all numB = false) : itemB w s (.tup (a :: r)) = false := by
  rcases r with _ | ⟨x, _ | ⟨y, _ | ⟨z, r⟩⟩⟩
  · rfl
  · cases x <;> first | rfl | cases h
  · cases x <;> cases y <;> first | rfl | cases h
  · unfold itemB
    split <;> first | rfl | (rename_i e; cases e)
theorem itemB_long {w s : Int} {a x y z : D} {r : List D} : itemB w s (.tup (a :: x :: y :: z :: r)) = false := by
  unfold itemB
  split <;> first | rfl | (rename_i e; cases e)
theorem num_int {r : List D} {x : D} (h : r.all numB = true) (m : x ∈ r) : ∃ i, x = .int i := by
  have := List.all_eq_true.mp h x m
  cases x <;> first | exact ⟨_, rfl⟩ | cases this
theorem sIs : shp (.str "is") = true := by decide +kernel
theorem sFr : shp (.str "from") = true := by decide +kernel
theorem sBi : shp (.str "bits") = true := by decide +kernel
theorem isS_excl {a : D} {x y : Str} (h : isS x a = true) (n : (x == y) = false) : isS y a = false := by
  unfold isS at h ⊢
  split at h
  · rename_i z
    have e := eq_of_beq h
    rw [e]
    exact n
  · cases h
theorem W_is_item {w s : Int} {d : D} {Q : D → List D → Prop} (h1 : 1 ≤ w) (h2 : w ≤ 40) (hs : s = 0 ∨ s = 1) (h : thg d = true) (q : Q (.bl (itemB w s d)) []) : W2 (c_is_item [.int w, .int s, d]) Q := by
  have S1 := pow2_pos w
  have pu := thg_pu h
  have nt := thg_nt h
  unfold c_is_item g_is_item
  cases d with
  | non => simp!; exact q
  | bl b => simp!; exact q
  | int i => simp!; exact q
  | str s => simp!; exact q
  | lst ds => rw [nt_l] at nt; simp! [nt]; exact q
  | scr ns => cases h
  | dct _ => cases h
  | dix _ _ => cases h
  | odx _ _ => cases h
  | otp _ => cases h
  | kt _ => cases h
  | exc => cases h
  | ty n => cases h
  | own ds => cases h
  | tup ds =>
    rw [nt_t] at nt
    cases ds with
    | nil =>
      simp!
      exact ⟨fun _ => q, fun z => absurd rfl z⟩
    | cons a r =>
      have ha := thg_in (.inl h) (List.mem_cons_self (a := a) (l := r))
      have hr : ∀ x ∈ r, thg x = true := fun x hx => thg_in (.inl h) (List.mem_cons_of_mem _ hx)
      have hl : (a :: r).length ≤ 1000000 := by
        have := (Bool.and_eq_true_iff.mp h).1
        rw [plain, Bool.and_eq_true, decide_eq_true_eq] at this
        exact this.1
      rw [List.length_cons] at hl
      simp! [nt]
      refine ⟨fun z => absurd z (by omega), fun _ => W_sl1 ?_⟩
      simp!
      refine W_mapB numB (fun x hx => ?_) ?_
      · simp!
        refine ⟨thg_pu (hr x hx), W_is_number (hr x hx) ?_⟩
        simp!
        rfl
      · simp! [List.length_map]
        refine ⟨by omega, ?_⟩
        rw [mapB_id]
        have fa := thg_frz ha
        cases ze : r.all numB with
        | false =>
          simp!
          rw [itemB_num ze] at q
          exact q
        | true =>
          simp!
          refine W_least_of h1 h2 ?_
          simp!
          refine W_most_of h1 h2 ?_
          simp!
          refine frz_keep fa (W_eqT ha sIs ?_)
          rw [Int.one_mul]
          rcases r with _ | ⟨x, _ | ⟨y, _ | ⟨z, r⟩⟩⟩
          · have q2 : Q (.bl false) [] := q
            rw [WB_bl]
            refine ⟨fun _ => ⟨fun z => absurd z (by first | decide | simp), fun _ => q2⟩, fun _ => frz_keep fa (W_eqT ha sFr ?_)⟩
            rw [WB_bl]
            refine ⟨fun _ => ⟨fun z => absurd z (by first | decide | simp), fun _ => q2⟩, fun _ => frz_keep fa (W_neT ha sBi ?_)⟩
            rw [WB_bl]
            exact ⟨fun _ => q2, fun _ => ⟨fun z => absurd z (by first | decide | simp), fun _ => q2⟩⟩
          · obtain ⟨i, rfl⟩ := num_int ze (List.mem_cons_self)
            have e1 : itemB w s (.tup [a, .int i]) = (isS "is" a && (decide (lowN w s ≤ i) && decide (i < lowN w s + 2 ^ w.toNat))) := rfl
            rw [e1] at q
            rw [WB_bl]
            refine ⟨fun z => ⟨fun _ => ?_, fun z2 => absurd (by rfl) z2⟩, fun z => frz_keep fa (W_eqT ha sFr ?_)⟩
            · rw [z, Bool.true_and] at q
              simp!
              refine ⟨fun e => ?_, fun e => ?_⟩
              · rw [decide_eq_true e, Bool.true_and] at q
                rw [show decide (i ≤ lowN w s + 2 ^ w.toNat - 1) = decide (i < lowN w s + 2 ^ w.toNat) from by rw [Bool.eq_iff_iff]; simp only [decide_eq_true_eq]; omega]
                exact q
              · rw [decide_eq_false e, Bool.false_and] at q
                exact q
            · rw [z, Bool.false_and] at q
              rw [WB_bl]
              refine ⟨fun _ => ⟨fun z => absurd z (by first | decide | simp), fun _ => q⟩, fun _ => frz_keep fa (W_neT ha sBi ?_)⟩
              rw [WB_bl]
              exact ⟨fun _ => q, fun _ => ⟨fun z => absurd z (by first | decide | simp), fun _ => q⟩⟩
          · obtain ⟨i, rfl⟩ := num_int ze (List.mem_cons_self)
            obtain ⟨j, rfl⟩ := num_int ze (List.mem_cons_of_mem _ List.mem_cons_self)
            have e1 : itemB w s (.tup [a, .int i, .int j]) = if isS "is" a then false else if isS "from" a then decide (lowN w s ≤ i) && (decide (i ≤ j) && decide (j < lowN w s + 2 ^ w.toNat)) else isS "bits" a && (decide (0 ≤ i ∧ i < 2 ^ w.toNat) && decide (0 ≤ j ∧ j < 2 ^ w.toNat)) := rfl
            rw [e1] at q
            rw [WB_bl]
            refine ⟨fun z => ⟨fun z2 => absurd z2 (by first | decide | simp), fun _ => ?_⟩, fun z => frz_keep fa (W_eqT ha sFr ?_)⟩
            · rw [z] at q
              exact q
            · rw [z, if_neg Bool.false_ne_true] at q
              rw [WB_bl]
              refine ⟨fun z => ⟨fun _ => ?_, fun z2 => absurd (by rfl) z2⟩, fun z => frz_keep fa (W_neT ha sBi ?_)⟩
              · rw [z, if_pos rfl] at q
                simp!
                refine ⟨fun e => ⟨fun e2 => ?_, fun e2 => ?_⟩, fun e => ?_⟩
                · rw [decide_eq_true e, decide_eq_true e2, Bool.true_and, Bool.true_and] at q
                  rw [show decide (j ≤ lowN w s + 2 ^ w.toNat - 1) = decide (j < lowN w s + 2 ^ w.toNat) from by rw [Bool.eq_iff_iff]; simp only [decide_eq_true_eq]; omega]
                  exact q
                · rw [decide_eq_false e2, Bool.false_and, Bool.and_false] at q
                  exact q
                · rw [decide_eq_false e, Bool.false_and] at q
                  exact q
              · rw [z, if_neg Bool.false_ne_true] at q
                rw [WB_not, WB_bl]
                refine ⟨fun z => ⟨fun _ => ?_, fun z2 => absurd (by rfl) z2⟩, fun z => ?_⟩
                · rw [z, Bool.true_and] at q
                  have cp : CPow 1 w := ⟨by omega, by omega, by decide⟩
                  simp!
                  refine ⟨fun e => ⟨cp, fun e2 => ⟨fun e3 => ⟨cp, ?_⟩, fun e3 => ?_⟩, fun e2 => ?_⟩, fun e => ?_⟩
                  · rw [decide_eq_true ⟨e, e2⟩, Bool.true_and] at q
                    simp only [e3, true_and] at q
                    exact q
                  · rw [decide_eq_false (p := 0 ≤ j ∧ _) fun z => e3 z.1, Bool.and_false] at q
                    exact q
                  · rw [decide_eq_false fun z => e2 z.2, Bool.false_and] at q
                    exact q
                  · rw [decide_eq_false fun z => e z.1, Bool.false_and] at q
                    exact q
                · rw [z, Bool.false_and] at q
                  exact q
          · have q2 : Q (.bl false) [] := by rw [itemB_long] at q; exact q
            have l4 : ∀ n : Int, n ≤ 3 → ((((x :: y :: z :: r).length + 1 : Nat) : Int) = n) → False := fun n hn e => by
              simp only [List.length_cons] at e
              omega
            rw [WB_bl]
            refine ⟨fun _ => ⟨fun z => (l4 _ (by decide) z).elim, fun _ => q2⟩, fun _ => frz_keep fa (W_eqT ha sFr ?_)⟩
            rw [WB_bl]
            refine ⟨fun _ => ⟨fun z => (l4 _ (by decide) z).elim, fun _ => q2⟩, fun _ => frz_keep fa (W_neT ha sBi ?_)⟩
            rw [WB_bl]
            exact ⟨fun _ => q2, fun _ => ⟨fun z => (l4 _ (by decide) z).elim, fun _ => q2⟩⟩
theorem W_inT2 {neg : Bool} {k a b : Int} {Q : D → Prop} (q : Q (.bl (if neg then !(decide (k = a) || decide (k = b)) else (decide (k = a) || decide (k = b))))) : W (opIn neg (.int k) (.tup [.int a, .int b])) Q := by
  refine ⟨_, ?_, q⟩
  have e : ∀ x : Int, deq (.int x) (.int k) = decide (k = x) := fun x => by
    unfold deq
    simp only [toP, PyData.eqv]
    rw [Bool.beq_eq_decide_eq, Bool.eq_iff_iff]
    simp only [decide_eq_true_eq]
    exact ⟨fun h => h.symm, fun h => h.symm⟩
  have e2 : ([D.int a, D.int b].any fun z => deq z (.int k)) = (decide (k = a) || decide (k = b)) := by rw [List.any_cons, List.any_cons, List.any_nil, e, e, Bool.or_false]
  rw [← e2]
  rfl
def Wp? (vs : List Nat) (ρ : Ev) (K : Ev → Prop) : Prop := K (wipeE vs ρ)
theorem Wp_nil {ρ : Ev} {K : Ev → Prop} : Wp? [] ρ K = K ρ := rfl
theorem Wp_cons {v : Nat} {vs : List Nat} {ρ : Ev} {K : Ev → Prop} : Wp? (v :: vs) ρ K = Wp? vs ρ fun r => Put? r v none K := rfl
theorem W_cCons {gg : DG} {c e : DE} {vs : List Nat} {ρ : Ev} {Q : List D → Ev → Prop} {d : D} {ds : List D} : W2 (compL gg c e vs (d :: ds) ρ) Q = W (gg d ρ) fun ρ1 => W2 (c ρ1) fun b ρ2 => WB b (W2 (e ρ2) fun y ρ3 => Wp? vs ρ3 fun r => W2 (compL gg c e vs ds r) fun ys ρ4 => Q (y :: ys) ρ4) (Wp? vs ρ2 fun r => W2 (compL gg c e vs ds r) Q) := W_compL_cons
theorem W_allX {xs : List D} {Q : D → Prop} : W (biAll [.lst xs]) Q = W (bools xs) fun bs => Q (.bl (bs.all id)) := by
  show W ((bools xs).bind _) Q = _
  rw [W_bind]
  simp only [W_some]
theorem W_bools_nil {Q : List Bool → Prop} : W (bools []) Q = Q [] := W_some
theorem W_bools_cons {b : Bool} {ds : List D} {Q : List Bool → Prop} : W (bools (.bl b :: ds)) Q = W (bools ds) fun r => Q (b :: r) := by
  rw [bools, W_bind]
  simp only [W_some]
theorem W_sl1' {a : D} {r : List D} {Q : D → Prop} : W (opSl (.tup (a :: r)) (some 1) none) Q = Q (.tup r) := propext
  ⟨fun ⟨d, e, q⟩ => by
    obtain ⟨d2, e2, q2⟩ := W_sl1 (a := a) (r := r) (Q := fun d => d = .tup r) rfl
    rw [e] at e2
    cases e2
    rw [q2] at q
    exact q, fun q => W_sl1 q⟩
theorem excl3 (k : Str) : ((k == ("is" : Str)) = true → (k == ("from" : Str)) = false ∧ (k == ("bits" : Str)) = false) ∧ ((k == ("from" : Str)) = true → (k == ("is" : Str)) = false) ∧ ((k == ("from" : Str)) = true → (k == ("bits" : Str)) = false) := by
  refine ⟨fun h => ?_, fun h => ?_, fun h => ?_⟩ <;> rw [eq_of_beq h]
  · exact ⟨s_if, s_ib⟩
  · exact s_fi
  · exact s_fb
theorem itemB_nostr {w s : Int} {a : D} {r : List D} (x : isS "is" a = false) (y : isS "from" a = false) (z : isS "bits" a = false) : itemB w s (.tup (a :: r)) = false := by
  unfold itemB
  split
  · rename_i e
    cases e
    rw [x]; rfl
  · rename_i e
    cases e
    rw [x, y, z]; rfl
  · rfl
theorem W_lis_item {w s : Int} {d : D} {Q : D → List D → Prop} (h1 : 1 ≤ w) (h2 : w ≤ 40) (hs : s = 0 ∨ s = 1) (h : thg d = true) (q : Q (.bl (itemB w s d)) []) : W2 (c_lis_item [.int w, .int s, d]) Q := by
  have S1 := pow2_pos w
  have pu := thg_pu h
  have nt := thg_nt h
  unfold c_lis_item g_lis_item
  cases d with
  | non => simp!; exact q
  | bl b => simp!; exact q
  | int i => simp!; exact q
  | str s => simp!; exact q
  | lst ds => rw [nt_l] at nt; simp! [nt]; exact q
  | scr ns => cases h
  | dct _ => cases h
  | dix _ _ => cases h
  | odx _ _ => cases h
  | otp _ => cases h
  | kt _ => cases h
  | exc => cases h
  | ty n => cases h
  | own ds => cases h
  | tup ds =>
    rw [nt_t] at nt
    cases ds with
    | nil =>
      simp!
      refine W_inT2 ?_
      simp!
      exact q
    | cons a r =>
      have ha := thg_in (.inl h) (List.mem_cons_self (a := a) (l := r))
      have hr : ∀ x ∈ r, thg x = true := fun x hx => thg_in (.inl h) (List.mem_cons_of_mem _ hx)
      have hl : (a :: r).length ≤ 1000000 := by
        have := (Bool.and_eq_true_iff.mp h).1
        rw [plain, Bool.and_eq_true, decide_eq_true_eq] at this
        exact this.1
      rw [List.length_cons] at hl
      have fa := thg_frz ha
      simp! [nt]
      refine W_inT2 ?_
      rw [if_pos rfl, WB_not, WB_bl]
      refine ⟨fun zl => ?_, fun zl => ?_⟩
      · refine frz_keep fa ⟨thg_nt ha, ?_⟩
        cases a with
        | str k =>
          rw [it_str_s, WB_true]
          refine W_sl1 ?_
          simp!
          refine W_mapB numB (fun x hx => ?_) ?_
          · simp!
            refine ⟨thg_pu (hr x hx), W_is_number (hr x hx) ?_⟩
            simp!
            rfl
          · simp! [List.length_map]
            refine ⟨by omega, ?_⟩
            rw [mapB_id]
            cases ze : r.all numB with
            | false =>
              simp!
              rw [itemB_num ze] at q
              exact q
            | true =>
              simp!
              refine W_least h1 h2 hs ?_
              simp!
              rw [Int.one_mul]
              refine ⟨⟨by omega, by omega, by decide⟩, ?_⟩
              rcases r with _ | ⟨x, _ | ⟨y, _ | ⟨z, r⟩⟩⟩
              · exact absurd zl (by simp)
              · obtain ⟨i, rfl⟩ := num_int ze (List.mem_cons_self)
                have e1 : itemB w s (.tup [.str k, .int i]) = ((k == ("is" : Str)) && (decide (lowN w s ≤ i) && decide (i < lowN w s + 2 ^ w.toNat))) := rfl
                rw [e1] at q
                have n23 : ((([D.int i].length + 1 : Nat) : Int) = 3) = False := by simp
                have n22 : ((([D.int i].length + 1 : Nat) : Int) = 2) = True := by simp
                simp only [n23, n22]
                simp! [↓W_cCons, ↓W_compL_nil, ↓Wp_nil, ↓Wp_cons, ↓W_allX, ↓W_bools_nil, ↓W_bools_cons, ↓W_sl1', List.all_cons, List.all_nil, id_eq]
                obtain ⟨x1, x2, x3⟩ := excl3 k
                generalize (k == ("is" : Str)) = p1 at q x1 x2 x3 ⊢
                generalize (k == ("from" : Str)) = p2 at q x1 x2 x3 ⊢
                generalize (k == ("bits" : Str)) = p3 at q x1 x2 x3 ⊢
                generalize lowN w s + 2 ^ w.toNat = hi at q ⊢
                generalize lowN w s = lo at q ⊢
                clear e1 n22 n23 ze nt pu h zl hl hr fa ha
                have c3 : (((2 : Nat) : Int) = 3) = False := by simp
                have c2 : (((2 : Nat) : Int) = 2) = True := by simp
                simp only [c2, c3]
                by_cases a1 : lo ≤ i <;> by_cases a2 : i < hi <;> cases p1 <;> cases p2 <;> cases p3 <;> (try simp only [a1, a2, decide_true, decide_false, Bool.and_true, Bool.true_and, Bool.false_and, Bool.and_false, true_implies, false_implies, implies_true, and_true, true_and, and_self, false_and, and_false, not_true_eq_false, not_false_eq_true, if_true, if_false, Bool.false_eq_true, ite_true, ite_false, WB] at q) <;> (try simp only [a1, a2, decide_true, decide_false, Bool.and_true, Bool.true_and, Bool.false_and, Bool.and_false, true_implies, false_implies, implies_true, and_true, true_and, and_self, false_and, and_false, not_true_eq_false, not_false_eq_true, if_true, if_false, Bool.false_eq_true, ite_true, ite_false, WB]) <;> first | exact q | (exact absurd (x1 rfl).1 (by decide)) | (exact absurd (x1 rfl).2 (by decide)) | (exact absurd (x3 rfl) (by decide))
              · obtain ⟨i, rfl⟩ := num_int ze (List.mem_cons_self)
                obtain ⟨j, rfl⟩ := num_int ze (List.mem_cons_of_mem _ List.mem_cons_self)
                have e1 : itemB w s (.tup [.str k, .int i, .int j]) = if k == ("is" : Str) then false else if k == ("from" : Str) then decide (lowN w s ≤ i) && (decide (i ≤ j) && decide (j < lowN w s + 2 ^ w.toNat)) else k == ("bits" : Str) && (decide (0 ≤ i ∧ i < 2 ^ w.toNat) && decide (0 ≤ j ∧ j < 2 ^ w.toNat)) := rfl
                rw [e1] at q
                have n23 : ((([D.int i, D.int j].length + 1 : Nat) : Int) = 3) = True := by simp
                have n22 : ((([D.int i, D.int j].length + 1 : Nat) : Int) = 2) = False := by simp
                simp only [n23, n22]
                simp! [↓W_cCons, ↓W_compL_nil, ↓Wp_nil, ↓Wp_cons, ↓W_allX, ↓W_bools_nil, ↓W_bools_cons, ↓W_sl1', List.all_cons, List.all_nil, id_eq]
                obtain ⟨x1, x2, x3⟩ := excl3 k
                generalize (k == ("is" : Str)) = p1 at q x1 x2 x3 ⊢
                generalize (k == ("from" : Str)) = p2 at q x1 x2 x3 ⊢
                generalize (k == ("bits" : Str)) = p3 at q x1 x2 x3 ⊢
                have c3 : (((3 : Nat) : Int) = 3) = True := by simp
                have c2 : (((3 : Nat) : Int) = 2) = False := by simp
                simp only [c2, c3]
                clear e1 n22 n23 ze nt pu h zl hl hr fa ha c2 c3
                generalize lowN w s + 2 ^ w.toNat = hi at q ⊢
                generalize lowN w s = lo at q ⊢
                generalize (2 : Int) ^ w.toNat = many at q ⊢
                have hm : many ≥ 1 ∨ many < 1 := by omega
                by_cases a1 : lo ≤ i <;> by_cases a2 : i < hi <;> by_cases a3 : lo ≤ j <;> by_cases a4 : j < hi <;> by_cases a5 : i ≤ j <;> cases p1 <;> cases p2 <;> cases p3 <;>
                  first
                  | (exact absurd (x1 rfl).1 (by decide)) | (exact absurd (x1 rfl).2 (by decide)) | (exact absurd (x3 rfl) (by decide))
                  | (exfalso; omega)
                  | ((try simp only [a1, a2, a3, a4, a5, decide_true, decide_false, Bool.and_true, Bool.true_and, Bool.false_and, Bool.and_false, true_implies, false_implies, implies_true, and_true, true_and, and_self, false_and, and_false, not_true_eq_false, not_false_eq_true, if_true, if_false, Bool.false_eq_true, ite_true, ite_false, WB] at q) <;> (try simp only [a1, a2, a3, a4, a5, decide_true, decide_false, Bool.and_true, Bool.true_and, Bool.false_and, Bool.and_false, true_implies, false_implies, implies_true, and_true, true_and, and_self, false_and, and_false, not_true_eq_false, not_false_eq_true, if_true, if_false, Bool.false_eq_true, ite_true, ite_false, WB]) <;> exact q)
                  | (by_cases b1 : 0 ≤ i <;> by_cases b2 : 0 ≤ j <;> by_cases b3 : i < many <;> by_cases b4 : j < many <;> (try simp only [b1, b2, b3, b4, a1, a2, a3, a4, a5, decide_true, decide_false, Bool.and_true, Bool.true_and, Bool.false_and, Bool.and_false, true_implies, false_implies, implies_true, and_true, true_and, and_self, false_and, and_false, not_true_eq_false, not_false_eq_true, if_true, if_false, Bool.false_eq_true, ite_true, ite_false, WB] at q) <;> (try simp only [b1, b2, b3, b4, a1, a2, a3, a4, a5, decide_true, decide_false, Bool.and_true, Bool.true_and, Bool.false_and, Bool.and_false, true_implies, false_implies, implies_true, and_true, true_and, and_self, false_and, and_false, not_true_eq_false, not_false_eq_true, if_true, if_false, Bool.false_eq_true, ite_true, ite_false, WB]) <;> exact q)
              · exact absurd zl (by simp; omega)
        | tup ds =>
          rw [itemB_nostr rfl rfl rfl] at q
          simp!
          exact q
        | lst ds =>
          rw [itemB_nostr rfl rfl rfl] at q
          simp!
          exact q
        | non =>
          rw [itemB_nostr rfl rfl rfl] at q
          simp!
          exact q
        | bl b =>
          rw [itemB_nostr rfl rfl rfl] at q
          simp!
          exact q
        | int b =>
          rw [itemB_nostr rfl rfl rfl] at q
          simp!
          exact q
        | scr _ => cases ha
        | dct _ => cases ha
        | dix _ _ => cases ha
        | odx _ _ => cases ha
        | otp _ => cases ha
        | kt _ => cases ha
        | exc => cases ha
        | ty _ => cases ha
        | own _ => cases ha
      · have q2 : Q (.bl false) [] := by
          rcases r with _ | ⟨x, _ | ⟨y, _ | ⟨z, r⟩⟩⟩
          · exact q
          · exact absurd zl (by simp)
          · exact absurd zl (by simp)
          · rw [itemB_long] at q; exact q
        exact q2
def kindB (a b : D) : Bool := match a, b with
  | .int w, .int s => decide (1 ≤ w ∧ w ≤ 40) && (decide (s = 0) || decide (s = 1))
  | _, _ => false
theorem kindB_no {a b : D} (h : numB a = false ∨ numB b = false) : kindB a b = false := by
  unfold kindB
  split
  · rcases h with h | h <;> cases h
  · rfl
theorem W_is_kind {a b : D} {Q : D → List D → Prop} (ha : thg a = true) (hb : thg b = true) (q : Q (.bl (kindB a b)) []) : W2 (c_is_kind [a, b]) Q := by
  have pa := thg_pu ha
  have pb := thg_pu hb
  unfold c_is_kind g_is_kind
  simp!
  refine ⟨pa, W_is_number ha ?_⟩
  cases za : numB a with
  | false =>
    rw [kindB_no (.inl za)] at q
    simp!
    exact q
  | true =>
    simp!
    refine ⟨pb, W_is_number hb ?_⟩
    cases zb : numB b with
    | false =>
      rw [kindB_no (.inr zb)] at q
      simp!
      exact q
    | true =>
      obtain ⟨w, rfl⟩ := num_int (r := [a]) (by rw [List.all_cons, za]; rfl) List.mem_cons_self
      obtain ⟨s, rfl⟩ := num_int (r := [b]) (by rw [List.all_cons, zb]; rfl) List.mem_cons_self
      simp!
      have e1 : kindB (.int w) (.int s) = (decide (1 ≤ w ∧ w ≤ 40) && (decide (s = 0) || decide (s = 1))) := rfl
      rw [e1] at q
      refine ⟨fun h => ⟨fun h2 => W_inT2 ?_, fun h2 => ?_⟩, fun h => ?_⟩
      · rw [decide_eq_true ⟨h, h2⟩, Bool.true_and] at q
        rw [if_neg Bool.false_ne_true]
        exact q
      · rw [decide_eq_false fun z => h2 z.2, Bool.false_and] at q
        exact q
      · rw [decide_eq_false fun z => h z.1, Bool.false_and] at q
        exact q
def caseB (w s : Int) (c : D) : Bool := match c with | .lst is => is.all (itemB w s) | _ => false
def choiceB (d : D) : Bool := match d with
  | .tup [.int w, .int s, .lst cs] => kindB (.int w) (.int s) && cs.all (caseB w s)
  | _ => false
def lstB (d : D) : Bool := match d with | .lst _ => true | _ => false
theorem isT_lst {d : D} (h : thg d = true) : isT "list" d = lstB d := by cases d <;> first | rfl | cases h
theorem kindB_yes {a b : D} (h : kindB a b = true) : ∃ w s, a = .int w ∧ b = .int s ∧ 1 ≤ w ∧ w ≤ 40 ∧ (s = 0 ∨ s = 1) := by
  unfold kindB at h
  split at h
  · simp only [Bool.and_eq_true, decide_eq_true_eq, Bool.or_eq_true] at h
    exact ⟨_, _, rfl, rfl, h.1.1, h.1.2, h.2⟩
  · cases h
theorem choiceB_kind {a b c : D} (h : kindB a b = false) : choiceB (.tup [a, b, c]) = false := by
  unfold choiceB
  split
  · rename_i e
    cases e
    rw [h]; rfl
  · rfl
theorem choiceB_len {ds : List D} (h : ¬ ds.length = 3) : choiceB (.tup ds) = false := by
  unfold choiceB
  split
  · rename_i e
    cases e
    exact absurd rfl h
  · rfl
theorem case_lst {w s : Int} {cs : List D} (h : cs.all lstB = false) : cs.all (caseB w s) = false := by
  rw [List.all_eq_false] at h ⊢
  obtain ⟨x, hx, n⟩ := h
  refine ⟨x, hx, fun z => n ?_⟩
  unfold caseB at z
  split at z
  · rfl
  · cases z
theorem lst_of {d : D} (h : lstB d = true) : ∃ is, d = .lst is := by cases d <;> first | exact ⟨_, rfl⟩ | cases h
theorem thg_len {ds : List D} (h : thg (.lst ds) = true) : ds.length ≤ 1000000 := by
  have := (Bool.and_eq_true_iff.mp h).1
  rw [plain, Bool.and_eq_true, decide_eq_true_eq] at this
  exact this.1
theorem W_is_choice {d : D} {Q : D → List D → Prop} (h : thg d = true) (q : Q (.bl (choiceB d)) []) : W2 (c_is_choice [d]) Q := by
  have pu := thg_pu h
  have nt := thg_nt h
  unfold c_is_choice g_is_choice
  cases d with
  | non => simp!; exact q
  | bl b => simp!; exact q
  | int i => simp!; exact q
  | str s => simp!; exact q
  | lst ds => rw [nt_l] at nt; simp! [nt]; exact q
  | scr ns => cases h
  | dct _ => cases h
  | dix _ _ => cases h
  | odx _ _ => cases h
  | otp _ => cases h
  | kt _ => cases h
  | exc => cases h
  | ty n => cases h
  | own ds => cases h
  | tup ds =>
    rw [nt_t] at nt
    simp! [nt]
    by_cases h3 : ds.length = 3
    · obtain ⟨a, b, c, rfl⟩ : ∃ a b c, ds = [a, b, c] := by
        rcases ds with _ | ⟨a, _ | ⟨b, _ | ⟨c, _ | ⟨e, r⟩⟩⟩⟩
        · cases h3
        · cases h3
        · cases h3
        · exact ⟨a, b, c, rfl⟩
        · simp at h3
      have ha := thg_in (.inl h) (List.mem_cons_self (a := a))
      have hb := thg_in (.inl h) (List.mem_cons_of_mem a (List.mem_cons_self (a := b)))
      have hc := thg_in (.inl h) (List.mem_cons_of_mem a (List.mem_cons_of_mem b (List.mem_cons_self (a := c))))
      refine ⟨fun _ => ?_, fun z => absurd (by rfl) z⟩
      simp!
      refine frz_keep (thg_frz ha) (frz_keep (thg_frz hb) (W_is_kind ha hb ?_))
      cases zk : kindB a b with
      | false =>
        rw [choiceB_kind zk] at q
        simp!
        exact q
      | true =>
        obtain ⟨w, s, rfl, rfl, w1, w2, hs⟩ := kindB_yes zk
        simp!
        refine frz_keep (thg_frz hc) ⟨thg_nt hc, ?_⟩
        rw [isT_lst hc]
        cases c with
        | lst cs =>
          have hcs : ∀ x ∈ cs, thg x = true := fun x hx => thg_in (.inr hc) hx
          have lcs : cs.length ≤ 1000000 := thg_len hc
          have e1 : choiceB (.tup [.int w, .int s, .lst cs]) = (kindB (.int w) (.int s) && cs.all (caseB w s)) := rfl
          rw [e1, zk, Bool.true_and] at q
          have e2 : lstB (.lst cs) = true := rfl
          rw [e2]
          simp!
          refine W_mapB lstB (fun x hx => ?_) ?_
          · simp!
            exact ⟨thg_pu (hcs x hx), thg_nt (hcs x hx), by rw [isT_lst (hcs x hx)], rfl⟩
          · simp! [List.length_map]
            refine ⟨by omega, ?_⟩
            rw [mapB_id]
            cases zl : cs.all lstB with
            | false =>
              rw [case_lst zl] at q
              simp!
              exact q
            | true =>
              simp!
              refine W_mapB (caseB w s) (fun x hx => ?_) ?_
              · obtain ⟨is, rfl⟩ := lst_of (List.all_eq_true.mp zl x hx)
                have his : ∀ y ∈ is, thg y = true := fun y hy => thg_in (.inr (hcs _ hx)) hy
                have lis : is.length ≤ 1000000 := thg_len (hcs _ hx)
                simp!
                refine W_mapB (itemB w s) (fun y hy => ?_) ?_
                · simp!
                  refine ⟨thg_pu (his y hy), W_is_item w1 w2 hs (his y hy) ?_⟩
                  simp!
                  rfl
                · simp! [List.length_map]
                  refine ⟨by omega, ?_⟩
                  rw [mapB_id]
                  exact ⟨rfl, rfl⟩
              · simp! [List.length_map]
                refine ⟨by omega, ?_⟩
                rw [mapB_id]
                exact q
        | _ =>
          first
          | exact q
          | cases hc
    · refine ⟨fun z => absurd z (by omega), fun _ => ?_⟩
      rw [choiceB_len h3] at q
      exact q
theorem choiceB_nl {a b c : D} (h : lstB c = false) : choiceB (.tup [a, b, c]) = false := by
  unfold choiceB
  split
  · rename_i e
    cases e
    cases h
  · rfl
theorem W_lis_choice {d : D} {Q : D → List D → Prop} (h : thg d = true) (q : Q (.bl (choiceB d)) []) : W2 (c_lis_choice [d]) Q := by
  have pu := thg_pu h
  have nt := thg_nt h
  unfold c_lis_choice g_lis_choice
  cases d with
  | non => simp!; exact q
  | bl b => simp!; exact q
  | int i => simp!; exact q
  | str s => simp!; exact q
  | lst ds => rw [nt_l] at nt; simp! [nt]; exact q
  | scr ns => cases h
  | dct _ => cases h
  | dix _ _ => cases h
  | odx _ _ => cases h
  | otp _ => cases h
  | kt _ => cases h
  | exc => cases h
  | ty n => cases h
  | own ds => cases h
  | tup ds =>
    rw [nt_t] at nt
    simp! [nt]
    by_cases h3 : ds.length = 3
    · obtain ⟨a, b, c, rfl⟩ : ∃ a b c, ds = [a, b, c] := by
        rcases ds with _ | ⟨a, _ | ⟨b, _ | ⟨c, _ | ⟨e, r⟩⟩⟩⟩
        · cases h3
        · cases h3
        · cases h3
        · exact ⟨a, b, c, rfl⟩
        · simp at h3
      have ha := thg_in (.inl h) (List.mem_cons_self (a := a))
      have hb := thg_in (.inl h) (List.mem_cons_of_mem a (List.mem_cons_self (a := b)))
      have hc := thg_in (.inl h) (List.mem_cons_of_mem a (List.mem_cons_of_mem b (List.mem_cons_self (a := c))))
      refine ⟨fun _ => ?_, fun z => absurd (by rfl) z⟩
      simp!
      refine frz_keep (thg_frz hc) ⟨thg_nt hc, ?_⟩
      rw [isT_lst hc]
      cases zc : lstB c with
      | false =>
        rw [choiceB_nl zc] at q
        simp!
        exact q
      | true =>
        obtain ⟨cs, rfl⟩ := lst_of zc
        have hcs : ∀ x ∈ cs, thg x = true := fun x hx => thg_in (.inr hc) hx
        simp!
        refine ⟨thg_pu ha, W_is_number ha ?_⟩
        cases za : numB a with
        | false =>
          rw [choiceB_kind (kindB_no (.inl za))] at q
          simp!
          exact q
        | true =>
          simp!
          refine ⟨thg_pu hb, W_is_number hb ?_⟩
          cases zb : numB b with
          | false =>
            rw [choiceB_kind (kindB_no (.inr zb))] at q
            simp!
            exact q
          | true =>
            obtain ⟨w, rfl⟩ := num_int (r := [a]) (by rw [List.all_cons, za]; rfl) List.mem_cons_self
            obtain ⟨s, rfl⟩ := num_int (r := [b]) (by rw [List.all_cons, zb]; rfl) List.mem_cons_self
            have no : kindB (.int w) (.int s) = false → Q (.bl false) [] := fun z => by
              rw [choiceB_kind z] at q
              exact q
            have e1 : kindB (.int w) (.int s) = (decide (1 ≤ w ∧ w ≤ 40) && (decide (s = 0) || decide (s = 1))) := rfl
            rw [e1] at no
            have no1 : ¬ (1 ≤ w ∧ w ≤ 40) → Q (.bl false) [] := fun z => no (by rw [decide_eq_false z]; rfl)
            have no2 : ¬ (0 ≤ s ∧ s ≤ 1) → Q (.bl false) [] := fun z => no (by rw [decide_eq_false (p := s = 0) (by omega), decide_eq_false (p := s = 1) (by omega), Bool.or_false, Bool.and_false])
            simp!
            refine ⟨fun w1 => ⟨fun w2 => ⟨fun s1 => ⟨fun s2 => ?_, fun z => no2 (by omega)⟩, fun z => no2 (by omega)⟩, fun z => no1 (by omega)⟩, fun z => no1 (by omega)⟩
            have hs : s = 0 ∨ s = 1 := by omega
            have zk : kindB (.int w) (.int s) = true := by
              rw [e1, decide_eq_true ⟨w1, w2⟩]
              rcases hs with rfl | rfl <;> rfl
            have e2 : choiceB (.tup [.int w, .int s, .lst cs]) = (kindB (.int w) (.int s) && cs.all (caseB w s)) := rfl
            rw [e2, zk, Bool.true_and] at q
            refine W_forL (fun pre ρ => (∃ x1, ρ = [some (.tup [.int w, .int s, .lst cs]), x1, some (.int w), some (.int s), some (.lst cs), none]) ∧ pre.all (caseB w s) = true) ⟨⟨_, rfl⟩, rfl⟩ (fun pre x post ρ e hi => ?_) (fun ρ hi => ?_)
            · obtain ⟨⟨x1, rfl⟩, hp⟩ := hi
              have hx : x ∈ cs := by rw [e]; exact List.mem_append.mpr (.inr List.mem_cons_self)
              have bad : caseB w s x = false → Q (.bl false) [] := fun z => by
                rw [e, List.all_append, List.all_cons, z, Bool.false_and, Bool.and_false] at q
                exact q
              have good : caseB w s x = true → (pre ++ [x]).all (caseB w s) = true := fun z => by
                rw [List.all_append, hp, List.all_cons, z]
                rfl
              simp!
              refine ⟨thg_pu (hcs x hx), thg_nt (hcs x hx), ?_⟩
              rw [isT_lst (hcs x hx)]
              cases zl : lstB x with
              | false =>
                simp!
                refine bad ?_
                unfold caseB
                split
                · cases zl
                · rfl
              | true =>
                obtain ⟨is, rfl⟩ := lst_of zl
                have his : ∀ y ∈ is, thg y = true := fun y hy => thg_in (.inr (hcs _ hx)) hy
                have lis : is.length ≤ 1000000 := thg_len (hcs _ hx)
                simp!
                refine W_mapB (itemB w s) (fun y hy => ?_) ?_
                · simp!
                  refine ⟨thg_pu (his y hy), W_lis_item w1 w2 hs (his y hy) ?_⟩
                  simp!
                  rfl
                · simp! [List.length_map]
                  refine ⟨by omega, ?_⟩
                  rw [mapB_id]
                  cases zi : is.all (itemB w s) with
                  | true =>
                    simp!
                    exact ⟨⟨_, rfl⟩, good zi⟩
                  | false =>
                    simp!
                    exact bad zi
            · obtain ⟨⟨x1, rfl⟩, hp⟩ := hi
              rw [hp] at q
              simp!
              exact q
    · refine ⟨fun z => absurd z (by omega), fun _ => ?_⟩
      rw [choiceB_len h3] at q
      exact q
/-! ### small data is data that can be compared -/
mutual
theorem rpk_thg : ∀ d : D, rpk d = true → rpn d ≤ 1000000 → plain d = true ∧ noTy d = true ∧ (toP d).canLay0 = true
  | .non, _, _ => ⟨rfl, rfl, rfl⟩
  | .bl b, _, _ => ⟨rfl, rfl, rfl⟩
  | .int i, _, _ => ⟨rfl, rfl, rfl⟩
  | .str s, h, _ => ⟨by
      have h2 : PyData.strOk s = true := h
      show ((true : Bool) && (PyData.strOk s && decide ((0 : Nat) ≤ 64))) = true
      rw [h2]
      rfl, rfl, h⟩
  | .ty _, h, _ => by cases h
  | .own _, h, _ => by cases h
  | .scr _, h, _ => by cases h
  | .dct _, h, _ => by cases h
  | .dix _ _, h, _ => by cases h
  | .odx _ _, h, _ => by cases h
  | .otp _, h, _ => by cases h
  | .kt _, h, _ => by cases h
  | .exc _ _ _, h, _ => by cases h
  | .tup ds, h, l => by
    obtain ⟨a, b, c, e⟩ := rpkL_thg ds h l
    exact ⟨by rw [plain, a, decide_eq_true (by rw [rpn] at l; omega)]; rfl, by rw [noTy]; exact b, by rw [toP, PyData.canLay0]; exact c⟩
  | .lst ds, h, l => by
    obtain ⟨a, b, c, e⟩ := rpkL_thg ds h l
    exact ⟨by rw [plain, a, decide_eq_true (by rw [rpn] at l; omega)]; rfl, by rw [noTy]; exact b, by rw [toP, PyData.canLay0]; exact c⟩
theorem rpkL_thg : ∀ ds : List D, rpkL ds = true → rpnL ds ≤ 1000000 → plainL ds = true ∧ noTyL ds = true ∧ PyData.canLayAll0 (toPL ds) = true ∧ ds.length ≤ rpnL ds
  | [], _, _ => ⟨rfl, rfl, rfl, Nat.le_refl _⟩
  | d :: ds, h, l => by
    rw [rpkL, Bool.and_eq_true] at h
    rw [rpnL] at l
    obtain ⟨a, b, c⟩ := rpk_thg d h.1 (by omega)
    obtain ⟨a', b', c', e'⟩ := rpkL_thg ds h.2 (by omega)
    refine ⟨by rw [plainL, a, a']; rfl, by rw [noTyL, b, b']; rfl, by rw [toPL, PyData.canLayAll0, c, c']; rfl, ?_⟩
    rw [List.length_cons, rpnL]
    omega
end
theorem rp_thg {d : D} (h : rpOk d = true) : thg d = true := by
  unfold rpOk at h
  rw [Bool.and_eq_true, Bool.and_eq_true] at h
  have h2 : rpn d ≤ 100000 := of_decide_eq_true h.1.2
  have h3 : dpt d ≤ 60 := of_decide_eq_true h.2
  obtain ⟨a, b, c⟩ := rpk_thg d h.1.1 (by omega)
  obtain ⟨_, _, _, _, _, e⟩ := rpk_ok d h.1.1
  unfold thg shp SeqAt.shaped
  rw [a, b, c, e, decide_eq_true (by omega)]
  rfl
end Pd

namespace Pd
open PySem PySem.Spec PyProof.Rows L2
/-! ### an own list is looked at and stays own -/
def dOpL (r : D → D → Option D) (i : Nat) (g : DE) : DE := fun ρ => match ρ[i]? with
  | some (some _) => (g ρ).bind fun q => match q.2[i]? with
    | some (some d) => (r (frz d) q.1).bind fun e => if e.flat = true then some (e, q.2) else none
    | _ => none
  | _ => none
def dSlO (i : Nat) (l h : DO) : DE := fun ρ => match ρ[i]? with
  | some (some _) => (l ρ).bind fun q => (h q.2).bind fun z => match z.2[i]? with
    | some (some (.own ds)) => if ds.all D.pu = true then some (.own (cutD ds q.1 z.1), z.2) else none
    | some (some (.lst ds)) => if ds.all D.pu = true then some (.own (cutD ds q.1 z.1), z.2) else none
    | _ => none
  | _ => none
section
variable {X : Cx} {b : Expr} {g : DE} {pos p2 : Pos}
theorem tE_opL {R : R2} {r : D → D → Option D} (o : OpD X.K R r) {i : Nat} {σ : L2.St} {H : Hp} {Q : VK} (hq : tE X.K (dOpL r i g) σ H Q) : ∃ v, σ[i]? = some (some v) ∧ tE X.K g σ H fun y H' => R v y H' Q := by
  obtain ⟨G, ρ, L, d, ρ', h1, h2, h3, q⟩ := hq
  unfold dOpL at h3
  split at h3
  · rename_i d0 hd0
    obtain ⟨⟨d1, ρ1⟩, e1, h3⟩ := Option.bind_eq_some_iff.mp h3
    dsimp only at h3
    split at h3
    · rename_i d2 hd2
      obtain ⟨d3, e3, h3⟩ := Option.bind_eq_some_iff.mp h3
      split at h3
      · rename_i hf
        cases h3
        obtain ⟨v0, M0, R0, s1, _⟩ := h2.at hd0
        refine ⟨v0, s1, G, ρ, L, _, _, h1, h2, e1, fun y G1 H1 L1 a1 b1 c1 r1 => ?_⟩
        have a0 : Sta G1 H1 (L1 ++ []) := by rw [List.append_nil]; exact a1
        obtain ⟨f1, f2, f3⟩ := a0.freeze
        have hin : ∀ a us, (a, us) ∈ L1 → addF G1 L1 a = some us := fun a us m => addF_in a1.nd m
        obtain ⟨v1, t1, t2⟩ := c1.all f3 hin hd2
        rw [s1] at t1
        cases t1
        refine o v0 y _ _ _ (addF G1 L1) H1 [] Q f1 t2 (r1.mono f3) e3 fun v G' H' M a b o => ?_
        have rv := (o.rep (by cases d <;> first | rfl | cases hf)).1
        have s9 : Sta G1 H' L1 := ⟨f3.trans (b.ex.trans a.ex), fun p us m => a.ex p _ (b.ex p _ (hin p us m)), a1.out, a1.nd⟩
        have p9 : Stp G1 H1 L1 G1 H' L1 := ⟨Ex.refl _, fun a o ha ga ka => by
          obtain ⟨y1, _, _⟩ := b.fr a o ha (by rw [addF_out ka]; exact ga) not_key_nil
          exact ⟨y1, ga, ka⟩⟩
        exact q v G1 H' L1 s9 (b1.trans p9) c1 (rv.of_flat hf)
      · cases h3
    · cases h3
  · cases h3
theorem se_opL (i : Nat) {x : Str} {px : Pos} {op : CmpOp} {R : R2} {r : D → D → Option D} (ho : OpR X (compareOp op) R) (o : OpD X.K R r) (hb : SE X b g) (hm : behindInMarks op b = false) (hN : X.N[i]? = some x := by rfl) (hv : Vis X.env.scope x := by first | exact Or.inl rfl | exact Or.inr (Or.inl rfl) | exact Or.inr (Or.inr rfl)) (hd : (x == ("__debug__" : Str)) = false := by decide)
    (hcd : (x == ("__classdict__" : Str)) = false := by decide) : SE X (.Compare (.Name x px) [op] [b] pos) (dOpL r i g) :=
  pe_weak (pe_cmpR ho (pe_var hN hv hd hcd) hb hm) fun _ _ _ hq => tE_opL o hq
theorem st_opL (i : Nat) {x : Str} {px : Pos} {op : CmpOp} {R : R2} {r : D → D → Option D} (ho : OpR X (compareOp op) R) (o : OpD X.K R r) (hb : SE X b g) (hm : behindInMarks op b = false) (hN : X.N[i]? = some x := by rfl) (hv : Vis X.env.scope x := by first | exact Or.inl rfl | exact Or.inr (Or.inl rfl) | exact Or.inr (Or.inr rfl)) (hd : (x == ("__debug__" : Str)) = false := by decide)
    (hcd : (x == ("__classdict__" : Str)) = false := by decide) : ST X (.Compare (.Name x px) [op] [b] pos) (dOpL r i g) :=
  pt_weak (pt_cmpR ho (pe_var hN hv hd hcd) hb hm) fun _ _ _ hq => tT_of (fun _ _ _ z => tE_opL o z) hq
theorem sn_slO (i : Nat) {x : Str} {px : Pos} {lo hi : Option Expr} {l h : DO} (hl : SO X lo l) (hh : SO X hi h) (hN : X.N[i]? = some x := by rfl) (hv : Vis X.env.scope x := by first | exact Or.inl rfl | exact Or.inr (Or.inl rfl) | exact Or.inr (Or.inr rfl)) (hd : (x == ("__debug__" : Str)) = false := by decide)
    (hcd : (x == ("__classdict__" : Str)) = false := by decide) : SN X (.Subscript (.Name x px) (.Slice lo hi none p2) pos) (dSlO i l h) :=
  pe_weak (pe_slice (r := rSlB X.K) (sl_list.or sl_tupA) (pe_var hN hv hd hcd) hl hh) fun σ H Q ⟨G, ρ, L, d, ρ', h1, h2, h3, q⟩ => by
    unfold dSlO at h3
    split at h3
    · rename_i d0 hd0
      obtain ⟨⟨o2, ρ2⟩, e2, h3⟩ := Option.bind_eq_some_iff.mp h3
      obtain ⟨⟨o3, ρ3⟩, e3, h3⟩ := Option.bind_eq_some_iff.mp h3
      dsimp only at h3 e3
      split at h3
      · rename_i ds hds
        split at h3
        · rename_i hp
          cases h3
          obtain ⟨v0, M0, R0, s1, _⟩ := h2.at hd0
          refine ⟨v0, s1, G, ρ, L, o2, ρ2, h1, h2, e2, fun G2 H2 L2 a2 b2 c2 => ⟨G2, ρ2, L2, o3, _, a2, c2, e3, fun G3 H3 L3 a3 b3 c3 => ?_⟩⟩
          obtain ⟨v, M, R, t1, t2, t3, _⟩ := c3.at hds
          rw [s1] at t1
          cases t1
          cases t2 with
          | own ow =>
            have hh := a3.hold _ _ (t3.mem_iff.mpr (List.mem_append.mpr (.inl List.mem_cons_self)))
            have hr := (ow.repL hp).1
            refine .inl ⟨_, _, rfl, sqL_of hh, fun p hp => ?_⟩
            obtain ⟨z1, z2⟩ := a3.newOwn _ hp
            exact q _ _ _ [_] L3 z1 ((b2.trans b3).trans z2) c3 (.own (hr.cut o2 o3).ownL)
          | pure r => cases r
        · cases h3
      · rename_i ds hds
        split at h3
        · rename_i hp
          cases h3
          obtain ⟨v0, M0, R0, s1, _⟩ := h2.at hd0
          refine ⟨v0, s1, G, ρ, L, o2, ρ2, h1, h2, e2, fun G2 H2 L2 a2 b2 c2 => ⟨G2, ρ2, L2, o3, _, a2, c2, e3, fun G3 H3 L3 a3 b3 c3 => ?_⟩⟩
          obtain ⟨v, M, R, t1, t2, t3, _⟩ := c3.at hds
          rw [s1] at t1
          cases t1
          cases (t2.rep rfl).1 with
          | lst hs hr =>
            refine .inl ⟨_, _, rfl, a3.ex.sqL (sqL_of hs), fun p hp => ?_⟩
            obtain ⟨z1, z2⟩ := a3.newOwn _ hp
            exact q _ _ _ [_] L3 z1 ((b2.trans b3).trans z2) c3 (.own (hr.cut o2 o3).ownL)
        · cases h3
      · cases h3
    · cases h3
end
section
variable {f g : DE} {l h : DO} {ρ : Ev} {Q : D → Ev → Prop} {i : Nat} {r : D → D → Option D}
theorem W_opL : W2 (dOpL r i g ρ) Q = At? ρ i fun _ => W2 (g ρ) fun b ρ1 => At? ρ1 i fun d => Frz? d fun a => W (r a b) fun e => e.flat = true ∧ Q e ρ1 := by
  unfold dOpL
  split
  · rename_i d e
    rw [At_some e]
    simp only [W2_bind, W_pair]
    congr; funext b ρ1
    split
    · rename_i d2 e2
      rw [At_some e2]
      simp only [W2_bind, W2_guard, W2_some, Frz?]
    · rw [At_no (by assumption), W2_none]
  · rw [At_no (by assumption), W2_none]
theorem W_slO : W2 (dSlO i l h ρ) Q = At? ρ i fun _ => W2 (l ρ) fun lo ρ1 => W2 (h ρ1) fun hi ρ2 => At? ρ2 i fun d => OnOL d fun ds => ds.all D.pu = true ∧ Q (.own (cutD ds lo hi)) ρ2 := by
  unfold dSlO
  split
  · rename_i d e
    rw [At_some e]
    simp only [W2_bind, W_pair]
    congr; funext lo ρ1
    congr; funext hi ρ2
    split
    · rename_i ds e2
      rw [At_some e2]
      simp only [OnOL, W2_guard, W2_some]
    · rename_i ds e2
      rw [At_some e2]
      simp only [OnOL, W2_guard, W2_some]
    · rename_i z z'
      unfold At?
      split
      · rename_i d2 e2
        cases d2 with
        | own ds => exact (z _ e2).elim
        | lst ds => exact (z' _ e2).elim
        | _ => exact W2_none
      · exact W2_none
  · rw [At_no (by assumption), W2_none]
end
end Pd

namespace Pd
open PySem PySem.Spec PyProof.Rows L2
/-- _law_stretches(_law_tape_here, _law_many) -/
def g_stretches : DS := (dSeq (dSet 2 (dFz (dOp opIx (dFz (dLst (dCons (dInt 0) (dCons (dOp opSub (dFz (dCall1 (Pd.c_take 2) (rRef 0 (rVal (dInt 100) rNil)))) (dInt 50)) (dCons (dOp opSub (dFz (dCall1 (Pd.c_take 2) (rRef 0 (rVal (dOp opPow (dInt 10) (dInt 9)) rNil)))) (dOp opPow (dInt 10) (dInt 8))) (dCons (dOp opSub (dInt 0) (dOp opShl (dInt 1) (dInt 39))) dNil)))))) (dFz (dCall1 (Pd.c_take 2) (rRef 0 (rVal (dInt 4) rNil)))))))
  (dSeq (dSet 3 (dFz (dOp opAdd (dInt 2) (dFz (dCall1 (Pd.c_take 2) (rRef 0 (rVal (dInt 4) rNil)))))))
  (dSeq (dSet 4 (dLst dNil))
  (dSeq (dFor (iRg1 (dVar 1)) (gNam 5) (dSeq (dSet 6 (dFz (dOp opIx (dFz (dLst (dCons (dOp opPow (dInt 10) (dInt 9)) (dCons (dOp opPow (dInt 10) (dInt 12)) dNil)))) (dFz (dCall1 (Pd.c_take 2) (rRef 0 (rVal (dInt 2) rNil)))))))
  (dSeq (dSet 7 (dFz (dLst (dCons (dInt 1) (dCons (dInt 1) (dCons (dInt 1) (dCons (dFz (dOp opAdd (dInt 2) (dFz (dCall1 (Pd.c_take 2) (rRef 0 (rVal (dInt 4) rNil)))))) (dCons (dFz (dOp opAdd (dInt 2) (dFz (dCall1 (Pd.c_take 2) (rRef 0 (rVal (dInt 30) rNil)))))) (dCons (dFz (dOp opAdd (dInt 1) (dFz (dCall1 (Pd.c_take 2) (rRef 0 (rVal (dVar 6) rNil)))))) dNil)))))))))
  (dSeq (dSet 7 (dFz (dOp opIx (dVar 7) (dBi biMax2 (dCons (dInt 0) (dCons (dOp opSub (dFz (dCall1 (Pd.c_take 2) (rRef 0 (rVal (dInt 11) rNil)))) (dInt 5)) dNil))))))
  (dSeq (dSet 8 (dFz (dCall1 (Pd.c_take 2) (rRef 0 (rVal (dVar 3) rNil)))))
  (dSeq (dIfS (dAnd (dOpL opNe 4 (dFz (dLst dNil))) (dOp opEq (dFz (dOp opIx (dIxO 4 (dUn unNeg (dInt 1))) (dInt 2))) (dVar 8))) (dSet 8 (dOp opMod (dFz (dOp opAdd (dFz (dOp opAdd (dVar 8) (dInt 1))) (dFz (dCall1 (Pd.c_take 2) (rRef 0 (rVal (dOp opSub (dVar 3) (dInt 1)) rNil)))))) (dVar 3))) dSkip)
  (dSeq (dApp 4 (dTup (dCons (dVar 2) (dCons (dOp opSub (dFz (dOp opAdd (dVar 2) (dVar 7))) (dInt 1)) (dCons (dVar 8) dNil)))))
  (dSet 2 (dFz (dOp opAdd (dVar 2) (dVar 7)))))))))))
  (dRet (dMove 4))))))
def c_stretches : Ct := run 9 2 [0] g_stretches
/-- _law_weights(_law_tape_here, _law_many) -/
def g_weights : DS := (dSeq (dSet 2 (dFz (dOp opIx (dFz (dLst (dCons (dInt 2) (dCons (dInt 10) (dCons (dInt 1000) (dCons (dFz (dOp opAdd (dOp opPow (dInt 10) (dInt 6)) (dInt 1))) dNil)))))) (dFz (dCall1 (Pd.c_take 2) (rRef 0 (rVal (dInt 4) rNil)))))))
  (dRet (dComp (iRg1 (dVar 1)) (gNam 3) dYes (dFz (dCall1 (Pd.c_take 2) (rRef 0 (rVal (dVar 2) rNil)))) [3])))
def c_weights : Ct := run 4 2 [0] g_weights
/-- _law_prices(_law_tape_here, _law_many) -/
def g_prices : DS := (dSeq (dSet 2 (dFz (dOp opIx (dFz (dLst (dCons (dInt 1) (dCons (dInt 5) (dCons (dInt 99) dNil))))) (dFz (dCall1 (Pd.c_take 2) (rRef 0 (rVal (dInt 3) rNil)))))))
  (dRet (dBi biTuple (dCons (dFz (dComp (iRg1 (dVar 1)) (gNam 3) dYes (dFz (dOp opAdd (dInt 1) (dFz (dCall1 (Pd.c_take 2) (rRef 0 (rVal (dVar 2) rNil)))))) [3])) dNil))))
def c_prices : Ct := run 4 2 [0] g_prices
/-- test_of(stretches, prices, number) -/
def g_test_of : DS := (dSeq (dAsg (gTp 3 (gsCons (gNam 3) (gsCons (gNam 4) (gsCons (gNam 5) gsNil)))) (dFz (dOp opIx (dVar 0) (dVar 2))))
  (dSeq (dIfS (dAnd (dOp opEq (dVar 3) (dVar 4)) (dOp opLe (dFz (dOp opIx (dVar 1) (dInt 0))) (dFz (dOp opIx (dVar 1) (dInt 1))))) (dRet (dTup (dCons (dStr "is") (dCons (dFz (dOp opIx (dVar 1) (dInt 0))) dNil)))) dSkip)
  (dRet (dTup (dCons (dStr "within") (dCons (dFz (dOp opIx (dVar 1) (dInt 1))) dNil))))))
def c_test_of : Ct := run 6 3 [] g_test_of
/-- goes_ahead(weights, tests, one, other) -/
def g_goes_ahead : DS := (dSeq (dSet 4 (dOp opMulI (dFz (dOp opIx (dVar 0) (dVar 2))) (dFz (dOp opIx (dFz (dOp opIx (dVar 1) (dVar 3))) (dInt 1)))))
  (dSeq (dSet 5 (dOp opMulI (dFz (dOp opIx (dVar 0) (dVar 3))) (dFz (dOp opIx (dFz (dOp opIx (dVar 1) (dVar 2))) (dInt 1)))))
  (dRet (dOr (dOp opGt (dVar 4) (dVar 5)) (dAnd (dOp opEq (dVar 4) (dVar 5)) (dOp opLt (dVar 2) (dVar 3)))))))
def c_goes_ahead : Ct := run 6 4 [] g_goes_ahead
/-- row_plan(stretches, weights, prices, label) -/
def g_row_plan : DS := (dSeq (dSet 4 (dComp (iRg1 (dBi biLen (dCons (dVar 0) dNil))) (gNam 6) dYes (dFz (dCall Pd.c_test_of (dCons (dVar 0) (dCons (dVar 2) (dCons (dVar 6) dNil))))) [6]))
  (dSeq (dSet 5 (dLst dNil))
  (dSeq (dFor (iRg1 (dBi biLen (dCons (dVar 0) dNil))) (gNam 6) (dIfS (dOp opNe (dFz (dOp opIx (dFz (dOp opIx (dVar 0) (dVar 6))) (dInt 2))) (dVar 3)) (dSeq (dSet 8 (dBiL biLen (rRef 5 rNil)))
  (dSeq (dWhile (fun _ => 100000) (dAnd (dOp opGt (dVar 8) (dInt 0)) (dLent Pd.c_goes_ahead (rVal (dVar 1) (rRef 4 (rVal (dVar 6) (rVal (dIxO 5 (dOp opSub (dVar 8) (dInt 1))) rNil)))))) (dAug 8 (opI0 fun i j => i - j) (dInt 1)))
  (dOwn 5 owInsert (dCons (dVar 8) (dCons (dVar 6) dNil))))) dSkip))
  (dSeq (dSet 7 (dTup (dCons (dStr "pick") (dCons (dVar 3) dNil))))
  (dSeq (dFor (iRvs (dFrz 5)) (gNam 6) (dSet 7 (dTup (dCons (dFz (dOp opIx (dIxO 4 (dVar 6)) (dInt 0))) (dCons (dVar 6) (dCons (dVar 7) dNil))))))
  (dRet (dVar 7)))))))
def c_row_plan : Ct := run 9 4 [] g_row_plan

/-! ### rows of stretches -/
abbrev Stc := Int × Int × Int
def stD (s : Stc) : D := .tup [.int s.1, .int s.2.1, .int s.2.2]
def nD (n : Nat) : D := .int (n : Int)
theorem pu_sts (ss : List Stc) : (ss.map stD).all D.pu = true := List.all_eq_true.mpr fun d hd => by
  obtain ⟨s, _, rfl⟩ := List.mem_map.mp hd
  rfl
theorem pu_nat (ss : List Nat) : (ss.map nD).all D.pu = true := List.all_eq_true.mpr fun d hd => by
  obtain ⟨s, _, rfl⟩ := List.mem_map.mp hd
  rfl
theorem stD_pu {s : Stc} : (stD s).pu = true := rfl
theorem Frz_st {s : Stc} {K : D → Prop} : Frz? (stD s) K = K (stD s) := rfl
theorem W_st0 {s : Stc} {Q : D → Prop} : W (opIx (stD s) (.int 0)) Q = Q (.int s.1) := W_some
theorem W_st1 {s : Stc} {Q : D → Prop} : W (opIx (stD s) (.int 1)) Q = Q (.int s.2.1) := W_some
theorem W_st2 {s : Stc} {Q : D → Prop} : W (opIx (stD s) (.int 2)) Q = Q (.int s.2.2) := W_some
theorem W_gtpSt {hh : DGs} {s : Stc} {ρ : Ev} {QE : Ev → Prop} : W (gTp 3 hh (stD s) ρ) QE = W (hh [.int s.1, .int s.2.1, .int s.2.2] ρ) QE := by
  unfold stD
  rw [W_gtp]
  exact propext ⟨fun h => h.2, fun h => ⟨rfl, h⟩⟩
theorem turn_lab {x r L : Int} (h1 : 0 ≤ x) (h2 : x < L) (h3 : 0 ≤ r) (h4 : r < L - 1) : 0 ≤ (x + 1 + r) % L ∧ (x + 1 + r) % L < L ∧ (x + 1 + r) % L ≠ x := by
  refine ⟨Int.emod_nonneg _ (by omega), Int.emod_lt_of_pos _ (by omega), ?_⟩
  rcases Int.lt_or_le (x + 1 + r) L with z | z
  · rw [Int.emod_eq_of_lt (by omega) z]
    omega
  · have e : x + 1 + r = (x + 1 + r - L) + 1 * L := by omega
    rw [e, Int.add_mul_emod_self_right, Int.emod_eq_of_lt (by omega) (by omega)]
    omega
def sideB : List Stc → Prop
  | a :: b :: r => (b.1 = a.2.1 + 1 ∧ b.2.2 ≠ a.2.2) ∧ sideB (b :: r)
  | _ => True
theorem side_snoc : ∀ {pre : List Stc} {a b : Stc}, sideB (pre ++ [a]) → b.1 = a.2.1 + 1 → b.2.2 ≠ a.2.2 → sideB (pre ++ [a] ++ [b])
  | [], a, b, _, h1, h2 => ⟨⟨h1, h2⟩, trivial⟩
  | [c], a, b, h, h1, h2 => ⟨h.1, ⟨h1, h2⟩, trivial⟩
  | c :: d :: pre, a, b, h, h1, h2 => ⟨h.1, side_snoc (pre := d :: pre) h.2 h1 h2⟩
structure IsSts (ss : List Stc) : Prop where
  side : sideB ss
  each : ∀ s ∈ ss, s.1 ≤ s.2.1 ∧ 0 ≤ s.2.2 ∧ s.2.2 < 6 ∧ -1000000000000000 ≤ s.1 ∧ s.2.1 ≤ 1000000000000000
theorem shp_sts (ss : List Stc) : shp (.lst (ss.map stD)) = true := by
  have h : ∀ ss : List Stc, noTyL (ss.map stD) = true ∧ PyData.canLayAll0 (toPL (ss.map stD)) = true ∧ PyData.depthAll (toPL (ss.map stD)) ≤ 1 := by
    intro ss
    induction ss with
    | nil => exact ⟨rfl, rfl, by decide⟩
    | cons n ns ih =>
      obtain ⟨a, b, c⟩ := ih
      refine ⟨by rw [List.map_cons, noTyL, a]; rfl, by rw [List.map_cons, toPL, PyData.canLayAll0, b]; rfl, ?_⟩
      rw [List.map_cons, toPL, PyData.depthAll]
      show max 1 _ ≤ 1
      omega
  obtain ⟨a, b, c⟩ := h ss
  unfold shp SeqAt.shaped
  rw [noTy, a, toP, PyData.canLay0, b, PyData.depth]
  show decide _ = true
  exact decide_eq_true (by omega)
theorem W_neNilS {ss : List Stc} {Q : D → Prop} (q : Q (.bl (!decide (ss = [])))) : W (opNe (.lst (ss.map stD)) (.lst [])) Q := by
  refine ⟨_, ?_, q⟩
  unfold opNe
  rw [shp_sts, if_pos (by rfl)]
  cases ss <;> rfl
theorem W_neNilN {ss : List Nat} {Q : D → Prop} (q : Q (.bl (!decide (ss = [])))) : W (opNe (.lst (ss.map nD)) (.lst [])) Q := by
  have e : ss.map nD = (ss.map fun n : Nat => (n : Int)).map D.int := by rw [List.map_map]; rfl
  rw [e]
  refine W_neNil ?_
  cases ss <;> exact q
theorem W_stretches {n m : Nat} {t : List D} {Q : D → List D → Prop} (ht : IsT n t) (hn : n ≤ 1000000) (hm : m ≤ 500) (q : ∀ ss t', ss.length = m → IsSts ss → IsT (n + 20 + 20 * m) t' → Q (.own (ss.map stD)) [.own t']) : W2 (c_stretches [.own t, .int (m : Int)]) Q := by
  unfold c_stretches g_stretches
  have e8 : ((10:Int) ^ Int.toNat 8) = 100000000 := rfl
  have e39 : ((2:Int) ^ Int.toNat 39) = 549755813888 := rfl
  simp! [↓W_opL, ↓W_slO, e8, e39]
  refine W_take ht (by omega) (by decide) (by decide) fun r1 t1 a1 b1 ht1 => ?_
  simp! [↓W_opL, ↓W_slO]
  refine ⟨by decide, W_take ht1 (by omega) (by decide) (by decide) fun r2 t2 a2 b2 ht2 => ?_⟩
  simp! [↓W_opL, ↓W_slO]
  refine ⟨by decide, by decide, W_take ht2 (by omega) (by decide) (by decide) fun r3 t3 a3 b3 ht3 => ?_⟩
  simp! [↓W_opL, ↓W_slO]
  refine W_atI_all a3 (by simp only [List.length_cons, List.length_nil]; omega) fun x hx => ?_
  obtain ⟨low, rfl, hl1, hl2⟩ : ∃ low : Int, x = .int low ∧ -600000000000 ≤ low ∧ low ≤ 1000000000 := by
    simp only [List.mem_cons, List.not_mem_nil, or_false] at hx
    rcases hx with rfl | rfl | rfl | rfl
    · exact ⟨_, rfl, by omega, by omega⟩
    · exact ⟨_, rfl, by omega, by omega⟩
    · exact ⟨_, rfl, by omega, by omega⟩
    · exact ⟨_, rfl, by omega, by omega⟩
  simp! [↓W_opL, ↓W_slO]
  refine W_take ht3 (by omega) (by decide) (by decide) fun r4 t4 a4 b4 ht4 => ?_
  simp! [↓W_opL, ↓W_slO]
  refine ⟨⟨by omega, by omega⟩, W_forR (fun k ρ => ∃ t ss low x5 x6 x7 x8, ρ = [some (.own t), some (.int (m : Int)), some (.int low), some (.int (2 + r4)), some (.own (ss.map stD)), x5, x6, x7, x8] ∧ IsT (n + 8 + 20 * k) t ∧ ss.length = k ∧ IsSts ss ∧ (-600000000000 ≤ low ∧ low ≤ 1000000000 + 1000000000001 * k) ∧ (ss = [] ∨ ∃ pre a, ss = pre ++ [a] ∧ low = a.2.1 + 1)) ⟨_, [], _, _, _, _, _, rfl, ht4, rfl, ⟨trivial, fun _ h => nomatch h⟩, ⟨hl1, by omega⟩, .inl rfl⟩ (fun k ρ hk hi => ?_) (fun ρ hi => ?_)⟩
  · obtain ⟨t, ss, low, x5, x6, x7, x8, rfl, ht, hsl, hss, ⟨l1, l2⟩, hlast⟩ := hi
    rw [Int.toNat_natCast] at hk
    simp! [↓W_opL, ↓W_slO]
    refine ⟨by decide, by decide, W_take ht (by omega) (by decide) (by decide) fun r5 t5 a5 b5 ht5 => ?_⟩
    simp! [↓W_opL, ↓W_slO]
    refine W_atI_all a5 (by simp only [List.length_cons, List.length_nil]; omega) fun far hf => ?_
    obtain ⟨far, rfl, hf1, hf2⟩ : ∃ i : Int, far = .int i ∧ 1 ≤ i ∧ i ≤ 1000000000000 := by
      simp only [List.mem_cons, List.not_mem_nil, or_false] at hf
      rcases hf with rfl | rfl
      · exact ⟨_, rfl, by decide, by decide⟩
      · exact ⟨_, rfl, by decide, by decide⟩
    simp! [↓W_opL, ↓W_slO]
    refine W_take ht5 (by omega) (by decide) (by decide) fun r6 tt6 a6 b6 ht6 => ?_
    simp! [↓W_opL, ↓W_slO]
    refine W_take ht6 (by omega) (by decide) (by decide) fun r7 t7 a7 b7 ht7 => ?_
    simp! [↓W_opL, ↓W_slO]
    refine W_take ht7 (by omega) (by omega) (by omega) fun r8 t8 a8 b8 ht8 => ?_
    simp! [↓W_opL, ↓W_slO]
    refine W_take ht8 (by omega) (by decide) (by decide) fun r9 tt9 a9 b9 ht9 => ?_
    simp! [↓W_opL, ↓W_slO]
    refine W_atI_all (by omega) (by simp only [List.length_cons, List.length_nil]; omega) fun wide hw => ?_
    obtain ⟨wide, rfl, hw1, hw2⟩ : ∃ i : Int, wide = .int i ∧ 1 ≤ i ∧ i ≤ 1000000000001 := by
      simp only [List.mem_cons, List.not_mem_nil, or_false] at hw
      rcases hw with rfl | rfl | rfl | rfl | rfl | rfl
      · exact ⟨_, rfl, by decide, by decide⟩
      · exact ⟨_, rfl, by decide, by decide⟩
      · exact ⟨_, rfl, by decide, by decide⟩
      · exact ⟨_, rfl, by omega, by omega⟩
      · exact ⟨_, rfl, by omega, by omega⟩
      · exact ⟨_, rfl, by omega, by omega⟩
    simp! [↓W_opL, ↓W_slO]
    refine W_take ht9 (by omega) (by omega) (by omega) fun lab t10 a10 b10 ht10 => ?_
    simp! [↓W_opL, ↓W_slO]
    refine FrzL_pu (pu_sts ss) (W_neNilS ?_)
    have fin : ∀ lab t, 0 ≤ lab → lab < 6 → IsT (n + 8 + 20 * k + 20) t → (∀ pre a, ss = pre ++ [a] → lab ≠ a.2.2) → ∃ t' ss' low' x5 x6 x7 x8, ([some (.own t), some (.int (m : Int)), some (.int (low + wide)), some (.int (2 + r4)), some (.own (ss.map stD ++ [.tup [.int low, .int (low + wide - 1), .int lab]])), some (.int (0 + (k : Int))), some (.int far), some (.int wide), some (.int lab)] : Ev) = [some (.own t'), some (.int (m : Int)), some (.int low'), some (.int (2 + r4)), some (.own (ss'.map stD)), x5, x6, x7, x8] ∧ IsT (n + 8 + 20 * (k + 1)) t' ∧ ss'.length = k + 1 ∧ IsSts ss' ∧ (-600000000000 ≤ low' ∧ low' ≤ 1000000000 + 1000000000001 * ((k + 1 : Nat) : Int)) ∧ (ss' = [] ∨ ∃ pre a, ss' = pre ++ [a] ∧ low' = a.2.1 + 1) := by
      intro lab t c1 c2 ht hl
      refine ⟨t, ss ++ [(low, low + wide - 1, lab)], low + wide, _, _, _, _, by rw [List.map_append]; rfl, ht.mono (by omega), by rw [List.length_append, hsl]; rfl, ⟨?_, fun s hs => ?_⟩, ⟨by omega, by omega⟩, .inr ⟨ss, _, rfl, by show low + wide = low + wide - 1 + 1; omega⟩⟩
      · rcases hlast with rfl | ⟨pre, a, rfl, e⟩
        · exact trivial
        · exact side_snoc hss.side e (hl _ _ rfl)
      · rcases List.mem_append.mp hs with z | z
        · exact hss.each s z
        · rw [List.mem_singleton.mp z]
          refine ⟨?_, c1, c2, ?_, ?_⟩
          · show low ≤ low + wide - 1; omega
          · show -1000000000000000 ≤ low; omega
          · show low + wide - 1 ≤ 1000000000000000; omega
    rcases hlast with rfl | ⟨pre, a, rfl, e⟩
    · simp! [↓W_opL, ↓W_slO]
      exact ⟨by simp, fin lab t10 a10 (by omega) (ht10.mono (by omega)) fun pre a e => by cases pre <;> cases e⟩
    · rw [List.map_append, List.map_cons, List.map_nil] at *
      have ne : pre ++ [a] ≠ [] := by simp
      have lm : (pre.map stD ++ [stD a]).length < 1000000 := by
        rw [List.length_append, List.length_singleton] at hsl
        rw [List.length_append, List.length_map, List.length_singleton]
        omega
      have nl : ∀ lab : Int, lab ≠ a.2.2 → ∀ pre' a', pre ++ [a] = pre' ++ [a'] → lab ≠ a'.2.2 := fun lab h pre' a' e => by
        obtain ⟨_, e2⟩ := List.append_inj' e rfl
        cases e2
        exact h
      simp! [↓W_opL, ↓W_slO]
      refine ⟨fun z => absurd z ne, fun _ => ?_⟩
      rw [W_last]
      simp! [↓W_opL, ↓W_slO, ↓W_st0, ↓W_st1, ↓W_st2, ↓W_gtpSt, ↓Frz_st, stD_pu]
      refine ⟨fun e2 => W_take ht10 (by omega) (by omega) (by omega) fun r11 t11 a11 b11 ht11 => ?_, fun e2 => ⟨lm, fin lab t10 a10 (by omega) (ht10.mono (by omega)) (nl lab (Ne.symm e2))⟩⟩
      obtain ⟨z1, z2, z3⟩ := turn_lab (x := lab) (r := r11) (L := 2 + r4) a10 b10 a11 (by omega)
      simp! [↓W_opL, ↓W_slO, ↓W_st0, ↓W_st1, ↓W_st2, ↓W_gtpSt, ↓Frz_st, stD_pu]
      exact ⟨by unfold CMod; omega, lm, fin _ t11 z1 (by omega) (ht11.mono (by omega)) (nl _ (by rw [e2]; exact z3))⟩
  · obtain ⟨t, ss, low, x5, x6, x7, x8, rfl, ht, hsl, hss, ⟨l1, l2⟩, hlast⟩ := hi
    simp! [↓W_opL, ↓W_slO]
    rw [Int.toNat_natCast] at hsl ht
    exact q ss t hsl hss (ht.mono (by omega))
/-! ### weights and prices -/
theorem W_weights {n m : Nat} {t : List D} {Q : D → List D → Prop} (ht : IsT n t) (hn : n ≤ 1000000) (hm : m ≤ 500) (q : ∀ (ws : List Int) t', ws.length = m → (∀ w ∈ ws, 0 ≤ w ∧ w ≤ 1000001) → IsT (n + 2 + 2 * m) t' → Q (.own (ws.map D.int)) [.own t']) : W2 (c_weights [.own t, .int (m : Int)]) Q := by
  unfold c_weights g_weights
  have e6 : ((10:Int) ^ Int.toNat 6) = 1000000 := rfl
  simp! [↓W_opL, ↓W_slO, e6]
  refine ⟨by decide, W_take ht (by omega) (by decide) (by decide) fun r1 t1 a1 b1 ht1 => ?_⟩
  simp! [↓W_opL, ↓W_slO]
  refine W_atI_all a1 (by simp only [List.length_cons, List.length_nil]; omega) fun x hx => ?_
  obtain ⟨mo, rfl, hl1, hl2⟩ : ∃ mo : Int, x = .int mo ∧ 1 ≤ mo ∧ mo ≤ 1000001 := by
    simp only [List.mem_cons, List.not_mem_nil, or_false] at hx
    rcases hx with rfl | rfl | rfl | rfl
    · exact ⟨_, rfl, by decide, by decide⟩
    · exact ⟨_, rfl, by decide, by decide⟩
    · exact ⟨_, rfl, by decide, by decide⟩
    · exact ⟨_, rfl, by decide, by decide⟩
  simp! [↓W_opL, ↓W_slO]
  refine ⟨⟨by omega, by omega⟩, W_compL (fun pre ys ρ => ∃ t ws, ys = ws.map D.int ∧ ws.length = pre.length ∧ (∀ w ∈ ws, 0 ≤ w ∧ w ≤ 1000001) ∧ IsT (n + 2 + 2 * pre.length) t ∧ ρ = [some (.own t), some (.int (m : Int)), some (.int mo), none]) ⟨t1, [], rfl, rfl, (fun c hc => nomatch hc), ht1, rfl⟩ (fun pre e post ys ρ he hi => ?_) (fun ys ρ hi => ?_)⟩
  · obtain ⟨t, ws, rfl, hl, hw, ht, rfl⟩ := hi
    have hp : pre.length < 501 := by
      have := congrArg List.length he
      rw [rng_eq, List.length_map, rngI_len, List.length_append, List.length_cons] at this
      omega
    simp! [↓W_opL, ↓W_slO]
    refine W_take ht (by omega) (by omega) (by omega) fun r t2 a2 b2 ht2 => ?_
    simp! [↓W_opL, ↓W_slO]
    refine ⟨t2, ws ++ [r], by rw [List.map_append]; rfl, by rw [List.length_append, List.length_append, hl]; rfl, fun w h => ?_, ht2.mono (by rw [List.length_append, List.length_singleton]; omega), rfl⟩
    rcases List.mem_append.mp h with z | z
    · exact hw w z
    · rw [List.mem_singleton.mp z]; omega
  · obtain ⟨t, ws, rfl, hl, hw, ht, rfl⟩ := hi
    have hlen : (rng 0 (m : Int).toNat).length = m := by rw [rng_eq, List.length_map, rngI_len]; omega
    rw [hlen] at hl ht
    simp! [↓W_opL, ↓W_slO]
    exact ⟨by rw [List.length_map]; omega, q ws t hl hw ht⟩
theorem W_prices {n m : Nat} {t : List D} {Q : D → List D → Prop} (ht : IsT n t) (hn : n ≤ 1000000) (hm : m ≤ 500) (q : ∀ (ws : List Int) t', ws.length = m → (∀ w ∈ ws, 1 ≤ w ∧ w ≤ 99) → IsT (n + 2 + 2 * m) t' → Q (.tup (ws.map D.int)) [.own t']) : W2 (c_prices [.own t, .int (m : Int)]) Q := by
  unfold c_prices g_prices
  simp! [↓W_opL, ↓W_slO]
  refine W_take ht (by omega) (by decide) (by decide) fun r1 t1 a1 b1 ht1 => ?_
  simp! [↓W_opL, ↓W_slO]
  refine W_atI_all a1 (by simp only [List.length_cons, List.length_nil]; omega) fun x hx => ?_
  obtain ⟨mo, rfl, hl1, hl2⟩ : ∃ mo : Int, x = .int mo ∧ 1 ≤ mo ∧ mo ≤ 99 := by
    simp only [List.mem_cons, List.not_mem_nil, or_false] at hx
    rcases hx with rfl | rfl | rfl
    · exact ⟨_, rfl, by decide, by decide⟩
    · exact ⟨_, rfl, by decide, by decide⟩
    · exact ⟨_, rfl, by decide, by decide⟩
  simp! [↓W_opL, ↓W_slO]
  refine ⟨⟨by omega, by omega⟩, W_compL (fun pre ys ρ => ∃ t ws, ys = ws.map D.int ∧ ws.length = pre.length ∧ (∀ w ∈ ws, 1 ≤ w ∧ w ≤ 99) ∧ IsT (n + 2 + 2 * pre.length) t ∧ ρ = [some (.own t), some (.int (m : Int)), some (.int mo), none]) ⟨t1, [], rfl, rfl, (fun c hc => nomatch hc), ht1, rfl⟩ (fun pre e post ys ρ he hi => ?_) (fun ys ρ hi => ?_)⟩
  · obtain ⟨t, ws, rfl, hl, hw, ht, rfl⟩ := hi
    have hp : pre.length < 501 := by
      have := congrArg List.length he
      rw [rng_eq, List.length_map, rngI_len, List.length_append, List.length_cons] at this
      omega
    simp! [↓W_opL, ↓W_slO]
    refine W_take ht (by omega) (by omega) (by omega) fun r t2 a2 b2 ht2 => ?_
    simp! [↓W_opL, ↓W_slO]
    refine ⟨t2, ws ++ [1 + r], by rw [List.map_append]; rfl, by rw [List.length_append, List.length_append, hl]; rfl, fun w h => ?_, ht2.mono (by rw [List.length_append, List.length_singleton]; omega), rfl⟩
    rcases List.mem_append.mp h with z | z
    · exact hw w z
    · rw [List.mem_singleton.mp z]; omega
  · obtain ⟨t, ws, rfl, hl, hw, ht, rfl⟩ := hi
    have hlen : (rng 0 (m : Int).toNat).length = m := by rw [rng_eq, List.length_map, rngI_len]; omega
    rw [hlen] at hl ht
    simp! [↓W_opL, ↓W_slO]
    refine ⟨by rw [List.length_map]; omega, ?_⟩
    exact W_some.mpr (q ws t hl hw ht)
/-! ### rows of tests -/
def testP (s : Stc) (a b : Int) : Int := if s.1 = s.2.1 ∧ a ≤ b then a else b
def testK (s : Stc) (a b : Int) : Str := if s.1 = s.2.1 ∧ a ≤ b then "is" else "within"
def testD (a b : Int) (s : Stc) : D := .tup [.str (testK s a b), .int (testP s a b)]
theorem W_test_of {ss : List Stc} {a b : Int} {r : List D} {i : Nat} {s : Stc} {Q : D → List D → Prop} (h : ss[i]? = some s) (q : Q (testD a b s) []) : W2 (c_test_of [.lst (ss.map stD), .tup (.int a :: .int b :: r), .int (i : Int)]) Q := by
  unfold c_test_of g_test_of
  simp! [↓W_opL, ↓W_slO, ↓W_st0, ↓W_st1, ↓W_st2, ↓W_gtpSt, ↓Frz_st, stD_pu]
  refine W_atI (x := stD s) (by omega) (by rw [List.getElem?_map, Int.toNat_natCast, h]; rfl) ?_
  simp! [↓W_opL, ↓W_slO, ↓W_st0, ↓W_st1, ↓W_st2, ↓W_gtpSt, ↓Frz_st, stD_pu]
  unfold testD testP testK at q
  refine ⟨fun h1 => ⟨fun h2 => ?_, fun h2 => ?_⟩, fun h1 => ?_⟩
  · rw [if_pos ⟨h1, h2⟩, if_pos ⟨h1, h2⟩] at q; exact q
  · rw [if_neg (fun z => h2 z.2), if_neg (fun z => h2 z.2)] at q; exact q
  · rw [if_neg (fun z => h1 z.1), if_neg (fun z => h1 z.1)] at q; exact q
/-- the order of tests: more weight by price ahead, then the lesser number -/
def Ahd (w p : Nat → Int) (i j : Nat) : Prop := w i * p j > w j * p i ∨ (w i * p j = w j * p i ∧ i < j)
theorem Ahd.asymm {w p : Nat → Int} {i j : Nat} (h : Ahd w p i j) : ¬ Ahd w p j i := by
  unfold Ahd at h ⊢
  omega
theorem Ahd.total {w p : Nat → Int} {i j : Nat} (h : ¬ Ahd w p i j) (hn : i ≠ j) : Ahd w p j i := by
  unfold Ahd at h ⊢
  omega
theorem Ahd.trans {w p : Nat → Int} (hp : ∀ k, 0 < p k) {i j k : Nat} (h : Ahd w p i j) (h2 : Ahd w p j k) : Ahd w p i k := by
  unfold Ahd at h h2 ⊢
  have pj := hp j
  have pi := hp i
  have pk := hp k
  have e1 : w i * p j * p k = p j * (w i * p k) := by rw [Int.mul_comm (w i) (p j), Int.mul_assoc]
  have e2 : w j * p i * p k = w j * p k * p i := by rw [Int.mul_assoc, Int.mul_comm (p i) (p k), ← Int.mul_assoc]
  have e3 : w k * p j * p i = p j * (w k * p i) := by rw [Int.mul_comm (w k) (p j), Int.mul_assoc]
  have m1 : w j * p i * p k ≤ w i * p j * p k := Int.mul_le_mul_of_nonneg_right (by omega) (by omega)
  have m2 : w k * p j * p i ≤ w j * p k * p i := Int.mul_le_mul_of_nonneg_right (by omega) (by omega)
  have m3 : w j * p i < w i * p j → w j * p i * p k < w i * p j * p k := fun z => Int.mul_lt_mul_of_pos_right z pk
  have m4 : w k * p j < w j * p k → w k * p j * p i < w j * p k * p i := fun z => Int.mul_lt_mul_of_pos_right z pi
  have c1 : p j * (w k * p i) < p j * (w i * p k) → w k * p i < w i * p k := fun z => Int.lt_of_mul_lt_mul_left z (by omega)
  have c2 : p j * (w k * p i) ≤ p j * (w i * p k) → w k * p i ≤ w i * p k := fun z => Int.le_of_mul_le_mul_left z pj
  rcases Int.lt_trichotomy (w k * p i) (w i * p k) with z | z | z
  · exact .inl z
  · refine .inr ⟨z.symm, ?_⟩
    have : p j * (w k * p i) = p j * (w i * p k) := by rw [z]
    have n1 : ¬ w j * p i < w i * p j := fun y => by have := m3 y; omega
    have n2 : ¬ w k * p j < w j * p k := fun y => by have := m4 y; omega
    omega
  · have := c2 (by omega)
    omega
theorem srt_uniq {R : Nat → Nat → Prop} (ha : ∀ i j, R i j → ¬ R j i) : ∀ {xs ys : List Nat}, xs.Pairwise R → ys.Pairwise R → xs.Perm ys → xs = ys
  | [], ys, _, _, p => (List.nil_perm.mp p).symm
  | x :: xs, [], _, _, p => absurd (p.length_eq) (by simp)
  | x :: xs, y :: ys, hx, hy, p => by
    have hx' := List.pairwise_cons.mp hx
    have hy' := List.pairwise_cons.mp hy
    have e : x = y := by
      rcases List.mem_cons.mp (p.mem_iff.mp (List.mem_cons_self (a := x) (l := xs))) with z | z
      · exact z
      · rcases List.mem_cons.mp (p.mem_iff.mpr (List.mem_cons_self (a := y) (l := ys))) with z2 | z2
        · exact z2.symm
        · exact absurd (hx'.1 y z2) (ha _ _ (hy'.1 x z))
    subst e
    rw [srt_uniq ha hx'.2 hy'.2 (List.Perm.cons_inv p)]
/-- one more put in its place -/
theorem ins_ok {R : Nat → Nat → Prop} (tr : ∀ i j k, R i j → R j k → R i k) {os : List Nat} {n k : Nat} (h : os.Pairwise R) (h1 : ∀ x ∈ os.drop k, R n x) (h2 : ∀ x ∈ os.take k, R x n) : (os.take k ++ [n] ++ os.drop k).Pairwise R := by
  have e := List.take_append_drop k os
  rw [← e] at h
  obtain ⟨p1, p2, p3⟩ := List.pairwise_append.mp h
  rw [List.append_assoc]
  refine List.pairwise_append.mpr ⟨p1, List.pairwise_cons.mpr ⟨h1, p2⟩, fun a ha b hb => ?_⟩
  rcases List.mem_cons.mp hb with z | z
  · rw [z]; exact h2 a ha
  · exact p3 a ha b z
theorem ins_perm {os : List Nat} {n k : Nat} : (os.take k ++ [n] ++ os.drop k).Perm (n :: os) := by
  have e := List.take_append_drop k os
  rw [List.append_assoc]
  exact (List.perm_middle (a := n) (l₁ := os.take k) (l₂ := os.drop k)).trans (by rw [e])
theorem last_all {R : Nat → Nat → Prop} (tr : ∀ i j k, R i j → R j k → R i k) {os : List Nat} {n k y : Nat} (h : os.Pairwise R) (hy : os[k]? = some y) (hr : R y n) : ∀ x ∈ os.take (k + 1), R x n := by
  intro x hx
  rw [List.take_add_one, hy] at hx
  rcases List.mem_append.mp hx with z | z
  · have hk : k < os.length := by
      rcases Nat.lt_or_ge k os.length with z | z
      · exact z
      · rw [List.getElem?_eq_none z] at hy; cases hy
    rw [← List.take_append_drop k os] at h
    refine tr _ _ _ ((List.pairwise_append.mp h).2.2 x z y ?_) hr
    refine List.mem_iff_getElem?.mpr ⟨0, ?_⟩
    rw [List.getElem?_drop, Nat.add_zero, hy]
  · have : x = y := by simpa using z
    rw [this]; exact hr
theorem W_goes {ws : List Int} {ts : List Stc} {a b : Int} {i j : Nat} {wi wj : Int} {si sj : Stc} {Q : D → List D → Prop} (hi : ws[i]? = some wi) (hj : ws[j]? = some wj) (h2 : ts[i]? = some si) (h3 : ts[j]? = some sj)
    (hw1 : 0 ≤ wi ∧ wi ≤ 1000000000) (hw2 : 0 ≤ wj ∧ wj ≤ 1000000000)
    (q : Q (.bl (decide (wi * testP sj a b > wj * testP si a b ∨ (wi * testP sj a b = wj * testP si a b ∧ i < j)))) []) : W2 (c_goes_ahead [.lst (ws.map D.int), .lst (ts.map (testD a b)), .int (i : Int), .int (j : Int)]) Q := by
  unfold c_goes_ahead g_goes_ahead
  simp! [↓W_opL, ↓W_slO]
  have ci : ∀ {i : Nat} {x : Int}, ws[i]? = some x → (ws.map D.int)[(i : Int).toNat]? = some (.int x) := fun h => by rw [List.getElem?_map, Int.toNat_natCast, h]; rfl
  have ct : ∀ {i : Nat} {x : Stc}, ts[i]? = some x → (ts.map (testD a b))[(i : Int).toNat]? = some (testD a b x) := fun h => by rw [List.getElem?_map, Int.toNat_natCast, h]; rfl
  refine W_atI (by omega) (ci hi) ?_
  simp! [↓W_opL, ↓W_slO]
  refine W_atI (by omega) (ct h3) ?_
  rw [show testD a b sj = .tup [.str (testK sj a b), .int (testP sj a b)] from rfl]
  simp! [↓W_opL, ↓W_slO]
  refine ⟨.inl ⟨by omega, by omega⟩, W_atI (by omega) (ci hj) ?_⟩
  simp! [↓W_opL, ↓W_slO]
  refine W_atI (by omega) (ct h2) ?_
  rw [show testD a b si = .tup [.str (testK si a b), .int (testP si a b)] from rfl]
  simp! [↓W_opL, ↓W_slO]
  refine ⟨.inl ⟨by omega, by omega⟩, fun h => ?_, fun h => ⟨fun h' => ?_, fun h' => ?_⟩⟩
  · rw [decide_eq_true (.inl h)] at q; exact q
  · by_cases hl : i < j
    · rw [decide_eq_true (.inr ⟨h', hl⟩)] at q
      rw [decide_eq_true (show (i : Int) < (j : Int) by omega)]; exact q
    · rw [decide_eq_false (fun z => z.elim h fun z => hl z.2)] at q
      rw [decide_eq_false (show ¬ (i : Int) < (j : Int) by omega)]; exact q
  · rw [decide_eq_false (fun z => z.elim h fun z => h' z.1)] at q; exact q
theorem W_mapR {gg : DG} {c e : DE} {vs : List Nat} {ρ : Ev} {Q : List D → Ev → Prop} {n : Nat} (F : Nat → D)
    (h : ∀ k, k < n → W (gg (.int (k : Int)) ρ) fun ρ1 => W2 (c ρ1) fun b ρ2 => WB b (W2 (e ρ2) fun y ρ3 => y = F k ∧ wipeE vs ρ3 = ρ) False) (q : Q ((List.range n).map F) ρ) : W2 (compL gg c e vs (rng 0 n) ρ) Q := by
  refine W_map (fun d => match d with | .int i => F i.toNat | d => d) (fun d hd => ?_) ?_
  · rw [rng_eq] at hd
    obtain ⟨i, hi, rfl⟩ := List.mem_map.mp hd
    obtain ⟨h1, h2⟩ := mem_rngI.mp hi
    have e : i = ((i.toNat : Nat) : Int) := by omega
    have := h i.toNat (by omega)
    rw [← e] at this
    exact this
  · have e : (rng 0 n).map (fun d => match d with | .int i => F i.toNat | d => d) = (List.range n).map F := by
      rw [rng_eq, List.map_map]
      unfold rngI
      rw [List.map_map]
      refine List.map_congr_left fun i _ => ?_
      show F (0 + (i : Int)).toNat = F i
      rw [show (0 + (i : Int)).toNat = i by omega]
    rw [e]
    exact q
/-- over what a list is made of -/
theorem W_forM {α : Type} {gg : DG} {g : DS} {xs : List α} {f : α → D} {ρ : Ev} {Q : Fl → Prop} (I : List α → Ev → Prop) (h0 : I [] ρ) (hs : ∀ pre x post ρ, xs = pre ++ x :: post → I pre ρ → W (gg (f x) ρ) fun ρ1 => W (g ρ1) fun fl => WL fl (I (pre ++ [x])) Q) (hd : ∀ ρ, I xs ρ → Q (.nx ρ)) : W (forL gg g (xs.map f) ρ) Q := by
  refine W_forL (fun pre ρ => ∃ p q, xs = p ++ q ∧ pre = p.map f ∧ I p ρ) ⟨[], xs, rfl, rfl, h0⟩ (fun pre d post ρ e hi => ?_) fun ρ hi => ?_
  · obtain ⟨p, q, rfl, rfl, hi⟩ := hi
    rw [List.map_append] at e
    have e2 := List.append_cancel_left e
    cases q with
    | nil => cases e2
    | cons x q =>
      rw [List.map_cons] at e2
      obtain ⟨rfl, _⟩ := List.cons.inj e2
      refine W_mono (hs p x q ρ rfl hi) fun ρ1 h1 => W_mono h1 fun fl h2 => ?_
      have mk : ∀ ρ, I (p ++ [x]) ρ → ∃ p_1 q_1, p ++ x :: q = p_1 ++ q_1 ∧ p.map f ++ [f x] = p_1.map f ∧ I p_1 ρ := fun ρ h => ⟨p ++ [x], q, by rw [List.append_assoc]; rfl, by rw [List.map_append]; rfl, h⟩
      cases fl <;> first | exact mk _ h2 | exact h2
  · obtain ⟨p, q, rfl, e, hi⟩ := hi
    have : q = [] := by
      have := congrArg List.length e
      rw [List.length_map, List.length_map, List.length_append] at this
      exact List.length_eq_zero_iff.mp (by omega)
    subst this
    rw [List.append_nil] at hd
    exact hd ρ hi
def zSt : Stc := (0, 0, 0)
theorem map_range {α β : Type} {xs : List α} {f : α → β} {z : α} : (List.range xs.length).map (fun k => f (xs.getD k z)) = xs.map f := by
  refine List.ext_getElem (by simp) fun i h1 h2 => ?_
  have h3 : i < xs.length := by simpa using h2
  simp [List.getD_eq_getElem?_getD, List.getElem?_eq_getElem h3]
theorem getD_at {α : Type} {xs : List α} {k : Nat} {z : α} (h : k < xs.length) : xs[k]? = some (xs.getD k z) := by
  rw [List.getD_eq_getElem?_getD, List.getElem?_eq_getElem h]
  rfl
theorem pu_tests (a b : Int) (ss : List Stc) : (ss.map (testD a b)).all D.pu = true := List.all_eq_true.mpr fun d hd => by
  obtain ⟨s, _, rfl⟩ := List.mem_map.mp hd
  rfl
theorem testP_pos {s : Stc} {a b : Int} (ha : 1 ≤ a) (hb : 1 ≤ b) : 0 < testP s a b := by
  unfold testP
  split <;> omega
theorem getD_mem {α : Type} {xs : List α} {k : Nat} {z : α} (h : k < xs.length) : xs.getD k z ∈ xs := by
  refine List.mem_iff_getElem?.mpr ⟨k, getD_at h⟩
theorem range_keep {f : Nat → Bool} {k : Nat} : (List.range (k + 1)).filter f = (List.range k).filter f ++ (if f k then [k] else []) := by
  rw [List.range_succ, List.filter_append, List.filter_cons, List.filter_nil]
/-- which tests: all but those of the label -/
def keepB (ss : List Stc) (lab : Int) (i : Nat) : Bool := decide ((ss.getD i zSt).2.2 ≠ lab)
def wOf (ws : List Int) (i : Nat) : Int := ws.getD i 0
def pOf (ss : List Stc) (a b : Int) (i : Nat) : Int := testP (ss.getD i zSt) a b
def mkP (ss : List Stc) (a b lab : Int) : List Nat → D
  | [] => .tup [.str "pick", .int lab]
  | o :: os => .tup [.str (testK (ss.getD o zSt) a b), nD o, mkP ss a b lab os]
def intAt (i : Nat) (ρ : Ev) : Nat := match ρ[i]? with | some (some (D.int j)) => j.toNat | _ => 0
theorem mkP_pu {ss : List Stc} {a b lab : Int} : ∀ os : List Nat, (mkP ss a b lab os).pu = true
  | [] => rfl
  | _ :: _ => rfl
theorem W_row_plan {ss : List Stc} {ws : List Int} {a b lab : Int} {r : List D} {Q : D → List D → Prop} (hl : ws.length = ss.length) (hs : ss.length ≤ 1000) (hw : ∀ w ∈ ws, 0 ≤ w ∧ w ≤ 1000000000) (ha : 1 ≤ a) (hb : 1 ≤ b)
    (hpu : ∀ d ∈ r, d.pu = true)
    (q : ∀ os : List Nat, os.Pairwise (Ahd (wOf ws) (pOf ss a b)) → os.Perm ((List.range ss.length).filter (keepB ss lab)) → Q (mkP ss a b lab os) []) :
    W2 (c_row_plan [.lst (ss.map stD), .lst (ws.map D.int), .tup (.int a :: .int b :: r), .int lab]) Q := by
  unfold c_row_plan g_row_plan
  simp! [↓W_opL, ↓W_slO, ↓W_st0, ↓W_st1, ↓W_st2, ↓W_gtpSt, ↓Frz_st, stD_pu]
  refine ⟨⟨by omega, by rw [List.length_map]; omega⟩, ?_⟩
  rw [Int.toNat_natCast, List.length_map]
  refine W_mapR (fun k => testD a b (ss.getD k zSt)) (fun k hk => ?_) ?_
  · simp! [↓W_opL, ↓W_slO, ↓W_st0, ↓W_st1, ↓W_st2, ↓W_gtpSt, ↓Frz_st, stD_pu]
    refine W_test_of (s := ss.getD k zSt) ?_ ?_
    · exact getD_at hk
    · simp! [↓W_opL, ↓W_slO, ↓W_st0, ↓W_st1, ↓W_st2, ↓W_gtpSt, ↓Frz_st, stD_pu]
      exact ⟨rfl, rfl⟩
  rw [map_range]
  simp! [↓W_opL, ↓W_slO, ↓W_st0, ↓W_st1, ↓W_st2, ↓W_gtpSt, ↓Frz_st, stD_pu]
  refine ⟨by rw [List.length_map]; omega, ⟨by omega, by rw [List.length_map]; omega⟩, ?_⟩
  rw [Int.toNat_natCast, List.length_map]
  have tr := fun i j k => Ahd.trans (w := wOf ws) (p := pOf ss a b) (fun k => testP_pos ha hb) (i := i) (j := j) (k := k)
  refine W_forR (fun k ρ => ∃ os x6 x8, ρ = [some (.lst (ss.map stD)), some (.lst (ws.map D.int)), some (.tup (.int a :: .int b :: r)), some (.int lab), some (.own (ss.map (testD a b))), some (.own (os.map nD)), x6, none, x8] ∧ os.Pairwise (Ahd (wOf ws) (pOf ss a b)) ∧ os.Perm ((List.range k).filter (keepB ss lab))) ⟨[], _, _, rfl, .nil, .refl _⟩ (fun k ρ hk hi => ?_) (fun ρ hi => ?_)
  · obtain ⟨os, x6, x8, rfl, hp, hm⟩ := hi
    have lo : os.length ≤ k := by
      rw [hm.length_eq]
      exact Nat.le_trans (List.length_filter_le _ _) (by rw [List.length_range]; omega)
    have mo : ∀ x ∈ os, x < k := fun x hx => List.mem_range.mp (List.mem_filter.mp (hm.mem_iff.mp hx)).1
    simp! [↓W_opL, ↓W_slO, ↓W_st0, ↓W_st1, ↓W_st2, ↓W_gtpSt, ↓Frz_st, stD_pu]
    refine W_atI (x := stD (ss.getD k zSt)) (by omega) (by rw [List.getElem?_map, show (0 + (k : Int)).toNat = k by omega, getD_at hk]; rfl) ?_
    simp! [↓W_opL, ↓W_slO, ↓W_st0, ↓W_st1, ↓W_st2, ↓W_gtpSt, ↓Frz_st, stD_pu]
    refine ⟨fun heq => ?_, fun hne => ?_⟩
    · refine ⟨os, _, _, rfl, hp, ?_⟩
      rw [range_keep, if_neg (by unfold keepB; rw [heq]; simp), List.append_nil]
      exact hm
    · refine FrzL_pu (pu_nat os) ?_
      refine W_whileI (fun ρ => ∃ j : Nat, ρ = [some (.lst (ss.map stD)), some (.lst (ws.map D.int)), some (.tup (.int a :: .int b :: r)), some (.int lab), some (.own (ss.map (testD a b))), some (.own (os.map nD)), some (.int (0 + (k : Int))), none, some (.int (j : Int))] ∧ j ≤ os.length ∧ ∀ x ∈ os.drop j, Ahd (wOf ws) (pOf ss a b) k x)
        (intAt 8) ⟨os.length, by rw [List.length_map], Nat.le_refl _, by simp⟩ (by show (((os.map nD).length : Nat) : Int).toNat < 100000; rw [List.length_map]; omega) (fun ρ hi => ?_)
      obtain ⟨j, rfl, hj, hd⟩ := hi
      simp! [↓W_opL, ↓W_slO, ↓W_st0, ↓W_st1, ↓W_st2, ↓W_gtpSt, ↓Frz_st, stD_pu]
      have fin : j = 0 ∨ (∃ y, os[j - 1]? = some y ∧ ¬ Ahd (wOf ws) (pOf ss a b) k y) → ((os.map nD).take (j : Int).toNat ++ [D.int (0 + (k : Int))] ++ (os.map nD).drop (j : Int).toNat = (os.take j ++ [k] ++ os.drop j).map nD) ∧ (os.take j ++ [k] ++ os.drop j).Pairwise (Ahd (wOf ws) (pOf ss a b)) ∧ (os.take j ++ [k] ++ os.drop j).Perm ((List.range (k + 1)).filter (keepB ss lab)) := fun h => by
        refine ⟨?_, ins_ok tr hp hd fun x hx => ?_, ?_⟩
        · rw [Int.toNat_natCast, List.map_append, List.map_append, List.map_take, List.map_drop]
          rw [show D.int (0 + (k : Int)) = nD k by rw [Int.zero_add]; rfl]
          rfl
        · rcases h with rfl | ⟨y, hy, hn⟩
          · rw [List.take_zero] at hx; cases hx
          · cases j with
            | zero => rw [List.take_zero] at hx; cases hx
            | succ j =>
              have ym : y ∈ os := List.mem_iff_getElem?.mpr ⟨_, hy⟩
              exact last_all tr hp hy (Ahd.total hn (by have := mo y ym; omega)) x hx
        · refine ins_perm.trans ?_
          rw [range_keep, if_pos (by unfold keepB; exact decide_eq_true hne)]
          exact (hm.cons k).trans (List.perm_append_singleton k _).symm
      have lm : (os.map nD).length < 1000000 := by rw [List.length_map]; omega
      refine ⟨fun hj0 => ?_, fun hj0 => ?_⟩
      · have hj1 : j - 1 < os.length := by omega
        have ye := List.getElem?_eq_getElem hj1
        generalize os[j - 1] = y at ye
        have ym : y ∈ os := List.mem_iff_getElem?.mpr ⟨_, ye⟩
        have yk := mo y ym
        refine W_atI (x := nD y) (by omega) (by rw [List.getElem?_map, show ((j : Int) - 1).toNat = j - 1 by omega, ye]; rfl) ⟨rfl, ?_⟩
        refine FrzL_pu (pu_tests a b ss) ?_
        rw [Int.zero_add]
        refine W_goes (getD_at (z := 0) (by omega)) (getD_at (z := 0) (by omega)) (getD_at (z := zSt) hk) (getD_at (z := zSt) (by omega)) (hw _ (getD_mem (by omega))) (hw _ (getD_mem (by omega))) ?_
        refine ⟨rfl, ?_⟩
        rw [WB_dec]
        refine ⟨fun ha => ⟨⟨j - 1, ?_, by omega, fun x hx => ?_⟩, ?_⟩, fun hna => ⟨pu_nat os, ⟨by omega, by omega, lm⟩, os.take j ++ [k] ++ os.drop j, some (.int (k : Int)), some (.int (j : Int)), ?_, (fin (.inr ⟨y, ye, hna⟩)).2⟩⟩
        · rw [show (j : Int) - 1 = ((j - 1 : Nat) : Int) by omega]
        · rw [show j - 1 = j - 1 from rfl, List.drop_eq_getElem_cons hj1] at hx
          rcases List.mem_cons.mp hx with z | z
          · have := List.getElem?_eq_getElem hj1
            rw [ye] at this
            rw [z, ← Option.some.inj this]
            exact ha
          · rw [show j - 1 + 1 = j by omega] at z
            exact hd x z
        · show ((j : Int) - 1).toNat < ((j : Int)).toNat
          omega
        · have := (fin (.inr ⟨y, ye, hna⟩)).1
          rw [Int.zero_add] at this
          rw [this]
      · have hj1 : j = 0 := by omega
        refine ⟨pu_nat os, ⟨by omega, by omega, lm⟩, os.take j ++ [k] ++ os.drop j, some (.int (0 + (k : Int))), some (.int (j : Int)), ?_, (fin (.inl hj1)).2⟩
        rw [(fin (.inl hj1)).1]
  · obtain ⟨os, x6, x8, rfl, hp, hm⟩ := hi
    simp! [↓W_opL, ↓W_slO, ↓W_st0, ↓W_st1, ↓W_st2, ↓W_gtpSt, ↓Frz_st, stD_pu]
    refine FrzL_pu (pu_nat os) ?_
    rw [← List.map_reverse]
    refine W_forM (fun pre ρ => ∃ x6, ρ = [some (.lst (ss.map stD)), some (.lst (ws.map D.int)), some (.tup (.int a :: .int b :: r)), some (.int lab), some (.own (ss.map (testD a b))), some (.lst (os.map nD)), x6, some (mkP ss a b lab pre.reverse), x8]) ⟨_, rfl⟩ (fun pre o post ρ ed hi => ?_) (fun ρ hi => ?_)
    · obtain ⟨x6, rfl⟩ := hi
      have ho : o < ss.length := by
        have : o ∈ os := by
          have : o ∈ os.reverse := by rw [ed]; exact List.mem_append.mpr (.inr List.mem_cons_self)
          exact List.mem_reverse.mp this
        exact List.mem_range.mp (List.mem_filter.mp (hm.mem_iff.mp this)).1
      show W (gNam 6 (.int (o : Int)) _) _
      simp! [↓W_opL, ↓W_slO, ↓W_st0, ↓W_st1, ↓W_st2, ↓W_gtpSt, ↓Frz_st, stD_pu]
      refine W_atI (x := testD a b (ss.getD o zSt)) (by omega) (by rw [List.getElem?_map, Int.toNat_natCast, getD_at ho]; rfl) ?_
      rw [show testD a b (ss.getD o zSt) = .tup [.str (testK (ss.getD o zSt) a b), .int (testP (ss.getD o zSt) a b)] from rfl]
      simp! [↓W_opL, ↓W_slO, ↓W_st0, ↓W_st1, ↓W_st2, ↓W_gtpSt, ↓Frz_st, stD_pu]
      refine ⟨mkP_pu _, some (.int (o : Int)), ?_⟩
      rw [List.reverse_append]
      rfl
    · obtain ⟨x6, rfl⟩ := hi
      simp! [↓W_opL, ↓W_slO, ↓W_st0, ↓W_st1, ↓W_st2, ↓W_gtpSt, ↓Frz_st, stD_pu]
      rw [List.reverse_reverse]
      exact ⟨mkP_pu _, q os hp hm⟩
end Pd

/-! PdXc: exceptions of own classes: a def that raises answers with the data `.exc`. -/
namespace Pd
open PySem PySem.Spec PyProof.Rows L2

/-! ### what flies -/
def D.isX : D → Bool
  | .exc _ _ _ => true
  | _ => false
def Fl.isX : Fl → Bool
  | .rt d _ => d.isX
  | _ => false
def XcOk (K : PySem.W.Frag) (G : Hp) (nm : Str) (ns : List Str) (ds : List D) (cls : Value) (d : Option Addr) : Prop :=
  ∃ (C : Addr) (vs : List V), PySem.W.nsIn K mainGlobals nm = some (some (.ref C)) ∧ cls = .ref C ∧ xdc G d ns vs ∧ RepL K G vs ds
def EndXr (K : PySem.W.Frag) (io : List Nat) (σ : L2.St) (G H : Hp) (L : Fp) (W : WX) (nm : Str) (ns : List Str) (ds : List D) (ρ : Ev) : Prop :=
  ∀ cls d σ' G' H' L', Sta G' H' L' → Stp G H L G' H' L' → Sl K G' σ' ρ L' → Kp io σ σ' → XcOk K G' nm ns ds cls d → W cls d σ' H'
def EndX (K : PySem.W.Frag) (io : List Nat) (σ : L2.St) (G H : Hp) (L : Fp) (W : WX) (De : Ends) (fl : Fl) : Prop :=
  (fl.isX = false → EndS K io σ G H L De fl) ∧ ∀ nm ns ds ρ, fl = .rt (.exc nm ns ds) ρ → EndXr K io σ G H L W nm ns ds ρ
def tX (K : PySem.W.Frag) (io : List Nat) (W : WX) (g : DS) : TS := fun De σ H => ∃ G ρ L fl, Sta G H L ∧ Sl K G σ ρ L ∧ g ρ = some fl ∧ EndX K io σ G H L W De fl
def SX (X : Cx) (io : List Nat) (W : WX) (st : Stmt) (g : DS) : Prop := PS X st (tX X.K io W g)
def SXs (X : Cx) (io : List Nat) (W : WX) (st : List Stmt) (g : DS) : Prop := PSs X st (tX X.K io W g)
section
variable {K : PySem.W.Frag} {io : List Nat} {σ σ1 : L2.St} {G H G1 H1 : Hp} {L L1 : Fp} {De De' : Ends} {fl : Fl} {W : WX} {ρ : Ev} {d : D}
theorem EndX.after (q : EndX K io σ G H L W De fl) (s : Stp G H L G1 H1 L1) (k : Kp io σ σ1) : EndX K io σ1 G1 H1 L1 W De fl :=
  ⟨fun h => (q.1 h).after s k, fun nm ns ds ρ e cls d σ' G' H' L' a b c kk x => q.2 nm ns ds ρ e cls d σ' G' H' L' a (s.trans b) c (k.trans kk) x⟩
theorem EndX.mk_nx (q : EndS K io σ G H L De (.nx ρ)) : EndX K io σ G H L W De (.nx ρ) := ⟨fun _ => q, fun _ _ _ _ e => (nomatch e)⟩
theorem EndX.mk_bk (q : EndS K io σ G H L De (.bk ρ)) : EndX K io σ G H L W De (.bk ρ) := ⟨fun _ => q, fun _ _ _ _ e => (nomatch e)⟩
theorem EndX.mk_ct (q : EndS K io σ G H L De (.ct ρ)) : EndX K io σ G H L W De (.ct ρ) := ⟨fun _ => q, fun _ _ _ _ e => (nomatch e)⟩
theorem EndX.rt_of (q : EndX K io σ G H L W De (.rt d ρ)) (h : De'.rt = De.rt) : EndX K io σ G H L W De' (.rt d ρ) :=
  ⟨fun z v σ' G' H' M L' a b c k o => by rw [h]; exact q.1 z v σ' G' H' M L' a b c k o, q.2⟩
end
/-- a statement that raises nothing -/
def dNoX (g : DS) : DS := fun ρ => (g ρ).bind fun fl => if fl.isX = true then none else some fl
section
variable {X : Cx} {io : List Nat} {W : WX} {pos : Pos} {e c : Expr} {st : Stmt} {sts as bs rest : List Stmt} {f h : DE} {g g' : DS}
theorem tX_of {De : Ends} {σ : L2.St} {H : Hp} {K : PySem.W.Frag} (hq : tX K io W (dNoX g) De σ H) : tS K io g De σ H := by
  obtain ⟨G, ρ, L, fl, h1, h2, h3, q⟩ := hq
  unfold dNoX at h3
  obtain ⟨fl1, e1, h3⟩ := Option.bind_eq_some_iff.mp h3
  split at h3
  · cases h3
  · rename_i hx
    cases h3
    exact ⟨G, ρ, L, _, h1, h2, e1, q.1 (by simpa using hx)⟩
theorem sx_of (s : SS X io st g) : SX X io W st (dNoX g) := ps_weak s fun De σ H => tX_of
theorem sxs_of (s : SSs X io sts g) : SXs X io W sts (dNoX g) := pss_weak s fun De σ H => tX_of
theorem sx_nil : SXs X io W [] dSkip := pss_weak pss_nil fun De σ H ⟨G, ρ, L, fl, h1, h2, h3, q⟩ => by
  cases h3
  exact q.1 rfl σ G H L h1 .refl h2 .refl
theorem sx_one (h1 : SX X io W st g) : SXs X io W [st] g := pss_one h1
theorem sx_cons (h1 : SX X io W st g) (h2 : SXs X io W rest g') : SXs X io W (st :: rest) (dSeq g g') := pss_weak (pss_cons h1 h2) fun De σ H ⟨G, ρ, L, fl, h1, h2, h3, q⟩ => by
  unfold dSeq at h3
  obtain ⟨fl1, e1, h3⟩ := Option.bind_eq_some_iff.mp h3
  refine ⟨G, ρ, L, fl1, h1, h2, e1, ?_⟩
  cases fl1 with
  | nx ρ1 => exact .mk_nx fun σ' G' H' L' a b c d => ⟨G', ρ1, L', fl, a, c, h3, q.after b d⟩
  | bk ρ1 => cases h3; exact .mk_bk (q.1 rfl)
  | ct ρ1 => cases h3; exact .mk_ct (q.1 rfl)
  | rt d ρ1 => cases h3; exact q.rt_of rfl
theorem sx_if (hc : ST X c h) (ha : SXs X io W as g) (hb : SXs X io W bs g') : SX X io W (.If c as bs pos) (dIfS h g g') := ps_weak (ps_if hc ha hb) fun De σ H ⟨G, ρ, L, fl, h1, h2, h3, q⟩ => by
  unfold dIfS at h3
  obtain ⟨⟨d1, ρ1⟩, e1, h3⟩ := Option.bind_eq_some_iff.mp h3
  dsimp only at h3
  split at h3
  · refine ⟨G, ρ, L, true, ρ1, h1, h2, e1, fun G1 H1 L1 a1 b1 c1 => ?_⟩
    dsimp only
    rw [if_pos rfl]
    exact ⟨G1, ρ1, L1, fl, a1, c1, h3, q.after b1 .refl⟩
  · refine ⟨G, ρ, L, false, ρ1, h1, h2, e1, fun G1 H1 L1 a1 b1 c1 => ?_⟩
    dsimp only
    rw [if_neg Bool.false_ne_true]
    exact ⟨G1, ρ1, L1, fl, a1, c1, h3, q.after b1 .refl⟩
  · cases h3
end
section
variable {X : Cx} {io : List Nat} {W : WX} {pos : Pos} {tg iter c : Expr} {body : List Stmt} {f : DI} {gg : DG} {g : DS} {h : DE}
theorem sx_for (hp : PassesOwn (model X.prog X.w) X.A X.env X.xe) (hc : X.calm = true) (hi : SI X tg iter f) (hg : SG X io tg gg) (hb : SXs X io W body g) (hs : ∀ x, foldedSetIterable iter X.env x = pure x := by intro _; rfl) :
    SX X io W (.For tg iter body [] pos) (dFor f gg g) := ps_weak (ps_for hp hc hi hg hb hs) fun De σ H ⟨G, ρ, L, fl, h1, h2, h3, q⟩ => by
  unfold dFor at h3
  obtain ⟨⟨ds, ρ1⟩, e1, h3⟩ := Option.bind_eq_some_iff.mp h3
  dsimp only at h3
  refine ⟨G, ρ, L, ds, ρ1, h1, h2, e1, fun J G1 H1 L1 n Wk Y a1 b1 c1 w hn hw hy => ?_⟩
  subst hn
  refine for_it w (fun i σ2 H2 => ∃ G2 ρ2 L2, Sta G2 H2 L2 ∧ Stp G1 H1 L1 G2 H2 L2 ∧ Sl X.K G2 σ2 ρ2 L2 ∧ Kp io σ σ2 ∧ forL gg g (ds.drop i) ρ2 = some fl) ⟨G1, ρ1, L1, a1, .refl, c1, .refl, h3⟩
    (fun i σ2 H2 _ ⟨G2, ρ2, L2, a2, b2, _⟩ => hw H2 (b2.ex.trans a2.ex)) (fun i x σ2 H2 H3 hi ⟨G2, ρ2, L2, a2, b2, c2, k2, e2⟩ y => ?_) (fun σ2 H2 ⟨G2, ρ2, L2, a2, b2, c2, k2, e2⟩ => ?_)
  · obtain ⟨G3, d, a3, b3, d3, r3⟩ := hy i G2 H2 x H3 L2 hi a2 b2.ex y
    rw [drop_get d3, forL] at e2
    obtain ⟨ρ4, e4, e2⟩ := Option.bind_eq_some_iff.mp e2
    obtain ⟨fl5, e5, e2⟩ := Option.bind_eq_some_iff.mp e2
    refine ⟨G3, ρ2, L2, d, ρ4, a3, c2.mono b3.ex, r3, e4, fun σ4 L4 a4 b4 c4 k4 => ⟨G3, ρ4, L4, fl5, a4, c4, e5, ?_⟩⟩
    have st := (b2.trans b3).trans b4
    cases fl5 with
    | nx ρ5 => exact .mk_nx fun σ' G' H' L' a b c d => ⟨G', ρ5, L', a, st.trans b, c, (k2.trans k4).trans d, e2⟩
    | ct ρ5 => exact .mk_ct fun σ' G' H' L' a b c d => ⟨G', ρ5, L', a, st.trans b, c, (k2.trans k4).trans d, e2⟩
    | bk ρ5 =>
      cases e2
      exact .mk_bk fun σ' G' H' L' a b c d => q.1 rfl σ' G' H' L' a ((b1.trans st).trans b) c ((k2.trans k4).trans d)
    | rt d5 ρ5 =>
      cases e2
      exact (q.after (b1.trans st) (k2.trans k4)).rt_of rfl
  · rw [List.drop_length, forL] at e2
    cases e2
    exact q.1 rfl σ2 G2 H2 L2 a2 (b1.trans b2) c2 k2
theorem sx_while (n : Ev → Nat) (hp : PassesOwn (model X.prog X.w) X.A X.env X.xe) (hc : ST X c h) (hb : SXs X io W body g) : SX X io W (.While c body [] pos) (dWhile n h g) :=
  ps_weak (ps_while hp hc hb) fun De σ H ⟨G, ρ, L, fl, h1, h2, h3, q⟩ => by
    unfold dWhile at h3
    refine ⟨fun m σ2 H2 => ∃ G2 ρ2 L2, Sta G2 H2 L2 ∧ Stp G H L G2 H2 L2 ∧ Sl X.K G2 σ2 ρ2 L2 ∧ Kp io σ σ2 ∧ whileN h g m ρ2 = some fl, ⟨_, G, ρ, L, h1, .refl, h2, .refl, h3⟩, fun m σ2 H2 ⟨G2, ρ2, L2, a2, b2, c2, k2, e2⟩ => ?_⟩
    cases m with
    | zero => cases e2
    | succ m =>
      rw [whileN] at e2
      obtain ⟨⟨d3, ρ3⟩, e3, e2⟩ := Option.bind_eq_some_iff.mp e2
      dsimp only at e2
      split at e2
      · refine ⟨G2, ρ2, L2, true, ρ3, a2, c2, e3, fun G3 H3 L3 a3 b3 c3 => ?_⟩
        dsimp only
        rw [if_pos rfl]
        obtain ⟨fl5, e5, e2⟩ := Option.bind_eq_some_iff.mp e2
        refine ⟨fun σ' H' => ∃ G' ρ' L', Sta G' H' L' ∧ Stp G H L G' H' L' ∧ Sl X.K G' σ' ρ' L' ∧ Kp io σ σ' ∧ whileN h g m ρ' = some fl, fun σ' H' z => ⟨m, Nat.lt_succ_self m, z⟩, G3, ρ3, L3, fl5, a3, c3, e5, ?_⟩
        have st := b2.trans b3
        cases fl5 with
        | nx ρ5 => exact .mk_nx fun σ' G' H' L' a b c d => ⟨G', ρ5, L', a, st.trans b, c, k2.trans d, e2⟩
        | ct ρ5 => exact .mk_ct fun σ' G' H' L' a b c d => ⟨G', ρ5, L', a, st.trans b, c, k2.trans d, e2⟩
        | bk ρ5 =>
          cases e2
          exact .mk_bk fun σ' G' H' L' a b c d => q.1 rfl σ' G' H' L' a (st.trans b) c (k2.trans d)
        | rt d5 ρ5 =>
          cases e2
          exact (q.after st k2).rt_of rfl
      · cases e2
        refine ⟨G2, ρ2, L2, false, _, a2, c2, e3, fun G3 H3 L3 a3 b3 c3 => ?_⟩
        dsimp only
        rw [if_neg Bool.false_ne_true]
        exact q.1 rfl σ2 G3 H3 L3 a3 (b2.trans b3) c3 k2
      · cases e2
end

/-! ### a def that may raise -/
structure FnX (P : Program) (w : World) (K : PySem.W.Frag) (mg : Str → Option Value) (base : Heap) (CX : CXT) (k : Nat) (f : Addr) (fd : FuncData) (ps : List Str) (sp : Sp) : Prop where
  run : ∀ (A : Around) (outer : List Env) (s : Shared) (H : Hp) (args : Args) (us : List Value) (vs : List V) (Q : VK) (E : XK), Rm k A → Env0 P w K mg base A outer s H → BindsTo s fd args (ps.zip us) → Vals vs us → sp vs H Q E →
    codeAny (model P w) A (.call (.ref f) args) (CR CX outer P w H s Q E) s
def spX (K : PySem.W.Frag) (n : Nat) (C : Ct) : Sp := fun vs H Q E => vs.length = n ∧ ∃ G ds L d, Sta G H L ∧ OwnL K G vs ds L ∧ C ds = some (d, []) ∧
  (d.isX = false → ∀ v G' H' M, Sta G' H' M → Stp G H L G' H' M → Own K G' v d M → Q v H') ∧
  ∀ nm ns xs, d = .exc nm ns xs → ∀ cls dd G' H', Sta G' H' [] → Stp G H L G' H' [] → XcOk K G' nm ns xs cls dd → E cls dd H'
structure FdX (P : Program) (w : World) (K : PySem.W.Frag) (mg : Str → Option Value) (base : Heap) (CX : CXT) (k : Nat) (x : Str) (n : Nat) (C : Ct) : Prop where
  len : ∀ ds r, C ds = some r → ds.length = n
  ex : ∃ f fd ps, ps.length = n ∧ FnX P w K mg base CX k f fd ps (spX K n C) ∧ mg x = some (.ref f) ∧ PySem.W.keepIn K (.ref f) = true ∧ Binds K fd ps []
section
variable {P : Program} {w : World} {K : PySem.W.Frag} {mg : Str → Option Value} {base : Heap} {CX : CXT}
theorem call_endX {N : List Str} {x : Str} {sc : Scope} {f : Addr} {cdv : Value} {A : Around} {outer : List Env} {s : Shared} {H : Hp} {Q : VK} {E : XK} {fl : Flow} {s' : Shared}
    (h : SP (cxOf CX P w K mg base N x sc f cdv A outer s H E) [] { nx := fun _ H' => Q .non H', rt := Q } fl s') :
    match fl with | .ret u => CE outer P w H s Q u s' | .next => CE outer P w H s Q .none s' | _ => False := by
  cases fl with
  | ret u =>
    obtain ⟨v, _, H2, J, rv, q⟩ := h
    exact ⟨v, H2, J.os, J.bare, J.base, J.hok, rv, q⟩
  | next =>
    obtain ⟨_, H2, J, q⟩ := h
    exact ⟨.non, H2, J.os, J.bare, J.base, J.hok, rfl, q⟩
  | brk => obtain ⟨_, _, _, q⟩ := h; exact q
  | cont => obtain ⟨_, _, _, q⟩ := h; exact q
theorem FnX.mk' {x : Str} {st : Stmt} {f : Addr} {fd : FuncData} {N ps : List Str} {k : Nat} {g : DS} {C : Ct} (F : At K mg x st ps f fd) (S : FnScope N ps (defScope st)) (hC : C = Pd.run N.length ps.length [] g)
    (hb : ∀ (cdv : Value) (A : Around) (outer : List Env) (s : Shared) (H : Hp) (E : XK), Rm k (A.deeper (envOfC x (defScope st) s.heap.objs.size f cdv)) →
      SXs (cxOf CX P w K mg base N x (defScope st) f cdv A outer s H E) [] (fun cls d _ H => E cls d H) (defBody st) g) :
    FnX P w K mg base CX (k + 1) f fd ps (spX K ps.length C) := by
  subst hC
  obtain ⟨oc, od, kV, doc, pm, an, cdv, ct, osl, hfd, lk, hcd⟩ := F.F.ex
  subst hfd
  constructor
  intro A outer s H args us vs Q E hr e0 hbind rv hsp
  obtain ⟨hl, G, ds, L, d, h1, h2, h3, q, qx⟩ := hsp
  have ld : ds.length = ps.length := by rw [← h2.length]; exact hl
  unfold Pd.run at h3
  rw [if_pos ld] at h3
  obtain ⟨fl, e1, h3⟩ := Option.bind_eq_some_iff.mp h3
  have hst : L2.start N vs = vs.map some ++ List.replicate (N.length - ps.length) none := by unfold L2.start; rw [hl]
  have reading : tX K [] (fun cls d _ H => E cls d H) g { nx := fun _ H' => Q .non H', rt := Q } (L2.start N vs) H := by
    refine ⟨G, _, L, fl, h1, by rw [hst]; exact Sl.start _ h2, e1, ?_⟩
    cases fl with
    | rt d0 ρ0 =>
      obtain ⟨r, e2, h3⟩ := Option.bind_eq_some_iff.mp h3
      cases h3
      refine ⟨fun hx v σ' G' H' M L' a b c k o => ?_, fun nm ns xs ρ e cls dd σ' G' H' L' a b c k x => ?_⟩
      · have pm : (M ++ L').Perm (L' ++ M) := List.perm_append_comm
        exact q hx v G' H' M (a.perm pm).left (b.permR pm).less o
      · cases e
        have a' : Sta G' H' (L' ++ []) := by rw [List.append_nil]; exact a
        have b' : Stp G H L G' H' (L' ++ []) := by rw [List.append_nil]; exact b
        exact qx nm ns xs rfl cls dd G' H' a'.left b'.less x
    | nx ρ0 =>
      obtain ⟨r, e2, h3⟩ := Option.bind_eq_some_iff.mp h3
      cases h3
      refine .mk_nx fun σ' G' H' L' a b c k => ?_
      have a' : Sta G' H' (L' ++ []) := by rw [List.append_nil]; exact a
      have b' : Stp G H L G' H' (L' ++ []) := by rw [List.append_nil]; exact b
      exact q rfl .non G' H' [] a'.left b'.less (.pure .non)
    | bk _ => cases h3
    | ct _ => cases h3
  have old : ∀ b u, base.get? b = some u → s.heap.get? b = some u := fun b u e => (e0.bs b u e).1
  have KX : K.In s.heap := e0.mod.kin.keeps old
  have lim : s.heap.NoLimit := e0.mod.nolimit.keeps old
  refine codeAny_call_function hr.room.depth (KX _ _ lk) rfl S.co S.gen rfl (PySem.W.codeRec_of KX hcd) (hbind _ _ _ _ (wpAny_newFunctionEnv_cells S.kind (fun ⟨n, v⟩ hy => ?_) fun env he s1 fresh => ?_))
  · cases S.par n (List.of_mem_zip hy).1 with
    | inl z => exact .inl z
    | inr z => exact .inr ⟨z, PySem.W.cellsFrom_some _ _ _ (.inl z)⟩
  · subst he
    refine ⟨lim.keeps fresh.toInCall.keep, codeAny_func ?_⟩
    have rm : Rm k (A.deeper (envOfC x (defScope st) s.heap.objs.size f cdv)) := ⟨hr.room.deeper _, hr.gu⟩
    have body := hb cdv A outer s H E rm
    have I := inv_start (N := N) (ps := ps) (qual := x) (scope := defScope st) (f := f) (cd := cdv) (E := E) (CX := CX) S hr.room.hd e0 hl rv fresh
    refine wpAny_mono (body.run [] s1 _ H _ I reading) (fun fl2 s2 hs => ?_) fun _ _ z => z
    have fin := call_endX hs
    cases fl2 <;> first | exact fin | exact False.elim fin
theorem FdX.mk' {x : Str} {st : Stmt} {f : Addr} {fd : FuncData} {N ps : List Str} {k : Nat} {g : DS} {C : Ct} (F : At K mg x st ps f fd) (S : FnScope N ps (defScope st)) (hC : C = Pd.run N.length ps.length [] g)
    (hb : ∀ (cdv : Value) (A : Around) (outer : List Env) (s : Shared) (H : Hp) (E : XK), Rm k (A.deeper (envOfC x (defScope st) s.heap.objs.size f cdv)) →
      SXs (cxOf CX P w K mg base N x (defScope st) f cdv A outer s H E) [] (fun cls d _ H => E cls d H) (defBody st) g) :
    FdX P w K mg base CX (k + 1) x ps.length C :=
  ⟨fun ds r e => (by
    rw [hC] at e
    unfold Pd.run at e
    split at e
    · assumption
    · cases e), ⟨f, fd, ps, rfl, FnX.mk' F S hC hb, F.g, F.F.kp, F.b⟩⟩
end
/-- its call -/
theorem pe_callX {X : Cx} {CX : CXT} {W : WX} {k n : Nat} {x : Str} {f : Addr} {fd : FuncData} {ps : List Str} {sp : Sp} {e : Expr} {es : List Expr} {t : TA} {p pos : Pos} (F : FnX X.prog X.w X.K X.mg X.base CX k f fd ps sp) (hn : ps.length = n)
    (hl : ∀ vs H Q E, sp vs H Q E → vs.length = n) (hx : ∀ σ, PassesAt CX X σ (WE W σ))
    (hr : Rm k X.A) (hg : Gl X x) (hm : X.mg x = some (.ref f)) (hk : PySem.W.keepIn X.K (.ref f) = true) (hb : Binds X.K fd ps []) (ha : PA X (e :: es) t) (hdb : (x == ("__debug__" : Str)) = false)
    (he : starEach (e :: es) X.env = (false, eval e X.env) :: starEach es X.env) (hpl : (backTo pos (starEach es X.env)).any (·.1) = false) : PE X (.Call (.Name x p) (e :: es) [] pos) (fun σ H Q => t σ H fun vs H1 => sp vs H1 Q (WE W σ)) := by
  constructor
  intro pins s σ H Q I h
  refine wpAny_Call_Name_kw (ld_glob I hg hm (PySem.W.callWith_K (h₀ := X.base) I.ok.mod.kin hk (thn (ha.run pos pins s σ H _ I h) fun us s1 ⟨vs, H1, I1, rv, q⟩ => ⟨I1.kIn, wpAny_call ?_⟩) he hpl) hdb)
  have lv : (us ++ []).length = ps.length := by rw [List.append_nil, ← rv.length, hl _ _ _ _ q, hn]
  have bd := hb s1 us I1.kIn lv
  rw [List.append_nil] at bd
  refine codeAny_mono (F.run X.A X.stack s1 H1 ⟨us, []⟩ us vs Q (WE W σ) hr I1.env0 bd rv q) fun r s2 hq => ?_
  match r with
  | .error e2 => exact hx σ pins H1 s1 e2 s2 I1 hq
  | .ok (.ret u) => exact I1.after hq
  | .ok .next => exact False.elim hq
  | .ok .brk => exact False.elim hq
  | .ok .cont => exact False.elim hq
/-- x = f(..), f may raise -/
def dSetX (i : Nat) (C : Ct) (f : DA) : DS := fun ρ => (f ρ).bind fun p => (C p.1).bind fun q => match q.2 with
  | [] => if q.1.isX = true then some (.rt q.1 p.2) else (put i q.1 p.2).bind fun ρ' => some (.nx ρ')
  | _ => none
theorem sx_setX {X : Cx} {CX : CXT} {W : WX} {io : List Nat} (i : Nat) {k n : Nat} {x y : Str} {C : Ct} {e : Expr} {es : List Expr} {f : DA} {p pos pos' spos : Pos} (hN : X.N.Nodup) (F : FdX X.prog X.w X.K X.mg X.base CX k x n C) (hx : ∀ σ, PassesAt CX X σ (WE W σ)) (hr : Rm k X.A) (ha : SA X (e :: es) f)
    (hi : X.N[i]? = some y := by rfl) (hy : Loc X.env.scope y := by first | exact .inl rfl | exact .inr rfl) (hg : Gl X x := by rfl) (hdb : (x == ("__debug__" : Str)) = false := by decide)
    (he : starEach (e :: es) X.env = (false, eval e X.env) :: starEach es X.env := by rfl) (hpl : (backTo pos (starEach es X.env)).any (·.1) = false := by rfl)
    (hs : swapsWith (.Call (.Name x p) (e :: es) [] pos) (some (.Name y pos')) spos.line X.env = pure false := by rfl)
    (hf : X.fn y = true ∨ X.env.scope.names.lookup y = some .local := by first | exact .inl rfl | exact .inr rfl | assumption) (ho : io.contains i = false := by rfl) :
    SX X io W (.Assign [.Name y pos'] (.Call (.Name x p) (e :: es) [] pos) spos) (dSetX i C f) := by
  obtain ⟨ff, fd, ps, F0, F1, F2, F3, F4⟩ := F.ex
  refine ps_weak (ps_set hN hi hy (pe_callX F1 F0 (fun _ _ _ _ z => z.1) hx hr hg F2 F3 F4 ha hdb he hpl) hs hf) fun De σ H ⟨G, ρ, L, fl, h1, h2, h3, q⟩ => ?_
  unfold dSetX at h3
  obtain ⟨⟨ds, ρ1⟩, e1, h3⟩ := Option.bind_eq_some_iff.mp h3
  obtain ⟨⟨d2, o2⟩, e2, h3⟩ := Option.bind_eq_some_iff.mp h3
  dsimp only at h3 e2
  split at h3
  · refine ⟨G, ρ, L, ds, ρ1, h1, h2, e1, fun vs G1 H1 L1 a1 b1 c1 r1 => ?_⟩
    refine ⟨by rw [r1.length]; exact F.len _ _ e2, G1, ds, [], d2, a1.nil, r1.ownL, e2, fun hx v G' H' M a b o => ?_, fun nm ns xs ed cls dd G' H' a b xo => ?_⟩
    · obtain ⟨z1, z2⟩ := Sta.frame (A := []) (B := L1) a1 b a
      rw [hx, if_neg Bool.false_ne_true] at h3
      obtain ⟨ρ2, e3, h3⟩ := Option.bind_eq_some_iff.mp h3
      cases h3
      obtain ⟨L2, q1, q2, q3⟩ := sl_put z1 (c1.mono b.ex) o e3
      exact q.1 rfl _ G' H' L2 q1 ((b1.trans z2).trans q2) q3 (Kp.set ho)
    · subst ed
      have z0 : (D.exc nm ns xs).isX = true := rfl
      rw [z0, if_pos rfl] at h3
      cases h3
      obtain ⟨z1, z2⟩ := Sta.frame (A := []) (B := L1) (A' := []) a1 b a
      exact q.2 nm ns xs _ rfl cls dd σ G' H' L1 z1 (b1.trans z2) (c1.mono b.ex) .refl xo
  · cases h3
/-- .. where an own answer becomes known -/
def dSetXF (i : Nat) (C : Ct) (f : DA) : DS := fun ρ => (f ρ).bind fun p => (C p.1).bind fun q => match q.2 with
  | [] => if q.1.isX = true then some (.rt q.1 p.2) else (put i (frz q.1) p.2).bind fun ρ' => some (.nx ρ')
  | _ => none
theorem sx_setXF {X : Cx} {CX : CXT} {W : WX} {io : List Nat} (i : Nat) {k n : Nat} {x y : Str} {C : Ct} {e : Expr} {es : List Expr} {f : DA} {p pos pos' spos : Pos} (hN : X.N.Nodup) (F : FdX X.prog X.w X.K X.mg X.base CX k x n C) (hx : ∀ σ, PassesAt CX X σ (WE W σ)) (hr : Rm k X.A) (ha : SA X (e :: es) f)
    (hi : X.N[i]? = some y := by rfl) (hy : Loc X.env.scope y := by first | exact .inl rfl | exact .inr rfl) (hg : Gl X x := by rfl) (hdb : (x == ("__debug__" : Str)) = false := by decide)
    (he : starEach (e :: es) X.env = (false, eval e X.env) :: starEach es X.env := by rfl) (hpl : (backTo pos (starEach es X.env)).any (·.1) = false := by rfl)
    (hs : swapsWith (.Call (.Name x p) (e :: es) [] pos) (some (.Name y pos')) spos.line X.env = pure false := by rfl)
    (hf : X.fn y = true ∨ X.env.scope.names.lookup y = some .local := by first | exact .inl rfl | exact .inr rfl | assumption) (ho : io.contains i = false := by rfl) :
    SX X io W (.Assign [.Name y pos'] (.Call (.Name x p) (e :: es) [] pos) spos) (dSetXF i C f) := by
  obtain ⟨ff, fd, ps, F0, F1, F2, F3, F4⟩ := F.ex
  refine ps_weak (ps_set hN hi hy (pe_callX F1 F0 (fun _ _ _ _ z => z.1) hx hr hg F2 F3 F4 ha hdb he hpl) hs hf) fun De σ H ⟨G, ρ, L, fl, h1, h2, h3, q⟩ => ?_
  unfold dSetXF at h3
  obtain ⟨⟨ds, ρ1⟩, e1, h3⟩ := Option.bind_eq_some_iff.mp h3
  obtain ⟨⟨d2, o2⟩, e2, h3⟩ := Option.bind_eq_some_iff.mp h3
  dsimp only at h3 e2
  split at h3
  · refine ⟨G, ρ, L, ds, ρ1, h1, h2, e1, fun vs G1 H1 L1 a1 b1 c1 r1 => ?_⟩
    refine ⟨by rw [r1.length]; exact F.len _ _ e2, G1, ds, [], d2, a1.nil, r1.ownL, e2, fun hx v G' H' M a b o => ?_, fun nm ns xs ed cls dd G' H' a b xo => ?_⟩
    · obtain ⟨z1, z2⟩ := Sta.frame (A := []) (B := L1) a1 b a
      rw [hx, if_neg Bool.false_ne_true] at h3
      obtain ⟨ρ2, e3, h3⟩ := Option.bind_eq_some_iff.mp h3
      cases h3
      obtain ⟨f1, f2, f3⟩ := z1.freeze
      obtain ⟨L2, q1, q2, q3⟩ := sl_put (M := []) f1 ((c1.mono b.ex).mono f3) (.pure (o.addF z1)) e3
      exact q.1 rfl _ _ H' L2 q1 (((b1.trans z2).trans f2).trans q2) q3 (Kp.set ho)
    · subst ed
      have z0 : (D.exc nm ns xs).isX = true := rfl
      rw [z0, if_pos rfl] at h3
      cases h3
      obtain ⟨z1, z2⟩ := Sta.frame (A := []) (B := L1) (A' := []) a1 b a
      exact q.2 nm ns xs _ rfl cls dd σ G' H' L1 z1 (b1.trans z2) (c1.mono b.ex) .refl xo
  · cases h3
/-- f(..) as a statement, f may raise -/
def dDropX (C : Ct) (f : DA) : DS := fun ρ => (f ρ).bind fun p => (C p.1).bind fun q => match q.2 with
  | [] => if q.1.isX = true then some (.rt q.1 p.2) else some (.nx p.2)
  | _ => none
theorem sx_exprX {X : Cx} {CX : CXT} {W : WX} {io : List Nat} {k n : Nat} {x : Str} {C : Ct} {e : Expr} {es : List Expr} {f : DA} {p pos spos : Pos} (F : FdX X.prog X.w X.K X.mg X.base CX k x n C) (hx : ∀ σ, PassesAt CX X σ (WE W σ)) (hr : Rm k X.A) (ha : SA X (e :: es) f)
    (hg : Gl X x := by rfl) (hdb : (x == ("__debug__" : Str)) = false := by decide)
    (he : starEach (e :: es) X.env = (false, eval e X.env) :: starEach es X.env := by rfl) (hpl : (backTo pos (starEach es X.env)).any (·.1) = false := by rfl)
    (hs : swapsWith (.Call (.Name x p) (e :: es) [] pos) none spos.line X.env = pure false := by rfl) :
    SX X io W (.Expr (.Call (.Name x p) (e :: es) [] pos) spos) (dDropX C f) := by
  obtain ⟨ff, fd, ps, F0, F1, F2, F3, F4⟩ := F.ex
  refine ps_weak (ps_expr (pe_callX F1 F0 (fun _ _ _ _ z => z.1) hx hr hg F2 F3 F4 ha hdb he hpl) hs) fun De σ H ⟨G, ρ, L, fl, h1, h2, h3, q⟩ => ?_
  unfold dDropX at h3
  obtain ⟨⟨ds, ρ1⟩, e1, h3⟩ := Option.bind_eq_some_iff.mp h3
  obtain ⟨⟨d2, o2⟩, e2, h3⟩ := Option.bind_eq_some_iff.mp h3
  dsimp only at h3 e2
  split at h3
  · refine ⟨G, ρ, L, ds, ρ1, h1, h2, e1, fun vs G1 H1 L1 a1 b1 c1 r1 => ?_⟩
    refine ⟨by rw [r1.length]; exact F.len _ _ e2, G1, ds, [], d2, a1.nil, r1.ownL, e2, fun hx v G' H' M a b o => ?_, fun nm ns xs ed cls dd G' H' a b xo => ?_⟩
    · obtain ⟨z1, z2⟩ := Sta.frame (A := []) (B := L1) a1 b a
      rw [hx, if_neg Bool.false_ne_true] at h3
      cases h3
      exact q.1 rfl σ G' H' L1 z1.left (b1.trans z2.less) (c1.mono b.ex) .refl
    · subst ed
      have z0 : (D.exc nm ns xs).isX = true := rfl
      rw [z0, if_pos rfl] at h3
      cases h3
      obtain ⟨z1, z2⟩ := Sta.frame (A := []) (B := L1) (A' := []) a1 b a
      exact q.2 nm ns xs _ rfl cls dd σ G' H' L1 z1 (b1.trans z2) (c1.mono b.ex) .refl xo
  · cases h3
end Pd

/-! PdXc2: making, raising, catching exceptions of own classes, and what is asked of them. -/
namespace Pd
open PySem PySem.Spec PyProof.Rows L2

/-! ### what the text says of the classes -/
/-- the base class: its __init__ is ValueError's -/
structure CeC (K : PySem.W.Frag) (mg : Str → Option Value) (CE : Addr) : Prop where
  gl : mg "CaseError" = some (.ref CE)
  ga : PySem.W.specialIn K (.ref CE) "__getattribute__" = some (some (.builtin "type.__getattribute__"))
  rd : PySem.W.readsIn K CE (.type "type") = true
  fc : PySem.W.findCls K (.ref CE) (.type "type") "__init__" = some (.val (.builtin "ValueError.__init__"))
/-- a class: it may be asked of -/
structure XcC (K : PySem.W.Frag) (mg : Str → Option Value) (nm : Str) (C : Addr) : Prop where
  gl : mg nm = some (.ref C)
  ns : PySem.W.nsIn K mainGlobals nm = some (some (.ref C))
  hc : (PySem.W.clsIn K C).isSome = true
  ga : PySem.W.findIn K (.ref C) "__getattribute__" = some (some (.builtin "BaseException.__getattribute__"))
  gg : PySem.W.findIn K (.ref C) "__getattr__" = some none
  exC : PySem.W.subIn K (.ref C) (.type "BaseException") = some true
  hdC : PySem.W.hasDictIn K C = true
  ca : PySem.W.findIn K (.ref C) "__class__" = some (some (.builtin "object.__class__"))
  cg : PySem.W.specialIn K (.builtin "object.__class__") "__get__" = some (some (.builtin "getset_descriptor.__get__"))
  ct : PySem.W.takesIn K (.builtin "object.__class__") = some true
  mo : PySem.W.mroIn K C (.type "object") = some true
  ty : PySem.W.typeIn K (.ref C) = some (.type "type")
  kp : PySem.W.keepIn K (.ref C) = true
theorem XcC.one {K : PySem.W.Frag} {mg : Str → Option Value} {nm : Str} {C C' : Addr} (T : XcC K mg nm C) (h : PySem.W.nsIn K mainGlobals nm = some (some (.ref C'))) : C' = C := by
  have := T.ns.symm.trans h
  cases this
  rfl
/-- self.f, .. are stored by __init__; ns: the fields in order -/
structure InC (K : PySem.W.Frag) (C fI : Addr) (ns : List Str) : Prop where
  oex : OexC K C
  no : ∀ n ∈ ns, PySem.W.findIn K (.ref C) n = some none
  iC : PySem.W.findIn K (.ref C) "__init__" = some (some (.ref fI))
  tI : PySem.W.typeIn K (.ref fI) = some (.type "function")

/-! ### __init__ -/
section
variable {X : Cx} {o e : Expr} {es : List Expr} {to te : TE} {ta : TA} {f : Str} {p p' p1 p2 pos : Pos} {pl : Sem Bool}
theorem pe_ceinit {CE : Addr} (T : CeC X.K X.mg CE) (ha : PA X (e :: es) ta) (hg : Gl X "CaseError" := by rfl)
    (hc : eval (.Call (.Attribute (.Name "CaseError" p1) "__init__" p2) (e :: es) [] pos) X.env = (do
      let ov ← eval (.Name "CaseError" p1) X.env
      standAt p2.atName
      let (f, first) ← holding [ov] (getMethod ov "__init__" pl)
      callWith pos f first (backTo pos (starEach (e :: es) X.env)) (backToKw pos (keywordEach [] X.env))) := by rfl)
    (he : starEach (e :: es) X.env = (false, eval e X.env) :: starEach es X.env := by rfl) (hpl : (backTo pos (starEach es X.env)).any (·.1) = false := by rfl) :
    PE X (.Call (.Attribute (.Name "CaseError" p1) "__init__" p2) (e :: es) [] pos) (tVeI X.K ta) := by
  refine ⟨fun pins s σ H Q I h => ?_⟩
  refine PySem.W.methodCall_KW (ld_glob I hg T.gl ?_ (by decide)) hc
  refine PySem.W.method_cls I.kIn T.ga (PySem.W.cls_value I.kIn T.rd T.fc rfl ?_)
  show wpAny _ _ (callWith pos (Value.builtin "ValueError.__init__") [] (backTo pos (starEach (e :: es) X.env)) []) _ _ _
  refine PyProof.Rows.callWith_method1 (thn (ha.run pos pins _ σ H _ (I.tok _) h) fun us s1 ⟨vs, H1, I1, r1, a, C, ws, ev, hl, T, ea, q⟩ => ?_) he hpl
  subst ev
  cases r1 with
  | @cons _ u0 _ ur ra rw' =>
    obtain rfl : u0 = Value.ref a := ra
    have hlen : ur.length ≤ sizeLine := by
      rw [← Paired.length rw', sizeLine_eq]
      omega
    exact oinit_ok T I1 ea hlen fun s' J => ⟨.non, H1, J, rfl, q⟩
end
def tSto (K : PySem.W.Frag) : List Str → Nat → TS
  | [], _ => fun D σ H => D.nx σ H
  | f :: fs, j => tSeq (tOst K f (tVar 0) (tVar j)) (tSto K fs (j + 1))
def tInit (K : PySem.W.Frag) (txt : Str) (ns : List Str) : TS := tSeq (tDrop (tVeI K (tCons (tVar 0) (tCons (tC (.str txt)) tNil)))) (tSto K ns 1)
/-- what __init__ does -/
def spI (K : PySem.W.Frag) (C : Addr) (ns : List Str) : Sp := fun vs H Q _ => ∃ a ws, vs = .ref a :: ws ∧ ws.length = ns.length ∧ H a = some (exo a C none) ∧
  ∀ dx H2, H dx = none → dx ≠ a → H2 a = some (exo a C (some dx)) → H2 dx = some (exd dx (ns.reverse.zip ws.reverse)) → (∀ b, b ≠ a → b ≠ dx → H2 b = H b) → Q .non H2
theorem sto_old {K : PySem.W.Frag} {C a dx : Addr} (T : OexC K C) {σ : L2.St} {De : Ends} (h0 : σ[0]? = some (some (.ref a))) (hda : dx ≠ a) : ∀ (ns : List Str) (ws : List V) (j : Nat) (fs : List (Str × V)) (H : Hp), (∀ n ∈ ns, PySem.W.findIn K (.ref C) n = some none) → ws.length = ns.length →
    (∀ i w, ws[i]? = some w → σ[j + i]? = some (some w)) → fs.length + ns.length ≤ 900 → H a = some (exo a C (some dx)) → H dx = some (exd dx fs) →
    (∀ H2, H2 a = some (exo a C (some dx)) → H2 dx = some (exd dx (ns.reverse.zip ws.reverse ++ fs)) → (∀ b, b ≠ a → b ≠ dx → H2 b = H b) → De.nx σ H2) → tSto K ns j De σ H
  | [], [], j, fs, H, hno, hl, hw, hf, ea, ed, q => q H ea (by simpa using ed) fun b _ _ => rfl
  | n :: ns, w :: ws, j, fs, H, hno, hl, hw, hf, ea, ed, q => by
    refine ⟨w, by simpa using hw 0 w rfl, .ref a, h0, a, C, rfl, T, hno n List.mem_cons_self, .inr ⟨dx, fs, ea, ed, by omega, ?_⟩⟩
    refine sto_old T h0 hda ns ws (j + 1) ((n, w) :: fs) _ (fun n h => hno n (List.mem_cons_of_mem _ h)) (by simpa using hl) (fun i w e => by
      rw [show j + 1 + i = j + (i + 1) by omega]
      exact hw (i + 1) w (by simpa using e)) (by simp at hf ⊢; omega) (by rw [upd_ne hda.symm]; exact ea) upd_same (fun H2 e1 e2 e3 => q H2 e1 ?_ fun b h1 h2 => by rw [e3 b h1 h2, upd_ne h2])
    rw [e2, List.reverse_cons, List.reverse_cons, List.zip_append (by simpa using hl.symm), List.append_assoc]
    rfl
  | [], _ :: _, _, _, _, _, hl, _, _, _, _, _ => by cases hl
  | _ :: _, [], _, _, _, _, hl, _, _, _, _, _ => by cases hl
theorem init_read {K : PySem.W.Frag} {C fI : Addr} {ns : List Str} {txt : Str} {N : List Str} {vs : List V} {H : Hp} {Q : VK} {E : XK} (T : InC K C fI ns) (hns : ns ≠ []) (hl9 : ns.length ≤ 900) (hs : spI K C ns vs H Q E) :
    tInit K txt ns { nx := fun _ H' => Q .non H', rt := Q } (L2.start N vs) H := by
  obtain ⟨a, ws, rfl, hl, ea, q⟩ := hs
  have h0 : (L2.start N (.ref a :: ws))[0]? = some (some (.ref a)) := rfl
  have hw : ∀ i w, ws[i]? = some w → (L2.start N (.ref a :: ws))[1 + i]? = some (some w) := fun i w e => by
    have hi : i < ws.length := by
      rcases Nat.lt_or_ge i ws.length with z | z
      · exact z
      · rw [List.getElem?_eq_none z] at e; cases e
    unfold L2.start
    rw [List.getElem?_append_left (by simp; omega), List.getElem?_map, Nat.add_comm 1 i, List.getElem?_cons_succ, e]
    rfl
  refine ⟨.ref a, h0, a, C, [.str txt], rfl, (by show 1 ≤ 1000; decide), T.oex, ea, ?_⟩
  cases ns with
  | nil => exact absurd rfl hns
  | cons n ns =>
    cases ws with
    | nil => cases hl
    | cons w ws =>
      refine ⟨w, hw 0 w rfl, .ref a, h0, a, C, rfl, T.oex, T.no n List.mem_cons_self, .inl ⟨ea, fun dx hd hda => ?_⟩⟩
      refine sto_old T.oex h0 hda ns ws 2 [(n, w)] _ (fun m h => T.no m (List.mem_cons_of_mem _ h)) (by simpa using hl) (fun i w e => by
        rw [show 2 + i = 1 + (i + 1) by omega]
        exact hw (i + 1) w (by simpa using e)) (by simp at hl9 ⊢; omega) upd_same (by rw [upd_ne hda, upd_same]) (fun H2 e1 e2 e3 => q dx H2 hd hda e1 ?_ fun b h1 h2 => by rw [e3 b h1 h2, upd_ne h1, upd_ne h2])
      rw [e2, List.reverse_cons, List.reverse_cons, List.zip_append (by simpa using hl.symm)]
      rfl
section
variable {P : Program} {w : World} {K : PySem.W.Frag} {mg : Str → Option Value} {base : Heap}
theorem init_ok {qual : Str} {st : Stmt} {C fI : Addr} {fd : FuncData} {N ps ns : List Str} {txt : Str} {k : Nat} (F : Fun K "__init__" qual st fI fd) (S : FnScope N ps (defScope st)) (T : InC K C fI ns) (hps : ps.length = ns.length + 1) (hns : ns ≠ []) (hl9 : ns.length ≤ 900)
    (hb : ∀ (cdv : Value) (A : Around) (outer : List Env) (s : Shared) (H : Hp) (E : XK), PSs (cxOf CX0 P w K mg base N qual (defScope st) fI cdv A outer s H E) (defBody st) (tInit K txt ns)) :
    FnOk P w K mg base CX0 (k + 1) fI fd ps (spI K C ns) := by
  obtain ⟨oc, od, kV, doc, pm, an, cdv, ct, osl, rfl, lk, hcd⟩ := F.ex
  exact fn_of lk hcd S (fun vs H Q E ⟨a, ws, e, hl, _⟩ => by rw [e, List.length_cons, hl, hps]) fun A outer s H vs Q E hr hsp => ⟨_, hb cdv A outer s H E, init_read T hns hl9 hsp⟩
theorem init_okH {qual : Str} {st : Stmt} {C fI : Addr} {fd : FuncData} {N ps ns : List Str} {txt : Str} {k : Nat} (F : Fun K "__init__" qual st fI fd) (S : FnScope N ps (defScope st)) (T : InC K C fI ns) (hps : ps.length = ns.length + 1) (hns : ns ≠ []) (hl9 : ns.length ≤ 900)
    (hb : ∀ (cdv : Value) (A : Around) (outer : List Env) (s : Shared) (H : Hp) (E : XK) (p : Addr × Obj), PSs (L2H.cxH CX0 P w K mg base N qual (defScope st) fI cdv A outer s H E p) (defBody st) (tInit K txt ns)) :
    L2H.FnH P w K mg base CX0 (k + 1) fI fd ps (spI K C ns) := by
  obtain ⟨oc, od, kV, doc, pm, an, cdv, ct, osl, rfl, lk, hcd⟩ := F.ex
  exact L2H.fn_ofH lk hcd S (fun vs H Q E ⟨a, ws, e, hl, _⟩ => by rw [e, List.length_cons, hl, hps]) fun A outer s H vs Q E p hot hr hsp => ⟨_, hb cdv A outer s H E p, init_read T hns hl9 hsp⟩
end
/-- a class that may be raised by C(..) -/
structure MkC (P : Program) (w : World) (K : PySem.W.Frag) (mg : Str → Option Value) (base : Heap) (nm : Str) (C : Addr) (ns : List Str) : Prop where
  cls : XcC K mg nm C
  ex : ∃ fI fd ps, InC K C fI ns ∧ FnOk P w K mg base CX0 1 fI fd ps (spI K C ns) ∧ L2H.FnH P w K mg base CX0 1 fI fd ps (spI K C ns) ∧ Binds K fd ps []

/-! ### raise -/
def dRaise (nm : Str) (ns : List Str) (f : DA) : DS := fun ρ => (f ρ).bind fun p => if p.1.length = ns.length ∧ p.1.length ≤ 1000 then some (.rt (.exc nm ns.reverse p.1.reverse) p.2) else none
theorem raise_read {K : PySem.W.Frag} {mg : Str → Option Value} {nm : Str} {C : Addr} {ns : List Str} {io : List Nat} {W : WX} {f : DA} {De : Ends} {σ : L2.St} {H : Hp} (T : XcC K mg nm C) (hq : tX K io W (dRaise nm ns f) De σ H) :
    tMkO C (spI K C ns) [] (tAs K f) σ H fun cls d H' => W cls d σ H' := by
  obtain ⟨G, ρ, L, fl, h1, h2, h3, q⟩ := hq
  unfold dRaise at h3
  obtain ⟨⟨ds, ρ1⟩, e1, h3⟩ := Option.bind_eq_some_iff.mp h3
  dsimp only at h3
  split at h3
  · rename_i hlen
    cases h3
    refine ⟨G, ρ, L, ds, ρ1, h1, h2, e1, fun vs G1 H1 L1 a1 b1 c1 r1 => ⟨by rw [r1.length]; exact hlen.2, fun a ha => ⟨a, vs, by rw [List.append_nil], by rw [r1.length]; exact hlen.1, upd_same, fun dx H2 hd hda e1 e2 e3 => ?_⟩⟩⟩
    have hd1 : H1 dx = none := by rw [upd_ne hda] at hd; exact hd
    refine ⟨rfl, dx, _, e1, e2, hd1, ?_⟩
    have eh : upd (del H2 a) dx (.xd (ns.reverse.zip vs.reverse)) = upd H1 dx (.xd (ns.reverse.zip vs.reverse)) := by
      funext b
      by_cases hb : b = dx
      · rw [hb, upd_same, upd_same]
      · rw [upd_ne hb, upd_ne hb]
        by_cases hba : b = a
        · rw [hba, del_same, ha]
        · rw [del_ne hba, e3 b hba hb, upd_ne hba]
    rw [eh]
    obtain ⟨z1, z2, z3⟩ := a1.new (.xd (ns.reverse.zip vs.reverse)) hd1
    exact q.2 _ _ _ _ rfl (.ref C) (some dx) σ _ _ L1 z1 (b1.trans z2) (c1.mono z3) .refl ⟨C, vs.reverse, T.ns, rfl, ⟨upd_same, by rw [List.length_reverse, List.length_reverse, r1.length, hlen.1]⟩, (r1.mono z3).reverse⟩
  · cases h3
section
variable {X : Cx} {x : Str} {C fI : Addr} {k : Nat} {fd : FuncData} {ps : List Str} {sp : Sp} {e : Expr} {es : List Expr} {ta : TA} {p pos : Pos}
/-- C(e, ..), whose context is None -/
theorem pmkN_oex (T : OexC X.K C) (iC : PySem.W.findIn X.K (.ref C) "__init__" = some (some (.ref fI))) (tI : PySem.W.typeIn X.K (.ref fI) = some (.type "function"))
    (F1 : FnOk X.prog X.w X.K X.mg X.base CX0 k fI fd ps sp) (hr : Room (k + 1) X.A) (hb : Binds X.K fd ps []) (hg : Gl X x) (hm : X.mg x = some (.ref C)) (ha : PA X (e :: es) ta)
    (hdb : (x == ("__debug__" : Str)) = false := by decide) (he : starEach (e :: es) X.env = (false, eval e X.env) :: starEach es X.env := by rfl) (hpl : (backTo pos (starEach es X.env)).any (·.1) = false := by rfl) :
    L2N.PMk X (.Call (.Name x p) (e :: es) [] pos) (tMkO C sp [] ta) := by
  intro pins s σ H Q I h
  obtain ⟨nm, q, N, bs, bm, sn, sub, ab, col, dd, k0, k1, k2, k3, k5, hC, hbm⟩ := T.cls
  refine wpAny_Call_Name_kw (ld_glob I hg hm ?_ hdb)
  refine PySem.W.callWith_K (h₀ := X.base) I.ok.mod.kin T.kC (thn (ha.run pos pins s σ H _ I h) fun us s1 ⟨vs, H1, I1, r1, hz, q1⟩ => ⟨I1.kIn, ?_⟩) he hpl
  show wpAny _ _ (call (.ref C) us) _ _ _
  obtain ⟨hp, g, dr, tk, os⟩ := s1
  have hsz : hp.objs.size ≤ hp.objs.size + 1 := Nat.le_succ _
  have hn : H1 (hp.objs.size + 1) = none := I1.hok.fresh hsz
  have hq := q1 (hp.objs.size + 1) hn
  rw [List.append_nil] at hq
  have kk : ∀ b o, hp.get? b = some o → ((hp.push (PySem.W.kdv_tup us)).push (PySem.HandSPX.excO C hp.objs.size)).get? b = some o := fun b o e => Heap.get?_push_of_some _ (Heap.get?_push_of_some _ e)
  have hget : ((hp.push (PySem.W.kdv_tup us)).push (PySem.HandSPX.excO C hp.objs.size)).get? (hp.objs.size + 1) = some (PySem.HandSPX.excO C hp.objs.size) := by heap_get
  have I2 : Inv X pins σ (upd H1 (hp.objs.size + 1) (exo (hp.objs.size + 1) C none)) ⟨(hp.push (PySem.W.kdv_tup us)).push (PySem.HandSPX.excO C hp.objs.size), g, dr, tk, os⟩ :=
    I1.laid (t' := tk) (a := hp.objs.size + 1) (o := exo (hp.objs.size + 1) C none) (h' := (hp.push (PySem.W.kdv_tup us)).push (PySem.HandSPX.excO C hp.objs.size)) kk hsz (exo_ok hget)
  have r2 : Vals (V.ref (hp.objs.size + 1) :: vs) (Value.ref (hp.objs.size + 1) :: us) := .cons rfl r1
  have hl : (Value.ref (hp.objs.size + 1) :: us ++ []).length = ps.length := by
    have e := r2.length
    rw [F1.len _ _ _ _ hq] at e
    rw [List.append_nil]
    exact e.symm
  have hus : us.length ≤ sizeLine := by
    rw [← Paired.length r1, sizeLine_eq]
    omega
  have b2 := hb _ (Value.ref (hp.objs.size + 1) :: us) I2.kIn hl
  rw [List.append_nil] at b2
  refine wpAny_call (PySem.HandSPX.call_own F.excBase_ValueError (fun Y => PySem.HandSPX.refsVE_contains Y bm hbm) (I1.kIn _ _ hC) (PySem.W.looks_findIn I1.kIn iC) (fun self => PySem.W.bind_fn I1.kIn self tI) hus
    (codeAny_mono (F1.run _ X.stack _ _ ⟨Value.ref (hp.objs.size + 1) :: us, []⟩ (Value.ref (hp.objs.size + 1) :: us) _ _ (fun _ _ _ => False) (hr.make C us []) (I2.env0.make C us []) b2 r2 hq) fun r s' hq' => ?_))
  cases r with
  | error er => exact False.elim hq'
  | ok fl =>
    cases fl with
    | ret u =>
      obtain ⟨v, H2, os2, bare2, un2, hok2, rv, ev, d, fs, ea, ed, hd1, q2⟩ := hq'
      subst ev
      obtain ⟨h2, g2, d2, t2, os'⟩ := s'
      obtain ⟨t0, G, J, kG, ge, hoe, na⟩ := mk_end0 (d2 := d2) (t2 := t2) I1 hsz kk un2 hok2 os2 bare2 ea ed hd1
      refine ⟨rv, hp.objs.size + 1, _, _, ⟨G, g2, d2, t2, os'⟩, _, .ref C, some d, rfl, J, kG, ge, hoe, ⟨rfl, rfl, fun vs hv => ?_⟩, rfl, rfl, na, rfl, bare2, raises_own T.exC T.tyC, q2⟩
      cases hv
      rfl
    | next => exact False.elim hq'
    | brk => exact False.elim hq'
    | cont => exact False.elim hq'
end
theorem pmk_of_N {X : Cx} {e : Expr} {t : L2.St → Hp → XK → Prop} (h : L2N.PMk X e t) : L2.PMk X e t := fun pins s σ H Q I q => thn (h pins s σ H Q I q) fun u s' ⟨a, oe, vs, sI, H', cls, d, e1, e2, e3, e4, e5, z, r⟩ =>
  ⟨a, oe, vs, sI, H', cls, d, e1, e2, e3, e4, e5, z.zc, r⟩
theorem Takes.toN {X : Cx} {W : WX} (t : L2.Takes X W) : L2N.Takes X W := fun u s' ⟨a, B, sI, pins, σ, H, cls, d, e, I, nb, up, sky, r⟩ =>
  t u s' ⟨a, B, sI, pins, σ, H, cls, d, e, I, nb, up, (by
    rcases sky with ⟨k1, k2, k3, oe, vs, k4, k5, k6⟩ | fl | ⟨k1, k2, k3, k4⟩
    · exact .inl ⟨k1, k2, k3, oe, vs, k4, k5.zc, k6⟩
    · exact .inr (.inl (L2H.flyingZ_imp (fun o z => z.zc) fl))
    · exact .inr (.inr ⟨k1, k2, k3, L2H.tracedZ_imp (fun o z => z.zc) k4⟩)), r⟩
theorem passN {X : Cx} {W : WX} (t : L2.Takes X W) : ∀ σ, PassesAt (L2N.CX X.prog X.w) X σ (WE W σ) := L2N.passAt (Takes.toN t)
section
variable {X : Cx} {W : WX} {io : List Nat} {nm : Str} {C : Addr} {ns : List Str} {e : Expr} {es : List Expr} {f : DA} {p pos pos' : Pos} {k : Nat}
theorem sx_raise (hc : X.calm = true) (tk : L2.Takes X W) (M : MkC X.prog X.w X.K X.mg X.base nm C ns) (hr : Room k X.A) (ha : SA X (e :: es) f) (hk : 2 ≤ k := by decide) (hg : Gl X nm := by rfl)
    (hdb : (nm == ("__debug__" : Str)) = false := by decide) (he : starEach (e :: es) X.env = (false, eval e X.env) :: starEach es X.env := by rfl) (hpl : (backTo pos (starEach es X.env)).any (·.1) = false := by rfl) :
    SX X io W (.Raise (some (.Call (.Name nm p) (e :: es) [] pos)) none pos') (dRaise nm ns f) := by
  obtain ⟨fI, fd, ps, T, F1, F2, b⟩ := M.ex
  exact ps_weak (L2.ps_raise hc tk (pmk_of_N (pmkN_oex T.oex T.iC T.tI F1 (hr.mono hk) b hg M.cls.gl ha hdb he hpl))) fun De σ H => raise_read M.cls
theorem sx_raiseN (hc : X.calm = true) (tk : L2N.Takes X W) (M : MkC X.prog X.w X.K X.mg X.base nm C ns) (hr : Room k X.A) (ha : SA X (e :: es) f) (hk : 2 ≤ k := by decide) (hg : Gl X nm := by rfl)
    (hdb : (nm == ("__debug__" : Str)) = false := by decide) (he : starEach (e :: es) X.env = (false, eval e X.env) :: starEach es X.env := by rfl) (hpl : (backTo pos (starEach es X.env)).any (·.1) = false := by rfl) :
    SX X io W (.Raise (some (.Call (.Name nm p) (e :: es) [] pos)) none pos') (dRaise nm ns f) := by
  obtain ⟨fI, fd, ps, T, F1, F2, b⟩ := M.ex
  exact ps_weak (L2N.ps_raise hc tk (pmkN_oex T.oex T.iC T.tI F1 (hr.mono hk) b hg M.cls.gl ha hdb he hpl)) fun De σ H => raise_read M.cls
theorem sx_raiseH (hc : L2H.HotC X) (tk : L2.Takes X W) (M : MkC X.prog X.w X.K X.mg X.base nm C ns) (hr : L2H.RoomH k X.A) (ha : SA X (e :: es) f) (hk : 2 ≤ k := by decide) (hg : Gl X nm := by rfl)
    (hdb : (nm == ("__debug__" : Str)) = false := by decide) (he : starEach (e :: es) X.env = (false, eval e X.env) :: starEach es X.env := by rfl) (hpl : (backTo pos (starEach es X.env)).any (·.1) = false := by rfl) :
    SX X io W (.Raise (some (.Call (.Name nm p) (e :: es) [] pos)) none pos') (dRaise nm ns f) := by
  obtain ⟨fI, fd, ps, T, F1, F2, b⟩ := M.ex
  exact ps_weak (L2H.ps_raiseH hc tk (L2H.PMk5.pmk (L2H.pmk5_oexH T.oex T.iC T.tI F2 (hr.mono hk) hc b (fun _ _ _ _ _ _ _ z => z.elim) hg M.cls.gl ha hdb he hpl))) fun De σ H => raise_read M.cls
end
end Pd

/-! PdXc3: try .. except, and what is asked of a caught exception. -/
namespace Pd
open PySem PySem.Spec PyProof.Rows L2

/-! ### a caught exception is tracked -/
theorem exf_ok {P : Program} {w : World} {H : Hp} {h : Heap} {a C : Addr} {d : Option Addr} {oe : Obj} {vs : Array Value} (e : h.get? a = some oe) (z : Zc (.ref C) d oe) (f : oe.data = .fields vs) : ObjOk P w H h a (exf a C d) :=
  ⟨⟨oe, vs, e, z, f⟩, ⟨oe, e⟩, fun _ _ ⟨o, v, q, r⟩ k => ⟨o, v, k o q, r⟩⟩
theorem inv_track {X : Cx} {pins : List (Addr × Obj)} {σ : L2.St} {H : Hp} {sI s : Shared} {a : Addr} {o : HO} (J : Inv X pins σ H sI) (na : sI.heap.get? a = none) (hx : X.ex = []) (I : Inv X pins σ H s) (hn : H a = none) (nL : a ≠ X.env.locals)
    (ok : ObjOk X.prog X.w (upd H a o) s.heap a o) : Inv X pins σ (upd H a o) s := by
  have ne : ∀ {b : Addr} {u : Obj}, sI.heap.get? b = some u → b ≠ a := fun {b u} e z => by rw [z, na] at e; cases e
  have n0 : ∀ b u, X.s_0.heap.get? b = some u → b ≠ a := fun b u e => by
    obtain ⟨o', e'⟩ := J.base.there b u e (by rw [hx]; simp)
    exact ne e'
  refine ⟨I.ok, I.os, I.bare, ⟨I.base.keep, I.base.slot, fun b u e n hb => ?_, I.base.there, fun b xs e => ?_, fun b u v e => ?_, fun b ps e => ?_⟩, I.loc, I.cell, ?_, fun x c e => ?_, fun p hp => ?_, fun b u e => ?_, I.len⟩
  · rw [upd_ne (n0 b u e)]; exact I.base.free b u e n hb
  · have q := I.base.tups b xs e
    rw [upd_ne (ne_of_none q hn)]; exact q
  · have q := I.base.frzs b u v e
    rw [upd_ne (ne_of_none q hn)]; exact q
  · obtain ⟨m, q⟩ := I.base.tbls b ps e
    exact ⟨m, by rw [upd_ne (ne_of_none q hn)]; exact q⟩
  · rw [upd_ne nL.symm]; exact I.free
  · obtain ⟨v, u, hu, _⟩ := J.cell x c e
    rw [upd_ne (ne hu)]; exact I.freeC x c e
  · obtain ⟨q1, q2, q3, q4, q5⟩ := I.pin p hp
    obtain ⟨r1, _⟩ := J.pin p hp
    exact ⟨q1, by rw [upd_ne (ne r1)]; exact q2, q3, q4, q5⟩
  · by_cases hb : b = a
    · subst hb
      rw [upd_same] at e
      cases e
      exact ok
    · rw [upd_ne hb] at e
      exact (I.hok b u e).stay (fun c v _ q => q) (fun c q => by rw [upd_ne (ne_of_none q hn)]; exact q) fun c xs q => by rw [upd_ne (ne_of_none q hn)]; exact q

/-! ### try: body, except x as n: suite; the exception may be kept -/
def wAsT (K : PySem.W.Frag) (c : Value) (i : Nat) (ts : Addr → TS) (D : Ends) : WX := fun cls d σ H =>
  PySem.W.exmOne K cls c = some true ∧ ∃ C, cls = .ref C ∧ ∀ a, H a = none →
    ts a { nx := fun σ' H' => D.nx (σ'.set i none) H', rt := D.rt, bk := fun σ' H' => D.bk (σ'.set i none) H', ct := fun σ' H' => D.ct (σ'.set i none) H' } (σ.set i (some (.ref a))) (upd H a (exf a C d))
section
variable {X : Cx} {x n : Str} {c : Value} {i : Nat} {body suite : List Stmt} {b₀ : Stmt} {np pos pos' : Pos} {tb : WX → TS} {ts : Addr → TS}
theorem ps_try_asT (hs : X.stack = X.env :: X.outer) (hf : X.env.frame = some X.env.locals) (hN : X.N.Nodup) (hi : X.N[i]? = some n) (hln : X.env.kindOf n = some .local) (hc : Names X x c) (hex : X.ex = [])
    (hb : ∀ (W : WX) (pn : List (Addr × Obj)) (xe : Value → Shared → Prop), Takes (X.tr pn xe) W → PassesOwn (model X.prog X.w) X.A X.env xe → PSs (X.tr pn xe) body (tb W))
    (hsu : ∀ (a : Addr) (pn : List (Addr × Obj)), PSs (X.suite a pn) (b₀ :: suite) (ts a)) :
    PS X (.Try body [.ExceptHandler (some (.Name x np)) (some n) (b₀ :: suite) pos'] [] [] pos) (fun D σ H => tb (wAsT X.K c i ts D) D σ H) := by
  refine ⟨fun pins s σ H D I h => ?_⟩
  have ok := I.ok
  have hfr : X.A.frames = some (X.env :: X.outer) := by rw [ok.frames, hs]
  have hloc : Loc X.env.scope n := .inl hln
  refine wpAny_Try_except ?_
  refine wpAny_mono ((hb (wAsT X.K c i ts D) (X.pn ++ pins) (fun e s₁ => wpAny (model X.prog X.w) X.A (noteFrame e X.env) (fun _ s₂ => wpAny (model X.prog X.w) X.A (setFlight e none) (fun _ s₃ =>
    wpAny (model X.prog X.w) X.A (handleBy e X.env [.ExceptHandler (some (.Name x np)) (some n) (b₀ :: suite) pos']) (SP X pins D) X.xe s₃) X.xe s₂) X.xe s₁) (fun u s' xx => ?_) PassesOwn.looking).run [] s σ H D (I.toTry _) h) (fun f s1 hsp => ?_) (fun e s1 he => he)
  · obtain ⟨a, B, sI, pins', σ', H', cls, d, rfl, J', nb, up, sky, na, os, ag, hb1, C, hC, hyes⟩ := xx
    subst hC
    have J : Inv X pins σ' H' sI := J'.ofTry ok
    have sky' : Sky B (X.env :: X.outer) a (Zc (.ref C) d) X.env.locals s'.heap := by rw [← hs]; exact sky
    show wpAny (model X.prog X.w) X.A (noteFrame (.ref a) X.env) _ _ _
    refine Sky.land Zc.steady hfr hf sky' fun h3 fl3 up3 => ?_
    have J3 : Inv X pins σ' H' { s' with heap := h3 } := J.landed nb fl3.1 (up.trans up3) os ag
    obtain ⟨oe3, vs3, he3, hz3, hd3⟩ := fl3.there
    have notFr : ∀ {h : Heap} {o : Obj} {vs : Array Value}, h.FunFrames B (X.env :: X.outer) → h.get? a = some o → o.data = .fields vs → a ∉ frs (X.env :: X.outer) := fun {h o vs} ff e dd hm => by
      obtain ⟨_, o', e', hnf⟩ := ff.mem hm
      rw [e] at e'; cases e'
      exact hnf _ dd
    have nfr := notFr fl3.2.2.1 he3 hd3
    have nL : a ≠ X.env.locals := fun z => nfr (List.mem_filterMap.mpr ⟨X.env, List.mem_cons_self, by rw [hf, z]⟩)
    have nF : a ∉ X.fs := fun hm => by
      obtain ⟨e, he, q⟩ := List.mem_filterMap.mp hm
      exact nfr (List.mem_filterMap.mpr ⟨e, List.mem_cons_of_mem _ he, q⟩)
    have naI : sI.heap.get? a = none := by
      cases e : sI.heap.get? a with
      | none => rfl
      | some o =>
        have z := nb a o e (by rw [hs]; exact nfr)
        rw [fl3.2.1] at z
        cases z
    have S3 := J3.suite he3 hd3 na nL nF
    refine wpAny_handleBy_cons (codeAny_handlers_test ?_) (by intro q; cases q)
    have LT : PySem.W.Looks (model X.prog X.w) h3 (typeOf (.ref a)) (.ref C) := fun A Q E s k q => wpAny_typeOf_ref (k _ _ he3) (by rw [hz3.1]; exact q)
    have LM := PySem.W.exm_one (M := model X.prog X.w) (J3.kIn) LT hb1
    have test : ∀ {Q : Value → Shared → Prop} {E : Value → Shared → Prop}, Q c { s' with heap := h3 } → wpAny (model X.prog X.w) (X.A.mark (some (.ref a))) (eval (.Name x np) X.env) Q E { s' with heap := h3 } := fun {Q E} q => by
      obtain ⟨hg, hdbg, hm | ⟨hm, hv, hnn⟩⟩ := hc
      · exact ld_glob (X := X.suite a ((a, oe3) :: (X.pn ++ pins))) S3 hg hm q hdbg
      · exact ld_blt (X := X.suite a ((a, oe3) :: (X.pn ++ pins))) S3 hg hm hv q hnn hdbg
    refine test (LM.here ?_)
    refine codeAny_handlers_suite_as ?_
    refine HandSPX.lands_againZ fl3 fun h4 fl4 up4 => ?_
    have J4 : Inv X pins σ' H' { s' with heap := h4 } := J.landed nb fl4.1 ((up.trans up3).trans up4) os ag
    obtain ⟨oe4, vs4, he4, hz4, hd4⟩ := fl4.there
    have T4 : Inv X pins σ' (upd H' a (exf a C d)) { s' with heap := h4 } := inv_track J naI hex J4 na nL (exf_ok he4 hz4 hd4)
    have S4 : Inv (X.suite a (X.pn ++ pins)) [] σ' (upd H' a (exf a C d)) { s' with heap := h4 } :=
      ⟨T4.ok.suite _ _, T4.os, T4.bare, T4.base, T4.loc, T4.cell, T4.free, T4.freeC, fun p hp => T4.pin p (by rw [List.append_nil] at hp; exact hp), T4.hok, T4.len⟩
    refine store_ok (X := X.suite a (X.pn ++ pins)) (v := .ref a) S4 hN hi hloc rfl (fun s5 S5 => ?_) (.inr hln)
    refine wpAny_mono ((hsu a (X.pn ++ pins)).run [] s5 _ _ _ S5 (hyes a na)) (fun f s6 hsp => ?_) (fun _ _ z => False.elim z)
    have un : ∀ {σ6 : L2.St} {H6 : Hp} {s6 : Shared}, Inv (X.suite a (X.pn ++ pins)) [] σ6 H6 s6 → Inv X pins σ6 H6 s6 := fun {σ6 H6 s6} S6 =>
      ⟨ok, S6.os, S6.bare, S6.base, S6.loc, S6.cell, S6.free, S6.freeC, fun p hp => S6.pin p (by rw [List.append_nil]; exact hp), S6.hok, S6.len⟩
    have end_ : ∀ {σ6 : L2.St} {H6 : Hp} {Q : Shared → Prop}, Inv (X.suite a (X.pn ++ pins)) [] σ6 H6 s6 → (∀ s7, Inv X pins (σ6.set i none) H6 s7 → Q s7) →
        wpAny (model X.prog X.w) X.A (do bindName X.env n .none; unbindBehindTheSuite X.env n pos') (fun _ s7 => Q s7) X.xe s6 := fun {σ6 H6 Q} S6 hq => gone_ok (un S6) hN hi hln hq
    cases f with
    | next =>
      obtain ⟨σ6, H6, S6, q6⟩ := hsp
      exact end_ S6 fun s7 J7 => ⟨_, _, J7, q6⟩
    | brk =>
      obtain ⟨σ6, H6, S6, q6⟩ := hsp
      exact end_ S6 fun s7 J7 => ⟨_, _, J7, q6⟩
    | cont =>
      obtain ⟨σ6, H6, S6, q6⟩ := hsp
      exact end_ S6 fun s7 J7 => ⟨_, _, J7, q6⟩
    | ret u =>
      obtain ⟨v6, σ6, H6, S6, r6, q6⟩ := hsp
      exact end_ S6 fun s7 J7 => ⟨_, _, _, J7, r6, q6⟩
  · cases f with
    | next =>
      obtain ⟨σ', H', J', q⟩ := hsp
      exact wpAny_execs_nil ⟨σ', H', J'.ofTry ok, q⟩
    | brk =>
      obtain ⟨σ', H', J', q⟩ := hsp
      exact ⟨σ', H', J'.ofTry ok, q⟩
    | cont =>
      obtain ⟨σ', H', J', q⟩ := hsp
      exact ⟨σ', H', J'.ofTry ok, q⟩
    | ret u =>
      obtain ⟨v, σ', H', J', r, q⟩ := hsp
      exact ⟨v, σ', H', J'.ofTry ok, r, q⟩
end
/-- the suite only runs on -/
def dTry (cs : List Str) (i : Nat) (g h : DS) : DS := fun ρ => (g ρ).bind fun fl => match fl with
  | .rt (.exc nm ns ds) ρ1 => if nm ∈ cs then (put i (.exc nm ns ds) ρ1).bind fun ρ2 => (h ρ2).bind fun fl2 => match fl2 with | .nx ρ3 => some (.nx (ρ3.set i none)) | _ => none else none
  | fl => some fl
section
variable {X : Cx} {W : WX} {io : List Nat} {x n : Str} {c : Value} {i : Nat} {body suite : List Stmt} {b₀ : Stmt} {np pos pos' : Pos} {g h : DS} {cs : List Str}
theorem ss_tryAs (i : Nat) (hN : X.N.Nodup) (hc : Names X x c) (hcl : ∀ nm ∈ cs, ∀ C, PySem.W.nsIn X.K mainGlobals nm = some (some (.ref C)) → PySem.W.exmOne X.K (.ref C) c = some true)
    (hb : ∀ (W : WX) (pn : List (Addr × Obj)) (xe : Value → Shared → Prop), Takes (X.tr pn xe) W → PassesOwn (model X.prog X.w) X.A X.env xe → SXs (X.tr pn xe) io W body g)
    (hsu : ∀ (a : Addr) (pn : List (Addr × Obj)), SSs (X.suite a pn) io (b₀ :: suite) h) (hi : X.N[i]? = some n := by rfl) (hs : X.stack = X.env :: X.outer := by rfl) (hf : X.env.frame = some X.env.locals := by rfl) (hln : X.env.kindOf n = some .local := by rfl) (hex : X.ex = [] := by rfl)
    (ho : io.contains i = false := by rfl) : SS X io (.Try body [.ExceptHandler (some (.Name x np)) (some n) (b₀ :: suite) pos'] [] [] pos) (dTry cs i g h) :=
  ps_weak (ps_try_asT (tb := fun W => tX X.K io W g) (ts := fun _ => tS X.K io h) hs hf hN hi hln hc hex hb hsu) fun De σ H ⟨G, ρ, L, fl, h1, h2, h3, q⟩ => by
    unfold dTry at h3
    obtain ⟨fl1, e1, h3⟩ := Option.bind_eq_some_iff.mp h3
    refine ⟨G, ρ, L, fl1, h1, h2, e1, fun hx => ?_, fun nm ns ds ρ1 e => ?_⟩
    · have e3 : fl1 = fl := by
        cases fl1 with
        | rt d ρ1 => cases d <;> first | (cases hx; done) | (cases h3; rfl)
        | nx _ => cases h3; rfl
        | bk _ => cases h3; rfl
        | ct _ => cases h3; rfl
      subst e3
      exact q
    · subst e
      dsimp only at h3
      split at h3
      · rename_i hm
        obtain ⟨ρ2, e2, h3⟩ := Option.bind_eq_some_iff.mp h3
        obtain ⟨fl2, e3, h3⟩ := Option.bind_eq_some_iff.mp h3
        intro cls d σ1 G1 H1 L1 a1 b1 c1 k1 xo
        obtain ⟨C, vs, n1, rfl, xd, r⟩ := xo
        refine ⟨hcl nm hm C n1, C, rfl, fun a ha => ?_⟩
        obtain ⟨z1, z2, z3⟩ := a1.new (exf a C d) ha
        obtain ⟨L2, q1, q2, q3⟩ := sl_put0 z1 (c1.mono z3) (.exc n1 upd_same (xd.mono z3) (r.mono z3)) e2
        refine ⟨_, ρ2, L2, fl2, q1, q3, e3, ?_⟩
        cases fl2 with
        | nx ρ3 =>
          cases h3
          intro σ3 G3 H3 L3 a3 b3 c3 k3
          obtain ⟨M, R, p1, p2⟩ := c3.drop i none
          have a4 : Sta G3 H3 (M ++ R) := a3.perm p1
          have s4 : Stp G H L G3 H3 R := (((((b1.trans z2).trans q2).trans b3).permR p1)).less
          exact q _ G3 H3 R a4.left s4 p2 (((k1.trans (Kp.set ho)).trans k3).trans (Kp.set ho))
        | rt _ _ => cases h3
        | bk _ => cases h3
        | ct _ => cases h3
      · cases h3
end
/-- try: body, except x: suite that raises (or runs on) -/
def dTryO (cs : List Str) (g h : DS) : DS := fun ρ => (g ρ).bind fun fl => match fl with
  | .rt (.exc nm _ _) ρ1 => if nm ∈ cs then h ρ1 else none
  | fl => some fl
section
variable {X : Cx} {W : WX} {io : List Nat} {x : Str} {c : Value} {body suite : List Stmt} {b₀ : Stmt} {np pos pos' : Pos} {g h : DS} {cs : List Str}
theorem sx_tryO (hc : Names X x c) (hpa : ∀ hd : Option Value, PassesOwnAt (model X.prog X.w) (X.A.mark hd) X.A X.env X.xe) (tk : L2.Takes X W) (hcl : ∀ nm ∈ cs, ∀ C, PySem.W.nsIn X.K mainGlobals nm = some (some (.ref C)) → PySem.W.exmOne X.K (.ref C) c = some true)
    (hb : ∀ (W : WX) (pn : List (Addr × Obj)) (xe : Value → Shared → Prop), L2N.Takes (X.tr pn xe) W → PassesOwn (model X.prog X.w) X.A X.env xe → SXs (X.tr pn xe) io W body g)
    (hsu : ∀ (a : Addr) (oe : Obj) (pn : List (Addr × Obj)), L2.Takes (L2H.suiteX X a ((a, oe) :: pn)) W → L2H.HotC (L2H.suiteX X a ((a, oe) :: pn)) → SXs (L2H.suiteX X a ((a, oe) :: pn)) io W (b₀ :: suite) h)
    (hs : X.stack = X.env :: X.outer := by rfl) (hf : X.env.frame = some X.env.locals := by rfl) : SX X io W (.Try body [.ExceptHandler (some (.Name x np)) none (b₀ :: suite) pos'] [] [] pos) (dTryO cs g h) :=
  ps_weak (L2H.ps_try_onlyX (tb := fun W => tX X.K io W g) (ts := fun _ _ _ => tX X.K io W h) hs hf hc hpa tk (fun W pn xe t1 t2 po => hb W pn xe t1 po) (fun a oe cls d pn hz hd t hot => hsu a oe pn t hot)) fun De σ H ⟨G, ρ, L, fl, h1, h2, h3, q⟩ => by
    unfold dTryO at h3
    obtain ⟨fl1, e1, h3⟩ := Option.bind_eq_some_iff.mp h3
    refine ⟨G, ρ, L, fl1, h1, h2, e1, fun hx => ?_, fun nm ns ds ρ1 e => ?_⟩
    · have e3 : fl1 = fl := by
        cases fl1 with
        | rt d ρ1 => cases d <;> first | (cases hx; done) | (cases h3; rfl)
        | nx _ => cases h3; rfl
        | bk _ => cases h3; rfl
        | ct _ => cases h3; rfl
      subst e3
      exact q.1 hx
    · subst e
      dsimp only at h3
      split at h3
      · rename_i hm
        intro cls d σ1 G1 H1 L1 a1 b1 c1 k1 xo
        obtain ⟨C, vs, n1, rfl, xd, r⟩ := xo
        exact ⟨true, hcl nm hm C n1, fun _ a ha => ⟨G1, ρ1, L1, fl, a1, c1, h3, q.after b1 k1⟩, fun z => (nomatch z)⟩
      · cases h3
end

/-! ### isinstance(e, T), e.f of a caught exception -/
def isX (tab : List (Str × Bool)) : D → Option D
  | .exc nm _ _ => (tab.lookup nm).map D.bl
  | _ => none
def rIsX (K : PySem.W.Frag) (tv : Value) : List V → Hp → VK → Prop := fun xs H Q => ∃ (a C : Addr) (d : Option Addr) (c : V) (b : Bool) (nm : Str) (mg : Str → Option Value), xs = [.ref a, c] ∧ (∀ u, RelV c u → u = tv) ∧ H a = some (exf a C d) ∧ (∀ dx, d = some dx → ∃ o, H dx = some o) ∧ XcC K mg nm C ∧ PySem.W.kitOne K (.ref C) tv = some b ∧ Q (.bl b) H
theorem exf_inst {P : Program} {w : World} {H : Hp} {h : Heap} {a C : Addr} {d : Option Addr} (hok : HOk P w H h) (e : H a = some (exf a C d)) (hd : ∀ dx, d = some dx → ∃ o, H dx = some o) : ∃ ox od, PySem.W.InstAt h a ox C od ∧ ∀ dx, d = some dx → ∃ o, od = some o ∧ h.get? dx = some o := by
  have x : ObjOk P w H h a (.ext fun h => ∃ (oe : Obj) (vs : Array Value), h.get? a = some oe ∧ Zc (.ref C) d oe ∧ oe.data = .fields vs) := hok a _ e
  obtain ⟨oe, vs, he, hz, hf⟩ := x.1
  cases d with
  | none => exact ⟨oe, none, ⟨he, hz.1, by unfold PySem.W.notCls; rw [hf] <;> rfl, by rw [hz.2]; trivial⟩, fun dx z => (nomatch z)⟩
  | some dx =>
    obtain ⟨o, ho⟩ := hd dx rfl
    obtain ⟨u, hu⟩ := objOk_get (hok dx o ho)
    exact ⟨oe, some u, ⟨he, hz.1, by unfold PySem.W.notCls; rw [hf] <;> rfl, by rw [hz.2]; exact hu⟩, fun dx' z => by cases z; exact ⟨u, rfl, hu⟩⟩
theorem call_isX {X : Cx} {tv : Value} : CallR X (.builtin "isinstance") (rIsX X.K tv) := by
  intro pins s σ H xs us Q I r h
  obtain ⟨a, C, d, c, b, nm, mg, rfl, hcv, ha, hd, T, e, q⟩ := h
  cases r with
  | cons rx rr =>
    cases rr with
    | cons rt rr =>
      cases rr
      cases rx
      have ec := hcv _ rt
      subst ec
      obtain ⟨ox, od, J, _⟩ := exf_inst I.hok ha hd
      exact PySem.W.kia_one (PySem.W.kitx_exc T.hc T.ga T.gg T.exC T.ca T.cg T.ct T.mo) I.kIn J e (fun z => nomatch z) fun tk => ⟨.bl b, H, I.kept (t' := tk) fun _ _ z => z, rfl, q⟩
theorem pe_gref {X : Cx} {x : Str} {T : Addr} {pos : Pos} (hm : X.mg x = some (.ref T)) (hg : Gl X x) (hd : (x == ("__debug__" : Str)) = false) : PE X (.Name x pos) (tC (.ref T)) :=
  ⟨fun pins s σ H Q I h => ld_glob I hg hm ⟨.ref T, H, I, rfl, h⟩ hd⟩
theorem xdc_there {K : PySem.W.Frag} {G : Hp} {d : Option Addr} {ns : List Str} {vs : List V} (h : xdc G d ns vs) : ∀ dx, d = some dx → G dx = some (.xd (ns.zip vs)) := fun dx e => by subst e; exact h.1
section
variable {X : Cx} {e : Expr} {f : DE} {T : Str} {TA : Addr} {tab : List (Str × Bool)} {pt p pos : Pos}
theorem dUnX {σ : L2.St} {H : Hp} {Q : VK} {tv : Value} {c : V} (hcv : ∀ u, RelV c u → u = tv) (hT : ∀ nm b, tab.lookup nm = some b → ∀ C, PySem.W.nsIn X.K mainGlobals nm = some (some (.ref C)) → (∃ mg, XcC X.K mg nm C) ∧ PySem.W.kitOne X.K (.ref C) tv = some b)
    (hq : tE X.K (dUn (isX tab) f) σ H Q) : tCB (rIsX X.K tv) (tCons (tE X.K f) (tCons (tC c) tNil)) σ H Q := by
  obtain ⟨G, ρ, L, d, ρ', h1, h2, h3, q⟩ := hq
  unfold dUn at h3
  obtain ⟨⟨d1, ρ1⟩, e1, h3⟩ := Option.bind_eq_some_iff.mp h3
  obtain ⟨d3, e3, h3⟩ := Option.bind_eq_some_iff.mp h3
  cases h3
  refine ⟨G, ρ, L, d1, _, h1, h2, e1, fun v G1 H1 L1 a1 b1 c1 r1 => ?_⟩
  cases d1 with
  | exc nm ns ds =>
    obtain ⟨b, e4, e5⟩ := Option.map_eq_some_iff.mp e3
    subst e5
    cases r1 with
    | exc n1 hG xd r =>
      rename_i a C dd vs
      obtain ⟨⟨mg, T⟩, k⟩ := hT nm b e4 C n1
      exact ⟨a, C, dd, c, b, nm, mg, rfl, hcv, a1.ex a _ hG, fun dx z => ⟨_, a1.ex dx _ (xdc_there (K := X.K) xd dx z)⟩, T, k, q _ G1 H1 L1 a1 b1 c1 (.bl b)⟩
  | _ => cases e3
theorem se_isX (he : SE X e f) (hm : X.mg "isinstance" = none) (hmT : X.mg T = some (.ref TA)) (hT : ∀ nm b, tab.lookup nm = some b → ∀ C, PySem.W.nsIn X.K mainGlobals nm = some (some (.ref C)) → (∃ mg, XcC X.K mg nm C) ∧ PySem.W.kitOne X.K (.ref C) (.ref TA) = some b)
    (hg : Gl X "isinstance" := by rfl) (hgT : Gl X T := by rfl) (hd : (T == ("__debug__" : Str)) = false := by decide)
    (hs1 : starEach [e, .Name T pt] X.env = (false, eval e X.env) :: starEach [.Name T pt] X.env := by rfl) (hs2 : starEach [.Name T pt] X.env = (false, eval (.Name T pt) X.env) :: starEach [] X.env := by rfl) (hpl : (backTo pos (starEach [.Name T pt] X.env)).any (·.1) = false := by rfl) :
    SE X (.Call (.Name "isinstance" p) [e, .Name T pt] [] pos) (dUn (isX tab) f) :=
  pe_weak (pe_callB call_isX hg hm boot_isinstance (pa_cons he (pa_cons (pe_gref hmT hgT hd) pa_nil hs2) hs1) (by decide) (by decide) hs1 hpl) fun σ H Q hq => dUnX (fun u r => r) hT hq
theorem se_isXV {U : String} (he : SE X e f) (hm : X.mg "isinstance" = none) (hmT : X.mg T = none) (hvT : bootBuiltins T = some (.type U)) (hT : ∀ nm b, tab.lookup nm = some b → ∀ C, PySem.W.nsIn X.K mainGlobals nm = some (some (.ref C)) → (∃ mg, XcC X.K mg nm C) ∧ PySem.W.kitOne X.K (.ref C) (.type U) = some b)
    (hg : Gl X "isinstance" := by rfl) (hgT : Gl X T := by rfl) (hn : T ≠ "__name__" := by decide) (hd : (T == ("__debug__" : Str)) = false := by decide)
    (hs1 : starEach [e, .Name T pt] X.env = (false, eval e X.env) :: starEach [.Name T pt] X.env := by rfl) (hs2 : starEach [.Name T pt] X.env = (false, eval (.Name T pt) X.env) :: starEach [] X.env := by rfl) (hpl : (backTo pos (starEach [.Name T pt] X.env)).any (·.1) = false := by rfl) :
    SE X (.Call (.Name "isinstance" p) [e, .Name T pt] [] pos) (dUn (isX tab) f) :=
  pe_weak (pe_callB call_isX hg hm boot_isinstance (pa_cons he (pa_cons (pe_bltn (v := .ty U) hgT hmT hvT rfl hn hd) pa_nil hs2) hs1) (by decide) (by decide) hs1 hpl) fun σ H Q hq => dUnX (fun u r => r) hT hq
end
def fldX (cs : List Str) (n : Str) : D → Option D
  | .exc nm ns ds => if nm ∈ cs then (ns.zip ds).lookup n else none
  | _ => none
theorem zip_look {K : PySem.W.Frag} {G : Hp} {n : Str} {d : D} : ∀ {ns : List Str} {vs : List V} {ds : List D}, RepL K G vs ds → (ns.zip ds).lookup n = some d → ∃ v, (ns.zip vs).lookup n = some v ∧ Rep K G v d
  | [], _, _, _, h => by simp at h
  | _ :: _, _, _, .nil, h => by simp at h
  | m :: ns, _, _, .cons r rr, h => by
    rw [List.zip_cons_cons, List.lookup_cons] at h ⊢
    split at h
    · cases h
      exact ⟨_, rfl, r⟩
    · exact zip_look rr h
theorem se_fldX {X : Cx} {e : Expr} {f : DE} {n : Str} {cs : List Str} {pos : Pos} (he : SE X e f) (hT : ∀ nm ∈ cs, ∀ C, PySem.W.nsIn X.K mainGlobals nm = some (some (.ref C)) → (∃ mg, XcC X.K mg nm C) ∧ PySem.W.findIn X.K (.ref C) n = some none)
    (hb : attributeBase e n X.env (eval e X.env) = eval e X.env := by rfl) : SE X (.Attribute e n pos) (dUn (fldX cs n) f) := by
  refine ⟨fun pins s σ H Q I hq => ?_⟩
  obtain ⟨G, ρ, L, d, ρ', h1, h2, h3, q⟩ := hq
  unfold dUn at h3
  obtain ⟨⟨d1, ρ1⟩, e1, h3⟩ := Option.bind_eq_some_iff.mp h3
  obtain ⟨d3, e3, h3⟩ := Option.bind_eq_some_iff.mp h3
  cases h3
  refine attr_of hb (thn (he.run pins s σ H (fun v H1 => ∃ G1 L1, Sta G1 H1 L1 ∧ Stp G H L G1 H1 L1 ∧ Sl X.K G1 σ ρ1 L1 ∧ Rep X.K G1 v d1) I ⟨G, ρ, L, d1, _, h1, h2, e1, fun v G1 H1 L1 a1 b1 c1 r1 => ⟨G1, L1, a1, b1, c1, r1⟩⟩) fun u s1 ⟨v, H1, I1, rv, G1, L1, a1, b1, c1, r1⟩ => ?_)
  cases d1 with
  | exc nm ns ds =>
    cases r1 with
    | exc n1 hG xd r =>
      rename_i a C dd vs
      obtain rfl : u = Value.ref a := rv
      unfold fldX at e3
      dsimp only at e3
      split at e3
      rotate_left
      · cases e3
      rename_i hm
      obtain ⟨⟨mg, T⟩, hno⟩ := hT nm hm C n1
      obtain ⟨v3, l3, r3⟩ := zip_look r e3
      cases dd with
      | none =>
        obtain ⟨rfl, rfl⟩ := xd
        simp at l3
      | some dx =>
        have hdx := a1.ex dx _ xd.1
        obtain ⟨ox, od, J, hJ⟩ := exf_inst I1.hok (a1.ex a _ hG) (fun dx' z => by cases z; exact ⟨_, hdx⟩)
        obtain ⟨o, rfl, ho⟩ := hJ dx rfl
        have hx : ObjOk X.prog X.w H1 s1.heap dx (.xd (ns.zip vs)) := I1.hok dx _ hdx
        obtain ⟨mA, hns, hr⟩ := hx
        obtain ⟨od2, ho2, hl⟩ := lookIn_ns hns
        rw [ho] at ho2
        cases ho2
        obtain ⟨u3, hu, ru⟩ := RelO.some_of (v := v3) (o := mA n) (by rw [← l3]; exact hr n)
        exact HandSPX.exc_get I1.kIn J T.ga T.gg T.exC (PySem.W.findObj_own T.hdC hno rfl (by rw [hl, hu])) (handed_of ru) ⟨v3, H1, I1.tok _, ru, q v3 G1 H1 L1 a1 b1 c1 r3⟩
  | _ => cases e3

/-! ### the classes' facts, told by the text -/
def IsXT (K : PySem.W.Frag) (tv : Value) (tab : List (Str × Bool)) : Prop := ∀ nm b, tab.lookup nm = some b → ∀ C, PySem.W.nsIn K mainGlobals nm = some (some (.ref C)) → (∃ mg, XcC K mg nm C) ∧ PySem.W.kitOne K (.ref C) tv = some b
def ExT (K : PySem.W.Frag) (tv : Value) (cs : List Str) : Prop := ∀ nm ∈ cs, ∀ C, PySem.W.nsIn K mainGlobals nm = some (some (.ref C)) → PySem.W.exmOne K (.ref C) tv = some true
def FldT (K : PySem.W.Frag) (cs : List Str) (n : Str) : Prop := ∀ nm ∈ cs, ∀ C, PySem.W.nsIn K mainGlobals nm = some (some (.ref C)) → (∃ mg, XcC K mg nm C) ∧ PySem.W.findIn K (.ref C) n = some none
theorem isXT_nil {K : PySem.W.Frag} {tv : Value} : IsXT K tv [] := fun nm b e => by simp at e
theorem isXT_cons {K : PySem.W.Frag} {tv : Value} {tab : List (Str × Bool)} {mg : Str → Option Value} {nm : Str} {C : Addr} {b : Bool} (T : XcC K mg nm C) (k : PySem.W.kitOne K (.ref C) tv = some b) (r : IsXT K tv tab) : IsXT K tv ((nm, b) :: tab) := fun nm' b' e C' h => by
  rw [List.lookup_cons] at e
  split at e
  · rename_i z
    cases e
    have z' : nm' = nm := by simpa using z
    subst z'
    have := T.one h
    subst this
    exact ⟨⟨mg, T⟩, k⟩
  · exact r nm' b' e C' h
theorem exT_nil {K : PySem.W.Frag} {tv : Value} : ExT K tv [] := fun nm h => (nomatch h)
theorem exT_cons {K : PySem.W.Frag} {tv : Value} {cs : List Str} {mg : Str → Option Value} {nm : Str} {C : Addr} (T : XcC K mg nm C) (k : PySem.W.exmOne K (.ref C) tv = some true) (r : ExT K tv cs) : ExT K tv (nm :: cs) := fun nm' h C' hn => by
  rcases List.mem_cons.mp h with z | z
  · subst z
    have := T.one hn
    subst this
    exact k
  · exact r nm' z C' hn
theorem fldT_nil {K : PySem.W.Frag} {n : Str} : FldT K [] n := fun nm h => (nomatch h)
theorem fldT_cons {K : PySem.W.Frag} {n : Str} {cs : List Str} {mg : Str → Option Value} {nm : Str} {C : Addr} (T : XcC K mg nm C) (k : PySem.W.findIn K (.ref C) n = some none) (r : FldT K cs n) : FldT K (nm :: cs) n := fun nm' h C' hn => by
  rcases List.mem_cons.mp h with z | z
  · subst z
    have := T.one hn
    subst this
    exact ⟨⟨mg, T⟩, k⟩
  · exact r nm' z C' hn
theorem xcc_mk {K : PySem.W.Frag} {h : Heap} {mg : Str → Option Value} {nm : Str} {C : Addr} (X : K.In h) (G : h.Ns mainGlobals mg) (n : PySem.W.nsIn K mainGlobals nm = some (some (.ref C)))
    (cg : PySem.W.specialIn K (.builtin "object.__class__") "__get__" = some (some (.builtin "getset_descriptor.__get__"))) (ct : PySem.W.takesIn K (.builtin "object.__class__") = some true)
    (w1 : PySem.W.findIn K (.ref C) "__getattribute__" = some (some (.builtin "BaseException.__getattribute__"))) (w2 : PySem.W.findIn K (.ref C) "__getattr__" = some none) (w3 : PySem.W.subIn K (.ref C) (.type "BaseException") = some true)
    (w4 : PySem.W.hasDictIn K C = true) (w5 : PySem.W.findIn K (.ref C) "__class__" = some (some (.builtin "object.__class__"))) (w6 : PySem.W.mroIn K C (.type "object") = some true) (w7 : PySem.W.typeIn K (.ref C) = some (.type "type")) (w8 : PySem.W.keepIn K (.ref C) = true) : XcC K mg nm C :=
  ⟨PySem.W.mg_of X G n, n, (by obtain ⟨cd, hc, _⟩ := PySem.W.any_some w4; rw [hc]; rfl), w1, w2, w3, w4, w5, cg, ct, w6, w7, w8⟩
theorem kit_t {K : PySem.W.Frag} {mg : Str → Option Value} {nm : Str} {C' C : Addr} (T : XcC K mg nm C) (h : PySem.W.subIn K (.ref C') (.ref C) = some true) : PySem.W.kitOne K (.ref C') (.ref C) = some true := by
  unfold PySem.W.kitOne
  split
  · rfl
  · show (if ((PySem.W.clsIn K C).isSome && PySem.W.typeIn K (.ref C) == some (.type "type")) = true then PySem.W.subIn K (.ref C') (.ref C) else none) = some true
    rw [T.hc, T.ty, if_pos (by rfl), h]
theorem kit_f {K : PySem.W.Frag} {mg : Str → Option Value} {nm : Str} {C' C : Addr} (T : XcC K mg nm C) (h : PySem.W.subIn K (.ref C') (.ref C) = some false) (ne : C' ≠ C) : PySem.W.kitOne K (.ref C') (.ref C) = some false := by
  unfold PySem.W.kitOne
  rw [if_neg (fun z => ne (Value.ref.inj (beq_iff_eq.mp z)))]
  show (if ((PySem.W.clsIn K C).isSome && PySem.W.typeIn K (.ref C) == some (.type "type")) = true then PySem.W.subIn K (.ref C') (.ref C) else none) = some false
  rw [T.hc, T.ty, if_pos (by rfl), h]
theorem kit_v {K : PySem.W.Frag} {C' : Addr} (h : PySem.W.subIn K (.ref C') (.type "ValueError") = some true) : PySem.W.kitOne K (.ref C') (.type "ValueError") = some true := by
  unfold PySem.W.kitOne
  split
  · rfl
  · show (if PySem.W.kitMeta "ValueError" = true then PySem.W.subIn K (.ref C') (.type "ValueError") else none) = some true
    rw [if_pos (by decide +kernel), h]
theorem exm_t {K : PySem.W.Frag} {mg : Str → Option Value} {nm : Str} {C' C : Addr} (T : XcC K mg nm C) (h : PySem.W.subIn K (.ref C') (.ref C) = some true) : PySem.W.exmOne K (.ref C') (.ref C) = some true := PySem.W.exm_ref T.exC T.hdC T.ty h
theorem no_nil {K : PySem.W.Frag} {C : Addr} : ∀ n ∈ ([] : List Str), PySem.W.findIn K (.ref C) n = some none := fun n h => (nomatch h)
theorem no_cons {K : PySem.W.Frag} {C : Addr} {n : Str} {ns : List Str} (h : PySem.W.findIn K (.ref C) n = some none) (r : ∀ n ∈ ns, PySem.W.findIn K (.ref C) n = some none) : ∀ m ∈ n :: ns, PySem.W.findIn K (.ref C) m = some none := fun m hm => by
  rcases List.mem_cons.mp hm with z | z
  · rw [z]; exact h
  · exact r m z
theorem in_mk {K : PySem.W.Frag} {mg : Str → Option Value} {nm' : Str} {C fI : Addr} {ns : List Str} {nm q : Str} {N : Addr} {bs bm : List Value} {sn : List Str} {sub : List Value} {ab : Bool} {col : Option Bool} {dd : Option Addr} {k0 k1 k2 k3 k5 : Option Value} (T : XcC K mg nm' C)
    (l : K.lookup C = some (excClassObj nm q C N bs bm true sn sub ab col dd k0 k1 k2 k3 k5 "ValueError.__new__")) (r : PySem.HandSPX.refsVE bm = true) (i : PySem.W.findIn K (.ref C) "__init__" = some (some (.ref fI)))
    (sa : PySem.W.findIn K (.ref C) "__setattr__" = some (some (.builtin "object.__setattr__"))) (ti : PySem.W.typeIn K (.ref fI) = some (.type "function")) (no : ∀ n ∈ ns, PySem.W.findIn K (.ref C) n = some none) : InC K C fI ns :=
  ⟨⟨⟨nm, q, N, bs, bm, sn, sub, ab, col, dd, k0, k1, k2, k3, k5, l, r⟩, sa, T.exC, T.ty, T.kp⟩, no, i, ti⟩
theorem ce_mk {K : PySem.W.Frag} {h : Heap} {mg : Str → Option Value} {C : Addr} (X : K.In h) (G : h.Ns mainGlobals mg) (n : PySem.W.nsIn K mainGlobals "CaseError" = some (some (.ref C)))
    (b1 : PySem.W.specialIn K (.ref C) "__getattribute__" = some (some (.builtin "type.__getattribute__"))) (b2 : PySem.W.readsIn K C (.type "type") = true)
    (f : PySem.W.findCls K (.ref C) (.type "type") "__init__" = some (.val (.builtin "ValueError.__init__"))) : CeC K mg C := ⟨PySem.W.mg_of X G n, b1, b2, f⟩
/-- a class whose __init__ is told by its text -/
def clsInit (s : Stmt) : Stmt := match s with
  | .ClassDef _ _ _ (b :: _) _ _ _ _ _ _ _ => b
  | _ => .Pass ⟨0, 0, 0, 0⟩

/-! ### isinstance of an own list that stays own -/
def dIsiO (T : String) (i : Nat) : DE := fun ρ => match ρ[i]? with
  | some (some d) => if noTy (frz d) = true then some (.bl (isT T (frz d)), ρ) else none
  | _ => none
theorem se_isiO {X : Cx} (i : Nat) {x T : Str} {U : String} {px pt p pos : Pos} (hm : X.mg "isinstance" = none) (hmT : X.mg T = none) (hvT : bootBuiltins T = some (.type U)) (ok : okT U = true) (hN : X.N[i]? = some x := by rfl) (hv : Vis X.env.scope x := by first | exact Or.inl rfl | exact Or.inr (Or.inl rfl) | exact Or.inr (Or.inr rfl)) (hd : (x == ("__debug__" : Str)) = false := by decide)
    (hcd : (x == ("__classdict__" : Str)) = false := by decide) (hg : Gl X "isinstance" := by rfl) (hgT : Gl X T := by rfl) (hn : T ≠ "__name__" := by decide) (hdT : (T == ("__debug__" : Str)) = false := by decide)
    (hs1 : starEach [.Name x px, .Name T pt] X.env = (false, eval (.Name x px) X.env) :: starEach [.Name T pt] X.env := by rfl) (hs2 : starEach [.Name T pt] X.env = (false, eval (.Name T pt) X.env) :: starEach [] X.env := by rfl) (hpl : (backTo pos (starEach [.Name T pt] X.env)).any (·.1) = false := by rfl) :
    SE X (.Call (.Name "isinstance" p) [.Name x px, .Name T pt] [] pos) (dIsiO U i) :=
  pe_weak (pe_callB call_isi hg hm boot_isinstance (pa_cons (pe_var hN hv hd hcd) (pa_cons (pe_bltn (v := .ty U) hgT hmT hvT rfl hn hdT) pa_nil hs2) hs1) (by decide) (by decide) hs1 hpl) fun σ H Q ⟨G, ρ, L, d, ρ', h1, h2, h3, q⟩ => by
    unfold dIsiO at h3
    split at h3
    · rename_i d0 hd0
      split at h3
      · rename_i hnt
        cases h3
        have a0 : Sta G H (L ++ []) := by rw [List.append_nil]; exact h1
        obtain ⟨f1, f2, f3⟩ := a0.freeze
        obtain ⟨v, s1, r⟩ := h2.all f3 (fun a us m => addF_in h1.nd m) hd0
        exact ⟨v, s1, v, .ty U, _, _, _, rfl, .ty U, tyx_of f1.ex r hnt, kit_isT ok hnt, q _ G H L h1 .refl h2 (.bl _)⟩
      · cases h3
    · cases h3
end Pd

/-! PdXW: what is wanted of runs with exceptions. -/
namespace Pd
open PySem PySem.Spec PyProof.Rows L2
def NX (fl : Fl) (A : Prop) : Prop := fl.isX = false ∧ A
def NXd (d : D) (A : Prop) : Prop := d.isX = false ∧ A
def OnX (d : D) (A B : Prop) : Prop := if d.isX = true then A else B
def OnXc (d : D) (A : Str → List Str → List D → Prop) (B : Prop) : Prop := match d with | .exc nm ns ds => A nm ns ds | _ => B
def WX (fl : Fl) (A : Str → List Str → List D → Ev → Prop) (B : Prop) : Prop := match fl with
  | .rt d ρ => OnXc d (fun nm ns ds => A nm ns ds ρ) B
  | _ => B
def WN (fl : Fl) (A : Ev → Prop) : Prop := match fl with
  | .nx ρ => A ρ
  | _ => False
def Del? (ρ : Ev) (i : Nat) (K : Ev → Prop) : Prop := K (ρ.set i none)
section
variable {ρ : Ev} {A B : Prop} {d : D} {AX : Str → List Str → List D → Ev → Prop} {AD : Str → List Str → List D → Prop} {AN : Ev → Prop} {nm : Str} {ns : List Str} {ds : List D}
theorem NX_nx : NX (.nx ρ) A = A := propext ⟨fun h => h.2, fun h => ⟨rfl, h⟩⟩
theorem NX_bk : NX (.bk ρ) A = A := propext ⟨fun h => h.2, fun h => ⟨rfl, h⟩⟩
theorem NX_ct : NX (.ct ρ) A = A := propext ⟨fun h => h.2, fun h => ⟨rfl, h⟩⟩
theorem NX_rt : NX (.rt d ρ) A = NXd d A := rfl
theorem NXd_int {i : Int} : NXd (.int i) A = A := propext ⟨fun h => h.2, fun h => ⟨rfl, h⟩⟩
theorem NXd_bl {i : Bool} : NXd (.bl i) A = A := propext ⟨fun h => h.2, fun h => ⟨rfl, h⟩⟩
theorem NXd_str {i : Str} : NXd (.str i) A = A := propext ⟨fun h => h.2, fun h => ⟨rfl, h⟩⟩
theorem NXd_non : NXd .non A = A := propext ⟨fun h => h.2, fun h => ⟨rfl, h⟩⟩
theorem NXd_tup : NXd (.tup ds) A = A := propext ⟨fun h => h.2, fun h => ⟨rfl, h⟩⟩
theorem NXd_lst : NXd (.lst ds) A = A := propext ⟨fun h => h.2, fun h => ⟨rfl, h⟩⟩
theorem NXd_own : NXd (.own ds) A = A := propext ⟨fun h => h.2, fun h => ⟨rfl, h⟩⟩
theorem NXd_otp : NXd (.otp ds) A = A := propext ⟨fun h => h.2, fun h => ⟨rfl, h⟩⟩
theorem OnX_exc : OnX (.exc nm ns ds) A B = A := rfl
theorem OnX_int {i : Int} : OnX (.int i) A B = B := rfl
theorem OnX_bl {i : Bool} : OnX (.bl i) A B = B := rfl
theorem OnX_str {i : Str} : OnX (.str i) A B = B := rfl
theorem OnX_non : OnX .non A B = B := rfl
theorem OnX_tup : OnX (.tup ds) A B = B := rfl
theorem OnX_lst : OnX (.lst ds) A B = B := rfl
theorem OnX_own : OnX (.own ds) A B = B := rfl
theorem OnX_otp : OnX (.otp ds) A B = B := rfl
theorem WX_nx : WX (.nx ρ) AX B = B := rfl
theorem WX_bk : WX (.bk ρ) AX B = B := rfl
theorem WX_ct : WX (.ct ρ) AX B = B := rfl
theorem WX_rt : WX (.rt d ρ) AX B = OnXc d (fun nm ns ds => AX nm ns ds ρ) B := rfl
theorem OnXc_exc : OnXc (.exc nm ns ds) AD B = AD nm ns ds := rfl
theorem OnXc_int {i : Int} : OnXc (.int i) AD B = B := rfl
theorem OnXc_bl {i : Bool} : OnXc (.bl i) AD B = B := rfl
theorem OnXc_str {i : Str} : OnXc (.str i) AD B = B := rfl
theorem OnXc_non : OnXc .non AD B = B := rfl
theorem OnXc_tup : OnXc (.tup ds) AD B = B := rfl
theorem OnXc_lst : OnXc (.lst ds) AD B = B := rfl
theorem OnXc_own : OnXc (.own ds) AD B = B := rfl
theorem OnXc_otp : OnXc (.otp ds) AD B = B := rfl
theorem WN_nx : WN (.nx ρ) AN = AN ρ := rfl
theorem Del_0 {y : Option D} : Del? (y :: ρ) 0 AN = AN (none :: ρ) := rfl
theorem Del_s {y : Option D} {i : Nat} : Del? (y :: ρ) (i + 1) AN = Del? ρ i fun ρ' => AN (y :: ρ') := rfl
theorem Frz_exc {K : D → Prop} : Frz? (.exc nm ns ds) K = K (.exc nm ns ds) := rfl
theorem pu_exc : (D.exc nm ns ds).pu = true := rfl
end
section
variable {g h : DS} {f f1 f2 f3 : DE} {fa : DA} {ρ : Ev} {Q : Fl → Prop} {i : Nat} {C : Ct} {cs : List Str} {nm n a b c : Str} {ns : List Str} {ds : List D} {tab : List (Str × Bool)} {QD : D → Prop}
theorem W_noX : W (dNoX g ρ) Q = W (g ρ) fun fl => NX fl (Q fl) := by
  unfold dNoX
  rw [W_bind]
  congr 1
  funext fl
  unfold NX
  cases hx : fl.isX with
  | true => rw [if_pos rfl, W_none]; simp
  | false => rw [if_neg Bool.false_ne_true, W_some]; simp
theorem W_raise1 : W (dRaise nm [n] (dCons f dNil) ρ) Q = W2 (f ρ) fun d ρ1 => Q (.rt (.exc nm [n] [d]) ρ1) := by
  unfold dRaise
  simp only [W_bind, W_pair, W_cons, W_nil]
  congr 1
  funext d ρ1
  rw [if_pos ⟨rfl, (show 1 ≤ 1000 by decide)⟩, W_some]
  rfl
theorem W_raise3 : W (dRaise nm [a, b, c] (dCons f1 (dCons f2 (dCons f3 dNil))) ρ) Q = W2 (f1 ρ) fun x ρ1 => W2 (f2 ρ1) fun y ρ2 => W2 (f3 ρ2) fun z ρ3 => Q (.rt (.exc nm [c, b, a] [z, y, x]) ρ3) := by
  unfold dRaise
  simp only [W_bind, W_pair, W_cons, W_nil]
  congr 1
  funext x ρ1
  congr 1
  funext y ρ2
  congr 1
  funext z ρ3
  rw [if_pos ⟨rfl, (show 3 ≤ 1000 by decide)⟩, W_some]
  rfl
theorem W_setX : W (dSetX i C fa ρ) Q = W2 (fa ρ) fun as ρ1 => W2 (C as) fun d o => NoOut o (OnX d (Q (.rt d ρ1)) (Set? ρ1 i (some d) fun ρ2 => Q (.nx ρ2))) := by
  unfold dSetX
  simp only [W_bind, W_pair]
  congr 1
  funext as ρ1
  congr 1
  funext d o
  unfold NoOut OnX
  cases o with
  | nil =>
    dsimp only
    cases hx : d.isX with
    | true => rw [if_pos rfl, if_pos rfl, W_some]
    | false =>
      rw [if_neg Bool.false_ne_true, if_neg Bool.false_ne_true, W_bind]
      unfold put Set?
      rw [W_guard, W_some, W_some]
  | cons _ _ => dsimp only; rw [W_none]
theorem W_setXF : W (dSetXF i C fa ρ) Q = W2 (fa ρ) fun as ρ1 => W2 (C as) fun d o => NoOut o (OnX d (Q (.rt d ρ1)) (Frz? d fun d' => Set? ρ1 i (some d') fun ρ2 => Q (.nx ρ2))) := by
  unfold dSetXF
  simp only [W_bind, W_pair]
  congr 1
  funext as ρ1
  congr 1
  funext d o
  unfold NoOut OnX Frz?
  cases o with
  | nil =>
    dsimp only
    cases hx : d.isX with
    | true => rw [if_pos rfl, if_pos rfl, W_some]
    | false =>
      rw [if_neg Bool.false_ne_true, if_neg Bool.false_ne_true, W_bind]
      unfold put Set?
      rw [W_guard, W_some, W_some]
  | cons _ _ => dsimp only; rw [W_none]
theorem W_tryAs : W (dTry cs i g h ρ) Q = W (g ρ) fun fl => WX fl (fun nm ns ds ρ1 => nm ∈ cs ∧ Set? ρ1 i (some (.exc nm ns ds)) fun ρ2 => W (h ρ2) fun fl2 => WN fl2 fun ρ3 => Del? ρ3 i fun ρ4 => Q (.nx ρ4)) (Q fl) := by
  unfold dTry
  rw [W_bind]
  congr 1
  funext fl
  cases fl with
  | rt d ρ1 =>
    cases d <;> first | exact W_some | skip
    rename_i nm ns ds
    show W (if nm ∈ cs then _ else none) Q = (nm ∈ cs ∧ _)
    rw [W_guard]
    congr 1
    rw [W_bind]
    unfold put Set?
    rw [W_guard, W_some, W_bind]
    congr 1
    congr 1
    funext fl2
    cases fl2 with
    | nx ρ3 => exact W_some
    | rt _ _ => exact W_none
    | bk _ => exact W_none
    | ct _ => exact W_none
  | nx _ => exact W_some
  | bk _ => exact W_some
  | ct _ => exact W_some
theorem W_tryO : W (dTryO cs g h ρ) Q = W (g ρ) fun fl => WX fl (fun nm ns ds ρ1 => nm ∈ cs ∧ W (h ρ1) Q) (Q fl) := by
  unfold dTryO
  rw [W_bind]
  congr 1
  funext fl
  cases fl with
  | rt d ρ1 =>
    cases d <;> first | exact W_some | skip
    rename_i nm ns ds
    show W (if nm ∈ cs then _ else none) Q = (nm ∈ cs ∧ _)
    rw [W_guard]
  | nx _ => exact W_some
  | bk _ => exact W_some
  | ct _ => exact W_some
theorem W_isX : W (isX tab (.exc nm ns ds)) QD = W (tab.lookup nm) fun b => QD (.bl b) := by
  show W ((tab.lookup nm).map D.bl) QD = _
  cases tab.lookup nm with
  | none => rw [Option.map_none, W_none, W_none]
  | some b => rw [Option.map_some, W_some, W_some]
theorem W_fldX : W (fldX cs n (.exc nm ns ds)) QD = (nm ∈ cs ∧ W ((ns.zip ds).lookup n) QD) := by
  show W (if nm ∈ cs then _ else none) QD = _
  rw [W_guard]
theorem W_isNX {ng : Bool} : W (opIsN ng (.exc nm ns ds) .non) QD = QD (.bl ng) := W_some
end
theorem W_isiO {T : String} {i : Nat} {ρ : Ev} {Q : D → Ev → Prop} : W2 (dIsiO T i ρ) Q = At? ρ i fun d => Frz? d fun d' => noTy d' = true ∧ Q (.bl (isT T d')) ρ := by
  unfold dIsiO
  split
  · rw [At_some (by assumption), W2_guard, W2_some]; rfl
  · rw [At_no (by assumption), W2_none]
theorem W_dropX {C : Ct} {fa : DA} {ρ : Ev} {Q : Fl → Prop} : W (dDropX C fa ρ) Q = W2 (fa ρ) fun as ρ1 => W2 (C as) fun d o => NoOut o (OnX d (Q (.rt d ρ1)) (Q (.nx ρ1))) := by
  unfold dDropX
  simp only [W_bind, W_pair]
  congr 1
  funext as ρ1
  congr 1
  funext d o
  unfold NoOut OnX
  cases o with
  | nil =>
    dsimp only
    cases hx : d.isX with
    | true => rw [if_pos rfl, if_pos rfl, W_some]
    | false => rw [if_neg Bool.false_ne_true, if_neg Bool.false_ne_true, W_some]
  | cons _ _ => dsimp only; rw [W_none]
end Pd

namespace Pd
open PySem PySem.Spec PyProof.Rows L2
/-! ### list.count of flat items -/
def rCntF (K : PySem.W.Frag) : V → List V → Hp → VK → Prop := fun x xs H Q => ∃ (a : Addr) (ys : List V) (y : V), x = V.ref a ∧ xs = [y] ∧ SqL K H a ys ∧ flatV y = true ∧ ys.all flatV = true ∧ Q (.int ((ys.countP fun z => eqV z y : Nat) : Int)) H
theorem count_vals {y : V} : ∀ {ys : List V} {its : List Value}, Vals ys its → ys.all flatV = true → its.countP (eqU y) = ys.countP fun z => eqV z y
  | _, _, .nil, _ => rfl
  | _, _, .cons (a := v) (b := u) (l₁ := vs) (l₂ := us) h t, f => by
    rw [List.all_cons, Bool.and_eq_true] at f
    rw [List.countP_cons, List.countP_cons, count_vals t f.2, eqU_of h f.1]
section
variable {X : Cx}
theorem mt_countF : MtR X "list.count" (rCntF X.K) := by
  intro pins s σ H x xs v us Q I rx rxs h
  obtain ⟨a, ys, y, rfl, rfl, hs, fy, fys, q⟩ := h
  cases rx
  cases rxs with
  | cons ry rt =>
    cases rt
    obtain ⟨its, rv, ⟨⟨cls, dd, data, sl⟩, n, ho, hc, hdn, hd⟩, hlen⟩ := I.list hs
    simp only at hc hd
    subst hc hd
    refine call_meets PySem.F.slot_list_count ⟨_, ho, rfl⟩ PySem.F.entry_list_count (PySem.F.args_list_count_2 _ _)
      (SeqAt.list_countAt a its.toArray n dd sl _ (eqU y)) ⟨ho, fun u' hu' => mem_eqAt ry fy rv fys u' (by simpa using hu'), ?_⟩
    have ec : its.toArray.toList.countP (eqU y) = ys.countP fun z => eqV z y := count_vals rv fys
    refine ⟨.int ((ys.countP fun z => eqV z y : Nat) : Int), H, I.tok _, ⟨s.toks, ?_⟩, q⟩
    show Value.int ((its.toArray.toList.countP (eqU y) : Nat) : Int) s.toks = Value.int ((ys.countP fun z => eqV z y : Nat) : Int) s.toks
    rw [ec]
end
section
variable {K : PySem.W.Frag}
def mdCountF (a : D) (args : List D) : Option D := match a, args with
  | .lst ds, [d] => if (d.flat && ds.all D.flat) = true then some (.int ((ds.countP fun z => deq z d : Nat) : Int)) else none
  | _, _ => none
theorem cnt_rep {G : Hp} {x : V} {a : D} (r : Rep K G x a) (f : a.flat = true) : ∀ {vs : List V} {ds : List D}, RepL K G vs ds → ds.all D.flat = true → (vs.countP fun z => eqV z x) = ds.countP fun z => deq z a
  | _, _, .nil, _ => rfl
  | _, _, .cons (v := v) (d := d) h rr, fl => by
    rw [List.all_cons, Bool.and_eq_true] at fl
    rw [List.countP_cons, List.countP_cons, cnt_rep r f rr fl.2, eqV_deq r h f fl.1]
theorem md_countF : MtD K "list" (rCntF K) mdCountF := fun x vs a ds d G H L Q s r rs e q => by
  unfold mdCountF at e
  split at e
  · split at e
    · rename_i hf
      cases e
      rw [Bool.and_eq_true] at hf
      cases r with
      | lst h1 r1 =>
        cases rs with
        | cons r2 rs =>
          cases rs
          refine ⟨_, _, _, rfl, rfl, s.ex.sqL (sqL_of h1), flat_rep r2 hf.1, flatV_all r1 hf.2, ?_⟩
          rw [cnt_rep r2 hf.1 r1 hf.2]
          exact plain_end s (.int _) q
    · cases e
  · cases e
theorem pu_mcountF (a : D) (ds : List D) (d : D) (h : mdCountF a ds = some d) : d.pu = true := by
  unfold mdCountF at h
  split at h
  · split at h
    · cases h; rfl
    · cases h
  · cases h
end
end Pd

namespace Pd
open PySem PySem.Spec PyProof.Rows L2
/-- _law_word(_law_caught) -/
def g_word : DS := (dSeq (dIfS (dOp (opIsN false) (dVar 0) dNon) (dRet dNon) dSkip)
  (dSeq (dSet 1 (dFz (dLst (dCons (dUn (isX [("Twice", true), ("Beyond", false), ("TooNarrow", false), ("NoStretch", false), ("BadText", false)]) (dVar 0)) (dCons (dUn (isX [("Twice", false), ("Beyond", true), ("TooNarrow", false), ("NoStretch", false), ("BadText", false)]) (dVar 0)) (dCons (dUn (isX [("Twice", false), ("Beyond", false), ("TooNarrow", true), ("NoStretch", false), ("BadText", false)]) (dVar 0)) dNil))))))
  (dSeq (dSet 1 (dFz (dOp opAdd (dVar 1) (dFz (dLst (dCons (dUn (isX [("Twice", false), ("Beyond", false), ("TooNarrow", false), ("NoStretch", true), ("BadText", false)]) (dVar 0)) (dCons (dUn (isX [("Twice", false), ("Beyond", false), ("TooNarrow", false), ("NoStretch", false), ("BadText", true)]) (dVar 0)) dNil)))))))
  (dSeq (dIfS (dOr (dOp opNe (dMt isLst mdCountF (dVar 1) (dCons (dBl true) dNil)) (dInt 1)) (dNot (dUn (isX [("Twice", true), ("Beyond", true), ("TooNarrow", true), ("NoStretch", true), ("BadText", true)]) (dVar 0)))) (dRet (dTup (dCons (dStr "other") dNil))) dSkip)
  (dSeq (dIfS (dFz (dOp opIx (dVar 1) (dInt 0))) (dRet (dTup (dCons (dStr "twice") (dCons (dUn (fldX ["Twice"] "one") (dVar 0)) (dCons (dUn (fldX ["Twice"] "other") (dVar 0)) (dCons (dUn (fldX ["Twice"] "number") (dVar 0)) dNil)))))) dSkip)
  (dSeq (dIfS (dOr (dFz (dOp opIx (dVar 1) (dInt 1))) (dFz (dOp opIx (dVar 1) (dInt 4)))) (dRet (dTup (dCons (dFz (dOp opIx (dFz (dLst (dCons (dStr "beyond") (dCons (dStr "text") dNil)))) (dBi biInt (dCons (dFz (dOp opIx (dVar 1) (dInt 4))) dNil)))) (dCons (dUn (fldX ["Beyond", "BadText"] "row") (dVar 0)) dNil)))) dSkip)
  (dRet (dIf (dFz (dOp opIx (dVar 1) (dInt 3))) (dTup (dCons (dStr "place") (dCons (dUn (fldX ["NoStretch"] "place") (dVar 0)) dNil))) (dTup (dCons (dStr "narrow") dNil))))))))))
def c_word : Ct := run 2 1 [] g_word
/-- label_at(stretches, number) -/
def g_label_at : DS := (dSeq (dPar 2 3 (dCons (dInt 0) (dCons (dBi biLen (dCons (dVar 0) dNil)) dNil)))
  (dSeq (dWhile (fun _ => 100000) (dOp opLt (dVar 2) (dVar 3)) (dSeq (dSet 4 (dOp opDiv (dFz (dOp opAdd (dVar 2) (dVar 3))) (dInt 2)))
  (dIfS (dOp opLt (dVar 1) (dFz (dOp opIx (dFz (dOp opIx (dVar 0) (dVar 4))) (dInt 0)))) (dSet 3 (dVar 4)) (dIfS (dOp opGt (dVar 1) (dFz (dOp opIx (dFz (dOp opIx (dVar 0) (dVar 4))) (dInt 1)))) (dSet 2 (dFz (dOp opAdd (dVar 4) (dInt 1)))) (dRet (dFz (dOp opIx (dFz (dOp opIx (dVar 0) (dVar 4))) (dInt 2))))))))
  (dRet dNon)))
def c_label_at : Ct := run 5 2 [] g_label_at

theorem W_word_non {Q : D → List D → Prop} (q : Q .non []) : W2 (c_word [.non]) Q := by
  unfold c_word g_word
  simp! [↓W_opL, ↓W_slO, ↓W_dropX, ↓W_isiO, ↓W_noX, ↓NX_nx, ↓NX_bk, ↓NX_ct, ↓NX_rt, ↓NXd_int, ↓NXd_bl, ↓NXd_str, ↓NXd_non, ↓NXd_tup, ↓NXd_lst, ↓NXd_own, ↓NXd_otp, ↓W_raise1, ↓W_raise3, ↓W_setX, ↓W_setXF, ↓OnX_exc, ↓OnX_int, ↓OnX_bl, ↓OnX_str, ↓OnX_non, ↓OnX_tup, ↓OnX_lst, ↓OnX_own, ↓OnX_otp, ↓W_tryAs, ↓W_tryO, ↓WX_nx, ↓WX_bk, ↓WX_ct, ↓WX_rt, ↓OnXc_exc, ↓OnXc_int, ↓OnXc_bl, ↓OnXc_str, ↓OnXc_non, ↓OnXc_tup, ↓OnXc_lst, ↓OnXc_own, ↓OnXc_otp, ↓WN_nx, ↓Del_0, ↓Del_s, ↓Frz_exc, ↓W_isX, ↓W_fldX, ↓W_isNX, pu_exc]
  exact q
theorem W_word_place {i : Int} {Q : D → List D → Prop} (q : Q (.tup [.str "place", .int i]) []) : W2 (c_word [.exc "NoStretch" ["place"] [.int i]]) Q := by
  unfold c_word g_word
  simp! [↓W_opL, ↓W_slO, ↓W_dropX, ↓W_isiO, ↓W_noX, ↓NX_nx, ↓NX_bk, ↓NX_ct, ↓NX_rt, ↓NXd_int, ↓NXd_bl, ↓NXd_str, ↓NXd_non, ↓NXd_tup, ↓NXd_lst, ↓NXd_own, ↓NXd_otp, ↓W_raise1, ↓W_raise3, ↓W_setX, ↓W_setXF, ↓OnX_exc, ↓OnX_int, ↓OnX_bl, ↓OnX_str, ↓OnX_non, ↓OnX_tup, ↓OnX_lst, ↓OnX_own, ↓OnX_otp, ↓W_tryAs, ↓W_tryO, ↓WX_nx, ↓WX_bk, ↓WX_ct, ↓WX_rt, ↓OnXc_exc, ↓OnXc_int, ↓OnXc_bl, ↓OnXc_str, ↓OnXc_non, ↓OnXc_tup, ↓OnXc_lst, ↓OnXc_own, ↓OnXc_otp, ↓WN_nx, ↓Del_0, ↓Del_s, ↓Frz_exc, ↓W_isX, ↓W_fldX, ↓W_isNX, pu_exc]
  refine W_of (a := false) (by decide +kernel) (W_of (a := false) (by decide +kernel) (W_of (a := false) (by decide +kernel) ?_))
  simp! [↓W_opL, ↓W_slO, ↓W_dropX, ↓W_isiO, ↓W_noX, ↓NX_nx, ↓NX_bk, ↓NX_ct, ↓NX_rt, ↓NXd_int, ↓NXd_bl, ↓NXd_str, ↓NXd_non, ↓NXd_tup, ↓NXd_lst, ↓NXd_own, ↓NXd_otp, ↓W_raise1, ↓W_raise3, ↓W_setX, ↓W_setXF, ↓OnX_exc, ↓OnX_int, ↓OnX_bl, ↓OnX_str, ↓OnX_non, ↓OnX_tup, ↓OnX_lst, ↓OnX_own, ↓OnX_otp, ↓W_tryAs, ↓W_tryO, ↓WX_nx, ↓WX_bk, ↓WX_ct, ↓WX_rt, ↓OnXc_exc, ↓OnXc_int, ↓OnXc_bl, ↓OnXc_str, ↓OnXc_non, ↓OnXc_tup, ↓OnXc_lst, ↓OnXc_own, ↓OnXc_otp, ↓WN_nx, ↓Del_0, ↓Del_s, ↓Frz_exc, ↓W_isX, ↓W_fldX, ↓W_isNX, pu_exc]
  refine W_of (a := true) (by decide +kernel) (W_of (a := false) (by decide +kernel) ?_)
  simp! [↓W_opL, ↓W_slO, ↓W_dropX, ↓W_isiO, ↓W_noX, ↓NX_nx, ↓NX_bk, ↓NX_ct, ↓NX_rt, ↓NXd_int, ↓NXd_bl, ↓NXd_str, ↓NXd_non, ↓NXd_tup, ↓NXd_lst, ↓NXd_own, ↓NXd_otp, ↓W_raise1, ↓W_raise3, ↓W_setX, ↓W_setXF, ↓OnX_exc, ↓OnX_int, ↓OnX_bl, ↓OnX_str, ↓OnX_non, ↓OnX_tup, ↓OnX_lst, ↓OnX_own, ↓OnX_otp, ↓W_tryAs, ↓W_tryO, ↓WX_nx, ↓WX_bk, ↓WX_ct, ↓WX_rt, ↓OnXc_exc, ↓OnXc_int, ↓OnXc_bl, ↓OnXc_str, ↓OnXc_non, ↓OnXc_tup, ↓OnXc_lst, ↓OnXc_own, ↓OnXc_otp, ↓WN_nx, ↓Del_0, ↓Del_s, ↓Frz_exc, ↓W_isX, ↓W_fldX, ↓W_isNX, pu_exc]
  refine W_of (a := .int 1) (by rfl) ?_
  simp! [↓W_opL, ↓W_slO, ↓W_dropX, ↓W_isiO, ↓W_noX, ↓NX_nx, ↓NX_bk, ↓NX_ct, ↓NX_rt, ↓NXd_int, ↓NXd_bl, ↓NXd_str, ↓NXd_non, ↓NXd_tup, ↓NXd_lst, ↓NXd_own, ↓NXd_otp, ↓W_raise1, ↓W_raise3, ↓W_setX, ↓W_setXF, ↓OnX_exc, ↓OnX_int, ↓OnX_bl, ↓OnX_str, ↓OnX_non, ↓OnX_tup, ↓OnX_lst, ↓OnX_own, ↓OnX_otp, ↓W_tryAs, ↓W_tryO, ↓WX_nx, ↓WX_bk, ↓WX_ct, ↓WX_rt, ↓OnXc_exc, ↓OnXc_int, ↓OnXc_bl, ↓OnXc_str, ↓OnXc_non, ↓OnXc_tup, ↓OnXc_lst, ↓OnXc_own, ↓OnXc_otp, ↓WN_nx, ↓Del_0, ↓Del_s, ↓Frz_exc, ↓W_isX, ↓W_fldX, ↓W_isNX, pu_exc]
  refine W_of (a := true) (by decide +kernel) ?_
  simp! [↓W_opL, ↓W_slO, ↓W_dropX, ↓W_isiO, ↓W_noX, ↓NX_nx, ↓NX_bk, ↓NX_ct, ↓NX_rt, ↓NXd_int, ↓NXd_bl, ↓NXd_str, ↓NXd_non, ↓NXd_tup, ↓NXd_lst, ↓NXd_own, ↓NXd_otp, ↓W_raise1, ↓W_raise3, ↓W_setX, ↓W_setXF, ↓OnX_exc, ↓OnX_int, ↓OnX_bl, ↓OnX_str, ↓OnX_non, ↓OnX_tup, ↓OnX_lst, ↓OnX_own, ↓OnX_otp, ↓W_tryAs, ↓W_tryO, ↓WX_nx, ↓WX_bk, ↓WX_ct, ↓WX_rt, ↓OnXc_exc, ↓OnXc_int, ↓OnXc_bl, ↓OnXc_str, ↓OnXc_non, ↓OnXc_tup, ↓OnXc_lst, ↓OnXc_own, ↓OnXc_otp, ↓WN_nx, ↓Del_0, ↓Del_s, ↓Frz_exc, ↓W_isX, ↓W_fldX, ↓W_isNX, pu_exc]
  exact ⟨by decide +kernel, W_of (a := .int i) rfl q⟩
theorem W_word_beyond {i : Int} {Q : D → List D → Prop} (q : Q (.tup [.str "beyond", .int i]) []) : W2 (c_word [.exc "Beyond" ["row"] [.int i]]) Q := by
  unfold c_word g_word
  simp! [↓W_opL, ↓W_slO, ↓W_dropX, ↓W_isiO, ↓W_noX, ↓NX_nx, ↓NX_bk, ↓NX_ct, ↓NX_rt, ↓NXd_int, ↓NXd_bl, ↓NXd_str, ↓NXd_non, ↓NXd_tup, ↓NXd_lst, ↓NXd_own, ↓NXd_otp, ↓W_raise1, ↓W_raise3, ↓W_setX, ↓W_setXF, ↓OnX_exc, ↓OnX_int, ↓OnX_bl, ↓OnX_str, ↓OnX_non, ↓OnX_tup, ↓OnX_lst, ↓OnX_own, ↓OnX_otp, ↓W_tryAs, ↓W_tryO, ↓WX_nx, ↓WX_bk, ↓WX_ct, ↓WX_rt, ↓OnXc_exc, ↓OnXc_int, ↓OnXc_bl, ↓OnXc_str, ↓OnXc_non, ↓OnXc_tup, ↓OnXc_lst, ↓OnXc_own, ↓OnXc_otp, ↓WN_nx, ↓Del_0, ↓Del_s, ↓Frz_exc, ↓W_isX, ↓W_fldX, ↓W_isNX, pu_exc]
  refine W_of (a := false) (by decide +kernel) (W_of (a := true) (by decide +kernel) (W_of (a := false) (by decide +kernel) ?_))
  simp! [↓W_opL, ↓W_slO, ↓W_dropX, ↓W_isiO, ↓W_noX, ↓NX_nx, ↓NX_bk, ↓NX_ct, ↓NX_rt, ↓NXd_int, ↓NXd_bl, ↓NXd_str, ↓NXd_non, ↓NXd_tup, ↓NXd_lst, ↓NXd_own, ↓NXd_otp, ↓W_raise1, ↓W_raise3, ↓W_setX, ↓W_setXF, ↓OnX_exc, ↓OnX_int, ↓OnX_bl, ↓OnX_str, ↓OnX_non, ↓OnX_tup, ↓OnX_lst, ↓OnX_own, ↓OnX_otp, ↓W_tryAs, ↓W_tryO, ↓WX_nx, ↓WX_bk, ↓WX_ct, ↓WX_rt, ↓OnXc_exc, ↓OnXc_int, ↓OnXc_bl, ↓OnXc_str, ↓OnXc_non, ↓OnXc_tup, ↓OnXc_lst, ↓OnXc_own, ↓OnXc_otp, ↓WN_nx, ↓Del_0, ↓Del_s, ↓Frz_exc, ↓W_isX, ↓W_fldX, ↓W_isNX, pu_exc]
  refine W_of (a := false) (by decide +kernel) (W_of (a := false) (by decide +kernel) ?_)
  simp! [↓W_opL, ↓W_slO, ↓W_dropX, ↓W_isiO, ↓W_noX, ↓NX_nx, ↓NX_bk, ↓NX_ct, ↓NX_rt, ↓NXd_int, ↓NXd_bl, ↓NXd_str, ↓NXd_non, ↓NXd_tup, ↓NXd_lst, ↓NXd_own, ↓NXd_otp, ↓W_raise1, ↓W_raise3, ↓W_setX, ↓W_setXF, ↓OnX_exc, ↓OnX_int, ↓OnX_bl, ↓OnX_str, ↓OnX_non, ↓OnX_tup, ↓OnX_lst, ↓OnX_own, ↓OnX_otp, ↓W_tryAs, ↓W_tryO, ↓WX_nx, ↓WX_bk, ↓WX_ct, ↓WX_rt, ↓OnXc_exc, ↓OnXc_int, ↓OnXc_bl, ↓OnXc_str, ↓OnXc_non, ↓OnXc_tup, ↓OnXc_lst, ↓OnXc_own, ↓OnXc_otp, ↓WN_nx, ↓Del_0, ↓Del_s, ↓Frz_exc, ↓W_isX, ↓W_fldX, ↓W_isNX, pu_exc]
  refine W_of (a := .int 1) (by rfl) ?_
  simp! [↓W_opL, ↓W_slO, ↓W_dropX, ↓W_isiO, ↓W_noX, ↓NX_nx, ↓NX_bk, ↓NX_ct, ↓NX_rt, ↓NXd_int, ↓NXd_bl, ↓NXd_str, ↓NXd_non, ↓NXd_tup, ↓NXd_lst, ↓NXd_own, ↓NXd_otp, ↓W_raise1, ↓W_raise3, ↓W_setX, ↓W_setXF, ↓OnX_exc, ↓OnX_int, ↓OnX_bl, ↓OnX_str, ↓OnX_non, ↓OnX_tup, ↓OnX_lst, ↓OnX_own, ↓OnX_otp, ↓W_tryAs, ↓W_tryO, ↓WX_nx, ↓WX_bk, ↓WX_ct, ↓WX_rt, ↓OnXc_exc, ↓OnXc_int, ↓OnXc_bl, ↓OnXc_str, ↓OnXc_non, ↓OnXc_tup, ↓OnXc_lst, ↓OnXc_own, ↓OnXc_otp, ↓WN_nx, ↓Del_0, ↓Del_s, ↓Frz_exc, ↓W_isX, ↓W_fldX, ↓W_isNX, pu_exc]
  refine W_of (a := true) (by decide +kernel) ?_
  simp! [↓W_opL, ↓W_slO, ↓W_dropX, ↓W_isiO, ↓W_noX, ↓NX_nx, ↓NX_bk, ↓NX_ct, ↓NX_rt, ↓NXd_int, ↓NXd_bl, ↓NXd_str, ↓NXd_non, ↓NXd_tup, ↓NXd_lst, ↓NXd_own, ↓NXd_otp, ↓W_raise1, ↓W_raise3, ↓W_setX, ↓W_setXF, ↓OnX_exc, ↓OnX_int, ↓OnX_bl, ↓OnX_str, ↓OnX_non, ↓OnX_tup, ↓OnX_lst, ↓OnX_own, ↓OnX_otp, ↓W_tryAs, ↓W_tryO, ↓WX_nx, ↓WX_bk, ↓WX_ct, ↓WX_rt, ↓OnXc_exc, ↓OnXc_int, ↓OnXc_bl, ↓OnXc_str, ↓OnXc_non, ↓OnXc_tup, ↓OnXc_lst, ↓OnXc_own, ↓OnXc_otp, ↓WN_nx, ↓Del_0, ↓Del_s, ↓Frz_exc, ↓W_isX, ↓W_fldX, ↓W_isNX, pu_exc]
  refine W_of (a := .str "beyond") rfl ?_
  simp! [↓W_opL, ↓W_slO, ↓W_dropX, ↓W_isiO, ↓W_noX, ↓NX_nx, ↓NX_bk, ↓NX_ct, ↓NX_rt, ↓NXd_int, ↓NXd_bl, ↓NXd_str, ↓NXd_non, ↓NXd_tup, ↓NXd_lst, ↓NXd_own, ↓NXd_otp, ↓W_raise1, ↓W_raise3, ↓W_setX, ↓W_setXF, ↓OnX_exc, ↓OnX_int, ↓OnX_bl, ↓OnX_str, ↓OnX_non, ↓OnX_tup, ↓OnX_lst, ↓OnX_own, ↓OnX_otp, ↓W_tryAs, ↓W_tryO, ↓WX_nx, ↓WX_bk, ↓WX_ct, ↓WX_rt, ↓OnXc_exc, ↓OnXc_int, ↓OnXc_bl, ↓OnXc_str, ↓OnXc_non, ↓OnXc_tup, ↓OnXc_lst, ↓OnXc_own, ↓OnXc_otp, ↓WN_nx, ↓Del_0, ↓Del_s, ↓Frz_exc, ↓W_isX, ↓W_fldX, ↓W_isNX, pu_exc]
  exact ⟨by decide +kernel, W_of (a := .int i) rfl q⟩
theorem W_word_text {i : Int} {Q : D → List D → Prop} (q : Q (.tup [.str "text", .int i]) []) : W2 (c_word [.exc "BadText" ["row"] [.int i]]) Q := by
  unfold c_word g_word
  simp! [↓W_opL, ↓W_slO, ↓W_dropX, ↓W_isiO, ↓W_noX, ↓NX_nx, ↓NX_bk, ↓NX_ct, ↓NX_rt, ↓NXd_int, ↓NXd_bl, ↓NXd_str, ↓NXd_non, ↓NXd_tup, ↓NXd_lst, ↓NXd_own, ↓NXd_otp, ↓W_raise1, ↓W_raise3, ↓W_setX, ↓W_setXF, ↓OnX_exc, ↓OnX_int, ↓OnX_bl, ↓OnX_str, ↓OnX_non, ↓OnX_tup, ↓OnX_lst, ↓OnX_own, ↓OnX_otp, ↓W_tryAs, ↓W_tryO, ↓WX_nx, ↓WX_bk, ↓WX_ct, ↓WX_rt, ↓OnXc_exc, ↓OnXc_int, ↓OnXc_bl, ↓OnXc_str, ↓OnXc_non, ↓OnXc_tup, ↓OnXc_lst, ↓OnXc_own, ↓OnXc_otp, ↓WN_nx, ↓Del_0, ↓Del_s, ↓Frz_exc, ↓W_isX, ↓W_fldX, ↓W_isNX, pu_exc]
  refine W_of (a := false) (by decide +kernel) (W_of (a := false) (by decide +kernel) (W_of (a := false) (by decide +kernel) ?_))
  simp! [↓W_opL, ↓W_slO, ↓W_dropX, ↓W_isiO, ↓W_noX, ↓NX_nx, ↓NX_bk, ↓NX_ct, ↓NX_rt, ↓NXd_int, ↓NXd_bl, ↓NXd_str, ↓NXd_non, ↓NXd_tup, ↓NXd_lst, ↓NXd_own, ↓NXd_otp, ↓W_raise1, ↓W_raise3, ↓W_setX, ↓W_setXF, ↓OnX_exc, ↓OnX_int, ↓OnX_bl, ↓OnX_str, ↓OnX_non, ↓OnX_tup, ↓OnX_lst, ↓OnX_own, ↓OnX_otp, ↓W_tryAs, ↓W_tryO, ↓WX_nx, ↓WX_bk, ↓WX_ct, ↓WX_rt, ↓OnXc_exc, ↓OnXc_int, ↓OnXc_bl, ↓OnXc_str, ↓OnXc_non, ↓OnXc_tup, ↓OnXc_lst, ↓OnXc_own, ↓OnXc_otp, ↓WN_nx, ↓Del_0, ↓Del_s, ↓Frz_exc, ↓W_isX, ↓W_fldX, ↓W_isNX, pu_exc]
  refine W_of (a := false) (by decide +kernel) (W_of (a := true) (by decide +kernel) ?_)
  simp! [↓W_opL, ↓W_slO, ↓W_dropX, ↓W_isiO, ↓W_noX, ↓NX_nx, ↓NX_bk, ↓NX_ct, ↓NX_rt, ↓NXd_int, ↓NXd_bl, ↓NXd_str, ↓NXd_non, ↓NXd_tup, ↓NXd_lst, ↓NXd_own, ↓NXd_otp, ↓W_raise1, ↓W_raise3, ↓W_setX, ↓W_setXF, ↓OnX_exc, ↓OnX_int, ↓OnX_bl, ↓OnX_str, ↓OnX_non, ↓OnX_tup, ↓OnX_lst, ↓OnX_own, ↓OnX_otp, ↓W_tryAs, ↓W_tryO, ↓WX_nx, ↓WX_bk, ↓WX_ct, ↓WX_rt, ↓OnXc_exc, ↓OnXc_int, ↓OnXc_bl, ↓OnXc_str, ↓OnXc_non, ↓OnXc_tup, ↓OnXc_lst, ↓OnXc_own, ↓OnXc_otp, ↓WN_nx, ↓Del_0, ↓Del_s, ↓Frz_exc, ↓W_isX, ↓W_fldX, ↓W_isNX, pu_exc]
  refine W_of (a := .int 1) (by rfl) ?_
  simp! [↓W_opL, ↓W_slO, ↓W_dropX, ↓W_isiO, ↓W_noX, ↓NX_nx, ↓NX_bk, ↓NX_ct, ↓NX_rt, ↓NXd_int, ↓NXd_bl, ↓NXd_str, ↓NXd_non, ↓NXd_tup, ↓NXd_lst, ↓NXd_own, ↓NXd_otp, ↓W_raise1, ↓W_raise3, ↓W_setX, ↓W_setXF, ↓OnX_exc, ↓OnX_int, ↓OnX_bl, ↓OnX_str, ↓OnX_non, ↓OnX_tup, ↓OnX_lst, ↓OnX_own, ↓OnX_otp, ↓W_tryAs, ↓W_tryO, ↓WX_nx, ↓WX_bk, ↓WX_ct, ↓WX_rt, ↓OnXc_exc, ↓OnXc_int, ↓OnXc_bl, ↓OnXc_str, ↓OnXc_non, ↓OnXc_tup, ↓OnXc_lst, ↓OnXc_own, ↓OnXc_otp, ↓WN_nx, ↓Del_0, ↓Del_s, ↓Frz_exc, ↓W_isX, ↓W_fldX, ↓W_isNX, pu_exc]
  refine W_of (a := true) (by decide +kernel) ?_
  simp! [↓W_opL, ↓W_slO, ↓W_dropX, ↓W_isiO, ↓W_noX, ↓NX_nx, ↓NX_bk, ↓NX_ct, ↓NX_rt, ↓NXd_int, ↓NXd_bl, ↓NXd_str, ↓NXd_non, ↓NXd_tup, ↓NXd_lst, ↓NXd_own, ↓NXd_otp, ↓W_raise1, ↓W_raise3, ↓W_setX, ↓W_setXF, ↓OnX_exc, ↓OnX_int, ↓OnX_bl, ↓OnX_str, ↓OnX_non, ↓OnX_tup, ↓OnX_lst, ↓OnX_own, ↓OnX_otp, ↓W_tryAs, ↓W_tryO, ↓WX_nx, ↓WX_bk, ↓WX_ct, ↓WX_rt, ↓OnXc_exc, ↓OnXc_int, ↓OnXc_bl, ↓OnXc_str, ↓OnXc_non, ↓OnXc_tup, ↓OnXc_lst, ↓OnXc_own, ↓OnXc_otp, ↓WN_nx, ↓Del_0, ↓Del_s, ↓Frz_exc, ↓W_isX, ↓W_fldX, ↓W_isNX, pu_exc]
  refine W_of (a := .str "text") rfl ?_
  simp! [↓W_opL, ↓W_slO, ↓W_dropX, ↓W_isiO, ↓W_noX, ↓NX_nx, ↓NX_bk, ↓NX_ct, ↓NX_rt, ↓NXd_int, ↓NXd_bl, ↓NXd_str, ↓NXd_non, ↓NXd_tup, ↓NXd_lst, ↓NXd_own, ↓NXd_otp, ↓W_raise1, ↓W_raise3, ↓W_setX, ↓W_setXF, ↓OnX_exc, ↓OnX_int, ↓OnX_bl, ↓OnX_str, ↓OnX_non, ↓OnX_tup, ↓OnX_lst, ↓OnX_own, ↓OnX_otp, ↓W_tryAs, ↓W_tryO, ↓WX_nx, ↓WX_bk, ↓WX_ct, ↓WX_rt, ↓OnXc_exc, ↓OnXc_int, ↓OnXc_bl, ↓OnXc_str, ↓OnXc_non, ↓OnXc_tup, ↓OnXc_lst, ↓OnXc_own, ↓OnXc_otp, ↓WN_nx, ↓Del_0, ↓Del_s, ↓Frz_exc, ↓W_isX, ↓W_fldX, ↓W_isNX, pu_exc]
  exact ⟨by decide +kernel, W_of (a := .int i) rfl q⟩
theorem W_word_twice {a b c : Int} {Q : D → List D → Prop} (q : Q (.tup [.str "twice", .int a, .int b, .int c]) []) : W2 (c_word [.exc "Twice" ["number", "other", "one"] [.int c, .int b, .int a]]) Q := by
  unfold c_word g_word
  simp! [↓W_opL, ↓W_slO, ↓W_dropX, ↓W_isiO, ↓W_noX, ↓NX_nx, ↓NX_bk, ↓NX_ct, ↓NX_rt, ↓NXd_int, ↓NXd_bl, ↓NXd_str, ↓NXd_non, ↓NXd_tup, ↓NXd_lst, ↓NXd_own, ↓NXd_otp, ↓W_raise1, ↓W_raise3, ↓W_setX, ↓W_setXF, ↓OnX_exc, ↓OnX_int, ↓OnX_bl, ↓OnX_str, ↓OnX_non, ↓OnX_tup, ↓OnX_lst, ↓OnX_own, ↓OnX_otp, ↓W_tryAs, ↓W_tryO, ↓WX_nx, ↓WX_bk, ↓WX_ct, ↓WX_rt, ↓OnXc_exc, ↓OnXc_int, ↓OnXc_bl, ↓OnXc_str, ↓OnXc_non, ↓OnXc_tup, ↓OnXc_lst, ↓OnXc_own, ↓OnXc_otp, ↓WN_nx, ↓Del_0, ↓Del_s, ↓Frz_exc, ↓W_isX, ↓W_fldX, ↓W_isNX, pu_exc]
  refine W_of (a := true) (by decide +kernel) (W_of (a := false) (by decide +kernel) (W_of (a := false) (by decide +kernel) ?_))
  simp! [↓W_opL, ↓W_slO, ↓W_dropX, ↓W_isiO, ↓W_noX, ↓NX_nx, ↓NX_bk, ↓NX_ct, ↓NX_rt, ↓NXd_int, ↓NXd_bl, ↓NXd_str, ↓NXd_non, ↓NXd_tup, ↓NXd_lst, ↓NXd_own, ↓NXd_otp, ↓W_raise1, ↓W_raise3, ↓W_setX, ↓W_setXF, ↓OnX_exc, ↓OnX_int, ↓OnX_bl, ↓OnX_str, ↓OnX_non, ↓OnX_tup, ↓OnX_lst, ↓OnX_own, ↓OnX_otp, ↓W_tryAs, ↓W_tryO, ↓WX_nx, ↓WX_bk, ↓WX_ct, ↓WX_rt, ↓OnXc_exc, ↓OnXc_int, ↓OnXc_bl, ↓OnXc_str, ↓OnXc_non, ↓OnXc_tup, ↓OnXc_lst, ↓OnXc_own, ↓OnXc_otp, ↓WN_nx, ↓Del_0, ↓Del_s, ↓Frz_exc, ↓W_isX, ↓W_fldX, ↓W_isNX, pu_exc]
  refine W_of (a := false) (by decide +kernel) (W_of (a := false) (by decide +kernel) ?_)
  refine W_of (a := .int 1) (by rfl) ?_
  simp! [↓W_opL, ↓W_slO, ↓W_dropX, ↓W_isiO, ↓W_noX, ↓NX_nx, ↓NX_bk, ↓NX_ct, ↓NX_rt, ↓NXd_int, ↓NXd_bl, ↓NXd_str, ↓NXd_non, ↓NXd_tup, ↓NXd_lst, ↓NXd_own, ↓NXd_otp, ↓W_raise1, ↓W_raise3, ↓W_setX, ↓W_setXF, ↓OnX_exc, ↓OnX_int, ↓OnX_bl, ↓OnX_str, ↓OnX_non, ↓OnX_tup, ↓OnX_lst, ↓OnX_own, ↓OnX_otp, ↓W_tryAs, ↓W_tryO, ↓WX_nx, ↓WX_bk, ↓WX_ct, ↓WX_rt, ↓OnXc_exc, ↓OnXc_int, ↓OnXc_bl, ↓OnXc_str, ↓OnXc_non, ↓OnXc_tup, ↓OnXc_lst, ↓OnXc_own, ↓OnXc_otp, ↓WN_nx, ↓Del_0, ↓Del_s, ↓Frz_exc, ↓W_isX, ↓W_fldX, ↓W_isNX, pu_exc]
  refine W_of (a := true) (by decide +kernel) ?_
  simp! [↓W_opL, ↓W_slO, ↓W_dropX, ↓W_isiO, ↓W_noX, ↓NX_nx, ↓NX_bk, ↓NX_ct, ↓NX_rt, ↓NXd_int, ↓NXd_bl, ↓NXd_str, ↓NXd_non, ↓NXd_tup, ↓NXd_lst, ↓NXd_own, ↓NXd_otp, ↓W_raise1, ↓W_raise3, ↓W_setX, ↓W_setXF, ↓OnX_exc, ↓OnX_int, ↓OnX_bl, ↓OnX_str, ↓OnX_non, ↓OnX_tup, ↓OnX_lst, ↓OnX_own, ↓OnX_otp, ↓W_tryAs, ↓W_tryO, ↓WX_nx, ↓WX_bk, ↓WX_ct, ↓WX_rt, ↓OnXc_exc, ↓OnXc_int, ↓OnXc_bl, ↓OnXc_str, ↓OnXc_non, ↓OnXc_tup, ↓OnXc_lst, ↓OnXc_own, ↓OnXc_otp, ↓WN_nx, ↓Del_0, ↓Del_s, ↓Frz_exc, ↓W_isX, ↓W_fldX, ↓W_isNX, pu_exc]
  exact ⟨by decide +kernel, W_of (a := .int a) rfl ⟨by decide +kernel, W_of (a := .int b) rfl ⟨by decide +kernel, W_of (a := .int c) rfl q⟩⟩⟩
theorem W_word_narrow {Q : D → List D → Prop} (q : Q (.tup [.str "narrow"]) []) : W2 (c_word [.exc "TooNarrow" [] []]) Q := by
  unfold c_word g_word
  simp! [↓W_opL, ↓W_slO, ↓W_dropX, ↓W_isiO, ↓W_noX, ↓NX_nx, ↓NX_bk, ↓NX_ct, ↓NX_rt, ↓NXd_int, ↓NXd_bl, ↓NXd_str, ↓NXd_non, ↓NXd_tup, ↓NXd_lst, ↓NXd_own, ↓NXd_otp, ↓W_raise1, ↓W_raise3, ↓W_setX, ↓W_setXF, ↓OnX_exc, ↓OnX_int, ↓OnX_bl, ↓OnX_str, ↓OnX_non, ↓OnX_tup, ↓OnX_lst, ↓OnX_own, ↓OnX_otp, ↓W_tryAs, ↓W_tryO, ↓WX_nx, ↓WX_bk, ↓WX_ct, ↓WX_rt, ↓OnXc_exc, ↓OnXc_int, ↓OnXc_bl, ↓OnXc_str, ↓OnXc_non, ↓OnXc_tup, ↓OnXc_lst, ↓OnXc_own, ↓OnXc_otp, ↓WN_nx, ↓Del_0, ↓Del_s, ↓Frz_exc, ↓W_isX, ↓W_fldX, ↓W_isNX, pu_exc]
  refine W_of (a := false) (by decide +kernel) (W_of (a := false) (by decide +kernel) (W_of (a := true) (by decide +kernel) ?_))
  simp! [↓W_opL, ↓W_slO, ↓W_dropX, ↓W_isiO, ↓W_noX, ↓NX_nx, ↓NX_bk, ↓NX_ct, ↓NX_rt, ↓NXd_int, ↓NXd_bl, ↓NXd_str, ↓NXd_non, ↓NXd_tup, ↓NXd_lst, ↓NXd_own, ↓NXd_otp, ↓W_raise1, ↓W_raise3, ↓W_setX, ↓W_setXF, ↓OnX_exc, ↓OnX_int, ↓OnX_bl, ↓OnX_str, ↓OnX_non, ↓OnX_tup, ↓OnX_lst, ↓OnX_own, ↓OnX_otp, ↓W_tryAs, ↓W_tryO, ↓WX_nx, ↓WX_bk, ↓WX_ct, ↓WX_rt, ↓OnXc_exc, ↓OnXc_int, ↓OnXc_bl, ↓OnXc_str, ↓OnXc_non, ↓OnXc_tup, ↓OnXc_lst, ↓OnXc_own, ↓OnXc_otp, ↓WN_nx, ↓Del_0, ↓Del_s, ↓Frz_exc, ↓W_isX, ↓W_fldX, ↓W_isNX, pu_exc]
  refine W_of (a := false) (by decide +kernel) (W_of (a := false) (by decide +kernel) ?_)
  simp! [↓W_opL, ↓W_slO, ↓W_dropX, ↓W_isiO, ↓W_noX, ↓NX_nx, ↓NX_bk, ↓NX_ct, ↓NX_rt, ↓NXd_int, ↓NXd_bl, ↓NXd_str, ↓NXd_non, ↓NXd_tup, ↓NXd_lst, ↓NXd_own, ↓NXd_otp, ↓W_raise1, ↓W_raise3, ↓W_setX, ↓W_setXF, ↓OnX_exc, ↓OnX_int, ↓OnX_bl, ↓OnX_str, ↓OnX_non, ↓OnX_tup, ↓OnX_lst, ↓OnX_own, ↓OnX_otp, ↓W_tryAs, ↓W_tryO, ↓WX_nx, ↓WX_bk, ↓WX_ct, ↓WX_rt, ↓OnXc_exc, ↓OnXc_int, ↓OnXc_bl, ↓OnXc_str, ↓OnXc_non, ↓OnXc_tup, ↓OnXc_lst, ↓OnXc_own, ↓OnXc_otp, ↓WN_nx, ↓Del_0, ↓Del_s, ↓Frz_exc, ↓W_isX, ↓W_fldX, ↓W_isNX, pu_exc]
  refine W_of (a := .int 1) (by rfl) ?_
  simp! [↓W_opL, ↓W_slO, ↓W_dropX, ↓W_isiO, ↓W_noX, ↓NX_nx, ↓NX_bk, ↓NX_ct, ↓NX_rt, ↓NXd_int, ↓NXd_bl, ↓NXd_str, ↓NXd_non, ↓NXd_tup, ↓NXd_lst, ↓NXd_own, ↓NXd_otp, ↓W_raise1, ↓W_raise3, ↓W_setX, ↓W_setXF, ↓OnX_exc, ↓OnX_int, ↓OnX_bl, ↓OnX_str, ↓OnX_non, ↓OnX_tup, ↓OnX_lst, ↓OnX_own, ↓OnX_otp, ↓W_tryAs, ↓W_tryO, ↓WX_nx, ↓WX_bk, ↓WX_ct, ↓WX_rt, ↓OnXc_exc, ↓OnXc_int, ↓OnXc_bl, ↓OnXc_str, ↓OnXc_non, ↓OnXc_tup, ↓OnXc_lst, ↓OnXc_own, ↓OnXc_otp, ↓WN_nx, ↓Del_0, ↓Del_s, ↓Frz_exc, ↓W_isX, ↓W_fldX, ↓W_isNX, pu_exc]
  refine W_of (a := true) (by decide +kernel) ?_
  simp! [↓W_opL, ↓W_slO, ↓W_dropX, ↓W_isiO, ↓W_noX, ↓NX_nx, ↓NX_bk, ↓NX_ct, ↓NX_rt, ↓NXd_int, ↓NXd_bl, ↓NXd_str, ↓NXd_non, ↓NXd_tup, ↓NXd_lst, ↓NXd_own, ↓NXd_otp, ↓W_raise1, ↓W_raise3, ↓W_setX, ↓W_setXF, ↓OnX_exc, ↓OnX_int, ↓OnX_bl, ↓OnX_str, ↓OnX_non, ↓OnX_tup, ↓OnX_lst, ↓OnX_own, ↓OnX_otp, ↓W_tryAs, ↓W_tryO, ↓WX_nx, ↓WX_bk, ↓WX_ct, ↓WX_rt, ↓OnXc_exc, ↓OnXc_int, ↓OnXc_bl, ↓OnXc_str, ↓OnXc_non, ↓OnXc_tup, ↓OnXc_lst, ↓OnXc_own, ↓OnXc_otp, ↓WN_nx, ↓Del_0, ↓Del_s, ↓Frz_exc, ↓W_isX, ↓W_fldX, ↓W_isNX, pu_exc]
  exact q
theorem side_up : ∀ {ss : List Stc}, sideB ss → (∀ s ∈ ss, s.1 ≤ s.2.1) → ss.Pairwise (fun a b => a.2.1 < b.1)
  | [], _, _ => .nil
  | [a], _, _ => List.pairwise_singleton _ _
  | a :: b :: r, h, h2 => by
    have ih := side_up (ss := b :: r) h.2 fun s hs => h2 s (List.mem_cons_of_mem _ hs)
    refine List.pairwise_cons.mpr ⟨fun s hs => ?_, ih⟩
    have e := h.1.1
    rcases List.mem_cons.mp hs with rfl | hs
    · omega
    · have := (List.pairwise_cons.mp ih).1 s hs
      have := h2 b (List.mem_cons_of_mem _ List.mem_cons_self)
      omega
def hits (x : Int) (ss : List Stc) : List Stc := ss.filter fun s => decide (s.1 ≤ x) && decide (x ≤ s.2.1)
def hitD (x : Int) (ss : List Stc) : D := match hits x ss with | [] => .non | s :: _ => .int s.2.2
theorem hits_at {x : Int} {ss : List Stc} {m : Nat} {s : Stc} (hp : ss.Pairwise (fun a b => a.2.1 < b.1)) (hm : ss[m]? = some s) (h1 : s.1 ≤ x) (h2 : x ≤ s.2.1) : hitD x ss = .int s.2.2 := by
  have hl : m < ss.length := by
    rcases Nat.lt_or_ge m ss.length with z | z
    · exact z
    · rw [List.getElem?_eq_none z] at hm; cases hm
  have e : ss = ss.take m ++ s :: ss.drop (m + 1) := by
    have := List.getElem?_eq_getElem hl
    rw [hm] at this
    rw [Option.some.inj this, ← List.drop_eq_getElem_cons hl, List.take_append_drop]
  have z : (ss.take m).filter (fun s => decide (s.1 ≤ x) && decide (x ≤ s.2.1)) = [] := List.filter_eq_nil_iff.mpr fun a ha => by
    rw [e] at hp
    have := (List.pairwise_append.mp hp).2.2 a ha s List.mem_cons_self
    simp
    omega
  have hh : hits x ss = s :: (ss.drop (m + 1)).filter (fun s => decide (s.1 ≤ x) && decide (x ≤ s.2.1)) := by
    unfold hits
    rw [e, List.filter_append, z, List.nil_append, List.filter_cons, if_pos (by simp [h1, h2])]
    rw [← e]
  unfold hitD
  rw [hh]
theorem hits_no {x : Int} {ss : List Stc} (h : ∀ (i : Nat) (s : Stc), ss[i]? = some s → s.2.1 < x ∨ x < s.1) : hitD x ss = .non := by
  have hh : hits x ss = [] := List.filter_eq_nil_iff.mpr fun s hs => by
    obtain ⟨i, hi⟩ := List.mem_iff_getElem?.mp hs
    have := h i s hi
    simp
    omega
  unfold hitD
  rw [hh]
theorem get_lt {ss : List Stc} {i j : Nat} {a b : Stc} (hp : ss.Pairwise (fun a b => a.2.1 < b.1)) (hi : ss[i]? = some a) (hj : ss[j]? = some b) (h : i < j) : a.2.1 < b.1 := by
  have hl : j < ss.length := by
    rcases Nat.lt_or_ge j ss.length with z | z
    · exact z
    · rw [List.getElem?_eq_none z] at hj; cases hj
  have hl2 : i < ss.length := by omega
  have := List.pairwise_iff_getElem.mp hp i j hl2 hl h
  rw [List.getElem?_eq_getElem hl] at hj
  rw [List.getElem?_eq_getElem hl2] at hi
  rw [Option.some.inj hi, Option.some.inj hj] at this
  exact this
def gapAt (ρ : Ev) : Nat := match ρ[2]?, ρ[3]? with | some (some (D.int a)), some (some (D.int b)) => (b - a).toNat | _, _ => 0
theorem W_label_at {ss : List Stc} {x : Int} {Q : D → List D → Prop} (hp : ss.Pairwise (fun a b => a.2.1 < b.1)) (ho : ∀ s ∈ ss, s.1 ≤ s.2.1) (hl : ss.length ≤ 1000) (q : Q (hitD x ss) []) : W2 (c_label_at [.lst (ss.map stD), .int x]) Q := by
  unfold c_label_at g_label_at
  simp! [↓W_opL, ↓W_slO, ↓W_dropX, ↓W_isiO, ↓W_noX, ↓NX_nx, ↓NX_bk, ↓NX_ct, ↓NX_rt, ↓NXd_int, ↓NXd_bl, ↓NXd_str, ↓NXd_non, ↓NXd_tup, ↓NXd_lst, ↓NXd_own, ↓NXd_otp, ↓W_raise1, ↓W_raise3, ↓W_setX, ↓W_setXF, ↓OnX_exc, ↓OnX_int, ↓OnX_bl, ↓OnX_str, ↓OnX_non, ↓OnX_tup, ↓OnX_lst, ↓OnX_own, ↓OnX_otp, ↓W_tryAs, ↓W_tryO, ↓WX_nx, ↓WX_bk, ↓WX_ct, ↓WX_rt, ↓OnXc_exc, ↓OnXc_int, ↓OnXc_bl, ↓OnXc_str, ↓OnXc_non, ↓OnXc_tup, ↓OnXc_lst, ↓OnXc_own, ↓OnXc_otp, ↓WN_nx, ↓Del_0, ↓Del_s, ↓Frz_exc, ↓W_isX, ↓W_fldX, ↓W_isNX, pu_exc, ↓W_st0, ↓W_st1, ↓W_st2, ↓W_gtpSt, ↓Frz_st, stD_pu]
  rw [List.length_map]
  refine W_whileI (fun ρ => ∃ (lo hi : Nat) (x4 : Option D), ρ = [some (.lst (ss.map stD)), some (.int x), some (.int (lo : Int)), some (.int (hi : Int)), x4] ∧ lo ≤ hi ∧ hi ≤ ss.length ∧ (∀ i s, i < lo → ss[i]? = some s → s.2.1 < x) ∧ (∀ i s, hi ≤ i → ss[i]? = some s → x < s.1))
    gapAt ⟨0, ss.length, _, rfl, Nat.zero_le _, Nat.le_refl _, (fun i s h => absurd h (Nat.not_lt_zero _)), (fun i s h e => by rw [List.getElem?_eq_none h] at e; cases e)⟩ (by show ((ss.length : Int) - 0).toNat < 100000; omega) (fun ρ hi => ?_)
  obtain ⟨lo, hi, x4, rfl, h1, h2, h3, h4⟩ := hi
  simp! [↓W_opL, ↓W_slO, ↓W_dropX, ↓W_isiO, ↓W_noX, ↓NX_nx, ↓NX_bk, ↓NX_ct, ↓NX_rt, ↓NXd_int, ↓NXd_bl, ↓NXd_str, ↓NXd_non, ↓NXd_tup, ↓NXd_lst, ↓NXd_own, ↓NXd_otp, ↓W_raise1, ↓W_raise3, ↓W_setX, ↓W_setXF, ↓OnX_exc, ↓OnX_int, ↓OnX_bl, ↓OnX_str, ↓OnX_non, ↓OnX_tup, ↓OnX_lst, ↓OnX_own, ↓OnX_otp, ↓W_tryAs, ↓W_tryO, ↓WX_nx, ↓WX_bk, ↓WX_ct, ↓WX_rt, ↓OnXc_exc, ↓OnXc_int, ↓OnXc_bl, ↓OnXc_str, ↓OnXc_non, ↓OnXc_tup, ↓OnXc_lst, ↓OnXc_own, ↓OnXc_otp, ↓WN_nx, ↓Del_0, ↓Del_s, ↓Frz_exc, ↓W_isX, ↓W_fldX, ↓W_isNX, pu_exc, ↓W_st0, ↓W_st1, ↓W_st2, ↓W_gtpSt, ↓Frz_st, stD_pu]
  refine ⟨fun hlt => ⟨divW (by decide) (by decide), ?_⟩, fun hge => ?_⟩
  · have em : ((lo : Int) + (hi : Int)) / 2 = (((lo + hi) / 2 : Nat) : Int) := by omega
    rw [em]
    generalize hm : (lo + hi) / 2 = m
    have m1 : lo ≤ m := by omega
    have m2 : m < hi := by omega
    have gm := getD_at (xs := ss) (k := m) (z := zSt) (by omega)
    generalize ss.getD m zSt = sm at gm
    have ie : (ss.map stD)[(m : Int).toNat]? = some (stD sm) := by rw [List.getElem?_map, Int.toNat_natCast, gm]; rfl
    have og := ho sm (List.mem_iff_getElem?.mpr ⟨m, gm⟩)
    refine W_atI (by omega) ie ?_
    simp! [↓W_opL, ↓W_slO, ↓W_dropX, ↓W_isiO, ↓W_noX, ↓NX_nx, ↓NX_bk, ↓NX_ct, ↓NX_rt, ↓NXd_int, ↓NXd_bl, ↓NXd_str, ↓NXd_non, ↓NXd_tup, ↓NXd_lst, ↓NXd_own, ↓NXd_otp, ↓W_raise1, ↓W_raise3, ↓W_setX, ↓W_setXF, ↓OnX_exc, ↓OnX_int, ↓OnX_bl, ↓OnX_str, ↓OnX_non, ↓OnX_tup, ↓OnX_lst, ↓OnX_own, ↓OnX_otp, ↓W_tryAs, ↓W_tryO, ↓WX_nx, ↓WX_bk, ↓WX_ct, ↓WX_rt, ↓OnXc_exc, ↓OnXc_int, ↓OnXc_bl, ↓OnXc_str, ↓OnXc_non, ↓OnXc_tup, ↓OnXc_lst, ↓OnXc_own, ↓OnXc_otp, ↓WN_nx, ↓Del_0, ↓Del_s, ↓Frz_exc, ↓W_isX, ↓W_fldX, ↓W_isNX, pu_exc, ↓W_st0, ↓W_st1, ↓W_st2, ↓W_gtpSt, ↓Frz_st, stD_pu]
    refine ⟨fun hx => ⟨⟨lo, m, _, rfl, m1, by omega, h3, fun i s hi2 hs => ?_⟩, ?_⟩, fun hx => ?_⟩
    · rcases Nat.lt_or_ge m i with z | z
      · have := get_lt hp gm hs z
        omega
      · have : i = m := by omega
        subst this
        rw [gm] at hs
        rw [← Option.some.inj hs]
        exact hx
    · show ((m : Int) - (lo : Int)).toNat < ((hi : Int) - (lo : Int)).toNat
      omega
    · refine W_atI (by omega) ie ?_
      simp! [↓W_opL, ↓W_slO, ↓W_dropX, ↓W_isiO, ↓W_noX, ↓NX_nx, ↓NX_bk, ↓NX_ct, ↓NX_rt, ↓NXd_int, ↓NXd_bl, ↓NXd_str, ↓NXd_non, ↓NXd_tup, ↓NXd_lst, ↓NXd_own, ↓NXd_otp, ↓W_raise1, ↓W_raise3, ↓W_setX, ↓W_setXF, ↓OnX_exc, ↓OnX_int, ↓OnX_bl, ↓OnX_str, ↓OnX_non, ↓OnX_tup, ↓OnX_lst, ↓OnX_own, ↓OnX_otp, ↓W_tryAs, ↓W_tryO, ↓WX_nx, ↓WX_bk, ↓WX_ct, ↓WX_rt, ↓OnXc_exc, ↓OnXc_int, ↓OnXc_bl, ↓OnXc_str, ↓OnXc_non, ↓OnXc_tup, ↓OnXc_lst, ↓OnXc_own, ↓OnXc_otp, ↓WN_nx, ↓Del_0, ↓Del_s, ↓Frz_exc, ↓W_isX, ↓W_fldX, ↓W_isNX, pu_exc, ↓W_st0, ↓W_st1, ↓W_st2, ↓W_gtpSt, ↓Frz_st, stD_pu]
      refine ⟨fun hy => ⟨⟨m + 1, hi, _, by rw [show (m : Int) + 1 = ((m + 1 : Nat) : Int) by omega], by omega, h2, fun i s hi2 hs => ?_, h4⟩, ?_⟩, fun hy => ?_⟩
      · rcases Nat.lt_or_ge i m with z | z
        · have := get_lt hp hs gm z
          omega
        · have : i = m := by omega
          subst this
          rw [gm] at hs
          rw [← Option.some.inj hs]
          exact hy
      · show ((hi : Int) - ((m : Int) + 1)).toNat < ((hi : Int) - (lo : Int)).toNat
        omega
      · refine W_atI (by omega) ie ?_
        simp! [↓W_opL, ↓W_slO, ↓W_dropX, ↓W_isiO, ↓W_noX, ↓NX_nx, ↓NX_bk, ↓NX_ct, ↓NX_rt, ↓NXd_int, ↓NXd_bl, ↓NXd_str, ↓NXd_non, ↓NXd_tup, ↓NXd_lst, ↓NXd_own, ↓NXd_otp, ↓W_raise1, ↓W_raise3, ↓W_setX, ↓W_setXF, ↓OnX_exc, ↓OnX_int, ↓OnX_bl, ↓OnX_str, ↓OnX_non, ↓OnX_tup, ↓OnX_lst, ↓OnX_own, ↓OnX_otp, ↓W_tryAs, ↓W_tryO, ↓WX_nx, ↓WX_bk, ↓WX_ct, ↓WX_rt, ↓OnXc_exc, ↓OnXc_int, ↓OnXc_bl, ↓OnXc_str, ↓OnXc_non, ↓OnXc_tup, ↓OnXc_lst, ↓OnXc_own, ↓OnXc_otp, ↓WN_nx, ↓Del_0, ↓Del_s, ↓Frz_exc, ↓W_isX, ↓W_fldX, ↓W_isNX, pu_exc, ↓W_st0, ↓W_st1, ↓W_st2, ↓W_gtpSt, ↓Frz_st, stD_pu]
        rw [hits_at hp gm (by omega) (by omega)] at q
        exact q
  · rw [hits_no fun i s hs => ?_] at q
    · exact q
    · rcases Nat.lt_or_ge i lo with z | z
      · exact .inl (h3 i s z hs)
      · exact .inr (h4 i s (by omega) hs)
end Pd

namespace Pd
open PySem PySem.Spec PyProof.Rows L2
/-! ### dicts: keys, what is at a key, what a store makes -/
def D.key : D → Option Key
  | .int i => some (.inl i) | .str s => some (.inr s) | _ => none
def keysD : List D → Option (List Key)
  | [] => some []
  | d :: ds => d.key.bind fun k => (keysD ds).bind fun ks => some (k :: ks)
inductive KD where
  | k (k : Key) | t (k : List Key)
section
variable {κ α : Type} [DecidableEq κ]
def kget : List κ → List α → κ → Option α
  | a :: ks, d :: ds, k => if a = k then some d else kget ks ds k
  | _, _, _ => none
def kputK (ks : List κ) (k : κ) : List κ := if k ∈ ks then ks else ks ++ [k]
def krep (k : κ) (y : α) : List κ → List α → List α
  | a :: ks, d :: ds => (if a = k then y else d) :: krep k y ks ds
  | _, ds => ds
def kputV (ks : List κ) (ds : List α) (k : κ) (y : α) : List α := if k ∈ ks then krep k y ks ds else ds ++ [y]
theorem krep_len {k : κ} {y : α} : ∀ {ks : List κ} {ds : List α}, (krep k y ks ds).length = ds.length
  | [], ds => by rw [krep]; simp
  | _ :: _, [] => rfl
  | a :: ks, d :: ds => by rw [krep, List.length_cons, List.length_cons, krep_len]
theorem kput_len {ks : List κ} {ds : List α} {k : κ} {y : α} (h : ks.length = ds.length) : (kputK ks k).length = (kputV ks ds k y).length := by
  unfold kputK kputV
  by_cases e : k ∈ ks
  · rw [if_pos e, if_pos e, krep_len]; exact h
  · rw [if_neg e, if_neg e, List.length_append, List.length_append, h]; rfl
theorem kget_none {k : κ} : ∀ {ks : List κ} {ds : List α}, ¬ k ∈ ks → kget ks ds k = none
  | [], _, _ => by simp [kget]
  | a :: ks, [], _ => by simp [kget]
  | a :: ks, d :: ds, h => by
    rw [kget, if_neg fun e => h (by rw [e]; exact List.mem_cons_self)]
    exact kget_none fun z => h (List.mem_cons_of_mem _ z)
theorem kget_some {k : κ} : ∀ {ks : List κ} {ds : List α}, ks.length = ds.length → k ∈ ks → ∃ d, kget ks ds k = some d
  | a :: ks, d :: ds, l, h => by
    rw [kget]
    by_cases e : a = k
    · exact ⟨d, if_pos e⟩
    · rw [if_neg e]
      exact kget_some (by simpa using l) ((List.mem_cons.mp h).resolve_left (Ne.symm e))
theorem kget_rep {k j : κ} {y : α} : ∀ {ks : List κ} {ds : List α}, kget ks (krep k y ks ds) j = (kget ks ds j).map fun d => if j = k then y else d
  | [], _ => by simp [kget]
  | a :: ks, [] => by simp [kget, krep]
  | a :: ks, d :: ds => by
    rw [krep, kget, kget]
    by_cases e : a = j
    · rw [if_pos e, if_pos e]
      subst e
      rfl
    · rw [if_neg e, if_neg e, kget_rep]
theorem kget_app {j k : κ} {y : α} : ∀ {ks : List κ} {ds : List α}, ks.length = ds.length → kget (ks ++ [k]) (ds ++ [y]) j = (kget ks ds j).or (if k = j then some y else none)
  | [], [], _ => by simp [kget]
  | a :: ks, d :: ds, l => by
    rw [List.cons_append, List.cons_append, kget, kget]
    by_cases e : a = j
    · rw [if_pos e, if_pos e]; rfl
    · rw [if_neg e, if_neg e]
      exact kget_app (by simpa using l)
/-- what is there behind a store -/
theorem kget_put {ks : List κ} {ds : List α} {k j : κ} {y : α} (l : ks.length = ds.length) : kget (kputK ks k) (kputV ks ds k y) j = if j = k then some y else kget ks ds j := by
  unfold kputK kputV
  by_cases e : k ∈ ks
  · rw [if_pos e, if_pos e, kget_rep]
    by_cases e2 : j = k
    · subst e2
      rw [if_pos rfl]
      obtain ⟨d, hd⟩ := kget_some l e
      rw [hd]
      simp
    · rw [if_neg e2]
      simp [e2]
  · rw [if_neg e, if_neg e, kget_app l]
    by_cases e2 : j = k
    · subst e2
      rw [kget_none e]; simp
    · rw [if_neg e2, if_neg (Ne.symm e2)]
      simp
theorem kput_mem {ks : List κ} {k j : κ} : j ∈ kputK ks k ↔ j = k ∨ j ∈ ks := by
  unfold kputK
  by_cases e : k ∈ ks
  · rw [if_pos e]
    exact ⟨.inr, fun h => h.elim (fun z => z ▸ e) id⟩
  · rw [if_neg e, List.mem_append, List.mem_singleton]
    exact Or.comm
theorem kget_isSome {ks : List κ} {ds : List α} {k : κ} (l : ks.length = ds.length) : (kget ks ds k).isSome = decide (k ∈ ks) := by
  by_cases e : k ∈ ks
  · obtain ⟨d, hd⟩ := kget_some l e
    rw [hd, decide_eq_true e]; rfl
  · rw [kget_none e, decide_eq_false e]; rfl
end
section
variable {κ : Type} [DecidableEq κ] {K : PySem.W.Frag} {G : Hp}
theorem zip_any {k : κ} : ∀ {ks : List κ} {vs : List V}, ks.length = vs.length → ((ks.zip vs).any fun kv => decide (kv.1 = k)) = decide (k ∈ ks)
  | [], [], _ => by simp
  | a :: ks, v :: vs, l => by
    rw [List.zip_cons_cons, List.any_cons, zip_any (by simpa using l)]
    by_cases e : a = k
    · subst e; simp
    · simp [e, Ne.symm e]
theorem zip_rep {k : κ} {y : V} : ∀ {ks : List κ} {vs : List V}, (ks.zip vs).map (fun kv => if kv.1 = k then (kv.1, y) else kv) = ks.zip (krep k y ks vs)
  | [], _ => by simp
  | a :: ks, [] => by simp [krep]
  | a :: ks, v :: vs => by
    rw [List.zip_cons_cons, List.map_cons, zip_rep, krep, List.zip_cons_cons]
    by_cases e : a = k
    · simp [e]
    · simp [e]
theorem zip_app {α β : Type} : ∀ {as : List α} {bs : List β} {a : α} {b : β}, as.length = bs.length → (as ++ [a]).zip (bs ++ [b]) = as.zip bs ++ [(a, b)]
  | [], [], _, _, _ => rfl
  | x :: as, y :: bs, _, _, l => by
    rw [List.cons_append, List.cons_append, List.zip_cons_cons, List.zip_cons_cons, zip_app (by simpa using l)]
    rfl
theorem put_zip {ks : List κ} {vs : List V} {k : κ} {y : V} (l : ks.length = vs.length) : putK (ks.zip vs) k y = (kputK ks k).zip (kputV ks vs k y) := by
  unfold putK kputK kputV
  rw [zip_any l]
  by_cases e : k ∈ ks
  · rw [if_pos e, if_pos e, decide_eq_true e, if_pos rfl, zip_rep]
  · rw [if_neg e, if_neg e, decide_eq_false e, if_neg Bool.false_ne_true, zip_app l]
theorem val_zip {k : κ} : ∀ {ks : List κ} {vs : List V} {ds : List D}, RepL K G vs ds → (kget ks ds k = none ∧ valV (ks.zip vs) k = none) ∨ ∃ d v, kget ks ds k = some d ∧ valV (ks.zip vs) k = some v ∧ Rep K G v d
  | [], _, _, _ => by simp [kget, valV]
  | a :: ks, _, _, .nil => by simp [kget, valV]
  | a :: ks, _, _, .cons (v := v) (d := d) (vs := vs) h r => by
    rw [List.zip_cons_cons, kget]
    by_cases e : a = k
    · rw [if_pos e, valV_pos (p := (a, v)) e]
      exact .inr ⟨d, v, rfl, rfl, h⟩
    · rw [if_neg e, valV_neg (p := (a, v)) e]
      exact val_zip r
theorem RepL.krep {k : κ} {y : V} {d : D} (h : Rep K G y d) : ∀ {ks : List κ} {vs : List V} {ds : List D}, RepL K G vs ds → RepL K G (Pd.krep k y ks vs) (Pd.krep k d ks ds)
  | [], _, _, r => by
    rw [Pd.krep, Pd.krep]
    · exact r
    · intro a ks d ds z; cases z
    · intro a ks d ds z; cases z
  | a :: ks, _, _, .nil => .nil
  | a :: ks, _, _, .cons q r => by
    rw [Pd.krep, Pd.krep]
    by_cases e : a = k
    · rw [if_pos e, if_pos e]; exact .cons h (RepL.krep h r)
    · rw [if_neg e, if_neg e]; exact .cons q (RepL.krep h r)
theorem RepL.kput {ks : List κ} {k : κ} {y : V} {d : D} {vs : List V} {ds : List D} (h : Rep K G y d) (r : RepL K G vs ds) : RepL K G (kputV ks vs k y) (kputV ks ds k d) := by
  unfold kputV
  by_cases e : k ∈ ks
  · rw [if_pos e, if_pos e]; exact r.krep h
  · rw [if_neg e, if_neg e]; exact r.append (.cons h .nil)
end
/-- what is at a key; none where keys of that kind can't be asked -/
def dcGet : DC → List D → KD → Option (Option D)
  | .k ks, ds, .k k => some (kget ks ds k)
  | .t ks, ds, .t k => some (kget ks ds k)
  | _, _, _ => none
def dcPut : DC → List D → KD → D → Option (DC × List D)
  | .k ks, ds, .k k, d => some (.k (kputK ks k), kputV ks ds k d)
  | .t ks, ds, .t k, d => some (.t (kputK ks k), kputV ks ds k d)
  | _, _, _, _ => none
def KeyV (H : Hp) (v : V) : KD → Prop
  | .k k => v = kV k
  | .t k => ∃ b, v = .ref b ∧ H b = some (.tup (k.map kV))
section
variable {K : PySem.W.Frag} {G H : Hp} {p : Addr} {c : DC} {vs : List V} {ds : List D}
theorem dget_of (hH : H p = some (c.ho vs)) (r : RepL K G vs ds) {kd : KD} {y : V} (ky : KeyV H y kd) {od : Option D} (e : dcGet c ds kd = some od) :
    ∃ ov, DGet H p y ov ∧ ((od = none ∧ ov = none) ∨ ∃ d v, od = some d ∧ ov = some v ∧ Rep K G v d) := by
  cases c with
  | k ks =>
    cases kd with
    | k k =>
      cases e
      have ky' : y = kV k := ky
      subst ky'
      exact ⟨_, DGet.k (k := k) hH, by rcases val_zip (ks := ks) (k := k) r with ⟨a, b⟩ | ⟨d, v, a, b, c⟩; exact .inl ⟨a, b⟩; exact .inr ⟨d, v, a, b, c⟩⟩
    | t k => cases e
  | t ks =>
    cases kd with
    | k k => cases e
    | t k =>
      cases e
      obtain ⟨b, rfl, hb⟩ := ky
      exact ⟨_, DGet.t (k := k) hH hb, by rcases val_zip (ks := ks) (k := k) r with ⟨a, b⟩ | ⟨d, v, a, b, c⟩; exact .inl ⟨a, b⟩; exact .inr ⟨d, v, a, b, c⟩⟩
theorem dput_of (hH : H p = some (c.ho vs)) (l : c.len = ds.length) (hz : ds.length < 1000000) (r : RepL K G vs ds) {kd : KD} {y v : V} (ky : KeyV H y kd) {d : D} (rv : Rep K G v d) {c' : DC} {ds' : List D} (e : dcPut c ds kd d = some (c', ds')) :
    ∃ vs', DPut H p y v (upd H p (c'.ho vs')) ∧ RepL K G vs' ds' ∧ c'.len = ds'.length := by
  have big : sizeLine = 16777216 := sizeLine_eq
  cases c with
  | k ks =>
    cases kd with
    | k k =>
      cases e
      have ky' : y = kV k := ky
      subst ky'
      have l' : ks.length = ds.length := l
      have l2 : ks.length = vs.length := by rw [l', r.length]
      have z := DPut.k (k := k) (v := v) hH (by rw [List.length_zip, r.length]; omega)
      rw [put_zip l2] at z
      exact ⟨_, z, r.kput rv, kput_len l'⟩
    | t k => cases e
  | t ks =>
    cases kd with
    | k k => cases e
    | t k =>
      cases e
      obtain ⟨b, rfl, hb⟩ := ky
      have l' : ks.length = ds.length := l
      have l2 : ks.length = vs.length := by rw [l', r.length]
      have z := DPut.t (k := k) (v := v) hH hb (by rw [List.length_zip, r.length]; omega)
      rw [put_zip l2] at z
      exact ⟨_, z, r.kput rv, kput_len l'⟩
theorem key_rep {v : V} {d : D} {k : Key} (h : Rep K G v d) (e : d.key = some k) : v = kV k := by
  cases h <;> cases e <;> rfl
theorem keys_rep : ∀ {vs : List V} {ds : List D} {ks : List Key}, RepL K G vs ds → keysD ds = some ks → vs = ks.map kV
  | _, _, _, .nil, e => by cases e; rfl
  | _, _, _, .cons h r, e => by
    rw [keysD] at e
    obtain ⟨k, e1, e⟩ := Option.bind_eq_some_iff.mp e
    obtain ⟨ks, e2, e⟩ := Option.bind_eq_some_iff.mp e
    cases e
    rw [key_rep h e1, keys_rep r e2]
    rfl
end
/-! ### a key's expression -/
abbrev DKy := Ev → Option (KD × Ev)
def EndK (K : PySem.W.Frag) (σ : L2.St) (G H : Hp) (L : Fp) (kd : KD) (ρ : Ev) (Q : VK) : Prop :=
  ∀ v G' H' L', Sta G' H' L' → Stp G H L G' H' L' → Sl K G' σ ρ L' → KeyV H' v kd → Q v H'
def tK (K : PySem.W.Frag) (f : DKy) : TE := fun σ H Q => ∃ G ρ L kd ρ', Sta G H L ∧ Sl K G σ ρ L ∧ f ρ = some (kd, ρ') ∧ EndK K σ G H L kd ρ' Q
def SK (X : Cx) (e : Expr) (f : DKy) : Prop := PE X e (tK X.K f)
def kVal (f : DE) : DKy := fun ρ => (f ρ).bind fun p => p.1.key.bind fun k => some (.k k, p.2)
def kTup (f : DA) : DKy := fun ρ => (f ρ).bind fun p => (keysD p.1).bind fun k => if p.1.length ≤ 1000 then some (.t k, p.2) else none
section
variable {X : Cx} {e : Expr} {es : List Expr} {f h : DE} {g : DA} {gk : DKy} {pos : Pos}
theorem sk_val (he : SE X e f) : SK X e (kVal f) := pe_weak he fun σ H Q ⟨G, ρ, L, d, ρ', h1, h2, h3, q⟩ => by
  unfold kVal at h3
  obtain ⟨⟨d1, ρ1⟩, e1, h3⟩ := Option.bind_eq_some_iff.mp h3
  obtain ⟨k, e2, h3⟩ := Option.bind_eq_some_iff.mp h3
  cases h3
  exact ⟨G, ρ, L, d1, _, h1, h2, e1, fun v G1 H1 L1 a1 b1 c1 r1 => q v G1 H1 L1 a1 b1 c1 (key_rep r1 e2)⟩
theorem sk_tup {k : Nat} (ha : SA X es g) : SK X (.Tuple es k pos) (kTup g) := pe_weak (pe_tup ha) fun σ H Q ⟨G, ρ, L, d, ρ', h1, h2, h3, q⟩ => by
  unfold kTup at h3
  obtain ⟨⟨ds, ρ1⟩, e1, h3⟩ := Option.bind_eq_some_iff.mp h3
  obtain ⟨k, e2, h3⟩ := Option.bind_eq_some_iff.mp h3
  dsimp only at h3 e2
  split at h3
  · rename_i hz
    cases h3
    refine ⟨G, ρ, L, ds, _, h1, h2, e1, fun vs G1 H1 L1 a1 b1 c1 r1 => ⟨small (by rw [r1.length]; exact hz), fun p hp => ?_⟩⟩
    obtain ⟨z1, z2, z3⟩ := a1.new (.tup vs) hp
    refine q _ _ _ L1 z1 (b1.trans z2) (c1.mono z3) ⟨p, rfl, ?_⟩
    rw [← keys_rep r1 e2]
    exact upd_same
  · cases h3
end
/-! ### new dicts -/
def dNewK : DE := fun ρ => some (.odx (.k []) [], ρ)
def dNewT : DE := fun ρ => some (.odx (.t []) [], ρ)
/-- the dict in a slot -/
def dictAt (ρ : Ev) (i : Nat) : Option (DC × List D) := match ρ[i]? with | some (some (.odx c ds)) => some (c, ds) | some (some (.dix c ds)) => some (c, ds) | _ => none
def dDGet (i : Nat) (g : DKy) : DE := fun ρ => (dictAt ρ i).bind fun _ => (g ρ).bind fun p => (dictAt p.2 i).bind fun z => (dcGet z.1 z.2 p.1).bind fun o => o.bind fun d => some (d, p.2)
def dDGetE (f : DE) (g : DKy) : DE := fun ρ => (f ρ).bind fun a => (g a.2).bind fun p => match a.1 with | .dix c ds => (dcGet c ds p.1).bind fun o => o.bind fun d => some (d, p.2) | _ => none
def dDIn (n : Bool) (i : Nat) (g : DKy) : DE := fun ρ => (g ρ).bind fun p => (dictAt p.2 i).bind fun z => (dcGet z.1 z.2 p.1).bind fun o => some (.bl (o.isSome != n), p.2)
def dDGet2 (i : Nat) (g h : DE) : DE := fun ρ => (dictAt ρ i).bind fun _ => (g ρ).bind fun p => (h p.2).bind fun q => p.1.key.bind fun k => (dictAt q.2 i).bind fun z => (dcGet z.1 z.2 (.k k)).bind fun o => some (o.getD q.1, q.2)
def dDPut (i : Nat) (f : DE) (g : DKy) : DS := fun ρ => (f ρ).bind fun p => (dictAt p.2 i).bind fun _ => (g p.2).bind fun q => match q.2[i]? with
  | some (some (.odx c ds)) => if ds.length < 1000000 then (dcPut c ds q.1 p.1).bind fun z => some (.nx (q.2.set i (some (.odx z.1 z.2)))) else none
  | _ => none
section
variable {X : Cx} {io : List Nat} {e k o : Expr} {es : List Expr} {f h : DE} {g : DA} {gk : DKy} {pos px p2 : Pos} {x : Str}
theorem sn_newK : SN X (.Dict [] [] pos) dNewK := pe_weak pe_dnewK fun σ H Q ⟨G, ρ, L, d, ρ', h1, h2, h3, q⟩ => by
  cases h3
  intro p hp
  obtain ⟨z1, z2⟩ := h1.newOwn (.dK []) hp
  exact q _ G _ [(p, .dK [])] L z1 z2 h2 (Own.odx (c := .k []) (vs := []) rfl .nil)
theorem sn_newT : SN X (.Dict [] [] pos) dNewT := pe_weak pe_dnewT fun σ H Q ⟨G, ρ, L, d, ρ', h1, h2, h3, q⟩ => by
  cases h3
  intro p hp
  obtain ⟨z1, z2⟩ := h1.newOwn (.dT []) hp
  exact q _ G _ [(p, .dT [])] L z1 z2 h2 (Own.odx (c := .t []) (vs := []) rfl .nil)
/-- the dict in a slot, in the heap -/
theorem dict_at {K : PySem.W.Frag} {G H : Hp} {σ : L2.St} {ρ : Ev} {L : Fp} {i : Nat} {z : DC × List D} (s : Sta G H L) (c : Sl K G σ ρ L) (e : dictAt ρ i = some z) :
    ∃ p vs, σ[i]? = some (some (.ref p)) ∧ H p = some (z.1.ho vs) ∧ z.1.len = z.2.length ∧ RepL K G vs z.2 := by
  unfold dictAt at e
  split at e
  · rename_i c0 ds0 hx
    cases e
    obtain ⟨v, M, R, s1, s2, s3, _⟩ := c.at hx
    cases s2 with
    | odx l r => exact ⟨_, _, s1, s.hold _ _ (s3.mem_iff.mpr (List.mem_append.mpr (.inl List.mem_cons_self))), l, r⟩
    | pure r => cases r
  · rename_i c0 ds0 hx
    cases e
    obtain ⟨v, M, R, s1, s2, s3, _⟩ := c.at hx
    cases s2 with
    | pure r => cases r with
      | dix a l r => exact ⟨_, _, s1, s.ex _ _ a, l, r⟩
  · cases e
theorem isd_of {H : Hp} {p : Addr} {c : DC} {vs : List V} (h : H p = some (c.ho vs)) : IsD H p := by
  cases c with
  | k ks => exact .inl ⟨_, .inl h⟩
  | t ks => exact .inr ⟨_, .inl h⟩
theorem se_dg (i : Nat) (hu : X.A.units + 64 < cLine) (hk : SK X k gk) (hN : X.N[i]? = some x := by rfl) (hv : Vis X.env.scope x := by first | exact Or.inl rfl | exact Or.inr (Or.inl rfl) | exact Or.inr (Or.inr rfl)) (hd : (x == ("__debug__" : Str)) = false := by decide)
    (hcd : (x == ("__classdict__" : Str)) = false := by decide) (hs : NoSl k := by exact fun _ _ => rfl) : SE X (.Subscript (.Name x px) k pos) (dDGet i gk) :=
  pe_weak (pe_dget (by omega) (pe_var hN hv hd hcd) hk hs) fun σ H Q ⟨G, ρ, L, d, ρ', h1, h2, h3, q⟩ => by
    unfold dDGet at h3
    obtain ⟨z0, e0, h3⟩ := Option.bind_eq_some_iff.mp h3
    obtain ⟨⟨kd, ρ1⟩, e1, h3⟩ := Option.bind_eq_some_iff.mp h3
    obtain ⟨z, e2, h3⟩ := Option.bind_eq_some_iff.mp h3
    obtain ⟨o, e3, h3⟩ := Option.bind_eq_some_iff.mp h3
    obtain ⟨d1, e4, h3⟩ := Option.bind_eq_some_iff.mp h3
    cases h3
    dsimp only at e2 e3
    obtain ⟨p0, vs0, t0, _⟩ := dict_at h1 h2 e0
    refine ⟨_, t0, G, ρ, L, kd, _, h1, h2, e1, fun v G1 H1 L1 a1 b1 c1 r1 => ?_⟩
    obtain ⟨p, vs, t1, t2, t3, t4⟩ := dict_at a1 c1 e2
    rw [t0] at t1
    cases t1
    obtain ⟨ov, g1, g2⟩ := dget_of t2 t4 r1 e3
    rcases g2 with ⟨rfl, _⟩ | ⟨d2, v2, rfl, rfl, r2⟩
    · cases e4
    · cases e4
      exact ⟨_, _, rfl, g1, q v2 G1 H1 L1 a1 b1 c1 r2⟩
theorem se_dgE (hu : X.A.units + 64 < cLine) (ho : SE X o f) (hk : SK X k gk) (hs : NoSl k := by exact fun _ _ => rfl) : SE X (.Subscript o k pos) (dDGetE f gk) :=
  pe_weak (pe_dget (by omega) ho hk hs) fun σ H Q ⟨G, ρ, L, d, ρ', h1, h2, h3, q⟩ => by
    unfold dDGetE at h3
    obtain ⟨⟨d0, ρ0⟩, e0, h3⟩ := Option.bind_eq_some_iff.mp h3
    obtain ⟨⟨kd, ρ1⟩, e1, h3⟩ := Option.bind_eq_some_iff.mp h3
    dsimp only at h3 e1
    split at h3
    · obtain ⟨o, e3, h3⟩ := Option.bind_eq_some_iff.mp h3
      obtain ⟨d1, e4, h3⟩ := Option.bind_eq_some_iff.mp h3
      cases h3
      refine ⟨G, ρ, L, _, ρ0, h1, h2, e0, fun x0 G0 H0 L0 a0 b0 c0 r0 => ⟨G0, ρ0, L0, kd, _, a0, c0, e1, fun v G1 H1 L1 a1 b1 c1 r1 => ?_⟩⟩
      cases r0 with
      | dix ha l r =>
        obtain ⟨ov, g1, g2⟩ := dget_of (a1.ex _ _ (b1.ex _ _ ha)) (r.mono b1.ex) r1 e3
        rcases g2 with ⟨rfl, _⟩ | ⟨d2, v2, rfl, rfl, r2⟩
        · cases e4
        · cases e4
          exact ⟨_, _, rfl, g1, q v2 G1 H1 L1 a1 (b0.trans b1) c1 r2⟩
    · cases h3
theorem tE_din (i : Nat) (hN : X.N[i]? = some x) {n : Bool} {σ : L2.St} {H : Hp} {Q : VK} (hq : tE X.K (dDIn n i gk) σ H Q) :
    tK X.K gk σ H fun y H1 => ∃ v0, σ[i]? = some (some v0) ∧ ∃ a o, v0 = .ref a ∧ DGet H1 a y o ∧ Q (.bl (o.isSome != n)) H1 := by
  obtain ⟨G, ρ, L, d, ρ', h1, h2, h3, q⟩ := hq
  unfold dDIn at h3
  obtain ⟨⟨kd, ρ1⟩, e1, h3⟩ := Option.bind_eq_some_iff.mp h3
  obtain ⟨z, e2, h3⟩ := Option.bind_eq_some_iff.mp h3
  obtain ⟨o, e3, h3⟩ := Option.bind_eq_some_iff.mp h3
  cases h3
  dsimp only at e2 e3
  refine ⟨G, ρ, L, kd, _, h1, h2, e1, fun v G1 H1 L1 a1 b1 c1 r1 => ?_⟩
  obtain ⟨p, vs, t1, t2, t3, t4⟩ := dict_at a1 c1 e2
  obtain ⟨ov, g1, g2⟩ := dget_of t2 t4 r1 e3
  have e5 : ov.isSome = o.isSome := by rcases g2 with ⟨rfl, rfl⟩ | ⟨d2, v2, rfl, rfl, r2⟩ <;> rfl
  refine ⟨_, t1, p, ov, rfl, g1, ?_⟩
  rw [e5]
  exact q _ G1 H1 L1 a1 b1 c1 (.bl _)
theorem se_din (i : Nat) (hu : X.A.units + 64 < cLine) (hk : SK X k gk) (hN : X.N[i]? = some x := by rfl) (hv : Vis X.env.scope x := by first | exact Or.inl rfl | exact Or.inr (Or.inl rfl) | exact Or.inr (Or.inr rfl)) (hd : (x == ("__debug__" : Str)) = false := by decide)
    (hcd : (x == ("__classdict__" : Str)) = false := by decide) (hb : behindInMarks .In (.Name x px) = false := by rfl) : SE X (.Compare k [.In] [.Name x px] pos) (dDIn false i gk) :=
  pe_weak (pe_cmp (pc_din (by omega) hk (pe_var hN hv hd hcd)) hb) fun σ H Q hq => by
    have z := tE_din i hN hq
    simp only [Bool.bne_false] at z
    exact z
theorem se_dnin (i : Nat) (hu : X.A.units + 64 < cLine) (hk : SK X k gk) (hN : X.N[i]? = some x := by rfl) (hv : Vis X.env.scope x := by first | exact Or.inl rfl | exact Or.inr (Or.inl rfl) | exact Or.inr (Or.inr rfl)) (hd : (x == ("__debug__" : Str)) = false := by decide)
    (hcd : (x == ("__classdict__" : Str)) = false := by decide) (hb : behindInMarks .NotIn (.Name x px) = false := by rfl) : SE X (.Compare k [.NotIn] [.Name x px] pos) (dDIn true i gk) :=
  pe_weak (pe_cmp (pc_dnotin (by omega) hk (pe_var hN hv hd hcd)) hb) fun σ H Q hq => by
    have z := tE_din i hN hq
    simp only [Bool.bne_true] at z
    exact z
theorem st_din (i : Nat) (hu : X.A.units + 64 < cLine) (hk : SK X k gk) (hN : X.N[i]? = some x := by rfl) (hv : Vis X.env.scope x := by first | exact Or.inl rfl | exact Or.inr (Or.inl rfl) | exact Or.inr (Or.inr rfl)) (hd : (x == ("__debug__" : Str)) = false := by decide)
    (hcd : (x == ("__classdict__" : Str)) = false := by decide) (hb : behindInMarks .In (.Name x px) = false := by rfl) : ST X (.Compare k [.In] [.Name x px] pos) (dDIn false i gk) :=
  pt_weak (pt_cmp (pc_din (by omega) hk (pe_var hN hv hd hcd)) hb) fun σ H Q hq => by
    refine tT_of (t := tDIn (tK X.K gk) fun σ H Q => ∃ v, σ[i]? = some (some v) ∧ Q v H) (fun σ H Q hq => ?_) hq
    have z := tE_din i hN hq
    simp only [Bool.bne_false] at z
    exact z
theorem st_dnin (i : Nat) (hu : X.A.units + 64 < cLine) (hk : SK X k gk) (hN : X.N[i]? = some x := by rfl) (hv : Vis X.env.scope x := by first | exact Or.inl rfl | exact Or.inr (Or.inl rfl) | exact Or.inr (Or.inr rfl)) (hd : (x == ("__debug__" : Str)) = false := by decide)
    (hcd : (x == ("__classdict__" : Str)) = false := by decide) (hb : behindInMarks .NotIn (.Name x px) = false := by rfl) : ST X (.Compare k [.NotIn] [.Name x px] pos) (dDIn true i gk) :=
  pt_weak (pt_cmp (pc_dnotin (by omega) hk (pe_var hN hv hd hcd)) hb) fun σ H Q hq => by
    refine tT_of (t := tDNotIn (tK X.K gk) fun σ H Q => ∃ v, σ[i]? = some (some v) ∧ Q v H) (fun σ H Q hq => ?_) hq
    have z := tE_din i hN hq
    simp only [Bool.bne_true] at z
    exact z
theorem se_dg2 (i : Nat) {e2 : Expr} {apos : Pos} (hu : X.A.units + 64 < cLine) (hk : SE X k f) (he : SE X e2 h) (m : M2 X (.Name x px) "get" apos k e2 pos) (hN : X.N[i]? = some x := by rfl) (hv : Vis X.env.scope x := by first | exact Or.inl rfl | exact Or.inr (Or.inl rfl) | exact Or.inr (Or.inr rfl))
    (hd : (x == ("__debug__" : Str)) = false := by decide) (hcd : (x == ("__classdict__" : Str)) = false := by decide) : SE X (.Call (.Attribute (.Name x px) "get" apos) [k, e2] [] pos) (dDGet2 i f h) :=
  pe_weak (pe_dget2 (by omega) (pe_var hN hv hd hcd) hk he m) fun σ H Q ⟨G, ρ, L, d, ρ', h1, h2, h3, q⟩ => by
    unfold dDGet2 at h3
    obtain ⟨z0, e0, h3⟩ := Option.bind_eq_some_iff.mp h3
    obtain ⟨⟨d1, ρ1⟩, e1, h3⟩ := Option.bind_eq_some_iff.mp h3
    obtain ⟨⟨d2, ρ2⟩, e2, h3⟩ := Option.bind_eq_some_iff.mp h3
    obtain ⟨k, e5, h3⟩ := Option.bind_eq_some_iff.mp h3
    obtain ⟨z, e3, h3⟩ := Option.bind_eq_some_iff.mp h3
    obtain ⟨o, e4, h3⟩ := Option.bind_eq_some_iff.mp h3
    cases h3
    dsimp only at e2 e3 e4 e5
    obtain ⟨p0, vs0, t0, t0', _⟩ := dict_at h1 h2 e0
    refine ⟨_, t0, p0, rfl, isd_of t0', G, ρ, L, d1, ρ1, h1, h2, e1, fun y G1 H1 L1 a1 b1 c1 r1 => ⟨G1, ρ1, L1, d2, _, a1, c1, e2, fun w G2 H2 L2 a2 b2 c2 r2 => ?_⟩⟩
    obtain ⟨p, vs, t1, t2, t3, t4⟩ := dict_at a2 c2 e3
    rw [t0] at t1
    cases t1
    have ky : KeyV H2 y (.k k) := key_rep r1 e5
    obtain ⟨ov, g1, g2⟩ := dget_of t2 t4 ky e4
    refine ⟨ov, g1, ?_⟩
    rcases g2 with ⟨rfl, rfl⟩ | ⟨d3, v3, rfl, rfl, r3⟩
    · exact q w G2 H2 L2 a2 (b1.trans b2) c2 r2
    · exact q v3 G2 H2 L2 a2 (b1.trans b2) c2 r3
/-- the own dict at slot i, its state at the front -/
theorem Sl.frontD {K : PySem.W.Frag} {G H : Hp} {σ : L2.St} {ρ : Ev} {L : Fp} {i : Nat} {c : DC} {ds : List D} (h : Sl K G σ ρ L) (s : Sta G H L) (e : ρ[i]? = some (some (.odx c ds))) :
    ∃ p vs R, σ[i]? = some (some (.ref p)) ∧ c.len = ds.length ∧ RepL K G vs ds ∧ Sta G H ((p, c.ho vs) :: R) ∧ L.Perm ((p, c.ho vs) :: R) ∧
      ∀ (G' : Hp) (c' : DC) (us : List V) (es : List D), Ex G G' → c'.len = es.length → RepL K G' us es → ∃ L', Sl K G' σ (ρ.set i (some (.odx c' es))) L' ∧ L'.Perm ((p, c'.ho us) :: R) := by
  obtain ⟨v, M, R, s1, s2, s3, s4, s5⟩ := h.at e
  cases s2 with
  | odx l r =>
    refine ⟨_, _, R, s1, l, r, s.perm s3, s3, fun G' c' us es ex l' r' => ?_⟩
    obtain ⟨L', q1, q2⟩ := s5 G' _ (.odx c' es) _ ex (.odx l' r')
    rw [set_self s1] at q1
    exact ⟨L', q1, q2⟩
  | pure r => cases r
theorem ss_dput (i : Nat) (hu : X.A.units + 64 < cLine) (he : SE X e f) (hk : SK X k gk) (hN : X.N[i]? = some x := by rfl) (hv : Vis X.env.scope x := by first | exact Or.inl rfl | exact Or.inr (Or.inl rfl) | exact Or.inr (Or.inr rfl)) (hd : (x == ("__debug__" : Str)) = false := by decide)
    (hcd : (x == ("__classdict__" : Str)) = false := by decide) (hs : swapsWith e (some (.Subscript (.Name x px) k p2)) pos.line X.env = pure false := by rfl) : SS X io (.Assign [.Subscript (.Name x px) k p2] e pos) (dDPut i f gk) :=
  ps_weak (ps_dput (by omega) (pe_var hN hv hd hcd) hk he hs) fun De σ H ⟨G, ρ, L, fl, h1, h2, h3, q⟩ => by
    unfold dDPut at h3
    obtain ⟨⟨d1, ρ1⟩, e1, h3⟩ := Option.bind_eq_some_iff.mp h3
    obtain ⟨z0, e0, h3⟩ := Option.bind_eq_some_iff.mp h3
    obtain ⟨⟨kd, ρ2⟩, e2, h3⟩ := Option.bind_eq_some_iff.mp h3
    dsimp only at h3 e2 e0
    split at h3
    · rename_i c ds hx
      split at h3
      · rename_i hz
        obtain ⟨⟨c', ds'⟩, e3, h3⟩ := Option.bind_eq_some_iff.mp h3
        cases h3
        refine ⟨G, ρ, L, d1, ρ1, h1, h2, e1, fun v G1 H1 L1 a1 b1 c1 r1 => ?_⟩
        obtain ⟨p0, vs0, t0, _⟩ := dict_at a1 c1 e0
        refine ⟨_, t0, G1, ρ1, L1, kd, _, a1, c1, e2, fun y G2 H2 L2 a2 b2 c2 r2 => ?_⟩
        obtain ⟨p, vs, R, t1, t2, t3, t4, t5, t6⟩ := c2.frontD a2 hx
        rw [t0] at t1
        cases t1
        obtain ⟨vs', g1, g2, g3⟩ := dput_of (t4.hold _ _ List.mem_cons_self) t2 hz t3 r2 (r1.mono b2.ex) e3
        refine ⟨p0, _, rfl, g1, ?_⟩
        obtain ⟨z1, z2⟩ := t4.change (c'.ho vs')
        obtain ⟨L9, y1, y2⟩ := t6 G2 c' vs' ds' (Ex.refl _) g3 g2
        exact q σ G2 _ L9 (z1.perm y2.symm) ((b1.trans b2).trans ((z2.permL t5.symm).permR y2.symm)) y1 .refl
      · cases h3
    · cases h3
end
end Pd

namespace Pd
open PySem PySem.Spec PyProof.Rows L2
/-! ### dict(pairs), d.update(pairs) -/
def pairD : D → Option (Key × D)
  | .tup [k, v] => k.key.map fun k => (k, v)
  | _ => none
def pairT : D → Option (List Key × D)
  | .tup [.kt k, v] => some (k, v)
  | _ => none
section
variable {α β : Type}
def allD (f : D → Option α) : List D → Option (List α)
  | [] => some []
  | d :: ds => (f d).bind fun p => (allD f ds).bind fun r => some (p :: r)
variable {κ : Type} [DecidableEq κ]
def mergeD (a : List κ × List β) (more : List (κ × β)) : List κ × List β := more.foldl (fun a p => (kputK a.1 p.1, kputV a.1 a.2 p.1 p.2)) a
theorem mergeD_len : ∀ (more : List (κ × β)) (a : List κ × List β), a.1.length = a.2.length → (mergeD a more).1.length = (mergeD a more).2.length
  | [], a, l => l
  | p :: more, a, l => mergeD_len more _ (kput_len l)
theorem mergeD_mem {k : κ} : ∀ (more : List (κ × β)) (a : List κ × List β), k ∈ (mergeD a more).1 ↔ k ∈ a.1 ∨ ∃ p ∈ more, p.1 = k
  | [], a => by simp [mergeD]
  | p :: more, a => by
    show k ∈ (mergeD _ more).1 ↔ _
    rw [mergeD_mem more, kput_mem]
    simp only [List.mem_cons]
    constructor
    · rintro ((rfl | h) | ⟨q, h, rfl⟩)
      · exact .inr ⟨p, .inl rfl, rfl⟩
      · exact .inl h
      · exact .inr ⟨q, .inr h, rfl⟩
    · rintro (h | ⟨q, rfl | h, rfl⟩)
      · exact .inl (.inr h)
      · exact .inl (.inl rfl)
      · exact .inr ⟨q, h, rfl⟩
theorem mergeD_get {k : κ} : ∀ (more : List (κ × β)) (a : List κ × List β), a.1.length = a.2.length →
    kget (mergeD a more).1 (mergeD a more).2 k = ((more.reverse.find? fun p => decide (p.1 = k)).map Prod.snd).or (kget a.1 a.2 k)
  | [], a, _ => rfl
  | p :: more, a, l => by
    show kget (mergeD _ more).1 (mergeD _ more).2 k = _
    rw [mergeD_get more _ (kput_len l), kget_put l, List.reverse_cons, List.find?_append]
    cases e : more.reverse.find? fun p => decide (p.1 = k) with
    | some q => rfl
    | none =>
      by_cases e2 : p.1 = k
      · simp [e2]
      · simp [e2, Ne.symm e2]
theorem merge_zip : ∀ (more : List (Key × V)) (a : List Key × List V), a.1.length = a.2.length → mergeK (a.1.zip a.2) more = (mergeD a more).1.zip (mergeD a more).2
  | [], a, _ => rfl
  | p :: more, a, l => by
    show mergeK (putK (a.1.zip a.2) p.1 p.2) more = _
    rw [put_zip l]
    exact merge_zip more (kputK a.1 p.1, kputV a.1 a.2 p.1 p.2) (kput_len l)
end
section
variable {K : PySem.W.Frag} {G : Hp}
/-- pairs that stand for pairs -/
abbrev PR (K : PySem.W.Frag) (G : Hp) {κ : Type} : List (κ × V) → List (κ × D) → Prop := Paired fun p q => p.1 = q.1 ∧ Rep K G p.2 q.2
theorem merge_rep {κ : Type} [DecidableEq κ] : ∀ {more : List (κ × V)} {ds : List (κ × D)} {a : List κ × List V} {b : List κ × List D}, PR K G more ds → a.1 = b.1 → RepL K G a.2 b.2 → (mergeD a more).1 = (mergeD b ds).1 ∧ RepL K G (mergeD a more).2 (mergeD b ds).2
  | _, _, a, b, .nil, e, r => ⟨e, r⟩
  | p :: more, q :: ds, a, b, .cons h t, e, r => by
    obtain ⟨a1, a2⟩ := a
    obtain ⟨b1, b2⟩ := b
    obtain ⟨p1, p2⟩ := p
    obtain ⟨q1, q2⟩ := q
    obtain ⟨h1, h2⟩ := h
    cases h1
    cases e
    exact merge_rep (a := (kputK a1 p1, kputV a1 a2 p1 p2)) (b := (kputK a1 p1, kputV a1 b2 p1 q2)) t rfl (r.kput h2)
theorem pairs_rep : ∀ {vs : List V} {ds : List D} {kvs : List (Key × D)}, RepL K G vs ds → allD pairD ds = some kvs →
    ∃ (ps : List Addr) (kvv : List (Key × V)), vs = ps.map V.ref ∧ Paired (fun p kv => SqT K G p [kV kv.1, kv.2]) ps kvv ∧ PR K G kvv kvs ∧ kvs.length = ds.length
  | _, _, _, .nil, e => by cases e; exact ⟨[], [], rfl, .nil, .nil, rfl⟩
  | _, _, _, .cons h r, e => by
    rw [allD] at e
    obtain ⟨p, e1, e⟩ := Option.bind_eq_some_iff.mp e
    obtain ⟨kvs, e2, e⟩ := Option.bind_eq_some_iff.mp e
    cases e
    obtain ⟨ps, kvv, q1, q2, q3, q4⟩ := pairs_rep r e2
    unfold pairD at e1
    split at e1
    · obtain ⟨k, e3, e4⟩ := Option.map_eq_some_iff.mp e1
      subst e4
      cases h with
      | tup hs hr =>
        cases hr with
        | cons r1 hr =>
          cases hr with
          | cons r2 hr =>
            cases hr
            refine ⟨_ :: ps, (k, _) :: kvv, by rw [q1]; rfl, .cons ?_ q2, .cons ⟨rfl, r2⟩ q3, by rw [List.length_cons, List.length_cons, q4]⟩
            have := key_rep r1 e3
            subst this
            exact hs
    · cases e1
end
def biDictP (ds : List D) : Option D := match ds with
  | [.lst xs] => if xs.length ≤ 1000000 then (allD pairD xs).bind fun kvs => some (.odx (.k (mergeD ([], []) kvs).1) (mergeD ([], []) kvs).2) else none
  | _ => none
section
variable {K : PySem.W.Frag} {X : Cx}
theorem SqT.mono {G H : Hp} {a : Addr} {vs : List V} (e : Ex G H) (h : SqT K G a vs) : SqT K H a vs := e.sqT h
theorem cd_dictP : CallD K (fun xs H Q => ∃ (a : Addr) (ps : List Addr) (kvs : List (Key × V)), xs = [.ref a] ∧ SqL K H a (ps.map V.ref) ∧ Paired (fun p kv => SqT K H p [kV kv.1, kv.2]) ps kvs ∧
    ∀ p, H p = none → Q (.ref p) (upd H p (.dK (mergeK [] kvs)))) biDictP := fun vs ds d G H L Q s r e q => by
  unfold biDictP at e
  split at e
  · split at e
    · obtain ⟨kvs, e1, e⟩ := Option.bind_eq_some_iff.mp e
      cases e
      cases r with
      | cons r1 r =>
        cases r
        cases r1 with
        | lst hs hr =>
          obtain ⟨ps, kvv, q1, q2, q3, q4⟩ := pairs_rep hr e1
          subst q1
          refine ⟨_, ps, kvv, rfl, s.ex.sqL (sqL_of hs), Paired.mapP q2 fun p q z => s.ex.sqT z, fun p hp => ?_⟩
          have e5 : mergeK [] kvv = (mergeD ([], []) kvv).1.zip (mergeD ([], []) kvv).2 := merge_zip kvv ([], []) rfl
          obtain ⟨m1, m2⟩ := merge_rep (a := ([], [])) (b := ([], [])) q3 rfl .nil
          rw [e5, m1]
          obtain ⟨z1, z2⟩ := s.newOwn (DC.ho (.k (mergeD ([], []) kvs).1) (mergeD ([], []) kvv).2) hp
          exact q _ G _ [_] z1 z2 (.odx (mergeD_len kvs ([], []) rfl) m2)
    · cases e
  · cases e
end
section
variable {X : Cx}
/-- pairs that stand in the heap, by their values -/
theorem pairs_vals {pins : List (Addr × Obj)} {σ : L2.St} {H : Hp} {s : Shared} (I : Inv X pins σ H s) : ∀ {ps : List Addr} {kvs : List (Key × V)}, Paired (fun p kv => SqT X.K H p [kV kv.1, kv.2]) ps kvs →
    ∃ (prs : List (Key × Value)) (pvs : List (Value × Value)), KV kvs prs ∧ prs.length = ps.length ∧ pvs.length = ps.length ∧
      ∀ (j : Nat) (k v : Value), pvs[j]? = some (k, v) → ∃ (b : Addr) (key : Key), ps[j]? = some b ∧ prs[j]? = some (key, v) ∧ keyIs key k = true ∧ IsTup s.heap b #[k, v]
  | _, _, .nil => ⟨[], [], .nil, rfl, rfl, fun j k v e => by simp at e⟩
  | _, _, .cons (a := p) (b := kv) h t => by
    obtain ⟨prs, pvs, r, l1, l2, hp⟩ := pairs_vals I t
    obtain ⟨its, rv, ht, _⟩ := I.tuple h
    obtain ⟨u, y, ei, ru, ry⟩ := vals2 rv
    subst ei
    refine ⟨(kv.1, y) :: prs, (u, y) :: pvs, .cons ⟨rfl, ry⟩ r, by simp [l1], by simp [l2], fun j k v e => ?_⟩
    cases j with
    | zero =>
      have e' : (u, y) = (k, v) := Option.some.inj e
      cases e'
      exact ⟨p, kv.1, rfl, rfl, kV_is (P := X.prog) (w := X.w) ru, ht⟩
    | succ j =>
      obtain ⟨b, key, e1, e2, e3, e4⟩ := hp j k v (by simpa using e)
      exact ⟨b, key, by simpa using e1, by simpa using e2, e3, e4⟩
/-- d.update(xs), xs a list of pairs (key, value) -/
def rUpdP (K : PySem.W.Frag) : V → List V → Hp → VK → Prop := fun x vs H Q => ∃ (a b : Addr) (acc : List (Key × V)) (ps : List Addr) (kvs : List (Key × V)), x = .ref a ∧ vs = [.ref b] ∧ H a = some (.dK acc) ∧ H b = some (.lst (ps.map V.ref)) ∧
    Paired (fun p kv => SqT K H p [kV kv.1, kv.2]) ps kvs ∧ acc.length + kvs.length ≤ 2000000 ∧ Q .non (upd H a (.dK (mergeK acc kvs)))
theorem mt_updP (hc : X.calm = true) : MtR X "dict.update" (rUpdP X.K) := by
  intro pins s σ H x xs v us Q I rx rv h
  obtain ⟨a, b, acc, ps, kvs, rfl, rfl, ha, hb, hp, hz, q⟩ := h
  cases rx
  obtain ⟨u, eu, ru⟩ := rv.one
  subst eu
  cases ru
  obtain ⟨z, its, n, r, hl, e⟩ := I.lstM hb
  obtain ⟨z2, y2, vs2, rel2, dd⟩ := dk_of I.hok ha
  have ei := refs_at r
  subst ei
  obtain ⟨prs, pvs, rel, l1, l2, hpv⟩ := pairs_vals I hp
  have big : sizeLine = 16777216 := sizeLine_eq
  have lk : kvs.length = prs.length := rel.length
  have la : acc.length = vs2.length := rel2.length
  obtain ⟨od, ho, hcls, hdat⟩ : ∃ od, s.heap.get? a = some od ∧ od.cls = .type "dict" ∧ True := by
    obtain ⟨od, es, ep, h1, h2, h3, _⟩ := dd
    exact ⟨od, h1, h2.1, trivial⟩
  have hPI : PairItems s.heap (ps.map Value.ref).toArray (fun j => ps.getD j 0) pvs := by
    refine ⟨by simp [l2], fun j k v ej => ?_⟩
    obtain ⟨c, key, e1, e2, e3, e4⟩ := hpv j k v ej
    have eg : ps.getD j 0 = c := by rw [List.getD_eq_getElem?_getD, e1]; rfl
    refine ⟨?_, ?_⟩
    · show _ = some (Value.ref (ps.getD j 0))
      rw [eg]
      simp [e1]
    · show PairAt s.heap (ps.getD j 0) k v
      rw [eg]
      exact .inl e4
  refine call_update_pairs (knd := mixKind X.prog X.w) (acc := vs2) (kvs := prs) (PairArg.list b (ps.map Value.ref).toArray (fun j => ps.getD j 0) pvs) (I.ok.hd hc) ⟨⟨_, n, e, rfl, rfl, rfl⟩, hPI⟩ ?_ ⟨by rw [l1, l2], fun i k v ei => ?_⟩ dd (by rw [l2, ← l1, ← lk, ← la]; omega) fun h' tk hd' hk => ?_
  · intro hm
    rcases List.mem_cons.mp hm with rfl | hm
    · rw [ha] at hb; cases hb
    · obtain ⟨j, hj, rfl⟩ := List.mem_map.mp hm
      obtain ⟨oT, hT, hTc⟩ : ∃ oT, s.heap.get? (ps.getD j 0) = some oT ∧ oT.cls = .type "tuple" := by
        have hj' : j < pvs.length := List.mem_range.mp hj
        obtain ⟨⟨k, v⟩, ej⟩ : ∃ p, pvs[j]? = some p := ⟨_, List.getElem?_eq_getElem hj'⟩
        obtain ⟨c, key, e1, e2, e3, ⟨o, f1, f2, _⟩⟩ := hpv j k v ej
        have eg : ps.getD j 0 = c := by rw [List.getD_eq_getElem?_getD, e1]; rfl
        rw [eg]
        exact ⟨o, f1, f2⟩
      rw [ho] at hT
      cases hT
      rw [hcls] at hTc
      injection hTc with z
      exact absurd z (by decide)
  · obtain ⟨c, key, e1, e2, e3, e4⟩ := hpv i k v ei
    exact ⟨key, e2, e3⟩
  · have he : ∃ q, h'.get? a = some q := let ⟨q, _, _, hq, _⟩ := hd'; ⟨q, hq⟩
    refine ⟨.non, _, I.write (t' := tk) (x := a) (e := a) (by rw [ha]; exact True.intro) (.inl rfl) (fun c o hc z => hk c o hc (by simp) z) he (dk_new ?_ y2 (KV.merge rel rel2) hd'), rfl, q⟩
    refine Nat.le_trans (length_mergeK kvs acc) ?_
    omega
end
/-- d.update([pairs]) -/
def dDUpd (i : Nat) (f : DE) : DS := fun ρ => (dictAt ρ i).bind fun _ => (f ρ).bind fun p => match p.2[i]?, p.1 with
  | some (some (.odx (.k ks) ds)), .lst xs => if ds.length + xs.length ≤ 1000000 then (allD pairD xs).bind fun kvs => some (.nx (p.2.set i (some (.odx (.k (mergeD (ks, ds) kvs).1) (mergeD (ks, ds) kvs).2)))) else none
  | _, _ => none
section
variable {X : Cx} {io : List Nat} {e : Expr} {f : DE} {pos px : Pos} {x : Str}
theorem ss_dupd (i : Nat) {pa pc : Pos} (he : SE X e f) (hc : X.calm = true := by rfl) (hN : X.N[i]? = some x := by rfl) (hv : Vis X.env.scope x := by first | exact Or.inl rfl | exact Or.inr (Or.inl rfl) | exact Or.inr (Or.inr rfl)) (hd : (x == ("__debug__" : Str)) = false := by decide)
    (hcd : (x == ("__classdict__" : Str)) = false := by decide) (hbase : attributeBase (.Name x px) "update" X.env (eval (.Name x px) X.env) = eval (.Name x px) X.env := by rfl)
    (hfew : ((backTo pc (starEach [e] X.env)).all (fun x => !x.1) && (backToKw pc (keywordEach [] X.env)).all (fun x => x.1.isSome)
      && decide ([e].length + ([] : List Keyword).length + (if ([] : List Keyword).isEmpty then 0 else 1) < 30)) = true := by rfl)
    (hline : (pa.endLine == pc.line) = true := by rfl) (hs : starEach [e] X.env = (false, eval e X.env) :: starEach [] X.env := by rfl) (hplain : (backTo pc (starEach [] X.env)).any (·.1) = false := by rfl)
    (hsw : swapsWith (.Call (.Attribute (.Name x px) "update" pa) [e] [] pc) none pos.line X.env = pure false := by rfl) :
    SS X io (.Expr (.Call (.Attribute (.Name x px) "update" pa) [e] [] pc) pos) (dDUpd i f) :=
  ps_weak (ps_expr (pe_bm PySem.F.plainAttrs_dict PySem.F.slot_dict_update PySem.F.type_dict_update (mt_updP hc) (pe_var hN hv hd hcd) (pa_cons he pa_nil hs) hbase hfew hline hs hplain) hsw) fun De σ H ⟨G, ρ, L, fl, h1, h2, h3, q⟩ => by
    unfold dDUpd at h3
    obtain ⟨z0, e0, h3⟩ := Option.bind_eq_some_iff.mp h3
    obtain ⟨⟨d1, ρ1⟩, e1, h3⟩ := Option.bind_eq_some_iff.mp h3
    dsimp only at h3
    split at h3
    · rename_i ks ds xs hx
      split at h3
      · rename_i hz
        obtain ⟨kvs, e2, h3⟩ := Option.bind_eq_some_iff.mp h3
        cases h3
        obtain ⟨p0, vs0, t0, t0', _⟩ := dict_at h1 h2 e0
        refine ⟨_, t0, ?_, G, ρ, L, _, ρ1, h1, h2, e1, fun v G2 H2 L2 a2 b2 c2 r2 => ?_⟩
        · refine .inr (.inr (.inl ⟨rfl, ?_⟩))
          cases hz0 : z0.1 with
          | k ks0 => rw [hz0] at t0'; exact .inl ⟨_, t0'⟩
          | t ks0 => rw [hz0] at t0'; exact .inr ⟨_, t0'⟩
        · obtain ⟨p, vs, R, t1, t2, t3, t4, t5, t6⟩ := c2.frontD a2 hx
          rw [t0] at t1
          cases t1
          cases r2 with
          | lst hs hr =>
            obtain ⟨ps, kvv, q1, q2, q3, q4⟩ := pairs_rep hr e2
            subst q1
            have hl : ks.length = ds.length := t2
            have hl2 : ks.length = vs.length := by rw [hl, t3.length]
            refine ⟨p0, _, _, ps, kvv, rfl, rfl, t4.hold _ _ List.mem_cons_self, a2.ex _ _ hs, Paired.mapP q2 fun p q z => a2.ex.sqT z, ?_, ?_⟩
            · have := Paired.length q3
              rw [List.length_zip, t3.length]
              omega
            · have e5 : mergeK (ks.zip vs) kvv = (mergeD (ks, vs) kvv).1.zip (mergeD (ks, vs) kvv).2 := merge_zip kvv (ks, vs) hl2
              obtain ⟨m1, m2⟩ := merge_rep (a := (ks, vs)) (b := (ks, ds)) q3 rfl t3
              rw [e5, m1]
              obtain ⟨z1, z2⟩ := t4.change (DC.ho (.k (mergeD (ks, ds) kvs).1) (mergeD (ks, vs) kvv).2)
              obtain ⟨L9, y1, y2⟩ := t6 G2 (.k (mergeD (ks, ds) kvs).1) _ _ (Ex.refl _) (mergeD_len kvs (ks, ds) hl) m2
              exact q σ G2 _ L9 (z1.perm y2.symm) (b2.trans ((z2.permL t5.symm).permR y2.symm)) y1 .refl
      · cases h3
    · cases h3
end
end Pd

namespace Pd
open PySem PySem.Spec PyProof.Rows L2
/-! ### try that runs through -/
theorem ss_try {X : Cx} {io : List Nat} {body : List Stmt} {g : DS} {h₀ : ExceptHandler} {hs : List ExceptHandler} {pos : Pos} (hb : SSs X.nox io body g) : SS X io (.Try body (h₀ :: hs) [] [] pos) g := ps_try_thru0 hb
/-! ### own lists in own lists -/
/-- a slot's content set aside: what runs without it leaves it as it is -/
theorem Sl.aside {K : PySem.W.Frag} {G H : Hp} {σ : L2.St} {ρ : Ev} {L : Fp} {i : Nat} {d : D} (h : Sl K G σ ρ L) (s : Sta G H L) (e : ρ[i]? = some (some d)) :
    ∃ v M R, σ[i]? = some (some v) ∧ Own K G v d M ∧ L.Perm (R ++ M) ∧ Sta G H (R ++ M) ∧ Sta G H R ∧ Sl K G σ (ρ.set i none) R := by
  obtain ⟨v, M, R, s1, s2, s3, s4, _⟩ := h.at e
  have p := s3.trans List.perm_append_comm
  exact ⟨v, M, R, s1, s2, p, s.perm p, (s.perm s3).left, s4⟩
/-- .. and put back, of the same value -/
theorem Sl.back {K : PySem.W.Frag} {G H : Hp} {σ : L2.St} {ρ : Ev} {L M : Fp} {i : Nat} {v : V} {d : D} (h : Sl K G σ ρ L) (s : Sta G H (M ++ L)) (hv : σ[i]? = some (some v)) (hi : i < ρ.length) (o : Own K G v d M) :
    ∃ L', Sl K G σ (ρ.set i (some d)) L' ∧ Sta G H L' ∧ Stp G H (M ++ L) G H L' := by
  obtain ⟨L', a, b, c⟩ := sl_put s h o (by unfold Pd.put; rw [if_pos hi] : Pd.put i d ρ = some (ρ.set i (some d)))
  rw [set_self hv] at c
  exact ⟨L', c, a, b⟩
/-- an item of an own list, its part of what is held at the front -/
theorem OwnL.split {K : PySem.W.Frag} {G : Hp} : ∀ {vs : List V} {ds : List D} {L : Fp} {j : Nat} {d : D}, OwnL K G vs ds L → ds[j]? = some d →
    ∃ v M R, vs[j]? = some v ∧ Own K G v d M ∧ L.Perm (M ++ R) ∧ ∀ (G' : Hp) (d' : D) (M' : Fp), Ex G G' → Own K G' v d' M' → ∃ L', OwnL K G' vs (ds.set j d') L' ∧ L'.Perm (M' ++ R)
  | _, _, _, _, _, .nil, h => by simp at h
  | _, _, _, 0, _, .cons (L := L0) (M := M0) o r, h => by
    simp at h
    subst h
    exact ⟨_, L0, M0, rfl, o, .refl _, fun G' d' M' e o' => ⟨M' ++ M0, .cons o' (r.mono e), .refl _⟩⟩
  | _, _, _, j + 1, _, .cons (L := L0) (M := M0) o r, h => by
    obtain ⟨v, M, R, q1, q2, q3, q4⟩ := OwnL.split (j := j) r (by simpa using h)
    refine ⟨v, M, L0 ++ R, by simpa using q1, q2, ?_, fun G' d' M' e o' => ?_⟩
    · exact (q3.append_left L0).trans (by rw [← List.append_assoc, ← List.append_assoc]; exact List.perm_append_comm.append_right R)
    · obtain ⟨L', p1, p2⟩ := q4 G' d' M' e o'
      exact ⟨L0 ++ L', .cons (o.mono e) p1, (p2.append_left L0).trans (by rw [← List.append_assoc, ← List.append_assoc]; exact List.perm_append_comm.append_right R)⟩
theorem atI_ix {α : Type} {xs : List α} {k : Int} {x : α} (h : atI xs k = some x) : ∃ j, ixN xs.length k = some j ∧ xs[j]? = some x := by
  unfold atI at h
  obtain ⟨j, e1, e2⟩ := Option.bind_eq_some_iff.mp h
  exact ⟨j, e1, e2⟩
theorem atI_of {α : Type} {xs : List α} {k : Int} {j : Nat} (h : ixN xs.length k = some j) : atI xs k = xs[j]? := by
  unfold atI
  rw [h]; rfl
/-- x[k] of an own list, or a tuple of own ones: the item; it is known from then on -/
def dIxF (i : Nat) (g : DE) : DE := fun ρ => match ρ[i]? with
  | some (some _) => (g ρ).bind fun p => match p.1, p.2[i]? with
    | .int k, some (some (.own ds)) => (ixN ds.length k).bind fun j => (ds[j]?).bind fun d => some (frz d, p.2.set i (some (.own (ds.set j (frz d)))))
    | _, _ => none
  | _ => none
section
variable {X : Cx} {io : List Nat} {e k : Expr} {es : List Expr} {f g : DE} {pos px pk : Pos} {x name : Str} {id : String}
theorem se_ixF (i : Nat) (hb : SE X k g) (hs : PlainIx k := by exact fun _ _ => rfl) (hN : X.N[i]? = some x := by rfl) (hv : Vis X.env.scope x := by first | exact Or.inl rfl | exact Or.inr (Or.inl rfl) | exact Or.inr (Or.inr rfl)) (hd : (x == ("__debug__" : Str)) = false := by decide)
    (hcd : (x == ("__classdict__" : Str)) = false := by decide) : SE X (.Subscript (.Name x px) k pos) (dIxF i g) := pe_weak (pe_ix ix_list (pe_var hN hv hd hcd) hb hs) fun σ H Q ⟨G, ρ, L, d, ρ', h1, h2, h3, q⟩ => by
  unfold dIxF at h3
  split at h3
  · rename_i d0 hd0
    obtain ⟨⟨d1, ρ1⟩, e1, h3⟩ := Option.bind_eq_some_iff.mp h3
    dsimp only at h3
    split at h3
    · rename_i n ds hx
      obtain ⟨j, e2, h3⟩ := Option.bind_eq_some_iff.mp h3
      obtain ⟨d2, e3, h3⟩ := Option.bind_eq_some_iff.mp h3
      cases h3
      obtain ⟨v0, M0, R0, s1, _⟩ := h2.at hd0
      refine ⟨v0, s1, G, ρ, L, _, _, h1, h2, e1, fun y G1 H1 L1 a1 b1 c1 r1 => ?_⟩
      cases r1
      obtain ⟨p, vs, M, R, t1, t2, t3, t4, t5⟩ := c1.front a1 hx
      rw [s1] at t1
      cases t1
      obtain ⟨v, Mj, Rj, u1, u2, u3, u4⟩ := t2.split e3
      refine ⟨p, vs, n, v, rfl, rfl, sqL_of (t3.hold _ _ List.mem_cons_self), ?_, ?_⟩
      · rw [atI_of (by rw [t2.length]; exact e2)]; exact u1
      · have pm : ((p, HO.lst vs) :: (M ++ R)).Perm (Mj ++ ((p, HO.lst vs) :: (Rj ++ R))) := (List.Perm.cons _ (by rw [← List.append_assoc]; exact u3.append_right R)).trans List.perm_middle.symm
        have t3' := t3.perm pm
        obtain ⟨z1, z2, z3⟩ := t3'.freeze
        have rf := u2.addF t3'
        obtain ⟨L9, y1, y2⟩ := u4 _ (frz d2) [] z3 (.pure rf)
        obtain ⟨L8, w1, w2⟩ := t5 _ vs _ L9 z3 y1
        have pm2 : ((p, HO.lst vs) :: (Rj ++ R)).Perm L8 := (w2.trans (List.Perm.cons _ (by have := y2.append_right R; rw [List.nil_append] at this; exact this))).symm
        exact q v _ H1 L8 (z1.perm pm2) (b1.trans ((z2.permL (t4.trans pm).symm).permR pm2)) w1 rf
    · cases h3
  · cases h3
/-- x[k].m(..), x an own list of own lists; the arguments don't look at x -/
def dOwn2 (i : Nat) (gk : DE) (r : List D → List D → Option (List D)) (g : DA) : DS := fun ρ => (ownAt ρ i).bind fun _ => (gk ρ).bind fun z => match z.1 with
  | .int n => (ownAt z.2 i).bind fun ds => (ixN ds.length n).bind fun j => (g (z.2.set i none)).bind fun p => match ds[j]? with
    | some (.own es) => if es.all D.pu = true ∧ i < p.2.length then (r es p.1).bind fun es' => some (.nx (p.2.set i (some (.own (ds.set j (.own es')))))) else none
    | _ => none
  | _ => none
theorem ss_own2 {R : V → List V → Hp → VK → Prop} {r : List D → List D → Option (List D)} {ga : DA} (i : Nat) {pa pc : Pos} (slot : Slot "list" name id) (hty : typeOf (.builtin id) = pure (.type "method_descriptor")) (hm : MtR X id R) (od : OwnD X.K R r) (hk : SE X k g) (ha : SA X (e :: es) ga)
    (hs : PlainIx k := by exact fun _ _ => rfl) (hN : X.N[i]? = some x := by rfl) (hv : Vis X.env.scope x := by first | exact Or.inl rfl | exact Or.inr (Or.inl rfl) | exact Or.inr (Or.inr rfl)) (hd : (x == ("__debug__" : Str)) = false := by decide)
    (hcd : (x == ("__classdict__" : Str)) = false := by decide) (hbase : attributeBase (.Subscript (.Name x px) k pk) name X.env (eval (.Subscript (.Name x px) k pk) X.env) = eval (.Subscript (.Name x px) k pk) X.env := by rfl)
    (hfew : ((backTo pc (starEach (e :: es) X.env)).all (fun x => !x.1) && (backToKw pc (keywordEach [] X.env)).all (fun x => x.1.isSome)
      && decide ((e :: es).length + ([] : List Keyword).length + (if ([] : List Keyword).isEmpty then 0 else 1) < 30)) = true := by rfl)
    (hline : (pa.endLine == pc.line) = true := by rfl) (hst : starEach (e :: es) X.env = (false, eval e X.env) :: starEach es X.env := by rfl) (hplain : (backTo pc (starEach es X.env)).any (·.1) = false := by rfl)
    (hsw : swapsWith (.Call (.Attribute (.Subscript (.Name x px) k pk) name pa) (e :: es) [] pc) none pos.line X.env = pure false := by rfl) :
    SS X io (.Expr (.Call (.Attribute (.Subscript (.Name x px) k pk) name pa) (e :: es) [] pc) pos) (dOwn2 i g r ga) :=
  ps_weak (ps_expr (pe_bm PySem.F.plainAttrs_list slot hty hm (pe_ix ix_list (pe_var hN hv hd hcd) hk hs) ha hbase hfew hline hst hplain) hsw) fun De σ H ⟨G, ρ, L, fl, h1, h2, h3, q⟩ => by
    unfold dOwn2 at h3
    obtain ⟨ds0, e0, h3⟩ := Option.bind_eq_some_iff.mp h3
    obtain ⟨⟨d1, ρ1⟩, e1, h3⟩ := Option.bind_eq_some_iff.mp h3
    dsimp only at h3
    split at h3
    · rename_i n
      obtain ⟨ds, e2, h3⟩ := Option.bind_eq_some_iff.mp h3
      obtain ⟨j, e3, h3⟩ := Option.bind_eq_some_iff.mp h3
      obtain ⟨⟨args, ρ2⟩, e4, h3⟩ := Option.bind_eq_some_iff.mp h3
      dsimp only at h3
      split at h3
      · rename_i es0 hj
        split at h3
        · rename_i hpu
          obtain ⟨es', e5, h3⟩ := Option.bind_eq_some_iff.mp h3
          cases h3
          obtain ⟨v0, M0, R0, s1, _⟩ := h2.at (ownAt_some e0)
          refine ⟨v0, s1, G, ρ, L, _, _, h1, h2, e1, fun y G1 H1 L1 a1 b1 c1 r1 => ?_⟩
          cases r1
          obtain ⟨v1, M, R, t1, t2, t3, t4, t5, t6⟩ := c1.aside a1 (ownAt_some e2)
          rw [s1] at t1
          cases t1
          cases t2 with
          | pure z => cases z
          | @own p vs _ Mi ow =>
            obtain ⟨v, Mj, Rj, u1, u2, u3, u4⟩ := ow.split hj
            have hp1 : H1 p = some (.lst vs) := t4.hold _ _ (List.mem_append.mpr (.inr List.mem_cons_self))
            refine ⟨p, vs, n, v, rfl, rfl, sqL_of hp1, by rw [atI_of (by rw [ow.length]; exact e3)]; exact u1, ?_⟩
            cases u2 with
            | pure z => cases z
            | @own pj vj _ Mjj owj =>
              obtain ⟨rl, rfl⟩ := owj.repL hpu.1
              have inM : (pj, HO.lst vj) ∈ Mi := u3.mem_iff.mpr (List.mem_append.mpr (.inl List.mem_cons_self))
              have hpj1 : H1 pj = some (.lst vj) := t4.hold _ _ (List.mem_append.mpr (.inr (List.mem_cons_of_mem _ inM)))
              refine ⟨.inl ⟨rfl, _, sqL_of hpj1⟩, G1, _, R, args, ρ2, t5, t6, e4, fun as G2 H2 L2 a2 b2 c2 r2 => ?_⟩
              obtain ⟨z1, z2⟩ := t4.frame b2 a2
              -- all that was set aside, with the inner list at the front
              have pm : (L2 ++ (p, HO.lst vs) :: Mi).Perm ((pj, HO.lst vj) :: (((p, HO.lst vs) :: Rj) ++ L2)) := by
                refine List.perm_append_comm.trans ?_
                have e9 : ((p, HO.lst vs) :: Mi).Perm ((pj, HO.lst vj) :: ((p, HO.lst vs) :: Rj)) := (List.Perm.cons _ u3).trans (List.Perm.swap _ _ _)
                exact e9.append_right L2
              have z1' := z1.perm pm
              refine od pj vj as es0 args es' G2 H2 _ _ z1' (rl.mono b2.ex) r2 e5 fun vj' rj => ?_
              obtain ⟨w1, w2⟩ := z1'.change (.lst vj')
              obtain ⟨L9, y1, y2⟩ := u4 G2 (.own es') [(pj, HO.lst vj')] b2.ex (.own rj.ownL)
              have pm3 : ((pj, HO.lst vj') :: (((p, HO.lst vs) :: Rj) ++ L2)).Perm (((p, HO.lst vs) :: L9) ++ L2) := by
                have e9 : ((pj, HO.lst vj') :: ((p, HO.lst vs) :: Rj)).Perm ((p, HO.lst vs) :: L9) := (List.Perm.swap _ _ _).trans (List.Perm.cons _ y2.symm)
                exact e9.append_right L2
              obtain ⟨L8, x1, x2, x3⟩ := c2.back (w1.perm pm3) s1 hpu.2 (.own y1)
              exact q σ G2 _ L8 x2 ((b1.trans ((z2.permL t3.symm).permR pm)).trans ((w2.permR pm3).trans x3)) x1 .refl
        · cases h3
      · cases h3
    · cases h3
/-- x[k] = e, e an own answer -/
def dSetIxN (i : Nat) (f k : DE) : DS := fun ρ => (f ρ).bind fun p => (ownAt p.2 i).bind fun _ => (k p.2).bind fun q => match q.1 with
  | .int n => (ownAt q.2 i).bind fun ds => (ixN ds.length n).bind fun j => some (.nx (q.2.set i (some (.own (ds.set j p.1)))))
  | _ => none
theorem ss_setixN (i : Nat) {p2 : Pos} (he : SN X e f) (hk : SE X k g) (hN : X.N[i]? = some x := by rfl) (hv : Vis X.env.scope x := by first | exact Or.inl rfl | exact Or.inr (Or.inl rfl) | exact Or.inr (Or.inr rfl)) (hd : (x == ("__debug__" : Str)) = false := by decide)
    (hcd : (x == ("__classdict__" : Str)) = false := by decide) (ha : ∀ v, assign (.Subscript (.Name x px) k p2) X.env v = (do
      let ov ← holding [v] (eval (.Name x px) X.env)
      let iv ← holding [v, ov] (eval k X.env)
      standAt p2
      holding [v, ov, iv] (setItem ov iv v)
      release [v, ov, iv] []) := by intro _; rfl) (hs : swapsWithSole [.Subscript (.Name x px) k p2] e pos.line X.env = pure false := by rfl) (hw : swappedStores [.Subscript (.Name x px) k p2] e X.env = pure none := by rfl)
    (h1 : (assignEach [.Subscript (.Name x px) k p2] X.env).map (·.2) = [assign (.Subscript (.Name x px) k p2) X.env] := by rfl) :
    SS X io (.Assign [.Subscript (.Name x px) k p2] e pos) (dSetIxN i f g) :=
  ps_weak (ps_asg he (pg_sub (pe_var hN hv hd hcd) hk L2.set_list ha) hs hw h1) fun De σ H ⟨G, ρ, L, fl, h1, h2, h3, q⟩ => by
    unfold dSetIxN at h3
    obtain ⟨⟨d1, ρ1⟩, e1, h3⟩ := Option.bind_eq_some_iff.mp h3
    obtain ⟨ds0, e0, h3⟩ := Option.bind_eq_some_iff.mp h3
    obtain ⟨⟨d2, ρ2⟩, e2, h3⟩ := Option.bind_eq_some_iff.mp h3
    dsimp only at h3 e2 e0
    split at h3
    · rename_i n
      obtain ⟨ds, e3, h3⟩ := Option.bind_eq_some_iff.mp h3
      obtain ⟨j, e4, h3⟩ := Option.bind_eq_some_iff.mp h3
      cases h3
      refine ⟨G, ρ, L, d1, ρ1, h1, h2, e1, fun v G1 H1 M1 L1 a1 b1 c1 r1 => ?_⟩
      obtain ⟨v0, M0, R0, s1, _⟩ := c1.at (ownAt_some e0)
      refine ⟨v0, s1, G1, ρ1, L1, _, ρ2, a1.left, c1, e2, fun y G2 H2 L2 a2 b2 c2 r2 => ?_⟩
      cases r2
      obtain ⟨f1, f2⟩ := (a1.perm List.perm_append_comm).frame b2 a2
      obtain ⟨p, vs, M, R, t1, t2, t3, t4, t5⟩ := c2.front a2 (ownAt_some e3)
      rw [s1] at t1
      cases t1
      refine ⟨p, vs, n, j, rfl, rfl, t3.hold p _ List.mem_cons_self, by rw [t2.length]; exact e4, ?_⟩
      obtain ⟨Md, Rd, L', q1, q2, q3⟩ := OwnL.set (r1.mono b2.ex : Own X.K G2 v d1 M1) j (ixN_lt e4) t2
      have pm : (L2 ++ M1).Perm (Md ++ ((p, HO.lst vs) :: ((M1 ++ Rd) ++ R))) := by
        refine (t4.append_right M1).trans ?_
        have a : ((p, HO.lst vs) :: (M ++ R) ++ M1).Perm ((p, HO.lst vs) :: (Md ++ ((M1 ++ Rd) ++ R))) := by
          refine List.Perm.cons _ ?_
          refine ((q1.append_right R).append_right M1).trans ?_
          rw [List.append_assoc Md, List.append_assoc Md]
          refine List.Perm.append_left Md ?_
          rw [List.append_assoc M1]
          exact List.perm_append_comm
        exact a.trans List.perm_middle.symm
      have t3' := (f1.perm pm).left
      obtain ⟨z1, z2⟩ := t3'.change (.lst (vs.set j v))
      obtain ⟨L9, y1, y2⟩ := t5 G2 (vs.set j v) (ds.set j d1) L' (Ex.refl _) q2
      have pm2 : ((p, HO.lst (vs.set j v)) :: ((M1 ++ Rd) ++ R)).Perm L9 := (y2.trans (List.Perm.cons _ (q3.append_right R))).symm
      refine q σ G2 _ L9 (z1.perm pm2) (b1.trans ?_) y1 .refl
      exact ((f2.permL List.perm_append_comm).trans ((Stp.refl.permR pm).less)).trans (z2.permR pm2)
    · cases h3
end
end Pd

namespace Pd
open PySem PySem.Spec PyProof.Rows L2
/-! ### tuples of own lists -/
def dTupO (f : DA) : DE := fun ρ => (f ρ).bind fun p => if p.1.length ≤ 1000 then some (.otp p.1, p.2) else none
section
variable {X : Cx} {io : List Nat} {e k : Expr} {es : List Expr} {f g : DE} {ga : DA} {pos px pk p2 : Pos} {x name : Str} {id : String}
theorem sn_tupO {kk : Nat} (ha : SAo X es ga) : SN X (.Tuple es kk pos) (dTupO ga) := pe_weak (pe_tup ha) fun σ H Q ⟨G, ρ, L, d, ρ', h1, h2, h3, q⟩ => by
  unfold dTupO at h3
  obtain ⟨⟨ds, ρ1⟩, e1, h3⟩ := Option.bind_eq_some_iff.mp h3
  dsimp only at h3
  split at h3
  · rename_i hz
    cases h3
    refine ⟨G, ρ, L, ds, _, h1, h2, e1, fun vs G1 H1 M L1 a1 b1 c1 r1 => ⟨small (by rw [r1.length]; exact hz), fun p hp => ?_⟩⟩
    obtain ⟨z1, z2, z3⟩ := a1.new (.tup vs) hp
    exact q _ _ _ M L1 z1 (b1.trans z2) (c1.mono z3) (.otp (sqT_of upd_same) (r1.mono z3))
  · cases h3
/-- x[k].m(..), x a tuple of own lists; the arguments don't look at x -/
def dOwnT (i : Nat) (gk : DE) (r : List D → List D → Option (List D)) (g : DA) : DS := fun ρ => match ρ[i]? with
  | some (some (.otp ds)) => (gk ρ).bind fun z => match z.1, z.2[i]? with
    | .int n, some (some (.otp ds)) => (ixN ds.length n).bind fun j => (g (z.2.set i none)).bind fun p => match ds[j]? with
      | some (.own es) => if es.all D.pu = true ∧ i < p.2.length then (r es p.1).bind fun es' => some (.nx (p.2.set i (some (.otp (ds.set j (.own es')))))) else none
      | _ => none
    | _, _ => none
  | _ => none
theorem ss_ownT {R : V → List V → Hp → VK → Prop} {r : List D → List D → Option (List D)} (i : Nat) {pa pc : Pos} (slot : Slot "list" name id) (hty : typeOf (.builtin id) = pure (.type "method_descriptor")) (hm : MtR X id R) (od : OwnD X.K R r) (hk : SE X k g) (ha : SA X (e :: es) ga)
    (hs : PlainIx k := by exact fun _ _ => rfl) (hN : X.N[i]? = some x := by rfl) (hv : Vis X.env.scope x := by first | exact Or.inl rfl | exact Or.inr (Or.inl rfl) | exact Or.inr (Or.inr rfl)) (hd : (x == ("__debug__" : Str)) = false := by decide)
    (hcd : (x == ("__classdict__" : Str)) = false := by decide) (hbase : attributeBase (.Subscript (.Name x px) k pk) name X.env (eval (.Subscript (.Name x px) k pk) X.env) = eval (.Subscript (.Name x px) k pk) X.env := by rfl)
    (hfew : ((backTo pc (starEach (e :: es) X.env)).all (fun x => !x.1) && (backToKw pc (keywordEach [] X.env)).all (fun x => x.1.isSome)
      && decide ((e :: es).length + ([] : List Keyword).length + (if ([] : List Keyword).isEmpty then 0 else 1) < 30)) = true := by rfl)
    (hline : (pa.endLine == pc.line) = true := by rfl) (hst : starEach (e :: es) X.env = (false, eval e X.env) :: starEach es X.env := by rfl) (hplain : (backTo pc (starEach es X.env)).any (·.1) = false := by rfl)
    (hsw : swapsWith (.Call (.Attribute (.Subscript (.Name x px) k pk) name pa) (e :: es) [] pc) none pos.line X.env = pure false := by rfl) :
    SS X io (.Expr (.Call (.Attribute (.Subscript (.Name x px) k pk) name pa) (e :: es) [] pc) pos) (dOwnT i g r ga) :=
  ps_weak (ps_expr (pe_bm PySem.F.plainAttrs_list slot hty hm (pe_ix ix_tup (pe_var hN hv hd hcd) hk hs) ha hbase hfew hline hst hplain) hsw) fun De σ H ⟨G, ρ, L, fl, h1, h2, h3, q⟩ => by
    unfold dOwnT at h3
    split at h3
    · rename_i ds0 e0
      obtain ⟨⟨d1, ρ1⟩, e1, h3⟩ := Option.bind_eq_some_iff.mp h3
      dsimp only at h3
      split at h3
      · rename_i n ds e2
        obtain ⟨j, e3, h3⟩ := Option.bind_eq_some_iff.mp h3
        obtain ⟨⟨args, ρ2⟩, e4, h3⟩ := Option.bind_eq_some_iff.mp h3
        dsimp only at h3
        split at h3
        · rename_i es0 hj
          split at h3
          · rename_i hpu
            obtain ⟨es', e5, h3⟩ := Option.bind_eq_some_iff.mp h3
            cases h3
            obtain ⟨v0, M0, R0, s1, _⟩ := h2.at e0
            refine ⟨v0, s1, G, ρ, L, _, _, h1, h2, e1, fun y G1 H1 L1 a1 b1 c1 r1 => ?_⟩
            cases r1
            obtain ⟨v1, M, R, t1, t2, t3, t4, t5, t6⟩ := c1.aside a1 e2
            rw [s1] at t1
            cases t1
            cases t2 with
            | pure z => cases z
            | @otp p vs _ Mi htp ow =>
              obtain ⟨v, Mj, Rj, u1, u2, u3, u4⟩ := ow.split hj
              refine ⟨p, vs, n, v, rfl, rfl, a1.ex.sqT htp, by rw [atI_of (by rw [ow.length]; exact e3)]; exact u1, ?_⟩
              cases u2 with
              | pure z => cases z
              | @own pj vj _ Mjj owj =>
                obtain ⟨rl, rfl⟩ := owj.repL hpu.1
                have inM : (pj, HO.lst vj) ∈ M := u3.mem_iff.mpr (List.mem_append.mpr (.inl List.mem_cons_self))
                have hpj1 : H1 pj = some (.lst vj) := t4.hold _ _ (List.mem_append.mpr (.inr inM))
                refine ⟨.inl ⟨rfl, _, sqL_of hpj1⟩, G1, _, R, args, ρ2, t5, t6, e4, fun as G2 H2 L2 a2 b2 c2 r2 => ?_⟩
                obtain ⟨z1, z2⟩ := t4.frame b2 a2
                have pm : (L2 ++ M).Perm ((pj, HO.lst vj) :: (Rj ++ L2)) := List.perm_append_comm.trans (u3.append_right L2)
                have z1' := z1.perm pm
                refine od pj vj as es0 args es' G2 H2 _ _ z1' (rl.mono b2.ex) r2 e5 fun vj' rj => ?_
                obtain ⟨w1, w2⟩ := z1'.change (.lst vj')
                obtain ⟨L9, y1, y2⟩ := u4 G2 (.own es') [(pj, HO.lst vj')] b2.ex (.own rj.ownL)
                have pm3 : ((pj, HO.lst vj') :: (Rj ++ L2)).Perm (L9 ++ L2) := y2.symm.append_right L2
                obtain ⟨L8, x1, x2, x3⟩ := c2.back (w1.perm pm3) s1 hpu.2 (.otp (b2.ex.sqT htp) y1)
                exact q σ G2 _ L8 x2 ((b1.trans ((z2.permL t3.symm).permR pm)).trans ((w2.permR pm3).trans x3)) x1 .refl
          · cases h3
        · cases h3
      · cases h3
    · cases h3
/-! ### x[a:b] = e -/
def gSlc (to ta tb : TE) : TG := fun v σ H Q => to σ H fun o H1 => ta σ H1 fun a H2 => tb σ H2 fun b H3 => ∃ p q xs ys i j, o = .ref p ∧ v = .ref q ∧ a = .int i ∧ b = .int j ∧ H3 p = some (.lst xs) ∧ H3 q = some (.lst ys) ∧ p ≠ q ∧ 0 ≤ i ∧ i ≤ j ∧ j ≤ xs.length ∧
  xs.length + ys.length ≤ sizeLine ∧ Q σ (upd H3 p (.lst (xs.take i.toNat ++ ys ++ xs.drop j.toNat)))
theorem pg_slc {o a b : Expr} {to ta tb : TE} (ho : PE X o to) (hae : PE X a ta) (hbe : PE X b tb)
    (ha : ∀ v, assign (.Subscript o (.Slice (some a) (some b) none p2) pos) X.env v = (do
      let ov ← holding [v] (eval o X.env)
      let iv ← holding [v, ov] (eval (.Slice (some a) (some b) none p2) X.env)
      standAt pos
      holding [v, ov, iv] (setItem ov iv v)
      release [v, ov, iv] []) := by intro _; rfl) : PG X (.Subscript o (.Slice (some a) (some b) none p2) pos) (gSlc to ta tb) := by
  refine ⟨fun pins s σ H v u Q I r h => ?_⟩
  rw [ha]
  refine wpAny_bind (wpAny_holding (thn (ho.run pins s σ H _ I h) fun ov s1 ⟨x, H1, I1, r1, q1⟩ => ?_))
  refine wpAny_bind (wpAny_holding (wpAny_Slice ?_))
  rw [evalPart_some, evalPart_some, evalPart_none]
  refine thn (hae.run pins s1 σ H1 _ I1 q1) fun vl s2 ⟨va, H2, I2, ra, q2⟩ => thn (hbe.run pins s2 σ H2 _ I2 q2) fun vu s3 ⟨vb, H3, I3, rb, q3⟩ => wpAny_pure ?_
  obtain ⟨p, q0, xs, ys, i, j, rfl, rfl, rfl, rfl, hp, hq, hne, h0, hij, hj, hz, q4⟩ := q3
  cases r1
  cases r
  have I4 : Inv X pins σ H3 { s3 with heap := s3.heap.push { cls := .type "slice", data := .fields #[vl, vu, .none] } } := I3.kept (t' := s3.toks) fun b ob q => Heap.get?_push_of_some _ q
  refine wpAny_bind (wpAny_standAt (wpAny_bind (wpAny_holding (set_slice I4 hp hq hne (Heap.IsSliceOf.new ..) ra rb h0 hij hj hz fun s5 I5 => ?_))))
  exact wpAny_release ⟨σ, _, I5, q4⟩
/-- x[a:b] = e, x an own list -/
def dSetSl (i : Nat) (f a b : DE) : DS := fun ρ => (f ρ).bind fun p => (ownAt p.2 i).bind fun _ => (a p.2).bind fun qa => (b qa.2).bind fun qb => match p.1, qa.1, qb.1 with
  | .lst es, .int n, .int m => (ownAt qb.2 i).bind fun ds => if ds.all D.pu = true ∧ 0 ≤ n ∧ n ≤ m ∧ m ≤ ds.length ∧ ds.length + es.length ≤ 1000000 then some (.nx (qb.2.set i (some (.own (ds.take n.toNat ++ es ++ ds.drop m.toNat))))) else none
  | _, _, _ => none
theorem ss_setsl (i : Nat) {a b : Expr} {fa fb : DE} (he : SE X e f) (hae : SE X a fa) (hbe : SE X b fb) (hN : X.N[i]? = some x := by rfl) (hv : Vis X.env.scope x := by first | exact Or.inl rfl | exact Or.inr (Or.inl rfl) | exact Or.inr (Or.inr rfl)) (hd : (x == ("__debug__" : Str)) = false := by decide)
    (hcd : (x == ("__classdict__" : Str)) = false := by decide) (ha : ∀ v, assign (.Subscript (.Name x px) (.Slice (some a) (some b) none p2) pk) X.env v = (do
      let ov ← holding [v] (eval (.Name x px) X.env)
      let iv ← holding [v, ov] (eval (.Slice (some a) (some b) none p2) X.env)
      standAt pk
      holding [v, ov, iv] (setItem ov iv v)
      release [v, ov, iv] []) := by intro _; rfl) (hs : swapsWithSole [.Subscript (.Name x px) (.Slice (some a) (some b) none p2) pk] e pos.line X.env = pure false := by rfl) (hw : swappedStores [.Subscript (.Name x px) (.Slice (some a) (some b) none p2) pk] e X.env = pure none := by rfl)
    (h1 : (assignEach [.Subscript (.Name x px) (.Slice (some a) (some b) none p2) pk] X.env).map (·.2) = [assign (.Subscript (.Name x px) (.Slice (some a) (some b) none p2) pk) X.env] := by rfl) :
    SS X io (.Assign [.Subscript (.Name x px) (.Slice (some a) (some b) none p2) pk] e pos) (dSetSl i f fa fb) :=
  ps_weak (ps_asg he (pg_slc (pe_var hN hv hd hcd) hae hbe ha) hs hw h1) fun De σ H ⟨G, ρ, L, fl, h1, h2, h3, q⟩ => by
    unfold dSetSl at h3
    obtain ⟨⟨d1, ρ1⟩, e1, h3⟩ := Option.bind_eq_some_iff.mp h3
    obtain ⟨ds0, e0, h3⟩ := Option.bind_eq_some_iff.mp h3
    obtain ⟨⟨d2, ρ2⟩, e2, h3⟩ := Option.bind_eq_some_iff.mp h3
    obtain ⟨⟨d3, ρ3⟩, e3, h3⟩ := Option.bind_eq_some_iff.mp h3
    dsimp only at h3 e2 e3 e0
    obtain ⟨es, n, m, rfl, rfl, rfl, h3⟩ : ∃ es n m, d1 = .lst es ∧ d2 = .int n ∧ d3 = .int m ∧ ((ownAt ρ3 i).bind fun ds => if ds.all D.pu = true ∧ 0 ≤ n ∧ n ≤ m ∧ m ≤ ds.length ∧ ds.length + es.length ≤ 1000000 then some (Fl.nx (ρ3.set i (some (.own (ds.take n.toNat ++ es ++ ds.drop m.toNat))))) else none) = some fl := by
      split at h3
      · exact ⟨_, _, _, rfl, rfl, rfl, h3⟩
      · cases h3
    · obtain ⟨ds, e4, h3⟩ := Option.bind_eq_some_iff.mp h3
      split at h3
      · rename_i hz
        cases h3
        refine ⟨G, ρ, L, _, ρ1, h1, h2, e1, fun v G1 H1 L1 a1 b1 c1 r1 => ?_⟩
        obtain ⟨v0, M0, R0, s1, _⟩ := c1.at (ownAt_some e0)
        refine ⟨v0, s1, G1, ρ1, L1, _, ρ2, a1, c1, e2, fun y G2 H2 L2 a2 b2 c2 r2 => ⟨G2, ρ2, L2, _, ρ3, a2, c2, e3, fun z G3 H3 L3 a3 b3 c3 r3 => ?_⟩⟩
        cases r2
        cases r3
        have r1' := r1.mono (b2.ex.trans b3.ex)
        obtain ⟨p, vs, M, R, t1, t2, t3, t4, t5⟩ := c3.front a3 (ownAt_some e4)
        rw [s1] at t1
        cases t1
        obtain ⟨rl, rfl⟩ := t2.repL hz.1
        cases r1' with
        | @lst q0 ys _ hq hr =>
          have hp := t3.hold p _ List.mem_cons_self
          have hq3 := a3.ex _ _ hq
          have big : sizeLine = 16777216 := sizeLine_eq
          have gp : G3 p = none := t3.out p _ List.mem_cons_self
          refine ⟨p, q0, vs, ys, n, m, rfl, rfl, rfl, rfl, hp, hq3, fun e9 => ?_, hz.2.1, hz.2.2.1, by rw [rl.length]; exact hz.2.2.2.1, by rw [rl.length, hr.length]; omega, ?_⟩
          · subst e9
            rw [gp] at hq
            cases hq
          · obtain ⟨z1, z2⟩ := t3.change (.lst (vs.take n.toNat ++ ys ++ vs.drop m.toNat))
            obtain ⟨L9, y1, y2⟩ := t5 G3 _ (ds.take n.toNat ++ es ++ ds.drop m.toNat) [] (Ex.refl _) (((rl.take _).append hr).append (rl.drop _)).ownL
            exact q σ G3 _ L9 (z1.perm y2.symm) (((b1.trans b2).trans b3).trans ((z2.permL t4.symm).permR y2.symm)) y1 .refl
      · cases h3
/-! ### x[k] += e, numbers -/
def rGetL : V → V → Hp → VK → Prop := fun o i H Q => ∃ p xs k v, o = .ref p ∧ i = .int k ∧ H p = some (.lst xs) ∧ 0 ≤ k ∧ atI xs k = some v ∧ Q v H
theorem pg_listI : PGet X rGetL := by
  intro pins s σ H o i ov iv Q I ro ri h
  obtain ⟨p, xs, k, z, rfl, rfl, hp, h0, he, q⟩ := h
  cases ro
  obtain ⟨t, rfl⟩ := ri
  obtain ⟨its, r, pl, hz⟩ := I.list (sqL_of hp)
  obtain ⟨j, h1, h2, h3, h4, h5⟩ := atI_get he
  obtain ⟨w, ew, rw'⟩ := r.get h2
  have hl := r.length
  have hn := line63
  have fin : EP X pins σ Q w s := ⟨z, H, I, rw', q⟩
  have hj : k.toNat = j := by
    rw [seqIndex_of h0 h5] at h1
    exact Option.some.inj h1
  exact wpAny_getItem_list pl.isList h0 (by omega) (by rw [hj]; simpa using ew) fin
/-- x[k] += e, x an own list -/
def dAugIx (i : Nat) (r : D → D → Option D) (gk f : DE) : DS := fun ρ => (ownAt ρ i).bind fun _ => (gk ρ).bind fun z => match z.1 with
  | .int n => (ownAt z.2 i).bind fun ds => (atI ds n).bind fun a => (f z.2).bind fun p => (r a p.1).bind fun d => (ownAt p.2 i).bind fun es => (ixN es.length n).bind fun j => if 0 ≤ n ∧ a.flat = true ∧ d.flat = true then some (.nx (p.2.set i (some (.own (es.set j d))))) else none
  | _ => none
theorem ss_augix (i : Nat) {op : Operator} {R : R2} {r : D → D → Option D} (hk : SE X k g) (he : SE X e f) (hp : PIp X op R) (od : OpD X.K R r) (hN : X.N[i]? = some x := by rfl) (hv : Vis X.env.scope x := by first | exact Or.inl rfl | exact Or.inr (Or.inl rfl) | exact Or.inr (Or.inr rfl)) (hd : (x == ("__debug__" : Str)) = false := by decide)
    (hcd : (x == ("__classdict__" : Str)) = false := by decide)
    (ha : ∀ ov iv new, augStore k ov iv new = (do holding [new, ov, iv] (setItem ov iv new); release [new, ov, iv] []; pure .next) := by intros; rfl) : SS X io (.AugAssign (.Subscript (.Name x px) k p2) op e pos) (dAugIx i r g f) :=
  ps_weak (ps_augS (pe_var hN hv hd hcd) hk pg_listI he hp L2.set_list ha) fun De σ H ⟨G, ρ, L, fl, h1, h2, h3, q⟩ => by
    unfold dAugIx at h3
    obtain ⟨ds0, e0, h3⟩ := Option.bind_eq_some_iff.mp h3
    obtain ⟨⟨d1, ρ1⟩, e1, h3⟩ := Option.bind_eq_some_iff.mp h3
    dsimp only at h3
    split at h3
    · rename_i n
      obtain ⟨ds, e2, h3⟩ := Option.bind_eq_some_iff.mp h3
      obtain ⟨a, e3, h3⟩ := Option.bind_eq_some_iff.mp h3
      obtain ⟨⟨d2, ρ2⟩, e4, h3⟩ := Option.bind_eq_some_iff.mp h3
      obtain ⟨d, e5, h3⟩ := Option.bind_eq_some_iff.mp h3
      obtain ⟨es, e6, h3⟩ := Option.bind_eq_some_iff.mp h3
      obtain ⟨j, e7, h3⟩ := Option.bind_eq_some_iff.mp h3
      dsimp only at h3 e4 e5 e6
      split at h3
      · rename_i hz
        cases h3
        obtain ⟨v0, M0, R0, s1, _⟩ := h2.at (ownAt_some e0)
        refine ⟨v0, s1, G, ρ, L, _, _, h1, h2, e1, fun y G1 H1 L1 a1 b1 c1 r1 => ?_⟩
        cases r1
        obtain ⟨p, vs, M, R', t1, t2, t3, t4, t5⟩ := c1.front a1 (ownAt_some e2)
        rw [s1] at t1
        cases t1
        obtain ⟨j0, i1, i2⟩ := atI_ix e3
        obtain ⟨va, Ma, u1, u2⟩ := t2.at i2
        have ra := (u2.rep (by cases a <;> first | rfl | cases hz.2.1)).1
        refine ⟨p, vs, n, va, rfl, rfl, t3.hold p _ List.mem_cons_self, hz.1, by rw [atI_of (by rw [t2.length]; exact i1)]; exact u1, G1, ρ1, L1, d2, ρ2, a1, c1, e4, fun w G2 H2 L2 a2 b2 c2 r2 => ?_⟩
        refine od va w a d2 d G2 H2 L2 _ a2 (ra.mono b2.ex) r2 e5 fun v G3 H3 M3 a3 b3 o3 => ?_
        obtain ⟨r9, rfl⟩ := o3.rep (by cases d <;> first | rfl | cases hz.2.2)
        have c3 := c2.mono b3.ex
        obtain ⟨p', vs', M', R'', t1, w2, w3, w4, w5⟩ := c3.front a3 (ownAt_some e6)
        rw [s1] at t1
        cases t1
        refine ⟨p, vs', n, j, rfl, rfl, w3.hold p _ List.mem_cons_self, by rw [w2.length]; exact e7, ?_⟩
        obtain ⟨Md, Rd, L', q1, q2, q3⟩ := OwnL.set (.pure r9 : Own X.K G3 v d []) j (ixN_lt e7) w2
        have pm : ((p, HO.lst vs') :: (M' ++ R'')).Perm (Md ++ ((p, HO.lst vs') :: (Rd ++ R''))) := (List.Perm.cons _ (by rw [← List.append_assoc]; exact q1.append_right R'')).trans List.perm_middle.symm
        have t3' := (w3.perm pm).left
        obtain ⟨z1, z2⟩ := t3'.change (.lst (vs'.set j v))
        obtain ⟨L9, y1, y2⟩ := w5 G3 (vs'.set j v) (es.set j d) L' (Ex.refl _) q2
        have pm2 : ((p, HO.lst (vs'.set j v)) :: (Rd ++ R'')).Perm L9 := (y2.trans (List.Perm.cons _ (q3.append_right R''))).symm
        refine q σ G3 _ L9 (z1.perm pm2) (((b1.trans b2).trans b3).trans ?_) y1 .refl
        exact (((Stp.refl.permR (w4.trans pm)).less).trans z2).permR pm2
      · cases h3
    · cases h3
end
/-! ### what is wanted -/
def OnDict (d : D) (K : DC → List D → Prop) : Prop := match d with | .odx c ds => K c ds | .dix c ds => K c ds | _ => False
theorem OnDict_o {c : DC} {ds : List D} {K : DC → List D → Prop} : OnDict (.odx c ds) K = K c ds := rfl
theorem OnDict_i {c : DC} {ds : List D} {K : DC → List D → Prop} : OnDict (.dix c ds) K = K c ds := rfl
def OnOdx (d : D) (K : DC → List D → Prop) : Prop := match d with | .odx c ds => K c ds | _ => False
theorem OnOdx_o {c : DC} {ds : List D} {K : DC → List D → Prop} : OnOdx (.odx c ds) K = K c ds := rfl
def OnDix (d : D) (K : DC → List D → Prop) : Prop := match d with | .dix c ds => K c ds | _ => False
theorem OnDix_i {c : DC} {ds : List D} {K : DC → List D → Prop} : OnDix (.dix c ds) K = K c ds := rfl
def OnOtp (d : D) (K : List D → Prop) : Prop := match d with | .otp i => K i | _ => False
theorem OnOtp_o {i : List D} {K : List D → Prop} : OnOtp (.otp i) K = K i := rfl
section
variable {f g h : DE} {fa : DA} {gk : DKy} {ρ : Ev} {Q : D → Ev → Prop} {QF : Fl → Prop} {i : Nat} {n : Bool} {r : D → D → Option D} {m : List D → List D → Option (List D)}
theorem slot_lt {ρ : Ev} {i : Nat} {d : Option D} (h : ρ[i]? = some d) : i < ρ.length := by
  rcases Nat.lt_or_ge i ρ.length with z | z
  · exact z
  · rw [List.getElem?_eq_none z] at h; cases h
theorem W_dictAt {K : DC → List D → Prop} : W2 (dictAt ρ i) K = At? ρ i fun d => OnDict d K := by
  unfold dictAt
  cases hx : ρ[i]? with
  | none => rw [At_no (by rw [hx]; intro d e; cases e), W2_none]
  | some x =>
    cases x with
    | none => rw [At_no (by rw [hx]; intro d e; cases e), W2_none]
    | some d =>
      rw [At_some hx]
      cases d <;> first | exact W2_none | exact W2_some
theorem W_newK : W2 (dNewK ρ) Q = Q (.odx (.k []) []) ρ := W2_some
theorem W_newT : W2 (dNewT ρ) Q = Q (.odx (.t []) []) ρ := W2_some
theorem W_kVal {Q : KD → Ev → Prop} : W2 (kVal f ρ) Q = W2 (f ρ) fun d ρ1 => W d.key fun k => Q (.k k) ρ1 := by
  unfold kVal; simp only [W2_bind, W_pair, W2_some]
theorem W_kTup {Q : KD → Ev → Prop} : W2 (kTup fa ρ) Q = W2 (fa ρ) fun ds ρ1 => W (keysD ds) fun k => ds.length ≤ 1000 ∧ Q (.t k) ρ1 := by
  unfold kTup; simp only [W2_bind, W_pair, W2_guard, W2_some]
theorem W_keyI {k : Int} {K : Key → Prop} : W (D.key (.int k)) K = K (.inl k) := W_some
theorem W_keyS {k : Str} {K : Key → Prop} : W (D.key (.str k)) K = K (.inr k) := W_some
theorem W_keys0 {K : List Key → Prop} : W (keysD []) K = K [] := W_some
theorem W_keysC {d : D} {ds : List D} {K : List Key → Prop} : W (keysD (d :: ds)) K = W d.key fun k => W (keysD ds) fun ks => K (k :: ks) := by
  rw [keysD]; simp only [W_bind, W_some]
theorem W_dgetK {ks : List Key} {ds : List D} {k : Key} {K : Option D → Prop} : W (dcGet (.k ks) ds (.k k)) K = K (kget ks ds k) := W_some
theorem W_dgetT {ks : List (List Key)} {ds : List D} {k : List Key} {K : Option D → Prop} : W (dcGet (.t ks) ds (.t k)) K = K (kget ks ds k) := W_some
theorem W_dputK {ks : List Key} {ds : List D} {k : Key} {d : D} {K : DC → List D → Prop} : W2 (dcPut (.k ks) ds (.k k) d) K = K (.k (kputK ks k)) (kputV ks ds k d) := W2_some
theorem W_dputT {ks : List (List Key)} {ds : List D} {k : List Key} {d : D} {K : DC → List D → Prop} : W2 (dcPut (.t ks) ds (.t k) d) K = K (.t (kputK ks k)) (kputV ks ds k d) := W2_some
theorem W_dg : W2 (dDGet i gk ρ) Q = At? ρ i fun d => OnDict d fun _ _ => W2 (gk ρ) fun kd ρ1 => At? ρ1 i fun d => OnDict d fun c ds => W (dcGet c ds kd) fun o => W o fun d => Q d ρ1 := by
  unfold dDGet; simp only [W2_bind, W_pair, W_dictAt, W2_some]
theorem W_dgE : W2 (dDGetE f gk ρ) Q = W2 (f ρ) fun a ρ1 => W2 (gk ρ1) fun kd ρ2 => OnDix a fun c ds => W (dcGet c ds kd) fun o => W o fun d => Q d ρ2 := by
  unfold dDGetE; simp only [W2_bind, W_pair]
  congr; funext a ρ1; congr; funext kd ρ2
  cases a <;> first | exact W2_none | simp only [W2_bind, W2_some, OnDix]
theorem W_din : W2 (dDIn n i gk ρ) Q = W2 (gk ρ) fun kd ρ1 => At? ρ1 i fun d => OnDict d fun c ds => W (dcGet c ds kd) fun o => Q (.bl (o.isSome != n)) ρ1 := by
  unfold dDIn; simp only [W2_bind, W_pair, W_dictAt, W2_some]
theorem W_dg2 : W2 (dDGet2 i g h ρ) Q = At? ρ i fun d => OnDict d fun _ _ => W2 (g ρ) fun k ρ1 => W2 (h ρ1) fun z ρ2 => W k.key fun k => At? ρ2 i fun d => OnDict d fun c ds => W (dcGet c ds (.k k)) fun o => Q (o.getD z) ρ2 := by
  unfold dDGet2; simp only [W2_bind, W_pair, W_dictAt, W2_some]
theorem W_dput : W (dDPut i f gk ρ) QF = W2 (f ρ) fun d ρ1 => At? ρ1 i fun o => OnDict o fun _ _ => W2 (gk ρ1) fun kd ρ2 => At? ρ2 i fun o => OnOdx o fun c ds => ds.length < 1000000 ∧ W2 (dcPut c ds kd d) fun c' ds' => Set? ρ2 i (some (.odx c' ds')) fun ρ3 => QF (.nx ρ3) := by
  unfold dDPut; simp only [W_bind, W_pair, W_dictAt]
  congr; funext d ρ1; congr; funext o; congr; funext c0 ds0; congr; funext kd ρ2
  cases hx : ρ2[i]? with
  | none => rw [At_no (by rw [hx]; intro d e; cases e), W_none]
  | some x =>
    cases x with
    | none => rw [At_no (by rw [hx]; intro d e; cases e), W_none]
    | some d =>
      rw [At_some hx]
      cases d <;> first | exact W_none | skip
      simp only [OnOdx, W_guard, W_bind, W_pair, W_some, Set?, slot_lt hx, true_and]
theorem W_dupd : W (dDUpd i f ρ) QF = At? ρ i fun o => OnDict o fun _ _ => W2 (f ρ) fun a ρ1 => At? ρ1 i fun o => OnOdx o fun c ds => OnLst a fun xs => ds.length + xs.length ≤ 1000000 ∧ W (allD pairD xs) fun kvs => match c with | .k ks => Set? ρ1 i (some (.odx (.k (mergeD (ks, ds) kvs).1) (mergeD (ks, ds) kvs).2)) fun ρ2 => QF (.nx ρ2) | _ => False := by
  unfold dDUpd; simp only [W_bind, W_pair, W_dictAt]
  congr; funext o; congr; funext c0 ds0; congr; funext a ρ1
  cases hx : ρ1[i]? with
  | none => rw [At_no (by rw [hx]; intro d e; cases e)]; cases a <;> exact W_none
  | some x =>
    cases x with
    | none => rw [At_no (by rw [hx]; intro d e; cases e)]; cases a <;> exact W_none
    | some d =>
      rw [At_some hx]
      cases d with
      | odx c ds =>
        cases c with
        | k ks =>
          cases a <;> try exact W_none
          simp only [OnOdx, OnLst, W_guard, W_bind, W_some, Set?, slot_lt hx, true_and]
        | t ks =>
          cases a <;> try exact W_none
          simp only [OnOdx, OnLst, W_none]
          exact propext ⟨False.elim, fun h => by obtain ⟨_, z, _, q⟩ := h; exact q⟩
      | _ => cases a <;> exact W_none
theorem W_tupO : W2 (dTupO fa ρ) Q = W2 (fa ρ) fun as ρ1 => as.length ≤ 1000 ∧ Q (.otp as) ρ1 := by
  unfold dTupO; simp only [W2_bind, W_pair, W2_guard, W2_some]
theorem W_ixF : W2 (dIxF i g ρ) Q = At? ρ i fun _ => W2 (g ρ) fun k ρ1 => At? ρ1 i fun o => OnInt k fun k => OnOwn o fun ds => W (ixN ds.length k) fun j => W (ds[j]?) fun d => Frz? d fun d' => Set? ρ1 i (some (.own (ds.set j d'))) fun ρ2 => Q d' ρ2 := by
  unfold dIxF
  split
  · rw [At_some (by assumption)]
    simp only [W2_bind, W_pair]
    congr; funext k ρ1
    cases hx : ρ1[i]? with
    | none => rw [At_no (by rw [hx]; intro d e; cases e)]; cases k <;> exact W2_none
    | some x =>
      cases x with
      | none => rw [At_no (by rw [hx]; intro d e; cases e)]; cases k <;> exact W2_none
      | some d =>
        rw [At_some hx]
        cases d <;> cases k <;> first | exact W2_none | simp only [W2_bind, W2_some, OnInt, OnOwn, Frz?, Set?, slot_lt hx, true_and]
  · rw [At_no (by assumption), W2_none]
theorem W_own2 : W (dOwn2 i g m fa ρ) QF = At? ρ i fun o => OnOwn o fun _ => W2 (g ρ) fun k ρ1 => OnInt k fun k => At? ρ1 i fun o => OnOwn o fun ds => W (ixN ds.length k) fun j => Put? ρ1 i none fun ρ0 => W2 (fa ρ0) fun as ρ2 => W (ds[j]?) fun d => OnOwn d fun es => es.all D.pu = true ∧ W (m es as) fun es' => Set? ρ2 i (some (.own (ds.set j (.own es')))) fun ρ3 => QF (.nx ρ3) := by
  unfold dOwn2; simp only [W_bind, W_own, W_pair]
  congr; funext o; congr; funext ds0; congr; funext k ρ1
  cases k <;> try exact W_none
  simp only [OnInt, W_bind, W_own, W_pair]
  congr; funext o; congr; funext ds; congr; funext j
  show W2 _ _ = W2 _ _
  congr; funext as ρ2
  cases hx : ds[j]? with
  | none => simp only [W_none]
  | some d =>
    rw [W_some]
    cases d <;> try exact W_none
    simp only [OnOwn, W_guard, W_bind, W_some, Set?]
    refine propext ⟨fun h => ⟨h.1.1, W_mono h.2 fun _ q => ⟨h.1.2, q⟩⟩, fun h => ?_⟩
    obtain ⟨h1, a, h2, h3, h4⟩ := h
    exact ⟨⟨h1, h3⟩, a, h2, h4⟩
theorem W_setixN {k : DE} : W (dSetIxN i f k ρ) QF = W2 (f ρ) fun d ρ1 => At? ρ1 i fun o => OnOwn o fun _ => W2 (k ρ1) fun n ρ2 => OnInt n fun n => At? ρ2 i fun o => OnOwn o fun ds => SetI? ds n d fun ds' => Set? ρ2 i (some (.own ds')) fun ρ3 => QF (.nx ρ3) := by
  have e : dSetIxN i f k ρ = dSetIx i f k ρ := rfl
  rw [e, W_setix]
theorem W_ownT : W (dOwnT i g m fa ρ) QF = At? ρ i fun o => OnOtp o fun _ => W2 (g ρ) fun k ρ1 => OnInt k fun k => At? ρ1 i fun o => OnOtp o fun ds => W (ixN ds.length k) fun j => Put? ρ1 i none fun ρ0 => W2 (fa ρ0) fun as ρ2 => W (ds[j]?) fun d => OnOwn d fun es => es.all D.pu = true ∧ W (m es as) fun es' => Set? ρ2 i (some (.otp (ds.set j (.own es')))) fun ρ3 => QF (.nx ρ3) := by
  unfold dOwnT
  cases hx0 : ρ[i]? with
  | none => rw [At_no (by rw [hx0]; intro d e; cases e), W_none]
  | some x0 =>
    cases x0 with
    | none => rw [At_no (by rw [hx0]; intro d e; cases e), W_none]
    | some d0 =>
      rw [At_some hx0]
      cases d0 <;> try exact W_none
      simp only [OnOtp, W_bind, W_pair]
      congr; funext k ρ1
      cases k <;> try exact W_none
      simp only [OnInt]
      cases hx : ρ1[i]? with
      | none => rw [At_no (by rw [hx]; intro d e; cases e), W_none]
      | some x =>
        cases x with
        | none => rw [At_no (by rw [hx]; intro d e; cases e), W_none]
        | some d =>
          rw [At_some hx]
          cases d <;> try exact W_none
          simp only [W_bind, W_pair]
          congr; funext j
          show W2 _ _ = W2 _ _
          congr; funext as ρ2
          rename_i ds
          cases hy : ds[j]? with
          | none => simp only [W_none]
          | some d =>
            rw [W_some]
            cases d <;> try exact W_none
            simp only [OnOwn, W_guard, W_bind, W_some, Set?]
            refine propext ⟨fun h => ⟨h.1.1, W_mono h.2 fun _ q => ⟨h.1.2, q⟩⟩, fun h => ?_⟩
            obtain ⟨h1, a, h2, h3, h4⟩ := h
            exact ⟨⟨h1, h3⟩, a, h2, h4⟩
theorem W_setsl {a b : DE} : W (dSetSl i f a b ρ) QF = W2 (f ρ) fun d ρ1 => At? ρ1 i fun o => OnOwn o fun _ => W2 (a ρ1) fun n ρ2 => W2 (b ρ2) fun l ρ3 => OnLst d fun es => OnInt n fun n => OnInt l fun l => At? ρ3 i fun o => OnOwn o fun ds =>
    (ds.all D.pu = true ∧ 0 ≤ n ∧ n ≤ l ∧ l ≤ ds.length ∧ ds.length + es.length ≤ 1000000) ∧ Set? ρ3 i (some (.own (ds.take n.toNat ++ es ++ ds.drop l.toNat))) fun ρ4 => QF (.nx ρ4) := by
  unfold dSetSl; simp only [W_bind, W_own, W_pair]
  congr; funext d ρ1; congr; funext o; congr; funext ds0; congr; funext n ρ2; congr; funext l ρ3
  cases d <;> try exact W_none
  cases n <;> try exact W_none
  cases l <;> try exact W_none
  simp only [OnLst, OnInt, W_bind, W_own]
  cases hx : ρ3[i]? with
  | none => rw [At_no (by rw [hx]; intro d e; cases e), At_no (by rw [hx]; intro d e; cases e)]
  | some x =>
    cases x with
    | none => rw [At_no (by rw [hx]; intro d e; cases e), At_no (by rw [hx]; intro d e; cases e)]
    | some d =>
      rw [At_some hx, At_some hx]
      cases d <;> try rfl
      simp only [OnOwn, W_guard, W_some, Set?, slot_lt hx, true_and]
theorem W_augix : W (dAugIx i r g f ρ) QF = At? ρ i fun o => OnOwn o fun _ => W2 (g ρ) fun k ρ1 => OnInt k fun k => At? ρ1 i fun o => OnOwn o fun ds => W (atI ds k) fun a => W2 (f ρ1) fun b ρ2 => W (r a b) fun d => At? ρ2 i fun o => OnOwn o fun es => W (ixN es.length k) fun j => (0 ≤ k ∧ a.flat = true ∧ d.flat = true) ∧ Set? ρ2 i (some (.own (es.set j d))) fun ρ3 => QF (.nx ρ3) := by
  unfold dAugIx; simp only [W_bind, W_own, W_pair]
  congr; funext o; congr; funext ds0; congr; funext k ρ1
  cases k <;> try exact W_none
  simp only [OnInt, W_bind, W_own, W_pair]
  congr; funext o; congr; funext ds; congr; funext a; congr; funext b ρ2; congr; funext d
  cases hx : ρ2[i]? with
  | none => rw [At_no (by rw [hx]; intro d e; cases e), At_no (by rw [hx]; intro d e; cases e)]
  | some x =>
    cases x with
    | none => rw [At_no (by rw [hx]; intro d e; cases e), At_no (by rw [hx]; intro d e; cases e)]
    | some d =>
      rw [At_some hx, At_some hx]
      cases d <;> try rfl
      simp only [OnOwn, W_guard, W_some, Set?, slot_lt hx, true_and]
theorem Frz_odx {c : DC} {ds : List D} {K : D → Prop} : Frz? (.odx c ds) K = K (.dix c ds) := rfl
theorem Frz_dix {c : DC} {ds : List D} {K : D → Prop} : Frz? (.dix c ds) K = K (.dix c ds) := rfl
theorem Frz_otp {ds : List D} {K : D → Prop} : Frz? (.otp ds) K = FrzL? ds fun ds => K (.tup ds) := rfl
theorem pu_dix {c : DC} {ds : List D} : (D.dix c ds).pu = true := rfl
theorem pu_kt {k : List Key} : (D.kt k).pu = true := rfl
end
end Pd
namespace Pd
open PySem PySem.Spec PyProof.Rows L2
def owAppend (ds args : List D) : Option (List D) := match args with | [d] => if ds.length < 1000000 then some (ds ++ [d]) else none | _ => none
theorem od_append {K : PySem.W.Frag} : OwnD K rAppend owAppend := fun p vs as ds args es G H L Q s r ra e q => by
  unfold owAppend at e
  split at e
  · split at e
    · rename_i hz
      cases e
      cases ra with
      | cons r1 ra =>
        cases ra
        refine ⟨p, vs, _, rfl, rfl, s.hold p _ List.mem_cons_self, ?_, q _ (r.append (.cons r1 .nil))⟩
        rw [r.length]
        have : sizeLine = 16777216 := sizeLine_eq
        omega
    · cases e
  · cases e
theorem W_owApp {ds : List D} {d : D} {QL : List D → Prop} : W (owAppend ds [d]) QL = (ds.length < 1000000 ∧ QL (ds ++ [d])) := by
  show W (if _ then _ else _) QL = _
  rw [W_guard, W_some]
theorem pu_dictP {ds : List D} {d : D} (h : biDictP ds = some d) : ∃ c xs, d = .odx c xs := by
  unfold biDictP at h
  split at h
  · split at h
    · obtain ⟨kvs, _, h⟩ := Option.bind_eq_some_iff.mp h
      cases h
      exact ⟨_, _, rfl⟩
    · cases h
  · cases h
theorem W_dictP {xs : List D} {Q : D → Prop} : W (biDictP [.lst xs]) Q = (xs.length ≤ 1000000 ∧ W (allD pairD xs) fun kvs => Q (.odx (.k (mergeD ([], []) kvs).1) (mergeD ([], []) kvs).2)) := by
  show W (if _ then _ else _) Q = _
  rw [W_guard, W_bind]
  congr; funext kvs
  rw [W_some]
end Pd

/-! PdTmul: a tuple times a number, once too. -/
namespace Pd
open PySem PySem.Spec PyProof.Rows L2
theorem tuple_mul1 (l : Addr) (items : Array Value) (n : Nat) (sl : Array (Option Value)) (dd : Option Addr) (u : Tok) :
    Meets (Builtin.«tuple.__mul__» ⟨[.ref l, .int 1 u], []⟩) (fun _ R s => s.heap.get? l = some { cls := .type "tuple", dict := dd, data := .seq items n, slots := sl } ∧ R (.ok (.ret (Value.ref l))) s) :=
  .of_wp fun prog w A R s h => by
    obtain ⟨hp, g, d, tk, os⟩ := s
    obtain ⟨hl, h⟩ := h
    have f1 := AutoSeq1.idx_int
    have c1 : (items.isEmpty || ((1 : Int) == 1)) = true := by rw [show ((1 : Int) == 1) = true from rfl, Bool.or_true]
    wp_walk using wpAny_loadPart' hl
    repeat (first
      | (refine wpAny_ite_false (decide_eq_false (by decide)) ?_; wp_walk using wpAny_loadPart' hl)
      | (refine wpAny_ite_true (decide_eq_true c1) ?_; wp_walk using wpAny_loadPart' hl))
    exact ⟨_, rfl, h⟩
def rRep1 (K : PySem.W.Frag) : R2 := fun x y H Q => ∃ l xs, x = .ref l ∧ y = .int 1 ∧ SqT K H l xs ∧ Q (.ref l) H
theorem op_rep1 {X : Cx} : OpR X (binaryOp .Mult) (rRep1 X.K) := by
  intro pins s σ H x y v u Q I rx ry h
  obtain ⟨l, xs, rfl, rfl, hT, q⟩ := h
  cases rx
  obtain ⟨t, rfl⟩ := ry
  obtain ⟨its, r, ⟨⟨cls, dd, data, sl⟩, ho, hc, n, hd⟩, hs⟩ := I.tuple hT
  simp only at hc hd
  subst hc hd
  refine wpAny_binaryOp_repeat_ref (T := "tuple") (U := "int") (by decide) ⟨_, ho, rfl⟩ (fun s' => typeIs_int s' 1 t) noFill_tuple_mul F.fills_int_mul F.slot_int_rmul repeat_tuple F.slot_int_index.lookup
    (call_meets F.slot_int_rmul (typeIs_int s 1 t) F.entry_int_rmul (F.args_int_rmul_2 _ _) (int_rmul_tuple 1 t l its.toArray n dd sl)
      ⟨ho, rfl, ⟨_, ho, rfl⟩, call_meets F.slot_tuple_mul ⟨_, ho, rfl⟩ F.entry_tuple_mul (F.args_tuple_mul_2 _ _) (tuple_mul1 l its.toArray n sl dd t) ⟨ho, ?_⟩⟩)
  exact ⟨.ref l, H, I, rfl, q⟩
def opMulT (a b : D) : Option D := match a, b with
  | .tup xs, .int k => if xs ≠ [] ∧ 1 ≤ k ∧ k ≤ 1000 ∧ xs.length ≤ 1000 then some (.tup (List.replicate k.toNat xs).flatten) else none
  | _, _ => none
theorem or_mulT {X : Cx} : OpR X (binaryOp .Mult) (fun x y H Q => rRepT X.K x y H Q ∨ rRep1 X.K x y H Q) := opr_or op_repT op_rep1
theorem od_mulT {K : PySem.W.Frag} : OpD K (fun x y H Q => rRepT K x y H Q ∨ rRep1 K x y H Q) opMulT := fun x y a b d G H L Q s ra rb e q => by
  unfold opMulT at e
  split at e
  · split at e
    · rename_i xs k hz
      cases e
      cases rb
      cases ra with
      | tup h1 r1 =>
        by_cases hk : k = 1
        · subst hk
          refine .inr ⟨_, _, rfl, rfl, s.ex.sqT h1, plain_end s (.tup h1 ?_) q⟩
          rw [show (List.replicate (1 : Int).toNat xs).flatten = xs by simp]
          exact r1
        · refine .inl ⟨_, _, _, rfl, rfl, s.ex.sqT h1, fun z => hz.1 ?_, by omega, hz.2.2.1, by rw [r1.length]; exact hz.2.2.2, fun p hp => ?_⟩
          · subst z
            exact List.length_eq_zero_iff.mp (by rw [← r1.length]; rfl)
          · obtain ⟨z1, z2, z3⟩ := s.new (.tup (List.replicate k.toNat _).flatten) hp
            exact q _ _ _ [] z1 z2 (.pure (.tup (sqT_of upd_same) ((r1.rep _).mono z3)))
    · cases e
  · cases e
theorem pu_mulT : ∀ a b d, opMulT a b = some d → d.pu = true := fun a b d h => by
  unfold opMulT at h
  split at h
  · split at h
    · cases h; rfl
    · cases h
  · cases h
theorem W_mulT {xs : List D} {k : Int} {Q : D → Prop} : W (opMulT (.tup xs) (.int k)) Q = ((xs ≠ [] ∧ 1 ≤ k ∧ k ≤ 1000 ∧ xs.length ≤ 1000) ∧ Q (.tup (List.replicate k.toNat xs).flatten)) := by
  unfold opMulT
  rw [W_guard, W_some]
end Pd

namespace Yk14
open PySem PySem.Spec PyProof.Rows L2 Pd
/-! ### the text -/
def topS (i : Nat) : Stmt := PySem.Challenge.pw_caseways_k14_rows_read_beyond.main.body.getD i (.Pass ⟨0, 0, 0, 0⟩)
abbrev s_init_Beyond : Stmt := clsInit (topS 3)
theorem sc_init_Beyond : FnScope ["self", "row"] ["self", "row"] (defScope s_init_Beyond) := ⟨rfl, rfl, rfl, by decide +kernel, rfl, by decide +kernel, by decide +kernel⟩
abbrev s_goal_of : Stmt := topS 8
theorem sc_goal_of : FnScope ["row", "number", "word", "place"] ["row", "number"] (defScope s_goal_of) := ⟨rfl, rfl, rfl, by decide +kernel, rfl, by decide +kernel, by decide +kernel⟩
abbrev s_run : Stmt := topS 9
theorem sc_run : FnScope ["rows", "number", "done", "at", "goal"] ["rows", "number"] (defScope s_run) := ⟨rfl, rfl, rfl, by decide +kernel, rfl, by decide +kernel, by decide +kernel⟩
abbrev s_law_cell_at : Stmt := topS 11
theorem sc_law_cell_at : FnScope ["_law_script", "_law_k"] ["_law_script", "_law_k"] (defScope s_law_cell_at) := ⟨rfl, rfl, rfl, by decide +kernel, rfl, by decide +kernel, by decide +kernel⟩
abbrev s_law_tape : Stmt := topS 12
theorem sc_law_tape : FnScope ["_law_script", "_law_k", "_law_cell"] ["_law_script", "_law_k"] (defScope s_law_tape) := ⟨rfl, rfl, rfl, by decide +kernel, rfl, by decide +kernel, by decide +kernel⟩
abbrev s_law_take : Stmt := topS 13
theorem sc_law_take : FnScope ["_law_tape_here", "_law_many", "_law_prime", "_law_once", "_law_found"] ["_law_tape_here", "_law_many"] (defScope s_law_take) := ⟨rfl, rfl, rfl, by decide +kernel, rfl, by decide +kernel, by decide +kernel⟩
abbrev s_law_same : Stmt := topS 14
theorem sc_law_same : FnScope ["_law_found", "_law_due", "_law_one", "_law_other"] ["_law_found", "_law_due"] (defScope s_law_same) := ⟨rfl, rfl, rfl, by decide +kernel, rfl, by decide +kernel, by decide +kernel⟩
abbrev s_law_word : Stmt := topS 15
theorem sc_law_word : FnScope ["_law_caught", "_law_some"] ["_law_caught"] (defScope s_law_word) := ⟨rfl, rfl, rfl, by decide +kernel, rfl, by decide +kernel, by decide +kernel⟩
abbrev s_law_rows : Stmt := topS 16
theorem sc_law_rows : FnScope ["_law_tape_here", "_law_many", "_law_rows_here", "_law_at", "_law_way", "_law_goal", "_law_n", "_law_bits", "_law_low", "_law_wide", "_law_k"] ["_law_tape_here", "_law_many"] (defScope s_law_rows) := ⟨rfl, rfl, rfl, by decide +kernel, rfl, by decide +kernel, by decide +kernel⟩
abbrev s_law_behind : Stmt := topS 17
theorem sc_law_behind : FnScope ["_law_rows_here", "_law_at", "_law_number", "_law_row", "_law_place"] ["_law_rows_here", "_law_at", "_law_number"] (defScope s_law_behind) := ⟨rfl, rfl, rfl, by decide +kernel, rfl, by decide +kernel, by decide +kernel⟩
abbrev s_law_run : Stmt := topS 18
theorem sc_law_run : FnScope ["_law_rows_here", "_law_number", "_law_done", "_law_after"] ["_law_rows_here", "_law_number"] (defScope s_law_run) := ⟨rfl, rfl, rfl, by decide +kernel, rfl, by decide +kernel, by decide +kernel⟩
abbrev s_law_refused : Stmt := topS 19
theorem sc_law_refused : FnScope ["_law_rows_here", "_law_number", "_law_caught", "error"] ["_law_rows_here", "_law_number"] (defScope s_law_refused) := ⟨rfl, rfl, rfl, by decide +kernel, rfl, by decide +kernel, by decide +kernel⟩
abbrev s_law : Stmt := topS 20
theorem sc_law : FnScope ["_law_script", "_law_k", "_law_tape_here", "_law_rows_here", "_law_wide", "_law_first", "_law_kept", "_law_number", "_law_label", "_law_done"] ["_law_script"] (defScope s_law) := ⟨rfl, rfl, rfl, by decide +kernel, rfl, by decide +kernel, by decide +kernel⟩
structure Tx (K : PySem.W.Frag) (mg : Str → Option Value) : Prop where
  d_goal_of : ∃ f fd, At K mg "goal_of" s_goal_of ["row", "number"] f fd
  d_run : ∃ f fd, At K mg "run" s_run ["rows", "number"] f fd
  d_law_cell_at : ∃ f fd, At K mg "_law_cell_at" s_law_cell_at ["_law_script", "_law_k"] f fd
  d_law_tape : ∃ f fd, At K mg "_law_tape" s_law_tape ["_law_script", "_law_k"] f fd
  d_law_take : ∃ f fd, At K mg "_law_take" s_law_take ["_law_tape_here", "_law_many"] f fd
  d_law_same : ∃ f fd, At K mg "_law_same" s_law_same ["_law_found", "_law_due"] f fd
  d_law_word : ∃ f fd, At K mg "_law_word" s_law_word ["_law_caught"] f fd
  d_law_rows : ∃ f fd, At K mg "_law_rows" s_law_rows ["_law_tape_here", "_law_many"] f fd
  d_law_behind : ∃ f fd, At K mg "_law_behind" s_law_behind ["_law_rows_here", "_law_at", "_law_number"] f fd
  d_law_run : ∃ f fd, At K mg "_law_run" s_law_run ["_law_rows_here", "_law_number"] f fd
  d_law_refused : ∃ f fd, At K mg "_law_refused" s_law_refused ["_law_rows_here", "_law_number"] f fd
  d_law : ∃ f fd, At K mg "law" s_law ["_law_script"] f fd
  b_ValueError : mg "ValueError" = none
  b_abs : mg "abs" = none
  b_all : mg "all" = none
  b_bool : mg "bool" = none
  b_int : mg "int" = none
  b_isinstance : mg "isinstance" = none
  b_len : mg "len" = none
  b_list : mg "list" = none
  b_min : mg "min" = none
  b_range : mg "range" = none
  b_repr : mg "repr" = none
  b_str : mg "str" = none
  b_tuple : mg "tuple" = none
  b_zip : mg "zip" = none
  x_CaseError : ∃ C, mg "CaseError" = some (.ref C) ∧ IsXT K (.ref C) [("Twice", true), ("Beyond", true), ("TooNarrow", true), ("NoStretch", true), ("BadText", true)] ∧ ExT K (.ref C) ["Twice", "Beyond", "TooNarrow", "NoStretch", "BadText"]
  x_Twice : ∃ C, mg "Twice" = some (.ref C) ∧ IsXT K (.ref C) [("Twice", true), ("Beyond", false), ("TooNarrow", false), ("NoStretch", false), ("BadText", false)] ∧ ExT K (.ref C) ["Twice"]
  x_Beyond : ∃ C, mg "Beyond" = some (.ref C) ∧ IsXT K (.ref C) [("Twice", false), ("Beyond", true), ("TooNarrow", false), ("NoStretch", false), ("BadText", false)] ∧ ExT K (.ref C) ["Beyond"]
  x_TooNarrow : ∃ C, mg "TooNarrow" = some (.ref C) ∧ IsXT K (.ref C) [("Twice", false), ("Beyond", false), ("TooNarrow", true), ("NoStretch", false), ("BadText", false)] ∧ ExT K (.ref C) ["TooNarrow"]
  x_NoStretch : ∃ C, mg "NoStretch" = some (.ref C) ∧ IsXT K (.ref C) [("Twice", false), ("Beyond", false), ("TooNarrow", false), ("NoStretch", true), ("BadText", false)] ∧ ExT K (.ref C) ["NoStretch"]
  x_BadText : ∃ C, mg "BadText" = some (.ref C) ∧ IsXT K (.ref C) [("Twice", false), ("Beyond", false), ("TooNarrow", false), ("NoStretch", false), ("BadText", true)] ∧ ExT K (.ref C) ["BadText"]
  v_ValueError : IsXT K (.type "ValueError") [("Twice", true), ("Beyond", true), ("TooNarrow", true), ("NoStretch", true), ("BadText", true)]
  f_number : FldT K ["Twice"] "number"
  f_one : FldT K ["Twice"] "one"
  f_other : FldT K ["Twice"] "other"
  f_place : FldT K ["NoStretch"] "place"
  f_row : FldT K ["Beyond", "BadText"] "row"
  ce : ∃ C, CeC K mg C
  k_Beyond : ∃ C fI fd, XcC K mg "Beyond" C ∧ InC K C fI ["row"] ∧ Fun K "__init__" "Beyond.__init__" s_init_Beyond fI fd ∧ Binds K fd ["self", "row"] []
/-! ### the defs -/
section
def g_goal_of : DS := (dSeq (dNoX (dSet 2 (dFz (dOp opIx (dVar 0) (dInt 0)))))
  (dSeq (dNoX (dIfS (dOp opEq (dVar 2) (dStr "is")) (dRet (dIf (dOp opEq (dVar 1) (dFz (dOp opIx (dVar 0) (dInt 1)))) (dFz (dOp opIx (dVar 0) (dInt 2))) dNon)) dSkip))
  (dSeq (dNoX (dIfS (dOp opEq (dVar 2) (dStr "within")) (dRet (dIf (dChain opLe opLe (dFz (dOp opIx (dVar 0) (dInt 1))) (dVar 1) (dFz (dOp opIx (dVar 0) (dInt 2)))) (dFz (dOp opIx (dVar 0) (dInt 3))) dNon)) dSkip))
  (dSeq (dNoX (dIfS (dOp opEq (dVar 2) (dStr "below")) (dRet (dIf (dOp opLt (dVar 1) (dFz (dOp opIx (dVar 0) (dInt 1)))) (dFz (dOp opIx (dVar 0) (dInt 2))) dNon)) dSkip))
  (dSeq (dNoX (dSet 3 (dOp opSub (dVar 1) (dFz (dOp opIx (dVar 0) (dInt 1))))))
  (dSeq (dIfS (dOp opEq (dVar 2) (dStr "mask")) (dSeq (dIfS (dNot (dChain opLe opLt (dInt 0) (dVar 3) (dFz (dOp opIx (dVar 0) (dInt 2))))) (dRaise "Beyond" ["row"] (dCons dNon dNil)) dSkip)
  (dNoX (dRet (dIf (dOp opEq (dOp opAnd (dOp opShr (dFz (dOp opIx (dVar 0) (dInt 3))) (dVar 3)) (dInt 1)) (dInt 1)) (dFz (dOp opIx (dVar 0) (dInt 4))) dNon)))) dSkip)
  (dSeq (dIfS (dNot (dChain opLe opLt (dInt 0) (dVar 3) (dBi biLen (dCons (dFz (dOp opIx (dVar 0) (dInt 2))) dNil)))) (dRaise "Beyond" ["row"] (dCons dNon dNil)) dSkip)
  (dNoX (dRet (dFz (dOp opIx (dFz (dOp opIx (dVar 0) (dInt 2))) (dVar 3))))))))))))
def c_goal_of : Ct := run 4 2 [] g_goal_of
def g_run : DS := (dSeq (dNoX (dSet 2 (dLst dNil)))
  (dSeq (dNoX (dSet 3 (dInt 0)))
  (dSeq (dWhile (fun _ => 100000) (dOp opNe (dFz (dOp opIx (dFz (dOp opIx (dVar 0) (dVar 3))) (dInt 0))) (dStr "pick")) (dSeq (dNoX (dApp 2 (dVar 3)))
  (dSeq (dTryO ["Beyond"] (dSetXF 4 c_goal_of (dCons (dFz (dOp opIx (dVar 0) (dVar 3))) (dCons (dVar 1) dNil))) (dRaise "Beyond" ["row"] (dCons (dVar 3) dNil)))
  (dNoX (dSet 3 (dFz (dIf (dOp (opIsN false) (dVar 4) dNon) (dOp opAdd (dVar 3) (dInt 1)) (dVar 4))))))))
  (dNoX (dRet (dTup (dCons (dFz (dOp opIx (dFz (dOp opIx (dVar 0) (dVar 3))) (dInt 1))) (dCons (dFz (dOp opAdd (dFrz 2) (dFz (dLst (dCons (dVar 3) dNil))))) dNil))))))))
def c_run : Ct := run 5 2 [] g_run
def g_law_rows : DS := (dSeq (dSet 2 (dLst dNil))
  (dSeq (dFor (iRg1 (dOp opSub (dVar 1) (dInt 1))) (gNam 3) (dSeq (dPar 5 6 (dCons (dFz (dOp opAdd (dFz (dOp opAdd (dVar 3) (dInt 1))) (dFz (dCall1 (Pd.c_take 2) (rRef 0 (rVal (dOp opSub (dOp opSub (dVar 1) (dVar 3)) (dInt 1)) rNil)))))) (dCons (dOp opSub (dFz (dCall1 (Pd.c_take 2) (rRef 0 (rVal (dInt 24) rNil)))) (dInt 4)) dNil)))
  (dSeq (dSet 4 (dFz (dCall1 (Pd.c_take 2) (rRef 0 (rVal (dInt 9) rNil)))))
  (dIfS (dOp opEq (dVar 4) (dInt 0)) (dApp 2 (dTup (dCons (dStr "is") (dCons (dVar 6) (dCons (dVar 5) dNil))))) (dIfS (dOp opLt (dVar 4) (dInt 3)) (dApp 2 (dTup (dCons (dStr "within") (dCons (dVar 6) (dCons (dFz (dOp opAdd (dVar 6) (dFz (dCall1 (Pd.c_take 2) (rRef 0 (rVal (dInt 8) rNil)))))) (dCons (dVar 5) dNil)))))) (dIfS (dOp opLt (dVar 4) (dInt 5)) (dApp 2 (dTup (dCons (dStr "below") (dCons (dVar 6) (dCons (dVar 5) dNil))))) (dIfS (dOp opLt (dVar 4) (dInt 7)) (dSeq (dAsg (gTp 2 (gsCons (gNam 8) (gsCons (gNam 9) gsNil))) (dFz (dOp opIx (dFz (dLst (dCons (dTup (dCons (dOp opSub (dVar 6) (dInt 3)) (dCons (dFz (dOp opAdd (dInt 1) (dFz (dCall1 (Pd.c_take 2) (rRef 0 (rVal (dInt 12) rNil)))))) dNil))) (dCons (dTup (dCons (dUn unNeg (dInt 20)) (dCons (dInt 64) dNil))) dNil)))) (dOp opDiv (dFz (dCall1 (Pd.c_take 2) (rRef 0 (rVal (dInt 4) rNil)))) (dInt 2)))))
  (dSeq (dSet 7 (dFz (dCall1 (Pd.c_take 2) (rRef 0 (rVal (dOp opShl (dInt 1) (dVar 9)) rNil)))))
  (dApp 2 (dTup (dCons (dStr "mask") (dCons (dVar 8) (dCons (dVar 9) (dCons (dVar 7) (dCons (dVar 5) dNil))))))))) (dIfS (dOp opEq (dVar 4) (dInt 7)) (dSeq (dAsg (gTp 2 (gsCons (gNam 8) (gsCons (gNam 9) gsNil))) (dFz (dOp opIx (dFz (dLst (dCons (dTup (dCons (dOp opSub (dVar 6) (dInt 3)) (dCons (dFz (dOp opAdd (dInt 1) (dFz (dCall1 (Pd.c_take 2) (rRef 0 (rVal (dInt 12) rNil)))))) dNil))) (dCons (dTup (dCons (dUn unNeg (dInt 20)) (dCons (dInt 64) dNil))) (dCons (dTup (dCons (dUn unNeg (dInt 100)) (dCons (dInt 200) dNil))) dNil))))) (dOp opDiv (dFz (dCall1 (Pd.c_take 2) (rRef 0 (rVal (dInt 6) rNil)))) (dInt 2)))))
  (dApp 2 (dTup (dCons (dStr "table") (dCons (dVar 8) (dCons (dBi biTuple (dCons (dFz (dComp (iRg1 (dVar 9)) (gNam 10) dYes (dFz (dOp opAdd (dFz (dOp opAdd (dVar 3) (dInt 1))) (dFz (dCall1 (Pd.c_take 2) (rRef 0 (rVal (dOp opSub (dOp opSub (dVar 1) (dVar 3)) (dInt 1)) rNil)))))) [10])) dNil)) dNil)))))) (dApp 2 (dTup (dCons (dStr "pick") (dCons (dFz (dCall1 (Pd.c_take 2) (rRef 0 (rVal (dInt 5) rNil)))) dNil))))))))))))
  (dRet (dOp opAdd (dFrz 2) (dFz (dLst (dCons (dTup (dCons (dStr "pick") (dCons (dFz (dCall1 (Pd.c_take 2) (rRef 0 (rVal (dInt 5) rNil)))) dNil))) dNil)))))))
def c_law_rows : Ct := run 11 2 [0] g_law_rows
def g_law_behind : DS := (dSeq (dSet 3 (dFz (dOp opIx (dVar 0) (dVar 1))))
  (dSeq (dIfS (dOp opEq (dFz (dOp opIx (dVar 3) (dInt 0))) (dStr "is")) (dRet (dIf (dOp opEq (dVar 2) (dFz (dOp opIx (dVar 3) (dInt 1)))) (dFz (dOp opIx (dVar 3) (dInt 2))) (dOp opAdd (dVar 1) (dInt 1)))) dSkip)
  (dSeq (dIfS (dOp opEq (dFz (dOp opIx (dVar 3) (dInt 0))) (dStr "within")) (dRet (dIf (dChain opLe opLe (dFz (dOp opIx (dVar 3) (dInt 1))) (dVar 2) (dFz (dOp opIx (dVar 3) (dInt 2)))) (dFz (dOp opIx (dVar 3) (dInt 3))) (dOp opAdd (dVar 1) (dInt 1)))) dSkip)
  (dSeq (dIfS (dOp opEq (dFz (dOp opIx (dVar 3) (dInt 0))) (dStr "below")) (dRet (dIf (dOp opLt (dVar 2) (dFz (dOp opIx (dVar 3) (dInt 1)))) (dFz (dOp opIx (dVar 3) (dInt 2))) (dOp opAdd (dVar 1) (dInt 1)))) dSkip)
  (dSeq (dSet 4 (dOp opSub (dVar 2) (dFz (dOp opIx (dVar 3) (dInt 1)))))
  (dSeq (dIfS (dOr (dOp opLt (dVar 4) (dInt 0)) (dOp opGe (dVar 4) (dIf (dOp opEq (dFz (dOp opIx (dVar 3) (dInt 0))) (dStr "mask")) (dFz (dOp opIx (dVar 3) (dInt 2))) (dBi biLen (dCons (dFz (dOp opIx (dVar 3) (dInt 2))) dNil))))) (dRet dNon) dSkip)
  (dSeq (dIfS (dOp opEq (dFz (dOp opIx (dVar 3) (dInt 0))) (dStr "table")) (dRet (dFz (dOp opIx (dFz (dOp opIx (dVar 3) (dInt 2))) (dVar 4)))) dSkip)
  (dRet (dIf (dOp opEq (dOp opAnd (dOp opShr (dFz (dOp opIx (dVar 3) (dInt 3))) (dVar 4)) (dInt 1)) (dInt 1)) (dFz (dOp opIx (dVar 3) (dInt 4))) (dOp opAdd (dVar 1) (dInt 1)))))))))))
def c_law_behind : Ct := run 5 3 [] g_law_behind
def g_law_run : DS := (dSeq (dSet 2 (dLst (dCons (dInt 0) dNil)))
  (dSeq (dWhile (fun _ => 100000) (dOp opNe (dFz (dOp opIx (dFz (dOp opIx (dVar 0) (dIxO 2 (dUn unNeg (dInt 1))))) (dInt 0))) (dStr "pick")) (dSeq (dSet 3 (dFz (dCall c_law_behind (dCons (dVar 0) (dCons (dIxO 2 (dUn unNeg (dInt 1))) (dCons (dVar 1) dNil))))))
  (dSeq (dIfS (dOp (opIsN false) (dVar 3) dNon) (dRet (dTup (dCons dNon (dCons (dFrz 2) dNil)))) dSkip)
  (dApp 2 (dVar 3)))))
  (dRet (dTup (dCons (dFz (dOp opIx (dFz (dOp opIx (dVar 0) (dIxO 2 (dUn unNeg (dInt 1))))) (dInt 1))) (dCons (dFrz 2) dNil))))))
def c_law_run : Ct := run 4 2 [] g_law_run
def g_law_refused : DS := (dSeq (dSet 2 dNon)
  (dSeq (dTry ["Twice", "Beyond", "TooNarrow", "NoStretch", "BadText"] 3 (dDropX c_run (dCons (dVar 0) (dCons (dVar 1) dNil))) (dSet 2 (dVar 3)))
  (dRet (dCall Pd.c_word (dCons (dVar 2) dNil)))))
def c_law_refused : Ct := run 4 2 [] g_law_refused
def g_law : DS := (dSeq (dFor (iRg1 (dFz (dOp opAdd (dInt 1) (dBi biMin2 (dCons (dInt 5) (dCons (dBi biLen (dCons (dVar 0) dNil)) dNil)))))) (gNam 1) (dSeq (dSet 2 (dCall Pd.c_tape (dCons (dVar 0) (dCons (dVar 1) dNil))))
  (dSeq (dSet 3 (dCall1 c_law_rows (rRef 2 (rVal (dFz (dOp opAdd (dInt 2) (dFz (dCall1 (Pd.c_take 2) (rRef 2 (rVal (dFz (dOp opIx (dFz (dLst (dCons (dInt 6) (dCons (dInt 19) dNil)))) (dFz (dCall1 (Pd.c_take 2) (rRef 2 (rVal (dInt 2) rNil)))))) rNil)))))) rNil))))
  (dSeq (dSet 4 (dFz (dOp opAdd (dInt 1) (dFz (dCall1 (Pd.c_take 2) (rRef 2 (rVal (dInt 20) rNil)))))))
  (dSeq (dSet 5 (dFz (dLst (dCons (dTup (dCons (dStr "mask") (dCons (dInt 0) (dCons (dVar 4) (dCons (dFz (dCall1 (Pd.c_take 2) (rRef 2 (rVal (dOp opShl (dInt 1) (dVar 4)) rNil)))) (dCons (dOp opSub (dBiL biLen (rRef 3 rNil)) (dInt 1)) dNil)))))) (dCons (dTup (dCons (dStr "table") (dCons (dUn unNeg (dInt 3)) (dCons (dOp opMulT (dTup (dCons (dInt 1) dNil)) (dVar 4)) dNil)))) dNil)))))
  (dSeq (dSetIx 3 (dFz (dOp opIx (dFz (dOp opAdd (dVar 5) (dFz (dLst (dCons (dIxO 3 (dInt 0)) (dCons (dIxO 3 (dInt 0)) dNil)))))) (dFz (dCall1 (Pd.c_take 2) (rRef 2 (rVal (dInt 4) rNil)))))) (dInt 0))
  (dSeq (dSet 6 (dBiL biRepr (rRef 3 rNil)))
  (dSeq (dFor (iLst (dFz (dOp opAdd (dFz (dListRg2 (dUn unNeg (dInt 26)) (dInt 51))) (dFz (dLst (dCons (dOp opPow (dInt 10) (dInt 30)) (dCons (dUn unNeg (dOp opPow (dInt 10) (dInt 30))) dNil))))))) (gNam 7) (dSeq (dAsg (gTp 2 (gsCons (gNam 8) (gsCons (gNam 9) gsNil))) (dFz (dCall c_law_run (dCons (dFrz 3) (dCons (dVar 7) dNil)))))
  (dIfS (dNot (dFz (dCall (Pd.c_same 12) (dCons (dFz (dCall c_law_refused (dCons (dFrz 3) (dCons (dVar 7) dNil)))) (dCons (dIf (dOp (opIsN false) (dVar 8) dNon) (dTup (dCons (dStr "beyond") (dCons (dFz (dOp opIx (dVar 9) (dUn unNeg (dInt 1)))) dNil))) dNon) dNil))))) (dRet (dBl false)) dSkip)))
  (dIfS (dOp opNe (dBiL biRepr (rRef 3 rNil)) (dVar 6)) (dRet (dBl false)) dSkip)))))))))
  (dRet (dBl true)))
def c_law : Ct := run 10 1 [] g_law
end
section
variable {P : Program} {w : World} {K : PySem.W.Frag} {mg : Str → Option Value} {base : Heap}
theorem mk_Beyond (T : Tx K mg) : ∃ C, MkC P w K mg base "Beyond" C ["row"] := by
  obtain ⟨CE, ce⟩ := T.ce
  obtain ⟨C, fI, fd, h1, h2, F, b⟩ := T.k_Beyond
  exact ⟨C, h1, fI, fd, _, h2, init_ok F sc_init_Beyond h2 rfl (by decide) (by decide) fun cdv A outer s H E => pss_cons (ps_expr (pe_ceinit ce (pa_cons (pv 0) (pa_cons pe_str pa_nil)))) (pss_cons (ps_ost (pv 0) (pv 1)) pss_nil),
    init_okH F sc_init_Beyond h2 rfl (by decide) (by decide) fun cdv A outer s H E p => pss_cons (ps_expr (pe_ceinit ce (pa_cons (pv 0) (pa_cons pe_str pa_nil)))) (pss_cons (ps_ost (pv 0) (pv 1)) pss_nil), b⟩
theorem ok_goal_of (T : Tx K mg) : FdX P w K mg base (L2N.CX P w) 3 "goal_of" 2 c_goal_of := by
  obtain ⟨c_Beyond, M_Beyond⟩ := mk_Beyond (P := P) (w := w) (base := base) T
  obtain ⟨f, fd, F⟩ := T.d_goal_of
  exact FdX.mk' (k := 2) F sc_goal_of rfl fun cdv A outer s H E hr => (sx_cons (sx_of (ss_set 2 sc_goal_of.nd (sn_of (se_ix (se_var 0) se_int))))
    (sx_cons (sx_of (ss_if (st_cmp (or_eq (Room_u64 hr)) od_eq pu_eq (se_var 2) se_str (nomark _)) (ss_one (ss_ret (sn_if (st_cmp (or_eq (Room_u64 hr)) od_eq pu_eq (se_var 1) (se_ix (se_var 0) se_int) (nomark _)) (sn_of (se_ix (se_var 0) se_int)) (sn_of se_non)))) ss_nil))
    (sx_cons (sx_of (ss_if (st_cmp (or_eq (Room_u64 hr)) od_eq pu_eq (se_var 2) se_str (nomark _)) (ss_one (ss_ret (sn_if (st_chain op_le od_B op_le od_B pu_B (se_ix (se_var 0) se_int) (se_var 1) (se_ix (se_var 0) se_int)) (sn_of (se_ix (se_var 0) se_int)) (sn_of se_non)))) ss_nil))
    (sx_cons (sx_of (ss_if (st_cmp (or_eq (Room_u64 hr)) od_eq pu_eq (se_var 2) se_str (nomark _)) (ss_one (ss_ret (sn_if (st_cmp op_lt od_B pu_B (se_var 1) (se_ix (se_var 0) se_int) (nomark _)) (sn_of (se_ix (se_var 0) se_int)) (sn_of se_non)))) ss_nil))
    (sx_cons (sx_of (ss_set 3 sc_goal_of.nd (sn_of (se_op op_sub od_I0 pu_I0 (se_var 1) (se_ix (se_var 0) se_int)))))
    (sx_cons (sx_if (st_cmp (or_eq (Room_u64 hr)) od_eq pu_eq (se_var 2) se_str (nomark _)) (sx_cons (sx_if (st_not (st_chain op_le od_B op_lt od_B pu_B se_int (se_var 3) (se_ix (se_var 0) se_int))) (sx_one (sx_raiseN rfl (L2N.takes_of rfl rfl rfl rfl) M_Beyond hr.room (sa_cons se_non sa_nil))) sx_nil)
    (sx_one (sx_of (ss_ret (sn_if (st_cmp (or_eq (Room_u64 hr)) od_eq pu_eq (se_op op_and od_I0 pu_I0 (se_op op_shr od_I pu_I (se_ix (se_var 0) se_int) (se_var 3)) se_int) se_int (nomark _)) (sn_of (se_ix (se_var 0) se_int)) (sn_of se_non)))))) sx_nil)
    (sx_cons (sx_if (st_not (st_chain op_le od_B op_lt od_B pu_B se_int (se_var 3) (se_pu (sn_bi call_len cd_len T.b_len PySem.boot_len (sa_cons (se_ix (se_var 0) se_int) sa_nil)) (pu_bi pu_len)))) (sx_one (sx_raiseN rfl (L2N.takes_of rfl rfl rfl rfl) M_Beyond hr.room (sa_cons se_non sa_nil))) sx_nil)
    (sx_one (sx_of (ss_ret (sn_of (se_ix (se_ix (se_var 0) se_int) (se_var 3)))))))))))))
theorem ok_run (T : Tx K mg) : FdX P w K mg base (L2.CX P w) 4 "run" 2 c_run := by
  obtain ⟨c_Beyond, M_Beyond⟩ := mk_Beyond (P := P) (w := w) (base := base) T
  obtain ⟨a_Beyond, g_Beyond, i_Beyond, e_Beyond⟩ := T.x_Beyond
  obtain ⟨f, fd, F⟩ := T.d_run
  exact FdX.mk' (k := 3) F sc_run rfl fun cdv A outer s H E hr => (sx_cons (sx_of (ss_set 2 sc_run.nd (sn_lst sa_nil)))
    (sx_cons (sx_of (ss_set 3 sc_run.nd (sn_of se_int)))
    (sx_cons (sx_while (fun _ => 100000) (L2.passes_of rfl) (st_cmp (or_ne (Room_u64 hr)) od_ne pu_ne (se_ix (se_ix (se_var 0) (se_var 3)) se_int) se_str (nomark _)) (sx_cons (sx_of (ss_append 2 (sn_of (se_var 3))))
    (sx_cons (sx_tryO ⟨rfl, by decide, .inl g_Beyond⟩ (L2H.passesAt_of rfl) (L2.takes_of rfl rfl rfl rfl) e_Beyond (fun _ _ _ tk po => (sx_one (sx_setXF 4 sc_run.nd (ok_goal_of T) (L2N.passAt tk) (hr.mono (by decide)) (sa_cons (se_ix (se_var 0) (se_var 3)) (sa_cons (se_var 1) sa_nil))))) (fun _ _ _ tk hot => (sx_one (sx_raiseH hot tk M_Beyond (L2H.roomH_mark hr.room _) (sa_cons (se_var 3) sa_nil)))))
    (sx_one (sx_of (ss_set 3 sc_run.nd (sn_of (se_fz (sn_if (st_cmp or_isN od_isN pu_isN (se_var 4) se_non (nomark _)) (sn_op or_add od_add (se_var 3) se_int) (sn_of (se_var 4)))))))))))
    (sx_one (sx_of (ss_ret (sn_of (se_tup (sa_cons (se_ix (se_ix (se_var 0) (se_var 3)) se_int) (sa_cons (se_fz (sn_op or_add od_add (se_frz 2) (se_fz (sn_lst (sa_cons (se_var 3) sa_nil))))) sa_nil))))))))))
theorem ok_law_cell_at (T : Tx K mg) : Fd P w K mg base 1 "_law_cell_at" 2 [] Pd.c_cell_at := by
  obtain ⟨f, fd, F⟩ := T.d_law_cell_at
  exact Fd.mk' (k := 0) F sc_law_cell_at (by decide) rfl fun cdv A outer s H E hr => (ss_one (ss_ret (sn_if (st_cmp op_lt od_B pu_B (se_var 1) (se_pu (sn_bi call_len cd_len T.b_len PySem.boot_len (sa_cons (se_var 0) sa_nil)) (pu_bi pu_len)) (nomark _)) (sn_of (se_ix (se_var 0) (se_var 1))) (sn_of se_int))))
theorem ok_law_tape (T : Tx K mg) : Fd P w K mg base 2 "_law_tape" 2 [] Pd.c_tape := by
  obtain ⟨f, fd, F⟩ := T.d_law_tape
  exact Fd.mk' (k := 1) F sc_law_tape (by decide) rfl fun cdv A outer s H E hr => (ss_cons (ss_set 2 sc_law_tape.nd (sn_of (se_fz (sn_call (ok_law_cell_at T) (hr.mono (by decide)) (sa_cons (se_var 0) (sa_cons (se_var 1) sa_nil))))))
    (ss_one (ss_ret (sn_lst (sa_cons (se_op op_mul od_I pu_I (se_pu (sn_bi call_abs cd_abs T.b_abs (by decide +kernel) (sa_cons (se_var 2) sa_nil)) (pu_bi pu_abs)) (se_pu (sn_ty call_int1 cd_int T.b_int (by decide +kernel) (sa_cons (se_cmp op_ge od_B pu_B (se_pu (sn_bi call_abs cd_abs T.b_abs (by decide +kernel) (sa_cons (se_var 2) sa_nil)) (pu_bi pu_abs)) (se_op op_pow od_I pu_I se_int se_int) (nomark _)) sa_nil)) (pu_bi pu_int))) (sa_cons (se_op op_mod od_I pu_I (se_op op_mul od_I pu_I (se_fz (sn_op or_add od_add (se_fz (sn_op or_add od_add (se_op op_mod od_I pu_I (se_var 2) se_int) (se_op op_mul od_I pu_I (se_op op_mul od_I pu_I se_int (se_var 1)) (se_var 1)))) se_int)) se_int) se_int) (sa_cons se_int sa_nil)))))))
theorem ok_law_take (T : Tx K mg) : ∀ n : Nat, Fd P w K mg base (0 + n) "_law_take" 2 [0] (Pd.c_take n)
  | 0 => by
    obtain ⟨f, fd, F⟩ := T.d_law_take
    exact Fd.zero F sc_law_take
  | n + 1 => by
    have ih := ok_law_take T n
    obtain ⟨f, fd, F⟩ := T.d_law_take
    exact Fd.mk' (k := 0 + n) F sc_law_take (by decide) rfl fun cdv A outer s H E hr => (ss_cons (ss_if (st_cmp op_gt od_B pu_B (se_ixO 0 se_int) se_int (nomark _)) (ss_cons (ss_set 4 sc_law_take.nd (sn_of (se_op op_mod od_I pu_I (se_ixO 0 se_int) (se_var 1))))
    (ss_cons (ss_setix 0 (se_op op_fdivW od_I pu_I (se_ixO 0 se_int) (se_var 1)) se_int)
    (ss_one (ss_ret (sn_of (se_var 4)))))) ss_nil)
    (ss_cons (ss_setix 0 (se_fz (sn_op or_add od_add (se_ixO 0 se_int) se_int)) se_int)
    (ss_cons (ss_set 2 sc_law_take.nd (sn_of (se_ix (se_fz (sn_lst (sa_cons se_int (sa_cons se_int (sa_cons se_int (sa_cons se_int (sa_cons se_int (sa_cons se_int (sa_cons se_int sa_nil))))))))) (se_op op_mod od_I pu_I (se_ixO 0 se_int) se_int))))
    (ss_cons (ss_set 3 sc_law_take.nd (sn_of (se_op op_mod od_I pu_I (se_op op_mul od_I pu_I (se_fz (sn_op or_add od_add (se_ixO 0 se_int) (se_op op_mul od_I pu_I se_int (se_ixO 0 se_int)))) (se_fz (sn_op or_add od_add se_int (se_ixO 0 se_int)))) (se_var 2))))
    (ss_cons (ss_setix 0 (se_op op_mod od_I pu_I (se_fz (sn_op or_add od_add (se_op op_mul od_I pu_I (se_var 3) (se_fz (sn_op or_add od_add (se_op op_mod od_I pu_I (se_var 3) se_int) se_int))) (se_ixO 0 se_int))) se_int) se_int)
    (ss_cons (ss_set 4 sc_law_take.nd (sn_of (se_op op_fdivW od_I pu_I (se_op op_mod od_I pu_I (se_op op_mul od_I pu_I (se_ixO 0 se_int) (se_fz (sn_op or_add od_add (se_op op_mod od_I pu_I (se_ixO 0 se_int) se_int) se_int))) se_int) se_int)))
    (ss_one (ss_ret (sn_if (st_cmp op_lt od_B pu_B (se_var 1) (se_op op_pow od_I pu_I se_int se_int) (nomark _)) (sn_of (se_op op_mod od_I pu_I (se_var 4) (se_var 1))) (sn_of (se_op op_mod od_I pu_I (se_fz (sn_op or_add od_add (se_op op_mul od_I pu_I (se_var 4) se_int) (se_fz (sn_call1 ih hr (sr_ref 0 (sr_val se_int sr_nil)) spr)))) (se_var 1))))))))))))
theorem ok_law_same (T : Tx K mg) : ∀ n : Nat, Fd P w K mg base (0 + n) "_law_same" 2 [] (Pd.c_same n)
  | 0 => by
    obtain ⟨f, fd, F⟩ := T.d_law_same
    exact Fd.zero F sc_law_same
  | n + 1 => by
    have ih := ok_law_same T n
    obtain ⟨f, fd, F⟩ := T.d_law_same
    exact Fd.mk' (k := 0 + n) F sc_law_same (by decide) rfl fun cdv A outer s H E hr => (ss_cons (ss_if (st_val (se_isi2 (se_var 1) T.b_isinstance T.b_list (by decide +kernel) (by rfl) T.b_tuple (by decide +kernel) (by rfl))) (ss_cons (ss_if (sw_pt (sw_or (st_cmp (or_ne (Room_u64 hr)) od_ne pu_ne (se_isi (se_var 0) T.b_isinstance T.b_list (by decide +kernel) (by rfl)) (se_isi (se_var 1) T.b_isinstance T.b_list (by decide +kernel) (by rfl)) (nomark _)) (sw_or1 (st_cmp (or_ne (Room_u64 hr)) od_ne pu_ne (se_isi (se_var 0) T.b_isinstance T.b_tuple (by decide +kernel) (by rfl)) (se_isi (se_var 1) T.b_isinstance T.b_tuple (by decide +kernel) (by rfl)) (nomark _))))) (ss_one (ss_ret (sn_of se_bl))) ss_nil)
    (ss_cons (ss_if (st_cmp (or_ne (Room_u64 hr)) od_ne pu_ne (se_pu (sn_bi call_len cd_len T.b_len PySem.boot_len (sa_cons (se_var 0) sa_nil)) (pu_bi pu_len)) (se_pu (sn_bi call_len cd_len T.b_len PySem.boot_len (sa_cons (se_var 1) sa_nil)) (pu_bi pu_len)) (nomark _)) (ss_one (ss_ret (sn_of se_bl))) ss_nil)
    (ss_one (ss_ret (sn_of (se_pu (sn_bi (cr_all rfl) cd_all T.b_all (by decide +kernel) (sa_cons (se_fz (sn_lc [("_law_one", 2), ("_law_other", 3)] 4 rfl rfl sc_law_same.nd (si_zip T.b_zip (sa_cons (se_var 0) (sa_cons (se_var 1) sa_nil))) (blkOk_by (by rfl)) (fun _ _ _ _ _ => (sg_tup rfl (sgs_cons (sg_name sc_law_same.nd) (sgs_cons (sg_name sc_law_same.nd) sgs_nil)))) (fun _ _ _ _ _ => sif_nil) (fun _ _ _ _ _ => (se_fz (sn_call ih hr (sa_cons (se_var 2) (sa_cons (se_var 3) sa_nil))))))) sa_nil)) (pu_bi pu_all))))))) ss_nil)
    (ss_cons (ss_if (sw_pt (sw_or (st_cmp or_isN od_isN pu_isN (se_var 1) se_non (nomark _)) (sw_or1 (st_val (se_isi (se_var 1) T.b_isinstance T.b_str (by decide +kernel) (by rfl)))))) (ss_one (ss_ret (sn_of (se_and (se_cmp (or_eq (Room_u64 hr)) od_eq pu_eq (se_var 0) (se_var 1) (nomark _)) (se_one (se_cmp (or_eq (Room_u64 hr)) od_eq pu_eq (se_isi (se_var 0) T.b_isinstance T.b_str (by decide +kernel) (by rfl)) (se_isi (se_var 1) T.b_isinstance T.b_str (by decide +kernel) (by rfl)) (nomark _))))))) ss_nil)
    (ss_cons (ss_if (st_val (se_isi (se_var 1) T.b_isinstance T.b_bool (by decide +kernel) (by rfl))) (ss_one (ss_ret (sn_of (se_and (se_isi (se_var 0) T.b_isinstance T.b_bool (by decide +kernel) (by rfl)) (se_one (se_cmp (or_eq (Room_u64 hr)) od_eq pu_eq (se_var 0) (se_var 1) (nomark _))))))) ss_nil)
    (ss_one (ss_ret (sn_of (se_and (se_isi (se_var 0) T.b_isinstance T.b_int (by decide +kernel) (by rfl)) (se_and (se_not (se_isi (se_var 0) T.b_isinstance T.b_bool (by decide +kernel) (by rfl))) (se_one (se_cmp (or_eq (Room_u64 hr)) od_eq pu_eq (se_var 0) (se_var 1) (nomark _)))))))))))
theorem ok_law_word (T : Tx K mg) : Fd P w K mg base 1 "_law_word" 1 [] Pd.c_word := by
  obtain ⟨a_BadText, g_BadText, i_BadText, e_BadText⟩ := T.x_BadText
  obtain ⟨a_Beyond, g_Beyond, i_Beyond, e_Beyond⟩ := T.x_Beyond
  obtain ⟨a_NoStretch, g_NoStretch, i_NoStretch, e_NoStretch⟩ := T.x_NoStretch
  obtain ⟨a_TooNarrow, g_TooNarrow, i_TooNarrow, e_TooNarrow⟩ := T.x_TooNarrow
  obtain ⟨a_Twice, g_Twice, i_Twice, e_Twice⟩ := T.x_Twice
  obtain ⟨f, fd, F⟩ := T.d_law_word
  exact Fd.mk' (k := 0) F sc_law_word (by decide) rfl fun cdv A outer s H E hr => (ss_cons (ss_if (st_cmp or_isN od_isN pu_isN (se_var 0) se_non (nomark _)) (ss_one (ss_ret (sn_of se_non))) ss_nil)
    (ss_cons (ss_set 1 sc_law_word.nd (sn_of (se_fz (sn_lst (sa_cons (se_isX (se_var 0) T.b_isinstance g_Twice i_Twice) (sa_cons (se_isX (se_var 0) T.b_isinstance g_Beyond i_Beyond) (sa_cons (se_isX (se_var 0) T.b_isinstance g_TooNarrow i_TooNarrow) sa_nil)))))))
    (ss_cons (ss_set 1 sc_law_word.nd (sn_of (se_fz (sn_op or_add od_add (se_var 1) (se_fz (sn_lst (sa_cons (se_isX (se_var 0) T.b_isinstance g_NoStretch i_NoStretch) (sa_cons (se_isX (se_var 0) T.b_isinstance g_BadText i_BadText) sa_nil))))))))
    (ss_cons (ss_if (sw_pt (sw_or (st_cmp (or_ne (Room_u64 hr)) od_ne pu_ne (se_pu (sn_mt PySem.F.plainAttrs_list PySem.F.slot_list_count PySem.F.type_list_count mt_countF md_countF ty_lst (se_var 1) (sa_cons se_bl sa_nil)) (pu_mt pu_mcountF)) se_int (nomark _)) (sw_or1 (st_not (st_val (se_isXV (se_var 0) T.b_isinstance T.b_ValueError (by decide +kernel) T.v_ValueError)))))) (ss_one (ss_ret (sn_of (se_tup (sa_cons se_str sa_nil))))) ss_nil)
    (ss_cons (ss_if (st_val (se_ix (se_var 1) se_int)) (ss_one (ss_ret (sn_of (se_tup (sa_cons se_str (sa_cons (se_fldX (se_var 0) T.f_one) (sa_cons (se_fldX (se_var 0) T.f_other) (sa_cons (se_fldX (se_var 0) T.f_number) sa_nil)))))))) ss_nil)
    (ss_cons (ss_if (sw_pt (sw_or (st_val (se_ix (se_var 1) se_int)) (sw_or1 (st_val (se_ix (se_var 1) se_int))))) (ss_one (ss_ret (sn_of (se_tup (sa_cons (se_ix (se_fz (sn_lst (sa_cons se_str (sa_cons se_str sa_nil)))) (se_pu (sn_ty call_int1 cd_int T.b_int (by decide +kernel) (sa_cons (se_ix (se_var 1) se_int) sa_nil)) (pu_bi pu_int))) (sa_cons (se_fldX (se_var 0) T.f_row) sa_nil)))))) ss_nil)
    (ss_one (ss_ret (sn_if (st_val (se_ix (se_var 1) se_int)) (sn_of (se_tup (sa_cons se_str (sa_cons (se_fldX (se_var 0) T.f_place) sa_nil)))) (sn_of (se_tup (sa_cons se_str sa_nil))))))))))))
theorem ok_law_rows (T : Tx K mg) : Fd P w K mg base 3 "_law_rows" 2 [0] c_law_rows := by
  obtain ⟨f, fd, F⟩ := T.d_law_rows
  exact Fd.mk' (k := 2) F sc_law_rows (by decide) rfl fun cdv A outer s H E hr => (ss_cons (ss_set 2 sc_law_rows.nd (sn_lst sa_nil))
    (ss_cons (ss_for PassesOwn.never rfl (si_rg1 T.b_range (sa_cons (se_op op_sub od_I0 pu_I0 (se_var 1) se_int) sa_nil)) (sg_name sc_law_rows.nd) (ss_cons (ss_par2 (i := 5) (j := 6) (ps_par rfl sc_law_rows.nd rfl rfl (by decide) rfl rfl (sa_cons (se_fz (sn_op or_add od_add (se_fz (sn_op or_add od_add (se_var 3) se_int)) (se_fz (sn_call1 (ok_law_take T 2) (hr.mono (by decide)) (sr_ref 0 (sr_val (se_op op_sub od_I0 pu_I0 (se_op op_sub od_I0 pu_I0 (se_var 1) (se_var 3)) se_int) sr_nil)) spr)))) (sa_cons (se_op op_sub od_I0 pu_I0 (se_fz (sn_call1 (ok_law_take T 2) (hr.mono (by decide)) (sr_ref 0 (sr_val se_int sr_nil)) spr)) se_int) sa_nil)) (by rfl)))
    (ss_cons (ss_set 4 sc_law_rows.nd (sn_of (se_fz (sn_call1 (ok_law_take T 2) (hr.mono (by decide)) (sr_ref 0 (sr_val se_int sr_nil)) spr))))
    (ss_one (ss_if (st_cmp (or_eq (Room_u64 hr)) od_eq pu_eq (se_var 4) se_int (nomark _)) (ss_one (ss_append 2 (sn_of (se_tup (sa_cons se_str (sa_cons (se_var 6) (sa_cons (se_var 5) sa_nil))))))) (ss_one (ss_if (st_cmp op_lt od_B pu_B (se_var 4) se_int (nomark _)) (ss_one (ss_append 2 (sn_of (se_tup (sa_cons se_str (sa_cons (se_var 6) (sa_cons (se_fz (sn_op or_add od_add (se_var 6) (se_fz (sn_call1 (ok_law_take T 2) (hr.mono (by decide)) (sr_ref 0 (sr_val se_int sr_nil)) spr)))) (sa_cons (se_var 5) sa_nil)))))))) (ss_one (ss_if (st_cmp op_lt od_B pu_B (se_var 4) se_int (nomark _)) (ss_one (ss_append 2 (sn_of (se_tup (sa_cons se_str (sa_cons (se_var 6) (sa_cons (se_var 5) sa_nil))))))) (ss_one (ss_if (st_cmp op_lt od_B pu_B (se_var 4) se_int (nomark _)) (ss_cons (ss_asg (se_ix (se_fz (sn_lst (sa_cons (se_tup (sa_cons (se_op op_sub od_I0 pu_I0 (se_var 6) se_int) (sa_cons (se_fz (sn_op or_add od_add se_int (se_fz (sn_call1 (ok_law_take T 2) (hr.mono (by decide)) (sr_ref 0 (sr_val se_int sr_nil)) spr)))) sa_nil))) (sa_cons (se_tup (sa_cons (se_un un_neg ud_neg pu_neg se_int) (sa_cons se_int sa_nil))) sa_nil)))) (se_op op_fdivW od_I pu_I (se_fz (sn_call1 (ok_law_take T 2) (hr.mono (by decide)) (sr_ref 0 (sr_val se_int sr_nil)) spr)) se_int)) (sg_tup rfl (sgs_cons (sg_name sc_law_rows.nd) (sgs_cons (sg_name sc_law_rows.nd) sgs_nil))))
    (ss_cons (ss_set 7 sc_law_rows.nd (sn_of (se_fz (sn_call1 (ok_law_take T 2) (hr.mono (by decide)) (sr_ref 0 (sr_val (se_op op_shl od_I pu_I se_int (se_var 9)) sr_nil)) spr))))
    (ss_one (ss_append 2 (sn_of (se_tup (sa_cons se_str (sa_cons (se_var 8) (sa_cons (se_var 9) (sa_cons (se_var 7) (sa_cons (se_var 5) sa_nil))))))))))) (ss_one (ss_if (st_cmp (or_eq (Room_u64 hr)) od_eq pu_eq (se_var 4) se_int (nomark _)) (ss_cons (ss_asg (se_ix (se_fz (sn_lst (sa_cons (se_tup (sa_cons (se_op op_sub od_I0 pu_I0 (se_var 6) se_int) (sa_cons (se_fz (sn_op or_add od_add se_int (se_fz (sn_call1 (ok_law_take T 2) (hr.mono (by decide)) (sr_ref 0 (sr_val se_int sr_nil)) spr)))) sa_nil))) (sa_cons (se_tup (sa_cons (se_un un_neg ud_neg pu_neg se_int) (sa_cons se_int sa_nil))) (sa_cons (se_tup (sa_cons (se_un un_neg ud_neg pu_neg se_int) (sa_cons se_int sa_nil))) sa_nil))))) (se_op op_fdivW od_I pu_I (se_fz (sn_call1 (ok_law_take T 2) (hr.mono (by decide)) (sr_ref 0 (sr_val se_int sr_nil)) spr)) se_int)) (sg_tup rfl (sgs_cons (sg_name sc_law_rows.nd) (sgs_cons (sg_name sc_law_rows.nd) sgs_nil))))
    (ss_one (ss_append 2 (sn_of (se_tup (sa_cons se_str (sa_cons (se_var 8) (sa_cons (se_pu (sn_ty call_tuple_of cd_tuple T.b_tuple (by decide +kernel) (sa_cons (se_fz (sn_lc [("_law_k", 10)] 11 rfl rfl sc_law_rows.nd (si_rg1 T.b_range (sa_cons (se_var 9) sa_nil)) (blkOk_by (by rfl)) (fun _ _ _ _ _ => (sg_name sc_law_rows.nd)) (fun _ _ _ _ _ => sif_nil) (fun _ _ _ _ _ => (se_fz (sn_op or_add od_add (se_fz (sn_op or_add od_add (se_var 3) se_int)) (se_fz (sn_call1 (ok_law_take T 2) (hr.mono (by decide)) (sr_ref 0 (sr_val (se_op op_sub od_I0 pu_I0 (se_op op_sub od_I0 pu_I0 (se_var 1) (se_var 3)) se_int) sr_nil)) spr))))))) sa_nil)) (pu_bi pu_tuple)) sa_nil)))))))) (ss_one (ss_append 2 (sn_of (se_tup (sa_cons se_str (sa_cons (se_fz (sn_call1 (ok_law_take T 2) (hr.mono (by decide)) (sr_ref 0 (sr_val se_int sr_nil)) spr)) sa_nil)))))))))))))))))))
    (ss_one (ss_ret (sn_op or_add od_add (se_frz 2) (se_fz (sn_lst (sa_cons (se_tup (sa_cons se_str (sa_cons (se_fz (sn_call1 (ok_law_take T 2) (hr.mono (by decide)) (sr_ref 0 (sr_val se_int sr_nil)) spr)) sa_nil))) sa_nil))))))))
theorem ok_law_behind (T : Tx K mg) : Fd P w K mg base 1 "_law_behind" 3 [] c_law_behind := by
  obtain ⟨f, fd, F⟩ := T.d_law_behind
  exact Fd.mk' (k := 0) F sc_law_behind (by decide) rfl fun cdv A outer s H E hr => (ss_cons (ss_set 3 sc_law_behind.nd (sn_of (se_ix (se_var 0) (se_var 1))))
    (ss_cons (ss_if (st_cmp (or_eq (Room_u64 hr)) od_eq pu_eq (se_ix (se_var 3) se_int) se_str (nomark _)) (ss_one (ss_ret (sn_if (st_cmp (or_eq (Room_u64 hr)) od_eq pu_eq (se_var 2) (se_ix (se_var 3) se_int) (nomark _)) (sn_of (se_ix (se_var 3) se_int)) (sn_op or_add od_add (se_var 1) se_int)))) ss_nil)
    (ss_cons (ss_if (st_cmp (or_eq (Room_u64 hr)) od_eq pu_eq (se_ix (se_var 3) se_int) se_str (nomark _)) (ss_one (ss_ret (sn_if (st_chain op_le od_B op_le od_B pu_B (se_ix (se_var 3) se_int) (se_var 2) (se_ix (se_var 3) se_int)) (sn_of (se_ix (se_var 3) se_int)) (sn_op or_add od_add (se_var 1) se_int)))) ss_nil)
    (ss_cons (ss_if (st_cmp (or_eq (Room_u64 hr)) od_eq pu_eq (se_ix (se_var 3) se_int) se_str (nomark _)) (ss_one (ss_ret (sn_if (st_cmp op_lt od_B pu_B (se_var 2) (se_ix (se_var 3) se_int) (nomark _)) (sn_of (se_ix (se_var 3) se_int)) (sn_op or_add od_add (se_var 1) se_int)))) ss_nil)
    (ss_cons (ss_set 4 sc_law_behind.nd (sn_of (se_op op_sub od_I0 pu_I0 (se_var 2) (se_ix (se_var 3) se_int))))
    (ss_cons (ss_if (sw_pt (sw_or (st_cmp op_lt od_B pu_B (se_var 4) se_int (nomark _)) (sw_or1 (st_cmp op_ge od_B pu_B (se_var 4) (se_if (st_cmp (or_eq (Room_u64 hr)) od_eq pu_eq (se_ix (se_var 3) se_int) se_str (nomark _)) (se_ix (se_var 3) se_int) (se_pu (sn_bi call_len cd_len T.b_len PySem.boot_len (sa_cons (se_ix (se_var 3) se_int) sa_nil)) (pu_bi pu_len))) (nomark _))))) (ss_one (ss_ret (sn_of se_non))) ss_nil)
    (ss_cons (ss_if (st_cmp (or_eq (Room_u64 hr)) od_eq pu_eq (se_ix (se_var 3) se_int) se_str (nomark _)) (ss_one (ss_ret (sn_of (se_ix (se_ix (se_var 3) se_int) (se_var 4))))) ss_nil)
    (ss_one (ss_ret (sn_if (st_cmp (or_eq (Room_u64 hr)) od_eq pu_eq (se_op op_and od_I0 pu_I0 (se_op op_shr od_I pu_I (se_ix (se_var 3) se_int) (se_var 4)) se_int) se_int (nomark _)) (sn_of (se_ix (se_var 3) se_int)) (sn_op or_add od_add (se_var 1) se_int)))))))))))
theorem ok_law_run (T : Tx K mg) : Fd P w K mg base 2 "_law_run" 2 [] c_law_run := by
  obtain ⟨f, fd, F⟩ := T.d_law_run
  exact Fd.mk' (k := 1) F sc_law_run (by decide) rfl fun cdv A outer s H E hr => (ss_cons (ss_set 2 sc_law_run.nd (sn_lst (sa_cons se_int sa_nil)))
    (ss_cons (ss_while (fun _ => 100000) PassesOwn.never (st_cmp (or_ne (Room_u64 hr)) od_ne pu_ne (se_ix (se_ix (se_var 0) (se_ixO 2 (se_un un_neg ud_neg pu_neg se_int))) se_int) se_str (nomark _)) (ss_cons (ss_set 3 sc_law_run.nd (sn_of (se_fz (sn_call (ok_law_behind T) (hr.mono (by decide)) (sa_cons (se_var 0) (sa_cons (se_ixO 2 (se_un un_neg ud_neg pu_neg se_int)) (sa_cons (se_var 1) sa_nil)))))))
    (ss_cons (ss_if (st_cmp or_isN od_isN pu_isN (se_var 3) se_non (nomark _)) (ss_one (ss_ret (sn_of (se_tup (sa_cons se_non (sa_cons (se_frz 2) sa_nil)))))) ss_nil)
    (ss_one (ss_append 2 (sn_of (se_var 3)))))))
    (ss_one (ss_ret (sn_of (se_tup (sa_cons (se_ix (se_ix (se_var 0) (se_ixO 2 (se_un un_neg ud_neg pu_neg se_int))) se_int) (sa_cons (se_frz 2) sa_nil))))))))
theorem ok_law_refused (T : Tx K mg) : Fd P w K mg base 5 "_law_refused" 2 [] c_law_refused := by
  obtain ⟨a_CaseError, g_CaseError, i_CaseError, e_CaseError⟩ := T.x_CaseError
  obtain ⟨f, fd, F⟩ := T.d_law_refused
  exact Fd.mk' (k := 4) F sc_law_refused (by decide) rfl fun cdv A outer s H E hr => (ss_cons (ss_set 2 sc_law_refused.nd (sn_of se_non))
    (ss_cons (ss_tryAs 3 sc_law_refused.nd ⟨rfl, by decide, .inl g_CaseError⟩ e_CaseError (fun _ _ _ tk po => (sx_one (sx_exprX (ok_run T) (L2.passAt tk) (hr.mono (by decide)) (sa_cons (se_var 0) (sa_cons (se_var 1) sa_nil))))) (fun _ _ => (ss_one (ss_set 2 sc_law_refused.nd (sn_of (se_var 3))))))
    (ss_one (ss_ret (sn_call (ok_law_word T) (hr.mono (by decide)) (sa_cons (se_var 2) sa_nil))))))
theorem ok_law (T : Tx K mg) {f : Addr} {fd : FuncData} (F : At K mg "law" s_law ["_law_script"] f fd) : FnG P w K mg base 13 f fd ["_law_script"] (spC K 1 [] c_law) :=
  Fn.mk' (k := 12) F sc_law (by decide) rfl fun cdv A outer s H E hr => (ss_cons (ss_for PassesOwn.never rfl (si_rg1 T.b_range (sa_cons (se_fz (sn_op or_add od_add se_int (se_pu (sn_bi (call_min2 rfl) cd_min2 T.b_min (by decide +kernel) (sa_cons se_int (sa_cons (se_pu (sn_bi call_len cd_len T.b_len PySem.boot_len (sa_cons (se_var 0) sa_nil)) (pu_bi pu_len)) sa_nil))) (pu_bi pu_min2)))) sa_nil)) (sg_name sc_law.nd) (ss_cons (ss_set 2 sc_law.nd (sn_call (ok_law_tape T) (hr.mono (by decide)) (sa_cons (se_var 0) (sa_cons (se_var 1) sa_nil))))
    (ss_cons (ss_set 3 sc_law.nd (sn_call1 (ok_law_rows T) (hr.mono (by decide)) (sr_ref 2 (sr_val (se_fz (sn_op or_add od_add se_int (se_fz (sn_call1 (ok_law_take T 2) (hr.mono (by decide)) (sr_ref 2 (sr_val (se_ix (se_fz (sn_lst (sa_cons se_int (sa_cons se_int sa_nil)))) (se_fz (sn_call1 (ok_law_take T 2) (hr.mono (by decide)) (sr_ref 2 (sr_val se_int sr_nil)) spr))) sr_nil)) spr)))) sr_nil)) spr))
    (ss_cons (ss_set 4 sc_law.nd (sn_of (se_fz (sn_op or_add od_add se_int (se_fz (sn_call1 (ok_law_take T 2) (hr.mono (by decide)) (sr_ref 2 (sr_val se_int sr_nil)) spr))))))
    (ss_cons (ss_set 5 sc_law.nd (sn_of (se_fz (sn_lst (sa_cons (se_tup (sa_cons se_str (sa_cons se_int (sa_cons (se_var 4) (sa_cons (se_fz (sn_call1 (ok_law_take T 2) (hr.mono (by decide)) (sr_ref 2 (sr_val (se_op op_shl od_I pu_I se_int (se_var 4)) sr_nil)) spr)) (sa_cons (se_op op_sub od_I0 pu_I0 (se_biL call_len cd_len T.b_len PySem.boot_len (sr_ref 3 sr_nil)) se_int) sa_nil)))))) (sa_cons (se_tup (sa_cons se_str (sa_cons (se_un un_neg ud_neg pu_neg se_int) (sa_cons (se_op or_mulT od_mulT pu_mulT (se_tup (sa_cons se_int sa_nil)) (se_var 4)) sa_nil)))) sa_nil))))))
    (ss_cons (ss_setix 3 (se_ix (se_fz (sn_op or_add od_add (se_var 5) (se_fz (sn_lst (sa_cons (se_ixO 3 se_int) (sa_cons (se_ixO 3 se_int) sa_nil)))))) (se_fz (sn_call1 (ok_law_take T 2) (hr.mono (by decide)) (sr_ref 2 (sr_val se_int sr_nil)) spr))) se_int)
    (ss_cons (ss_set 6 sc_law.nd (sn_of (se_biL (cr_repr hr.gu (Room_u64 hr)) cd_repr T.b_repr (by decide +kernel) (sr_ref 3 sr_nil))))
    (ss_cons (ss_for PassesOwn.never rfl (si_list (se_fz (sn_op or_add od_add (se_fz (sn_listRg2 T.b_list T.b_range (se_un un_neg ud_neg pu_neg se_int) se_int)) (se_fz (sn_lst (sa_cons (se_op op_pow od_I pu_I se_int se_int) (sa_cons (se_un un_neg ud_neg pu_neg (se_op op_pow od_I pu_I se_int se_int)) sa_nil))))))) (sg_name sc_law.nd) (ss_cons (ss_asg (se_fz (sn_call (ok_law_run T) (hr.mono (by decide)) (sa_cons (se_frz 3) (sa_cons (se_var 7) sa_nil)))) (sg_tup rfl (sgs_cons (sg_name sc_law.nd) (sgs_cons (sg_name sc_law.nd) sgs_nil))))
    (ss_one (ss_if (st_not (st_val (se_fz (sn_call (ok_law_same T 12) (hr.mono (by decide)) (sa_cons (se_fz (sn_call (ok_law_refused T) (hr.mono (by decide)) (sa_cons (se_frz 3) (sa_cons (se_var 7) sa_nil)))) (sa_cons (se_if (st_cmp or_isN od_isN pu_isN (se_var 8) se_non (nomark _)) (se_tup (sa_cons se_str (sa_cons (se_ix (se_var 9) (se_un un_neg ud_neg pu_neg se_int)) sa_nil))) se_non) sa_nil)))))) (ss_one (ss_ret (sn_of se_bl))) ss_nil))))
    (ss_one (ss_if (st_cmp (or_ne (Room_u64 hr)) od_ne pu_ne (se_biL (cr_repr hr.gu (Room_u64 hr)) cd_repr T.b_repr (by decide +kernel) (sr_ref 3 sr_nil)) (se_var 6) (nomark _)) (ss_one (ss_ret (sn_of se_bl))) ss_nil))))))))))
    (ss_one (ss_ret (sn_of se_bl))))
end
/-! ### the end -/
theorem tx_mk {K : PySem.W.Frag} {h : Heap} {mg : Str → Option Value} (X : K.In h) (G : h.Ns mainGlobals mg)
    {f0 : Addr} {od0 an0 : Option Addr} {sl0 : Array (Option Value)} {oc0 kV0 dc0 pm0 cd0 ct0 : Value}
    (a0 : PySem.W.nsIn K mainGlobals "goal_of" = some (some (.ref f0))) (l0 : K.lookup f0 = some ⟨oc0, od0, .func (PySem.W.fnOf "goal_of" "goal_of" (defArgs s_goal_of) (defBody s_goal_of) (defScope s_goal_of) .none kV0 dc0 pm0 an0 cd0 ct0), sl0⟩) (k0 : PySem.W.codeIn K cd0 "goal_of" = true) (p0 : PySem.W.keepIn K (.ref f0) = true)
    {f1 : Addr} {od1 an1 : Option Addr} {sl1 : Array (Option Value)} {oc1 kV1 dc1 pm1 cd1 ct1 : Value}
    (a1 : PySem.W.nsIn K mainGlobals "run" = some (some (.ref f1))) (l1 : K.lookup f1 = some ⟨oc1, od1, .func (PySem.W.fnOf "run" "run" (defArgs s_run) (defBody s_run) (defScope s_run) .none kV1 dc1 pm1 an1 cd1 ct1), sl1⟩) (k1 : PySem.W.codeIn K cd1 "run" = true) (p1 : PySem.W.keepIn K (.ref f1) = true)
    {f2 : Addr} {od2 an2 : Option Addr} {sl2 : Array (Option Value)} {oc2 kV2 dc2 pm2 cd2 ct2 : Value}
    (a2 : PySem.W.nsIn K mainGlobals "_law_cell_at" = some (some (.ref f2))) (l2 : K.lookup f2 = some ⟨oc2, od2, .func (PySem.W.fnOf "_law_cell_at" "_law_cell_at" (defArgs s_law_cell_at) (defBody s_law_cell_at) (defScope s_law_cell_at) .none kV2 dc2 pm2 an2 cd2 ct2), sl2⟩) (k2 : PySem.W.codeIn K cd2 "_law_cell_at" = true) (p2 : PySem.W.keepIn K (.ref f2) = true)
    {f3 : Addr} {od3 an3 : Option Addr} {sl3 : Array (Option Value)} {oc3 kV3 dc3 pm3 cd3 ct3 : Value}
    (a3 : PySem.W.nsIn K mainGlobals "_law_tape" = some (some (.ref f3))) (l3 : K.lookup f3 = some ⟨oc3, od3, .func (PySem.W.fnOf "_law_tape" "_law_tape" (defArgs s_law_tape) (defBody s_law_tape) (defScope s_law_tape) .none kV3 dc3 pm3 an3 cd3 ct3), sl3⟩) (k3 : PySem.W.codeIn K cd3 "_law_tape" = true) (p3 : PySem.W.keepIn K (.ref f3) = true)
    {f4 : Addr} {od4 an4 : Option Addr} {sl4 : Array (Option Value)} {oc4 kV4 dc4 pm4 cd4 ct4 : Value}
    (a4 : PySem.W.nsIn K mainGlobals "_law_take" = some (some (.ref f4))) (l4 : K.lookup f4 = some ⟨oc4, od4, .func (PySem.W.fnOf "_law_take" "_law_take" (defArgs s_law_take) (defBody s_law_take) (defScope s_law_take) .none kV4 dc4 pm4 an4 cd4 ct4), sl4⟩) (k4 : PySem.W.codeIn K cd4 "_law_take" = true) (p4 : PySem.W.keepIn K (.ref f4) = true)
    {f5 : Addr} {od5 an5 : Option Addr} {sl5 : Array (Option Value)} {oc5 kV5 dc5 pm5 cd5 ct5 : Value}
    (a5 : PySem.W.nsIn K mainGlobals "_law_same" = some (some (.ref f5))) (l5 : K.lookup f5 = some ⟨oc5, od5, .func (PySem.W.fnOf "_law_same" "_law_same" (defArgs s_law_same) (defBody s_law_same) (defScope s_law_same) .none kV5 dc5 pm5 an5 cd5 ct5), sl5⟩) (k5 : PySem.W.codeIn K cd5 "_law_same" = true) (p5 : PySem.W.keepIn K (.ref f5) = true)
    {f6 : Addr} {od6 an6 : Option Addr} {sl6 : Array (Option Value)} {oc6 kV6 dc6 pm6 cd6 ct6 : Value}
    (a6 : PySem.W.nsIn K mainGlobals "_law_word" = some (some (.ref f6))) (l6 : K.lookup f6 = some ⟨oc6, od6, .func (PySem.W.fnOf "_law_word" "_law_word" (defArgs s_law_word) (defBody s_law_word) (defScope s_law_word) .none kV6 dc6 pm6 an6 cd6 ct6), sl6⟩) (k6 : PySem.W.codeIn K cd6 "_law_word" = true) (p6 : PySem.W.keepIn K (.ref f6) = true)
    {f7 : Addr} {od7 an7 : Option Addr} {sl7 : Array (Option Value)} {oc7 kV7 dc7 pm7 cd7 ct7 : Value}
    (a7 : PySem.W.nsIn K mainGlobals "_law_rows" = some (some (.ref f7))) (l7 : K.lookup f7 = some ⟨oc7, od7, .func (PySem.W.fnOf "_law_rows" "_law_rows" (defArgs s_law_rows) (defBody s_law_rows) (defScope s_law_rows) .none kV7 dc7 pm7 an7 cd7 ct7), sl7⟩) (k7 : PySem.W.codeIn K cd7 "_law_rows" = true) (p7 : PySem.W.keepIn K (.ref f7) = true)
    {f8 : Addr} {od8 an8 : Option Addr} {sl8 : Array (Option Value)} {oc8 kV8 dc8 pm8 cd8 ct8 : Value}
    (a8 : PySem.W.nsIn K mainGlobals "_law_behind" = some (some (.ref f8))) (l8 : K.lookup f8 = some ⟨oc8, od8, .func (PySem.W.fnOf "_law_behind" "_law_behind" (defArgs s_law_behind) (defBody s_law_behind) (defScope s_law_behind) .none kV8 dc8 pm8 an8 cd8 ct8), sl8⟩) (k8 : PySem.W.codeIn K cd8 "_law_behind" = true) (p8 : PySem.W.keepIn K (.ref f8) = true)
    {f9 : Addr} {od9 an9 : Option Addr} {sl9 : Array (Option Value)} {oc9 kV9 dc9 pm9 cd9 ct9 : Value}
    (a9 : PySem.W.nsIn K mainGlobals "_law_run" = some (some (.ref f9))) (l9 : K.lookup f9 = some ⟨oc9, od9, .func (PySem.W.fnOf "_law_run" "_law_run" (defArgs s_law_run) (defBody s_law_run) (defScope s_law_run) .none kV9 dc9 pm9 an9 cd9 ct9), sl9⟩) (k9 : PySem.W.codeIn K cd9 "_law_run" = true) (p9 : PySem.W.keepIn K (.ref f9) = true)
    {f10 : Addr} {od10 an10 : Option Addr} {sl10 : Array (Option Value)} {oc10 kV10 dc10 pm10 cd10 ct10 : Value}
    (a10 : PySem.W.nsIn K mainGlobals "_law_refused" = some (some (.ref f10))) (l10 : K.lookup f10 = some ⟨oc10, od10, .func (PySem.W.fnOf "_law_refused" "_law_refused" (defArgs s_law_refused) (defBody s_law_refused) (defScope s_law_refused) .none kV10 dc10 pm10 an10 cd10 ct10), sl10⟩) (k10 : PySem.W.codeIn K cd10 "_law_refused" = true) (p10 : PySem.W.keepIn K (.ref f10) = true)
    {f11 : Addr} {od11 an11 : Option Addr} {sl11 : Array (Option Value)} {oc11 kV11 dc11 pm11 cd11 ct11 : Value}
    (a11 : PySem.W.nsIn K mainGlobals "law" = some (some (.ref f11))) (l11 : K.lookup f11 = some ⟨oc11, od11, .func (PySem.W.fnOf "law" "law" (defArgs s_law) (defBody s_law) (defScope s_law) .none kV11 dc11 pm11 an11 cd11 ct11), sl11⟩) (k11 : PySem.W.codeIn K cd11 "law" = true) (p11 : PySem.W.keepIn K (.ref f11) = true)
    (z_ValueError : PySem.W.nsIn K mainGlobals "ValueError" = some none)
    (z_abs : PySem.W.nsIn K mainGlobals "abs" = some none)
    (z_all : PySem.W.nsIn K mainGlobals "all" = some none)
    (z_bool : PySem.W.nsIn K mainGlobals "bool" = some none)
    (z_int : PySem.W.nsIn K mainGlobals "int" = some none)
    (z_isinstance : PySem.W.nsIn K mainGlobals "isinstance" = some none)
    (z_len : PySem.W.nsIn K mainGlobals "len" = some none)
    (z_list : PySem.W.nsIn K mainGlobals "list" = some none)
    (z_min : PySem.W.nsIn K mainGlobals "min" = some none)
    (z_range : PySem.W.nsIn K mainGlobals "range" = some none)
    (z_repr : PySem.W.nsIn K mainGlobals "repr" = some none)
    (z_str : PySem.W.nsIn K mainGlobals "str" = some none)
    (z_tuple : PySem.W.nsIn K mainGlobals "tuple" = some none)
    (z_zip : PySem.W.nsIn K mainGlobals "zip" = some none)
    (cg : PySem.W.specialIn K (.builtin "object.__class__") "__get__" = some (some (.builtin "getset_descriptor.__get__")))
    (ct : PySem.W.takesIn K (.builtin "object.__class__") = some true)
    {C_CaseError : Addr}
    (n_CaseError : PySem.W.nsIn K mainGlobals "CaseError" = some (some (.ref C_CaseError)))
    (w1_CaseError : PySem.W.findIn K (.ref C_CaseError) "__getattribute__" = some (some (.builtin "BaseException.__getattribute__")))
    (w2_CaseError : PySem.W.findIn K (.ref C_CaseError) "__getattr__" = some none)
    (w3_CaseError : PySem.W.subIn K (.ref C_CaseError) (.type "BaseException") = some true)
    (w4_CaseError : PySem.W.hasDictIn K C_CaseError = true)
    (w5_CaseError : PySem.W.findIn K (.ref C_CaseError) "__class__" = some (some (.builtin "object.__class__")))
    (w6_CaseError : PySem.W.mroIn K C_CaseError (.type "object") = some true)
    (w7_CaseError : PySem.W.typeIn K (.ref C_CaseError) = some (.type "type"))
    (w8_CaseError : PySem.W.keepIn K (.ref C_CaseError) = true)
    {C_Twice : Addr}
    (n_Twice : PySem.W.nsIn K mainGlobals "Twice" = some (some (.ref C_Twice)))
    (w1_Twice : PySem.W.findIn K (.ref C_Twice) "__getattribute__" = some (some (.builtin "BaseException.__getattribute__")))
    (w2_Twice : PySem.W.findIn K (.ref C_Twice) "__getattr__" = some none)
    (w3_Twice : PySem.W.subIn K (.ref C_Twice) (.type "BaseException") = some true)
    (w4_Twice : PySem.W.hasDictIn K C_Twice = true)
    (w5_Twice : PySem.W.findIn K (.ref C_Twice) "__class__" = some (some (.builtin "object.__class__")))
    (w6_Twice : PySem.W.mroIn K C_Twice (.type "object") = some true)
    (w7_Twice : PySem.W.typeIn K (.ref C_Twice) = some (.type "type"))
    (w8_Twice : PySem.W.keepIn K (.ref C_Twice) = true)
    {C_Beyond : Addr}
    (n_Beyond : PySem.W.nsIn K mainGlobals "Beyond" = some (some (.ref C_Beyond)))
    (w1_Beyond : PySem.W.findIn K (.ref C_Beyond) "__getattribute__" = some (some (.builtin "BaseException.__getattribute__")))
    (w2_Beyond : PySem.W.findIn K (.ref C_Beyond) "__getattr__" = some none)
    (w3_Beyond : PySem.W.subIn K (.ref C_Beyond) (.type "BaseException") = some true)
    (w4_Beyond : PySem.W.hasDictIn K C_Beyond = true)
    (w5_Beyond : PySem.W.findIn K (.ref C_Beyond) "__class__" = some (some (.builtin "object.__class__")))
    (w6_Beyond : PySem.W.mroIn K C_Beyond (.type "object") = some true)
    (w7_Beyond : PySem.W.typeIn K (.ref C_Beyond) = some (.type "type"))
    (w8_Beyond : PySem.W.keepIn K (.ref C_Beyond) = true)
    {C_TooNarrow : Addr}
    (n_TooNarrow : PySem.W.nsIn K mainGlobals "TooNarrow" = some (some (.ref C_TooNarrow)))
    (w1_TooNarrow : PySem.W.findIn K (.ref C_TooNarrow) "__getattribute__" = some (some (.builtin "BaseException.__getattribute__")))
    (w2_TooNarrow : PySem.W.findIn K (.ref C_TooNarrow) "__getattr__" = some none)
    (w3_TooNarrow : PySem.W.subIn K (.ref C_TooNarrow) (.type "BaseException") = some true)
    (w4_TooNarrow : PySem.W.hasDictIn K C_TooNarrow = true)
    (w5_TooNarrow : PySem.W.findIn K (.ref C_TooNarrow) "__class__" = some (some (.builtin "object.__class__")))
    (w6_TooNarrow : PySem.W.mroIn K C_TooNarrow (.type "object") = some true)
    (w7_TooNarrow : PySem.W.typeIn K (.ref C_TooNarrow) = some (.type "type"))
    (w8_TooNarrow : PySem.W.keepIn K (.ref C_TooNarrow) = true)
    {C_NoStretch : Addr}
    (n_NoStretch : PySem.W.nsIn K mainGlobals "NoStretch" = some (some (.ref C_NoStretch)))
    (w1_NoStretch : PySem.W.findIn K (.ref C_NoStretch) "__getattribute__" = some (some (.builtin "BaseException.__getattribute__")))
    (w2_NoStretch : PySem.W.findIn K (.ref C_NoStretch) "__getattr__" = some none)
    (w3_NoStretch : PySem.W.subIn K (.ref C_NoStretch) (.type "BaseException") = some true)
    (w4_NoStretch : PySem.W.hasDictIn K C_NoStretch = true)
    (w5_NoStretch : PySem.W.findIn K (.ref C_NoStretch) "__class__" = some (some (.builtin "object.__class__")))
    (w6_NoStretch : PySem.W.mroIn K C_NoStretch (.type "object") = some true)
    (w7_NoStretch : PySem.W.typeIn K (.ref C_NoStretch) = some (.type "type"))
    (w8_NoStretch : PySem.W.keepIn K (.ref C_NoStretch) = true)
    {C_BadText : Addr}
    (n_BadText : PySem.W.nsIn K mainGlobals "BadText" = some (some (.ref C_BadText)))
    (w1_BadText : PySem.W.findIn K (.ref C_BadText) "__getattribute__" = some (some (.builtin "BaseException.__getattribute__")))
    (w2_BadText : PySem.W.findIn K (.ref C_BadText) "__getattr__" = some none)
    (w3_BadText : PySem.W.subIn K (.ref C_BadText) (.type "BaseException") = some true)
    (w4_BadText : PySem.W.hasDictIn K C_BadText = true)
    (w5_BadText : PySem.W.findIn K (.ref C_BadText) "__class__" = some (some (.builtin "object.__class__")))
    (w6_BadText : PySem.W.mroIn K C_BadText (.type "object") = some true)
    (w7_BadText : PySem.W.typeIn K (.ref C_BadText) = some (.type "type"))
    (w8_BadText : PySem.W.keepIn K (.ref C_BadText) = true)
    (i_CaseError_Twice : PySem.W.subIn K (.ref C_Twice) (.ref C_CaseError) = some true)
    (i_CaseError_Beyond : PySem.W.subIn K (.ref C_Beyond) (.ref C_CaseError) = some true)
    (i_CaseError_TooNarrow : PySem.W.subIn K (.ref C_TooNarrow) (.ref C_CaseError) = some true)
    (i_CaseError_NoStretch : PySem.W.subIn K (.ref C_NoStretch) (.ref C_CaseError) = some true)
    (i_CaseError_BadText : PySem.W.subIn K (.ref C_BadText) (.ref C_CaseError) = some true)
    (i_Twice_Twice : PySem.W.subIn K (.ref C_Twice) (.ref C_Twice) = some true)
    (i_Twice_Beyond : PySem.W.subIn K (.ref C_Beyond) (.ref C_Twice) = some false)
    (j_Twice_Beyond : C_Beyond ≠ C_Twice)
    (i_Twice_TooNarrow : PySem.W.subIn K (.ref C_TooNarrow) (.ref C_Twice) = some false)
    (j_Twice_TooNarrow : C_TooNarrow ≠ C_Twice)
    (i_Twice_NoStretch : PySem.W.subIn K (.ref C_NoStretch) (.ref C_Twice) = some false)
    (j_Twice_NoStretch : C_NoStretch ≠ C_Twice)
    (i_Twice_BadText : PySem.W.subIn K (.ref C_BadText) (.ref C_Twice) = some false)
    (j_Twice_BadText : C_BadText ≠ C_Twice)
    (i_Beyond_Twice : PySem.W.subIn K (.ref C_Twice) (.ref C_Beyond) = some false)
    (j_Beyond_Twice : C_Twice ≠ C_Beyond)
    (i_Beyond_Beyond : PySem.W.subIn K (.ref C_Beyond) (.ref C_Beyond) = some true)
    (i_Beyond_TooNarrow : PySem.W.subIn K (.ref C_TooNarrow) (.ref C_Beyond) = some false)
    (j_Beyond_TooNarrow : C_TooNarrow ≠ C_Beyond)
    (i_Beyond_NoStretch : PySem.W.subIn K (.ref C_NoStretch) (.ref C_Beyond) = some false)
    (j_Beyond_NoStretch : C_NoStretch ≠ C_Beyond)
    (i_Beyond_BadText : PySem.W.subIn K (.ref C_BadText) (.ref C_Beyond) = some false)
    (j_Beyond_BadText : C_BadText ≠ C_Beyond)
    (i_TooNarrow_Twice : PySem.W.subIn K (.ref C_Twice) (.ref C_TooNarrow) = some false)
    (j_TooNarrow_Twice : C_Twice ≠ C_TooNarrow)
    (i_TooNarrow_Beyond : PySem.W.subIn K (.ref C_Beyond) (.ref C_TooNarrow) = some false)
    (j_TooNarrow_Beyond : C_Beyond ≠ C_TooNarrow)
    (i_TooNarrow_TooNarrow : PySem.W.subIn K (.ref C_TooNarrow) (.ref C_TooNarrow) = some true)
    (i_TooNarrow_NoStretch : PySem.W.subIn K (.ref C_NoStretch) (.ref C_TooNarrow) = some false)
    (j_TooNarrow_NoStretch : C_NoStretch ≠ C_TooNarrow)
    (i_TooNarrow_BadText : PySem.W.subIn K (.ref C_BadText) (.ref C_TooNarrow) = some false)
    (j_TooNarrow_BadText : C_BadText ≠ C_TooNarrow)
    (i_NoStretch_Twice : PySem.W.subIn K (.ref C_Twice) (.ref C_NoStretch) = some false)
    (j_NoStretch_Twice : C_Twice ≠ C_NoStretch)
    (i_NoStretch_Beyond : PySem.W.subIn K (.ref C_Beyond) (.ref C_NoStretch) = some false)
    (j_NoStretch_Beyond : C_Beyond ≠ C_NoStretch)
    (i_NoStretch_TooNarrow : PySem.W.subIn K (.ref C_TooNarrow) (.ref C_NoStretch) = some false)
    (j_NoStretch_TooNarrow : C_TooNarrow ≠ C_NoStretch)
    (i_NoStretch_NoStretch : PySem.W.subIn K (.ref C_NoStretch) (.ref C_NoStretch) = some true)
    (i_NoStretch_BadText : PySem.W.subIn K (.ref C_BadText) (.ref C_NoStretch) = some false)
    (j_NoStretch_BadText : C_BadText ≠ C_NoStretch)
    (i_BadText_Twice : PySem.W.subIn K (.ref C_Twice) (.ref C_BadText) = some false)
    (j_BadText_Twice : C_Twice ≠ C_BadText)
    (i_BadText_Beyond : PySem.W.subIn K (.ref C_Beyond) (.ref C_BadText) = some false)
    (j_BadText_Beyond : C_Beyond ≠ C_BadText)
    (i_BadText_TooNarrow : PySem.W.subIn K (.ref C_TooNarrow) (.ref C_BadText) = some false)
    (j_BadText_TooNarrow : C_TooNarrow ≠ C_BadText)
    (i_BadText_NoStretch : PySem.W.subIn K (.ref C_NoStretch) (.ref C_BadText) = some false)
    (j_BadText_NoStretch : C_NoStretch ≠ C_BadText)
    (i_BadText_BadText : PySem.W.subIn K (.ref C_BadText) (.ref C_BadText) = some true)
    (i_ValueError_BadText : PySem.W.subIn K (.ref C_BadText) (.type "ValueError") = some true)
    (i_ValueError_NoStretch : PySem.W.subIn K (.ref C_NoStretch) (.type "ValueError") = some true)
    (i_ValueError_TooNarrow : PySem.W.subIn K (.ref C_TooNarrow) (.type "ValueError") = some true)
    (i_ValueError_Beyond : PySem.W.subIn K (.ref C_Beyond) (.type "ValueError") = some true)
    (i_ValueError_Twice : PySem.W.subIn K (.ref C_Twice) (.type "ValueError") = some true)
    (f_number_Twice : PySem.W.findIn K (.ref C_Twice) "number" = some none)
    (f_one_Twice : PySem.W.findIn K (.ref C_Twice) "one" = some none)
    (f_other_Twice : PySem.W.findIn K (.ref C_Twice) "other" = some none)
    (f_place_NoStretch : PySem.W.findIn K (.ref C_NoStretch) "place" = some none)
    (f_row_BadText : PySem.W.findIn K (.ref C_BadText) "row" = some none)
    (f_row_Beyond : PySem.W.findIn K (.ref C_Beyond) "row" = some none)
    (ce1 : PySem.W.specialIn K (.ref C_CaseError) "__getattribute__" = some (some (.builtin "type.__getattribute__")))
    (ce2 : PySem.W.readsIn K C_CaseError (.type "type") = true)
    (ce3 : PySem.W.findCls K (.ref C_CaseError) (.type "type") "__init__" = some (.val (.builtin "ValueError.__init__")))
    {fI_Beyond : Addr} {nm_Beyond qq_Beyond : Str} {N_Beyond : Addr} {bs_Beyond bm_Beyond : List Value} {sn_Beyond : List Str} {sub_Beyond : List Value} {ab_Beyond : Bool} {col_Beyond : Option Bool} {dd_Beyond : Option Addr} {k0_Beyond k1_Beyond k2_Beyond k3_Beyond k5_Beyond : Option Value}
    (lC_Beyond : K.lookup C_Beyond = some (excClassObj nm_Beyond qq_Beyond C_Beyond N_Beyond bs_Beyond bm_Beyond true sn_Beyond sub_Beyond ab_Beyond col_Beyond dd_Beyond k0_Beyond k1_Beyond k2_Beyond k3_Beyond k5_Beyond "ValueError.__new__"))
    (rv_Beyond : PySem.HandSPX.refsVE bm_Beyond = true)
    (iC_Beyond : PySem.W.findIn K (.ref C_Beyond) "__init__" = some (some (.ref fI_Beyond)))
    (sa_Beyond : PySem.W.findIn K (.ref C_Beyond) "__setattr__" = some (some (.builtin "object.__setattr__")))
    (tI_Beyond : PySem.W.typeIn K (.ref fI_Beyond) = some (.type "function"))
    (no_Beyond_row : PySem.W.findIn K (.ref C_Beyond) "row" = some none)
    {ood_Beyond oan_Beyond : Option Addr} {osl_Beyond : Array (Option Value)} {ooc_Beyond okV_Beyond odc_Beyond opm_Beyond ocd_Beyond oct_Beyond : Value}
    (lI_Beyond : K.lookup fI_Beyond = some ⟨ooc_Beyond, ood_Beyond, .func (PySem.W.fnOf "__init__" "Beyond.__init__" (defArgs s_init_Beyond) (defBody s_init_Beyond) (defScope s_init_Beyond) .none okV_Beyond odc_Beyond opm_Beyond oan_Beyond ocd_Beyond oct_Beyond), osl_Beyond⟩)
    (kI_Beyond : PySem.W.codeIn K ocd_Beyond "Beyond.__init__" = true)
    (pI_Beyond : PySem.W.keepIn K (.ref fI_Beyond) = true) : Tx K mg :=
  ⟨(let F := fun_mk (st := s_goal_of) l0 k0 p0; ⟨f0, _, ⟨F, PySem.W.mg_of X G a0, F.binds (ps := ["row", "number"]) fun _ _ _ _ _ _ us hl => match us, hl with | [_, _], _ => rfl⟩⟩),
   (let F := fun_mk (st := s_run) l1 k1 p1; ⟨f1, _, ⟨F, PySem.W.mg_of X G a1, F.binds (ps := ["rows", "number"]) fun _ _ _ _ _ _ us hl => match us, hl with | [_, _], _ => rfl⟩⟩),
   (let F := fun_mk (st := s_law_cell_at) l2 k2 p2; ⟨f2, _, ⟨F, PySem.W.mg_of X G a2, F.binds (ps := ["_law_script", "_law_k"]) fun _ _ _ _ _ _ us hl => match us, hl with | [_, _], _ => rfl⟩⟩),
   (let F := fun_mk (st := s_law_tape) l3 k3 p3; ⟨f3, _, ⟨F, PySem.W.mg_of X G a3, F.binds (ps := ["_law_script", "_law_k"]) fun _ _ _ _ _ _ us hl => match us, hl with | [_, _], _ => rfl⟩⟩),
   (let F := fun_mk (st := s_law_take) l4 k4 p4; ⟨f4, _, ⟨F, PySem.W.mg_of X G a4, F.binds (ps := ["_law_tape_here", "_law_many"]) fun _ _ _ _ _ _ us hl => match us, hl with | [_, _], _ => rfl⟩⟩),
   (let F := fun_mk (st := s_law_same) l5 k5 p5; ⟨f5, _, ⟨F, PySem.W.mg_of X G a5, F.binds (ps := ["_law_found", "_law_due"]) fun _ _ _ _ _ _ us hl => match us, hl with | [_, _], _ => rfl⟩⟩),
   (let F := fun_mk (st := s_law_word) l6 k6 p6; ⟨f6, _, ⟨F, PySem.W.mg_of X G a6, F.binds (ps := ["_law_caught"]) fun _ _ _ _ _ _ us hl => match us, hl with | [_], _ => rfl⟩⟩),
   (let F := fun_mk (st := s_law_rows) l7 k7 p7; ⟨f7, _, ⟨F, PySem.W.mg_of X G a7, F.binds (ps := ["_law_tape_here", "_law_many"]) fun _ _ _ _ _ _ us hl => match us, hl with | [_, _], _ => rfl⟩⟩),
   (let F := fun_mk (st := s_law_behind) l8 k8 p8; ⟨f8, _, ⟨F, PySem.W.mg_of X G a8, F.binds (ps := ["_law_rows_here", "_law_at", "_law_number"]) fun _ _ _ _ _ _ us hl => match us, hl with | [_, _, _], _ => rfl⟩⟩),
   (let F := fun_mk (st := s_law_run) l9 k9 p9; ⟨f9, _, ⟨F, PySem.W.mg_of X G a9, F.binds (ps := ["_law_rows_here", "_law_number"]) fun _ _ _ _ _ _ us hl => match us, hl with | [_, _], _ => rfl⟩⟩),
   (let F := fun_mk (st := s_law_refused) l10 k10 p10; ⟨f10, _, ⟨F, PySem.W.mg_of X G a10, F.binds (ps := ["_law_rows_here", "_law_number"]) fun _ _ _ _ _ _ us hl => match us, hl with | [_, _], _ => rfl⟩⟩),
   (let F := fun_mk (st := s_law) l11 k11 p11; ⟨f11, _, ⟨F, PySem.W.mg_of X G a11, F.binds (ps := ["_law_script"]) fun _ _ _ _ _ _ us hl => match us, hl with | [_], _ => rfl⟩⟩),
   PySem.W.mg_none_of X G z_ValueError,
   PySem.W.mg_none_of X G z_abs,
   PySem.W.mg_none_of X G z_all,
   PySem.W.mg_none_of X G z_bool,
   PySem.W.mg_none_of X G z_int,
   PySem.W.mg_none_of X G z_isinstance,
   PySem.W.mg_none_of X G z_len,
   PySem.W.mg_none_of X G z_list,
   PySem.W.mg_none_of X G z_min,
   PySem.W.mg_none_of X G z_range,
   PySem.W.mg_none_of X G z_repr,
   PySem.W.mg_none_of X G z_str,
   PySem.W.mg_none_of X G z_tuple,
   PySem.W.mg_none_of X G z_zip,
   ⟨C_CaseError, PySem.W.mg_of X G n_CaseError, (isXT_cons (xcc_mk X G n_Twice cg ct w1_Twice w2_Twice w3_Twice w4_Twice w5_Twice w6_Twice w7_Twice w8_Twice) (kit_t (xcc_mk X G n_CaseError cg ct w1_CaseError w2_CaseError w3_CaseError w4_CaseError w5_CaseError w6_CaseError w7_CaseError w8_CaseError) i_CaseError_Twice) (isXT_cons (xcc_mk X G n_Beyond cg ct w1_Beyond w2_Beyond w3_Beyond w4_Beyond w5_Beyond w6_Beyond w7_Beyond w8_Beyond) (kit_t (xcc_mk X G n_CaseError cg ct w1_CaseError w2_CaseError w3_CaseError w4_CaseError w5_CaseError w6_CaseError w7_CaseError w8_CaseError) i_CaseError_Beyond) (isXT_cons (xcc_mk X G n_TooNarrow cg ct w1_TooNarrow w2_TooNarrow w3_TooNarrow w4_TooNarrow w5_TooNarrow w6_TooNarrow w7_TooNarrow w8_TooNarrow) (kit_t (xcc_mk X G n_CaseError cg ct w1_CaseError w2_CaseError w3_CaseError w4_CaseError w5_CaseError w6_CaseError w7_CaseError w8_CaseError) i_CaseError_TooNarrow) (isXT_cons (xcc_mk X G n_NoStretch cg ct w1_NoStretch w2_NoStretch w3_NoStretch w4_NoStretch w5_NoStretch w6_NoStretch w7_NoStretch w8_NoStretch) (kit_t (xcc_mk X G n_CaseError cg ct w1_CaseError w2_CaseError w3_CaseError w4_CaseError w5_CaseError w6_CaseError w7_CaseError w8_CaseError) i_CaseError_NoStretch) (isXT_cons (xcc_mk X G n_BadText cg ct w1_BadText w2_BadText w3_BadText w4_BadText w5_BadText w6_BadText w7_BadText w8_BadText) (kit_t (xcc_mk X G n_CaseError cg ct w1_CaseError w2_CaseError w3_CaseError w4_CaseError w5_CaseError w6_CaseError w7_CaseError w8_CaseError) i_CaseError_BadText) isXT_nil))))), (exT_cons (xcc_mk X G n_Twice cg ct w1_Twice w2_Twice w3_Twice w4_Twice w5_Twice w6_Twice w7_Twice w8_Twice) (exm_t (xcc_mk X G n_CaseError cg ct w1_CaseError w2_CaseError w3_CaseError w4_CaseError w5_CaseError w6_CaseError w7_CaseError w8_CaseError) i_CaseError_Twice) (exT_cons (xcc_mk X G n_Beyond cg ct w1_Beyond w2_Beyond w3_Beyond w4_Beyond w5_Beyond w6_Beyond w7_Beyond w8_Beyond) (exm_t (xcc_mk X G n_CaseError cg ct w1_CaseError w2_CaseError w3_CaseError w4_CaseError w5_CaseError w6_CaseError w7_CaseError w8_CaseError) i_CaseError_Beyond) (exT_cons (xcc_mk X G n_TooNarrow cg ct w1_TooNarrow w2_TooNarrow w3_TooNarrow w4_TooNarrow w5_TooNarrow w6_TooNarrow w7_TooNarrow w8_TooNarrow) (exm_t (xcc_mk X G n_CaseError cg ct w1_CaseError w2_CaseError w3_CaseError w4_CaseError w5_CaseError w6_CaseError w7_CaseError w8_CaseError) i_CaseError_TooNarrow) (exT_cons (xcc_mk X G n_NoStretch cg ct w1_NoStretch w2_NoStretch w3_NoStretch w4_NoStretch w5_NoStretch w6_NoStretch w7_NoStretch w8_NoStretch) (exm_t (xcc_mk X G n_CaseError cg ct w1_CaseError w2_CaseError w3_CaseError w4_CaseError w5_CaseError w6_CaseError w7_CaseError w8_CaseError) i_CaseError_NoStretch) (exT_cons (xcc_mk X G n_BadText cg ct w1_BadText w2_BadText w3_BadText w4_BadText w5_BadText w6_BadText w7_BadText w8_BadText) (exm_t (xcc_mk X G n_CaseError cg ct w1_CaseError w2_CaseError w3_CaseError w4_CaseError w5_CaseError w6_CaseError w7_CaseError w8_CaseError) i_CaseError_BadText) exT_nil)))))⟩,
   ⟨C_Twice, PySem.W.mg_of X G n_Twice, (isXT_cons (xcc_mk X G n_Twice cg ct w1_Twice w2_Twice w3_Twice w4_Twice w5_Twice w6_Twice w7_Twice w8_Twice) (kit_t (xcc_mk X G n_Twice cg ct w1_Twice w2_Twice w3_Twice w4_Twice w5_Twice w6_Twice w7_Twice w8_Twice) i_Twice_Twice) (isXT_cons (xcc_mk X G n_Beyond cg ct w1_Beyond w2_Beyond w3_Beyond w4_Beyond w5_Beyond w6_Beyond w7_Beyond w8_Beyond) (kit_f (xcc_mk X G n_Twice cg ct w1_Twice w2_Twice w3_Twice w4_Twice w5_Twice w6_Twice w7_Twice w8_Twice) i_Twice_Beyond j_Twice_Beyond) (isXT_cons (xcc_mk X G n_TooNarrow cg ct w1_TooNarrow w2_TooNarrow w3_TooNarrow w4_TooNarrow w5_TooNarrow w6_TooNarrow w7_TooNarrow w8_TooNarrow) (kit_f (xcc_mk X G n_Twice cg ct w1_Twice w2_Twice w3_Twice w4_Twice w5_Twice w6_Twice w7_Twice w8_Twice) i_Twice_TooNarrow j_Twice_TooNarrow) (isXT_cons (xcc_mk X G n_NoStretch cg ct w1_NoStretch w2_NoStretch w3_NoStretch w4_NoStretch w5_NoStretch w6_NoStretch w7_NoStretch w8_NoStretch) (kit_f (xcc_mk X G n_Twice cg ct w1_Twice w2_Twice w3_Twice w4_Twice w5_Twice w6_Twice w7_Twice w8_Twice) i_Twice_NoStretch j_Twice_NoStretch) (isXT_cons (xcc_mk X G n_BadText cg ct w1_BadText w2_BadText w3_BadText w4_BadText w5_BadText w6_BadText w7_BadText w8_BadText) (kit_f (xcc_mk X G n_Twice cg ct w1_Twice w2_Twice w3_Twice w4_Twice w5_Twice w6_Twice w7_Twice w8_Twice) i_Twice_BadText j_Twice_BadText) isXT_nil))))), (exT_cons (xcc_mk X G n_Twice cg ct w1_Twice w2_Twice w3_Twice w4_Twice w5_Twice w6_Twice w7_Twice w8_Twice) (exm_t (xcc_mk X G n_Twice cg ct w1_Twice w2_Twice w3_Twice w4_Twice w5_Twice w6_Twice w7_Twice w8_Twice) i_Twice_Twice) exT_nil)⟩,
   ⟨C_Beyond, PySem.W.mg_of X G n_Beyond, (isXT_cons (xcc_mk X G n_Twice cg ct w1_Twice w2_Twice w3_Twice w4_Twice w5_Twice w6_Twice w7_Twice w8_Twice) (kit_f (xcc_mk X G n_Beyond cg ct w1_Beyond w2_Beyond w3_Beyond w4_Beyond w5_Beyond w6_Beyond w7_Beyond w8_Beyond) i_Beyond_Twice j_Beyond_Twice) (isXT_cons (xcc_mk X G n_Beyond cg ct w1_Beyond w2_Beyond w3_Beyond w4_Beyond w5_Beyond w6_Beyond w7_Beyond w8_Beyond) (kit_t (xcc_mk X G n_Beyond cg ct w1_Beyond w2_Beyond w3_Beyond w4_Beyond w5_Beyond w6_Beyond w7_Beyond w8_Beyond) i_Beyond_Beyond) (isXT_cons (xcc_mk X G n_TooNarrow cg ct w1_TooNarrow w2_TooNarrow w3_TooNarrow w4_TooNarrow w5_TooNarrow w6_TooNarrow w7_TooNarrow w8_TooNarrow) (kit_f (xcc_mk X G n_Beyond cg ct w1_Beyond w2_Beyond w3_Beyond w4_Beyond w5_Beyond w6_Beyond w7_Beyond w8_Beyond) i_Beyond_TooNarrow j_Beyond_TooNarrow) (isXT_cons (xcc_mk X G n_NoStretch cg ct w1_NoStretch w2_NoStretch w3_NoStretch w4_NoStretch w5_NoStretch w6_NoStretch w7_NoStretch w8_NoStretch) (kit_f (xcc_mk X G n_Beyond cg ct w1_Beyond w2_Beyond w3_Beyond w4_Beyond w5_Beyond w6_Beyond w7_Beyond w8_Beyond) i_Beyond_NoStretch j_Beyond_NoStretch) (isXT_cons (xcc_mk X G n_BadText cg ct w1_BadText w2_BadText w3_BadText w4_BadText w5_BadText w6_BadText w7_BadText w8_BadText) (kit_f (xcc_mk X G n_Beyond cg ct w1_Beyond w2_Beyond w3_Beyond w4_Beyond w5_Beyond w6_Beyond w7_Beyond w8_Beyond) i_Beyond_BadText j_Beyond_BadText) isXT_nil))))), (exT_cons (xcc_mk X G n_Beyond cg ct w1_Beyond w2_Beyond w3_Beyond w4_Beyond w5_Beyond w6_Beyond w7_Beyond w8_Beyond) (exm_t (xcc_mk X G n_Beyond cg ct w1_Beyond w2_Beyond w3_Beyond w4_Beyond w5_Beyond w6_Beyond w7_Beyond w8_Beyond) i_Beyond_Beyond) exT_nil)⟩,
   ⟨C_TooNarrow, PySem.W.mg_of X G n_TooNarrow, (isXT_cons (xcc_mk X G n_Twice cg ct w1_Twice w2_Twice w3_Twice w4_Twice w5_Twice w6_Twice w7_Twice w8_Twice) (kit_f (xcc_mk X G n_TooNarrow cg ct w1_TooNarrow w2_TooNarrow w3_TooNarrow w4_TooNarrow w5_TooNarrow w6_TooNarrow w7_TooNarrow w8_TooNarrow) i_TooNarrow_Twice j_TooNarrow_Twice) (isXT_cons (xcc_mk X G n_Beyond cg ct w1_Beyond w2_Beyond w3_Beyond w4_Beyond w5_Beyond w6_Beyond w7_Beyond w8_Beyond) (kit_f (xcc_mk X G n_TooNarrow cg ct w1_TooNarrow w2_TooNarrow w3_TooNarrow w4_TooNarrow w5_TooNarrow w6_TooNarrow w7_TooNarrow w8_TooNarrow) i_TooNarrow_Beyond j_TooNarrow_Beyond) (isXT_cons (xcc_mk X G n_TooNarrow cg ct w1_TooNarrow w2_TooNarrow w3_TooNarrow w4_TooNarrow w5_TooNarrow w6_TooNarrow w7_TooNarrow w8_TooNarrow) (kit_t (xcc_mk X G n_TooNarrow cg ct w1_TooNarrow w2_TooNarrow w3_TooNarrow w4_TooNarrow w5_TooNarrow w6_TooNarrow w7_TooNarrow w8_TooNarrow) i_TooNarrow_TooNarrow) (isXT_cons (xcc_mk X G n_NoStretch cg ct w1_NoStretch w2_NoStretch w3_NoStretch w4_NoStretch w5_NoStretch w6_NoStretch w7_NoStretch w8_NoStretch) (kit_f (xcc_mk X G n_TooNarrow cg ct w1_TooNarrow w2_TooNarrow w3_TooNarrow w4_TooNarrow w5_TooNarrow w6_TooNarrow w7_TooNarrow w8_TooNarrow) i_TooNarrow_NoStretch j_TooNarrow_NoStretch) (isXT_cons (xcc_mk X G n_BadText cg ct w1_BadText w2_BadText w3_BadText w4_BadText w5_BadText w6_BadText w7_BadText w8_BadText) (kit_f (xcc_mk X G n_TooNarrow cg ct w1_TooNarrow w2_TooNarrow w3_TooNarrow w4_TooNarrow w5_TooNarrow w6_TooNarrow w7_TooNarrow w8_TooNarrow) i_TooNarrow_BadText j_TooNarrow_BadText) isXT_nil))))), (exT_cons (xcc_mk X G n_TooNarrow cg ct w1_TooNarrow w2_TooNarrow w3_TooNarrow w4_TooNarrow w5_TooNarrow w6_TooNarrow w7_TooNarrow w8_TooNarrow) (exm_t (xcc_mk X G n_TooNarrow cg ct w1_TooNarrow w2_TooNarrow w3_TooNarrow w4_TooNarrow w5_TooNarrow w6_TooNarrow w7_TooNarrow w8_TooNarrow) i_TooNarrow_TooNarrow) exT_nil)⟩,
   ⟨C_NoStretch, PySem.W.mg_of X G n_NoStretch, (isXT_cons (xcc_mk X G n_Twice cg ct w1_Twice w2_Twice w3_Twice w4_Twice w5_Twice w6_Twice w7_Twice w8_Twice) (kit_f (xcc_mk X G n_NoStretch cg ct w1_NoStretch w2_NoStretch w3_NoStretch w4_NoStretch w5_NoStretch w6_NoStretch w7_NoStretch w8_NoStretch) i_NoStretch_Twice j_NoStretch_Twice) (isXT_cons (xcc_mk X G n_Beyond cg ct w1_Beyond w2_Beyond w3_Beyond w4_Beyond w5_Beyond w6_Beyond w7_Beyond w8_Beyond) (kit_f (xcc_mk X G n_NoStretch cg ct w1_NoStretch w2_NoStretch w3_NoStretch w4_NoStretch w5_NoStretch w6_NoStretch w7_NoStretch w8_NoStretch) i_NoStretch_Beyond j_NoStretch_Beyond) (isXT_cons (xcc_mk X G n_TooNarrow cg ct w1_TooNarrow w2_TooNarrow w3_TooNarrow w4_TooNarrow w5_TooNarrow w6_TooNarrow w7_TooNarrow w8_TooNarrow) (kit_f (xcc_mk X G n_NoStretch cg ct w1_NoStretch w2_NoStretch w3_NoStretch w4_NoStretch w5_NoStretch w6_NoStretch w7_NoStretch w8_NoStretch) i_NoStretch_TooNarrow j_NoStretch_TooNarrow) (isXT_cons (xcc_mk X G n_NoStretch cg ct w1_NoStretch w2_NoStretch w3_NoStretch w4_NoStretch w5_NoStretch w6_NoStretch w7_NoStretch w8_NoStretch) (kit_t (xcc_mk X G n_NoStretch cg ct w1_NoStretch w2_NoStretch w3_NoStretch w4_NoStretch w5_NoStretch w6_NoStretch w7_NoStretch w8_NoStretch) i_NoStretch_NoStretch) (isXT_cons (xcc_mk X G n_BadText cg ct w1_BadText w2_BadText w3_BadText w4_BadText w5_BadText w6_BadText w7_BadText w8_BadText) (kit_f (xcc_mk X G n_NoStretch cg ct w1_NoStretch w2_NoStretch w3_NoStretch w4_NoStretch w5_NoStretch w6_NoStretch w7_NoStretch w8_NoStretch) i_NoStretch_BadText j_NoStretch_BadText) isXT_nil))))), (exT_cons (xcc_mk X G n_NoStretch cg ct w1_NoStretch w2_NoStretch w3_NoStretch w4_NoStretch w5_NoStretch w6_NoStretch w7_NoStretch w8_NoStretch) (exm_t (xcc_mk X G n_NoStretch cg ct w1_NoStretch w2_NoStretch w3_NoStretch w4_NoStretch w5_NoStretch w6_NoStretch w7_NoStretch w8_NoStretch) i_NoStretch_NoStretch) exT_nil)⟩,
   ⟨C_BadText, PySem.W.mg_of X G n_BadText, (isXT_cons (xcc_mk X G n_Twice cg ct w1_Twice w2_Twice w3_Twice w4_Twice w5_Twice w6_Twice w7_Twice w8_Twice) (kit_f (xcc_mk X G n_BadText cg ct w1_BadText w2_BadText w3_BadText w4_BadText w5_BadText w6_BadText w7_BadText w8_BadText) i_BadText_Twice j_BadText_Twice) (isXT_cons (xcc_mk X G n_Beyond cg ct w1_Beyond w2_Beyond w3_Beyond w4_Beyond w5_Beyond w6_Beyond w7_Beyond w8_Beyond) (kit_f (xcc_mk X G n_BadText cg ct w1_BadText w2_BadText w3_BadText w4_BadText w5_BadText w6_BadText w7_BadText w8_BadText) i_BadText_Beyond j_BadText_Beyond) (isXT_cons (xcc_mk X G n_TooNarrow cg ct w1_TooNarrow w2_TooNarrow w3_TooNarrow w4_TooNarrow w5_TooNarrow w6_TooNarrow w7_TooNarrow w8_TooNarrow) (kit_f (xcc_mk X G n_BadText cg ct w1_BadText w2_BadText w3_BadText w4_BadText w5_BadText w6_BadText w7_BadText w8_BadText) i_BadText_TooNarrow j_BadText_TooNarrow) (isXT_cons (xcc_mk X G n_NoStretch cg ct w1_NoStretch w2_NoStretch w3_NoStretch w4_NoStretch w5_NoStretch w6_NoStretch w7_NoStretch w8_NoStretch) (kit_f (xcc_mk X G n_BadText cg ct w1_BadText w2_BadText w3_BadText w4_BadText w5_BadText w6_BadText w7_BadText w8_BadText) i_BadText_NoStretch j_BadText_NoStretch) (isXT_cons (xcc_mk X G n_BadText cg ct w1_BadText w2_BadText w3_BadText w4_BadText w5_BadText w6_BadText w7_BadText w8_BadText) (kit_t (xcc_mk X G n_BadText cg ct w1_BadText w2_BadText w3_BadText w4_BadText w5_BadText w6_BadText w7_BadText w8_BadText) i_BadText_BadText) isXT_nil))))), (exT_cons (xcc_mk X G n_BadText cg ct w1_BadText w2_BadText w3_BadText w4_BadText w5_BadText w6_BadText w7_BadText w8_BadText) (exm_t (xcc_mk X G n_BadText cg ct w1_BadText w2_BadText w3_BadText w4_BadText w5_BadText w6_BadText w7_BadText w8_BadText) i_BadText_BadText) exT_nil)⟩,
   (isXT_cons (xcc_mk X G n_Twice cg ct w1_Twice w2_Twice w3_Twice w4_Twice w5_Twice w6_Twice w7_Twice w8_Twice) (kit_v i_ValueError_Twice) (isXT_cons (xcc_mk X G n_Beyond cg ct w1_Beyond w2_Beyond w3_Beyond w4_Beyond w5_Beyond w6_Beyond w7_Beyond w8_Beyond) (kit_v i_ValueError_Beyond) (isXT_cons (xcc_mk X G n_TooNarrow cg ct w1_TooNarrow w2_TooNarrow w3_TooNarrow w4_TooNarrow w5_TooNarrow w6_TooNarrow w7_TooNarrow w8_TooNarrow) (kit_v i_ValueError_TooNarrow) (isXT_cons (xcc_mk X G n_NoStretch cg ct w1_NoStretch w2_NoStretch w3_NoStretch w4_NoStretch w5_NoStretch w6_NoStretch w7_NoStretch w8_NoStretch) (kit_v i_ValueError_NoStretch) (isXT_cons (xcc_mk X G n_BadText cg ct w1_BadText w2_BadText w3_BadText w4_BadText w5_BadText w6_BadText w7_BadText w8_BadText) (kit_v i_ValueError_BadText) isXT_nil))))),
   (fldT_cons (xcc_mk X G n_Twice cg ct w1_Twice w2_Twice w3_Twice w4_Twice w5_Twice w6_Twice w7_Twice w8_Twice) f_number_Twice fldT_nil),
   (fldT_cons (xcc_mk X G n_Twice cg ct w1_Twice w2_Twice w3_Twice w4_Twice w5_Twice w6_Twice w7_Twice w8_Twice) f_one_Twice fldT_nil),
   (fldT_cons (xcc_mk X G n_Twice cg ct w1_Twice w2_Twice w3_Twice w4_Twice w5_Twice w6_Twice w7_Twice w8_Twice) f_other_Twice fldT_nil),
   (fldT_cons (xcc_mk X G n_NoStretch cg ct w1_NoStretch w2_NoStretch w3_NoStretch w4_NoStretch w5_NoStretch w6_NoStretch w7_NoStretch w8_NoStretch) f_place_NoStretch fldT_nil),
   (fldT_cons (xcc_mk X G n_Beyond cg ct w1_Beyond w2_Beyond w3_Beyond w4_Beyond w5_Beyond w6_Beyond w7_Beyond w8_Beyond) f_row_Beyond (fldT_cons (xcc_mk X G n_BadText cg ct w1_BadText w2_BadText w3_BadText w4_BadText w5_BadText w6_BadText w7_BadText w8_BadText) f_row_BadText fldT_nil)),
   ⟨C_CaseError, ce_mk X G n_CaseError ce1 ce2 ce3⟩,
   (let F := fun_mk (x := "__init__") (st := s_init_Beyond) lI_Beyond kI_Beyond pI_Beyond; ⟨C_Beyond, fI_Beyond, _, (xcc_mk X G n_Beyond cg ct w1_Beyond w2_Beyond w3_Beyond w4_Beyond w5_Beyond w6_Beyond w7_Beyond w8_Beyond), in_mk (xcc_mk X G n_Beyond cg ct w1_Beyond w2_Beyond w3_Beyond w4_Beyond w5_Beyond w6_Beyond w7_Beyond w8_Beyond) lC_Beyond rv_Beyond iC_Beyond sa_Beyond tI_Beyond (no_cons no_Beyond_row no_nil), F, F.binds (ps := ["self", "row"]) fun _ _ _ _ _ _ us hl => match us, hl with | [_, _], _ => rfl⟩)⟩end Yk14

namespace Yk14
open PySem PySem.Spec PyProof.Rows L2 Pd
inductive Row where
  | is (n g : Int)
  | within (a b g : Int)
  | below (n g : Int)
  | mask (lo wide bits g : Int)
  | table (lo : Int) (gs : List Int)
  | pick (l : Int)
def Row.toD : Row → D
  | .is n g => .tup [.str "is", .int n, .int g]
  | .within a b g => .tup [.str "within", .int a, .int b, .int g]
  | .below n g => .tup [.str "below", .int n, .int g]
  | .mask lo wide bits g => .tup [.str "mask", .int lo, .int wide, .int bits, .int g]
  | .table lo gs => .tup [.str "table", .int lo, .tup (gs.map D.int)]
  | .pick l => .tup [.str "pick", .int l]
def Row.go : Row → Bool
  | .pick _ => false
  | _ => true
/-- none: beyond its ends; some none: on to the next row -/
def Row.goal : Row → Int → Option (Option Int)
  | .is n g, x => some (if x = n then some g else none)
  | .within a b g, x => some (if a ≤ x ∧ x ≤ b then some g else none)
  | .below n g, x => some (if x < n then some g else none)
  | .mask lo wide bits g, x => if 0 ≤ x - lo ∧ x - lo < wide then some (if Builtin.bitAnd (bits / 2 ^ (x - lo).toNat) 1 = 1 then some g else none) else none
  | .table lo gs, x => if 0 ≤ x - lo ∧ x - lo < gs.length then (gs[(x - lo).toNat]?).map some else none
  | .pick _, _ => none
def oD : Option Int → D
  | none => .non
  | some i => .int i
theorem wd01 : (("is" : Str) == "within") = false := by decide
theorem wd02 : (("is" : Str) == "below") = false := by decide
theorem wd03 : (("is" : Str) == "mask") = false := by decide
theorem wd04 : (("is" : Str) == "table") = false := by decide
theorem wd05 : (("is" : Str) == "pick") = false := by decide
theorem wd10 : (("within" : Str) == "is") = false := by decide
theorem wd12 : (("within" : Str) == "below") = false := by decide
theorem wd13 : (("within" : Str) == "mask") = false := by decide
theorem wd14 : (("within" : Str) == "table") = false := by decide
theorem wd15 : (("within" : Str) == "pick") = false := by decide
theorem wd20 : (("below" : Str) == "is") = false := by decide
theorem wd21 : (("below" : Str) == "within") = false := by decide
theorem wd23 : (("below" : Str) == "mask") = false := by decide
theorem wd24 : (("below" : Str) == "table") = false := by decide
theorem wd25 : (("below" : Str) == "pick") = false := by decide
theorem wd30 : (("mask" : Str) == "is") = false := by decide
theorem wd31 : (("mask" : Str) == "within") = false := by decide
theorem wd32 : (("mask" : Str) == "below") = false := by decide
theorem wd34 : (("mask" : Str) == "table") = false := by decide
theorem wd35 : (("mask" : Str) == "pick") = false := by decide
theorem wd40 : (("table" : Str) == "is") = false := by decide
theorem wd41 : (("table" : Str) == "within") = false := by decide
theorem wd42 : (("table" : Str) == "below") = false := by decide
theorem wd43 : (("table" : Str) == "mask") = false := by decide
theorem wd45 : (("table" : Str) == "pick") = false := by decide
theorem wd50 : (("pick" : Str) == "is") = false := by decide
theorem wd51 : (("pick" : Str) == "within") = false := by decide
theorem wd52 : (("pick" : Str) == "below") = false := by decide
theorem wd53 : (("pick" : Str) == "mask") = false := by decide
theorem wd54 : (("pick" : Str) == "table") = false := by decide
def gX : Option (Option Int) → D
  | none => .exc "Beyond" ["row"] [.non]
  | some o => oD o
theorem W_goal_of {r : Row} {x : Int} {Q : D → List D → Prop} (np : r.go = true) (q : Q (gX (r.goal x)) []) : W2 (c_goal_of [r.toD, .int x]) Q := by
  unfold c_goal_of g_goal_of
  cases r <;> rw [Row.toD]
  case pick => cases np
  case is n g =>
    rw [Row.goal] at q
    simp! [↓W_newK, ↓W_newT, ↓W_kVal, ↓W_kTup, ↓W_keyI, ↓W_keyS, ↓W_keys0, ↓W_keysC, ↓W_dgetK, ↓W_dgetT, ↓W_dputK, ↓W_dputT, ↓W_dg, ↓W_dgE, ↓W_din, ↓W_dg2, ↓W_dput, ↓W_dupd, ↓W_dictP, ↓W_tupO, ↓W_ixF, ↓W_own2, ↓W_setixN, ↓W_ownT, ↓W_setsl, ↓W_augix, ↓W_owApp, ↓OnDict_o, ↓OnDict_i, ↓OnOdx_o, ↓OnDix_i, ↓OnOtp_o, ↓Frz_odx, ↓Frz_dix, ↓Frz_otp, ↓W_mulT, ↓W_dropX, ↓W_isiO, ↓W_noX, ↓NX_nx, ↓NX_bk, ↓NX_ct, ↓NX_rt, ↓NXd_int, ↓NXd_bl, ↓NXd_str, ↓NXd_non, ↓NXd_tup, ↓NXd_lst, ↓NXd_own, ↓NXd_otp, ↓W_raise1, ↓W_raise3, ↓W_setX, ↓W_setXF, ↓OnX_exc, ↓OnX_int, ↓OnX_bl, ↓OnX_str, ↓OnX_non, ↓OnX_tup, ↓OnX_lst, ↓OnX_own, ↓OnX_otp, ↓W_tryAs, ↓W_tryO, ↓WX_nx, ↓WX_bk, ↓WX_ct, ↓WX_rt, ↓OnXc_exc, ↓OnXc_int, ↓OnXc_bl, ↓OnXc_str, ↓OnXc_non, ↓OnXc_tup, ↓OnXc_lst, ↓OnXc_own, ↓OnXc_otp, ↓WN_nx, ↓Del_0, ↓Del_s, ↓Frz_exc, ↓W_isX, ↓W_fldX, ↓W_isNX, pu_dix, pu_kt, pu_exc]
    exact ⟨fun e => by rw [if_pos e] at q; exact q, fun e => by rw [if_neg e] at q; exact q⟩
  case within a b g =>
    rw [Row.goal] at q
    simp! [↓W_newK, ↓W_newT, ↓W_kVal, ↓W_kTup, ↓W_keyI, ↓W_keyS, ↓W_keys0, ↓W_keysC, ↓W_dgetK, ↓W_dgetT, ↓W_dputK, ↓W_dputT, ↓W_dg, ↓W_dgE, ↓W_din, ↓W_dg2, ↓W_dput, ↓W_dupd, ↓W_dictP, ↓W_tupO, ↓W_ixF, ↓W_own2, ↓W_setixN, ↓W_ownT, ↓W_setsl, ↓W_augix, ↓W_owApp, ↓OnDict_o, ↓OnDict_i, ↓OnOdx_o, ↓OnDix_i, ↓OnOtp_o, ↓Frz_odx, ↓Frz_dix, ↓Frz_otp, ↓W_mulT, ↓W_dropX, ↓W_isiO, ↓W_noX, ↓NX_nx, ↓NX_bk, ↓NX_ct, ↓NX_rt, ↓NXd_int, ↓NXd_bl, ↓NXd_str, ↓NXd_non, ↓NXd_tup, ↓NXd_lst, ↓NXd_own, ↓NXd_otp, ↓W_raise1, ↓W_raise3, ↓W_setX, ↓W_setXF, ↓OnX_exc, ↓OnX_int, ↓OnX_bl, ↓OnX_str, ↓OnX_non, ↓OnX_tup, ↓OnX_lst, ↓OnX_own, ↓OnX_otp, ↓W_tryAs, ↓W_tryO, ↓WX_nx, ↓WX_bk, ↓WX_ct, ↓WX_rt, ↓OnXc_exc, ↓OnXc_int, ↓OnXc_bl, ↓OnXc_str, ↓OnXc_non, ↓OnXc_tup, ↓OnXc_lst, ↓OnXc_own, ↓OnXc_otp, ↓WN_nx, ↓Del_0, ↓Del_s, ↓Frz_exc, ↓W_isX, ↓W_fldX, ↓W_isNX, pu_dix, pu_kt, pu_exc, wd01, wd02, wd03, wd04, wd05, wd10, wd12, wd13, wd14, wd15, wd20, wd21, wd23, wd24, wd25, wd30, wd31, wd32, wd34, wd35, wd40, wd41, wd42, wd43, wd45, wd50, wd51, wd52, wd53, wd54]
    exact ⟨fun e => ⟨fun e2 => by rw [if_pos ⟨e, e2⟩] at q; exact q, fun e2 => by rw [if_neg (fun z => e2 z.2)] at q; exact q⟩, fun e => by rw [if_neg (fun z => e z.1)] at q; exact q⟩
  case below a g =>
    rw [Row.goal] at q
    simp! [↓W_newK, ↓W_newT, ↓W_kVal, ↓W_kTup, ↓W_keyI, ↓W_keyS, ↓W_keys0, ↓W_keysC, ↓W_dgetK, ↓W_dgetT, ↓W_dputK, ↓W_dputT, ↓W_dg, ↓W_dgE, ↓W_din, ↓W_dg2, ↓W_dput, ↓W_dupd, ↓W_dictP, ↓W_tupO, ↓W_ixF, ↓W_own2, ↓W_setixN, ↓W_ownT, ↓W_setsl, ↓W_augix, ↓W_owApp, ↓OnDict_o, ↓OnDict_i, ↓OnOdx_o, ↓OnDix_i, ↓OnOtp_o, ↓Frz_odx, ↓Frz_dix, ↓Frz_otp, ↓W_mulT, ↓W_dropX, ↓W_isiO, ↓W_noX, ↓NX_nx, ↓NX_bk, ↓NX_ct, ↓NX_rt, ↓NXd_int, ↓NXd_bl, ↓NXd_str, ↓NXd_non, ↓NXd_tup, ↓NXd_lst, ↓NXd_own, ↓NXd_otp, ↓W_raise1, ↓W_raise3, ↓W_setX, ↓W_setXF, ↓OnX_exc, ↓OnX_int, ↓OnX_bl, ↓OnX_str, ↓OnX_non, ↓OnX_tup, ↓OnX_lst, ↓OnX_own, ↓OnX_otp, ↓W_tryAs, ↓W_tryO, ↓WX_nx, ↓WX_bk, ↓WX_ct, ↓WX_rt, ↓OnXc_exc, ↓OnXc_int, ↓OnXc_bl, ↓OnXc_str, ↓OnXc_non, ↓OnXc_tup, ↓OnXc_lst, ↓OnXc_own, ↓OnXc_otp, ↓WN_nx, ↓Del_0, ↓Del_s, ↓Frz_exc, ↓W_isX, ↓W_fldX, ↓W_isNX, pu_dix, pu_kt, pu_exc, wd01, wd02, wd03, wd04, wd05, wd10, wd12, wd13, wd14, wd15, wd20, wd21, wd23, wd24, wd25, wd30, wd31, wd32, wd34, wd35, wd40, wd41, wd42, wd43, wd45, wd50, wd51, wd52, wd53, wd54]
    exact ⟨fun e => by rw [if_pos e] at q; exact q, fun e => by rw [if_neg e] at q; exact q⟩
  case mask a b c g =>
    rw [Row.goal] at q
    simp! [↓W_newK, ↓W_newT, ↓W_kVal, ↓W_kTup, ↓W_keyI, ↓W_keyS, ↓W_keys0, ↓W_keysC, ↓W_dgetK, ↓W_dgetT, ↓W_dputK, ↓W_dputT, ↓W_dg, ↓W_dgE, ↓W_din, ↓W_dg2, ↓W_dput, ↓W_dupd, ↓W_dictP, ↓W_tupO, ↓W_ixF, ↓W_own2, ↓W_setixN, ↓W_ownT, ↓W_setsl, ↓W_augix, ↓W_owApp, ↓OnDict_o, ↓OnDict_i, ↓OnOdx_o, ↓OnDix_i, ↓OnOtp_o, ↓Frz_odx, ↓Frz_dix, ↓Frz_otp, ↓W_mulT, ↓W_dropX, ↓W_isiO, ↓W_noX, ↓NX_nx, ↓NX_bk, ↓NX_ct, ↓NX_rt, ↓NXd_int, ↓NXd_bl, ↓NXd_str, ↓NXd_non, ↓NXd_tup, ↓NXd_lst, ↓NXd_own, ↓NXd_otp, ↓W_raise1, ↓W_raise3, ↓W_setX, ↓W_setXF, ↓OnX_exc, ↓OnX_int, ↓OnX_bl, ↓OnX_str, ↓OnX_non, ↓OnX_tup, ↓OnX_lst, ↓OnX_own, ↓OnX_otp, ↓W_tryAs, ↓W_tryO, ↓WX_nx, ↓WX_bk, ↓WX_ct, ↓WX_rt, ↓OnXc_exc, ↓OnXc_int, ↓OnXc_bl, ↓OnXc_str, ↓OnXc_non, ↓OnXc_tup, ↓OnXc_lst, ↓OnXc_own, ↓OnXc_otp, ↓WN_nx, ↓Del_0, ↓Del_s, ↓Frz_exc, ↓W_isX, ↓W_fldX, ↓W_isNX, pu_dix, pu_kt, pu_exc, wd01, wd02, wd03, wd04, wd05, wd10, wd12, wd13, wd14, wd15, wd20, wd21, wd23, wd24, wd25, wd30, wd31, wd32, wd34, wd35, wd40, wd41, wd42, wd43, wd45, wd50, wd51, wd52, wd53, wd54]
    refine ⟨fun z => ⟨fun z2 => ⟨z, fun e => ?_, fun e => ?_⟩, fun z2 => ?_⟩, fun z => ?_⟩
    · rw [if_pos ⟨z, z2⟩, if_pos e] at q; exact q
    · rw [if_pos ⟨z, z2⟩, if_neg e] at q; exact q
    · rw [if_neg (fun y => z2 y.2)] at q; exact q
    · rw [if_neg (fun y => z y.1)] at q; exact q
  case table a gs =>
    rw [Row.goal] at q
    simp! [↓W_newK, ↓W_newT, ↓W_kVal, ↓W_kTup, ↓W_keyI, ↓W_keyS, ↓W_keys0, ↓W_keysC, ↓W_dgetK, ↓W_dgetT, ↓W_dputK, ↓W_dputT, ↓W_dg, ↓W_dgE, ↓W_din, ↓W_dg2, ↓W_dput, ↓W_dupd, ↓W_dictP, ↓W_tupO, ↓W_ixF, ↓W_own2, ↓W_setixN, ↓W_ownT, ↓W_setsl, ↓W_augix, ↓W_owApp, ↓OnDict_o, ↓OnDict_i, ↓OnOdx_o, ↓OnDix_i, ↓OnOtp_o, ↓Frz_odx, ↓Frz_dix, ↓Frz_otp, ↓W_mulT, ↓W_dropX, ↓W_isiO, ↓W_noX, ↓NX_nx, ↓NX_bk, ↓NX_ct, ↓NX_rt, ↓NXd_int, ↓NXd_bl, ↓NXd_str, ↓NXd_non, ↓NXd_tup, ↓NXd_lst, ↓NXd_own, ↓NXd_otp, ↓W_raise1, ↓W_raise3, ↓W_setX, ↓W_setXF, ↓OnX_exc, ↓OnX_int, ↓OnX_bl, ↓OnX_str, ↓OnX_non, ↓OnX_tup, ↓OnX_lst, ↓OnX_own, ↓OnX_otp, ↓W_tryAs, ↓W_tryO, ↓WX_nx, ↓WX_bk, ↓WX_ct, ↓WX_rt, ↓OnXc_exc, ↓OnXc_int, ↓OnXc_bl, ↓OnXc_str, ↓OnXc_non, ↓OnXc_tup, ↓OnXc_lst, ↓OnXc_own, ↓OnXc_otp, ↓WN_nx, ↓Del_0, ↓Del_s, ↓Frz_exc, ↓W_isX, ↓W_fldX, ↓W_isNX, pu_dix, pu_kt, pu_exc, wd01, wd02, wd03, wd04, wd05, wd10, wd12, wd13, wd14, wd15, wd20, wd21, wd23, wd24, wd25, wd30, wd31, wd32, wd34, wd35, wd40, wd41, wd42, wd43, wd45, wd50, wd51, wd52, wd53, wd54, List.length_map]
    refine ⟨fun z => ⟨fun z2 => ?_, fun z2 => ?_⟩, fun z => ?_⟩
    · have hl : (x - a).toNat < gs.length := by omega
      rw [if_pos ⟨z, z2⟩, List.getElem?_eq_getElem hl] at q
      refine W_atI (x := .int (gs[(x - a).toNat])) z (by rw [List.getElem?_map, List.getElem?_eq_getElem hl]; rfl) ?_
      simp! [↓W_newK, ↓W_newT, ↓W_kVal, ↓W_kTup, ↓W_keyI, ↓W_keyS, ↓W_keys0, ↓W_keysC, ↓W_dgetK, ↓W_dgetT, ↓W_dputK, ↓W_dputT, ↓W_dg, ↓W_dgE, ↓W_din, ↓W_dg2, ↓W_dput, ↓W_dupd, ↓W_dictP, ↓W_tupO, ↓W_ixF, ↓W_own2, ↓W_setixN, ↓W_ownT, ↓W_setsl, ↓W_augix, ↓W_owApp, ↓OnDict_o, ↓OnDict_i, ↓OnOdx_o, ↓OnDix_i, ↓OnOtp_o, ↓Frz_odx, ↓Frz_dix, ↓Frz_otp, ↓W_mulT, ↓W_dropX, ↓W_isiO, ↓W_noX, ↓NX_nx, ↓NX_bk, ↓NX_ct, ↓NX_rt, ↓NXd_int, ↓NXd_bl, ↓NXd_str, ↓NXd_non, ↓NXd_tup, ↓NXd_lst, ↓NXd_own, ↓NXd_otp, ↓W_raise1, ↓W_raise3, ↓W_setX, ↓W_setXF, ↓OnX_exc, ↓OnX_int, ↓OnX_bl, ↓OnX_str, ↓OnX_non, ↓OnX_tup, ↓OnX_lst, ↓OnX_own, ↓OnX_otp, ↓W_tryAs, ↓W_tryO, ↓WX_nx, ↓WX_bk, ↓WX_ct, ↓WX_rt, ↓OnXc_exc, ↓OnXc_int, ↓OnXc_bl, ↓OnXc_str, ↓OnXc_non, ↓OnXc_tup, ↓OnXc_lst, ↓OnXc_own, ↓OnXc_otp, ↓WN_nx, ↓Del_0, ↓Del_s, ↓Frz_exc, ↓W_isX, ↓W_fldX, ↓W_isNX, pu_dix, pu_kt, pu_exc]
      exact q
    · rw [if_neg (fun y => z2 y.2)] at q; exact q
    · rw [if_neg (fun y => z y.1)] at q; exact q
/-- where a row leads to -/
def nx (at' : Int) : Option (Option Int) → D
  | none => .non
  | some none => .int (at' + 1)
  | some (some g) => .int g
theorem W_behind {rows : List D} {at' x : Int} {r : Row} {Q : D → List D → Prop} (h0 : 0 ≤ at') (e : rows[at'.toNat]? = some r.toD) (np : r.go = true) (q : Q (nx at' (r.goal x)) []) : W2 (c_law_behind [.lst rows, .int at', .int x]) Q := by
  unfold c_law_behind g_law_behind
  simp! [↓W_newK, ↓W_newT, ↓W_kVal, ↓W_kTup, ↓W_keyI, ↓W_keyS, ↓W_keys0, ↓W_keysC, ↓W_dgetK, ↓W_dgetT, ↓W_dputK, ↓W_dputT, ↓W_dg, ↓W_dgE, ↓W_din, ↓W_dg2, ↓W_dput, ↓W_dupd, ↓W_dictP, ↓W_tupO, ↓W_ixF, ↓W_own2, ↓W_setixN, ↓W_ownT, ↓W_setsl, ↓W_augix, ↓W_owApp, ↓OnDict_o, ↓OnDict_i, ↓OnOdx_o, ↓OnDix_i, ↓OnOtp_o, ↓Frz_odx, ↓Frz_dix, ↓Frz_otp, ↓W_mulT, ↓W_dropX, ↓W_isiO, ↓W_noX, ↓NX_nx, ↓NX_bk, ↓NX_ct, ↓NX_rt, ↓NXd_int, ↓NXd_bl, ↓NXd_str, ↓NXd_non, ↓NXd_tup, ↓NXd_lst, ↓NXd_own, ↓NXd_otp, ↓W_raise1, ↓W_raise3, ↓W_setX, ↓W_setXF, ↓OnX_exc, ↓OnX_int, ↓OnX_bl, ↓OnX_str, ↓OnX_non, ↓OnX_tup, ↓OnX_lst, ↓OnX_own, ↓OnX_otp, ↓W_tryAs, ↓W_tryO, ↓WX_nx, ↓WX_bk, ↓WX_ct, ↓WX_rt, ↓OnXc_exc, ↓OnXc_int, ↓OnXc_bl, ↓OnXc_str, ↓OnXc_non, ↓OnXc_tup, ↓OnXc_lst, ↓OnXc_own, ↓OnXc_otp, ↓WN_nx, ↓Del_0, ↓Del_s, ↓Frz_exc, ↓W_isX, ↓W_fldX, ↓W_isNX, pu_dix, pu_kt, pu_exc]
  refine W_atI h0 e ?_
  cases r <;> rw [Row.toD]
  case pick => cases np
  case is n g =>
    simp! [↓W_newK, ↓W_newT, ↓W_kVal, ↓W_kTup, ↓W_keyI, ↓W_keyS, ↓W_keys0, ↓W_keysC, ↓W_dgetK, ↓W_dgetT, ↓W_dputK, ↓W_dputT, ↓W_dg, ↓W_dgE, ↓W_din, ↓W_dg2, ↓W_dput, ↓W_dupd, ↓W_dictP, ↓W_tupO, ↓W_ixF, ↓W_own2, ↓W_setixN, ↓W_ownT, ↓W_setsl, ↓W_augix, ↓W_owApp, ↓OnDict_o, ↓OnDict_i, ↓OnOdx_o, ↓OnDix_i, ↓OnOtp_o, ↓Frz_odx, ↓Frz_dix, ↓Frz_otp, ↓W_mulT, ↓W_dropX, ↓W_isiO, ↓W_noX, ↓NX_nx, ↓NX_bk, ↓NX_ct, ↓NX_rt, ↓NXd_int, ↓NXd_bl, ↓NXd_str, ↓NXd_non, ↓NXd_tup, ↓NXd_lst, ↓NXd_own, ↓NXd_otp, ↓W_raise1, ↓W_raise3, ↓W_setX, ↓W_setXF, ↓OnX_exc, ↓OnX_int, ↓OnX_bl, ↓OnX_str, ↓OnX_non, ↓OnX_tup, ↓OnX_lst, ↓OnX_own, ↓OnX_otp, ↓W_tryAs, ↓W_tryO, ↓WX_nx, ↓WX_bk, ↓WX_ct, ↓WX_rt, ↓OnXc_exc, ↓OnXc_int, ↓OnXc_bl, ↓OnXc_str, ↓OnXc_non, ↓OnXc_tup, ↓OnXc_lst, ↓OnXc_own, ↓OnXc_otp, ↓WN_nx, ↓Del_0, ↓Del_s, ↓Frz_exc, ↓W_isX, ↓W_fldX, ↓W_isNX, pu_dix, pu_kt, pu_exc]
    rw [Row.goal] at q
    exact ⟨fun e => by rw [if_pos e] at q; exact q, fun e => by rw [if_neg e] at q; exact q⟩
  case within a b g =>
    simp! [↓W_newK, ↓W_newT, ↓W_kVal, ↓W_kTup, ↓W_keyI, ↓W_keyS, ↓W_keys0, ↓W_keysC, ↓W_dgetK, ↓W_dgetT, ↓W_dputK, ↓W_dputT, ↓W_dg, ↓W_dgE, ↓W_din, ↓W_dg2, ↓W_dput, ↓W_dupd, ↓W_dictP, ↓W_tupO, ↓W_ixF, ↓W_own2, ↓W_setixN, ↓W_ownT, ↓W_setsl, ↓W_augix, ↓W_owApp, ↓OnDict_o, ↓OnDict_i, ↓OnOdx_o, ↓OnDix_i, ↓OnOtp_o, ↓Frz_odx, ↓Frz_dix, ↓Frz_otp, ↓W_mulT, ↓W_dropX, ↓W_isiO, ↓W_noX, ↓NX_nx, ↓NX_bk, ↓NX_ct, ↓NX_rt, ↓NXd_int, ↓NXd_bl, ↓NXd_str, ↓NXd_non, ↓NXd_tup, ↓NXd_lst, ↓NXd_own, ↓NXd_otp, ↓W_raise1, ↓W_raise3, ↓W_setX, ↓W_setXF, ↓OnX_exc, ↓OnX_int, ↓OnX_bl, ↓OnX_str, ↓OnX_non, ↓OnX_tup, ↓OnX_lst, ↓OnX_own, ↓OnX_otp, ↓W_tryAs, ↓W_tryO, ↓WX_nx, ↓WX_bk, ↓WX_ct, ↓WX_rt, ↓OnXc_exc, ↓OnXc_int, ↓OnXc_bl, ↓OnXc_str, ↓OnXc_non, ↓OnXc_tup, ↓OnXc_lst, ↓OnXc_own, ↓OnXc_otp, ↓WN_nx, ↓Del_0, ↓Del_s, ↓Frz_exc, ↓W_isX, ↓W_fldX, ↓W_isNX, pu_dix, pu_kt, pu_exc, wd01, wd02, wd03, wd04, wd05, wd10, wd12, wd13, wd14, wd15, wd20, wd21, wd23, wd24, wd25, wd30, wd31, wd32, wd34, wd35, wd40, wd41, wd42, wd43, wd45, wd50, wd51, wd52, wd53, wd54]
    rw [Row.goal] at q
    exact ⟨fun e => ⟨fun e2 => by rw [if_pos ⟨e, e2⟩] at q; exact q, fun e2 => by rw [if_neg (fun z => e2 z.2)] at q; exact q⟩, fun e => by rw [if_neg (fun z => e z.1)] at q; exact q⟩
  case below a g =>
    simp! [↓W_newK, ↓W_newT, ↓W_kVal, ↓W_kTup, ↓W_keyI, ↓W_keyS, ↓W_keys0, ↓W_keysC, ↓W_dgetK, ↓W_dgetT, ↓W_dputK, ↓W_dputT, ↓W_dg, ↓W_dgE, ↓W_din, ↓W_dg2, ↓W_dput, ↓W_dupd, ↓W_dictP, ↓W_tupO, ↓W_ixF, ↓W_own2, ↓W_setixN, ↓W_ownT, ↓W_setsl, ↓W_augix, ↓W_owApp, ↓OnDict_o, ↓OnDict_i, ↓OnOdx_o, ↓OnDix_i, ↓OnOtp_o, ↓Frz_odx, ↓Frz_dix, ↓Frz_otp, ↓W_mulT, ↓W_dropX, ↓W_isiO, ↓W_noX, ↓NX_nx, ↓NX_bk, ↓NX_ct, ↓NX_rt, ↓NXd_int, ↓NXd_bl, ↓NXd_str, ↓NXd_non, ↓NXd_tup, ↓NXd_lst, ↓NXd_own, ↓NXd_otp, ↓W_raise1, ↓W_raise3, ↓W_setX, ↓W_setXF, ↓OnX_exc, ↓OnX_int, ↓OnX_bl, ↓OnX_str, ↓OnX_non, ↓OnX_tup, ↓OnX_lst, ↓OnX_own, ↓OnX_otp, ↓W_tryAs, ↓W_tryO, ↓WX_nx, ↓WX_bk, ↓WX_ct, ↓WX_rt, ↓OnXc_exc, ↓OnXc_int, ↓OnXc_bl, ↓OnXc_str, ↓OnXc_non, ↓OnXc_tup, ↓OnXc_lst, ↓OnXc_own, ↓OnXc_otp, ↓WN_nx, ↓Del_0, ↓Del_s, ↓Frz_exc, ↓W_isX, ↓W_fldX, ↓W_isNX, pu_dix, pu_kt, pu_exc, wd01, wd02, wd03, wd04, wd05, wd10, wd12, wd13, wd14, wd15, wd20, wd21, wd23, wd24, wd25, wd30, wd31, wd32, wd34, wd35, wd40, wd41, wd42, wd43, wd45, wd50, wd51, wd52, wd53, wd54]
    rw [Row.goal] at q
    exact ⟨fun e => by rw [if_pos e] at q; exact q, fun e => by rw [if_neg e] at q; exact q⟩
  case mask a b c g =>
    simp! [↓W_newK, ↓W_newT, ↓W_kVal, ↓W_kTup, ↓W_keyI, ↓W_keyS, ↓W_keys0, ↓W_keysC, ↓W_dgetK, ↓W_dgetT, ↓W_dputK, ↓W_dputT, ↓W_dg, ↓W_dgE, ↓W_din, ↓W_dg2, ↓W_dput, ↓W_dupd, ↓W_dictP, ↓W_tupO, ↓W_ixF, ↓W_own2, ↓W_setixN, ↓W_ownT, ↓W_setsl, ↓W_augix, ↓W_owApp, ↓OnDict_o, ↓OnDict_i, ↓OnOdx_o, ↓OnDix_i, ↓OnOtp_o, ↓Frz_odx, ↓Frz_dix, ↓Frz_otp, ↓W_mulT, ↓W_dropX, ↓W_isiO, ↓W_noX, ↓NX_nx, ↓NX_bk, ↓NX_ct, ↓NX_rt, ↓NXd_int, ↓NXd_bl, ↓NXd_str, ↓NXd_non, ↓NXd_tup, ↓NXd_lst, ↓NXd_own, ↓NXd_otp, ↓W_raise1, ↓W_raise3, ↓W_setX, ↓W_setXF, ↓OnX_exc, ↓OnX_int, ↓OnX_bl, ↓OnX_str, ↓OnX_non, ↓OnX_tup, ↓OnX_lst, ↓OnX_own, ↓OnX_otp, ↓W_tryAs, ↓W_tryO, ↓WX_nx, ↓WX_bk, ↓WX_ct, ↓WX_rt, ↓OnXc_exc, ↓OnXc_int, ↓OnXc_bl, ↓OnXc_str, ↓OnXc_non, ↓OnXc_tup, ↓OnXc_lst, ↓OnXc_own, ↓OnXc_otp, ↓WN_nx, ↓Del_0, ↓Del_s, ↓Frz_exc, ↓W_isX, ↓W_fldX, ↓W_isNX, pu_dix, pu_kt, pu_exc, wd01, wd02, wd03, wd04, wd05, wd10, wd12, wd13, wd14, wd15, wd20, wd21, wd23, wd24, wd25, wd30, wd31, wd32, wd34, wd35, wd40, wd41, wd42, wd43, wd45, wd50, wd51, wd52, wd53, wd54]
    rw [Row.goal] at q
    refine ⟨fun z => ?_, fun z => ⟨fun z2 => ?_, fun z2 => ⟨by show 0 ≤ x - a; omega, fun e2 => ?_, fun e2 => ?_⟩⟩⟩
    · rw [if_neg (by omega)] at q; exact q
    · rw [if_neg (by omega)] at q; exact q
    · rw [if_pos (by omega), if_pos e2] at q; exact q
    · rw [if_pos (by omega), if_neg e2] at q; exact q
  case table a gs =>
    simp! [↓W_newK, ↓W_newT, ↓W_kVal, ↓W_kTup, ↓W_keyI, ↓W_keyS, ↓W_keys0, ↓W_keysC, ↓W_dgetK, ↓W_dgetT, ↓W_dputK, ↓W_dputT, ↓W_dg, ↓W_dgE, ↓W_din, ↓W_dg2, ↓W_dput, ↓W_dupd, ↓W_dictP, ↓W_tupO, ↓W_ixF, ↓W_own2, ↓W_setixN, ↓W_ownT, ↓W_setsl, ↓W_augix, ↓W_owApp, ↓OnDict_o, ↓OnDict_i, ↓OnOdx_o, ↓OnDix_i, ↓OnOtp_o, ↓Frz_odx, ↓Frz_dix, ↓Frz_otp, ↓W_mulT, ↓W_dropX, ↓W_isiO, ↓W_noX, ↓NX_nx, ↓NX_bk, ↓NX_ct, ↓NX_rt, ↓NXd_int, ↓NXd_bl, ↓NXd_str, ↓NXd_non, ↓NXd_tup, ↓NXd_lst, ↓NXd_own, ↓NXd_otp, ↓W_raise1, ↓W_raise3, ↓W_setX, ↓W_setXF, ↓OnX_exc, ↓OnX_int, ↓OnX_bl, ↓OnX_str, ↓OnX_non, ↓OnX_tup, ↓OnX_lst, ↓OnX_own, ↓OnX_otp, ↓W_tryAs, ↓W_tryO, ↓WX_nx, ↓WX_bk, ↓WX_ct, ↓WX_rt, ↓OnXc_exc, ↓OnXc_int, ↓OnXc_bl, ↓OnXc_str, ↓OnXc_non, ↓OnXc_tup, ↓OnXc_lst, ↓OnXc_own, ↓OnXc_otp, ↓WN_nx, ↓Del_0, ↓Del_s, ↓Frz_exc, ↓W_isX, ↓W_fldX, ↓W_isNX, pu_dix, pu_kt, pu_exc, wd01, wd02, wd03, wd04, wd05, wd10, wd12, wd13, wd14, wd15, wd20, wd21, wd23, wd24, wd25, wd30, wd31, wd32, wd34, wd35, wd40, wd41, wd42, wd43, wd45, wd50, wd51, wd52, wd53, wd54, List.length_map]
    rw [Row.goal] at q
    refine ⟨fun z => ?_, fun z => ⟨fun z2 => ?_, fun z2 => ?_⟩⟩
    · rw [if_neg (by omega)] at q; exact q
    · rw [if_neg (by omega)] at q; exact q
    · have hl : (x - a).toNat < gs.length := by omega
      rw [if_pos (by omega), List.getElem?_eq_getElem hl] at q
      refine W_atI (x := .int (gs[(x - a).toNat])) (by omega) (by rw [List.getElem?_map, List.getElem?_eq_getElem hl]; rfl) ?_
      simp! [↓W_newK, ↓W_newT, ↓W_kVal, ↓W_kTup, ↓W_keyI, ↓W_keyS, ↓W_keys0, ↓W_keysC, ↓W_dgetK, ↓W_dgetT, ↓W_dputK, ↓W_dputT, ↓W_dg, ↓W_dgE, ↓W_din, ↓W_dg2, ↓W_dput, ↓W_dupd, ↓W_dictP, ↓W_tupO, ↓W_ixF, ↓W_own2, ↓W_setixN, ↓W_ownT, ↓W_setsl, ↓W_augix, ↓W_owApp, ↓OnDict_o, ↓OnDict_i, ↓OnOdx_o, ↓OnDix_i, ↓OnOtp_o, ↓Frz_odx, ↓Frz_dix, ↓Frz_otp, ↓W_mulT, ↓W_dropX, ↓W_isiO, ↓W_noX, ↓NX_nx, ↓NX_bk, ↓NX_ct, ↓NX_rt, ↓NXd_int, ↓NXd_bl, ↓NXd_str, ↓NXd_non, ↓NXd_tup, ↓NXd_lst, ↓NXd_own, ↓NXd_otp, ↓W_raise1, ↓W_raise3, ↓W_setX, ↓W_setXF, ↓OnX_exc, ↓OnX_int, ↓OnX_bl, ↓OnX_str, ↓OnX_non, ↓OnX_tup, ↓OnX_lst, ↓OnX_own, ↓OnX_otp, ↓W_tryAs, ↓W_tryO, ↓WX_nx, ↓WX_bk, ↓WX_ct, ↓WX_rt, ↓OnXc_exc, ↓OnXc_int, ↓OnXc_bl, ↓OnXc_str, ↓OnXc_non, ↓OnXc_tup, ↓OnXc_lst, ↓OnXc_own, ↓OnXc_otp, ↓WN_nx, ↓Del_0, ↓Del_s, ↓Frz_exc, ↓W_isX, ↓W_fldX, ↓W_isNX, pu_dix, pu_kt, pu_exc]
      exact q
/-- the rows that are read, from one on; and what is picked -/
inductive Path (rows : List Row) (x : Int) : Nat → List Int → Option Int → Prop
  | stop {k : Nat} {l : Int} : rows[k]? = some (.pick l) → Path rows x k [(k : Int)] (some l)
  | out {k : Nat} {r : Row} : rows[k]? = some r → r.go = true → r.goal x = none → Path rows x k [(k : Int)] none
  | step {k n : Nat} {r : Row} {o : Option Int} {l : List Int} {f : Option Int} : rows[k]? = some r → r.go = true → r.goal x = some o → o.getD (k + 1) = (n : Int) → Path rows x n l f → Path rows x k ((k : Int) :: l) f
structure OkRows (rows : List Row) : Prop where
  ne : 0 < rows.length
  nx : ∀ (k : Nat) r, rows[k]? = some r → r.go = true → k + 1 < rows.length
  up : ∀ (k : Nat) r x g, rows[k]? = some r → r.goal x = some (some g) → (k : Int) < g ∧ g < rows.length
theorem go_pick {r : Row} (h : r.go = false) : ∃ l, r = .pick l := by cases r <;> first | cases h; done | exact ⟨_, rfl⟩
theorem get_row {rows : List Row} {k : Nat} {r : Row} (h : rows[k]? = some r) : (rows.map Row.toD)[((k : Nat) : Int).toNat]? = some r.toD := by
  rw [Int.toNat_natCast, List.getElem?_map, h]; rfl
theorem W_row0 {r : Row} {Q : D → Prop} (q : Q (.str (match r with | .is .. => "is" | .within .. => "within" | .below .. => "below" | .mask .. => "mask" | .table .. => "table" | .pick .. => "pick"))) : W (opIx r.toD (.int 0)) Q := by
  cases r <;> exact ⟨_, rfl, q⟩
theorem W_isP {r : Row} {A B : Prop} (q : if r.go = true then A else B) : W (opIx r.toD (.int 0)) fun d => Frz? d fun d' => W (opNe d' (.str "pick")) fun d => WB d A B := by
  cases r <;> rw [Row.toD] <;> simp! [↓W_newK, ↓W_newT, ↓W_kVal, ↓W_kTup, ↓W_keyI, ↓W_keyS, ↓W_keys0, ↓W_keysC, ↓W_dgetK, ↓W_dgetT, ↓W_dputK, ↓W_dputT, ↓W_dg, ↓W_dgE, ↓W_din, ↓W_dg2, ↓W_dput, ↓W_dupd, ↓W_dictP, ↓W_tupO, ↓W_ixF, ↓W_own2, ↓W_setixN, ↓W_ownT, ↓W_setsl, ↓W_augix, ↓W_owApp, ↓OnDict_o, ↓OnDict_i, ↓OnOdx_o, ↓OnDix_i, ↓OnOtp_o, ↓Frz_odx, ↓Frz_dix, ↓Frz_otp, ↓W_mulT, ↓W_dropX, ↓W_isiO, ↓W_noX, ↓NX_nx, ↓NX_bk, ↓NX_ct, ↓NX_rt, ↓NXd_int, ↓NXd_bl, ↓NXd_str, ↓NXd_non, ↓NXd_tup, ↓NXd_lst, ↓NXd_own, ↓NXd_otp, ↓W_raise1, ↓W_raise3, ↓W_setX, ↓W_setXF, ↓OnX_exc, ↓OnX_int, ↓OnX_bl, ↓OnX_str, ↓OnX_non, ↓OnX_tup, ↓OnX_lst, ↓OnX_own, ↓OnX_otp, ↓W_tryAs, ↓W_tryO, ↓WX_nx, ↓WX_bk, ↓WX_ct, ↓WX_rt, ↓OnXc_exc, ↓OnXc_int, ↓OnXc_bl, ↓OnXc_str, ↓OnXc_non, ↓OnXc_tup, ↓OnXc_lst, ↓OnXc_own, ↓OnXc_otp, ↓WN_nx, ↓Del_0, ↓Del_s, ↓Frz_exc, ↓W_isX, ↓W_fldX, ↓W_isNX, pu_dix, pu_kt, pu_exc, wd01, wd02, wd03, wd04, wd05, wd10, wd12, wd13, wd14, wd15, wd20, wd21, wd23, wd24, wd25, wd30, wd31, wd32, wd34, wd35, wd40, wd41, wd42, wd43, wd45, wd50, wd51, wd52, wd53, wd54] <;> exact q
theorem Frz_row {r : Row} {K : D → Prop} : Frz? r.toD K = K r.toD := by cases r <;> rfl
theorem nx_int {k : Int} {o : Option Int} : nx k (some o) = .int (o.getD (k + 1)) := by cases o <;> rfl
theorem OkRows.to {rows : List Row} (ok : OkRows rows) {k : Nat} {r : Row} {x : Int} {o : Option Int} (h : rows[k]? = some r) (hg : r.go = true) (e : r.goal x = some o) : ∃ n : Nat, o.getD (k + 1) = (n : Int) ∧ k < n ∧ n < rows.length := by
  cases o with
  | none => exact ⟨k + 1, by simp, by omega, ok.nx k r h hg⟩
  | some g =>
    obtain ⟨h1, h2⟩ := ok.up k r x g h e
    exact ⟨g.toNat, by show g = _; omega, by omega, by omega⟩
theorem W_rowP {l : Int} {Q : D → Prop} (q : Q (.int l)) : W (opIx (Row.pick l).toD (.int 1)) Q := ⟨_, rfl, q⟩
theorem W_law_run {rows : List Row} {x : Int} {Q : D → List D → Prop} (ok : OkRows rows) (hl : rows.length ≤ 99999) (q : ∀ l f, Path rows x 0 l f → l.length ≤ rows.length → Q (.tup [oD f, .lst (l.map D.int)]) []) : W2 (c_law_run [.lst (rows.map Row.toD), .int x]) Q := by
  unfold c_law_run g_law_run
  simp! [↓W_newK, ↓W_newT, ↓W_kVal, ↓W_kTup, ↓W_keyI, ↓W_keyS, ↓W_keys0, ↓W_keysC, ↓W_dgetK, ↓W_dgetT, ↓W_dputK, ↓W_dputT, ↓W_dg, ↓W_dgE, ↓W_din, ↓W_dg2, ↓W_dput, ↓W_dupd, ↓W_dictP, ↓W_tupO, ↓W_ixF, ↓W_own2, ↓W_setixN, ↓W_ownT, ↓W_setsl, ↓W_augix, ↓W_owApp, ↓OnDict_o, ↓OnDict_i, ↓OnOdx_o, ↓OnDix_i, ↓OnOtp_o, ↓Frz_odx, ↓Frz_dix, ↓Frz_otp, ↓W_mulT, ↓W_dropX, ↓W_isiO, ↓W_noX, ↓NX_nx, ↓NX_bk, ↓NX_ct, ↓NX_rt, ↓NXd_int, ↓NXd_bl, ↓NXd_str, ↓NXd_non, ↓NXd_tup, ↓NXd_lst, ↓NXd_own, ↓NXd_otp, ↓W_raise1, ↓W_raise3, ↓W_setX, ↓W_setXF, ↓OnX_exc, ↓OnX_int, ↓OnX_bl, ↓OnX_str, ↓OnX_non, ↓OnX_tup, ↓OnX_lst, ↓OnX_own, ↓OnX_otp, ↓W_tryAs, ↓W_tryO, ↓WX_nx, ↓WX_bk, ↓WX_ct, ↓WX_rt, ↓OnXc_exc, ↓OnXc_int, ↓OnXc_bl, ↓OnXc_str, ↓OnXc_non, ↓OnXc_tup, ↓OnXc_lst, ↓OnXc_own, ↓OnXc_otp, ↓WN_nx, ↓Del_0, ↓Del_s, ↓Frz_exc, ↓W_isX, ↓W_fldX, ↓W_isNX, pu_dix, pu_kt, pu_exc]
  refine W_whileI (fun ρ => ∃ (pre : List Int) (k : Nat) (x3 : Option D), ρ = [some (.lst (rows.map Row.toD)), some (.int x), some (.own (pre.map D.int ++ [.int k])), x3] ∧ k < rows.length ∧ pre.length ≤ k ∧ ∀ l f, Path rows x k l f → Path rows x 0 (pre ++ l) f) (fun ρ => match ρ with | [_, _, some (.own l), _] => 100000 - l.length | _ => 0) ⟨[], 0, _, rfl, ok.ne, Nat.le_refl _, fun l f h => h⟩ (by simp) (fun ρ hi => ?_)
  obtain ⟨pre, k, x3, rfl, hk, hp, hP⟩ := hi
  have er := List.getElem?_eq_getElem hk
  generalize hr : rows[k] = r at er
  have pu : (pre.map D.int ++ [D.int k]).all D.pu = true := by rw [List.all_append, List.all_map]; simp [D.pu]
  have eL : ∀ (j : Int), pre.map D.int ++ [D.int k] ++ [D.int j] = (pre ++ [(k : Int)]).map D.int ++ [.int j] := fun j => by rw [List.map_append]; rfl
  have len : (pre.map D.int ++ [D.int k]).length = pre.length + 1 := by rw [List.length_append, List.length_map]; rfl
  have fin : ∀ f, Path rows x k [(k : Int)] f → Q (.tup [oD f, .lst (pre.map D.int ++ [D.int k])]) [] := fun f h => by
    have := q (pre ++ [(k : Int)]) f (hP _ _ h) (by rw [List.length_append, List.length_singleton]; omega)
    rw [List.map_append] at this
    exact this
  simp! [↓W_newK, ↓W_newT, ↓W_kVal, ↓W_kTup, ↓W_keyI, ↓W_keyS, ↓W_keys0, ↓W_keysC, ↓W_dgetK, ↓W_dgetT, ↓W_dputK, ↓W_dputT, ↓W_dg, ↓W_dgE, ↓W_din, ↓W_dg2, ↓W_dput, ↓W_dupd, ↓W_dictP, ↓W_tupO, ↓W_ixF, ↓W_own2, ↓W_setixN, ↓W_ownT, ↓W_setsl, ↓W_augix, ↓W_owApp, ↓OnDict_o, ↓OnDict_i, ↓OnOdx_o, ↓OnDix_i, ↓OnOtp_o, ↓Frz_odx, ↓Frz_dix, ↓Frz_otp, ↓W_mulT, ↓W_dropX, ↓W_isiO, ↓W_noX, ↓NX_nx, ↓NX_bk, ↓NX_ct, ↓NX_rt, ↓NXd_int, ↓NXd_bl, ↓NXd_str, ↓NXd_non, ↓NXd_tup, ↓NXd_lst, ↓NXd_own, ↓NXd_otp, ↓W_raise1, ↓W_raise3, ↓W_setX, ↓W_setXF, ↓OnX_exc, ↓OnX_int, ↓OnX_bl, ↓OnX_str, ↓OnX_non, ↓OnX_tup, ↓OnX_lst, ↓OnX_own, ↓OnX_otp, ↓W_tryAs, ↓W_tryO, ↓WX_nx, ↓WX_bk, ↓WX_ct, ↓WX_rt, ↓OnXc_exc, ↓OnXc_int, ↓OnXc_bl, ↓OnXc_str, ↓OnXc_non, ↓OnXc_tup, ↓OnXc_lst, ↓OnXc_own, ↓OnXc_otp, ↓WN_nx, ↓Del_0, ↓Del_s, ↓Frz_exc, ↓W_isX, ↓W_fldX, ↓W_isNX, pu_dix, pu_kt, pu_exc]
  rw [W_last]
  simp! [↓W_newK, ↓W_newT, ↓W_kVal, ↓W_kTup, ↓W_keyI, ↓W_keyS, ↓W_keys0, ↓W_keysC, ↓W_dgetK, ↓W_dgetT, ↓W_dputK, ↓W_dputT, ↓W_dg, ↓W_dgE, ↓W_din, ↓W_dg2, ↓W_dput, ↓W_dupd, ↓W_dictP, ↓W_tupO, ↓W_ixF, ↓W_own2, ↓W_setixN, ↓W_ownT, ↓W_setsl, ↓W_augix, ↓W_owApp, ↓OnDict_o, ↓OnDict_i, ↓OnOdx_o, ↓OnDix_i, ↓OnOtp_o, ↓Frz_odx, ↓Frz_dix, ↓Frz_otp, ↓W_mulT, ↓W_dropX, ↓W_isiO, ↓W_noX, ↓NX_nx, ↓NX_bk, ↓NX_ct, ↓NX_rt, ↓NXd_int, ↓NXd_bl, ↓NXd_str, ↓NXd_non, ↓NXd_tup, ↓NXd_lst, ↓NXd_own, ↓NXd_otp, ↓W_raise1, ↓W_raise3, ↓W_setX, ↓W_setXF, ↓OnX_exc, ↓OnX_int, ↓OnX_bl, ↓OnX_str, ↓OnX_non, ↓OnX_tup, ↓OnX_lst, ↓OnX_own, ↓OnX_otp, ↓W_tryAs, ↓W_tryO, ↓WX_nx, ↓WX_bk, ↓WX_ct, ↓WX_rt, ↓OnXc_exc, ↓OnXc_int, ↓OnXc_bl, ↓OnXc_str, ↓OnXc_non, ↓OnXc_tup, ↓OnXc_lst, ↓OnXc_own, ↓OnXc_otp, ↓WN_nx, ↓Del_0, ↓Del_s, ↓Frz_exc, ↓W_isX, ↓W_fldX, ↓W_isNX, pu_dix, pu_kt, pu_exc]
  refine W_atI (Int.natCast_nonneg k) (get_row er) ?_
  rw [Frz_row]
  refine W_isP ?_
  cases hg : r.go with
  | true =>
    rw [if_pos rfl, W_last]
    simp! [↓W_newK, ↓W_newT, ↓W_kVal, ↓W_kTup, ↓W_keyI, ↓W_keyS, ↓W_keys0, ↓W_keysC, ↓W_dgetK, ↓W_dgetT, ↓W_dputK, ↓W_dputT, ↓W_dg, ↓W_dgE, ↓W_din, ↓W_dg2, ↓W_dput, ↓W_dupd, ↓W_dictP, ↓W_tupO, ↓W_ixF, ↓W_own2, ↓W_setixN, ↓W_ownT, ↓W_setsl, ↓W_augix, ↓W_owApp, ↓OnDict_o, ↓OnDict_i, ↓OnOdx_o, ↓OnDix_i, ↓OnOtp_o, ↓Frz_odx, ↓Frz_dix, ↓Frz_otp, ↓W_mulT, ↓W_dropX, ↓W_isiO, ↓W_noX, ↓NX_nx, ↓NX_bk, ↓NX_ct, ↓NX_rt, ↓NXd_int, ↓NXd_bl, ↓NXd_str, ↓NXd_non, ↓NXd_tup, ↓NXd_lst, ↓NXd_own, ↓NXd_otp, ↓W_raise1, ↓W_raise3, ↓W_setX, ↓W_setXF, ↓OnX_exc, ↓OnX_int, ↓OnX_bl, ↓OnX_str, ↓OnX_non, ↓OnX_tup, ↓OnX_lst, ↓OnX_own, ↓OnX_otp, ↓W_tryAs, ↓W_tryO, ↓WX_nx, ↓WX_bk, ↓WX_ct, ↓WX_rt, ↓OnXc_exc, ↓OnXc_int, ↓OnXc_bl, ↓OnXc_str, ↓OnXc_non, ↓OnXc_tup, ↓OnXc_lst, ↓OnXc_own, ↓OnXc_otp, ↓WN_nx, ↓Del_0, ↓Del_s, ↓Frz_exc, ↓W_isX, ↓W_fldX, ↓W_isNX, pu_dix, pu_kt, pu_exc]
    refine W_behind (Int.natCast_nonneg k) (get_row er) hg ?_
    cases e : r.goal x with
    | none =>
      unfold nx
      simp! [↓W_newK, ↓W_newT, ↓W_kVal, ↓W_kTup, ↓W_keyI, ↓W_keyS, ↓W_keys0, ↓W_keysC, ↓W_dgetK, ↓W_dgetT, ↓W_dputK, ↓W_dputT, ↓W_dg, ↓W_dgE, ↓W_din, ↓W_dg2, ↓W_dput, ↓W_dupd, ↓W_dictP, ↓W_tupO, ↓W_ixF, ↓W_own2, ↓W_setixN, ↓W_ownT, ↓W_setsl, ↓W_augix, ↓W_owApp, ↓OnDict_o, ↓OnDict_i, ↓OnOdx_o, ↓OnDix_i, ↓OnOtp_o, ↓Frz_odx, ↓Frz_dix, ↓Frz_otp, ↓W_mulT, ↓W_dropX, ↓W_isiO, ↓W_noX, ↓NX_nx, ↓NX_bk, ↓NX_ct, ↓NX_rt, ↓NXd_int, ↓NXd_bl, ↓NXd_str, ↓NXd_non, ↓NXd_tup, ↓NXd_lst, ↓NXd_own, ↓NXd_otp, ↓W_raise1, ↓W_raise3, ↓W_setX, ↓W_setXF, ↓OnX_exc, ↓OnX_int, ↓OnX_bl, ↓OnX_str, ↓OnX_non, ↓OnX_tup, ↓OnX_lst, ↓OnX_own, ↓OnX_otp, ↓W_tryAs, ↓W_tryO, ↓WX_nx, ↓WX_bk, ↓WX_ct, ↓WX_rt, ↓OnXc_exc, ↓OnXc_int, ↓OnXc_bl, ↓OnXc_str, ↓OnXc_non, ↓OnXc_tup, ↓OnXc_lst, ↓OnXc_own, ↓OnXc_otp, ↓WN_nx, ↓Del_0, ↓Del_s, ↓Frz_exc, ↓W_isX, ↓W_fldX, ↓W_isNX, pu_dix, pu_kt, pu_exc]
      refine FrzL_pu pu ?_
      exact fin none (.out er hg e)
    | some o =>
      obtain ⟨n, h1, h2, h3⟩ := ok.to er hg e
      rw [nx_int, h1]
      simp! [↓W_newK, ↓W_newT, ↓W_kVal, ↓W_kTup, ↓W_keyI, ↓W_keyS, ↓W_keys0, ↓W_keysC, ↓W_dgetK, ↓W_dgetT, ↓W_dputK, ↓W_dputT, ↓W_dg, ↓W_dgE, ↓W_din, ↓W_dg2, ↓W_dput, ↓W_dupd, ↓W_dictP, ↓W_tupO, ↓W_ixF, ↓W_own2, ↓W_setixN, ↓W_ownT, ↓W_setsl, ↓W_augix, ↓W_owApp, ↓OnDict_o, ↓OnDict_i, ↓OnOdx_o, ↓OnDix_i, ↓OnOtp_o, ↓Frz_odx, ↓Frz_dix, ↓Frz_otp, ↓W_mulT, ↓W_dropX, ↓W_isiO, ↓W_noX, ↓NX_nx, ↓NX_bk, ↓NX_ct, ↓NX_rt, ↓NXd_int, ↓NXd_bl, ↓NXd_str, ↓NXd_non, ↓NXd_tup, ↓NXd_lst, ↓NXd_own, ↓NXd_otp, ↓W_raise1, ↓W_raise3, ↓W_setX, ↓W_setXF, ↓OnX_exc, ↓OnX_int, ↓OnX_bl, ↓OnX_str, ↓OnX_non, ↓OnX_tup, ↓OnX_lst, ↓OnX_own, ↓OnX_otp, ↓W_tryAs, ↓W_tryO, ↓WX_nx, ↓WX_bk, ↓WX_ct, ↓WX_rt, ↓OnXc_exc, ↓OnXc_int, ↓OnXc_bl, ↓OnXc_str, ↓OnXc_non, ↓OnXc_tup, ↓OnXc_lst, ↓OnXc_own, ↓OnXc_otp, ↓WN_nx, ↓Del_0, ↓Del_s, ↓Frz_exc, ↓W_isX, ↓W_fldX, ↓W_isNX, pu_dix, pu_kt, pu_exc]
      rw [len]
      refine ⟨by omega, ⟨pre ++ [(k : Int)], n, _, by rw [eL], h3, by rw [List.length_append, List.length_singleton]; omega, fun l f h => ?_⟩, ?_⟩
      · rw [List.append_assoc]
        exact hP _ _ (.step er hg e h1 h)
      · rw [List.length_append, len]
        simp only [List.length_singleton]
        omega
  | false =>
    obtain ⟨lab, rfl⟩ := go_pick hg
    rw [if_neg (by simp), W_last]
    simp! [↓W_newK, ↓W_newT, ↓W_kVal, ↓W_kTup, ↓W_keyI, ↓W_keyS, ↓W_keys0, ↓W_keysC, ↓W_dgetK, ↓W_dgetT, ↓W_dputK, ↓W_dputT, ↓W_dg, ↓W_dgE, ↓W_din, ↓W_dg2, ↓W_dput, ↓W_dupd, ↓W_dictP, ↓W_tupO, ↓W_ixF, ↓W_own2, ↓W_setixN, ↓W_ownT, ↓W_setsl, ↓W_augix, ↓W_owApp, ↓OnDict_o, ↓OnDict_i, ↓OnOdx_o, ↓OnDix_i, ↓OnOtp_o, ↓Frz_odx, ↓Frz_dix, ↓Frz_otp, ↓W_mulT, ↓W_dropX, ↓W_isiO, ↓W_noX, ↓NX_nx, ↓NX_bk, ↓NX_ct, ↓NX_rt, ↓NXd_int, ↓NXd_bl, ↓NXd_str, ↓NXd_non, ↓NXd_tup, ↓NXd_lst, ↓NXd_own, ↓NXd_otp, ↓W_raise1, ↓W_raise3, ↓W_setX, ↓W_setXF, ↓OnX_exc, ↓OnX_int, ↓OnX_bl, ↓OnX_str, ↓OnX_non, ↓OnX_tup, ↓OnX_lst, ↓OnX_own, ↓OnX_otp, ↓W_tryAs, ↓W_tryO, ↓WX_nx, ↓WX_bk, ↓WX_ct, ↓WX_rt, ↓OnXc_exc, ↓OnXc_int, ↓OnXc_bl, ↓OnXc_str, ↓OnXc_non, ↓OnXc_tup, ↓OnXc_lst, ↓OnXc_own, ↓OnXc_otp, ↓WN_nx, ↓Del_0, ↓Del_s, ↓Frz_exc, ↓W_isX, ↓W_fldX, ↓W_isNX, pu_dix, pu_kt, pu_exc]
    refine W_atI (Int.natCast_nonneg k) (get_row er) ?_
    rw [Frz_row]
    refine W_rowP ?_
    simp! [↓W_newK, ↓W_newT, ↓W_kVal, ↓W_kTup, ↓W_keyI, ↓W_keyS, ↓W_keys0, ↓W_keysC, ↓W_dgetK, ↓W_dgetT, ↓W_dputK, ↓W_dputT, ↓W_dg, ↓W_dgE, ↓W_din, ↓W_dg2, ↓W_dput, ↓W_dupd, ↓W_dictP, ↓W_tupO, ↓W_ixF, ↓W_own2, ↓W_setixN, ↓W_ownT, ↓W_setsl, ↓W_augix, ↓W_owApp, ↓OnDict_o, ↓OnDict_i, ↓OnOdx_o, ↓OnDix_i, ↓OnOtp_o, ↓Frz_odx, ↓Frz_dix, ↓Frz_otp, ↓W_mulT, ↓W_dropX, ↓W_isiO, ↓W_noX, ↓NX_nx, ↓NX_bk, ↓NX_ct, ↓NX_rt, ↓NXd_int, ↓NXd_bl, ↓NXd_str, ↓NXd_non, ↓NXd_tup, ↓NXd_lst, ↓NXd_own, ↓NXd_otp, ↓W_raise1, ↓W_raise3, ↓W_setX, ↓W_setXF, ↓OnX_exc, ↓OnX_int, ↓OnX_bl, ↓OnX_str, ↓OnX_non, ↓OnX_tup, ↓OnX_lst, ↓OnX_own, ↓OnX_otp, ↓W_tryAs, ↓W_tryO, ↓WX_nx, ↓WX_bk, ↓WX_ct, ↓WX_rt, ↓OnXc_exc, ↓OnXc_int, ↓OnXc_bl, ↓OnXc_str, ↓OnXc_non, ↓OnXc_tup, ↓OnXc_lst, ↓OnXc_own, ↓OnXc_otp, ↓WN_nx, ↓Del_0, ↓Del_s, ↓Frz_exc, ↓W_isX, ↓W_fldX, ↓W_isNX, pu_dix, pu_kt, pu_exc]
    refine FrzL_pu pu ?_
    exact fin (some lab) (.stop er)
theorem Path.last {rows : List Row} {x : Int} {k : Nat} {l : List Int} {f : Option Int} (h : Path rows x k l f) : ∃ l', l = (k : Int) :: l' := by cases h <;> exact ⟨_, rfl⟩
def runX : List Int → Option Int → D
  | L, none => .exc "Beyond" ["row"] [.int (L.getLastD 0)]
  | L, some lab => .tup [.int lab, .lst (L.map D.int)]
theorem W_runX {rows : List Row} {x : Int} {f : Option Int} {L : List Int} {Q : D → List D → Prop} (P : Path rows x 0 L f) (hl : L.length ≤ 99999) (q : Q (runX L f) []) : W2 (c_run [.lst (rows.map Row.toD), .int x]) Q := by
  unfold c_run g_run
  simp! [↓W_newK, ↓W_newT, ↓W_kVal, ↓W_kTup, ↓W_keyI, ↓W_keyS, ↓W_keys0, ↓W_keysC, ↓W_dgetK, ↓W_dgetT, ↓W_dputK, ↓W_dputT, ↓W_dg, ↓W_dgE, ↓W_din, ↓W_dg2, ↓W_dput, ↓W_dupd, ↓W_dictP, ↓W_tupO, ↓W_ixF, ↓W_own2, ↓W_setixN, ↓W_ownT, ↓W_setsl, ↓W_augix, ↓W_owApp, ↓OnDict_o, ↓OnDict_i, ↓OnOdx_o, ↓OnDix_i, ↓OnOtp_o, ↓Frz_odx, ↓Frz_dix, ↓Frz_otp, ↓W_mulT, ↓W_dropX, ↓W_isiO, ↓W_noX, ↓NX_nx, ↓NX_bk, ↓NX_ct, ↓NX_rt, ↓NXd_int, ↓NXd_bl, ↓NXd_str, ↓NXd_non, ↓NXd_tup, ↓NXd_lst, ↓NXd_own, ↓NXd_otp, ↓W_raise1, ↓W_raise3, ↓W_setX, ↓W_setXF, ↓OnX_exc, ↓OnX_int, ↓OnX_bl, ↓OnX_str, ↓OnX_non, ↓OnX_tup, ↓OnX_lst, ↓OnX_own, ↓OnX_otp, ↓W_tryAs, ↓W_tryO, ↓WX_nx, ↓WX_bk, ↓WX_ct, ↓WX_rt, ↓OnXc_exc, ↓OnXc_int, ↓OnXc_bl, ↓OnXc_str, ↓OnXc_non, ↓OnXc_tup, ↓OnXc_lst, ↓OnXc_own, ↓OnXc_otp, ↓WN_nx, ↓Del_0, ↓Del_s, ↓Frz_exc, ↓W_isX, ↓W_fldX, ↓W_isNX, pu_dix, pu_kt, pu_exc]
  refine W_whileI (fun ρ => ∃ (pre l : List Int) (k : Nat) (x4 : Option D), ρ = [some (.lst (rows.map Row.toD)), some (.int x), some (.own (pre.map D.int)), some (.int k), x4] ∧ pre ++ l = L ∧ Path rows x k l f) (fun ρ => match ρ with | [_, _, some (.own l), _, _] => 100000 - l.length - 1 | _ => 0) ⟨[], L, 0, _, rfl, rfl, P⟩ (by simp) (fun ρ hi => ?_)
  obtain ⟨pre, l, k, x4, rfl, rfl, hP⟩ := hi
  have pu : (pre.map D.int).all D.pu = true := by rw [List.all_map]; simp [D.pu]
  rw [List.length_append] at hl
  simp! [↓W_newK, ↓W_newT, ↓W_kVal, ↓W_kTup, ↓W_keyI, ↓W_keyS, ↓W_keys0, ↓W_keysC, ↓W_dgetK, ↓W_dgetT, ↓W_dputK, ↓W_dputT, ↓W_dg, ↓W_dgE, ↓W_din, ↓W_dg2, ↓W_dput, ↓W_dupd, ↓W_dictP, ↓W_tupO, ↓W_ixF, ↓W_own2, ↓W_setixN, ↓W_ownT, ↓W_setsl, ↓W_augix, ↓W_owApp, ↓OnDict_o, ↓OnDict_i, ↓OnOdx_o, ↓OnDix_i, ↓OnOtp_o, ↓Frz_odx, ↓Frz_dix, ↓Frz_otp, ↓W_mulT, ↓W_dropX, ↓W_isiO, ↓W_noX, ↓NX_nx, ↓NX_bk, ↓NX_ct, ↓NX_rt, ↓NXd_int, ↓NXd_bl, ↓NXd_str, ↓NXd_non, ↓NXd_tup, ↓NXd_lst, ↓NXd_own, ↓NXd_otp, ↓W_raise1, ↓W_raise3, ↓W_setX, ↓W_setXF, ↓OnX_exc, ↓OnX_int, ↓OnX_bl, ↓OnX_str, ↓OnX_non, ↓OnX_tup, ↓OnX_lst, ↓OnX_own, ↓OnX_otp, ↓W_tryAs, ↓W_tryO, ↓WX_nx, ↓WX_bk, ↓WX_ct, ↓WX_rt, ↓OnXc_exc, ↓OnXc_int, ↓OnXc_bl, ↓OnXc_str, ↓OnXc_non, ↓OnXc_tup, ↓OnXc_lst, ↓OnXc_own, ↓OnXc_otp, ↓WN_nx, ↓Del_0, ↓Del_s, ↓Frz_exc, ↓W_isX, ↓W_fldX, ↓W_isNX, pu_dix, pu_kt, pu_exc]
  cases hP with
  | stop er =>
    refine W_atI (Int.natCast_nonneg k) (get_row er) ?_
    rw [Frz_row]
    refine W_isP ?_
    rw [if_neg (by simp [Row.go])]
    refine W_atI (Int.natCast_nonneg k) (get_row er) ?_
    rw [Frz_row]
    refine W_rowP ?_
    simp! [↓W_newK, ↓W_newT, ↓W_kVal, ↓W_kTup, ↓W_keyI, ↓W_keyS, ↓W_keys0, ↓W_keysC, ↓W_dgetK, ↓W_dgetT, ↓W_dputK, ↓W_dputT, ↓W_dg, ↓W_dgE, ↓W_din, ↓W_dg2, ↓W_dput, ↓W_dupd, ↓W_dictP, ↓W_tupO, ↓W_ixF, ↓W_own2, ↓W_setixN, ↓W_ownT, ↓W_setsl, ↓W_augix, ↓W_owApp, ↓OnDict_o, ↓OnDict_i, ↓OnOdx_o, ↓OnDix_i, ↓OnOtp_o, ↓Frz_odx, ↓Frz_dix, ↓Frz_otp, ↓W_mulT, ↓W_dropX, ↓W_isiO, ↓W_noX, ↓NX_nx, ↓NX_bk, ↓NX_ct, ↓NX_rt, ↓NXd_int, ↓NXd_bl, ↓NXd_str, ↓NXd_non, ↓NXd_tup, ↓NXd_lst, ↓NXd_own, ↓NXd_otp, ↓W_raise1, ↓W_raise3, ↓W_setX, ↓W_setXF, ↓OnX_exc, ↓OnX_int, ↓OnX_bl, ↓OnX_str, ↓OnX_non, ↓OnX_tup, ↓OnX_lst, ↓OnX_own, ↓OnX_otp, ↓W_tryAs, ↓W_tryO, ↓WX_nx, ↓WX_bk, ↓WX_ct, ↓WX_rt, ↓OnXc_exc, ↓OnXc_int, ↓OnXc_bl, ↓OnXc_str, ↓OnXc_non, ↓OnXc_tup, ↓OnXc_lst, ↓OnXc_own, ↓OnXc_otp, ↓WN_nx, ↓Del_0, ↓Del_s, ↓Frz_exc, ↓W_isX, ↓W_fldX, ↓W_isNX, pu_dix, pu_kt, pu_exc]
    exact ⟨by rw [List.length_map]; simp at hl; omega, FrzL_snoc q⟩
  | out er hg e =>
    refine W_atI (Int.natCast_nonneg k) (get_row er) ?_
    rw [Frz_row]
    refine W_isP ?_
    rw [if_pos hg]
    refine ⟨by rw [List.length_map]; simp at hl; omega, W_atI (Int.natCast_nonneg k) (get_row er) ?_⟩
    rw [Frz_row]
    refine W_goal_of hg ?_
    rw [e]
    unfold gX
    simp! [↓W_newK, ↓W_newT, ↓W_kVal, ↓W_kTup, ↓W_keyI, ↓W_keyS, ↓W_keys0, ↓W_keysC, ↓W_dgetK, ↓W_dgetT, ↓W_dputK, ↓W_dputT, ↓W_dg, ↓W_dgE, ↓W_din, ↓W_dg2, ↓W_dput, ↓W_dupd, ↓W_dictP, ↓W_tupO, ↓W_ixF, ↓W_own2, ↓W_setixN, ↓W_ownT, ↓W_setsl, ↓W_augix, ↓W_owApp, ↓OnDict_o, ↓OnDict_i, ↓OnOdx_o, ↓OnDix_i, ↓OnOtp_o, ↓Frz_odx, ↓Frz_dix, ↓Frz_otp, ↓W_mulT, ↓W_dropX, ↓W_isiO, ↓W_noX, ↓NX_nx, ↓NX_bk, ↓NX_ct, ↓NX_rt, ↓NXd_int, ↓NXd_bl, ↓NXd_str, ↓NXd_non, ↓NXd_tup, ↓NXd_lst, ↓NXd_own, ↓NXd_otp, ↓W_raise1, ↓W_raise3, ↓W_setX, ↓W_setXF, ↓OnX_exc, ↓OnX_int, ↓OnX_bl, ↓OnX_str, ↓OnX_non, ↓OnX_tup, ↓OnX_lst, ↓OnX_own, ↓OnX_otp, ↓W_tryAs, ↓W_tryO, ↓WX_nx, ↓WX_bk, ↓WX_ct, ↓WX_rt, ↓OnXc_exc, ↓OnXc_int, ↓OnXc_bl, ↓OnXc_str, ↓OnXc_non, ↓OnXc_tup, ↓OnXc_lst, ↓OnXc_own, ↓OnXc_otp, ↓WN_nx, ↓Del_0, ↓Del_s, ↓Frz_exc, ↓W_isX, ↓W_fldX, ↓W_isNX, pu_dix, pu_kt, pu_exc]
    have eq : runX (pre ++ [(k : Int)]) none = .exc "Beyond" ["row"] [.int (k : Int)] := by simp [runX]
    rw [eq] at q
    exact ⟨by decide +kernel, q⟩
  | step er hg e h1 h =>
    refine W_atI (Int.natCast_nonneg k) (get_row er) ?_
    rw [Frz_row]
    refine W_isP ?_
    rw [if_pos hg]
    have hl' : pre.length + 1 ≤ 99999 := by rw [List.length_cons] at hl; omega
    have le : (pre.map D.int ++ [D.int (k : Int)]).length = pre.length + 1 := by rw [List.length_append, List.length_map]; rfl
    refine ⟨by rw [List.length_map]; omega, W_atI (Int.natCast_nonneg k) (get_row er) ?_⟩
    rw [Frz_row]
    refine W_goal_of hg ?_
    rw [e]
    unfold gX
    rename_i n r o l2
    have cont : ∀ y, (∃ (pre_1 l : List Int) (k_1 : Nat) (x4 : Option D), [some (.lst (rows.map Row.toD)), some (.int x), some (.own (pre.map D.int ++ [.int (k : Int)])), some (.int (n : Int)), some y] = [some (.lst (rows.map Row.toD)), some (.int x), some (.own (pre_1.map D.int)), some (.int (k_1 : Int)), x4] ∧ pre_1 ++ l = pre ++ (k : Int) :: l2 ∧ Path rows x k_1 l f) ∧ 100000 - (pre.map D.int ++ [D.int (k : Int)]).length - 1 < 100000 - (pre.map D.int).length - 1 := fun y =>
      ⟨⟨pre ++ [(k : Int)], l2, n, some y, by rw [List.map_append]; rfl, by rw [List.append_assoc]; rfl, h⟩, by rw [le, List.length_map]; omega⟩
    cases o with
    | none =>
      have h1' : (k : Int) + 1 = (n : Int) := h1
      simp! [↓W_newK, ↓W_newT, ↓W_kVal, ↓W_kTup, ↓W_keyI, ↓W_keyS, ↓W_keys0, ↓W_keysC, ↓W_dgetK, ↓W_dgetT, ↓W_dputK, ↓W_dputT, ↓W_dg, ↓W_dgE, ↓W_din, ↓W_dg2, ↓W_dput, ↓W_dupd, ↓W_dictP, ↓W_tupO, ↓W_ixF, ↓W_own2, ↓W_setixN, ↓W_ownT, ↓W_setsl, ↓W_augix, ↓W_owApp, ↓OnDict_o, ↓OnDict_i, ↓OnOdx_o, ↓OnDix_i, ↓OnOtp_o, ↓Frz_odx, ↓Frz_dix, ↓Frz_otp, ↓W_mulT, ↓W_dropX, ↓W_isiO, ↓W_noX, ↓NX_nx, ↓NX_bk, ↓NX_ct, ↓NX_rt, ↓NXd_int, ↓NXd_bl, ↓NXd_str, ↓NXd_non, ↓NXd_tup, ↓NXd_lst, ↓NXd_own, ↓NXd_otp, ↓W_raise1, ↓W_raise3, ↓W_setX, ↓W_setXF, ↓OnX_exc, ↓OnX_int, ↓OnX_bl, ↓OnX_str, ↓OnX_non, ↓OnX_tup, ↓OnX_lst, ↓OnX_own, ↓OnX_otp, ↓W_tryAs, ↓W_tryO, ↓WX_nx, ↓WX_bk, ↓WX_ct, ↓WX_rt, ↓OnXc_exc, ↓OnXc_int, ↓OnXc_bl, ↓OnXc_str, ↓OnXc_non, ↓OnXc_tup, ↓OnXc_lst, ↓OnXc_own, ↓OnXc_otp, ↓WN_nx, ↓Del_0, ↓Del_s, ↓Frz_exc, ↓W_isX, ↓W_fldX, ↓W_isNX, pu_dix, pu_kt, pu_exc]
      unfold oD
      simp! [↓W_newK, ↓W_newT, ↓W_kVal, ↓W_kTup, ↓W_keyI, ↓W_keyS, ↓W_keys0, ↓W_keysC, ↓W_dgetK, ↓W_dgetT, ↓W_dputK, ↓W_dputT, ↓W_dg, ↓W_dgE, ↓W_din, ↓W_dg2, ↓W_dput, ↓W_dupd, ↓W_dictP, ↓W_tupO, ↓W_ixF, ↓W_own2, ↓W_setixN, ↓W_ownT, ↓W_setsl, ↓W_augix, ↓W_owApp, ↓OnDict_o, ↓OnDict_i, ↓OnOdx_o, ↓OnDix_i, ↓OnOtp_o, ↓Frz_odx, ↓Frz_dix, ↓Frz_otp, ↓W_mulT, ↓W_dropX, ↓W_isiO, ↓W_noX, ↓NX_nx, ↓NX_bk, ↓NX_ct, ↓NX_rt, ↓NXd_int, ↓NXd_bl, ↓NXd_str, ↓NXd_non, ↓NXd_tup, ↓NXd_lst, ↓NXd_own, ↓NXd_otp, ↓W_raise1, ↓W_raise3, ↓W_setX, ↓W_setXF, ↓OnX_exc, ↓OnX_int, ↓OnX_bl, ↓OnX_str, ↓OnX_non, ↓OnX_tup, ↓OnX_lst, ↓OnX_own, ↓OnX_otp, ↓W_tryAs, ↓W_tryO, ↓WX_nx, ↓WX_bk, ↓WX_ct, ↓WX_rt, ↓OnXc_exc, ↓OnXc_int, ↓OnXc_bl, ↓OnXc_str, ↓OnXc_non, ↓OnXc_tup, ↓OnXc_lst, ↓OnXc_own, ↓OnXc_otp, ↓WN_nx, ↓Del_0, ↓Del_s, ↓Frz_exc, ↓W_isX, ↓W_fldX, ↓W_isNX, pu_dix, pu_kt, pu_exc]
      rw [h1']
      exact cont _
    | some g =>
      have h1' : g = (n : Int) := h1
      subst h1'
      unfold oD
      simp! [↓W_newK, ↓W_newT, ↓W_kVal, ↓W_kTup, ↓W_keyI, ↓W_keyS, ↓W_keys0, ↓W_keysC, ↓W_dgetK, ↓W_dgetT, ↓W_dputK, ↓W_dputT, ↓W_dg, ↓W_dgE, ↓W_din, ↓W_dg2, ↓W_dput, ↓W_dupd, ↓W_dictP, ↓W_tupO, ↓W_ixF, ↓W_own2, ↓W_setixN, ↓W_ownT, ↓W_setsl, ↓W_augix, ↓W_owApp, ↓OnDict_o, ↓OnDict_i, ↓OnOdx_o, ↓OnDix_i, ↓OnOtp_o, ↓Frz_odx, ↓Frz_dix, ↓Frz_otp, ↓W_mulT, ↓W_dropX, ↓W_isiO, ↓W_noX, ↓NX_nx, ↓NX_bk, ↓NX_ct, ↓NX_rt, ↓NXd_int, ↓NXd_bl, ↓NXd_str, ↓NXd_non, ↓NXd_tup, ↓NXd_lst, ↓NXd_own, ↓NXd_otp, ↓W_raise1, ↓W_raise3, ↓W_setX, ↓W_setXF, ↓OnX_exc, ↓OnX_int, ↓OnX_bl, ↓OnX_str, ↓OnX_non, ↓OnX_tup, ↓OnX_lst, ↓OnX_own, ↓OnX_otp, ↓W_tryAs, ↓W_tryO, ↓WX_nx, ↓WX_bk, ↓WX_ct, ↓WX_rt, ↓OnXc_exc, ↓OnXc_int, ↓OnXc_bl, ↓OnXc_str, ↓OnXc_non, ↓OnXc_tup, ↓OnXc_lst, ↓OnXc_own, ↓OnXc_otp, ↓WN_nx, ↓Del_0, ↓Del_s, ↓Frz_exc, ↓W_isX, ↓W_fldX, ↓W_isNX, pu_dix, pu_kt, pu_exc]
      exact cont _
theorem path_ex {rows : List Row} {x : Int} (ok : OkRows rows) (hl : rows.length ≤ 99999) : ∃ l f, Path rows x 0 l f ∧ l.length ≤ rows.length := by
  obtain ⟨_, _, h⟩ := W_law_run (x := x) (Q := fun _ _ => ∃ l f, Path rows x 0 l f ∧ l.length ≤ rows.length) ok hl fun l f P hl => ⟨l, f, P, hl⟩
  exact h.2
theorem Path.one {rows : List Row} {x : Int} {k : Nat} {l : List Int} {f : Option Int} (P : Path rows x k l f) : ∀ {l2 f2}, Path rows x k l2 f2 → l = l2 ∧ f = f2 := by
  induction P with
  | stop h =>
    intro l2 f2 P2
    cases P2 with
    | stop h2 => rw [h] at h2; cases h2; exact ⟨rfl, rfl⟩
    | out h2 hg _ => rw [h] at h2; cases h2; cases hg
    | step h2 hg _ _ _ => rw [h] at h2; cases h2; cases hg
  | out h hg e =>
    intro l2 f2 P2
    cases P2 with
    | stop h2 => rw [h] at h2; cases h2; cases hg
    | out h2 _ _ => exact ⟨rfl, rfl⟩
    | step h2 _ e2 _ _ => rw [h] at h2; cases h2; rw [e] at e2; cases e2
  | step h hg e hn _ ih =>
    intro l2 f2 P2
    cases P2 with
    | stop h2 => rw [h] at h2; cases h2; cases hg
    | out h2 _ e2 => rw [h] at h2; cases h2; rw [e] at e2; cases e2
    | step h2 _ e2 hn2 P3 =>
      rw [h] at h2
      cases h2
      rw [e] at e2
      cases e2
      rw [hn] at hn2
      have := Int.ofNat_inj.mp hn2
      subst this
      obtain ⟨e3, e4⟩ := ih P3
      exact ⟨by rw [e3], e4⟩
/-- what holds of each row that is drawn -/
structure RowOk (k many : Nat) (r : Row) : Prop where
  up : ∀ x g, r.goal x = some (some g) → (k : Int) < g ∧ g < many
  rb : Rb 1005 2 r.toD
theorem rb_items {ds : List D} (h : ∀ d ∈ ds, Rb 200 1 d) (hl : ds.length ≤ 5) : Rb 1005 2 (.tup ds) := Rb.tup (n := 200) (k := 1) (m := 5) h hl
theorem rb_i {i : Int} (h : -18446744073709551616 ≤ i ∧ i ≤ 18446744073709551616) : Rb 200 1 (.int i) := (Rb.int (by omega)).mono (by decide) (by decide)
theorem rb_s {s : Str} (h : PyData.strOk s = true) (hl : s.length ≤ 200) : Rb 200 1 (.str s) := (Rb.str h).mono hl (by decide)
theorem up_if {k many : Nat} {c : Prop} [Decidable c] {g g' : Int} (h : (k : Int) < g ∧ g < many) (e : some (if c then some g else none) = some (some g')) : (k : Int) < g' ∧ g' < many := by
  split at e
  · cases e; exact h
  · cases e
section
variable {k many : Nat} {g : Int}
theorem ok_is {a : Int} (h : (k : Int) < g ∧ g < many) (hm : many ≤ 20) (ha : -1000 ≤ a ∧ a ≤ 1000) : RowOk k many (.is a g) :=
  ⟨fun x g' e => up_if h (by rw [Row.goal] at e; exact e), rb_items (fun d hd => by
    simp only [List.mem_cons, List.not_mem_nil, or_false] at hd
    rcases hd with rfl | rfl | rfl
    · exact rb_s (by decide +kernel) (by decide +kernel)
    · exact rb_i (by omega)
    · exact rb_i (by omega)) (by simp)⟩
theorem ok_below {a : Int} (h : (k : Int) < g ∧ g < many) (hm : many ≤ 20) (ha : -1000 ≤ a ∧ a ≤ 1000) : RowOk k many (.below a g) :=
  ⟨fun x g' e => up_if h (by rw [Row.goal] at e; exact e), rb_items (fun d hd => by
    simp only [List.mem_cons, List.not_mem_nil, or_false] at hd
    rcases hd with rfl | rfl | rfl
    · exact rb_s (by decide +kernel) (by decide +kernel)
    · exact rb_i (by omega)
    · exact rb_i (by omega)) (by simp)⟩
theorem ok_within {a b : Int} (h : (k : Int) < g ∧ g < many) (hm : many ≤ 20) (ha : -1000 ≤ a ∧ a ≤ 1000) (hb : -1000 ≤ b ∧ b ≤ 1000) : RowOk k many (.within a b g) :=
  ⟨fun x g' e => up_if h (by rw [Row.goal] at e; exact e), rb_items (fun d hd => by
    simp only [List.mem_cons, List.not_mem_nil, or_false] at hd
    rcases hd with rfl | rfl | rfl | rfl
    · exact rb_s (by decide +kernel) (by decide +kernel)
    · exact rb_i (by omega)
    · exact rb_i (by omega)
    · exact rb_i (by omega)) (by simp)⟩
theorem ok_mask {a b c : Int} (h : (k : Int) < g ∧ g < many) (hm : many ≤ 20) (ha : -1000 ≤ a ∧ a ≤ 1000) (hb : -1000 ≤ b ∧ b ≤ 1000) (hc : 0 ≤ c ∧ c ≤ 18446744073709551616) : RowOk k many (.mask a b c g) :=
  ⟨fun x g' e => (by
    rw [Row.goal] at e
    split at e
    · exact up_if h e
    · cases e), rb_items (fun d hd => by
    simp only [List.mem_cons, List.not_mem_nil, or_false] at hd
    rcases hd with rfl | rfl | rfl | rfl | rfl
    · exact rb_s (by decide +kernel) (by decide +kernel)
    · exact rb_i (by omega)
    · exact rb_i (by omega)
    · exact rb_i (by omega)
    · exact rb_i (by omega)) (by simp)⟩
theorem ok_table {a : Int} {gs : List Int} (h : ∀ g ∈ gs, (k : Int) < g ∧ g < many) (hm : many ≤ 20) (ha : -1000 ≤ a ∧ a ≤ 1000) (hl : gs.length ≤ 200) : RowOk k many (.table a gs) :=
  ⟨fun x g' e => (by
    rw [Row.goal] at e
    split at e
    · obtain ⟨y, h1, h2⟩ := Option.map_eq_some_iff.mp e
      cases h2
      exact h _ (List.mem_of_getElem? h1)
    · cases e), rb_items (fun d hd => by
    simp only [List.mem_cons, List.not_mem_nil, or_false] at hd
    rcases hd with rfl | rfl | rfl
    · exact rb_s (by decide +kernel) (by decide +kernel)
    · exact rb_i (by omega)
    · refine (Rb.tup (n := 0) (k := 0) (m := 200) (fun d hd => ?_) (by rw [List.length_map]; exact hl)).mono (by decide) (by decide)
      obtain ⟨y, hy, rfl⟩ := List.mem_map.mp hd
      have := h y hy
      exact Rb.int (by omega)) (by simp)⟩
theorem ok_pick {l : Int} (h : 0 ≤ l ∧ l ≤ 1000) : RowOk k many (.pick l) :=
  ⟨fun x g' e => (by rw [Row.goal] at e; cases e), rb_items (fun d hd => by
    simp only [List.mem_cons, List.not_mem_nil, or_false] at hd
    rcases hd with rfl | rfl
    · exact rb_s (by decide +kernel) (by decide +kernel)
    · exact rb_i (by omega)) (by simp)⟩
end
theorem pw64 {w : Int} (h : w ≤ 64) : 1 ≤ (1 : Int) * 2 ^ w.toNat ∧ (1 : Int) * 2 ^ w.toNat ≤ 18446744073709551616 := by
  have h1 : (2 : Nat) ^ w.toNat ≤ 2 ^ 64 := Nat.pow_le_pow_right (by decide) (by omega)
  have h2 : 0 < (2 : Nat) ^ w.toNat := Nat.pow_pos (by decide)
  have e : (2 : Int) ^ w.toNat = ((2 ^ w.toNat : Nat) : Int) := by rw [Int.natCast_pow]; rfl
  rw [e, Int.one_mul]
  have : (2 : Nat) ^ 64 = 18446744073709551616 := by decide
  omega
theorem W_goals {n j many w : Nat} {t : List D} {v2 v4 v5 v6 v7 v8 v9 : Option D} {Q : List D → Ev → Prop} (ht : IsT n t) (hn : n ≤ 2000000) (hw : w ≤ 200) (hj : j + 1 < many) (hm : many ≤ 20)
    (q : ∀ (gs : List Int) t', gs.length = w → (∀ g ∈ gs, (j : Int) < g ∧ g < many) → IsT (n + 2 * w) t' → Q (gs.map D.int) [some (.own t'), some (.int many), v2, some (.int (0 + (j : Int))), v4, v5, v6, v7, v8, v9, none]) :
    W2 (compL (gNam 10) dYes
        (dFz (dOp opAdd (dFz (dOp opAdd (dVar 3) (dInt 1))) (dFz (dCall1 (Pd.c_take 2) (rRef 0 (rVal (dOp opSub (dOp opSub (dVar 1) (dVar 3)) (dInt 1)) rNil))))))
        [10] (rng 0 w) [some (.own t), some (.int many), v2, some (.int (0 + (j : Int))), v4, v5, v6, v7, v8, v9, none]) Q := by
  refine W_compL (fun pre acc ρ => ∃ (gs : List Int) (t : List D), acc = gs.map D.int ∧ gs.length = pre.length ∧ (∀ g ∈ gs, (j : Int) < g ∧ g < many) ∧ IsT (n + 2 * pre.length) t ∧ ρ = [some (.own t), some (.int many), v2, some (.int (0 + (j : Int))), v4, v5, v6, v7, v8, v9, none]) ⟨[], t, rfl, rfl, (fun g h => by cases h), ht, rfl⟩ (fun pre d post acc ρ e hi => ?_) (fun acc ρ hi => ?_)
  · obtain ⟨gs, t, rfl, hlen, hg, ht, rfl⟩ := hi
    have hp : pre.length < w := by
      have := congrArg List.length e
      rw [rng_len, List.length_append, List.length_cons] at this
      omega
    simp! [↓W_newK, ↓W_newT, ↓W_kVal, ↓W_kTup, ↓W_keyI, ↓W_keyS, ↓W_keys0, ↓W_keysC, ↓W_dgetK, ↓W_dgetT, ↓W_dputK, ↓W_dputT, ↓W_dg, ↓W_dgE, ↓W_din, ↓W_dg2, ↓W_dput, ↓W_dupd, ↓W_dictP, ↓W_tupO, ↓W_ixF, ↓W_own2, ↓W_setixN, ↓W_ownT, ↓W_setsl, ↓W_augix, ↓W_owApp, ↓OnDict_o, ↓OnDict_i, ↓OnOdx_o, ↓OnDix_i, ↓OnOtp_o, ↓Frz_odx, ↓Frz_dix, ↓Frz_otp, ↓W_mulT, ↓W_dropX, ↓W_isiO, ↓W_noX, ↓NX_nx, ↓NX_bk, ↓NX_ct, ↓NX_rt, ↓NXd_int, ↓NXd_bl, ↓NXd_str, ↓NXd_non, ↓NXd_tup, ↓NXd_lst, ↓NXd_own, ↓NXd_otp, ↓W_raise1, ↓W_raise3, ↓W_setX, ↓W_setXF, ↓OnX_exc, ↓OnX_int, ↓OnX_bl, ↓OnX_str, ↓OnX_non, ↓OnX_tup, ↓OnX_lst, ↓OnX_own, ↓OnX_otp, ↓W_tryAs, ↓W_tryO, ↓WX_nx, ↓WX_bk, ↓WX_ct, ↓WX_rt, ↓OnXc_exc, ↓OnXc_int, ↓OnXc_bl, ↓OnXc_str, ↓OnXc_non, ↓OnXc_tup, ↓OnXc_lst, ↓OnXc_own, ↓OnXc_otp, ↓WN_nx, ↓Del_0, ↓Del_s, ↓Frz_exc, ↓W_isX, ↓W_fldX, ↓W_isNX, pu_dix, pu_kt, pu_exc]
    refine W_take ht (by omega) (by omega) (by omega) fun g t1 a1 b1 ht1 => ?_
    simp! [↓W_newK, ↓W_newT, ↓W_kVal, ↓W_kTup, ↓W_keyI, ↓W_keyS, ↓W_keys0, ↓W_keysC, ↓W_dgetK, ↓W_dgetT, ↓W_dputK, ↓W_dputT, ↓W_dg, ↓W_dgE, ↓W_din, ↓W_dg2, ↓W_dput, ↓W_dupd, ↓W_dictP, ↓W_tupO, ↓W_ixF, ↓W_own2, ↓W_setixN, ↓W_ownT, ↓W_setsl, ↓W_augix, ↓W_owApp, ↓OnDict_o, ↓OnDict_i, ↓OnOdx_o, ↓OnDix_i, ↓OnOtp_o, ↓Frz_odx, ↓Frz_dix, ↓Frz_otp, ↓W_mulT, ↓W_dropX, ↓W_isiO, ↓W_noX, ↓NX_nx, ↓NX_bk, ↓NX_ct, ↓NX_rt, ↓NXd_int, ↓NXd_bl, ↓NXd_str, ↓NXd_non, ↓NXd_tup, ↓NXd_lst, ↓NXd_own, ↓NXd_otp, ↓W_raise1, ↓W_raise3, ↓W_setX, ↓W_setXF, ↓OnX_exc, ↓OnX_int, ↓OnX_bl, ↓OnX_str, ↓OnX_non, ↓OnX_tup, ↓OnX_lst, ↓OnX_own, ↓OnX_otp, ↓W_tryAs, ↓W_tryO, ↓WX_nx, ↓WX_bk, ↓WX_ct, ↓WX_rt, ↓OnXc_exc, ↓OnXc_int, ↓OnXc_bl, ↓OnXc_str, ↓OnXc_non, ↓OnXc_tup, ↓OnXc_lst, ↓OnXc_own, ↓OnXc_otp, ↓WN_nx, ↓Del_0, ↓Del_s, ↓Frz_exc, ↓W_isX, ↓W_fldX, ↓W_isNX, pu_dix, pu_kt, pu_exc]
    refine ⟨gs ++ [0 + (j : Int) + 1 + g], t1, by rw [List.map_append]; rfl, by rw [List.length_append, List.length_append, hlen]; rfl, fun y hy => ?_, ht1.mono (by rw [List.length_append, List.length_singleton]; omega), rfl⟩
    rcases List.mem_append.mp hy with z | z
    · exact hg y z
    · rw [List.mem_singleton.mp z]; omega
  · obtain ⟨gs, t, rfl, hlen, hg, ht, rfl⟩ := hi
    rw [rng_len] at hlen ht
    exact q gs t hlen hg ht
theorem W_tupT {ds : List D} {Q : D → Prop} : W (biTuple [.lst ds]) Q = Q (.tup ds) := W_some
theorem W_rows {n : Nat} {t : List D} {many : Nat} {Q : D → List D → Prop} (ht : IsT n t) (hn : n ≤ 1000000) (hm : 1 ≤ many) (hm2 : many ≤ 20) (q : ∀ rows t', OkRows rows → (∀ r ∈ rows, Rb 1005 2 r.toD) → rows.length = many → IsT (n + 20000) t' → Q (.own (rows.map Row.toD)) [.own t']) : W2 (c_law_rows [.own t, .int many]) Q := by
  unfold c_law_rows g_law_rows
  simp! [↓W_newK, ↓W_newT, ↓W_kVal, ↓W_kTup, ↓W_keyI, ↓W_keyS, ↓W_keys0, ↓W_keysC, ↓W_dgetK, ↓W_dgetT, ↓W_dputK, ↓W_dputT, ↓W_dg, ↓W_dgE, ↓W_din, ↓W_dg2, ↓W_dput, ↓W_dupd, ↓W_dictP, ↓W_tupO, ↓W_ixF, ↓W_own2, ↓W_setixN, ↓W_ownT, ↓W_setsl, ↓W_augix, ↓W_owApp, ↓OnDict_o, ↓OnDict_i, ↓OnOdx_o, ↓OnDix_i, ↓OnOtp_o, ↓Frz_odx, ↓Frz_dix, ↓Frz_otp, ↓W_mulT, ↓W_dropX, ↓W_isiO, ↓W_noX, ↓NX_nx, ↓NX_bk, ↓NX_ct, ↓NX_rt, ↓NXd_int, ↓NXd_bl, ↓NXd_str, ↓NXd_non, ↓NXd_tup, ↓NXd_lst, ↓NXd_own, ↓NXd_otp, ↓W_raise1, ↓W_raise3, ↓W_setX, ↓W_setXF, ↓OnX_exc, ↓OnX_int, ↓OnX_bl, ↓OnX_str, ↓OnX_non, ↓OnX_tup, ↓OnX_lst, ↓OnX_own, ↓OnX_otp, ↓W_tryAs, ↓W_tryO, ↓WX_nx, ↓WX_bk, ↓WX_ct, ↓WX_rt, ↓OnXc_exc, ↓OnXc_int, ↓OnXc_bl, ↓OnXc_str, ↓OnXc_non, ↓OnXc_tup, ↓OnXc_lst, ↓OnXc_own, ↓OnXc_otp, ↓WN_nx, ↓Del_0, ↓Del_s, ↓Frz_exc, ↓W_isX, ↓W_fldX, ↓W_isNX, pu_dix, pu_kt, pu_exc]
  refine ⟨⟨by omega, by omega⟩, W_forR (fun j ρ => ∃ (rs : List Row) (t : List D) (x3 x4 x5 x6 x7 x8 x9 x10 : Option D), ρ = [some (.own t), some (.int many), some (.own (rs.map Row.toD)), x3, x4, x5, x6, x7, x8, x9, none] ∧ rs.length = j ∧ IsT (n + 500 * j) t ∧ ∀ (k : Nat) r, rs[k]? = some r → RowOk k many r)
    ⟨[], t, _, _, _, _, _, _, _, none, rfl, rfl, ht, fun k r h => by simp at h⟩ (fun j ρ hj hi => ?_) (fun ρ hi => ?_)⟩
  · obtain ⟨rs, t, x3, x4, x5, x6, x7, x8, x9, x10, rfl, hlen, ht, hok⟩ := hi
    have hj2 : j + 1 < many := by omega
    simp! [↓W_newK, ↓W_newT, ↓W_kVal, ↓W_kTup, ↓W_keyI, ↓W_keyS, ↓W_keys0, ↓W_keysC, ↓W_dgetK, ↓W_dgetT, ↓W_dputK, ↓W_dputT, ↓W_dg, ↓W_dgE, ↓W_din, ↓W_dg2, ↓W_dput, ↓W_dupd, ↓W_dictP, ↓W_tupO, ↓W_ixF, ↓W_own2, ↓W_setixN, ↓W_ownT, ↓W_setsl, ↓W_augix, ↓W_owApp, ↓OnDict_o, ↓OnDict_i, ↓OnOdx_o, ↓OnDix_i, ↓OnOtp_o, ↓Frz_odx, ↓Frz_dix, ↓Frz_otp, ↓W_mulT, ↓W_dropX, ↓W_isiO, ↓W_noX, ↓NX_nx, ↓NX_bk, ↓NX_ct, ↓NX_rt, ↓NXd_int, ↓NXd_bl, ↓NXd_str, ↓NXd_non, ↓NXd_tup, ↓NXd_lst, ↓NXd_own, ↓NXd_otp, ↓W_raise1, ↓W_raise3, ↓W_setX, ↓W_setXF, ↓OnX_exc, ↓OnX_int, ↓OnX_bl, ↓OnX_str, ↓OnX_non, ↓OnX_tup, ↓OnX_lst, ↓OnX_own, ↓OnX_otp, ↓W_tryAs, ↓W_tryO, ↓WX_nx, ↓WX_bk, ↓WX_ct, ↓WX_rt, ↓OnXc_exc, ↓OnXc_int, ↓OnXc_bl, ↓OnXc_str, ↓OnXc_non, ↓OnXc_tup, ↓OnXc_lst, ↓OnXc_own, ↓OnXc_otp, ↓WN_nx, ↓Del_0, ↓Del_s, ↓Frz_exc, ↓W_isX, ↓W_fldX, ↓W_isNX, pu_dix, pu_kt, pu_exc]
    refine W_take ht (by omega) (by omega) (by omega) fun g t1 a1 b1 ht1 => ?_
    simp! [↓W_newK, ↓W_newT, ↓W_kVal, ↓W_kTup, ↓W_keyI, ↓W_keyS, ↓W_keys0, ↓W_keysC, ↓W_dgetK, ↓W_dgetT, ↓W_dputK, ↓W_dputT, ↓W_dg, ↓W_dgE, ↓W_din, ↓W_dg2, ↓W_dput, ↓W_dupd, ↓W_dictP, ↓W_tupO, ↓W_ixF, ↓W_own2, ↓W_setixN, ↓W_ownT, ↓W_setsl, ↓W_augix, ↓W_owApp, ↓OnDict_o, ↓OnDict_i, ↓OnOdx_o, ↓OnDix_i, ↓OnOtp_o, ↓Frz_odx, ↓Frz_dix, ↓Frz_otp, ↓W_mulT, ↓W_dropX, ↓W_isiO, ↓W_noX, ↓NX_nx, ↓NX_bk, ↓NX_ct, ↓NX_rt, ↓NXd_int, ↓NXd_bl, ↓NXd_str, ↓NXd_non, ↓NXd_tup, ↓NXd_lst, ↓NXd_own, ↓NXd_otp, ↓W_raise1, ↓W_raise3, ↓W_setX, ↓W_setXF, ↓OnX_exc, ↓OnX_int, ↓OnX_bl, ↓OnX_str, ↓OnX_non, ↓OnX_tup, ↓OnX_lst, ↓OnX_own, ↓OnX_otp, ↓W_tryAs, ↓W_tryO, ↓WX_nx, ↓WX_bk, ↓WX_ct, ↓WX_rt, ↓OnXc_exc, ↓OnXc_int, ↓OnXc_bl, ↓OnXc_str, ↓OnXc_non, ↓OnXc_tup, ↓OnXc_lst, ↓OnXc_own, ↓OnXc_otp, ↓WN_nx, ↓Del_0, ↓Del_s, ↓Frz_exc, ↓W_isX, ↓W_fldX, ↓W_isNX, pu_dix, pu_kt, pu_exc]
    refine W_take ht1 (by omega) (by decide) (by decide) fun m t2 a2 b2 ht2 => ?_
    simp! [↓W_newK, ↓W_newT, ↓W_kVal, ↓W_kTup, ↓W_keyI, ↓W_keyS, ↓W_keys0, ↓W_keysC, ↓W_dgetK, ↓W_dgetT, ↓W_dputK, ↓W_dputT, ↓W_dg, ↓W_dgE, ↓W_din, ↓W_dg2, ↓W_dput, ↓W_dupd, ↓W_dictP, ↓W_tupO, ↓W_ixF, ↓W_own2, ↓W_setixN, ↓W_ownT, ↓W_setsl, ↓W_augix, ↓W_owApp, ↓OnDict_o, ↓OnDict_i, ↓OnOdx_o, ↓OnDix_i, ↓OnOtp_o, ↓Frz_odx, ↓Frz_dix, ↓Frz_otp, ↓W_mulT, ↓W_dropX, ↓W_isiO, ↓W_noX, ↓NX_nx, ↓NX_bk, ↓NX_ct, ↓NX_rt, ↓NXd_int, ↓NXd_bl, ↓NXd_str, ↓NXd_non, ↓NXd_tup, ↓NXd_lst, ↓NXd_own, ↓NXd_otp, ↓W_raise1, ↓W_raise3, ↓W_setX, ↓W_setXF, ↓OnX_exc, ↓OnX_int, ↓OnX_bl, ↓OnX_str, ↓OnX_non, ↓OnX_tup, ↓OnX_lst, ↓OnX_own, ↓OnX_otp, ↓W_tryAs, ↓W_tryO, ↓WX_nx, ↓WX_bk, ↓WX_ct, ↓WX_rt, ↓OnXc_exc, ↓OnXc_int, ↓OnXc_bl, ↓OnXc_str, ↓OnXc_non, ↓OnXc_tup, ↓OnXc_lst, ↓OnXc_own, ↓OnXc_otp, ↓WN_nx, ↓Del_0, ↓Del_s, ↓Frz_exc, ↓W_isX, ↓W_fldX, ↓W_isNX, pu_dix, pu_kt, pu_exc]
    refine W_take ht2 (by omega) (by decide) (by decide) fun w t3 a3 b3 ht3 => ?_
    simp! [↓W_newK, ↓W_newT, ↓W_kVal, ↓W_kTup, ↓W_keyI, ↓W_keyS, ↓W_keys0, ↓W_keysC, ↓W_dgetK, ↓W_dgetT, ↓W_dputK, ↓W_dputT, ↓W_dg, ↓W_dgE, ↓W_din, ↓W_dg2, ↓W_dput, ↓W_dupd, ↓W_dictP, ↓W_tupO, ↓W_ixF, ↓W_own2, ↓W_setixN, ↓W_ownT, ↓W_setsl, ↓W_augix, ↓W_owApp, ↓OnDict_o, ↓OnDict_i, ↓OnOdx_o, ↓OnDix_i, ↓OnOtp_o, ↓Frz_odx, ↓Frz_dix, ↓Frz_otp, ↓W_mulT, ↓W_dropX, ↓W_isiO, ↓W_noX, ↓NX_nx, ↓NX_bk, ↓NX_ct, ↓NX_rt, ↓NXd_int, ↓NXd_bl, ↓NXd_str, ↓NXd_non, ↓NXd_tup, ↓NXd_lst, ↓NXd_own, ↓NXd_otp, ↓W_raise1, ↓W_raise3, ↓W_setX, ↓W_setXF, ↓OnX_exc, ↓OnX_int, ↓OnX_bl, ↓OnX_str, ↓OnX_non, ↓OnX_tup, ↓OnX_lst, ↓OnX_own, ↓OnX_otp, ↓W_tryAs, ↓W_tryO, ↓WX_nx, ↓WX_bk, ↓WX_ct, ↓WX_rt, ↓OnXc_exc, ↓OnXc_int, ↓OnXc_bl, ↓OnXc_str, ↓OnXc_non, ↓OnXc_tup, ↓OnXc_lst, ↓OnXc_own, ↓OnXc_otp, ↓WN_nx, ↓Del_0, ↓Del_s, ↓Frz_exc, ↓W_isX, ↓W_fldX, ↓W_isNX, pu_dix, pu_kt, pu_exc, List.length_map]
    have cont : ∀ (r : Row) (y3 y4 y5 y6 y7 y8 y9 : Option D) (t' : List D) (c : Nat), c ≤ 500 → IsT (n + 500 * j + c) t' → RowOk j many r → ∃ (rs_1 : List Row) (t : List D) (x3 x4 x5 x6 x7 x8 x9 x10 : Option D), [some (.own t'), some (.int many), some (.own (rs.map Row.toD ++ [r.toD])), y3, y4, y5, y6, y7, y8, y9, none] = [some (.own t), some (.int many), some (.own (rs_1.map Row.toD)), x3, x4, x5, x6, x7, x8, x9, none] ∧ rs_1.length = j + 1 ∧ IsT (n + 500 * (j + 1)) t ∧ ∀ (k : Nat) r, rs_1[k]? = some r → RowOk k many r := fun r y3 y4 y5 y6 y7 y8 y9 t' c hc ht' hr =>
      ⟨rs ++ [r], t', _, _, _, _, _, _, _, none, by rw [List.map_append]; rfl, by rw [List.length_append, hlen]; rfl, ht'.mono (by omega), fun k r' h => by
        rcases Nat.lt_or_ge k rs.length with z | z
        · rw [List.getElem?_append_left z] at h
          exact hok k r' h
        · rw [List.getElem?_append_right z] at h
          have hk : k - rs.length = 0 := by
            rcases Nat.eq_zero_or_pos (k - rs.length) with y | y
            · exact y
            · rw [List.getElem?_eq_none (by simp; omega)] at h; cases h
          rw [hk] at h
          cases h
          rw [show k = j by omega]
          exact hr⟩
    have up : ∀ g', g' = 0 + (j : Int) + 1 + g → (j : Int) < g' ∧ g' < many := fun g' e => by omega
    have up := up _ rfl
    refine ⟨fun _ => ⟨by omega, cont (.is _ _) _ _ _ _ _ _ _ _ 500 (by decide) (ht3.mono (by omega)) (ok_is up hm2 (by omega))⟩, fun w0 => ⟨fun w1 => ?_, fun w1 => ⟨fun w2 => ⟨by omega, cont (.below _ _) _ _ _ _ _ _ _ _ 500 (by decide) (ht3.mono (by omega)) (ok_below up hm2 (by omega))⟩, fun w2 => ⟨fun w3 => ?_, fun w3 => ⟨fun w4 => ?_, fun w4 => ?_⟩⟩⟩⟩⟩
    · refine W_take ht3 (by omega) (by decide) (by decide) fun e t4 a4 b4 ht4 => ?_
      simp! [↓W_newK, ↓W_newT, ↓W_kVal, ↓W_kTup, ↓W_keyI, ↓W_keyS, ↓W_keys0, ↓W_keysC, ↓W_dgetK, ↓W_dgetT, ↓W_dputK, ↓W_dputT, ↓W_dg, ↓W_dgE, ↓W_din, ↓W_dg2, ↓W_dput, ↓W_dupd, ↓W_dictP, ↓W_tupO, ↓W_ixF, ↓W_own2, ↓W_setixN, ↓W_ownT, ↓W_setsl, ↓W_augix, ↓W_owApp, ↓OnDict_o, ↓OnDict_i, ↓OnOdx_o, ↓OnDix_i, ↓OnOtp_o, ↓Frz_odx, ↓Frz_dix, ↓Frz_otp, ↓W_mulT, ↓W_dropX, ↓W_isiO, ↓W_noX, ↓NX_nx, ↓NX_bk, ↓NX_ct, ↓NX_rt, ↓NXd_int, ↓NXd_bl, ↓NXd_str, ↓NXd_non, ↓NXd_tup, ↓NXd_lst, ↓NXd_own, ↓NXd_otp, ↓W_raise1, ↓W_raise3, ↓W_setX, ↓W_setXF, ↓OnX_exc, ↓OnX_int, ↓OnX_bl, ↓OnX_str, ↓OnX_non, ↓OnX_tup, ↓OnX_lst, ↓OnX_own, ↓OnX_otp, ↓W_tryAs, ↓W_tryO, ↓WX_nx, ↓WX_bk, ↓WX_ct, ↓WX_rt, ↓OnXc_exc, ↓OnXc_int, ↓OnXc_bl, ↓OnXc_str, ↓OnXc_non, ↓OnXc_tup, ↓OnXc_lst, ↓OnXc_own, ↓OnXc_otp, ↓WN_nx, ↓Del_0, ↓Del_s, ↓Frz_exc, ↓W_isX, ↓W_fldX, ↓W_isNX, pu_dix, pu_kt, pu_exc]
      exact ⟨by omega, cont (.within _ _ _) _ _ _ _ _ _ _ _ 500 (by decide) (ht4.mono (by omega)) (ok_within up hm2 (by omega) (by omega))⟩
    · refine W_take ht3 (by omega) (by decide) (by decide) fun e t4 a4 b4 ht4 => ?_
      simp! [↓W_newK, ↓W_newT, ↓W_kVal, ↓W_kTup, ↓W_keyI, ↓W_keyS, ↓W_keys0, ↓W_keysC, ↓W_dgetK, ↓W_dgetT, ↓W_dputK, ↓W_dputT, ↓W_dg, ↓W_dgE, ↓W_din, ↓W_dg2, ↓W_dput, ↓W_dupd, ↓W_dictP, ↓W_tupO, ↓W_ixF, ↓W_own2, ↓W_setixN, ↓W_ownT, ↓W_setsl, ↓W_augix, ↓W_owApp, ↓OnDict_o, ↓OnDict_i, ↓OnOdx_o, ↓OnDix_i, ↓OnOtp_o, ↓Frz_odx, ↓Frz_dix, ↓Frz_otp, ↓W_mulT, ↓W_dropX, ↓W_isiO, ↓W_noX, ↓NX_nx, ↓NX_bk, ↓NX_ct, ↓NX_rt, ↓NXd_int, ↓NXd_bl, ↓NXd_str, ↓NXd_non, ↓NXd_tup, ↓NXd_lst, ↓NXd_own, ↓NXd_otp, ↓W_raise1, ↓W_raise3, ↓W_setX, ↓W_setXF, ↓OnX_exc, ↓OnX_int, ↓OnX_bl, ↓OnX_str, ↓OnX_non, ↓OnX_tup, ↓OnX_lst, ↓OnX_own, ↓OnX_otp, ↓W_tryAs, ↓W_tryO, ↓WX_nx, ↓WX_bk, ↓WX_ct, ↓WX_rt, ↓OnXc_exc, ↓OnXc_int, ↓OnXc_bl, ↓OnXc_str, ↓OnXc_non, ↓OnXc_tup, ↓OnXc_lst, ↓OnXc_own, ↓OnXc_otp, ↓WN_nx, ↓Del_0, ↓Del_s, ↓Frz_exc, ↓W_isX, ↓W_fldX, ↓W_isNX, pu_dix, pu_kt, pu_exc]
      refine W_take ht4 (by omega) (by decide) (by decide) fun f t5 a5 b5 ht5 => ?_
      simp! [↓W_newK, ↓W_newT, ↓W_kVal, ↓W_kTup, ↓W_keyI, ↓W_keyS, ↓W_keys0, ↓W_keysC, ↓W_dgetK, ↓W_dgetT, ↓W_dputK, ↓W_dputT, ↓W_dg, ↓W_dgE, ↓W_din, ↓W_dg2, ↓W_dput, ↓W_dupd, ↓W_dictP, ↓W_tupO, ↓W_ixF, ↓W_own2, ↓W_setixN, ↓W_ownT, ↓W_setsl, ↓W_augix, ↓W_owApp, ↓OnDict_o, ↓OnDict_i, ↓OnOdx_o, ↓OnDix_i, ↓OnOtp_o, ↓Frz_odx, ↓Frz_dix, ↓Frz_otp, ↓W_mulT, ↓W_dropX, ↓W_isiO, ↓W_noX, ↓NX_nx, ↓NX_bk, ↓NX_ct, ↓NX_rt, ↓NXd_int, ↓NXd_bl, ↓NXd_str, ↓NXd_non, ↓NXd_tup, ↓NXd_lst, ↓NXd_own, ↓NXd_otp, ↓W_raise1, ↓W_raise3, ↓W_setX, ↓W_setXF, ↓OnX_exc, ↓OnX_int, ↓OnX_bl, ↓OnX_str, ↓OnX_non, ↓OnX_tup, ↓OnX_lst, ↓OnX_own, ↓OnX_otp, ↓W_tryAs, ↓W_tryO, ↓WX_nx, ↓WX_bk, ↓WX_ct, ↓WX_rt, ↓OnXc_exc, ↓OnXc_int, ↓OnXc_bl, ↓OnXc_str, ↓OnXc_non, ↓OnXc_tup, ↓OnXc_lst, ↓OnXc_own, ↓OnXc_otp, ↓WN_nx, ↓Del_0, ↓Del_s, ↓Frz_exc, ↓W_isX, ↓W_fldX, ↓W_isNX, pu_dix, pu_kt, pu_exc]
      refine ⟨⟨by omega, by decide⟩, ?_⟩
      rcases (show f / 2 = 0 ∨ f / 2 = 1 by omega) with e1 | e1 <;> rw [e1]
      · simp! [↓W_newK, ↓W_newT, ↓W_kVal, ↓W_kTup, ↓W_keyI, ↓W_keyS, ↓W_keys0, ↓W_keysC, ↓W_dgetK, ↓W_dgetT, ↓W_dputK, ↓W_dputT, ↓W_dg, ↓W_dgE, ↓W_din, ↓W_dg2, ↓W_dput, ↓W_dupd, ↓W_dictP, ↓W_tupO, ↓W_ixF, ↓W_own2, ↓W_setixN, ↓W_ownT, ↓W_setsl, ↓W_augix, ↓W_owApp, ↓OnDict_o, ↓OnDict_i, ↓OnOdx_o, ↓OnDix_i, ↓OnOtp_o, ↓Frz_odx, ↓Frz_dix, ↓Frz_otp, ↓W_mulT, ↓W_dropX, ↓W_isiO, ↓W_noX, ↓NX_nx, ↓NX_bk, ↓NX_ct, ↓NX_rt, ↓NXd_int, ↓NXd_bl, ↓NXd_str, ↓NXd_non, ↓NXd_tup, ↓NXd_lst, ↓NXd_own, ↓NXd_otp, ↓W_raise1, ↓W_raise3, ↓W_setX, ↓W_setXF, ↓OnX_exc, ↓OnX_int, ↓OnX_bl, ↓OnX_str, ↓OnX_non, ↓OnX_tup, ↓OnX_lst, ↓OnX_own, ↓OnX_otp, ↓W_tryAs, ↓W_tryO, ↓WX_nx, ↓WX_bk, ↓WX_ct, ↓WX_rt, ↓OnXc_exc, ↓OnXc_int, ↓OnXc_bl, ↓OnXc_str, ↓OnXc_non, ↓OnXc_tup, ↓OnXc_lst, ↓OnXc_own, ↓OnXc_otp, ↓WN_nx, ↓Del_0, ↓Del_s, ↓Frz_exc, ↓W_isX, ↓W_fldX, ↓W_isNX, pu_dix, pu_kt, pu_exc]
        refine ⟨⟨by omega, by omega, by decide⟩, W_take ht5 (by omega) (pw64 (by omega)).1 (pw64 (by omega)).2 fun c u6 a6 b6 ht6 => ?_⟩
        have := (pw64 (w := 1 + e) (by omega)).2
        simp! [↓W_newK, ↓W_newT, ↓W_kVal, ↓W_kTup, ↓W_keyI, ↓W_keyS, ↓W_keys0, ↓W_keysC, ↓W_dgetK, ↓W_dgetT, ↓W_dputK, ↓W_dputT, ↓W_dg, ↓W_dgE, ↓W_din, ↓W_dg2, ↓W_dput, ↓W_dupd, ↓W_dictP, ↓W_tupO, ↓W_ixF, ↓W_own2, ↓W_setixN, ↓W_ownT, ↓W_setsl, ↓W_augix, ↓W_owApp, ↓OnDict_o, ↓OnDict_i, ↓OnOdx_o, ↓OnDix_i, ↓OnOtp_o, ↓Frz_odx, ↓Frz_dix, ↓Frz_otp, ↓W_mulT, ↓W_dropX, ↓W_isiO, ↓W_noX, ↓NX_nx, ↓NX_bk, ↓NX_ct, ↓NX_rt, ↓NXd_int, ↓NXd_bl, ↓NXd_str, ↓NXd_non, ↓NXd_tup, ↓NXd_lst, ↓NXd_own, ↓NXd_otp, ↓W_raise1, ↓W_raise3, ↓W_setX, ↓W_setXF, ↓OnX_exc, ↓OnX_int, ↓OnX_bl, ↓OnX_str, ↓OnX_non, ↓OnX_tup, ↓OnX_lst, ↓OnX_own, ↓OnX_otp, ↓W_tryAs, ↓W_tryO, ↓WX_nx, ↓WX_bk, ↓WX_ct, ↓WX_rt, ↓OnXc_exc, ↓OnXc_int, ↓OnXc_bl, ↓OnXc_str, ↓OnXc_non, ↓OnXc_tup, ↓OnXc_lst, ↓OnXc_own, ↓OnXc_otp, ↓WN_nx, ↓Del_0, ↓Del_s, ↓Frz_exc, ↓W_isX, ↓W_fldX, ↓W_isNX, pu_dix, pu_kt, pu_exc, List.length_map]
        exact ⟨by omega, cont (.mask _ _ _ _) _ _ _ _ _ _ _ _ 500 (by decide) (ht6.mono (by omega)) (ok_mask up hm2 (by omega) (by omega) (by omega))⟩
      · simp! [↓W_newK, ↓W_newT, ↓W_kVal, ↓W_kTup, ↓W_keyI, ↓W_keyS, ↓W_keys0, ↓W_keysC, ↓W_dgetK, ↓W_dgetT, ↓W_dputK, ↓W_dputT, ↓W_dg, ↓W_dgE, ↓W_din, ↓W_dg2, ↓W_dput, ↓W_dupd, ↓W_dictP, ↓W_tupO, ↓W_ixF, ↓W_own2, ↓W_setixN, ↓W_ownT, ↓W_setsl, ↓W_augix, ↓W_owApp, ↓OnDict_o, ↓OnDict_i, ↓OnOdx_o, ↓OnDix_i, ↓OnOtp_o, ↓Frz_odx, ↓Frz_dix, ↓Frz_otp, ↓W_mulT, ↓W_dropX, ↓W_isiO, ↓W_noX, ↓NX_nx, ↓NX_bk, ↓NX_ct, ↓NX_rt, ↓NXd_int, ↓NXd_bl, ↓NXd_str, ↓NXd_non, ↓NXd_tup, ↓NXd_lst, ↓NXd_own, ↓NXd_otp, ↓W_raise1, ↓W_raise3, ↓W_setX, ↓W_setXF, ↓OnX_exc, ↓OnX_int, ↓OnX_bl, ↓OnX_str, ↓OnX_non, ↓OnX_tup, ↓OnX_lst, ↓OnX_own, ↓OnX_otp, ↓W_tryAs, ↓W_tryO, ↓WX_nx, ↓WX_bk, ↓WX_ct, ↓WX_rt, ↓OnXc_exc, ↓OnXc_int, ↓OnXc_bl, ↓OnXc_str, ↓OnXc_non, ↓OnXc_tup, ↓OnXc_lst, ↓OnXc_own, ↓OnXc_otp, ↓WN_nx, ↓Del_0, ↓Del_s, ↓Frz_exc, ↓W_isX, ↓W_fldX, ↓W_isNX, pu_dix, pu_kt, pu_exc]
        refine ⟨by decide, W_take ht5 (by omega) (by decide) (by decide) fun c u6 a6 b6 ht6 => ?_⟩
        have := (pw64 (w := 64) (by omega)).2
        simp! [↓W_newK, ↓W_newT, ↓W_kVal, ↓W_kTup, ↓W_keyI, ↓W_keyS, ↓W_keys0, ↓W_keysC, ↓W_dgetK, ↓W_dgetT, ↓W_dputK, ↓W_dputT, ↓W_dg, ↓W_dgE, ↓W_din, ↓W_dg2, ↓W_dput, ↓W_dupd, ↓W_dictP, ↓W_tupO, ↓W_ixF, ↓W_own2, ↓W_setixN, ↓W_ownT, ↓W_setsl, ↓W_augix, ↓W_owApp, ↓OnDict_o, ↓OnDict_i, ↓OnOdx_o, ↓OnDix_i, ↓OnOtp_o, ↓Frz_odx, ↓Frz_dix, ↓Frz_otp, ↓W_mulT, ↓W_dropX, ↓W_isiO, ↓W_noX, ↓NX_nx, ↓NX_bk, ↓NX_ct, ↓NX_rt, ↓NXd_int, ↓NXd_bl, ↓NXd_str, ↓NXd_non, ↓NXd_tup, ↓NXd_lst, ↓NXd_own, ↓NXd_otp, ↓W_raise1, ↓W_raise3, ↓W_setX, ↓W_setXF, ↓OnX_exc, ↓OnX_int, ↓OnX_bl, ↓OnX_str, ↓OnX_non, ↓OnX_tup, ↓OnX_lst, ↓OnX_own, ↓OnX_otp, ↓W_tryAs, ↓W_tryO, ↓WX_nx, ↓WX_bk, ↓WX_ct, ↓WX_rt, ↓OnXc_exc, ↓OnXc_int, ↓OnXc_bl, ↓OnXc_str, ↓OnXc_non, ↓OnXc_tup, ↓OnXc_lst, ↓OnXc_own, ↓OnXc_otp, ↓WN_nx, ↓Del_0, ↓Del_s, ↓Frz_exc, ↓W_isX, ↓W_fldX, ↓W_isNX, pu_dix, pu_kt, pu_exc, List.length_map]
        exact ⟨by omega, cont (.mask _ _ _ _) _ _ _ _ _ _ _ _ 500 (by decide) (ht6.mono (by omega)) (ok_mask up hm2 (by omega) (by omega) (by omega))⟩
    · refine W_take ht3 (by omega) (by decide) (by decide) fun e t4 a4 b4 ht4 => ?_
      simp! [↓W_newK, ↓W_newT, ↓W_kVal, ↓W_kTup, ↓W_keyI, ↓W_keyS, ↓W_keys0, ↓W_keysC, ↓W_dgetK, ↓W_dgetT, ↓W_dputK, ↓W_dputT, ↓W_dg, ↓W_dgE, ↓W_din, ↓W_dg2, ↓W_dput, ↓W_dupd, ↓W_dictP, ↓W_tupO, ↓W_ixF, ↓W_own2, ↓W_setixN, ↓W_ownT, ↓W_setsl, ↓W_augix, ↓W_owApp, ↓OnDict_o, ↓OnDict_i, ↓OnOdx_o, ↓OnDix_i, ↓OnOtp_o, ↓Frz_odx, ↓Frz_dix, ↓Frz_otp, ↓W_mulT, ↓W_dropX, ↓W_isiO, ↓W_noX, ↓NX_nx, ↓NX_bk, ↓NX_ct, ↓NX_rt, ↓NXd_int, ↓NXd_bl, ↓NXd_str, ↓NXd_non, ↓NXd_tup, ↓NXd_lst, ↓NXd_own, ↓NXd_otp, ↓W_raise1, ↓W_raise3, ↓W_setX, ↓W_setXF, ↓OnX_exc, ↓OnX_int, ↓OnX_bl, ↓OnX_str, ↓OnX_non, ↓OnX_tup, ↓OnX_lst, ↓OnX_own, ↓OnX_otp, ↓W_tryAs, ↓W_tryO, ↓WX_nx, ↓WX_bk, ↓WX_ct, ↓WX_rt, ↓OnXc_exc, ↓OnXc_int, ↓OnXc_bl, ↓OnXc_str, ↓OnXc_non, ↓OnXc_tup, ↓OnXc_lst, ↓OnXc_own, ↓OnXc_otp, ↓WN_nx, ↓Del_0, ↓Del_s, ↓Frz_exc, ↓W_isX, ↓W_fldX, ↓W_isNX, pu_dix, pu_kt, pu_exc]
      refine W_take ht4 (by omega) (by decide) (by decide) fun f t5 a5 b5 ht5 => ?_
      simp! [↓W_newK, ↓W_newT, ↓W_kVal, ↓W_kTup, ↓W_keyI, ↓W_keyS, ↓W_keys0, ↓W_keysC, ↓W_dgetK, ↓W_dgetT, ↓W_dputK, ↓W_dputT, ↓W_dg, ↓W_dgE, ↓W_din, ↓W_dg2, ↓W_dput, ↓W_dupd, ↓W_dictP, ↓W_tupO, ↓W_ixF, ↓W_own2, ↓W_setixN, ↓W_ownT, ↓W_setsl, ↓W_augix, ↓W_owApp, ↓OnDict_o, ↓OnDict_i, ↓OnOdx_o, ↓OnDix_i, ↓OnOtp_o, ↓Frz_odx, ↓Frz_dix, ↓Frz_otp, ↓W_mulT, ↓W_dropX, ↓W_isiO, ↓W_noX, ↓NX_nx, ↓NX_bk, ↓NX_ct, ↓NX_rt, ↓NXd_int, ↓NXd_bl, ↓NXd_str, ↓NXd_non, ↓NXd_tup, ↓NXd_lst, ↓NXd_own, ↓NXd_otp, ↓W_raise1, ↓W_raise3, ↓W_setX, ↓W_setXF, ↓OnX_exc, ↓OnX_int, ↓OnX_bl, ↓OnX_str, ↓OnX_non, ↓OnX_tup, ↓OnX_lst, ↓OnX_own, ↓OnX_otp, ↓W_tryAs, ↓W_tryO, ↓WX_nx, ↓WX_bk, ↓WX_ct, ↓WX_rt, ↓OnXc_exc, ↓OnXc_int, ↓OnXc_bl, ↓OnXc_str, ↓OnXc_non, ↓OnXc_tup, ↓OnXc_lst, ↓OnXc_own, ↓OnXc_otp, ↓WN_nx, ↓Del_0, ↓Del_s, ↓Frz_exc, ↓W_isX, ↓W_fldX, ↓W_isNX, pu_dix, pu_kt, pu_exc]
      refine ⟨⟨by omega, by decide⟩, ?_⟩
      rcases (show f / 2 = 0 ∨ f / 2 = 1 ∨ f / 2 = 2 by omega) with e1 | e1 | e1 <;> rw [e1]
      · simp! [↓W_newK, ↓W_newT, ↓W_kVal, ↓W_kTup, ↓W_keyI, ↓W_keyS, ↓W_keys0, ↓W_keysC, ↓W_dgetK, ↓W_dgetT, ↓W_dputK, ↓W_dputT, ↓W_dg, ↓W_dgE, ↓W_din, ↓W_dg2, ↓W_dput, ↓W_dupd, ↓W_dictP, ↓W_tupO, ↓W_ixF, ↓W_own2, ↓W_setixN, ↓W_ownT, ↓W_setsl, ↓W_augix, ↓W_owApp, ↓OnDict_o, ↓OnDict_i, ↓OnOdx_o, ↓OnDix_i, ↓OnOtp_o, ↓Frz_odx, ↓Frz_dix, ↓Frz_otp, ↓W_mulT, ↓W_dropX, ↓W_isiO, ↓W_noX, ↓NX_nx, ↓NX_bk, ↓NX_ct, ↓NX_rt, ↓NXd_int, ↓NXd_bl, ↓NXd_str, ↓NXd_non, ↓NXd_tup, ↓NXd_lst, ↓NXd_own, ↓NXd_otp, ↓W_raise1, ↓W_raise3, ↓W_setX, ↓W_setXF, ↓OnX_exc, ↓OnX_int, ↓OnX_bl, ↓OnX_str, ↓OnX_non, ↓OnX_tup, ↓OnX_lst, ↓OnX_own, ↓OnX_otp, ↓W_tryAs, ↓W_tryO, ↓WX_nx, ↓WX_bk, ↓WX_ct, ↓WX_rt, ↓OnXc_exc, ↓OnXc_int, ↓OnXc_bl, ↓OnXc_str, ↓OnXc_non, ↓OnXc_tup, ↓OnXc_lst, ↓OnXc_own, ↓OnXc_otp, ↓WN_nx, ↓Del_0, ↓Del_s, ↓Frz_exc, ↓W_isX, ↓W_fldX, ↓W_isNX, pu_dix, pu_kt, pu_exc]
        refine ⟨⟨by omega, by omega⟩, W_goals (w := (1 + e).toNat) ht5 (by omega) (by omega) hj2 hm2 fun gs t7 hgl hgs ht7 => ?_⟩
        simp! [↓W_newK, ↓W_newT, ↓W_kVal, ↓W_kTup, ↓W_keyI, ↓W_keyS, ↓W_keys0, ↓W_keysC, ↓W_dgetK, ↓W_dgetT, ↓W_dputK, ↓W_dputT, ↓W_dg, ↓W_dgE, ↓W_din, ↓W_dg2, ↓W_dput, ↓W_dupd, ↓W_dictP, ↓W_tupO, ↓W_ixF, ↓W_own2, ↓W_setixN, ↓W_ownT, ↓W_setsl, ↓W_augix, ↓W_owApp, ↓OnDict_o, ↓OnDict_i, ↓OnOdx_o, ↓OnDix_i, ↓OnOtp_o, ↓Frz_odx, ↓Frz_dix, ↓Frz_otp, ↓W_mulT, ↓W_dropX, ↓W_isiO, ↓W_noX, ↓NX_nx, ↓NX_bk, ↓NX_ct, ↓NX_rt, ↓NXd_int, ↓NXd_bl, ↓NXd_str, ↓NXd_non, ↓NXd_tup, ↓NXd_lst, ↓NXd_own, ↓NXd_otp, ↓W_raise1, ↓W_raise3, ↓W_setX, ↓W_setXF, ↓OnX_exc, ↓OnX_int, ↓OnX_bl, ↓OnX_str, ↓OnX_non, ↓OnX_tup, ↓OnX_lst, ↓OnX_own, ↓OnX_otp, ↓W_tryAs, ↓W_tryO, ↓WX_nx, ↓WX_bk, ↓WX_ct, ↓WX_rt, ↓OnXc_exc, ↓OnXc_int, ↓OnXc_bl, ↓OnXc_str, ↓OnXc_non, ↓OnXc_tup, ↓OnXc_lst, ↓OnXc_own, ↓OnXc_otp, ↓WN_nx, ↓Del_0, ↓Del_s, ↓Frz_exc, ↓W_isX, ↓W_fldX, ↓W_isNX, pu_dix, pu_kt, pu_exc, W_tupT]
        refine ⟨by rw [List.length_map]; omega, ?_⟩
        exact ⟨by rw [List.length_map]; omega, cont (.table _ _) _ _ _ _ _ _ _ _ 500 (by decide) (ht7.mono (by omega)) (ok_table hgs hm2 (by omega) (by omega))⟩
      · simp! [↓W_newK, ↓W_newT, ↓W_kVal, ↓W_kTup, ↓W_keyI, ↓W_keyS, ↓W_keys0, ↓W_keysC, ↓W_dgetK, ↓W_dgetT, ↓W_dputK, ↓W_dputT, ↓W_dg, ↓W_dgE, ↓W_din, ↓W_dg2, ↓W_dput, ↓W_dupd, ↓W_dictP, ↓W_tupO, ↓W_ixF, ↓W_own2, ↓W_setixN, ↓W_ownT, ↓W_setsl, ↓W_augix, ↓W_owApp, ↓OnDict_o, ↓OnDict_i, ↓OnOdx_o, ↓OnDix_i, ↓OnOtp_o, ↓Frz_odx, ↓Frz_dix, ↓Frz_otp, ↓W_mulT, ↓W_dropX, ↓W_isiO, ↓W_noX, ↓NX_nx, ↓NX_bk, ↓NX_ct, ↓NX_rt, ↓NXd_int, ↓NXd_bl, ↓NXd_str, ↓NXd_non, ↓NXd_tup, ↓NXd_lst, ↓NXd_own, ↓NXd_otp, ↓W_raise1, ↓W_raise3, ↓W_setX, ↓W_setXF, ↓OnX_exc, ↓OnX_int, ↓OnX_bl, ↓OnX_str, ↓OnX_non, ↓OnX_tup, ↓OnX_lst, ↓OnX_own, ↓OnX_otp, ↓W_tryAs, ↓W_tryO, ↓WX_nx, ↓WX_bk, ↓WX_ct, ↓WX_rt, ↓OnXc_exc, ↓OnXc_int, ↓OnXc_bl, ↓OnXc_str, ↓OnXc_non, ↓OnXc_tup, ↓OnXc_lst, ↓OnXc_own, ↓OnXc_otp, ↓WN_nx, ↓Del_0, ↓Del_s, ↓Frz_exc, ↓W_isX, ↓W_fldX, ↓W_isNX, pu_dix, pu_kt, pu_exc]
        refine ⟨⟨by omega, by omega⟩, W_goals (w := 64) ht5 (by omega) (by omega) hj2 hm2 fun gs t7 hgl hgs ht7 => ?_⟩
        simp! [↓W_newK, ↓W_newT, ↓W_kVal, ↓W_kTup, ↓W_keyI, ↓W_keyS, ↓W_keys0, ↓W_keysC, ↓W_dgetK, ↓W_dgetT, ↓W_dputK, ↓W_dputT, ↓W_dg, ↓W_dgE, ↓W_din, ↓W_dg2, ↓W_dput, ↓W_dupd, ↓W_dictP, ↓W_tupO, ↓W_ixF, ↓W_own2, ↓W_setixN, ↓W_ownT, ↓W_setsl, ↓W_augix, ↓W_owApp, ↓OnDict_o, ↓OnDict_i, ↓OnOdx_o, ↓OnDix_i, ↓OnOtp_o, ↓Frz_odx, ↓Frz_dix, ↓Frz_otp, ↓W_mulT, ↓W_dropX, ↓W_isiO, ↓W_noX, ↓NX_nx, ↓NX_bk, ↓NX_ct, ↓NX_rt, ↓NXd_int, ↓NXd_bl, ↓NXd_str, ↓NXd_non, ↓NXd_tup, ↓NXd_lst, ↓NXd_own, ↓NXd_otp, ↓W_raise1, ↓W_raise3, ↓W_setX, ↓W_setXF, ↓OnX_exc, ↓OnX_int, ↓OnX_bl, ↓OnX_str, ↓OnX_non, ↓OnX_tup, ↓OnX_lst, ↓OnX_own, ↓OnX_otp, ↓W_tryAs, ↓W_tryO, ↓WX_nx, ↓WX_bk, ↓WX_ct, ↓WX_rt, ↓OnXc_exc, ↓OnXc_int, ↓OnXc_bl, ↓OnXc_str, ↓OnXc_non, ↓OnXc_tup, ↓OnXc_lst, ↓OnXc_own, ↓OnXc_otp, ↓WN_nx, ↓Del_0, ↓Del_s, ↓Frz_exc, ↓W_isX, ↓W_fldX, ↓W_isNX, pu_dix, pu_kt, pu_exc, W_tupT]
        refine ⟨by rw [List.length_map]; omega, ?_⟩
        exact ⟨by rw [List.length_map]; omega, cont (.table _ _) _ _ _ _ _ _ _ _ 500 (by decide) (ht7.mono (by omega)) (ok_table hgs hm2 (by omega) (by omega))⟩
      · simp! [↓W_newK, ↓W_newT, ↓W_kVal, ↓W_kTup, ↓W_keyI, ↓W_keyS, ↓W_keys0, ↓W_keysC, ↓W_dgetK, ↓W_dgetT, ↓W_dputK, ↓W_dputT, ↓W_dg, ↓W_dgE, ↓W_din, ↓W_dg2, ↓W_dput, ↓W_dupd, ↓W_dictP, ↓W_tupO, ↓W_ixF, ↓W_own2, ↓W_setixN, ↓W_ownT, ↓W_setsl, ↓W_augix, ↓W_owApp, ↓OnDict_o, ↓OnDict_i, ↓OnOdx_o, ↓OnDix_i, ↓OnOtp_o, ↓Frz_odx, ↓Frz_dix, ↓Frz_otp, ↓W_mulT, ↓W_dropX, ↓W_isiO, ↓W_noX, ↓NX_nx, ↓NX_bk, ↓NX_ct, ↓NX_rt, ↓NXd_int, ↓NXd_bl, ↓NXd_str, ↓NXd_non, ↓NXd_tup, ↓NXd_lst, ↓NXd_own, ↓NXd_otp, ↓W_raise1, ↓W_raise3, ↓W_setX, ↓W_setXF, ↓OnX_exc, ↓OnX_int, ↓OnX_bl, ↓OnX_str, ↓OnX_non, ↓OnX_tup, ↓OnX_lst, ↓OnX_own, ↓OnX_otp, ↓W_tryAs, ↓W_tryO, ↓WX_nx, ↓WX_bk, ↓WX_ct, ↓WX_rt, ↓OnXc_exc, ↓OnXc_int, ↓OnXc_bl, ↓OnXc_str, ↓OnXc_non, ↓OnXc_tup, ↓OnXc_lst, ↓OnXc_own, ↓OnXc_otp, ↓WN_nx, ↓Del_0, ↓Del_s, ↓Frz_exc, ↓W_isX, ↓W_fldX, ↓W_isNX, pu_dix, pu_kt, pu_exc]
        refine ⟨⟨by omega, by omega⟩, W_goals (w := 200) ht5 (by omega) (by omega) hj2 hm2 fun gs t7 hgl hgs ht7 => ?_⟩
        simp! [↓W_newK, ↓W_newT, ↓W_kVal, ↓W_kTup, ↓W_keyI, ↓W_keyS, ↓W_keys0, ↓W_keysC, ↓W_dgetK, ↓W_dgetT, ↓W_dputK, ↓W_dputT, ↓W_dg, ↓W_dgE, ↓W_din, ↓W_dg2, ↓W_dput, ↓W_dupd, ↓W_dictP, ↓W_tupO, ↓W_ixF, ↓W_own2, ↓W_setixN, ↓W_ownT, ↓W_setsl, ↓W_augix, ↓W_owApp, ↓OnDict_o, ↓OnDict_i, ↓OnOdx_o, ↓OnDix_i, ↓OnOtp_o, ↓Frz_odx, ↓Frz_dix, ↓Frz_otp, ↓W_mulT, ↓W_dropX, ↓W_isiO, ↓W_noX, ↓NX_nx, ↓NX_bk, ↓NX_ct, ↓NX_rt, ↓NXd_int, ↓NXd_bl, ↓NXd_str, ↓NXd_non, ↓NXd_tup, ↓NXd_lst, ↓NXd_own, ↓NXd_otp, ↓W_raise1, ↓W_raise3, ↓W_setX, ↓W_setXF, ↓OnX_exc, ↓OnX_int, ↓OnX_bl, ↓OnX_str, ↓OnX_non, ↓OnX_tup, ↓OnX_lst, ↓OnX_own, ↓OnX_otp, ↓W_tryAs, ↓W_tryO, ↓WX_nx, ↓WX_bk, ↓WX_ct, ↓WX_rt, ↓OnXc_exc, ↓OnXc_int, ↓OnXc_bl, ↓OnXc_str, ↓OnXc_non, ↓OnXc_tup, ↓OnXc_lst, ↓OnXc_own, ↓OnXc_otp, ↓WN_nx, ↓Del_0, ↓Del_s, ↓Frz_exc, ↓W_isX, ↓W_fldX, ↓W_isNX, pu_dix, pu_kt, pu_exc, W_tupT]
        refine ⟨by rw [List.length_map]; omega, ?_⟩
        exact ⟨by rw [List.length_map]; omega, cont (.table _ _) _ _ _ _ _ _ _ _ 500 (by decide) (ht7.mono (by omega)) (ok_table hgs hm2 (by omega) (by omega))⟩
    · refine W_take ht3 (by omega) (by decide) (by decide) fun e t4 a4 b4 ht4 => ?_
      simp! [↓W_newK, ↓W_newT, ↓W_kVal, ↓W_kTup, ↓W_keyI, ↓W_keyS, ↓W_keys0, ↓W_keysC, ↓W_dgetK, ↓W_dgetT, ↓W_dputK, ↓W_dputT, ↓W_dg, ↓W_dgE, ↓W_din, ↓W_dg2, ↓W_dput, ↓W_dupd, ↓W_dictP, ↓W_tupO, ↓W_ixF, ↓W_own2, ↓W_setixN, ↓W_ownT, ↓W_setsl, ↓W_augix, ↓W_owApp, ↓OnDict_o, ↓OnDict_i, ↓OnOdx_o, ↓OnDix_i, ↓OnOtp_o, ↓Frz_odx, ↓Frz_dix, ↓Frz_otp, ↓W_mulT, ↓W_dropX, ↓W_isiO, ↓W_noX, ↓NX_nx, ↓NX_bk, ↓NX_ct, ↓NX_rt, ↓NXd_int, ↓NXd_bl, ↓NXd_str, ↓NXd_non, ↓NXd_tup, ↓NXd_lst, ↓NXd_own, ↓NXd_otp, ↓W_raise1, ↓W_raise3, ↓W_setX, ↓W_setXF, ↓OnX_exc, ↓OnX_int, ↓OnX_bl, ↓OnX_str, ↓OnX_non, ↓OnX_tup, ↓OnX_lst, ↓OnX_own, ↓OnX_otp, ↓W_tryAs, ↓W_tryO, ↓WX_nx, ↓WX_bk, ↓WX_ct, ↓WX_rt, ↓OnXc_exc, ↓OnXc_int, ↓OnXc_bl, ↓OnXc_str, ↓OnXc_non, ↓OnXc_tup, ↓OnXc_lst, ↓OnXc_own, ↓OnXc_otp, ↓WN_nx, ↓Del_0, ↓Del_s, ↓Frz_exc, ↓W_isX, ↓W_fldX, ↓W_isNX, pu_dix, pu_kt, pu_exc, List.length_map]
      exact ⟨by omega, cont (.pick _) _ _ _ _ _ _ _ _ 500 (by decide) (ht4.mono (by omega)) (ok_pick (by omega))⟩
  · obtain ⟨rs, t, x3, x4, x5, x6, x7, x8, x9, x10, rfl, hlen, ht, hok⟩ := hi
    simp! [↓W_newK, ↓W_newT, ↓W_kVal, ↓W_kTup, ↓W_keyI, ↓W_keyS, ↓W_keys0, ↓W_keysC, ↓W_dgetK, ↓W_dgetT, ↓W_dputK, ↓W_dputT, ↓W_dg, ↓W_dgE, ↓W_din, ↓W_dg2, ↓W_dput, ↓W_dupd, ↓W_dictP, ↓W_tupO, ↓W_ixF, ↓W_own2, ↓W_setixN, ↓W_ownT, ↓W_setsl, ↓W_augix, ↓W_owApp, ↓OnDict_o, ↓OnDict_i, ↓OnOdx_o, ↓OnDix_i, ↓OnOtp_o, ↓Frz_odx, ↓Frz_dix, ↓Frz_otp, ↓W_mulT, ↓W_dropX, ↓W_isiO, ↓W_noX, ↓NX_nx, ↓NX_bk, ↓NX_ct, ↓NX_rt, ↓NXd_int, ↓NXd_bl, ↓NXd_str, ↓NXd_non, ↓NXd_tup, ↓NXd_lst, ↓NXd_own, ↓NXd_otp, ↓W_raise1, ↓W_raise3, ↓W_setX, ↓W_setXF, ↓OnX_exc, ↓OnX_int, ↓OnX_bl, ↓OnX_str, ↓OnX_non, ↓OnX_tup, ↓OnX_lst, ↓OnX_own, ↓OnX_otp, ↓W_tryAs, ↓W_tryO, ↓WX_nx, ↓WX_bk, ↓WX_ct, ↓WX_rt, ↓OnXc_exc, ↓OnXc_int, ↓OnXc_bl, ↓OnXc_str, ↓OnXc_non, ↓OnXc_tup, ↓OnXc_lst, ↓OnXc_own, ↓OnXc_otp, ↓WN_nx, ↓Del_0, ↓Del_s, ↓Frz_exc, ↓W_isX, ↓W_fldX, ↓W_isNX, pu_dix, pu_kt, pu_exc]
    have hml : rs.length + 1 = many := by omega
    have pu : (rs.map Row.toD).all D.pu = true := List.all_eq_true.mpr fun d hd => by
      obtain ⟨r, _, rfl⟩ := List.mem_map.mp hd
      cases r <;> rfl
    refine FrzL_pu pu (W_take ht (by omega) (by decide) (by decide) fun g t1 a1 b1 ht1 => ?_)
    simp! [↓W_newK, ↓W_newT, ↓W_kVal, ↓W_kTup, ↓W_keyI, ↓W_keyS, ↓W_keys0, ↓W_keysC, ↓W_dgetK, ↓W_dgetT, ↓W_dputK, ↓W_dputT, ↓W_dg, ↓W_dgE, ↓W_din, ↓W_dg2, ↓W_dput, ↓W_dupd, ↓W_dictP, ↓W_tupO, ↓W_ixF, ↓W_own2, ↓W_setixN, ↓W_ownT, ↓W_setsl, ↓W_augix, ↓W_owApp, ↓OnDict_o, ↓OnDict_i, ↓OnOdx_o, ↓OnDix_i, ↓OnOtp_o, ↓Frz_odx, ↓Frz_dix, ↓Frz_otp, ↓W_mulT, ↓W_dropX, ↓W_isiO, ↓W_noX, ↓NX_nx, ↓NX_bk, ↓NX_ct, ↓NX_rt, ↓NXd_int, ↓NXd_bl, ↓NXd_str, ↓NXd_non, ↓NXd_tup, ↓NXd_lst, ↓NXd_own, ↓NXd_otp, ↓W_raise1, ↓W_raise3, ↓W_setX, ↓W_setXF, ↓OnX_exc, ↓OnX_int, ↓OnX_bl, ↓OnX_str, ↓OnX_non, ↓OnX_tup, ↓OnX_lst, ↓OnX_own, ↓OnX_otp, ↓W_tryAs, ↓W_tryO, ↓WX_nx, ↓WX_bk, ↓WX_ct, ↓WX_rt, ↓OnXc_exc, ↓OnXc_int, ↓OnXc_bl, ↓OnXc_str, ↓OnXc_non, ↓OnXc_tup, ↓OnXc_lst, ↓OnXc_own, ↓OnXc_otp, ↓WN_nx, ↓Del_0, ↓Del_s, ↓Frz_exc, ↓W_isX, ↓W_fldX, ↓W_isNX, pu_dix, pu_kt, pu_exc, List.length_map]
    have eL : rs.map Row.toD ++ [Row.toD (.pick g)] = (rs ++ [Row.pick g]).map Row.toD := by rw [List.map_append]; rfl
    have hall : ∀ (k : Nat) r, (rs ++ [Row.pick g])[k]? = some r → (k < rs.length ∧ RowOk k many r) ∨ r = .pick g := fun k r h => by
      rcases Nat.lt_or_ge k rs.length with z | z
      · rw [List.getElem?_append_left z] at h
        exact .inl ⟨z, hok k r h⟩
      · rw [List.getElem?_append_right z] at h
        exact .inr (List.mem_singleton.mp (List.mem_of_getElem? h))
    have hlen2 : (rs ++ [Row.pick g]).length = many := by rw [List.length_append]; exact hml
    refine ⟨by omega, ?_⟩
    show Q (.own (rs.map Row.toD ++ [Row.toD (.pick g)])) _
    rw [eL]
    refine q _ t1 ⟨by omega, fun k r h hg => ?_, fun k r x g' h e => ?_⟩ (fun r hr => ?_) hlen2 (ht1.mono (by omega))
    · rcases hall k r h with ⟨z, _⟩ | rfl
      · omega
      · cases hg
    · rcases hall k r h with ⟨z, y⟩ | rfl
      · have := y.up x g' e
        omega
      · cases e
    · obtain ⟨k, h⟩ := List.mem_iff_getElem?.mp hr
      rcases hall k r h with ⟨z, y⟩ | rfl
      · exact y.rb
      · exact (ok_pick (k := 0) (many := 0) (l := g) (by omega)).rb
theorem plainL_is : ∀ is : List Int, plainL (is.map D.int) = true
  | [] => rfl
  | i :: is => by rw [List.map_cons, plainL, plainL_is is]; rfl
theorem depL_is : ∀ is : List Int, depL (is.map D.int) = 0
  | [] => rfl
  | i :: is => by rw [List.map_cons, depL, depL_is is]; rfl
theorem plainP {a : Int} {is : List Int} (hl : is.length ≤ 1000000) : Pd.plain (.tup [.int a, .lst (is.map D.int)]) = true := by
  have h : Pd.plain (.lst (is.map D.int)) = true := by rw [Pd.plain, List.length_map, decide_eq_true hl, plainL_is]; rfl
  show (decide ([D.int a, .lst (is.map D.int)].length ≤ 1000000) && (Pd.plain (.int a) && (Pd.plain (.lst (is.map D.int)) && true))) = true
  rw [h]
  rfl
def refX : List Int → Option Int → D
  | L, none => .tup [.str "beyond", .int (L.getLastD 0)]
  | _, some _ => .non
theorem W_refused {rows : List Row} {x : Int} {f : Option Int} {L : List Int} {Q : D → List D → Prop} (P : Path rows x 0 L f) (hl : L.length ≤ 99999) (q : Q (refX L f) []) : W2 (c_law_refused [.lst (rows.map Row.toD), .int x]) Q := by
  unfold c_law_refused g_law_refused
  simp! [↓W_newK, ↓W_newT, ↓W_kVal, ↓W_kTup, ↓W_keyI, ↓W_keyS, ↓W_keys0, ↓W_keysC, ↓W_dgetK, ↓W_dgetT, ↓W_dputK, ↓W_dputT, ↓W_dg, ↓W_dgE, ↓W_din, ↓W_dg2, ↓W_dput, ↓W_dupd, ↓W_dictP, ↓W_tupO, ↓W_ixF, ↓W_own2, ↓W_setixN, ↓W_ownT, ↓W_setsl, ↓W_augix, ↓W_owApp, ↓OnDict_o, ↓OnDict_i, ↓OnOdx_o, ↓OnDix_i, ↓OnOtp_o, ↓Frz_odx, ↓Frz_dix, ↓Frz_otp, ↓W_mulT, ↓W_dropX, ↓W_isiO, ↓W_noX, ↓NX_nx, ↓NX_bk, ↓NX_ct, ↓NX_rt, ↓NXd_int, ↓NXd_bl, ↓NXd_str, ↓NXd_non, ↓NXd_tup, ↓NXd_lst, ↓NXd_own, ↓NXd_otp, ↓W_raise1, ↓W_raise3, ↓W_setX, ↓W_setXF, ↓OnX_exc, ↓OnX_int, ↓OnX_bl, ↓OnX_str, ↓OnX_non, ↓OnX_tup, ↓OnX_lst, ↓OnX_own, ↓OnX_otp, ↓W_tryAs, ↓W_tryO, ↓WX_nx, ↓WX_bk, ↓WX_ct, ↓WX_rt, ↓OnXc_exc, ↓OnXc_int, ↓OnXc_bl, ↓OnXc_str, ↓OnXc_non, ↓OnXc_tup, ↓OnXc_lst, ↓OnXc_own, ↓OnXc_otp, ↓WN_nx, ↓Del_0, ↓Del_s, ↓Frz_exc, ↓W_isX, ↓W_fldX, ↓W_isNX, pu_dix, pu_kt, pu_exc]
  refine W_runX P hl ?_
  cases f with
  | none =>
    unfold runX
    simp! [↓W_newK, ↓W_newT, ↓W_kVal, ↓W_kTup, ↓W_keyI, ↓W_keyS, ↓W_keys0, ↓W_keysC, ↓W_dgetK, ↓W_dgetT, ↓W_dputK, ↓W_dputT, ↓W_dg, ↓W_dgE, ↓W_din, ↓W_dg2, ↓W_dput, ↓W_dupd, ↓W_dictP, ↓W_tupO, ↓W_ixF, ↓W_own2, ↓W_setixN, ↓W_ownT, ↓W_setsl, ↓W_augix, ↓W_owApp, ↓OnDict_o, ↓OnDict_i, ↓OnOdx_o, ↓OnDix_i, ↓OnOtp_o, ↓Frz_odx, ↓Frz_dix, ↓Frz_otp, ↓W_mulT, ↓W_dropX, ↓W_isiO, ↓W_noX, ↓NX_nx, ↓NX_bk, ↓NX_ct, ↓NX_rt, ↓NXd_int, ↓NXd_bl, ↓NXd_str, ↓NXd_non, ↓NXd_tup, ↓NXd_lst, ↓NXd_own, ↓NXd_otp, ↓W_raise1, ↓W_raise3, ↓W_setX, ↓W_setXF, ↓OnX_exc, ↓OnX_int, ↓OnX_bl, ↓OnX_str, ↓OnX_non, ↓OnX_tup, ↓OnX_lst, ↓OnX_own, ↓OnX_otp, ↓W_tryAs, ↓W_tryO, ↓WX_nx, ↓WX_bk, ↓WX_ct, ↓WX_rt, ↓OnXc_exc, ↓OnXc_int, ↓OnXc_bl, ↓OnXc_str, ↓OnXc_non, ↓OnXc_tup, ↓OnXc_lst, ↓OnXc_own, ↓OnXc_otp, ↓WN_nx, ↓Del_0, ↓Del_s, ↓Frz_exc, ↓W_isX, ↓W_fldX, ↓W_isNX, pu_dix, pu_kt, pu_exc]
    exact ⟨by decide +kernel, W_word_beyond q⟩
  | some lab =>
    unfold runX
    simp! [↓W_newK, ↓W_newT, ↓W_kVal, ↓W_kTup, ↓W_keyI, ↓W_keyS, ↓W_keys0, ↓W_keysC, ↓W_dgetK, ↓W_dgetT, ↓W_dputK, ↓W_dputT, ↓W_dg, ↓W_dgE, ↓W_din, ↓W_dg2, ↓W_dput, ↓W_dupd, ↓W_dictP, ↓W_tupO, ↓W_ixF, ↓W_own2, ↓W_setixN, ↓W_ownT, ↓W_setsl, ↓W_augix, ↓W_owApp, ↓OnDict_o, ↓OnDict_i, ↓OnOdx_o, ↓OnDix_i, ↓OnOtp_o, ↓Frz_odx, ↓Frz_dix, ↓Frz_otp, ↓W_mulT, ↓W_dropX, ↓W_isiO, ↓W_noX, ↓NX_nx, ↓NX_bk, ↓NX_ct, ↓NX_rt, ↓NXd_int, ↓NXd_bl, ↓NXd_str, ↓NXd_non, ↓NXd_tup, ↓NXd_lst, ↓NXd_own, ↓NXd_otp, ↓W_raise1, ↓W_raise3, ↓W_setX, ↓W_setXF, ↓OnX_exc, ↓OnX_int, ↓OnX_bl, ↓OnX_str, ↓OnX_non, ↓OnX_tup, ↓OnX_lst, ↓OnX_own, ↓OnX_otp, ↓W_tryAs, ↓W_tryO, ↓WX_nx, ↓WX_bk, ↓WX_ct, ↓WX_rt, ↓OnXc_exc, ↓OnXc_int, ↓OnXc_bl, ↓OnXc_str, ↓OnXc_non, ↓OnXc_tup, ↓OnXc_lst, ↓OnXc_own, ↓OnXc_otp, ↓WN_nx, ↓Del_0, ↓Del_s, ↓Frz_exc, ↓W_isX, ↓W_fldX, ↓W_isNX, pu_dix, pu_kt, pu_exc]
    exact W_word_non q
theorem ones (n : Nat) : (List.replicate n [D.int 1]).flatten = (List.replicate n (1 : Int)).map D.int := by
  rw [List.map_replicate]
  induction n with
  | zero => rfl
  | succ n ih => rw [List.replicate_succ, List.flatten_cons, ih, List.replicate_succ]; rfl
theorem set_ok {rows : List Row} {r : Row} (ok : OkRows rows) (h : 2 ≤ rows.length) (hr : ∀ x g, r.goal x = some (some g) → ((0 : Nat) : Int) < g ∧ g < rows.length) : OkRows (rows.set 0 r) := by
  refine ⟨by rw [List.length_set]; omega, fun k r' e hg => ?_, fun k r' x g e h2 => ?_⟩
  · rw [List.length_set]
    rcases Nat.eq_zero_or_pos k with z | z
    · omega
    · rw [List.getElem?_set_ne (by omega)] at e
      exact ok.nx k r' e hg
  · rw [List.length_set]
    rcases Nat.eq_zero_or_pos k with z | z
    · subst z
      rw [List.getElem?_set_self (by omega)] at e
      cases e
      exact hr x g h2
    · rw [List.getElem?_set_ne (by omega)] at e
      exact ok.up k r' x g e h2
theorem pu_rows (rows : List Row) : (rows.map Row.toD).all D.pu = true := List.all_eq_true.mpr fun d hd => by
  obtain ⟨r, _, rfl⟩ := List.mem_map.mp hd
  cases r <;> rfl
theorem Frz_x3 {rows : List Row} {x3 : D} {K : D → Prop} (h : x3 = D.own (rows.map Row.toD) ∨ x3 = .lst (rows.map Row.toD)) (q : K (.lst (rows.map Row.toD))) : Frz? x3 K := by
  unfold Frz?
  rcases h with rfl | rfl
  · rw [frz, frzL_pu (pu_rows rows)]; exact q
  · exact q
theorem law_true (ns : List Int) (h : ns.length ≤ 63) : c_law [.scr ns] = some (.bl true, []) := by
  refine W2_eq ?_
  unfold c_law g_law
  simp! [↓W_newK, ↓W_newT, ↓W_kVal, ↓W_kTup, ↓W_keyI, ↓W_keyS, ↓W_keys0, ↓W_keysC, ↓W_dgetK, ↓W_dgetT, ↓W_dputK, ↓W_dputT, ↓W_dg, ↓W_dgE, ↓W_din, ↓W_dg2, ↓W_dput, ↓W_dupd, ↓W_dictP, ↓W_tupO, ↓W_ixF, ↓W_own2, ↓W_setixN, ↓W_ownT, ↓W_setsl, ↓W_augix, ↓W_owApp, ↓OnDict_o, ↓OnDict_i, ↓OnOdx_o, ↓OnDix_i, ↓OnOtp_o, ↓Frz_odx, ↓Frz_dix, ↓Frz_otp, ↓W_mulT, ↓W_dropX, ↓W_isiO, ↓W_noX, ↓NX_nx, ↓NX_bk, ↓NX_ct, ↓NX_rt, ↓NXd_int, ↓NXd_bl, ↓NXd_str, ↓NXd_non, ↓NXd_tup, ↓NXd_lst, ↓NXd_own, ↓NXd_otp, ↓W_raise1, ↓W_raise3, ↓W_setX, ↓W_setXF, ↓OnX_exc, ↓OnX_int, ↓OnX_bl, ↓OnX_str, ↓OnX_non, ↓OnX_tup, ↓OnX_lst, ↓OnX_own, ↓OnX_otp, ↓W_tryAs, ↓W_tryO, ↓WX_nx, ↓WX_bk, ↓WX_ct, ↓WX_rt, ↓OnXc_exc, ↓OnXc_int, ↓OnXc_bl, ↓OnXc_str, ↓OnXc_non, ↓OnXc_tup, ↓OnXc_lst, ↓OnXc_own, ↓OnXc_otp, ↓WN_nx, ↓Del_0, ↓Del_s, ↓Frz_exc, ↓W_isX, ↓W_fldX, ↓W_isNX, pu_dix, pu_kt, pu_exc]
  refine ⟨by split <;> exact ⟨by omega, by omega⟩, W_forR (fun k ρ => ∃ x1 x2 x3 x4 x5 x6 x7 x8 x9, ρ = [some (.scr ns), x1, x2, x3, x4, x5, x6, x7, x8, x9]) ⟨_, _, _, _, _, _, _, _, _, rfl⟩ (fun k ρ hk e => ?_) (fun ρ e => ?_)⟩
  · obtain ⟨x1, x2, x3, x4, x5, x6, x7, x8, x9, rfl⟩ := e
    have hk' : k ≤ 100 := by
      revert hk
      split <;> omega
    simp! [↓W_newK, ↓W_newT, ↓W_kVal, ↓W_kTup, ↓W_keyI, ↓W_keyS, ↓W_keys0, ↓W_keysC, ↓W_dgetK, ↓W_dgetT, ↓W_dputK, ↓W_dputT, ↓W_dg, ↓W_dgE, ↓W_din, ↓W_dg2, ↓W_dput, ↓W_dupd, ↓W_dictP, ↓W_tupO, ↓W_ixF, ↓W_own2, ↓W_setixN, ↓W_ownT, ↓W_setsl, ↓W_augix, ↓W_owApp, ↓OnDict_o, ↓OnDict_i, ↓OnOdx_o, ↓OnDix_i, ↓OnOtp_o, ↓Frz_odx, ↓Frz_dix, ↓Frz_otp, ↓W_mulT, ↓W_dropX, ↓W_isiO, ↓W_noX, ↓NX_nx, ↓NX_bk, ↓NX_ct, ↓NX_rt, ↓NXd_int, ↓NXd_bl, ↓NXd_str, ↓NXd_non, ↓NXd_tup, ↓NXd_lst, ↓NXd_own, ↓NXd_otp, ↓W_raise1, ↓W_raise3, ↓W_setX, ↓W_setXF, ↓OnX_exc, ↓OnX_int, ↓OnX_bl, ↓OnX_str, ↓OnX_non, ↓OnX_tup, ↓OnX_lst, ↓OnX_own, ↓OnX_otp, ↓W_tryAs, ↓W_tryO, ↓WX_nx, ↓WX_bk, ↓WX_ct, ↓WX_rt, ↓OnXc_exc, ↓OnXc_int, ↓OnXc_bl, ↓OnXc_str, ↓OnXc_non, ↓OnXc_tup, ↓OnXc_lst, ↓OnXc_own, ↓OnXc_otp, ↓WN_nx, ↓Del_0, ↓Del_s, ↓Frz_exc, ↓W_isX, ↓W_fldX, ↓W_isNX, pu_dix, pu_kt, pu_exc]
    refine W_tape (by omega) (by omega) fun t ht => ?_
    simp! [↓W_newK, ↓W_newT, ↓W_kVal, ↓W_kTup, ↓W_keyI, ↓W_keyS, ↓W_keys0, ↓W_keysC, ↓W_dgetK, ↓W_dgetT, ↓W_dputK, ↓W_dputT, ↓W_dg, ↓W_dgE, ↓W_din, ↓W_dg2, ↓W_dput, ↓W_dupd, ↓W_dictP, ↓W_tupO, ↓W_ixF, ↓W_own2, ↓W_setixN, ↓W_ownT, ↓W_setsl, ↓W_augix, ↓W_owApp, ↓OnDict_o, ↓OnDict_i, ↓OnOdx_o, ↓OnDix_i, ↓OnOtp_o, ↓Frz_odx, ↓Frz_dix, ↓Frz_otp, ↓W_mulT, ↓W_dropX, ↓W_isiO, ↓W_noX, ↓NX_nx, ↓NX_bk, ↓NX_ct, ↓NX_rt, ↓NXd_int, ↓NXd_bl, ↓NXd_str, ↓NXd_non, ↓NXd_tup, ↓NXd_lst, ↓NXd_own, ↓NXd_otp, ↓W_raise1, ↓W_raise3, ↓W_setX, ↓W_setXF, ↓OnX_exc, ↓OnX_int, ↓OnX_bl, ↓OnX_str, ↓OnX_non, ↓OnX_tup, ↓OnX_lst, ↓OnX_own, ↓OnX_otp, ↓W_tryAs, ↓W_tryO, ↓WX_nx, ↓WX_bk, ↓WX_ct, ↓WX_rt, ↓OnXc_exc, ↓OnXc_int, ↓OnXc_bl, ↓OnXc_str, ↓OnXc_non, ↓OnXc_tup, ↓OnXc_lst, ↓OnXc_own, ↓OnXc_otp, ↓WN_nx, ↓Del_0, ↓Del_s, ↓Frz_exc, ↓W_isX, ↓W_fldX, ↓W_isNX, pu_dix, pu_kt, pu_exc]
    refine W_take ht (by omega) (by decide) (by decide) fun r1 t1 a1 b1 ht1 => ?_
    simp! [↓W_newK, ↓W_newT, ↓W_kVal, ↓W_kTup, ↓W_keyI, ↓W_keyS, ↓W_keys0, ↓W_keysC, ↓W_dgetK, ↓W_dgetT, ↓W_dputK, ↓W_dputT, ↓W_dg, ↓W_dgE, ↓W_din, ↓W_dg2, ↓W_dput, ↓W_dupd, ↓W_dictP, ↓W_tupO, ↓W_ixF, ↓W_own2, ↓W_setixN, ↓W_ownT, ↓W_setsl, ↓W_augix, ↓W_owApp, ↓OnDict_o, ↓OnDict_i, ↓OnOdx_o, ↓OnDix_i, ↓OnOtp_o, ↓Frz_odx, ↓Frz_dix, ↓Frz_otp, ↓W_mulT, ↓W_dropX, ↓W_isiO, ↓W_noX, ↓NX_nx, ↓NX_bk, ↓NX_ct, ↓NX_rt, ↓NXd_int, ↓NXd_bl, ↓NXd_str, ↓NXd_non, ↓NXd_tup, ↓NXd_lst, ↓NXd_own, ↓NXd_otp, ↓W_raise1, ↓W_raise3, ↓W_setX, ↓W_setXF, ↓OnX_exc, ↓OnX_int, ↓OnX_bl, ↓OnX_str, ↓OnX_non, ↓OnX_tup, ↓OnX_lst, ↓OnX_own, ↓OnX_otp, ↓W_tryAs, ↓W_tryO, ↓WX_nx, ↓WX_bk, ↓WX_ct, ↓WX_rt, ↓OnXc_exc, ↓OnXc_int, ↓OnXc_bl, ↓OnXc_str, ↓OnXc_non, ↓OnXc_tup, ↓OnXc_lst, ↓OnXc_own, ↓OnXc_otp, ↓WN_nx, ↓Del_0, ↓Del_s, ↓Frz_exc, ↓W_isX, ↓W_fldX, ↓W_isNX, pu_dix, pu_kt, pu_exc]
    have six : ∀ (Z : D → Prop), (∀ i : Int, i = 6 ∨ i = 19 → Z (.int i)) → W (opIx (.lst [.int 6, .int 19]) (.int r1)) Z := fun Z hZ => by
      rcases (show r1 = 0 ∨ r1 = 1 by omega) with e | e <;> subst e
      · exact ⟨_, rfl, hZ 6 (.inl rfl)⟩
      · exact ⟨_, rfl, hZ 19 (.inr rfl)⟩
    refine six _ fun i hi => ?_
    simp! [↓W_newK, ↓W_newT, ↓W_kVal, ↓W_kTup, ↓W_keyI, ↓W_keyS, ↓W_keys0, ↓W_keysC, ↓W_dgetK, ↓W_dgetT, ↓W_dputK, ↓W_dputT, ↓W_dg, ↓W_dgE, ↓W_din, ↓W_dg2, ↓W_dput, ↓W_dupd, ↓W_dictP, ↓W_tupO, ↓W_ixF, ↓W_own2, ↓W_setixN, ↓W_ownT, ↓W_setsl, ↓W_augix, ↓W_owApp, ↓OnDict_o, ↓OnDict_i, ↓OnOdx_o, ↓OnDix_i, ↓OnOtp_o, ↓Frz_odx, ↓Frz_dix, ↓Frz_otp, ↓W_mulT, ↓W_dropX, ↓W_isiO, ↓W_noX, ↓NX_nx, ↓NX_bk, ↓NX_ct, ↓NX_rt, ↓NXd_int, ↓NXd_bl, ↓NXd_str, ↓NXd_non, ↓NXd_tup, ↓NXd_lst, ↓NXd_own, ↓NXd_otp, ↓W_raise1, ↓W_raise3, ↓W_setX, ↓W_setXF, ↓OnX_exc, ↓OnX_int, ↓OnX_bl, ↓OnX_str, ↓OnX_non, ↓OnX_tup, ↓OnX_lst, ↓OnX_own, ↓OnX_otp, ↓W_tryAs, ↓W_tryO, ↓WX_nx, ↓WX_bk, ↓WX_ct, ↓WX_rt, ↓OnXc_exc, ↓OnXc_int, ↓OnXc_bl, ↓OnXc_str, ↓OnXc_non, ↓OnXc_tup, ↓OnXc_lst, ↓OnXc_own, ↓OnXc_otp, ↓WN_nx, ↓Del_0, ↓Del_s, ↓Frz_exc, ↓W_isX, ↓W_fldX, ↓W_isNX, pu_dix, pu_kt, pu_exc]
    refine W_take ht1 (by omega) (by omega) (by omega) fun r2 t2 a2 b2 ht2 => ?_
    simp! [↓W_newK, ↓W_newT, ↓W_kVal, ↓W_kTup, ↓W_keyI, ↓W_keyS, ↓W_keys0, ↓W_keysC, ↓W_dgetK, ↓W_dgetT, ↓W_dputK, ↓W_dputT, ↓W_dg, ↓W_dgE, ↓W_din, ↓W_dg2, ↓W_dput, ↓W_dupd, ↓W_dictP, ↓W_tupO, ↓W_ixF, ↓W_own2, ↓W_setixN, ↓W_ownT, ↓W_setsl, ↓W_augix, ↓W_owApp, ↓OnDict_o, ↓OnDict_i, ↓OnOdx_o, ↓OnDix_i, ↓OnOtp_o, ↓Frz_odx, ↓Frz_dix, ↓Frz_otp, ↓W_mulT, ↓W_dropX, ↓W_isiO, ↓W_noX, ↓NX_nx, ↓NX_bk, ↓NX_ct, ↓NX_rt, ↓NXd_int, ↓NXd_bl, ↓NXd_str, ↓NXd_non, ↓NXd_tup, ↓NXd_lst, ↓NXd_own, ↓NXd_otp, ↓W_raise1, ↓W_raise3, ↓W_setX, ↓W_setXF, ↓OnX_exc, ↓OnX_int, ↓OnX_bl, ↓OnX_str, ↓OnX_non, ↓OnX_tup, ↓OnX_lst, ↓OnX_own, ↓OnX_otp, ↓W_tryAs, ↓W_tryO, ↓WX_nx, ↓WX_bk, ↓WX_ct, ↓WX_rt, ↓OnXc_exc, ↓OnXc_int, ↓OnXc_bl, ↓OnXc_str, ↓OnXc_non, ↓OnXc_tup, ↓OnXc_lst, ↓OnXc_own, ↓OnXc_otp, ↓WN_nx, ↓Del_0, ↓Del_s, ↓Frz_exc, ↓W_isX, ↓W_fldX, ↓W_isNX, pu_dix, pu_kt, pu_exc]
    have em : (2 + r2 : Int) = ((2 + r2.toNat : Nat) : Int) := by omega
    rw [em]
    refine W_rows ht2 (by omega) (by omega) (by omega) fun rows t3 ok hrb hlen ht3 => ?_
    simp! [↓W_newK, ↓W_newT, ↓W_kVal, ↓W_kTup, ↓W_keyI, ↓W_keyS, ↓W_keys0, ↓W_keysC, ↓W_dgetK, ↓W_dgetT, ↓W_dputK, ↓W_dputT, ↓W_dg, ↓W_dgE, ↓W_din, ↓W_dg2, ↓W_dput, ↓W_dupd, ↓W_dictP, ↓W_tupO, ↓W_ixF, ↓W_own2, ↓W_setixN, ↓W_ownT, ↓W_setsl, ↓W_augix, ↓W_owApp, ↓OnDict_o, ↓OnDict_i, ↓OnOdx_o, ↓OnDix_i, ↓OnOtp_o, ↓Frz_odx, ↓Frz_dix, ↓Frz_otp, ↓W_mulT, ↓W_dropX, ↓W_isiO, ↓W_noX, ↓NX_nx, ↓NX_bk, ↓NX_ct, ↓NX_rt, ↓NXd_int, ↓NXd_bl, ↓NXd_str, ↓NXd_non, ↓NXd_tup, ↓NXd_lst, ↓NXd_own, ↓NXd_otp, ↓W_raise1, ↓W_raise3, ↓W_setX, ↓W_setXF, ↓OnX_exc, ↓OnX_int, ↓OnX_bl, ↓OnX_str, ↓OnX_non, ↓OnX_tup, ↓OnX_lst, ↓OnX_own, ↓OnX_otp, ↓W_tryAs, ↓W_tryO, ↓WX_nx, ↓WX_bk, ↓WX_ct, ↓WX_rt, ↓OnXc_exc, ↓OnXc_int, ↓OnXc_bl, ↓OnXc_str, ↓OnXc_non, ↓OnXc_tup, ↓OnXc_lst, ↓OnXc_own, ↓OnXc_otp, ↓WN_nx, ↓Del_0, ↓Del_s, ↓Frz_exc, ↓W_isX, ↓W_fldX, ↓W_isNX, pu_dix, pu_kt, pu_exc]
    refine W_take ht3 (by omega) (by decide) (by decide) fun r3 t4 a3 b3 ht4 => ?_
    simp! [↓W_newK, ↓W_newT, ↓W_kVal, ↓W_kTup, ↓W_keyI, ↓W_keyS, ↓W_keys0, ↓W_keysC, ↓W_dgetK, ↓W_dgetT, ↓W_dputK, ↓W_dputT, ↓W_dg, ↓W_dgE, ↓W_din, ↓W_dg2, ↓W_dput, ↓W_dupd, ↓W_dictP, ↓W_tupO, ↓W_ixF, ↓W_own2, ↓W_setixN, ↓W_ownT, ↓W_setsl, ↓W_augix, ↓W_owApp, ↓OnDict_o, ↓OnDict_i, ↓OnOdx_o, ↓OnDix_i, ↓OnOtp_o, ↓Frz_odx, ↓Frz_dix, ↓Frz_otp, ↓W_mulT, ↓W_dropX, ↓W_isiO, ↓W_noX, ↓NX_nx, ↓NX_bk, ↓NX_ct, ↓NX_rt, ↓NXd_int, ↓NXd_bl, ↓NXd_str, ↓NXd_non, ↓NXd_tup, ↓NXd_lst, ↓NXd_own, ↓NXd_otp, ↓W_raise1, ↓W_raise3, ↓W_setX, ↓W_setXF, ↓OnX_exc, ↓OnX_int, ↓OnX_bl, ↓OnX_str, ↓OnX_non, ↓OnX_tup, ↓OnX_lst, ↓OnX_own, ↓OnX_otp, ↓W_tryAs, ↓W_tryO, ↓WX_nx, ↓WX_bk, ↓WX_ct, ↓WX_rt, ↓OnXc_exc, ↓OnXc_int, ↓OnXc_bl, ↓OnXc_str, ↓OnXc_non, ↓OnXc_tup, ↓OnXc_lst, ↓OnXc_own, ↓OnXc_otp, ↓WN_nx, ↓Del_0, ↓Del_s, ↓Frz_exc, ↓W_isX, ↓W_fldX, ↓W_isNX, pu_dix, pu_kt, pu_exc]
    have pw := pw64 (w := 1 + r3) (by omega)
    refine ⟨by unfold CPow; omega, W_take ht4 (by omega) pw.1 pw.2 fun r4 t5 a4 b4 ht5 => ?_⟩
    simp! [↓W_newK, ↓W_newT, ↓W_kVal, ↓W_kTup, ↓W_keyI, ↓W_keyS, ↓W_keys0, ↓W_keysC, ↓W_dgetK, ↓W_dgetT, ↓W_dputK, ↓W_dputT, ↓W_dg, ↓W_dgE, ↓W_din, ↓W_dg2, ↓W_dput, ↓W_dupd, ↓W_dictP, ↓W_tupO, ↓W_ixF, ↓W_own2, ↓W_setixN, ↓W_ownT, ↓W_setsl, ↓W_augix, ↓W_owApp, ↓OnDict_o, ↓OnDict_i, ↓OnOdx_o, ↓OnDix_i, ↓OnOtp_o, ↓Frz_odx, ↓Frz_dix, ↓Frz_otp, ↓W_mulT, ↓W_dropX, ↓W_isiO, ↓W_noX, ↓NX_nx, ↓NX_bk, ↓NX_ct, ↓NX_rt, ↓NXd_int, ↓NXd_bl, ↓NXd_str, ↓NXd_non, ↓NXd_tup, ↓NXd_lst, ↓NXd_own, ↓NXd_otp, ↓W_raise1, ↓W_raise3, ↓W_setX, ↓W_setXF, ↓OnX_exc, ↓OnX_int, ↓OnX_bl, ↓OnX_str, ↓OnX_non, ↓OnX_tup, ↓OnX_lst, ↓OnX_own, ↓OnX_otp, ↓W_tryAs, ↓W_tryO, ↓WX_nx, ↓WX_bk, ↓WX_ct, ↓WX_rt, ↓OnXc_exc, ↓OnXc_int, ↓OnXc_bl, ↓OnXc_str, ↓OnXc_non, ↓OnXc_tup, ↓OnXc_lst, ↓OnXc_own, ↓OnXc_otp, ↓WN_nx, ↓Del_0, ↓Del_s, ↓Frz_exc, ↓W_isX, ↓W_fldX, ↓W_isNX, pu_dix, pu_kt, pu_exc]
    have e0 := List.getElem?_eq_getElem ok.ne
    generalize hr0 : rows[0] = row0 at e0
    refine FrzL_pu (pu_rows rows) ⟨⟨by simp, by omega, by omega⟩, W_atI (k := 0) (by decide) (get_row (k := 0) e0) ⟨by cases row0 <;> rfl, W_atI (k := 0) (by decide) (get_row (k := 0) e0) ⟨by cases row0 <;> rfl, ?_⟩⟩⟩
    rw [Frz_row, Frz_row, Frz_row, Frz_row, ones, List.length_map]
    refine W_take ht5 (by omega) (by decide) (by decide) fun r5 u6 a5 b5 ht6 => ?_
    simp! [↓W_newK, ↓W_newT, ↓W_kVal, ↓W_kTup, ↓W_keyI, ↓W_keyS, ↓W_keys0, ↓W_keysC, ↓W_dgetK, ↓W_dgetT, ↓W_dputK, ↓W_dputT, ↓W_dg, ↓W_dgE, ↓W_din, ↓W_dg2, ↓W_dput, ↓W_dupd, ↓W_dictP, ↓W_tupO, ↓W_ixF, ↓W_own2, ↓W_setixN, ↓W_ownT, ↓W_setsl, ↓W_augix, ↓W_owApp, ↓OnDict_o, ↓OnDict_i, ↓OnOdx_o, ↓OnDix_i, ↓OnOtp_o, ↓Frz_odx, ↓Frz_dix, ↓Frz_otp, ↓W_mulT, ↓W_dropX, ↓W_isiO, ↓W_noX, ↓NX_nx, ↓NX_bk, ↓NX_ct, ↓NX_rt, ↓NXd_int, ↓NXd_bl, ↓NXd_str, ↓NXd_non, ↓NXd_tup, ↓NXd_lst, ↓NXd_own, ↓NXd_otp, ↓W_raise1, ↓W_raise3, ↓W_setX, ↓W_setXF, ↓OnX_exc, ↓OnX_int, ↓OnX_bl, ↓OnX_str, ↓OnX_non, ↓OnX_tup, ↓OnX_lst, ↓OnX_own, ↓OnX_otp, ↓W_tryAs, ↓W_tryO, ↓WX_nx, ↓WX_bk, ↓WX_ct, ↓WX_rt, ↓OnXc_exc, ↓OnXc_int, ↓OnXc_bl, ↓OnXc_str, ↓OnXc_non, ↓OnXc_tup, ↓OnXc_lst, ↓OnXc_own, ↓OnXc_otp, ↓WN_nx, ↓Del_0, ↓Del_s, ↓Frz_exc, ↓W_isX, ↓W_fldX, ↓W_isNX, pu_dix, pu_kt, pu_exc]
    have l2 : 2 ≤ rows.length := by omega
    have row0m : row0 ∈ rows := List.mem_of_getElem? e0
    refine W_atI_all (by omega) (by simp; omega) fun d hd => ?_
    have : ∃ r : Row, d = r.toD ∧ (∀ x g, r.goal x = some (some g) → ((0 : Nat) : Int) < g ∧ g < rows.length) ∧ Rb 1005 2 r.toD := by
      simp only [List.mem_cons, List.not_mem_nil, or_false] at hd
      rcases hd with rfl | rfl | rfl | rfl
      · have h := ok_mask (k := 0) (many := rows.length) (g := (rows.length : Int) - 1) (a := 0) (b := 1 + r3) (c := r4) (by omega) (by omega) (by omega) (by omega) (by omega)
        exact ⟨.mask 0 (1 + r3) r4 ((rows.length : Int) - 1), rfl, h.up, h.rb⟩
      · have h := ok_table (k := 0) (many := rows.length) (a := -3) (gs := List.replicate (1 + r3).toNat 1) (fun g hg => by rw [(List.mem_replicate.mp hg).2]; omega) (by omega) (by omega) (by rw [List.length_replicate]; omega)
        exact ⟨.table (-3) (List.replicate (1 + r3).toNat 1), rfl, h.up, h.rb⟩
      · exact ⟨row0, rfl, fun x g h => ok.up 0 row0 x g e0 h, hrb row0 row0m⟩
      · exact ⟨row0, rfl, fun x g h => ok.up 0 row0 x g e0 h, hrb row0 row0m⟩
    obtain ⟨r, rfl, hup, hrr⟩ := this
    rw [Frz_row]
    refine SetI_n (n := 0) (by rw [List.length_map]; omega) ?_
    rw [← List.map_set]
    have ok2 := set_ok ok l2 hup
    have hl2 : (rows.set 0 r).length = rows.length := List.length_set
    have hrb2 : ∀ r' ∈ rows.set 0 r, Rb 1005 2 r'.toD := fun r' h => by
      rcases List.mem_or_eq_of_mem_set h with z | z
      · exact hrb r' z
      · rw [z]; exact hrr
    generalize rows.set 0 r = rows' at ok2 hl2 hrb2
    have rp : rpOk (.lst (rows'.map Row.toD)) = true := (Rb.lst (n := 1005) (k := 2) (m := 20) (fun d hd => by
      obtain ⟨r, hr, rfl⟩ := List.mem_map.mp hd
      exact hrb2 r hr) (by rw [List.length_map]; omega)).ok (by decide) (by decide)
    have pu2 : (rngD (-26) 51 ++ [D.int (10 ^ Int.toNat 30), D.int (-10 ^ Int.toNat 30)]).all D.pu = true := by
      rw [rngD_eq, List.all_append, List.all_map]
      simp [D.pu]
    refine FrzL_pu (pu_rows rows') ⟨rp, by decide, by decide, by decide, by decide, FrzL_pu pu2 ?_⟩
    refine W_forL (fun pre ρ => ∃ x3 x5 x7 x8 x9, (x3 = D.own (rows'.map Row.toD) ∨ x3 = .lst (rows'.map Row.toD)) ∧ ρ = [some (.scr ns), some (.int (0 + (k : Int))), some (.own u6), some x3, some (.int (1 + r3)), x5, some (.str (shw (.lst (rows'.map Row.toD)))), x7, x8, x9]) ⟨_, _, _, _, _, .inl rfl, rfl⟩ (fun pre d post ρ e hi => ?_) (fun ρ hi => ?_)
    · obtain ⟨x3, x5, x7, x8, x9, hx3, rfl⟩ := hi
      have hd : ∃ y : Int, d = .int y := by
        have : d ∈ rngD (-26) 51 ++ [D.int (10 ^ Int.toNat 30), D.int (-10 ^ Int.toNat 30)] := by rw [e]; simp
        rcases List.mem_append.mp this with z | z
        · rw [rngD_eq] at z
          obtain ⟨y, _, rfl⟩ := List.mem_map.mp z
          exact ⟨y, rfl⟩
        · simp only [List.mem_cons, List.not_mem_nil, or_false] at z
          rcases z with rfl | rfl <;> exact ⟨_, rfl⟩
      obtain ⟨y, rfl⟩ := hd
      simp! [↓W_newK, ↓W_newT, ↓W_kVal, ↓W_kTup, ↓W_keyI, ↓W_keyS, ↓W_keys0, ↓W_keysC, ↓W_dgetK, ↓W_dgetT, ↓W_dputK, ↓W_dputT, ↓W_dg, ↓W_dgE, ↓W_din, ↓W_dg2, ↓W_dput, ↓W_dupd, ↓W_dictP, ↓W_tupO, ↓W_ixF, ↓W_own2, ↓W_setixN, ↓W_ownT, ↓W_setsl, ↓W_augix, ↓W_owApp, ↓OnDict_o, ↓OnDict_i, ↓OnOdx_o, ↓OnDix_i, ↓OnOtp_o, ↓Frz_odx, ↓Frz_dix, ↓Frz_otp, ↓W_mulT, ↓W_dropX, ↓W_isiO, ↓W_noX, ↓NX_nx, ↓NX_bk, ↓NX_ct, ↓NX_rt, ↓NXd_int, ↓NXd_bl, ↓NXd_str, ↓NXd_non, ↓NXd_tup, ↓NXd_lst, ↓NXd_own, ↓NXd_otp, ↓W_raise1, ↓W_raise3, ↓W_setX, ↓W_setXF, ↓OnX_exc, ↓OnX_int, ↓OnX_bl, ↓OnX_str, ↓OnX_non, ↓OnX_tup, ↓OnX_lst, ↓OnX_own, ↓OnX_otp, ↓W_tryAs, ↓W_tryO, ↓WX_nx, ↓WX_bk, ↓WX_ct, ↓WX_rt, ↓OnXc_exc, ↓OnXc_int, ↓OnXc_bl, ↓OnXc_str, ↓OnXc_non, ↓OnXc_tup, ↓OnXc_lst, ↓OnXc_own, ↓OnXc_otp, ↓WN_nx, ↓Del_0, ↓Del_s, ↓Frz_exc, ↓W_isX, ↓W_fldX, ↓W_isNX, pu_dix, pu_kt, pu_exc]
      refine Frz_x3 hx3 ?_
      refine W_law_run ok2 (by omega) fun l f P hl => ?_
      simp! [↓W_newK, ↓W_newT, ↓W_kVal, ↓W_kTup, ↓W_keyI, ↓W_keyS, ↓W_keys0, ↓W_keysC, ↓W_dgetK, ↓W_dgetT, ↓W_dputK, ↓W_dputT, ↓W_dg, ↓W_dgE, ↓W_din, ↓W_dg2, ↓W_dput, ↓W_dupd, ↓W_dictP, ↓W_tupO, ↓W_ixF, ↓W_own2, ↓W_setixN, ↓W_ownT, ↓W_setsl, ↓W_augix, ↓W_owApp, ↓OnDict_o, ↓OnDict_i, ↓OnOdx_o, ↓OnDix_i, ↓OnOtp_o, ↓Frz_odx, ↓Frz_dix, ↓Frz_otp, ↓W_mulT, ↓W_dropX, ↓W_isiO, ↓W_noX, ↓NX_nx, ↓NX_bk, ↓NX_ct, ↓NX_rt, ↓NXd_int, ↓NXd_bl, ↓NXd_str, ↓NXd_non, ↓NXd_tup, ↓NXd_lst, ↓NXd_own, ↓NXd_otp, ↓W_raise1, ↓W_raise3, ↓W_setX, ↓W_setXF, ↓OnX_exc, ↓OnX_int, ↓OnX_bl, ↓OnX_str, ↓OnX_non, ↓OnX_tup, ↓OnX_lst, ↓OnX_own, ↓OnX_otp, ↓W_tryAs, ↓W_tryO, ↓WX_nx, ↓WX_bk, ↓WX_ct, ↓WX_rt, ↓OnXc_exc, ↓OnXc_int, ↓OnXc_bl, ↓OnXc_str, ↓OnXc_non, ↓OnXc_tup, ↓OnXc_lst, ↓OnXc_own, ↓OnXc_otp, ↓WN_nx, ↓Del_0, ↓Del_s, ↓Frz_exc, ↓W_isX, ↓W_fldX, ↓W_isNX, pu_dix, pu_kt, pu_exc]
      cases f with
      | none =>
        unfold oD
        simp! [↓W_newK, ↓W_newT, ↓W_kVal, ↓W_kTup, ↓W_keyI, ↓W_keyS, ↓W_keys0, ↓W_keysC, ↓W_dgetK, ↓W_dgetT, ↓W_dputK, ↓W_dputT, ↓W_dg, ↓W_dgE, ↓W_din, ↓W_dg2, ↓W_dput, ↓W_dupd, ↓W_dictP, ↓W_tupO, ↓W_ixF, ↓W_own2, ↓W_setixN, ↓W_ownT, ↓W_setsl, ↓W_augix, ↓W_owApp, ↓OnDict_o, ↓OnDict_i, ↓OnOdx_o, ↓OnDix_i, ↓OnOtp_o, ↓Frz_odx, ↓Frz_dix, ↓Frz_otp, ↓W_mulT, ↓W_dropX, ↓W_isiO, ↓W_noX, ↓NX_nx, ↓NX_bk, ↓NX_ct, ↓NX_rt, ↓NXd_int, ↓NXd_bl, ↓NXd_str, ↓NXd_non, ↓NXd_tup, ↓NXd_lst, ↓NXd_own, ↓NXd_otp, ↓W_raise1, ↓W_raise3, ↓W_setX, ↓W_setXF, ↓OnX_exc, ↓OnX_int, ↓OnX_bl, ↓OnX_str, ↓OnX_non, ↓OnX_tup, ↓OnX_lst, ↓OnX_own, ↓OnX_otp, ↓W_tryAs, ↓W_tryO, ↓WX_nx, ↓WX_bk, ↓WX_ct, ↓WX_rt, ↓OnXc_exc, ↓OnXc_int, ↓OnXc_bl, ↓OnXc_str, ↓OnXc_non, ↓OnXc_tup, ↓OnXc_lst, ↓OnXc_own, ↓OnXc_otp, ↓WN_nx, ↓Del_0, ↓Del_s, ↓Frz_exc, ↓W_isX, ↓W_fldX, ↓W_isNX, pu_dix, pu_kt, pu_exc]
        refine W_refused P (by omega) ?_
        unfold refX
        simp! [↓W_newK, ↓W_newT, ↓W_kVal, ↓W_kTup, ↓W_keyI, ↓W_keyS, ↓W_keys0, ↓W_keysC, ↓W_dgetK, ↓W_dgetT, ↓W_dputK, ↓W_dputT, ↓W_dg, ↓W_dgE, ↓W_din, ↓W_dg2, ↓W_dput, ↓W_dupd, ↓W_dictP, ↓W_tupO, ↓W_ixF, ↓W_own2, ↓W_setixN, ↓W_ownT, ↓W_setsl, ↓W_augix, ↓W_owApp, ↓OnDict_o, ↓OnDict_i, ↓OnOdx_o, ↓OnDix_i, ↓OnOtp_o, ↓Frz_odx, ↓Frz_dix, ↓Frz_otp, ↓W_mulT, ↓W_dropX, ↓W_isiO, ↓W_noX, ↓NX_nx, ↓NX_bk, ↓NX_ct, ↓NX_rt, ↓NXd_int, ↓NXd_bl, ↓NXd_str, ↓NXd_non, ↓NXd_tup, ↓NXd_lst, ↓NXd_own, ↓NXd_otp, ↓W_raise1, ↓W_raise3, ↓W_setX, ↓W_setXF, ↓OnX_exc, ↓OnX_int, ↓OnX_bl, ↓OnX_str, ↓OnX_non, ↓OnX_tup, ↓OnX_lst, ↓OnX_own, ↓OnX_otp, ↓W_tryAs, ↓W_tryO, ↓WX_nx, ↓WX_bk, ↓WX_ct, ↓WX_rt, ↓OnXc_exc, ↓OnXc_int, ↓OnXc_bl, ↓OnXc_str, ↓OnXc_non, ↓OnXc_tup, ↓OnXc_lst, ↓OnXc_own, ↓OnXc_otp, ↓WN_nx, ↓Del_0, ↓Del_s, ↓Frz_exc, ↓W_isX, ↓W_fldX, ↓W_isNX, pu_dix, pu_kt, pu_exc]
        have hl3 : l.map D.int = l.dropLast.map D.int ++ [D.int (l.getLastD 0)] := by
          obtain ⟨l', e9⟩ := P.last
          have hne : l ≠ [] := by rw [e9]; simp
          rw [List.getLastD_eq_getLast?, List.getLast?_eq_getLast hne, Option.getD_some, ← List.map_singleton, ← List.map_append, List.dropLast_concat_getLast hne]
        rw [hl3, W_last]
        simp! [↓W_newK, ↓W_newT, ↓W_kVal, ↓W_kTup, ↓W_keyI, ↓W_keyS, ↓W_keys0, ↓W_keysC, ↓W_dgetK, ↓W_dgetT, ↓W_dputK, ↓W_dputT, ↓W_dg, ↓W_dgE, ↓W_din, ↓W_dg2, ↓W_dput, ↓W_dupd, ↓W_dictP, ↓W_tupO, ↓W_ixF, ↓W_own2, ↓W_setixN, ↓W_ownT, ↓W_setsl, ↓W_augix, ↓W_owApp, ↓OnDict_o, ↓OnDict_i, ↓OnOdx_o, ↓OnDix_i, ↓OnOtp_o, ↓Frz_odx, ↓Frz_dix, ↓Frz_otp, ↓W_mulT, ↓W_dropX, ↓W_isiO, ↓W_noX, ↓NX_nx, ↓NX_bk, ↓NX_ct, ↓NX_rt, ↓NXd_int, ↓NXd_bl, ↓NXd_str, ↓NXd_non, ↓NXd_tup, ↓NXd_lst, ↓NXd_own, ↓NXd_otp, ↓W_raise1, ↓W_raise3, ↓W_setX, ↓W_setXF, ↓OnX_exc, ↓OnX_int, ↓OnX_bl, ↓OnX_str, ↓OnX_non, ↓OnX_tup, ↓OnX_lst, ↓OnX_own, ↓OnX_otp, ↓W_tryAs, ↓W_tryO, ↓WX_nx, ↓WX_bk, ↓WX_ct, ↓WX_rt, ↓OnXc_exc, ↓OnXc_int, ↓OnXc_bl, ↓OnXc_str, ↓OnXc_non, ↓OnXc_tup, ↓OnXc_lst, ↓OnXc_own, ↓OnXc_otp, ↓WN_nx, ↓Del_0, ↓Del_s, ↓Frz_exc, ↓W_isX, ↓W_fldX, ↓W_isNX, pu_dix, pu_kt, pu_exc]
        refine W_same (by simp [Pd.plain, plainL]; decide +kernel) (by simp [dep, depL]) ?_
        simp! [↓W_newK, ↓W_newT, ↓W_kVal, ↓W_kTup, ↓W_keyI, ↓W_keyS, ↓W_keys0, ↓W_keysC, ↓W_dgetK, ↓W_dgetT, ↓W_dputK, ↓W_dputT, ↓W_dg, ↓W_dgE, ↓W_din, ↓W_dg2, ↓W_dput, ↓W_dupd, ↓W_dictP, ↓W_tupO, ↓W_ixF, ↓W_own2, ↓W_setixN, ↓W_ownT, ↓W_setsl, ↓W_augix, ↓W_owApp, ↓OnDict_o, ↓OnDict_i, ↓OnOdx_o, ↓OnDix_i, ↓OnOtp_o, ↓Frz_odx, ↓Frz_dix, ↓Frz_otp, ↓W_mulT, ↓W_dropX, ↓W_isiO, ↓W_noX, ↓NX_nx, ↓NX_bk, ↓NX_ct, ↓NX_rt, ↓NXd_int, ↓NXd_bl, ↓NXd_str, ↓NXd_non, ↓NXd_tup, ↓NXd_lst, ↓NXd_own, ↓NXd_otp, ↓W_raise1, ↓W_raise3, ↓W_setX, ↓W_setXF, ↓OnX_exc, ↓OnX_int, ↓OnX_bl, ↓OnX_str, ↓OnX_non, ↓OnX_tup, ↓OnX_lst, ↓OnX_own, ↓OnX_otp, ↓W_tryAs, ↓W_tryO, ↓WX_nx, ↓WX_bk, ↓WX_ct, ↓WX_rt, ↓OnXc_exc, ↓OnXc_int, ↓OnXc_bl, ↓OnXc_str, ↓OnXc_non, ↓OnXc_tup, ↓OnXc_lst, ↓OnXc_own, ↓OnXc_otp, ↓WN_nx, ↓Del_0, ↓Del_s, ↓Frz_exc, ↓W_isX, ↓W_fldX, ↓W_isNX, pu_dix, pu_kt, pu_exc]
        exact ⟨_, _, _, _, _, .inr rfl, rfl⟩
      | some lab =>
        unfold oD
        simp! [↓W_newK, ↓W_newT, ↓W_kVal, ↓W_kTup, ↓W_keyI, ↓W_keyS, ↓W_keys0, ↓W_keysC, ↓W_dgetK, ↓W_dgetT, ↓W_dputK, ↓W_dputT, ↓W_dg, ↓W_dgE, ↓W_din, ↓W_dg2, ↓W_dput, ↓W_dupd, ↓W_dictP, ↓W_tupO, ↓W_ixF, ↓W_own2, ↓W_setixN, ↓W_ownT, ↓W_setsl, ↓W_augix, ↓W_owApp, ↓OnDict_o, ↓OnDict_i, ↓OnOdx_o, ↓OnDix_i, ↓OnOtp_o, ↓Frz_odx, ↓Frz_dix, ↓Frz_otp, ↓W_mulT, ↓W_dropX, ↓W_isiO, ↓W_noX, ↓NX_nx, ↓NX_bk, ↓NX_ct, ↓NX_rt, ↓NXd_int, ↓NXd_bl, ↓NXd_str, ↓NXd_non, ↓NXd_tup, ↓NXd_lst, ↓NXd_own, ↓NXd_otp, ↓W_raise1, ↓W_raise3, ↓W_setX, ↓W_setXF, ↓OnX_exc, ↓OnX_int, ↓OnX_bl, ↓OnX_str, ↓OnX_non, ↓OnX_tup, ↓OnX_lst, ↓OnX_own, ↓OnX_otp, ↓W_tryAs, ↓W_tryO, ↓WX_nx, ↓WX_bk, ↓WX_ct, ↓WX_rt, ↓OnXc_exc, ↓OnXc_int, ↓OnXc_bl, ↓OnXc_str, ↓OnXc_non, ↓OnXc_tup, ↓OnXc_lst, ↓OnXc_own, ↓OnXc_otp, ↓WN_nx, ↓Del_0, ↓Del_s, ↓Frz_exc, ↓W_isX, ↓W_fldX, ↓W_isNX, pu_dix, pu_kt, pu_exc]
        refine W_refused P (by omega) ?_
        unfold refX
        simp! [↓W_newK, ↓W_newT, ↓W_kVal, ↓W_kTup, ↓W_keyI, ↓W_keyS, ↓W_keys0, ↓W_keysC, ↓W_dgetK, ↓W_dgetT, ↓W_dputK, ↓W_dputT, ↓W_dg, ↓W_dgE, ↓W_din, ↓W_dg2, ↓W_dput, ↓W_dupd, ↓W_dictP, ↓W_tupO, ↓W_ixF, ↓W_own2, ↓W_setixN, ↓W_ownT, ↓W_setsl, ↓W_augix, ↓W_owApp, ↓OnDict_o, ↓OnDict_i, ↓OnOdx_o, ↓OnDix_i, ↓OnOtp_o, ↓Frz_odx, ↓Frz_dix, ↓Frz_otp, ↓W_mulT, ↓W_dropX, ↓W_isiO, ↓W_noX, ↓NX_nx, ↓NX_bk, ↓NX_ct, ↓NX_rt, ↓NXd_int, ↓NXd_bl, ↓NXd_str, ↓NXd_non, ↓NXd_tup, ↓NXd_lst, ↓NXd_own, ↓NXd_otp, ↓W_raise1, ↓W_raise3, ↓W_setX, ↓W_setXF, ↓OnX_exc, ↓OnX_int, ↓OnX_bl, ↓OnX_str, ↓OnX_non, ↓OnX_tup, ↓OnX_lst, ↓OnX_own, ↓OnX_otp, ↓W_tryAs, ↓W_tryO, ↓WX_nx, ↓WX_bk, ↓WX_ct, ↓WX_rt, ↓OnXc_exc, ↓OnXc_int, ↓OnXc_bl, ↓OnXc_str, ↓OnXc_non, ↓OnXc_tup, ↓OnXc_lst, ↓OnXc_own, ↓OnXc_otp, ↓WN_nx, ↓Del_0, ↓Del_s, ↓Frz_exc, ↓W_isX, ↓W_fldX, ↓W_isNX, pu_dix, pu_kt, pu_exc]
        refine W_same (d := .non) (by simp [Pd.plain]) (by simp [dep]) ?_
        simp! [↓W_newK, ↓W_newT, ↓W_kVal, ↓W_kTup, ↓W_keyI, ↓W_keyS, ↓W_keys0, ↓W_keysC, ↓W_dgetK, ↓W_dgetT, ↓W_dputK, ↓W_dputT, ↓W_dg, ↓W_dgE, ↓W_din, ↓W_dg2, ↓W_dput, ↓W_dupd, ↓W_dictP, ↓W_tupO, ↓W_ixF, ↓W_own2, ↓W_setixN, ↓W_ownT, ↓W_setsl, ↓W_augix, ↓W_owApp, ↓OnDict_o, ↓OnDict_i, ↓OnOdx_o, ↓OnDix_i, ↓OnOtp_o, ↓Frz_odx, ↓Frz_dix, ↓Frz_otp, ↓W_mulT, ↓W_dropX, ↓W_isiO, ↓W_noX, ↓NX_nx, ↓NX_bk, ↓NX_ct, ↓NX_rt, ↓NXd_int, ↓NXd_bl, ↓NXd_str, ↓NXd_non, ↓NXd_tup, ↓NXd_lst, ↓NXd_own, ↓NXd_otp, ↓W_raise1, ↓W_raise3, ↓W_setX, ↓W_setXF, ↓OnX_exc, ↓OnX_int, ↓OnX_bl, ↓OnX_str, ↓OnX_non, ↓OnX_tup, ↓OnX_lst, ↓OnX_own, ↓OnX_otp, ↓W_tryAs, ↓W_tryO, ↓WX_nx, ↓WX_bk, ↓WX_ct, ↓WX_rt, ↓OnXc_exc, ↓OnXc_int, ↓OnXc_bl, ↓OnXc_str, ↓OnXc_non, ↓OnXc_tup, ↓OnXc_lst, ↓OnXc_own, ↓OnXc_otp, ↓WN_nx, ↓Del_0, ↓Del_s, ↓Frz_exc, ↓W_isX, ↓W_fldX, ↓W_isNX, pu_dix, pu_kt, pu_exc]
        exact ⟨_, _, _, _, _, .inr rfl, rfl⟩
    · obtain ⟨x3, x5, x7, x8, x9, hx3, rfl⟩ := hi
      simp! [↓W_newK, ↓W_newT, ↓W_kVal, ↓W_kTup, ↓W_keyI, ↓W_keyS, ↓W_keys0, ↓W_keysC, ↓W_dgetK, ↓W_dgetT, ↓W_dputK, ↓W_dputT, ↓W_dg, ↓W_dgE, ↓W_din, ↓W_dg2, ↓W_dput, ↓W_dupd, ↓W_dictP, ↓W_tupO, ↓W_ixF, ↓W_own2, ↓W_setixN, ↓W_ownT, ↓W_setsl, ↓W_augix, ↓W_owApp, ↓OnDict_o, ↓OnDict_i, ↓OnOdx_o, ↓OnDix_i, ↓OnOtp_o, ↓Frz_odx, ↓Frz_dix, ↓Frz_otp, ↓W_mulT, ↓W_dropX, ↓W_isiO, ↓W_noX, ↓NX_nx, ↓NX_bk, ↓NX_ct, ↓NX_rt, ↓NXd_int, ↓NXd_bl, ↓NXd_str, ↓NXd_non, ↓NXd_tup, ↓NXd_lst, ↓NXd_own, ↓NXd_otp, ↓W_raise1, ↓W_raise3, ↓W_setX, ↓W_setXF, ↓OnX_exc, ↓OnX_int, ↓OnX_bl, ↓OnX_str, ↓OnX_non, ↓OnX_tup, ↓OnX_lst, ↓OnX_own, ↓OnX_otp, ↓W_tryAs, ↓W_tryO, ↓WX_nx, ↓WX_bk, ↓WX_ct, ↓WX_rt, ↓OnXc_exc, ↓OnXc_int, ↓OnXc_bl, ↓OnXc_str, ↓OnXc_non, ↓OnXc_tup, ↓OnXc_lst, ↓OnXc_own, ↓OnXc_otp, ↓WN_nx, ↓Del_0, ↓Del_s, ↓Frz_exc, ↓W_isX, ↓W_fldX, ↓W_isNX, pu_dix, pu_kt, pu_exc]
      refine Frz_x3 hx3 ⟨rp, ?_⟩
      simp! [↓W_newK, ↓W_newT, ↓W_kVal, ↓W_kTup, ↓W_keyI, ↓W_keyS, ↓W_keys0, ↓W_keysC, ↓W_dgetK, ↓W_dgetT, ↓W_dputK, ↓W_dputT, ↓W_dg, ↓W_dgE, ↓W_din, ↓W_dg2, ↓W_dput, ↓W_dupd, ↓W_dictP, ↓W_tupO, ↓W_ixF, ↓W_own2, ↓W_setixN, ↓W_ownT, ↓W_setsl, ↓W_augix, ↓W_owApp, ↓OnDict_o, ↓OnDict_i, ↓OnOdx_o, ↓OnDix_i, ↓OnOtp_o, ↓Frz_odx, ↓Frz_dix, ↓Frz_otp, ↓W_mulT, ↓W_dropX, ↓W_isiO, ↓W_noX, ↓NX_nx, ↓NX_bk, ↓NX_ct, ↓NX_rt, ↓NXd_int, ↓NXd_bl, ↓NXd_str, ↓NXd_non, ↓NXd_tup, ↓NXd_lst, ↓NXd_own, ↓NXd_otp, ↓W_raise1, ↓W_raise3, ↓W_setX, ↓W_setXF, ↓OnX_exc, ↓OnX_int, ↓OnX_bl, ↓OnX_str, ↓OnX_non, ↓OnX_tup, ↓OnX_lst, ↓OnX_own, ↓OnX_otp, ↓W_tryAs, ↓W_tryO, ↓WX_nx, ↓WX_bk, ↓WX_ct, ↓WX_rt, ↓OnXc_exc, ↓OnXc_int, ↓OnXc_bl, ↓OnXc_str, ↓OnXc_non, ↓OnXc_tup, ↓OnXc_lst, ↓OnXc_own, ↓OnXc_otp, ↓WN_nx, ↓Del_0, ↓Del_s, ↓Frz_exc, ↓W_isX, ↓W_fldX, ↓W_isNX, pu_dix, pu_kt, pu_exc]
      exact ⟨_, _, _, _, _, _, _, _, _, rfl⟩
  · obtain ⟨x1, x2, x3, x4, x5, x6, x7, x8, x9, rfl⟩ := e
    simp! [↓W_newK, ↓W_newT, ↓W_kVal, ↓W_kTup, ↓W_keyI, ↓W_keyS, ↓W_keys0, ↓W_keysC, ↓W_dgetK, ↓W_dgetT, ↓W_dputK, ↓W_dputT, ↓W_dg, ↓W_dgE, ↓W_din, ↓W_dg2, ↓W_dput, ↓W_dupd, ↓W_dictP, ↓W_tupO, ↓W_ixF, ↓W_own2, ↓W_setixN, ↓W_ownT, ↓W_setsl, ↓W_augix, ↓W_owApp, ↓OnDict_o, ↓OnDict_i, ↓OnOdx_o, ↓OnDix_i, ↓OnOtp_o, ↓Frz_odx, ↓Frz_dix, ↓Frz_otp, ↓W_mulT, ↓W_dropX, ↓W_isiO, ↓W_noX, ↓NX_nx, ↓NX_bk, ↓NX_ct, ↓NX_rt, ↓NXd_int, ↓NXd_bl, ↓NXd_str, ↓NXd_non, ↓NXd_tup, ↓NXd_lst, ↓NXd_own, ↓NXd_otp, ↓W_raise1, ↓W_raise3, ↓W_setX, ↓W_setXF, ↓OnX_exc, ↓OnX_int, ↓OnX_bl, ↓OnX_str, ↓OnX_non, ↓OnX_tup, ↓OnX_lst, ↓OnX_own, ↓OnX_otp, ↓W_tryAs, ↓W_tryO, ↓WX_nx, ↓WX_bk, ↓WX_ct, ↓WX_rt, ↓OnXc_exc, ↓OnXc_int, ↓OnXc_bl, ↓OnXc_str, ↓OnXc_non, ↓OnXc_tup, ↓OnXc_lst, ↓OnXc_own, ↓OnXc_otp, ↓WN_nx, ↓Del_0, ↓Del_s, ↓Frz_exc, ↓W_isX, ↓W_fldX, ↓W_isNX, pu_dix, pu_kt, pu_exc]
end Yk14

namespace Yk14
open PySem PySem.Spec PyProof.Rows L2 Pd

theorem law_fd {l : PySem.W.OpenLaw} {w : World} {K : PySem.W.Frag} {mg : Str → Option Value} {fa : Addr} (T : Tx K mg) (hfa : mg "law" = some (.ref fa)) :
    ∃ fd : FuncData, (∀ (s : Shared) (v : Value), BindsTo s fd ⟨[v], []⟩ [("_law_script", v)]) ∧ ∀ base : Heap, K.In base → base.Ns mainGlobals mg → FnG l.prog w K mg base 13 fa fd ["_law_script"] (spC K 1 [] c_law) := by
  obtain ⟨f, fd, F⟩ := T.d_law
  have e := hfa.symm.trans F.g
  cases e
  refine ⟨fd, fun s v => ?_, fun base _ _ => ?_⟩
  · obtain ⟨oc, od, kV, doc, pm, an, cdv, ct, osl, rfl, lk, hcd⟩ := F.F.ex
    exact .of_eq rfl
  · exact ok_law T F
end Yk14
open PySem PySem.W PyProof.Rows
set_option maxHeartbeats 0 in
theorem PySem.Challenge.cw_caseways_k14_rows_read_beyond_holds : PySem.Challenge.rw_caseways_k14_rows_read_beyond.Holds := by
  w_on; o_law; k_head; (case hw => w_witness2)
  k_fill
  refine Pd.walkG (l := PySem.Challenge.rw_caseways_k14_rows_read_beyond) (n := 63) (k := 13) (x := "_law_script") (C := Yk14.c_law) rfl (by decide) rfl ⟨⟨rfl, by decide, by decide⟩, rfl⟩ (fun w h Y => PySem.W.kIn_of Y) ?F (fun ns h => Yk14.law_true ns h)
  case F =>
    intro w mg fa h KX G hmg
    refine' Yk14.law_fd (Yk14.tx_mk KX G ?a0 ?l0 ?k0 ?p0 ?a1 ?l1 ?k1 ?p1 ?a2 ?l2 ?k2 ?p2 ?a3 ?l3 ?k3 ?p3 ?a4 ?l4 ?k4 ?p4 ?a5 ?l5 ?k5 ?p5 ?a6 ?l6 ?k6 ?p6 ?a7 ?l7 ?k7 ?p7 ?a8 ?l8 ?k8 ?p8 ?a9 ?l9 ?k9 ?p9 ?a10 ?l10 ?k10 ?p10 ?a11 ?l11 ?k11 ?p11 ?z_ValueError ?z_abs ?z_all ?z_bool ?z_int ?z_isinstance ?z_len ?z_list ?z_min ?z_range ?z_repr ?z_str ?z_tuple ?z_zip ?cg ?ct ?n_CaseError ?w1_CaseError ?w2_CaseError ?w3_CaseError ?w4_CaseError ?w5_CaseError ?w6_CaseError ?w7_CaseError ?w8_CaseError ?n_Twice ?w1_Twice ?w2_Twice ?w3_Twice ?w4_Twice ?w5_Twice ?w6_Twice ?w7_Twice ?w8_Twice ?n_Beyond ?w1_Beyond ?w2_Beyond ?w3_Beyond ?w4_Beyond ?w5_Beyond ?w6_Beyond ?w7_Beyond ?w8_Beyond ?n_TooNarrow ?w1_TooNarrow ?w2_TooNarrow ?w3_TooNarrow ?w4_TooNarrow ?w5_TooNarrow ?w6_TooNarrow ?w7_TooNarrow ?w8_TooNarrow ?n_NoStretch ?w1_NoStretch ?w2_NoStretch ?w3_NoStretch ?w4_NoStretch ?w5_NoStretch ?w6_NoStretch ?w7_NoStretch ?w8_NoStretch ?n_BadText ?w1_BadText ?w2_BadText ?w3_BadText ?w4_BadText ?w5_BadText ?w6_BadText ?w7_BadText ?w8_BadText ?i_CaseError_Twice ?i_CaseError_Beyond ?i_CaseError_TooNarrow ?i_CaseError_NoStretch ?i_CaseError_BadText ?i_Twice_Twice ?i_Twice_Beyond ?j_Twice_Beyond ?i_Twice_TooNarrow ?j_Twice_TooNarrow ?i_Twice_NoStretch ?j_Twice_NoStretch ?i_Twice_BadText ?j_Twice_BadText ?i_Beyond_Twice ?j_Beyond_Twice ?i_Beyond_Beyond ?i_Beyond_TooNarrow ?j_Beyond_TooNarrow ?i_Beyond_NoStretch ?j_Beyond_NoStretch ?i_Beyond_BadText ?j_Beyond_BadText ?i_TooNarrow_Twice ?j_TooNarrow_Twice ?i_TooNarrow_Beyond ?j_TooNarrow_Beyond ?i_TooNarrow_TooNarrow ?i_TooNarrow_NoStretch ?j_TooNarrow_NoStretch ?i_TooNarrow_BadText ?j_TooNarrow_BadText ?i_NoStretch_Twice ?j_NoStretch_Twice ?i_NoStretch_Beyond ?j_NoStretch_Beyond ?i_NoStretch_TooNarrow ?j_NoStretch_TooNarrow ?i_NoStretch_NoStretch ?i_NoStretch_BadText ?j_NoStretch_BadText ?i_BadText_Twice ?j_BadText_Twice ?i_BadText_Beyond ?j_BadText_Beyond ?i_BadText_TooNarrow ?j_BadText_TooNarrow ?i_BadText_NoStretch ?j_BadText_NoStretch ?i_BadText_BadText ?i_ValueError_BadText ?i_ValueError_NoStretch ?i_ValueError_TooNarrow ?i_ValueError_Beyond ?i_ValueError_Twice ?f_number_Twice ?f_one_Twice ?f_other_Twice ?f_place_NoStretch ?f_row_BadText ?f_row_Beyond ?ce1 ?ce2 ?ce3 ?lC_Beyond ?rv_Beyond ?iC_Beyond ?sa_Beyond ?tI_Beyond ?no_Beyond_row ?lI_Beyond ?kI_Beyond ?pI_Beyond) hmg
    (case a0 => k_is); (case l0 => k_is); (case k0 => k_is); (case p0 => k_is); (case a1 => k_is); (case l1 => k_is); (case k1 => k_is); (case p1 => k_is); (case a2 => k_is); (case l2 => k_is); (case k2 => k_is); (case p2 => k_is); (case a3 => k_is); (case l3 => k_is); (case k3 => k_is); (case p3 => k_is); (case a4 => k_is); (case l4 => k_is); (case k4 => k_is); (case p4 => k_is); (case a5 => k_is); (case l5 => k_is); (case k5 => k_is); (case p5 => k_is); (case a6 => k_is); (case l6 => k_is); (case k6 => k_is); (case p6 => k_is); (case a7 => k_is); (case l7 => k_is); (case k7 => k_is); (case p7 => k_is); (case a8 => k_is); (case l8 => k_is); (case k8 => k_is); (case p8 => k_is); (case a9 => k_is); (case l9 => k_is); (case k9 => k_is); (case p9 => k_is); (case a10 => k_is); (case l10 => k_is); (case k10 => k_is); (case p10 => k_is); (case a11 => k_is); (case l11 => k_is); (case k11 => k_is); (case p11 => k_is); (case z_ValueError => k_is); (case z_abs => k_is); (case z_all => k_is); (case z_bool => k_is); (case z_int => k_is); (case z_isinstance => k_is); (case z_len => k_is); (case z_list => k_is); (case z_min => k_is); (case z_range => k_is); (case z_repr => k_is); (case z_str => k_is); (case z_tuple => k_is); (case z_zip => k_is); (case cg => k_is); (case ct => k_is); (case n_CaseError => k_is); (case w1_CaseError => k_is); (case w2_CaseError => k_is); (case w3_CaseError => k_is); (case w4_CaseError => k_is); (case w5_CaseError => k_is); (case w6_CaseError => k_is); (case w7_CaseError => k_is); (case w8_CaseError => k_is); (case n_Twice => k_is); (case w1_Twice => k_is); (case w2_Twice => k_is); (case w3_Twice => k_is); (case w4_Twice => k_is); (case w5_Twice => k_is); (case w6_Twice => k_is); (case w7_Twice => k_is); (case w8_Twice => k_is); (case n_Beyond => k_is); (case w1_Beyond => k_is); (case w2_Beyond => k_is); (case w3_Beyond => k_is); (case w4_Beyond => k_is); (case w5_Beyond => k_is); (case w6_Beyond => k_is); (case w7_Beyond => k_is); (case w8_Beyond => k_is); (case n_TooNarrow => k_is); (case w1_TooNarrow => k_is); (case w2_TooNarrow => k_is); (case w3_TooNarrow => k_is); (case w4_TooNarrow => k_is); (case w5_TooNarrow => k_is); (case w6_TooNarrow => k_is); (case w7_TooNarrow => k_is); (case w8_TooNarrow => k_is); (case n_NoStretch => k_is); (case w1_NoStretch => k_is); (case w2_NoStretch => k_is); (case w3_NoStretch => k_is); (case w4_NoStretch => k_is); (case w5_NoStretch => k_is); (case w6_NoStretch => k_is); (case w7_NoStretch => k_is); (case w8_NoStretch => k_is); (case n_BadText => k_is); (case w1_BadText => k_is); (case w2_BadText => k_is); (case w3_BadText => k_is); (case w4_BadText => k_is); (case w5_BadText => k_is); (case w6_BadText => k_is); (case w7_BadText => k_is); (case w8_BadText => k_is); (case i_CaseError_Twice => k_is); (case i_CaseError_Beyond => k_is); (case i_CaseError_TooNarrow => k_is); (case i_CaseError_NoStretch => k_is); (case i_CaseError_BadText => k_is); (case i_Twice_Twice => k_is); (case i_Twice_Beyond => k_is); (case j_Twice_Beyond => decide); (case i_Twice_TooNarrow => k_is); (case j_Twice_TooNarrow => decide); (case i_Twice_NoStretch => k_is); (case j_Twice_NoStretch => decide); (case i_Twice_BadText => k_is); (case j_Twice_BadText => decide); (case i_Beyond_Twice => k_is); (case j_Beyond_Twice => decide); (case i_Beyond_Beyond => k_is); (case i_Beyond_TooNarrow => k_is); (case j_Beyond_TooNarrow => decide); (case i_Beyond_NoStretch => k_is); (case j_Beyond_NoStretch => decide); (case i_Beyond_BadText => k_is); (case j_Beyond_BadText => decide); (case i_TooNarrow_Twice => k_is); (case j_TooNarrow_Twice => decide); (case i_TooNarrow_Beyond => k_is); (case j_TooNarrow_Beyond => decide); (case i_TooNarrow_TooNarrow => k_is); (case i_TooNarrow_NoStretch => k_is); (case j_TooNarrow_NoStretch => decide); (case i_TooNarrow_BadText => k_is); (case j_TooNarrow_BadText => decide); (case i_NoStretch_Twice => k_is); (case j_NoStretch_Twice => decide); (case i_NoStretch_Beyond => k_is); (case j_NoStretch_Beyond => decide); (case i_NoStretch_TooNarrow => k_is); (case j_NoStretch_TooNarrow => decide); (case i_NoStretch_NoStretch => k_is); (case i_NoStretch_BadText => k_is); (case j_NoStretch_BadText => decide); (case i_BadText_Twice => k_is); (case j_BadText_Twice => decide); (case i_BadText_Beyond => k_is); (case j_BadText_Beyond => decide); (case i_BadText_TooNarrow => k_is); (case j_BadText_TooNarrow => decide); (case i_BadText_NoStretch => k_is); (case j_BadText_NoStretch => decide); (case i_BadText_BadText => k_is); (case i_ValueError_BadText => k_is); (case i_ValueError_NoStretch => k_is); (case i_ValueError_TooNarrow => k_is); (case i_ValueError_Beyond => k_is); (case i_ValueError_Twice => k_is); (case f_number_Twice => k_is); (case f_one_Twice => k_is); (case f_other_Twice => k_is); (case f_place_NoStretch => k_is); (case f_row_BadText => k_is); (case f_row_Beyond => k_is); (case ce1 => k_is); (case ce2 => k_is); (case ce3 => k_is); (case lC_Beyond => k_is); (case rv_Beyond => rfl); (case iC_Beyond => k_is); (case sa_Beyond => k_is); (case tI_Beyond => k_is); (case no_Beyond_row => k_is); (case lI_Beyond => k_is); (case kI_Beyond => k_is); (case pI_Beyond => k_is)

