import PyProof.Rows.All
import Wide.All
import OpenK.AllK
import Wide.FinOn
import HandS.ForMost
import HandS.Deep
import HandS.Walk
import HandS.Zip
import HandS.Flow
import HandS.Style
import HandS.TupAny
import HandS.Conv
import KE.SortData
import KE.DataMinMax
import KE.KDictKeyed
import KE.GoesMore
import HandS.More
import PyProof.AutoSeq1
import KE.DataEq
import PyProof.SeqIndex
import KE.KDictDisplayH
import KE.KDictPairs
import PySem.Challenge.RW_roadwalked_k10_whole_known_a_bell_in_a_f
set_option Elab.async false
set_option linter.all false
set_option maxRecDepth 100000
set_option maxHeartbeats 4000000
namespace DL
open PySem PySem.Spec PyProof.Rows L2

abbrev D := PyData
/-- the slots' data -/
abbrev Sl := List (Option D)

/-! ### heaps -/
structure Stp (H G H' G' : Hp) : Prop where
  hh : ∀ a o, H a = some o → H' a = some o
  gg : ∀ a o, G a = some o → G' a = some o
  gh : ∀ a o, G' a = some o → H' a = some o
  old : ∀ a o, H a = some o → G' a = G a
theorem Stp.refl {H G : Hp} (h : ∀ a o, G a = some o → H a = some o) : Stp H G H G := ⟨fun _ _ e => e, fun _ _ e => e, h, fun _ _ _ => rfl⟩
theorem Stp.trans {H G H1 G1 H2 G2 : Hp} (a : Stp H G H1 G1) (b : Stp H1 G1 H2 G2) : Stp H G H2 G2 :=
  ⟨fun p o e => b.hh p o (a.hh p o e), fun p o e => b.gg p o (a.gg p o e), b.gh, fun p o e => (b.old p o (a.hh p o e)).trans (a.old p o e)⟩
/-- a new object, frozen at once -/
theorem Stp.frz {H G : Hp} {p : Addr} {o : HO} (h : ∀ a o, G a = some o → H a = some o) (hp : H p = none) : Stp H G (upd H p o) (upd G p o) := by
  refine ⟨fun a u e => ?_, fun a u e => ?_, fun a u e => ?_, fun a u e => ?_⟩
  · rw [upd_ne (ne_of_none e hp)]; exact e
  · rw [upd_ne (ne_of_none (h a u e) hp)]; exact e
  · by_cases z : a = p
    · subst z; rw [upd_same] at e ⊢; exact e
    · rw [upd_ne z] at e ⊢; exact h a u e
  · rw [upd_ne (ne_of_none e hp)]
/-- a new object, not frozen -/
theorem Stp.own {H G : Hp} {p : Addr} {o : HO} (h : ∀ a o, G a = some o → H a = some o) (hp : H p = none) : Stp H G (upd H p o) G := by
  refine ⟨fun a u e => ?_, fun a u e => e, fun a u e => ?_, fun a u e => rfl⟩
  · rw [upd_ne (ne_of_none e hp)]; exact e
  · rw [upd_ne (ne_of_none (h a u e) hp)]; exact h a u e

/-! ### what a value is -/
/-- a dict whose keys are tuples is told apart by its first entry -/
def mkK (kvs : List (D × D)) : D := .dict kvs
def mkT (kvs : List (D × D)) : D := .dict ((.none, .none) :: kvs)
/-- the object at a, told whole -/
def Kn (a : Addr) (ob : Obj) : HO := .ext fun h => h.get? a = some ob

def keyD : D → Option Key
  | .int i => some (.inl i)
  | .str x => some (.inr x)
  | _ => none
mutual
def keyT : D → Option NestedKey
  | .none => some .none
  | .bool b => some (.num (if b = true then 1 else 0))
  | .int i => some (.num i)
  | .str x => some (.text x)
  | .tuple ds => (keyTs ds).map .tup
  | .list _ => none
  | .dict _ => none
def keyTs : List D → Option (List NestedKey)
  | [] => some []
  | d :: ds => match keyT d, keyTs ds with
    | some k, some ks => some (k :: ks)
    | _, _ => none
end


/-- a tuple that stands still, its object known to have no dict of its own -/
def TupF (K : PySem.W.Frag) (G : Hp) (a : Addr) (xs : List V) : Prop := (∃ o, G a = some (.frz o (.tup xs)) ∧ o.dict = none) ∨
  ∃ (o : Obj) (its : Array Value) (n : Nat), K.lookup a = some o ∧ o.cls = .type "tuple" ∧ o.data = .seq its n ∧ its.size ≤ sizeLine ∧ Vals xs its.toList ∧ o.dict = none
theorem TupF.sq {K : PySem.W.Frag} {G : Hp} {a : Addr} {xs : List V} (h : TupF K G a xs) : SqT K G a xs := by
  rcases h with ⟨o, h, _⟩ | ⟨o, its, n, h1, h2, h3, h4, h5, _⟩
  · exact .inl (.inr ⟨o, h⟩)
  · exact .inr ⟨o, its, n, h1, h2, h3, h4, h5⟩
mutual
inductive Dq (K : PySem.W.Frag) (H : Hp) : V → PyData → Prop
  | non : Dq K H .non .none
  | bl (b : Bool) : Dq K H (.bl b) (.bool b)
  | int (i : Int) : Dq K H (.int i) (.int i)
  | str (x : Str) : Dq K H (.str x) (.str x)
  | lst {a : Addr} {xs : List V} {ds : List PyData} : SqL K H a xs → DqAll K H xs ds → Dq K H (.ref a) (.list ds)
  | tup {a : Addr} {xs : List V} {ds : List PyData} : TupF K H a xs → DqAll K H xs ds → Dq K H (.ref a) (.tuple ds)
inductive DqAll (K : PySem.W.Frag) (H : Hp) : List V → List PyData → Prop
  | nil : DqAll K H [] []
  | cons {v : V} {vs : List V} {d : PyData} {ds : List PyData} : Dq K H v d → DqAll K H vs ds → DqAll K H (v :: vs) (d :: ds)
end
mutual
theorem dq_dp {K : PySem.W.Frag} {H : Hp} : ∀ (d : D) (v : V), Dq K H v d → Dp K H v d
  | .none, _, h => by cases h; exact .non
  | .bool _, _, h => by cases h; exact .bl _
  | .int _, _, h => by cases h; exact .int _
  | .str _, _, h => by cases h; exact .str _
  | .list ds, _, h => by
    cases h with
    | lst hs ha => exact .lst hs (dqa_dp ds _ ha)
  | .tuple ds, _, h => by
    cases h with
    | tup hs ha => exact .tup hs.sq (dqa_dp ds _ ha)
  | .dict _, _, h => by cases h
theorem dqa_dp {K : PySem.W.Frag} {H : Hp} : ∀ (ds : List D) (vs : List V), DqAll K H vs ds → DpAll K H vs ds
  | [], _, h => by cases h; exact .nil
  | d :: ds, _, h => by
    cases h with
    | cons h1 h2 => exact .cons (dq_dp d _ h1) (dqa_dp ds _ h2)
end
section
variable (P : Program) (w : World) (K : PySem.W.Frag)
def KvD (G : Hp) : List (Key × Value) → List (D × D) → Prop := Paired fun p q => keyD q.1 = some p.1 ∧ ∃ v, L2.RelV v p.2 ∧ Dq K G v q.2
def KtD (G : Hp) : List (NestedKey × Addr × Value) → List (D × D) → Prop := Paired fun p q => keyT q.1 = some p.1 ∧ p.1.depth ≤ 8 ∧ (∃ ds, q.1 = .tuple ds) ∧ Dq K G (.ref p.2.1) q.1 ∧ ∃ v, L2.RelV v p.2.2 ∧ Dq K G v q.2
/-- a dict object with keys that are ints and texts -/
structure RepK (a : Addr) (ob : Obj) (vs : List (Key × Value)) : Prop where
  ex : ∀ h : Heap, h.get? a = some ob → h.DictOf (mixKind P w) a vs
  len : vs.length ≤ sizeLine
  sys : (a == sysModules) = false
/-- a dict object with tuple keys -/
structure DictRep (a : Addr) (ob : Obj) (xs : List (NestedKey × Addr × Value)) : Prop where
  ex : ∃ es ep, ob.ExactDict ∧ ob.data = .dict es ep ∧ es.toList = xs.map (entryOfKey (nestedKind P w))
  nd : (xs.map (·.1)).Nodup
  len : xs.length ≤ sizeLine
  sys : (a == sysModules) = false
def ObjD (G : Hp) (a : Addr) (o : HO) : D → Prop
  | .list ds => ∃ xs, o = .lst xs ∧ DqAll K G xs ds
  | .dict ((.none, _) :: kvs) => ∃ ob xs, o = Kn a ob ∧ DictRep P w a ob xs ∧ KtD K G xs kvs
  | .dict kvs => ∃ ob vs, o = Kn a ob ∧ RepK P w a ob vs ∧ KvD K G vs kvs
  | _ => False
/-- v is d, and stays so -/
def DenT (G : Hp) (v : V) (d : D) : Prop := Dq K G v d ∨ ∃ p o, v = .ref p ∧ G p = some o ∧ ObjD P w K G p o d
/-- v is d now: its own object may change later -/
def ObsT (H G : Hp) (v : V) (d : D) : Prop := DenT P w K G v d ∨ ∃ p o, v = .ref p ∧ H p = some o ∧ ObjD P w K G p o d
def ObsAll (H G : Hp) : List V → List D → Prop := Paired (ObsT P w K H G)
end

section
variable {P : Program} {w : World} {K : PySem.W.Frag} {G G' H H' : Hp}
theorem Rd.up {a : Addr} {u : HO} (g : ∀ a o, G a = some o → G' a = some o) (h : Rd G a u) : Rd G' a u := by
  rcases h with h | ⟨o, h⟩
  · exact .inl (g _ _ h)
  · exact .inr ⟨o, g _ _ h⟩
theorem SqL.up {a : Addr} {xs : List V} (g : ∀ a o, G a = some o → G' a = some o) (h : SqL K G a xs) : SqL K G' a xs := by
  rcases h with (h | ⟨o, h⟩) | h
  · exact .inl (.inl (g _ _ h))
  · exact .inl (.inr ⟨o, g _ _ h⟩)
  · exact .inr h
theorem TupF.up {a : Addr} {xs : List V} (g : ∀ a o, G a = some o → G' a = some o) (h : TupF K G a xs) : TupF K G' a xs := by
  rcases h with ⟨o, h, z⟩ | h
  · exact .inl ⟨o, g _ _ h, z⟩
  · exact .inr h
theorem SqT.up {a : Addr} {xs : List V} (g : ∀ a o, G a = some o → G' a = some o) (h : SqT K G a xs) : SqT K G' a xs := by
  rcases h with (h | ⟨o, h⟩) | h
  · exact .inl (.inl (g _ _ h))
  · exact .inl (.inr ⟨o, g _ _ h⟩)
  · exact .inr h
mutual
theorem dpUp (g : ∀ a o, G a = some o → G' a = some o) : ∀ (d : D) (v : V), Dq K G v d → Dq K G' v d
  | .none, _, h => by cases h; exact .non
  | .bool _, _, h => by cases h; exact .bl _
  | .int _, _, h => by cases h; exact .int _
  | .str _, _, h => by cases h; exact .str _
  | .list ds, _, h => by
    cases h with
    | lst hs ha => exact .lst (SqL.up g hs) (dpAllUp g ds _ ha)
  | .tuple ds, _, h => by
    cases h with
    | tup hs ha => exact .tup (TupF.up g hs) (dpAllUp g ds _ ha)
  | .dict _, _, h => by cases h
theorem dpAllUp (g : ∀ a o, G a = some o → G' a = some o) : ∀ (ds : List D) (vs : List V), DqAll K G vs ds → DqAll K G' vs ds
  | [], _, h => by cases h; exact .nil
  | d :: ds, _, h => by
    cases h with
    | cons h1 h2 => exact .cons (dpUp g d _ h1) (dpAllUp g ds _ h2)
end
theorem dp_up {v : V} {d : D} (h : Dq K G v d) (g : ∀ a o, G a = some o → G' a = some o) : Dq K G' v d := dpUp g d v h
theorem dpa_up {vs : List V} {ds : List D} (h : DqAll K G vs ds) (g : ∀ a o, G a = some o → G' a = some o) : DqAll K G' vs ds := dpAllUp g ds vs h
theorem dpa_len : ∀ {vs : List V} {ds : List D}, DqAll K G vs ds → vs.length = ds.length
  | _, _, .nil => rfl
  | _, _, .cons _ h => by rw [List.length_cons, List.length_cons, dpa_len h]
theorem dpa_get : ∀ {vs : List V} {ds : List D} {i : Nat} {d : D}, DqAll K G vs ds → ds[i]? = some d → ∃ v, vs[i]? = some v ∧ Dq K G v d
  | _, _, _, _, .nil, e => by simp at e
  | _, _, 0, _, .cons h _, e => by simp at e; subst e; exact ⟨_, rfl, h⟩
  | _, _, i + 1, d, .cons _ t, e => by
    obtain ⟨v, h1, h2⟩ := dpa_get (i := i) t (by simpa using e)
    exact ⟨v, by simpa using h1, h2⟩
theorem dpa_getV : ∀ {vs : List V} {ds : List D} {i : Nat} {v : V}, DqAll K G vs ds → vs[i]? = some v → ∃ d, ds[i]? = some d ∧ Dq K G v d
  | _, _, _, _, .nil, e => by simp at e
  | _, _, 0, _, .cons h _, e => by simp at e; subst e; exact ⟨_, rfl, h⟩
  | _, _, i + 1, d, .cons _ t, e => by
    obtain ⟨v, h1, h2⟩ := dpa_getV (i := i) t (by simpa using e)
    exact ⟨v, by simpa using h1, h2⟩
theorem dpa_app : ∀ {vs us : List V} {ds es : List D}, DqAll K G vs ds → DqAll K G us es → DqAll K G (vs ++ us) (ds ++ es)
  | _, _, _, _, .nil, h => h
  | _, _, _, _, .cons h t, h' => .cons h (dpa_app t h')
theorem dpa_take : ∀ {vs : List V} {ds : List D} (n : Nat), DqAll K G vs ds → DqAll K G (vs.take n) (ds.take n)
  | _, _, 0, _ => by simp; exact .nil
  | _, _, _ + 1, .nil => by simp; exact .nil
  | _, _, n + 1, .cons h t => by simp only [List.take_succ_cons]; exact .cons h (dpa_take n t)
theorem dpa_drop : ∀ {vs : List V} {ds : List D} (n : Nat), DqAll K G vs ds → DqAll K G (vs.drop n) (ds.drop n)
  | _, _, 0, h => h
  | _, _, _ + 1, .nil => .nil
  | _, _, n + 1, .cons _ t => dpa_drop n t
theorem dpa_rev : ∀ {vs : List V} {ds : List D}, DqAll K G vs ds → DqAll K G vs.reverse ds.reverse
  | _, _, .nil => .nil
  | _, _, .cons h t => by rw [List.reverse_cons, List.reverse_cons]; exact dpa_app (dpa_rev t) (.cons h .nil)
theorem KvD.up {l : List (Key × Value)} {kvs : List (D × D)} (h : KvD K G l kvs) (g : ∀ a o, G a = some o → G' a = some o) : KvD K G' l kvs := Paired.mapP h fun _ _ ⟨a, v, r, z⟩ => ⟨a, v, r, dp_up z g⟩
theorem KtD.up {l : List (NestedKey × Addr × Value)} {kvs : List (D × D)} (h : KtD K G l kvs) (g : ∀ a o, G a = some o → G' a = some o) : KtD K G' l kvs := Paired.mapP h fun _ _ ⟨a, b, c, d, v, r, e⟩ => ⟨a, b, c, dp_up d g, v, r, dp_up e g⟩
theorem ObjD.up {a : Addr} {o : HO} {d : D} (h : ObjD P w K G a o d) (g : ∀ a o, G a = some o → G' a = some o) : ObjD P w K G' a o d := by
  unfold ObjD at h ⊢
  split
  · obtain ⟨xs, e, h⟩ := h; exact ⟨xs, e, dpa_up h g⟩
  · obtain ⟨ob, xs, e, r, h⟩ := h; exact ⟨ob, xs, e, r, KtD.up h g⟩
  · rename_i hne
    split at h
    · rename_i heq; cases heq
    · rename_i heq; cases heq; exact absurd rfl (hne _ _)
    · rename_i heq; cases heq
      obtain ⟨ob, l, e, r, h⟩ := h
      exact ⟨ob, l, e, r, KvD.up h g⟩
    · rename_i q _ ; exact h.elim
  · rename_i h1 h2 h3
    split at h
    · exact absurd rfl (h1 _)
    · exact absurd rfl (h2 _ _)
    · exact absurd rfl (h3 _)
    · exact h
theorem DenT.up {v : V} {d : D} (h : DenT P w K G v d) (g : ∀ a o, G a = some o → G' a = some o) : DenT P w K G' v d := by
  rcases h with h | ⟨p, o, e, h, q⟩
  · exact .inl (dp_up h g)
  · exact .inr ⟨p, o, e, g _ _ h, q.up g⟩
theorem ObsT.up {v : V} {d : D} (h : ObsT P w K H G v d) (s : Stp H G H' G') : ObsT P w K H' G' v d := by
  rcases h with h | ⟨p, o, e, h, q⟩
  · exact .inl (h.up s.gg)
  · exact .inr ⟨p, o, e, s.hh _ _ h, q.up s.gg⟩
theorem ObsAll.up {vs : List V} {ds : List D} (h : ObsAll P w K H G vs ds) (s : Stp H G H' G') : ObsAll P w K H' G' vs ds := Paired.mapP h fun _ _ z => z.up s
end
end DL
namespace DL
open PySem PySem.Spec PyProof.Rows L2

/-- how a block ends -/
inductive Out where
  | nx (ρ : Sl)
  | rt (d : D)

/-- the heap at a def's entry, and where the object of its first parameter stands, if that is to be told at the end -/
structure Bs where
  fn : Hp
  pin : Option Addr
instance : CoeFun Bs (fun _ => Hp) := ⟨Bs.fn⟩
section
variable (P : Program) (w : World) (K : PySem.W.Frag)
/-- B: the heap at the def's entry; G0: what was frozen then; O: the slots that own their objects -/
structure Rel (B : Bs) (G0 : Hp) (O : List Nat) (ρ : Sl) (σ : L2.St) (H G : Hp) : Prop where
  len : σ.length = ρ.length
  bh : ∀ a o, B a = some o → H a = some o
  gh : ∀ a o, G a = some o → H a = some o
  gg : ∀ a o, G0 a = some o → G a = some o
  bg : ∀ a o, B a = some o → G a = G0 a
  val : ∀ i d, ρ[i]? = some (some d) → i ∉ O → ∃ v, σ[i]? = some (some v) ∧ DenT P w K G v d
  own : ∀ i d, ρ[i]? = some (some d) → i ∈ O → ∃ p o, σ[i]? = some (some (.ref p)) ∧ H p = some o ∧ G p = none ∧ B p = none ∧ ObjD P w K G p o d
  sep : ∀ i j p d e, i ∈ O → j ∈ O → σ[i]? = some (some (.ref p)) → σ[j]? = some (some (.ref p)) → ρ[i]? = some (some d) → ρ[j]? = some (some e) → i = j
  pin : ∀ p d, B.pin = some p → 0 ∈ O → ρ[0]? = some (some d) → σ[0]? = some (some (.ref p))

def tD (O : List Nat) (f : Sl → Option D) : TE := fun σ H Q => ∃ B G0 G ρ d, Rel P w K B G0 O ρ σ H G ∧ f ρ = some d ∧ ∀ v H' G', Stp H G H' G' → DenT P w K G' v d → Q v H'
def tP (O : List Nat) (f : Sl → Option D) : TE := fun σ H Q => ∃ B G0 G ρ d, Rel P w K B G0 O ρ σ H G ∧ f ρ = some d ∧ ∀ v H' G', Stp H G H' G' → ObsT P w K H' G' v d → Q v H'
/-- a new object that nobody else has -/
def tF (O : List Nat) (f : Sl → Option D) : TE := fun σ H Q => ∃ B G0 G ρ d, Rel P w K B G0 O ρ σ H G ∧ f ρ = some d ∧ ∀ p o H' G', Stp H G H' G' → H p = none → H' p = some o → G' p = none → ObjD P w K G' p o d → Q (.ref p) H'
def tT (O : List Nat) (f : Sl → Option Bool) : TT := fun σ H Q => ∃ B G0 G ρ b, Rel P w K B G0 O ρ σ H G ∧ f ρ = some b ∧ ∀ H' G', Stp H G H' G' → Q b H'
def tDA (O : List Nat) (f : Sl → Option (List D)) : TA := fun σ H Q => ∃ B G0 G ρ ds, Rel P w K B G0 O ρ σ H G ∧ f ρ = some ds ∧ ∀ vs H' G', Stp H G H' G' → Paired (DenT P w K G') vs ds → Q vs H'
def tPA (O : List Nat) (f : Sl → Option (List D)) : TA := fun σ H Q => ∃ B G0 G ρ ds, Rel P w K B G0 O ρ σ H G ∧ f ρ = some ds ∧ ∀ vs H' G', Stp H G H' G' → ObsAll P w K H' G' vs ds → Q vs H'
/-- a target whose slots are among vs and own nothing -/
def tG (O : List Nat) (vs : List Nat) (t : D → Sl → Option Sl) : TG := fun v σ H Q => ∃ B G0 G ρ d ρ', Rel P w K B G0 O ρ σ H G ∧ DenT P w K G v d ∧ t d ρ = some ρ' ∧ ∀ σ', Rel P w K B G0 O ρ' σ' H G → wipe σ' vs = wipe σ vs → Q σ' H
def tGs (O : List Nat) (vs : List Nat) (t : List D → Sl → Option Sl) : TGs := fun us σ H Q => ∃ B G0 G ρ ds ρ', Rel P w K B G0 O ρ σ H G ∧ DqAll K G us ds ∧ t ds ρ = some ρ' ∧ ∀ σ', Rel P w K B G0 O ρ' σ' H G → wipe σ' vs = wipe σ vs → Q σ' H
/-- what a loop over ds gives, while S stands -/
def ItD (J : It) (ds : List D) (S G : Hp) : Prop := ∃ Y, Walk J ds.length (fun H => ∀ a o, S a = some o → H a = some o) Y ∧
  ∀ i x H H' G2 d, ds[i]? = some d → Y i H x H' → (∀ a o, S a = some o → H a = some o) → (∀ a o, G a = some o → G2 a = some o) → (∀ a o, G2 a = some o → H a = some o) → ∃ G3, Stp H G2 H' G3 ∧ Dq K G3 x d
def tI (O : List Nat) (f : Sl → Option (List D)) : TI := fun σ H R => ∃ B G0 G ρ ds, Rel P w K B G0 O ρ σ H G ∧ f ρ = some ds ∧ ∀ J H' G', Stp H G H' G' → ItD K J ds G' G' → R J H'
def tIP (O : List Nat) (f : Sl → Option (List D)) : TI := fun σ H R => ∃ B G0 G ρ ds, Rel P w K B G0 O ρ σ H G ∧ f ρ = some ds ∧ ∀ J H' G', Stp H G H' G' → ItD K J ds H' G' → R J H'
def OutOk (B : Bs) (G0 : Hp) (Oo : List Nat) (D : Ends) : Out → Prop
  | .nx ρ' => ∀ σ' H' G', Rel P w K B G0 Oo ρ' σ' H' G' → D.nx σ' H'
  | .rt d => ∀ v H' G', (∀ a o, B a = some o → H' a = some o) → (∀ a o, G0 a = some o → G' a = some o) → (∀ a o, G' a = some o → H' a = some o) → (∀ a o, B a = some o → G' a = G0 a) → DenT P w K G' v d → D.rt v H'
def tS (O Oo : List Nat) (F : Sl → Option Out) : TS := fun D σ H => ∃ B G0 G ρ out, Rel P w K B G0 O ρ σ H G ∧ F ρ = some out ∧ OutOk P w K B G0 Oo D out
/-- a def's promise -/
def spD (Φ : List D → Option D) : Sp := fun vs H Q _ => ∃ G ds d, (∀ a o, G a = some o → H a = some o) ∧ Paired (DenT P w K G) vs ds ∧ Φ ds = some d ∧ ∀ v H' G', Stp H G H' G' → DenT P w K G' v d → Q v H'
end

section
variable {P : Program} {w : World} {K : PySem.W.Frag} {B : Bs} {G0 G G' H H' : Hp} {O O' : List Nat} {ρ : Sl} {σ : L2.St}
theorem get_set_some {α : Type} {l : List (Option α)} {i j : Nat} {x d : α} (h : (l.set i (some x))[j]? = some (some d)) : (j = i ∧ d = x) ∨ (j ≠ i ∧ l[j]? = some (some d)) := by
  by_cases e : i = j
  · subst e
    rw [List.getElem?_set_self'] at h
    cases q : l[i]? with
    | none => rw [q] at h; simp at h
    | some y => rw [q] at h; simp at h; exact .inl ⟨rfl, h.symm⟩
  · rw [List.getElem?_set_ne e] at h
    exact .inr ⟨fun z => e z.symm, h⟩
theorem set_at {α : Type} {l : List (Option α)} {m : List (Option β)} {i : Nat} {x : α} {y d : β} (hl : l.length = m.length) (h : (m.set i (some y))[i]? = some (some d)) : (l.set i (some x))[i]? = some (some x) := by
  rw [List.getElem?_set_self']
  have : i < l.length := by
    rw [List.getElem?_set_self'] at h
    cases q : m[i]? with
    | none => rw [q] at h; simp at h
    | some y => rw [hl]; exact (List.getElem?_eq_some_iff.mp q).1
  rw [List.getElem?_eq_getElem this]; rfl
theorem Rel.stp (r : Rel P w K B G0 O ρ σ H G) (s : Stp H G H' G') : Rel P w K B G0 O ρ σ H' G' where
  len := r.len
  bh := fun a o e => s.hh a o (r.bh a o e)
  gh := s.gh
  gg := fun a o e => s.gg a o (r.gg a o e)
  bg := fun a o e => (s.old a o (r.bh a o e)).trans (r.bg a o e)
  val := fun i d e n => let ⟨v, e1, q⟩ := r.val i d e n; ⟨v, e1, q.up s.gg⟩
  own := fun i d e n => let ⟨p, o, e1, h, g, b, q⟩ := r.own i d e n; ⟨p, o, e1, s.hh _ _ h, (s.old _ _ h).trans g, b, q.up s.gg⟩
  sep := r.sep
  pin := r.pin
theorem Rel.set {i : Nat} {v : V} {d : D} (r : Rel P w K B G0 O ρ σ H G) (hi : i ∉ O) (q : DenT P w K G v d) : Rel P w K B G0 O (ρ.set i (some d)) (σ.set i (some v)) H G where
  len := by rw [List.length_set, List.length_set]; exact r.len
  bh := r.bh
  gh := r.gh
  gg := r.gg
  bg := r.bg
  val := fun j e h n => by
    rcases get_set_some h with ⟨rfl, rfl⟩ | ⟨hj, h'⟩
    · exact ⟨v, set_at r.len h, q⟩
    · obtain ⟨u, e1, z⟩ := r.val j e h' n
      exact ⟨u, by rw [List.getElem?_set_ne (Ne.symm hj)]; exact e1, z⟩
  own := fun j e h n => by
    rcases get_set_some h with ⟨rfl, rfl⟩ | ⟨hj, h'⟩
    · exact absurd n hi
    · obtain ⟨p, o, e1, z⟩ := r.own j e h' n
      exact ⟨p, o, by rw [List.getElem?_set_ne (Ne.symm hj)]; exact e1, z⟩
  sep := fun j k p d' e' hj hk s1 s2 r1 r2 => by
    have nj : i ≠ j := fun z => hi (z ▸ hj)
    have nk : i ≠ k := fun z => hi (z ▸ hk)
    rw [List.getElem?_set_ne nj] at s1 r1
    rw [List.getElem?_set_ne nk] at s2 r2
    exact r.sep j k p d' e' hj hk s1 s2 r1 r2
  pin := fun p d hp h0 e => by
    have n0 : i ≠ 0 := fun z => hi (z ▸ h0)
    rw [List.getElem?_set_ne n0] at e ⊢
    exact r.pin p d hp h0 e
/-- slots forgotten -/
def wipeD (ρ : Sl) : List Nat → Sl
  | [] => ρ
  | v :: vs => (wipeD ρ vs).set v none
theorem Rel.wipe1 {i : Nat} (r : Rel P w K B G0 O ρ σ H G) : Rel P w K B G0 O (ρ.set i none) (σ.set i none) H G := by
  have key : ∀ {β : Type} {l : List (Option β)} {j : Nat} {d : β}, (l.set i none)[j]? = some (some d) → i ≠ j ∧ l[j]? = some (some d) := fun {β l j d} h => by
    by_cases e : i = j
    · subst e
      rw [List.getElem?_set_self'] at h
      cases q : l[i]? with
      | none => rw [q] at h; simp at h
      | some y => rw [q] at h; simp at h
    · rw [List.getElem?_set_ne e] at h
      exact ⟨e, h⟩
  exact ⟨by rw [List.length_set, List.length_set]; exact r.len, r.bh, r.gh, r.gg, r.bg, fun j d h n => by
      obtain ⟨e, h'⟩ := key h
      obtain ⟨v, e1, q⟩ := r.val j d h' n
      exact ⟨v, by rw [List.getElem?_set_ne e]; exact e1, q⟩, fun j d h n => by
      obtain ⟨e, h'⟩ := key h
      obtain ⟨p, o, e1, q⟩ := r.own j d h' n
      exact ⟨p, o, by rw [List.getElem?_set_ne e]; exact e1, q⟩, fun j k p d e hj hk s1 s2 r1 r2 => r.sep j k p d e hj hk (key s1).2 (key s2).2 (key r1).2 (key r2).2, fun p d hp h0 e => by
      obtain ⟨n0, e'⟩ := key e
      rw [List.getElem?_set_ne n0]
      exact r.pin p d hp h0 e'⟩
theorem Rel.wipe (r : Rel P w K B G0 O ρ σ H G) : ∀ vs : List Nat, Rel P w K B G0 O (wipeD ρ vs) (L2.wipe σ vs) H G
  | [] => r
  | v :: vs => (r.wipe vs).wipe1
theorem wipe_set {σ : L2.St} {i : Nat} {x : Option V} : ∀ {vs : List Nat}, i ∈ vs → L2.wipe (σ.set i x) vs = L2.wipe σ vs
  | v :: vs, h => by
    unfold L2.wipe
    by_cases e : i ∈ vs
    · rw [wipe_set e]
    · have : i = v := (List.mem_cons.mp h).resolve_right e
      subst this
      have : ∀ (σ : L2.St) (vs : List Nat), i ∉ vs → L2.wipe (σ.set i x) vs = (L2.wipe σ vs).set i x := fun σ vs => by
        induction vs with
        | nil => intro _; rfl
        | cons u us ih =>
          intro hn
          unfold L2.wipe
          rw [ih fun z => hn (List.mem_cons_of_mem _ z), List.set_comm]
          intro z; exact hn (z ▸ List.mem_cons_self)
      rw [this σ vs e, List.set_set]
open Classical in
/-- some slots own no longer: their objects are frozen -/
theorem Rel.frz (r : Rel P w K B G0 O ρ σ H G) (h : ∀ i, i ∈ O' → i ∈ O) : ∃ G', (∀ a o, G a = some o → G' a = some o) ∧ Rel P w K B G0 O' ρ σ H G' := by
  let lost : Addr → Prop := fun a => ∃ i d, i ∈ O ∧ i ∉ O' ∧ σ[i]? = some (some (.ref a)) ∧ ρ[i]? = some (some d)
  have hl : ∀ a, lost a → G a = none ∧ B a = none := fun a ⟨i, d, hi, _, e, e'⟩ => by
    obtain ⟨p, o, e1, _, g, b, _⟩ := r.own i d e' hi
    rw [e] at e1
    cases e1
    exact ⟨g, b⟩
  refine ⟨fun a => if lost a then H a else G a, ?_, ?_⟩
  · intro a o e
    have : ¬ lost a := fun z => by rw [(hl a z).1] at e; cases e
    simp only [this, if_false]; exact e
  have up : ∀ a o, G a = some o → (if lost a then H a else G a) = some o := fun a o e => by
    have : ¬ lost a := fun z => by rw [(hl a z).1] at e; cases e
    simp only [this, if_false]; exact e
  refine ⟨r.len, r.bh, ?_, fun a o e => up a o (r.gg a o e), ?_, ?_, ?_, fun i j p d e hi hj => r.sep i j p d e (h i hi) (h j hj), fun p d hp h0 => r.pin p d hp (h 0 h0)⟩
  · intro a o e
    by_cases z : lost a
    · simp only [z, if_true] at e; exact e
    · simp only [z, if_false] at e; exact r.gh a o e
  · intro a o e
    have : ¬ lost a := fun z => by rw [(hl a z).2] at e; cases e
    simp only [this, if_false]; exact r.bg a o e
  · intro i d e n
    by_cases z : i ∈ O
    · obtain ⟨p, o, e1, h1, g, b, q⟩ := r.own i d e z
      refine ⟨_, e1, .inr ⟨p, o, rfl, ?_, q.up up⟩⟩
      have : lost p := ⟨i, d, z, n, e1, e⟩
      simp only [this, if_true]; exact h1
    · obtain ⟨v, e1, q⟩ := r.val i d e z
      exact ⟨v, e1, q.up up⟩
  · intro i d e n
    obtain ⟨p, o, e1, h1, g, b, q⟩ := r.own i d e (h i n)
    refine ⟨p, o, e1, h1, ?_, b, q.up up⟩
    have : ¬ lost p := fun ⟨j, d', hj, hj', e2, e3⟩ => hj' (r.sep i j p d d' (h i n) hj e1 e2 e e3 ▸ n)
    simp only [this, if_false]; exact g
theorem DenT.dp {v : V} {d : D} (h : DenT P w K G v d) (hd : ∀ kvs, d ≠ .dict kvs) : Dq K G v d := by
  rcases h with h | ⟨p, o, rfl, h, q⟩
  · exact h
  · unfold ObjD at q
    split at q
    · obtain ⟨xs, rfl, q⟩ := q; exact .lst (.of h) q
    · exact absurd rfl (hd _)
    · exact absurd rfl (hd _)
    · exact q.elim
theorem ObsT.dq {v : V} {d : D} (h : ObsT P w K H G v d) (g : ∀ a o, G a = some o → H a = some o) (hd : ∀ kvs, d ≠ .dict kvs) : Dq K H v d := by
  rcases h with h | ⟨p, o, rfl, h, q⟩
  · exact dp_up (h.dp hd) g
  · unfold ObjD at q
    split at q
    · obtain ⟨xs, rfl, q⟩ := q; exact .lst (.of h) (dpa_up q g)
    · exact absurd rfl (hd _)
    · exact absurd rfl (hd _)
    · exact q.elim
theorem ObsT.dp {v : V} {d : D} (h : ObsT P w K H G v d) (g : ∀ a o, G a = some o → H a = some o) (hd : ∀ kvs, d ≠ .dict kvs) : Dp K H v d := dq_dp _ _ (h.dq g hd)
/-- a value that is no list and no dict is the same at all heaps -/
theorem ObsT.den {v : V} {d : D} (h : ObsT P w K H G v d) (hd : ∀ kvs, d ≠ .dict kvs) (hl : ∀ ds, d ≠ .list ds) : Dq K G v d := by
  rcases h with h | ⟨p, o, rfl, h, q⟩
  · exact h.dp hd
  · unfold ObjD at q
    split at q
    · exact absurd rfl (hl _)
    · exact absurd rfl (hd _)
    · exact absurd rfl (hd _)
    · exact q.elim
theorem ObsT.list {v : V} {ds : List D} (h : ObsT P w K H G v (.list ds)) (g : ∀ a o, G a = some o → H a = some o) : ∃ a xs, v = .ref a ∧ SqL K H a xs ∧ DqAll K G xs ds := by
  rcases h with h | ⟨p, o, rfl, h, q⟩
  · cases h.dp (fun _ => by simp) with
    | lst hs ha => exact ⟨_, _, rfl, SqL.up g hs, ha⟩
  · obtain ⟨xs, rfl, q⟩ := q
    exact ⟨p, xs, rfl, .of h, q⟩
theorem ObsT.tup {v : V} {ds : List D} (h : ObsT P w K H G v (.tuple ds)) : ∃ a xs, v = .ref a ∧ TupF K G a xs ∧ DqAll K G xs ds := by
  cases h.den (fun _ => by simp) (fun _ => by simp) with
  | tup hs ha => exact ⟨_, _, rfl, hs, ha⟩
theorem ObsT.int {v : V} {i : Int} (h : ObsT P w K H G v (.int i)) : v = .int i := by
  cases h.den (fun _ => by simp) (fun _ => by simp); rfl
theorem ObsT.str {v : V} {x : Str} (h : ObsT P w K H G v (.str x)) : v = .str x := by
  cases h.den (fun _ => by simp) (fun _ => by simp); rfl
theorem ObsT.bl {v : V} {b : Bool} (h : ObsT P w K H G v (.bool b)) : v = .bl b := by
  cases h.den (fun _ => by simp) (fun _ => by simp); rfl
theorem ObsT.non {v : V} (h : ObsT P w K H G v .none) : v = .non := by
  cases h.den (fun _ => by simp) (fun _ => by simp); rfl
theorem DenT.int (i : Int) : DenT P w K G (.int i) (.int i) := .inl (.int i)
theorem DenT.bl (i : Bool) : DenT P w K G (.bl i) (.bool i) := .inl (.bl i)
theorem DenT.str (i : Str) : DenT P w K G (.str i) (.str i) := .inl (.str i)
theorem DenT.non : DenT P w K G .non .none := .inl .non
theorem DenT.lst {p : Addr} {xs : List V} {ds : List D} (h : G p = some (.lst xs)) (q : DqAll K G xs ds) : DenT P w K G (.ref p) (.list ds) := .inl (.lst (.of h) q)
theorem DenT.tup {p : Addr} {xs : List V} {ds : List D} {o : Obj} (h : G p = some (.frz o (.tup xs))) (ho : o.dict = none) (q : DqAll K G xs ds) : DenT P w K G (.ref p) (.tuple ds) := .inl (.tup (.inl ⟨o, h, ho⟩) q)
theorem up_g {p : Addr} {o : HO} (g : ∀ a o, G a = some o → H a = some o) (hp : H p = none) : ∀ a u, G a = some u → upd G p o a = some u := fun a u e => by
  rw [upd_ne (ne_of_none (g a u e) hp)]; exact e
end

/-! ### readings made weaker -/
section
variable {X : Cx} {e : Expr} {es : List Expr} {st : Stmt} {sts : List Stmt}
theorem pe_wk {t t' : TE} (h : PE X e t) (i : ∀ σ H Q, t' σ H Q → t σ H Q) : PE X e t' := ⟨fun pins s σ H Q I q => h.run pins s σ H Q I (i σ H Q q)⟩
theorem pt_wk {t t' : TT} (h : PT X e t) (i : ∀ σ H Q, t' σ H Q → t σ H Q) : PT X e t' := ⟨fun pins s σ H Q I q => h.run pins s σ H Q I (i σ H Q q)⟩
theorem pw_wk {t t' : TT} (h : PW X e t) (i : ∀ σ H Q, t' σ H Q → t σ H Q) : PW X e t' := ⟨fun wh pins s σ H Q I q => h.run wh pins s σ H Q I (i σ H Q q)⟩
theorem pa_wk {t t' : TA} (h : PA X es t) (i : ∀ σ H Q, t' σ H Q → t σ H Q) : PA X es t' := ⟨fun pos pins s σ H Q I q => h.run pos pins s σ H Q I (i σ H Q q)⟩
theorem ps_wk {t t' : TS} (h : PS X st t) (i : ∀ D σ H, t' D σ H → t D σ H) : PS X st t' := ⟨fun pins s σ H D I q => h.run pins s σ H D I (i D σ H q)⟩
theorem pss_wk {t t' : TS} (h : PSs X sts t) (i : ∀ D σ H, t' D σ H → t D σ H) : PSs X sts t' := ⟨fun pins s σ H D I q => h.run pins s σ H D I (i D σ H q)⟩
theorem pg_wk {t t' : TG} (h : PG X e t) (i : ∀ v σ H Q, t' v σ H Q → t v σ H Q) : PG X e t' := ⟨fun pins s σ H v u Q I r q => h.run pins s σ H v u Q I r (i v σ H Q q)⟩
theorem pi_wk {tg : Expr} {t t' : TI} (h : PI X tg e t) (i : ∀ σ H Q, t' σ H Q → t σ H Q) : PI X tg e t' := ⟨fun pins s σ H Q I q => h.run pins s σ H Q I (i σ H Q q)⟩
end
end DL
namespace DL
open PySem PySem.Spec PyProof.Rows L2

/-! ### what expressions compute -/
abbrev Ef := Sl → Option D
def eVar (i : Nat) : Ef := fun ρ => ρ.getD i none
def eC (d : D) : Ef := fun _ => some d
def e1 (F : D → Option D) (a : Ef) : Ef := fun ρ => match a ρ with
  | none => none
  | some d => F d
def e2 (F : D → D → Option D) (a b : Ef) : Ef := fun ρ => match a ρ with
  | none => none
  | some d => match b ρ with
    | none => none
    | some e => F d e
abbrev Af := Sl → Option (List D)
def aNil : Af := fun _ => some []
def aCons (a : Ef) (r : Af) : Af := fun ρ => match a ρ with
  | none => none
  | some d => match r ρ with
    | none => none
    | some ds => some (d :: ds)
def eCall (Φ : List D → Option D) (a : Af) : Ef := fun ρ => match a ρ with
  | none => none
  | some ds => Φ ds
def eTup (a : Af) : Ef := fun ρ => match a ρ with
  | none => none
  | some ds => some (.tuple ds)
def eLst (a : Af) : Ef := fun ρ => match a ρ with
  | none => none
  | some ds => some (.list ds)
abbrev Tf := Sl → Option Bool
def cB (a : Ef) : Tf := fun ρ => match a ρ with
  | some (.bool b) => some b
  | _ => none
def cNot (c : Tf) : Tf := fun ρ => match c ρ with
  | none => none
  | some b => some (!b)
def cAnd (a b : Tf) : Tf := fun ρ => match a ρ with
  | none => none
  | some true => b ρ
  | some false => some false
def cOr (a b : Tf) : Tf := fun ρ => match a ρ with
  | none => none
  | some true => some true
  | some false => b ρ
def eIf (c : Tf) (a b : Ef) : Ef := fun ρ => match c ρ with
  | none => none
  | some true => a ρ
  | some false => b ρ
/-- and, or, not as values of truth values -/
def eAnd (a b : Ef) : Ef := fun ρ => match a ρ with
  | some (.bool true) => b ρ
  | some (.bool false) => some (.bool false)
  | _ => none
def eOr (a b : Ef) : Ef := fun ρ => match a ρ with
  | some (.bool true) => some (.bool true)
  | some (.bool false) => b ρ
  | _ => none
def eNot (a : Ef) : Ef := fun ρ => match a ρ with
  | some (.bool b) => some (.bool (!b))
  | _ => none
def eChain (F F' : D → D → Option D) (a b c : Ef) : Ef := fun ρ => match a ρ with
  | none => none
  | some d => match b ρ with
    | none => none
    | some e => match F d e with
      | some (.bool true) => match c ρ with
        | none => none
        | some f => F' e f
      | some (.bool false) => some (.bool false)
      | _ => none

/-- a rule by data: a function of the values -/
def rFn (P : Program) (w : World) (K : PySem.W.Frag) (F : List D → Option D) : List V → Hp → VK → Prop := fun vs H Q => ∃ G ds r, (∀ a o, G a = some o → H a = some o) ∧ ObsAll P w K H G vs ds ∧ F ds = some r ∧ ∀ v H' G', Stp H G H' G' → DenT P w K G' v r → Q v H'
def r2 (P : Program) (w : World) (K : PySem.W.Frag) (F : D → D → Option D) : R2 := fun x y H Q => ∃ G d e r, (∀ a o, G a = some o → H a = some o) ∧ ObsT P w K H G x d ∧ ObsT P w K H G y e ∧ F d e = some r ∧ ∀ v H' G', Stp H G H' G' → DenT P w K G' v r → Q v H'
def r1 (P : Program) (w : World) (K : PySem.W.Frag) (F : D → Option D) : V → Hp → VK → Prop := fun x H Q => ∃ G d r, (∀ a o, G a = some o → H a = some o) ∧ ObsT P w K H G x d ∧ F d = some r ∧ ∀ v H' G', Stp H G H' G' → DenT P w K G' v r → Q v H'

abbrev DE (X : Cx) (O : List Nat) (e : Expr) (f : Ef) : Prop := PE X e (tD X.prog X.w X.K O f)
abbrev DP (X : Cx) (O : List Nat) (e : Expr) (f : Ef) : Prop := PE X e (tP X.prog X.w X.K O f)
abbrev DF (X : Cx) (O : List Nat) (e : Expr) (f : Ef) : Prop := PE X e (tF X.prog X.w X.K O f)
abbrev DT (X : Cx) (O : List Nat) (e : Expr) (c : Tf) : Prop := PT X e (tT X.prog X.w X.K O c)
abbrev DW (X : Cx) (O : List Nat) (e : Expr) (c : Tf) : Prop := PW X e (tT X.prog X.w X.K O c)
abbrev DA (X : Cx) (O : List Nat) (es : List Expr) (f : Af) : Prop := PA X es (tDA X.prog X.w X.K O f)
abbrev DPA (X : Cx) (O : List Nat) (es : List Expr) (f : Af) : Prop := PA X es (tPA X.prog X.w X.K O f)

section
variable {X : Cx} {O : List Nat} {e a b c : Expr} {es : List Expr} {f g k : Ef} {fs : Af} {pos : Pos}

theorem getD_some {ρ : Sl} {i : Nat} {d : D} (h : ρ.getD i none = some d) : ρ[i]? = some (some d) := by
  rw [List.getD_eq_getElem?_getD] at h
  cases q : ρ[i]? with
  | none => rw [q] at h; simp at h
  | some x => rw [q] at h; simp at h; rw [h]
theorem de_var (i : Nat) {x : Str} {pos : Pos} (hO : i ∉ O := by decide) (hN : X.N[i]? = some x := by rfl) (hv : Vis X.env.scope x := by first | exact Or.inl rfl | exact Or.inr (Or.inl rfl) | exact Or.inr (Or.inr rfl)) (hd : (x == ("__debug__" : Str)) = false := by decide)
    (hcd : (x == ("__classdict__" : Str)) = false := by decide) : DE X O (.Name x pos) (eVar i) := pe_wk (pe_var hN hv hd hcd) fun σ H Q ⟨B, G0, G, ρ, d, r, hf, q⟩ => by
  obtain ⟨v, e1, z⟩ := r.val i d (getD_some hf) hO
  exact ⟨v, e1, q v H G (Stp.refl r.gh) z⟩
theorem dp_var (i : Nat) {x : Str} {pos : Pos} (hN : X.N[i]? = some x := by rfl) (hv : Vis X.env.scope x := by first | exact Or.inl rfl | exact Or.inr (Or.inl rfl) | exact Or.inr (Or.inr rfl)) (hd : (x == ("__debug__" : Str)) = false := by decide)
    (hcd : (x == ("__classdict__" : Str)) = false := by decide) : DP X O (.Name x pos) (eVar i) := pe_wk (pe_var hN hv hd hcd) fun σ H Q ⟨B, G0, G, ρ, d, r, hf, q⟩ => by
  by_cases z : i ∈ O
  · obtain ⟨p, o, e1, h, _, _, q'⟩ := r.own i d (getD_some hf) z
    exact ⟨_, e1, q _ H G (Stp.refl r.gh) (.inr ⟨p, o, rfl, h, q'⟩)⟩
  · obtain ⟨v, e1, z⟩ := r.val i d (getD_some hf) z
    exact ⟨v, e1, q v H G (Stp.refl r.gh) (.inl z)⟩
theorem dp (h : DE X O e f) : DP X O e f := pe_wk h fun σ H Q ⟨B, G0, G, ρ, d, r, hf, q⟩ => ⟨B, G0, G, ρ, d, r, hf, fun v H' G' s z => q v H' G' s (.inl z)⟩
theorem de_frz (h : DF X O e f) : DE X O e f := pe_wk h fun σ H Q ⟨B, G0, G, ρ, d, r, hf, q⟩ => ⟨B, G0, G, ρ, d, r, hf, fun p o H' G' s hn hp gn z => by
  refine q (.ref p) H' (upd G' p o) ⟨s.hh, fun a u e => ?_, fun a u e => ?_, fun a u e => ?_⟩ (.inr ⟨p, o, rfl, upd_same, z.up fun a u e => ?_⟩)
  · rw [upd_ne (ne_of_none (r.gh a u e) hn)]; exact s.gg a u e
  · by_cases y : a = p
    · subst y; rw [upd_same] at e; cases e; exact hp
    · rw [upd_ne y] at e; exact s.gh a u e
  · rw [upd_ne (ne_of_none e hn)]; exact s.old a u e
  · rw [upd_ne (ne_of_none e gn)]; exact e⟩
/-- a constant -/
theorem de_c {d : D} {v : V} (h : PE X e (tC v)) (q : ∀ G, DenT X.prog X.w X.K G v d) : DE X O e (eC d) := pe_wk h fun σ H Q ⟨B, G0, G, ρ, d', r, hf, z⟩ => by
  cases hf; exact z v H G (Stp.refl r.gh) (q G)
theorem de_int {i : Int} {j} : DE X O (.Constant (.int i) j pos) (eC (.int i)) := de_c pe_int fun _ => .int i
theorem de_str {x : Str} {j} : DE X O (.Constant (.str x) j pos) (eC (.str x)) := de_c pe_str fun _ => .str x
theorem de_bl {i : Bool} {j} : DE X O (.Constant (.bool i) j pos) (eC (.bool i)) := de_c pe_bl fun _ => .bl i
theorem de_non {j} : DE X O (.Constant .none j pos) (eC .none) := de_c pe_non fun _ => .non
/-- the module's own constants -/
theorem de_globS {x y : Str} {t : Tok} (hg : Gl X x) (hm : X.mg x = some (.str y t)) (hd : (x == ("__debug__" : Str)) = false := by decide) : DE X O (.Name x pos) (eC (.str y)) := de_c (v := V.str y) (pe_glob hg hm ⟨t, rfl⟩ hd) fun _ => .str y

/-! ### two, one -/
theorem de_op {op : Operator} {F : D → D → Option D} (ho : OpR X (binaryOp op) (r2 X.prog X.w X.K F)) (ha : DP X O a f) (hb : DP X O b g) : DE X O (.BinOp a op b pos) (e2 F f g) := by
  refine pe_wk (pe_op ho ha hb) fun σ H Q ⟨B, G0, G, ρ, d, r, hf, q⟩ => ?_
  unfold e2 at hf
  split at hf
  · cases hf
  · rename_i x hx
    split at hf
    · cases hf
    · rename_i y hy
      refine ⟨B, G0, G, ρ, x, r, hx, fun v H1 G1 s1 z1 => ⟨B, G0, G1, ρ, y, r.stp s1, hy, fun u H2 G2 s2 z2 => ?_⟩⟩
      exact ⟨G2, x, y, d, s2.gh, z1.up s2, z2, hf, fun v' H' G' s3 z3 => q v' H' G' ((s1.trans s2).trans s3) z3⟩
theorem de_cmp {op : CmpOp} {F : D → D → Option D} (ho : OpR X (compareOp op) (r2 X.prog X.w X.K F)) (ha : DP X O a f) (hb : DP X O b g) (hm : behindInMarks op b = false := by first | exact nobehind _ (by decide) (by decide) | rfl) : DE X O (.Compare a [op] [b] pos) (e2 F f g) := by
  refine pe_wk (pe_cmpR ho ha hb hm) fun σ H Q ⟨B, G0, G, ρ, d, r, hf, q⟩ => ?_
  unfold e2 at hf
  split at hf
  · cases hf
  · rename_i x hx
    split at hf
    · cases hf
    · rename_i y hy
      refine ⟨B, G0, G, ρ, x, r, hx, fun v H1 G1 s1 z1 => ⟨B, G0, G1, ρ, y, r.stp s1, hy, fun u H2 G2 s2 z2 => ?_⟩⟩
      exact ⟨G2, x, y, d, s2.gh, z1.up s2, z2, hf, fun v' H' G' s3 z3 => q v' H' G' ((s1.trans s2).trans s3) z3⟩
theorem dt_cmp {op : CmpOp} {F : D → D → Option D} (ho : OpR X (compareOp op) (r2 X.prog X.w X.K F)) (ha : DP X O a f) (hb : DP X O b g) (hm : behindInMarks op b = false := by first | exact nobehind _ (by decide) (by decide) | rfl) : DT X O (.Compare a [op] [b] pos) (cB (e2 F f g)) := by
  refine pt_wk (pt_cmpR ho ha hb hm) fun σ H Q ⟨B, G0, G, ρ, d, r, hf, q⟩ => ?_
  unfold cB at hf
  split at hf
  · rename_i bb he
    cases hf
    unfold e2 at he
    split at he
    · cases he
    · rename_i x hx
      split at he
      · cases he
      · rename_i y hy
        refine ⟨B, G0, G, ρ, x, r, hx, fun v H1 G1 s1 z1 => ⟨B, G0, G1, ρ, y, r.stp s1, hy, fun u H2 G2 s2 z2 => ?_⟩⟩
        exact ⟨G2, x, y, _, s2.gh, z1.up s2, z2, he, fun v' H' G' s3 z3 => ⟨d, ObsT.bl (H := H') (.inl z3), q H' G' ((s1.trans s2).trans s3)⟩⟩
  · cases hf
theorem de_un {op : UnaryOp} {F : D → Option D} {r : V → Hp → VK → Prop} (h : PE X (.UnaryOp op a pos) (tUn (r1 X.prog X.w X.K F) (tP X.prog X.w X.K O f))) : DE X O (.UnaryOp op a pos) (e1 F f) := by
  refine pe_wk h fun σ H Q ⟨B, G0, G, ρ, d, r, hf, q⟩ => ?_
  unfold e1 at hf
  split at hf
  · cases hf
  · rename_i x hx
    exact ⟨B, G0, G, ρ, x, r, hx, fun v H1 G1 s1 z1 => ⟨G1, x, d, s1.gh, z1, hf, fun v' H' G' s3 z3 => q v' H' G' (s1.trans s3) z3⟩⟩

/-! ### tests -/
theorem dt_val (h : DP X O e f) (he : ∀ whole, isTrue e X.env whole = (do let v ← whole; standAt e.pos; holding [v] (truthy v)) := by intro _; rfl) : DT X O e (cB f) := by
  refine pt_wk (pt_val h he) fun σ H Q ⟨B, G0, G, ρ, d, r, hf, q⟩ => ?_
  unfold cB at hf
  split at hf
  · rename_i bb hx
    cases hf
    exact ⟨B, G0, G, ρ, _, r, hx, fun v H1 G1 s1 z1 => ⟨d, z1.bl, q H1 G1 s1⟩⟩
  · cases hf
theorem dt_not {c : Tf} (h : DT X O a c) : DT X O (.UnaryOp .Not a pos) (cNot c) := by
  refine pt_wk (pt_not h) fun σ H Q ⟨B, G0, G, ρ, d, r, hf, q⟩ => ?_
  unfold cNot at hf
  split at hf
  · cases hf
  · rename_i bb hx
    cases hf
    exact ⟨B, G0, G, ρ, _, r, hx, fun H1 G1 s1 => q H1 G1 s1⟩
theorem dt_w {c : Tf} (h : DW X O e c) : DT X O e c := PW.pt h
theorem dw_and1 {c : Tf} (h : DT X O a c) : DW X O (.BoolOp .And [a] pos) c := pw_and1 h
theorem dw_or1 {c : Tf} (h : DT X O a c) : DW X O (.BoolOp .Or [a] pos) c := pw_or1 h
theorem dw_and {c c' : Tf} {rest : List Expr} (h : DT X O a c) (h' : DW X O (.BoolOp .And (b :: rest) pos) c') : DW X O (.BoolOp .And (a :: b :: rest) pos) (cAnd c c') := by
  refine pw_wk (pw_and h h') fun σ H Q ⟨B, G0, G, ρ, d, r, hf, q⟩ => ?_
  unfold cAnd at hf
  split at hf
  · cases hf
  · rename_i hx
    exact ⟨B, G0, G, ρ, _, r, hx, fun H1 G1 s1 => iteT ⟨B, G0, G1, ρ, _, r.stp s1, hf, fun H2 G2 s2 => q H2 G2 (s1.trans s2)⟩⟩
  · rename_i hx
    cases hf
    exact ⟨B, G0, G, ρ, _, r, hx, fun H1 G1 s1 => iteF (q H1 G1 s1)⟩
theorem dw_or {c c' : Tf} {rest : List Expr} (h : DT X O a c) (h' : DW X O (.BoolOp .Or (b :: rest) pos) c') : DW X O (.BoolOp .Or (a :: b :: rest) pos) (cOr c c') := by
  refine pw_wk (pw_or h h') fun σ H Q ⟨B, G0, G, ρ, d, r, hf, q⟩ => ?_
  unfold cOr at hf
  split at hf
  · cases hf
  · rename_i hx
    cases hf
    exact ⟨B, G0, G, ρ, _, r, hx, fun H1 G1 s1 => iteT (q H1 G1 s1)⟩
  · rename_i hx
    exact ⟨B, G0, G, ρ, _, r, hx, fun H1 G1 s1 => iteF ⟨B, G0, G1, ρ, _, r.stp s1, hf, fun H2 G2 s2 => q H2 G2 (s1.trans s2)⟩⟩
theorem de_if {t : Tf} (ht : DT X O c t) (ha : DE X O a f) (hb : DE X O b g) : DE X O (.IfExp c a b pos) (eIf t f g) := by
  refine pe_wk (pe_ifExp ht ha hb) fun σ H Q ⟨B, G0, G, ρ, d, r, hf, q⟩ => ?_
  unfold eIf at hf
  split at hf
  · cases hf
  · rename_i hx
    exact ⟨B, G0, G, ρ, _, r, hx, fun H1 G1 s1 => iteT ⟨B, G0, G1, ρ, _, r.stp s1, hf, fun v H2 G2 s2 z => q v H2 G2 (s1.trans s2) z⟩⟩
  · rename_i hx
    exact ⟨B, G0, G, ρ, _, r, hx, fun H1 G1 s1 => iteF ⟨B, G0, G1, ρ, _, r.stp s1, hf, fun v H2 G2 s2 z => q v H2 G2 (s1.trans s2) z⟩⟩
/-- a comparison's list and, or, not as values -/
theorem de_one {op} (h : DE X O a f) : DE X O (.BoolOp op [a] pos) f := pe_one h
theorem de_and {rest : List Expr} (h : DP X O a f) (h' : DE X O (.BoolOp .And (b :: rest) pos) g) : DE X O (.BoolOp .And (a :: b :: rest) pos) (eAnd f g) := by
  refine pe_wk (pe_and h h') fun σ H Q ⟨B, G0, G, ρ, d, r, hf, q⟩ => ?_
  unfold eAnd at hf
  split at hf
  · rename_i hx
    exact ⟨B, G0, G, ρ, _, r, hx, fun v H1 G1 s1 z1 => ⟨_, z1.bl, iteT ⟨B, G0, G1, ρ, _, r.stp s1, hf, fun v H2 G2 s2 z => q v H2 G2 (s1.trans s2) z⟩⟩⟩
  · rename_i hx
    cases hf
    exact ⟨B, G0, G, ρ, _, r, hx, fun v H1 G1 s1 z1 => ⟨_, z1.bl, iteF (q _ H1 G1 s1 (.bl false))⟩⟩
  · cases hf
theorem de_or {rest : List Expr} (h : DP X O a f) (h' : DE X O (.BoolOp .Or (b :: rest) pos) g) : DE X O (.BoolOp .Or (a :: b :: rest) pos) (eOr f g) := by
  refine pe_wk (pe_or h h') fun σ H Q ⟨B, G0, G, ρ, d, r, hf, q⟩ => ?_
  unfold eOr at hf
  split at hf
  · rename_i hx
    cases hf
    exact ⟨B, G0, G, ρ, _, r, hx, fun v H1 G1 s1 z1 => ⟨_, z1.bl, iteT (q _ H1 G1 s1 (.bl true))⟩⟩
  · rename_i hx
    exact ⟨B, G0, G, ρ, _, r, hx, fun v H1 G1 s1 z1 => ⟨_, z1.bl, iteF ⟨B, G0, G1, ρ, _, r.stp s1, hf, fun v H2 G2 s2 z => q v H2 G2 (s1.trans s2) z⟩⟩⟩
  · cases hf
theorem de_not (h : DP X O a f) : DE X O (.UnaryOp .Not a pos) (eNot f) := by
  refine pe_wk (pe_not h) fun σ H Q ⟨B, G0, G, ρ, d, r, hf, q⟩ => ?_
  unfold eNot at hf
  split at hf
  · rename_i bb hx
    cases hf
    exact ⟨B, G0, G, ρ, _, r, hx, fun v H1 G1 s1 z1 => ⟨_, z1.bl, q _ H1 G1 s1 (.bl _)⟩⟩
  · cases hf
theorem dt_chain {op op' : CmpOp} {F F' : D → D → Option D} (ho : OpR X (compareOp op) (r2 X.prog X.w X.K F)) (ho' : OpR X (compareOp op') (r2 X.prog X.w X.K F')) (ha : DP X O a f) (hb : DP X O b g) (hc : DP X O c k)
    (hm : lastMarks [op, op'] [b, c] = false := by with_unfolding_all rfl) : DT X O (.Compare a [op, op'] [b, c] pos) (cB (eChain F F' f g k)) := by
  refine pt_wk (pt_chain ho ho' ha hb hc hm) fun σ H Q ⟨B, G0, G, ρ, d, r, hf, q⟩ => ?_
  unfold cB at hf
  split at hf
  · rename_i bb he
    cases hf
    unfold eChain at he
    split at he
    · cases he
    · rename_i x hx
      split at he
      · cases he
      · rename_i y hy
        refine ⟨B, G0, G, ρ, x, r, hx, fun v H1 G1 s1 z1 => ⟨B, G0, G1, ρ, y, r.stp s1, hy, fun u H2 G2 s2 z2 => ?_⟩⟩
        split at he
        · rename_i hF
          refine ⟨G2, x, y, _, s2.gh, z1.up s2, z2, hF, fun v3 H3 G3 s3 z3 => ⟨_, ObsT.bl (H := H3) (.inl z3), iteT ?_⟩⟩
          split at he
          · cases he
          · rename_i m hm'
            refine ⟨B, G0, G3, ρ, m, (r.stp s1).stp (s2.trans s3), hm', fun v4 H4 G4 s4 z4 => ⟨G4, y, m, _, s4.gh, z2.up (s3.trans s4), z4, he, fun v5 H5 G5 s5 z5 => ⟨d, ObsT.bl (H := H5) (.inl z5), q H5 G5 (((s1.trans s2).trans (s3.trans s4)).trans s5)⟩⟩⟩
        · rename_i hF
          cases he
          exact ⟨G2, x, y, _, s2.gh, z1.up s2, z2, hF, fun v3 H3 G3 s3 z3 => ⟨_, ObsT.bl (H := H3) (.inl z3), iteF ⟨_, rfl, q H3 G3 ((s1.trans s2).trans s3)⟩⟩⟩
        · cases he
  · cases hf

/-! ### arguments, displays, calls -/
theorem da_nil : DA X O [] aNil := pa_wk pa_nil fun σ H Q ⟨B, G0, G, ρ, d, r, hf, q⟩ => by
  cases hf; exact q [] H G (Stp.refl r.gh) .nil
theorem da_cons (ha : DE X O e f) (hr : DA X O es fs) (hs : starEach (e :: es) X.env = (false, eval e X.env) :: starEach es X.env := by rfl) : DA X O (e :: es) (aCons f fs) := by
  refine pa_wk (pa_cons ha hr hs) fun σ H Q ⟨B, G0, G, ρ, d, r, hf, q⟩ => ?_
  unfold aCons at hf
  split at hf
  · cases hf
  · rename_i x hx
    split at hf
    · cases hf
    · rename_i y hy
      cases hf
      exact ⟨B, G0, G, ρ, x, r, hx, fun v H1 G1 s1 z1 => ⟨B, G0, G1, ρ, y, r.stp s1, hy, fun u H2 G2 s2 z2 => q _ H2 G2 (s1.trans s2) (.cons (z1.up s2.gg) z2)⟩⟩
theorem dpa_nil : DPA X O [] aNil := pa_wk pa_nil fun σ H Q ⟨B, G0, G, ρ, d, r, hf, q⟩ => by
  cases hf; exact q [] H G (Stp.refl r.gh) .nil
theorem dpa_cons (ha : DP X O e f) (hr : DPA X O es fs) (hs : starEach (e :: es) X.env = (false, eval e X.env) :: starEach es X.env := by rfl) : DPA X O (e :: es) (aCons f fs) := by
  refine pa_wk (pa_cons ha hr hs) fun σ H Q ⟨B, G0, G, ρ, d, r, hf, q⟩ => ?_
  unfold aCons at hf
  split at hf
  · cases hf
  · rename_i x hx
    split at hf
    · cases hf
    · rename_i y hy
      cases hf
      exact ⟨B, G0, G, ρ, x, r, hx, fun v H1 G1 s1 z1 => ⟨B, G0, G1, ρ, y, r.stp s1, hy, fun u H2 G2 s2 z2 => q _ H2 G2 (s1.trans s2) (.cons (z1.up s2) z2)⟩⟩
/-- plain data: no dict among them -/
def flatD : D → Bool
  | .dict _ => false
  | _ => true
theorem den_all {P : Program} {w : World} {K : PySem.W.Frag} {G : Hp} : ∀ {vs : List V} {ds : List D}, Paired (DenT P w K G) vs ds → (ds.all flatD) = true → DqAll K G vs ds
  | _, _, .nil, _ => .nil
  | _, _, .cons h t, e => by
    rw [List.all_cons, Bool.and_eq_true] at e
    exact .cons (h.dp fun kvs z => by rw [z] at e; exact absurd e.1 (by simp [flatD])) (den_all t e.2)
def okSeq (ds : List D) : Bool := ds.all flatD && decide (ds.length ≤ 16777216)
theorem okSeq_1 {ds : List D} (h : okSeq ds = true) : ds.all flatD = true := (Bool.and_eq_true_iff.mp h).1
theorem okSeq_2 {ds : List D} (h : okSeq ds = true) : ds.length ≤ sizeLine := by
  rw [sizeLine_eq]; exact of_decide_eq_true (Bool.and_eq_true_iff.mp h).2
theorem paired_len {α β : Type} {R : α → β → Prop} : ∀ {l : List α} {m : List β}, Paired R l m → l.length = m.length
  | _, _, .nil => rfl
  | _, _, .cons _ t => by rw [List.length_cons, List.length_cons, paired_len t]
def eSeq (mk : List D → D) (a : Af) : Ef := fun ρ => match a ρ with
  | none => none
  | some ds => if okSeq ds = true then some (mk ds) else none
theorem eSeq_some {mk : List D → D} {a : Af} {ρ : Sl} {d : D} (h : eSeq mk a ρ = some d) : ∃ ds, a ρ = some ds ∧ okSeq ds = true ∧ d = mk ds := by
  unfold eSeq at h
  split at h
  · cases h
  · rename_i ds hx
    split at h
    · rename_i hk; cases h; exact ⟨ds, hx, hk, rfl⟩
    · cases h
/-- a new tuple's object -/
abbrev tupO (its : List Value) : Obj := { cls := .type "tuple", data := .seq its.toArray }
theorem tupNew {X : Cx} {pins : List (Addr × Obj)} {σ : L2.St} {H : Hp} {s : Shared} {its : List Value} {xs : List V} {t' : Nat} {h' : Heap} {p : Nat} (I : L2.Inv X pins σ H s) (r : Vals xs its) (hz : xs.length ≤ sizeLine) (k : ∀ b u, s.heap.get? b = some u → h'.get? b = some u) (hp : s.heap.objs.size ≤ p)
    (hn : h'.get? p = some (tupO its)) : L2.Inv X pins σ (upd H p (.frz (tupO its) (.tup xs))) { s with heap := h', toks := t' } :=
  I.laid k hp ⟨hn, hz, its, r, ⟨_, hn, rfl, _, rfl⟩⟩
def tTupF (t : TA) : TE := fun σ H Q => t σ H fun xs H1 => xs.length ≤ sizeLine ∧ ∀ p o, o.dict = none → H1 p = none → Q (.ref p) (upd H1 p (.frz o (.tup xs)))
theorem pe_tupF {x1} {t : TA} (h : PA X es t) : PE X (.Tuple es x1 pos) (tTupF t) := by
  refine ⟨fun pins s σ H Q I hq => ?_⟩
  refine wpAny_Tuple_spliced (thn (h.run pos pins s σ H _ I hq) fun us s1 ⟨xs, H1, I1, r, z, q⟩ => ⟨by rw [← r.length]; exact z, ?_⟩)
  have hf : H1 s1.heap.objs.size = none := I1.hok.fresh (Nat.le_refl _)
  exact ⟨.ref s1.heap.objs.size, _, tupNew (t' := s1.toks) I1 r z (fun b u e => Heap.get?_push_of_some _ e) (Nat.le_refl _) (Heap.get?_push_size _ rfl), rfl, q _ (tupO us) rfl hf⟩
theorem de_tup {x1} (h : DA X O es fs) : DE X O (.Tuple es x1 pos) (eSeq .tuple fs) := by
  refine pe_wk (pe_tupF h) fun σ H Q ⟨B, G0, G, ρ, d, r, hf, q⟩ => ?_
  obtain ⟨ds, hx, hk, rfl⟩ := eSeq_some hf
  refine ⟨B, G0, G, ρ, ds, r, hx, fun vs H1 G1 s1 z => ⟨by rw [paired_len z]; exact okSeq_2 hk, fun p o ho hp => ?_⟩⟩
  exact q _ _ _ (s1.trans (Stp.frz s1.gh hp)) (.tup upd_same ho (dpa_up (den_all z (okSeq_1 hk)) (up_g s1.gh hp)))
theorem df_lst (h : DA X O es fs) : DF X O (.List es pos) (eSeq .list fs) := by
  refine pe_wk (pe_lst h) fun σ H Q ⟨B, G0, G, ρ, d, r, hf, q⟩ => ?_
  obtain ⟨ds, hx, hk, rfl⟩ := eSeq_some hf
  refine ⟨B, G0, G, ρ, ds, r, hx, fun vs H1 G1 s1 z => ⟨by rw [paired_len z]; exact okSeq_2 hk, fun p hp => ?_⟩⟩
  have hn : ∀ {a o}, G1 a = some o → a ≠ p := fun e => ne_of_none (s1.gh _ _ e) hp
  refine q p (.lst vs) _ G1 (s1.trans (Stp.own s1.gh hp)) ?_ upd_same ?_ ⟨vs, rfl, den_all z (okSeq_1 hk)⟩
  · cases e : H p with
    | none => rfl
    | some o => rw [s1.hh p o e] at hp; cases hp
  · cases e : G1 p with
    | none => rfl
    | some o => exact absurd rfl (hn e)
theorem de_lst (h : DA X O es fs) : DE X O (.List es pos) (eSeq .list fs) := de_frz (df_lst h)

/-- a def of the text -/
theorem de_call {k : Nat} {fa : Addr} {fd : FuncData} {ps : List Str} {Φ : List D → Option D} {x : Str} {p : Pos} (F : FnOk X.prog X.w X.K X.mg X.base CX0 k fa fd ps (spD X.prog X.w X.K Φ)) (hr : Room k X.A) (hg : Gl X x) (hm : X.mg x = some (.ref fa)) (hk : PySem.W.keepIn X.K (.ref fa) = true) (hb : Binds X.K fd ps [])
    (ha : DA X O (e :: es) fs) (hdb : (x == ("__debug__" : Str)) = false := by decide) (he : starEach (e :: es) X.env = (false, eval e X.env) :: starEach es X.env := by rfl) (hpl : (backTo pos (starEach es X.env)).any (·.1) = false := by rfl) :
    DE X O (.Call (.Name x p) (e :: es) [] pos) (eCall Φ fs) := by
  refine pe_wk (pe_call F hr hg hm hk hb .nil pass0 ha hdb he hpl) fun σ H Q ⟨B, G0, G, ρ, d, r, hf, q⟩ => ?_
  unfold eCall at hf
  split at hf
  · cases hf
  · rename_i ds hx
    refine ⟨B, G0, G, ρ, ds, r, hx, fun vs H1 G1 s1 z => ?_⟩
    show spD X.prog X.w X.K Φ (vs ++ []) H1 Q E0
    rw [List.append_nil]
    exact ⟨G1, ds, d, s1.gh, z, hf, fun v H' G' s2 z2 => q v H' G' (s1.trans s2) z2⟩
/-- a built-in function, a built-in class -/
theorem de_bi {id : String} {x : Str} {p : Pos} {F : List D → Option D} (hc : CallR X (.builtin id) (rFn X.prog X.w X.K F)) (hg : Gl X x) (hm : X.mg x = none) (hv : bootBuiltins x = some (.builtin id)) (ha : DPA X O (e :: es) fs) (hn : x ≠ "__name__" := by decide) (hdb : (x == ("__debug__" : Str)) = false := by decide)
    (he : starEach (e :: es) X.env = (false, eval e X.env) :: starEach es X.env := by rfl) (hpl : (backTo pos (starEach es X.env)).any (·.1) = false := by rfl) : DE X O (.Call (.Name x p) (e :: es) [] pos) (eCall F fs) := by
  refine pe_wk (pe_callB hc hg hm hv ha hn hdb he hpl) fun σ H Q ⟨B, G0, G, ρ, d, r, hf, q⟩ => ?_
  unfold eCall at hf
  split at hf
  · cases hf
  · rename_i ds hx
    exact ⟨B, G0, G, ρ, ds, r, hx, fun vs H1 G1 s1 z => ⟨G1, ds, d, s1.gh, z, hf, fun v H' G' s2 z2 => q v H' G' (s1.trans s2) z2⟩⟩
theorem de_ty {T : String} {x : Str} {p : Pos} {F : List D → Option D} (hc : CallR X (.type T) (rFn X.prog X.w X.K F)) (hg : Gl X x) (hm : X.mg x = none) (hv : bootBuiltins x = some (.type T)) (ha : DPA X O (e :: es) fs) (hn : x ≠ "__name__" := by decide) (hdb : (x == ("__debug__" : Str)) = false := by decide)
    (he : starEach (e :: es) X.env = (false, eval e X.env) :: starEach es X.env := by rfl) (hpl : (backTo pos (starEach es X.env)).any (·.1) = false := by rfl) : DE X O (.Call (.Name x p) (e :: es) [] pos) (eCall F fs) := by
  refine pe_wk (pe_callTy hc hg hm hv ha hn hdb he hpl) fun σ H Q ⟨B, G0, G, ρ, d, r, hf, q⟩ => ?_
  unfold eCall at hf
  split at hf
  · cases hf
  · rename_i ds hx
    exact ⟨B, G0, G, ρ, ds, r, hx, fun vs H1 G1 s1 z => ⟨G1, ds, d, s1.gh, z, hf, fun v H' G' s2 z2 => q v H' G' (s1.trans s2) z2⟩⟩
/-- a[i] -/
theorem de_ix {F : D → D → Option D} (hr : IxR X (r2 X.prog X.w X.K F)) (ha : DP X O a f) (hb : DP X O b g) (hs : PlainIx b) : DE X O (.Subscript a b pos) (e2 F f g) := by
  refine pe_wk (pe_ix hr ha hb hs) fun σ H Q ⟨B, G0, G, ρ, d, r, hf, q⟩ => ?_
  unfold e2 at hf
  split at hf
  · cases hf
  · rename_i x hx
    split at hf
    · cases hf
    · rename_i y hy
      refine ⟨B, G0, G, ρ, x, r, hx, fun v H1 G1 s1 z1 => ⟨B, G0, G1, ρ, y, r.stp s1, hy, fun u H2 G2 s2 z2 => ?_⟩⟩
      exact ⟨G2, x, y, d, s2.gh, z1.up s2, z2, hf, fun v' H' G' s3 z3 => q v' H' G' ((s1.trans s2).trans s3) z3⟩
end
end DL
namespace DL
open PySem PySem.Spec PyProof.Rows L2

/-! ### targets -/
abbrev Gf := D → Sl → Option Sl
abbrev Gsf := List D → Sl → Option Sl
def gNm (i : Nat) : Gf := fun d ρ => some (ρ.set i (some d))
def gTp (n : Nat) (t : Gsf) : Gf := fun d ρ => match d with
  | .tuple ds => if ds.length = n then t ds ρ else none
  | _ => none
def gsNil : Gsf := fun ds ρ => match ds with
  | [] => some ρ
  | _ => none
def gsCons (t : Gf) (r : Gsf) : Gsf := fun ds ρ => match ds with
  | [] => none
  | d :: ds => match t d ρ with
    | none => none
    | some ρ1 => r ds ρ1
abbrev DG (X : Cx) (O vs : List Nat) (e : Expr) (t : Gf) : Prop := PG X e (tG X.prog X.w X.K O vs t)
abbrev DGs (X : Cx) (O vs : List Nat) (es : List Expr) (t : Gsf) : Prop := PGs X es (tGs X.prog X.w X.K O vs t)
section
variable {X : Cx} {O vs : List Nat} {e : Expr} {es : List Expr} {pos : Pos}
theorem dg_nm (i : Nat) {x : Str} (hN : X.N.Nodup) (hi : X.N[i]? = some x := by rfl) (hx : Loc X.env.scope x := by first | exact Or.inl rfl | exact Or.inr rfl) (hO : i ∉ O := by decide) (hv : i ∈ vs := by decide)
    (hf : X.fn x = true ∨ X.env.scope.names.lookup x = some .local := by first | exact .inl rfl | exact .inr rfl | assumption) : DG X O vs (.Name x pos) (gNm i) := by
  refine pg_wk (pg_name hN hi hx hf) fun v σ H Q ⟨B, G0, G, ρ, d, ρ', r, z, ht, q⟩ => ?_
  cases ht
  exact q _ (r.set hO z) (wipe_set hv)
theorem dgs_nil : DGs X O vs [] gsNil := ⟨fun pins s σ H us vals Q I r ⟨B, G0, G, ρ, ds, ρ', rr, z, ht, q⟩ => by
  refine pgs_nil.run pins s σ H us vals Q I r ?_
  cases ds with
  | nil => cases ht; cases z; exact ⟨rfl, q σ rr rfl⟩
  | cons _ _ => cases ht⟩
theorem dgs_cons {t : Gf} {u : Gsf} (h1 : DG X O vs e t) (h2 : DGs X O vs es u) (hs : (assignEach (e :: es) X.env).map (·.2) = assign e X.env :: (assignEach es X.env).map (·.2) := by rfl) : DGs X O vs (e :: es) (gsCons t u) := ⟨fun pins s σ H us vals Q I r ⟨B, G0, G, ρ, ds, ρ', rr, z, ht, q⟩ => by
  refine (pgs_cons h1 h2 hs).run pins s σ H us vals Q I r ?_
  cases ds with
  | nil => cases ht
  | cons d ds =>
    cases z with
    | cons z1 z2 =>
      unfold gsCons at ht
      split at ht
      · cases ht
      · rename_i heq; cases heq
        split at ht
        · cases ht
        · rename_i ρ1 h1
          exact ⟨_, _, rfl, B, G0, G, ρ, d, ρ1, rr, .inl z1, h1, fun σ1 r1 w1 => ⟨B, G0, G, ρ1, ds, ρ', r1, z2, ht, fun σ2 r2 w2 => q σ2 r2 (w2.trans w1)⟩⟩⟩
theorem dg_tup {k : Nat} {t : Gsf} {n : Nat} (h : DGs X O vs es t) (hc : X.calm = true := by rfl) (hn : (assignEach es X.env).length = n := by rfl) (hst : (assignEach es X.env).findIdx? (·.1) = none := by rfl) : DG X O vs (.Tuple es k pos) (gTp n t) := by
  refine pg_wk (pg_tup hc h hn hst) fun v σ H Q ⟨B, G0, G, ρ, d, ρ', r, z, ht, q⟩ => ?_
  unfold gTp at ht
  split at ht
  · rename_i ds
    split at ht
    · rename_i hl
      cases z.dp (fun _ => by simp) with
      | tup hs ha => exact ⟨_, _, rfl, SqT.up r.gh hs.sq, by rw [dpa_len ha, hl], B, G0, G, ρ, ds, ρ', r, ha, ht, q⟩
    · cases ht
  · cases ht
end

/-! ### statements -/
abbrev Sf := Sl → Option Out
def sSeq (a b : Sf) : Sf := fun ρ => match a ρ with
  | some (.nx ρ1) => b ρ1
  | o => o
def sNil : Sf := fun ρ => some (.nx ρ)
def sSet (i : Nat) (f : Ef) : Sf := fun ρ => match f ρ with
  | none => none
  | some d => some (.nx (ρ.set i (some d)))
def sAsg (f : Ef) (t : Gf) : Sf := fun ρ => match f ρ with
  | none => none
  | some d => match t d ρ with
    | none => none
    | some ρ1 => some (.nx ρ1)
def sRet (f : Ef) : Sf := fun ρ => match f ρ with
  | none => none
  | some d => some (.rt d)
def sIf (c : Tf) (a b : Sf) : Sf := fun ρ => match c ρ with
  | none => none
  | some true => a ρ
  | some false => b ρ
def forGo (t : Gf) (b : Sf) : List D → Sf
  | [], ρ => some (.nx ρ)
  | d :: ds, ρ => match t d ρ with
    | none => none
    | some ρ1 => match b ρ1 with
      | some (.nx ρ2) => forGo t b ds ρ2
      | o => o
def sFor (it : Af) (t : Gf) (b : Sf) : Sf := fun ρ => match it ρ with
  | none => none
  | some ds => forGo t b ds ρ
def whGo (c : Tf) (b : Sf) : Nat → Sf
  | 0, _ => none
  | n + 1, ρ => match c ρ with
    | none => none
    | some false => some (.nx ρ)
    | some true => match b ρ with
      | some (.nx ρ2) => whGo c b n ρ2
      | o => o
abbrev DS (X : Cx) (O Oo : List Nat) (st : Stmt) (F : Sf) : Prop := PS X st (tS X.prog X.w X.K O Oo F)
abbrev DSs (X : Cx) (O Oo : List Nat) (st : List Stmt) (F : Sf) : Prop := PSs X st (tS X.prog X.w X.K O Oo F)

section
variable {P : Program} {w : World} {K : PySem.W.Frag} {B : Bs} {G0 G G' H H' : Hp} {O O' : List Nat} {ρ : Sl} {σ : L2.St}
theorem Rel.base (r : Rel P w K B G0 O ρ σ H G) : Rel P w K B G O ρ σ H G := ⟨r.len, r.bh, r.gh, fun _ _ e => e, fun _ _ _ => rfl, r.val, r.own, r.sep, r.pin⟩
theorem Rel.unbase {ρ' : Sl} {σ' : L2.St} (r : Rel P w K B G0 O ρ σ H G) (q : Rel P w K B G O' ρ' σ' H' G') : Rel P w K B G0 O' ρ' σ' H' G' := ⟨q.len, q.bh, q.gh, fun a o e => q.gg a o (r.gg a o e), fun a o e => (q.bg a o e).trans (r.bg a o e), q.val, q.own, q.sep, q.pin⟩
theorem Rel.out {Oo : List Nat} {D : Ends} {out : Out} (r : Rel P w K B G0 O ρ σ H G) (h : OutOk P w K B G0 Oo D out) : OutOk P w K B G Oo D out := by
  cases out with
  | nx ρ' => exact fun σ' H' G' q => h σ' H' G' (r.unbase q)
  | rt d => exact fun v H' G' h1 h2 h3 h4 z => h v H' G' h1 (fun a o e => h2 a o (r.gg a o e)) h3 (fun a o e => (h4 a o e).trans (r.bg a o e)) z
/-- a slot owns a new object -/
theorem Rel.setOwn {i : Nat} {p : Addr} {o : HO} {d : D} (r : Rel P w K B G0 O ρ σ H G) (s : Stp H G H' G') (hO : ∀ j, j ∈ O' → j = i ∨ j ∈ O) (hO2 : ∀ j, j ∈ O → j = i ∨ j ∈ O') (hi : i ∈ O') (hp : H p = none) (ho : H' p = some o) (hg : G' p = none) (q : ObjD P w K G' p o d) (hi0 : i ≠ 0) :
    Rel P w K B G0 O' (ρ.set i (some d)) (σ.set i (some (V.ref p))) H' G' := by
  have r' := r.stp s
  have hb : B p = none := by
    cases e : B p with
    | none => rfl
    | some u => rw [r.bh p u e] at hp; cases hp
  refine ⟨by rw [List.length_set, List.length_set]; exact r.len, r'.bh, r'.gh, r'.gg, r'.bg, fun j e h n => ?_, fun j e h n => ?_, fun j k a d' e' hj hk s1 s2 r1 r2 => ?_, fun a d' ha h0 e => ?_⟩
  rotate_right
  · rw [List.getElem?_set_ne hi0] at e ⊢
    exact r.pin a d' ha ((hO 0 h0).resolve_left (Ne.symm hi0)) e
  · rcases get_set_some h with ⟨rfl, rfl⟩ | ⟨hj, h'⟩
    · exact absurd hi n
    · obtain ⟨u, e1, z⟩ := r'.val j e h' fun z => n ((hO2 j z).resolve_left hj)
      exact ⟨u, by rw [List.getElem?_set_ne (Ne.symm hj)]; exact e1, z⟩
  · rcases get_set_some h with ⟨rfl, rfl⟩ | ⟨hj, h'⟩
    · exact ⟨p, o, set_at r.len h, ho, hg, hb, q⟩
    · obtain ⟨a, u, e1, z⟩ := r'.own j e h' ((hO j n).resolve_left hj)
      exact ⟨a, u, by rw [List.getElem?_set_ne (Ne.symm hj)]; exact e1, z⟩
  · have key : ∀ j d, j ∈ O' → j ≠ i → σ[j]? = some (some (V.ref p)) → ρ[j]? = some (some d) → False := fun j d hj nj e1 e2 => by
      obtain ⟨a, u, e3, h3, _⟩ := r.own j d e2 ((hO j hj).resolve_left nj)
      rw [e1] at e3; cases e3
      rw [hp] at h3; cases h3
    rcases get_set_some s1 with ⟨rfl, e1⟩ | ⟨nj, e1⟩
    · cases e1
      rcases get_set_some s2 with ⟨rfl, e2⟩ | ⟨nk, e2⟩
      · rfl
      · rw [List.getElem?_set_ne (Ne.symm nk)] at r2
        exact (key k _ hk nk e2 r2).elim
    · rw [List.getElem?_set_ne (Ne.symm nj)] at r1
      rcases get_set_some s2 with ⟨rfl, e2⟩ | ⟨nk, e2⟩
      · cases e2
        exact (key j _ hj nj e1 r1).elim
      · rw [List.getElem?_set_ne (Ne.symm nk)] at r2
        exact r.sep j k a _ _ ((hO j hj).resolve_left nj) ((hO k hk).resolve_left nk) e1 e2 r1 r2
/-- an owned object changes -/
theorem Rel.mut {i : Nat} {p : Addr} {o : HO} {d d' : D} (r : Rel P w K B G0 O ρ σ H G) (hi : i ∈ O) (e1 : ρ[i]? = some (some d)) (e2 : σ[i]? = some (some (V.ref p))) (q : ObjD P w K G p o d') : Rel P w K B G0 O (ρ.set i (some d')) σ (upd H p o) G := by
  obtain ⟨p', o', e3, h1, g1, b1, _⟩ := r.own i d e1 hi
  rw [e2] at e3; cases e3
  have ne : ∀ {F : Hp} {a u}, F p = none → F a = some u → a ≠ p := fun f e => ne_of_none e f
  refine ⟨by rw [List.length_set]; exact r.len, fun a u e => ?_, fun a u e => ?_, r.gg, r.bg, fun j e h n => ?_, fun j e h n => ?_, fun j k a dd ee hj hk s1 s2 r1 r2 => ?_, fun a dd ha h0 e => ?_⟩
  rotate_right
  · rcases get_set_some e with ⟨rfl, rfl⟩ | ⟨_, e'⟩
    · exact r.pin a d ha h0 e1
    · exact r.pin a _ ha h0 e'
  · rw [upd_ne (ne b1 e)]; exact r.bh a u e
  · rw [upd_ne (ne g1 e)]; exact r.gh a u e
  · rcases get_set_some h with ⟨rfl, rfl⟩ | ⟨hj, h'⟩
    · exact absurd hi n
    · exact r.val j e h' n
  · rcases get_set_some h with ⟨rfl, rfl⟩ | ⟨hj, h'⟩
    · exact ⟨p, o, e2, upd_same, g1, b1, q⟩
    · obtain ⟨a, u, e3, h3, z⟩ := r.own j e h' n
      refine ⟨a, u, e3, ?_, z⟩
      have na : a ≠ p := fun y => by
        subst y
        exact hj (r.sep j i a e d n hi e3 e2 h' e1)
      rw [upd_ne na]
      exact h3
  · have un : ∀ (j : Nat) (x : D), (ρ.set i (some d'))[j]? = some (some x) → ∃ y, ρ[j]? = some (some y) := fun j x h => by
      rcases get_set_some h with ⟨rfl, rfl⟩ | ⟨hj, h'⟩
      · exact ⟨_, e1⟩
      · exact ⟨_, h'⟩
    obtain ⟨y1, r1⟩ := un _ _ r1
    obtain ⟨y2, r2⟩ := un _ _ r2
    exact r.sep j k a _ _ hj hk s1 s2 r1 r2
end

section
variable {X : Cx} {O O' O1 Oo vs : List Nat} {e a b c : Expr} {es : List Expr} {f g : Ef} {fs : Af} {pos pos' : Pos} {st : Stmt} {sts : List Stmt} {F F' : Sf} {i : Nat} {x : Str}
/-- fewer owners at the start -/
theorem ds_frz (h : DS X O' Oo st F) (hs : ∀ i, i ∈ O' → i ∈ O := by decide) : DS X O Oo st F := ps_wk h fun D σ H ⟨B, G0, G, ρ, out, r, hf, q⟩ => by
  obtain ⟨G', _, r'⟩ := r.frz hs
  exact ⟨B, G0, G', ρ, out, r', hf, q⟩
theorem dss_frz (h : DSs X O' Oo sts F) (hs : ∀ i, i ∈ O' → i ∈ O := by decide) : DSs X O Oo sts F := pss_wk h fun D σ H ⟨B, G0, G, ρ, out, r, hf, q⟩ => by
  obtain ⟨G', _, r'⟩ := r.frz hs
  exact ⟨B, G0, G', ρ, out, r', hf, q⟩
/-- .. at the end -/
theorem dss_end (h : DSs X O O' sts F) (hs : ∀ i, i ∈ Oo → i ∈ O' := by decide) : DSs X O Oo sts F := pss_wk h fun D σ H ⟨B, G0, G, ρ, out, r, hf, q⟩ => by
  refine ⟨B, G0, G, ρ, out, r, hf, ?_⟩
  cases out with
  | nx ρ' => exact fun σ' H' G' r' => let ⟨G2, _, r2⟩ := r'.frz hs; q σ' H' G2 r2
  | rt d => exact q
theorem dss_nil : DSs X O O [] sNil := pss_wk pss_nil fun D σ H ⟨B, G0, G, ρ, out, r, hf, q⟩ => by
  cases hf; exact q σ H G r
theorem dss_one (h : DS X O Oo st F) : DSs X O Oo [st] F := pss_one h
theorem dss_cons (h1 : DS X O O1 st F) (h2 : DSs X O1 Oo sts F') : DSs X O Oo (st :: sts) (sSeq F F') := pss_wk (pss_cons h1 h2) fun D σ H ⟨B, G0, G, ρ, out, r, hf, q⟩ => by
  unfold sSeq at hf
  split at hf
  · rename_i ρ1 h1
    exact ⟨B, G0, G, ρ, _, r, h1, fun σ' H' G' r' => ⟨B, G0, G', ρ1, out, r', hf, q⟩⟩
  · rename_i o hn
    refine ⟨B, G0, G, ρ, out, r, hf, ?_⟩
    cases out with
    | nx ρ1 => exact absurd hf (hn ρ1)
    | rt d => exact q
/-- name = value, by any rule for the value -/
theorem asg_of {te : TE} (h : ∀ σ H Q, tD X.prog X.w X.K O f σ H Q → te σ H Q) (h1 : ∀ j, j ∈ O' → j ∈ O) (h2 : i ∉ O') : ∀ D σ H, tS X.prog X.w X.K O O' (sSet i f) D σ H → tAsg te (gName i) D σ H := fun D σ H ⟨B, G0, G, ρ, out, r, hf, q⟩ => by
  unfold sSet at hf
  split at hf
  · cases hf
  · rename_i d hx
    cases hf
    refine h σ H _ ⟨B, G0, G, ρ, d, r, hx, fun v H1 G1 s1 z => ?_⟩
    obtain ⟨G2, g2, r2⟩ := (r.stp s1).frz h1
    exact q _ _ _ (r2.set h2 (z.up g2))
theorem ds_set (i : Nat) (hN : X.N.Nodup) (he : DE X O e f) (h1 : ∀ j, j ∈ O' → j ∈ O := by decide) (h2 : i ∉ O' := by decide) (hi : X.N[i]? = some x := by rfl) (hx : Loc X.env.scope x := by first | exact Or.inl rfl | exact Or.inr rfl)
    (hs : swapsWith e (some (.Name x pos')) pos.line X.env = pure false := by rfl) (hf : X.fn x = true ∨ X.env.scope.names.lookup x = some .local := by first | exact .inl rfl | exact .inr rfl | assumption) : DS X O O' (.Assign [.Name x pos'] e pos) (sSet i f) :=
  ps_wk (ps_set hN hi hx he hs hf) (asg_of (fun _ _ _ z => z) h1 h2)
/-- name = a new object, owned from here on -/
theorem ds_own (i : Nat) (hN : X.N.Nodup) (he : DF X O e f) (h1 : ∀ j, j ∈ O' → j = i ∨ j ∈ O := by decide) (h1' : ∀ j, j ∈ O → j = i ∨ j ∈ O' := by decide) (h2 : i ∈ O' := by decide) (h0 : i ≠ 0 := by decide) (hi : X.N[i]? = some x := by rfl) (hx : Loc X.env.scope x := by first | exact Or.inl rfl | exact Or.inr rfl)
    (hs : swapsWith e (some (.Name x pos')) pos.line X.env = pure false := by rfl) (hf : X.fn x = true ∨ X.env.scope.names.lookup x = some .local := by first | exact .inl rfl | exact .inr rfl | assumption) : DS X O O' (.Assign [.Name x pos'] e pos) (sSet i f) :=
  ps_wk (ps_set hN hi hx he hs hf) fun D σ H ⟨B, G0, G, ρ, out, r, hf, q⟩ => by
    unfold sSet at hf
    split at hf
    · cases hf
    · rename_i d hx
      cases hf
      exact ⟨B, G0, G, ρ, d, r, hx, fun p o H1 G1 s1 hp ho hg z => q _ _ _ (r.setOwn s1 h1 h1' h2 hp ho hg z h0)⟩
/-- targets = value -/
theorem ds_asg {tg : Expr} {t : Gf} (he : DE X O e f) (ht : DG X O vs tg t) (hs : swapsWithSole [tg] e pos.line X.env = pure false := by rfl) (hw : swappedStores [tg] e X.env = pure none := by rfl)
    (h1 : (assignEach [tg] X.env).map (·.2) = [assign tg X.env] := by rfl) : DS X O O (.Assign [tg] e pos) (sAsg f t) :=
  ps_wk (ps_asg he ht hs hw h1) fun D σ H ⟨B, G0, G, ρ, out, r, hf, q⟩ => by
    unfold sAsg at hf
    split at hf
    · cases hf
    · rename_i d hx
      split at hf
      · cases hf
      · rename_i ρ1 h1
        cases hf
        exact ⟨B, G0, G, ρ, d, r, hx, fun v H1 G1 s1 z => ⟨B, G0, G1, ρ, d, ρ1, r.stp s1, z, h1, fun σ' r' _ => q _ _ _ r'⟩⟩
theorem ds_ret (he : DE X O e f) : DS X O Oo (.Return (some e) pos) (sRet f) := ps_wk (ps_ret he) fun D σ H ⟨B, G0, G, ρ, out, r, hf, q⟩ => by
  unfold sRet at hf
  split at hf
  · cases hf
  · rename_i d hx
    cases hf
    exact ⟨B, G0, G, ρ, d, r, hx, fun v H1 G1 s1 z => q v H1 G1 (r.stp s1).bh (r.stp s1).gg s1.gh (r.stp s1).bg z⟩
theorem ds_if {t : Tf} {sb : List Stmt} (hc : DT X O c t) (ha : DSs X O Oo sts F) (hb : DSs X O Oo sb F') : DS X O Oo (.If c sts sb pos) (sIf t F F') := ps_wk (ps_if hc ha hb) fun D σ H ⟨B, G0, G, ρ, out, r, hf, q⟩ => by
  unfold sIf at hf
  split at hf
  · cases hf
  · rename_i hx
    exact ⟨B, G0, G, ρ, _, r, hx, fun H1 G1 s1 => iteT ⟨B, G0, G1, ρ, out, r.stp s1, hf, q⟩⟩
  · rename_i hx
    exact ⟨B, G0, G, ρ, _, r, hx, fun H1 G1 s1 => iteF ⟨B, G0, G1, ρ, out, r.stp s1, hf, q⟩⟩
/-- code that no data comes to -/
def sNo : Sf := fun _ => none
theorem ds_no : DS X O Oo st sNo := ps_wk ps_never fun D σ H ⟨B, G0, G, ρ, out, r, hf, q⟩ => by cases hf
theorem dss_no : DSs X O Oo sts sNo := pss_wk pss_never fun D σ H ⟨B, G0, G, ρ, out, r, hf, q⟩ => by cases hf

theorem ds_for {tg iter : Expr} {t : Gf} (hi : PI X tg iter (tI X.prog X.w X.K O fs)) (hg : DG X O vs tg t) (hb : DSs X O O sts F) (hc : X.calm = true := by rfl) (hp : PassesOwn (model X.prog X.w) X.A X.env X.xe := by exact PassesOwn.never)
    (hs : ∀ x, foldedSetIterable iter X.env x = pure x := by intro _; rfl) : DS X O O (.For tg iter sts [] pos) (sFor fs t F) := ps_wk (ps_for hp hc hi hg hb hs) fun D σ H ⟨B, G0, G, ρ, out, r, hf, q⟩ => by
  unfold sFor at hf
  split at hf
  · cases hf
  · rename_i ds hx
    refine ⟨B, G0, G, ρ, ds, r, hx, fun J H1 G1 s1 ⟨Y, W, hY⟩ => ?_⟩
    refine for_it W (fun i σ H => ∃ G ρ, Rel X.prog X.w X.K B G0 O ρ σ H G ∧ (∀ a o, G1 a = some o → G a = some o) ∧ forGo t F (ds.drop i) ρ = some out) ⟨G1, ρ, r.stp s1, fun _ _ e => e, hf⟩
      (fun i σ H _ ⟨G, ρ, r, g, _⟩ a o e => r.gh a o (g a o e)) (fun i x σ H H' hi ⟨G, ρ, r, g, hf⟩ y => ?_) (fun σ H ⟨G, ρ, r, g, hf⟩ => ?_)
    · have hd : ds.drop i = ds[i] :: ds.drop (i + 1) := List.drop_eq_getElem_cons hi
      rw [hd, forGo] at hf
      split at hf
      · cases hf
      · rename_i ρ1 h1
        obtain ⟨G3, s3, z⟩ := hY i x H H' G ds[i] (List.getElem?_eq_getElem hi) y (fun a o e => r.gh a o (g a o e)) g r.gh
        refine ⟨B, G0, G3, ρ, ds[i], ρ1, r.stp s3, .inl z, h1, fun σ1 r1 _ => ?_⟩
        split at hf
        · rename_i ρ2 h2
          exact ⟨B, G3, G3, ρ1, _, r1.base, h2, fun σ' H' G' r' => ⟨G', ρ2, r1.unbase r', fun a o e => r'.gg a o (s3.gg a o (g a o e)), hf⟩⟩
        · rename_i hn
          refine ⟨B, G0, G3, ρ1, out, r1, hf, ?_⟩
          cases out with
          | nx ρ2 => exact absurd hf (hn ρ2)
          | rt d => exact q
    · rw [List.drop_length, forGo] at hf
      cases hf
      exact q σ H G r
def sWh (n : Nat) (c : Tf) (b : Sf) : Sf := fun ρ => whGo c b n ρ
theorem ds_wh {n : Nat} {t : Tf} (hc : DT X O c t) (hb : DSs X O O sts F) (hp : PassesOwn (model X.prog X.w) X.A X.env X.xe := by exact PassesOwn.never) : DS X O O (.While c sts [] pos) (sWh n t F) := ps_wk (ps_while hp hc hb) fun D σ H ⟨B, G0, G, ρ, out, r, hf, q⟩ => by
  refine ⟨fun m σ H => ∃ G ρ, Rel X.prog X.w X.K B G0 O ρ σ H G ∧ whGo t F m ρ = some out, ⟨n, G, ρ, r, hf⟩, ?_⟩
  rintro m σ H ⟨G, ρ, r, hf⟩
  cases m with
  | zero => cases hf
  | succ m =>
    unfold whGo at hf
    split at hf
    · cases hf
    · rename_i h1
      cases hf
      exact ⟨B, G0, G, ρ, _, r, h1, fun H1 G1 s1 => iteF (q σ H1 G1 (r.stp s1))⟩
    · rename_i h1
      refine ⟨B, G0, G, ρ, _, r, h1, fun H1 G1 s1 => iteT ⟨fun σ' H' => ∃ G ρ, Rel X.prog X.w X.K B G0 O ρ σ' H' G ∧ whGo t F m ρ = some out, fun σ' H' z => ⟨m, Nat.lt_succ_self m, z⟩, ?_⟩⟩
      split at hf
      · rename_i ρ2 h2
        exact ⟨B, G0, G1, ρ, _, r.stp s1, h2, fun σ' H' G' r' => ⟨G', ρ2, r', hf⟩⟩
      · rename_i hn
        refine ⟨B, G0, G1, ρ, out, r.stp s1, hf, ?_⟩
        cases out with
        | nx ρ2 => exact absurd hf (hn ρ2)
        | rt d => exact q
end

/-! ### comprehensions -/
def lcGo (t : Gf) (c : Tf) (el : Ef) (ρ : Sl) : List D → Option (List D)
  | [] => some []
  | d :: ds => match t d ρ with
    | none => none
    | some ρ1 => match c ρ1 with
      | none => none
      | some false => lcGo t c el ρ ds
      | some true => match el ρ1 with
        | none => none
        | some x => if flatD x = true then (match lcGo t c el ρ ds with
          | none => none
          | some r => some (x :: r)) else none
def cYes : Tf := fun _ => some true
def eLc (vs : List Nat) (it : Af) (t : Gf) (c : Tf) (el : Ef) : Ef := fun ρ => match it ρ with
  | none => none
  | some ds => match lcGo t c el (wipeD ρ vs) ds with
    | none => none
    | some r => if r.length ≤ 16777216 then some (.list r) else none
section
variable {X : Cx} {O vs : List Nat} {elt tg iter : Expr} {ifs : List Expr} {scope : Scope} {own : List (Str × Nat)} {pos : Pos} {it : Af} {t : Gf} {c : Tf} {el : Ef} {tt : TT}
def tTs (P : Program) (w : World) (K : PySem.W.Frag) := tT P w K
theorem wipe_get (σ : L2.St) (i : Nat) : ∀ vs : List Nat, (wipe σ vs)[i]? = if i ∈ vs then (σ[i]?).map (fun _ => none) else σ[i]?
  | [] => by simp [wipe]
  | v :: vs => by
    unfold wipe
    by_cases e : v = i
    · subst e
      rw [if_pos List.mem_cons_self, List.getElem?_set_self', wipe_get σ v vs]
      by_cases h : v ∈ vs
      · rw [if_pos h]; cases σ[v]? <;> rfl
      · rw [if_neg h]; cases σ[v]? <;> rfl
    · rw [List.getElem?_set_ne e, wipe_get σ i vs]
      by_cases h : i ∈ vs
      · rw [if_pos h, if_pos (List.mem_cons_of_mem _ h)]
      · rw [if_neg h, if_neg]
        intro z
        rcases List.mem_cons.mp z with z | z
        · exact e z.symm
        · exact h z
theorem wipe_wipe (σ : L2.St) (vs : List Nat) : wipe (wipe σ vs) vs = wipe σ vs := by
  refine List.ext_getElem? fun i => ?_
  rw [wipe_get, wipe_get]
  by_cases h : i ∈ vs
  · rw [if_pos h, if_pos h]; cases σ[i]? <;> rfl
  · rw [if_neg h, if_neg h]
/-- the reading of a comprehension by data, its list not yet frozen -/
theorem lc_of : ∀ σ H Q, tF X.prog X.w X.K O (eLc (own.map (·.2)) it t c el) σ H Q → tLc (tIP X.prog X.w X.K O it) (tG X.prog X.w X.K O (own.map (·.2)) t) (tT X.prog X.w X.K O c) (tD X.prog X.w X.K O el) (own.map (·.2)) σ H Q := fun σ H Q ⟨B, G0, G, ρ, d, r, hf, q⟩ => by
  unfold eLc at hf
  split at hf
  · cases hf
  rename_i ds hx
  split at hf
  · cases hf
  rename_i res hr
  split at hf
  case isFalse => cases hf
  rename_i hl
  cases hf
  refine ⟨B, G0, G, ρ, ds, r, hx, fun J H1 G1 s1 ⟨Y, W, hY⟩ D hD => ?_⟩
  have r1 := r.stp s1
  have st0 : Stp H1 G1 (upd H1 D (.lst [])) G1 := Stp.own s1.gh hD
  refine lc_it W (fun i H2 => ∃ G2 xs acc rest, Stp H1 G1 H2 G2 ∧ G2 D = none ∧ H2 D = some (.lst xs) ∧ DqAll X.K G2 xs acc ∧ lcGo t c el (wipeD ρ (own.map (·.2))) (ds.drop i) = some rest ∧ acc ++ rest = res)
    ⟨G1, [], [], res, st0, ?_, upd_same, .nil, hr, rfl⟩ (fun i H2 _ ⟨G2, xs, acc, rest, s2, _⟩ a o e => s2.hh a o e) (fun i x H2 H3 hi ⟨G2, xs, acc, rest, s2, g2, e2, z2, hrest, hres⟩ y => ?_) (fun H2 ⟨G2, xs, acc, rest, s2, g2, e2, z2, hrest, hres⟩ => ?_)
  · cases e : G1 D with
    | none => rfl
    | some o => rw [s1.gh D o e] at hD; cases hD
  · have hd : ds.drop i = ds[i] :: ds.drop (i + 1) := List.drop_eq_getElem_cons hi
    rw [hd, lcGo] at hrest
    split at hrest
    · cases hrest
    rename_i ρ1 h1
    obtain ⟨G3, s3, z⟩ := hY i x H2 H3 G2 ds[i] (List.getElem?_eq_getElem hi) y (fun a o e => s2.hh a o e) s2.gg s2.gh
    have rr := ((r1.stp s2).wipe (own.map (·.2))).stp s3
    have gD : ∀ {H' G'}, Stp H2 G2 H' G' → G' D = none ∧ H' D = some (.lst xs) := fun s => ⟨(s.old D _ e2).trans g2, s.hh _ _ e2⟩
    refine ⟨B, G0, G3, _, ds[i], ρ1, rr, .inl z, h1, fun σ1 r1' hw => ⟨?_, ?_⟩⟩
    · rw [hw]
      exact (wipe_wipe σ _)
    · split at hrest
      · cases hrest
      · rename_i hc
        exact ⟨B, G0, G3, ρ1, _, r1', hc, fun H4 G4 s4 => iteF ⟨G4, xs, acc, rest, s2.trans (s3.trans s4), (gD (s3.trans s4)).1, (gD (s3.trans s4)).2, dpa_up z2 (s3.trans s4).gg, hrest, hres⟩⟩
      · rename_i hc
        refine ⟨B, G0, G3, ρ1, _, r1', hc, fun H4 G4 s4 => iteT ?_⟩
        split at hrest
        · cases hrest
        rename_i y' hel
        split at hrest
        case isFalse => cases hrest
        rename_i hfl
        split at hrest
        · cases hrest
        rename_i r' hr'
        cases hrest
        refine ⟨B, G0, G4, ρ1, y', r1'.stp s4, hel, fun v H5 G5 s5 z5 => ?_⟩
        have s35 := s3.trans (s4.trans s5)
        obtain ⟨gd, hd5⟩ := gD s35
        have hdp : Dq X.K G5 v y' := z5.dp fun kvs e => by rw [e] at hfl; cases hfl
        refine ⟨xs, hd5, ?_, G5, xs ++ [v], acc ++ [y'], r', ?_, gd, upd_same, dpa_app (dpa_up z2 s35.gg) (.cons hdp .nil), hr', by rw [List.append_assoc]; exact hres⟩
        · rw [dpa_len z2, sizeLine_eq]
          have : res.length = acc.length + (r'.length + 1) := by rw [← hres, List.length_append, List.length_cons]
          omega
        · have s := s2.trans s35
          refine ⟨fun a o e => ?_, s.gg, fun a o e => ?_, s.old⟩
          · rw [upd_ne (ne_of_none e hD)]; exact s.hh a o e
          · rw [upd_ne (ne_of_none e gd)]; exact s.gh a o e
  · rw [List.drop_length, lcGo] at hrest
    cases hrest
    rw [List.append_nil] at hres
    subst hres
    refine q D (.lst xs) H2 G2 (s1.trans s2) ?_ e2 g2 ⟨xs, rfl, z2⟩
    cases e : H D with
    | none => rfl
    | some o => rw [s1.hh D o e] at hD; cases hD
end
end DL
namespace DL
open PySem PySem.Spec PyProof.Rows L2

section
variable {X : Cx} {O O' vs : List Nat} {elt tg iter tg1 iter1 : Expr} {ifs ifs1 : List Expr} {scope : Scope} {own : List (Str × Nat)} {vs1 : List Nat} {pos : Pos} {it it1 : Af} {t t1 : Gf} {c c1 : Tf} {el f : Ef} {tt : TT}
abbrev DTs (X : Cx) (O : List Nat) (ifs : List Expr) (c : Tf) : Prop := PTs X ifs (tT X.prog X.w X.K O c)
theorem dts_nil : DTs X O [] cYes := ⟨fun pins s σ H Q I ⟨B, G0, G, ρ, b, r, hf, q⟩ => by
  cases hf
  exact pts_nil.run pins s σ H Q I (q H G (Stp.refl r.gh))⟩
theorem dts_one {e : Expr} (h : DT X O e c) : DTs X O [e] c := pts_one h
theorem tD_tF {P : Program} {w : World} {K : PySem.W.Frag} : ∀ σ H Q, tD P w K O f σ H Q → tF P w K O f σ H Q := fun σ H Q ⟨B, G0, G, ρ, d, r, hf, q⟩ => ⟨B, G0, G, ρ, d, r, hf, fun p o H' G' s hn hp gn z => by
  refine q (.ref p) H' (upd G' p o) ⟨s.hh, fun a u e => ?_, fun a u e => ?_, fun a u e => ?_⟩ (.inr ⟨p, o, rfl, upd_same, z.up fun a u e => ?_⟩)
  · rw [upd_ne (ne_of_none (r.gh a u e) hn)]; exact s.gg a u e
  · by_cases y : a = p
    · subst y; rw [upd_same] at e; cases e; exact hp
    · rw [upd_ne y] at e; exact s.gh a u e
  · rw [upd_ne (ne_of_none e hn)]; exact s.old a u e
  · rw [upd_ne (ne_of_none e gn)]; exact e⟩
abbrev HG (X : Cx) (scope : Scope) (O vs : List Nat) (tg : Expr) (t : Gf) : Prop := ∀ (s : Shared) (H : Hp) (C : Addr) (cl : List (Str × Addr)) (fp : List Addr), DG (X.blk s H scope (compEnvC scope cl C X.env) fp) O vs tg t
abbrev HT (X : Cx) (scope : Scope) (O : List Nat) (ifs : List Expr) (c : Tf) : Prop := ∀ (s : Shared) (H : Hp) (C : Addr) (cl : List (Str × Addr)) (fp : List Addr), DTs (X.blk s H scope (compEnvC scope cl C X.env) fp) O ifs c
abbrev HE (X : Cx) (scope : Scope) (O : List Nat) (e : Expr) (f : Ef) : Prop := ∀ (s : Shared) (H : Hp) (C : Addr) (cl : List (Str × Addr)) (fp : List Addr), DE (X.blk s H scope (compEnvC scope cl C X.env) fp) O e f
theorem df_lc (hN : X.N.Nodup) (ok : BlkOk X.N X.env.scope scope own) (hi : PI X tg iter (tIP X.prog X.w X.K O it)) (hg : HG X scope O (own.map (·.2)) tg t) (ht : HT X scope O ifs c) (he : HE X scope O elt el)
    (hc : X.calm = true := by rfl) (hs : ∀ x, foldedSetIterable iter X.env x = pure x := by intro _; rfl) : DF X O (.ListComp elt [⟨tg, iter, ifs, 0⟩] scope pos) (eLc (own.map (·.2)) it t c el) :=
  pe_wk (pe_lc hc hN hi ok hg ht he hs) lc_of
theorem de_lc (hN : X.N.Nodup) (ok : BlkOk X.N X.env.scope scope own) (hi : PI X tg iter (tIP X.prog X.w X.K O it)) (hg : HG X scope O (own.map (·.2)) tg t) (ht : HT X scope O ifs c) (he : HE X scope O elt el)
    (hc : X.calm = true := by rfl) (hs : ∀ x, foldedSetIterable iter X.env x = pure x := by intro _; rfl) : DE X O (.ListComp elt [⟨tg, iter, ifs, 0⟩] scope pos) (eLc (own.map (·.2)) it t c el) :=
  de_frz (df_lc hN ok hi hg ht he hc hs)
/-- y = [..], y a local -/
theorem ds_lc (i : Nat) {y : Str} {py spos : Pos} (hN : X.N.Nodup) (ok : BlkOk X.N X.env.scope scope own) (hi : PI X tg iter (tIP X.prog X.w X.K O it)) (hg : HG X scope O (own.map (·.2)) tg t) (ht : HT X scope O ifs c) (he : HE X scope O elt el)
    (hsw : swapsWith (.ListComp elt [⟨tg, iter, ifs, 0⟩] scope pos) (some (.Name y py)) spos.line X.env = pure true) (h1 : ∀ j, j ∈ O' → j ∈ O := by decide) (h2 : i ∉ O' := by decide)
    (hy : X.N[i]? = some y := by rfl) (hyl : X.env.scope.names.lookup y = some .local := by rfl) (hc : X.calm = true := by rfl) (hs : ∀ x, foldedSetIterable iter X.env x = pure x := by intro _; rfl) : DS X O O' (.Assign [.Name y py] (.ListComp elt [⟨tg, iter, ifs, 0⟩] scope pos) spos) (sSet i (eLc (own.map (·.2)) it t c el)) :=
  ps_wk (ps_setLc hc hN hy hyl hsw hi ok hg ht he hs) (asg_of (fun σ H Q z => lc_of σ H Q (tD_tF σ H Q z)) h1 h2)
/-- .. owned from here on -/
theorem ds_ownLc (i : Nat) {y : Str} {py spos : Pos} (hN : X.N.Nodup) (ok : BlkOk X.N X.env.scope scope own) (hi : PI X tg iter (tIP X.prog X.w X.K O it)) (hg : HG X scope O (own.map (·.2)) tg t) (ht : HT X scope O ifs c) (he : HE X scope O elt el)
    (hsw : swapsWith (.ListComp elt [⟨tg, iter, ifs, 0⟩] scope pos) (some (.Name y py)) spos.line X.env = pure true) (h1 : ∀ j, j ∈ O' → j = i ∨ j ∈ O := by decide) (h1' : ∀ j, j ∈ O → j = i ∨ j ∈ O' := by decide) (h2 : i ∈ O' := by decide) (h0 : i ≠ 0 := by decide)
    (hy : X.N[i]? = some y := by rfl) (hyl : X.env.scope.names.lookup y = some .local := by rfl) (hc : X.calm = true := by rfl) (hs : ∀ x, foldedSetIterable iter X.env x = pure x := by intro _; rfl) : DS X O O' (.Assign [.Name y py] (.ListComp elt [⟨tg, iter, ifs, 0⟩] scope pos) spos) (sSet i (eLc (own.map (·.2)) it t c el)) :=
  ps_wk (ps_setLc hc hN hy hyl hsw hi ok hg ht he hs) fun D σ H ⟨B, G0, G, ρ, out, r, hf, q⟩ => by
    unfold sSet at hf
    split at hf
    · cases hf
    · rename_i d hx
      cases hf
      exact lc_of σ H _ ⟨B, G0, G, ρ, d, r, hx, fun p o H1 G1 s1 hp ho hg z => q _ _ _ (r.setOwn s1 h1 h1' h2 hp ho hg z h0)⟩

/-! ### two clauses -/
def lc2Go (t : Gf) (c : Tf) (it1 : Af) (vs1 : List Nat) (t1 : Gf) (c1 : Tf) (el : Ef) (ρ : Sl) : List D → Option (List D)
  | [] => some []
  | d :: ds => match t d ρ with
    | none => none
    | some ρ1 => match c ρ1 with
      | none => none
      | some false => lc2Go t c it1 vs1 t1 c1 el ρ ds
      | some true => match it1 ρ1 with
        | none => none
        | some es => match lcGo t1 c1 el (wipeD ρ1 vs1) es with
          | none => none
          | some xs => match lc2Go t c it1 vs1 t1 c1 el ρ ds with
            | none => none
            | some r => some (xs ++ r)
def eLc2 (vs : List Nat) (it : Af) (t : Gf) (c : Tf) (vs1 : List Nat) (it1 : Af) (t1 : Gf) (c1 : Tf) (el : Ef) : Ef := fun ρ => match it ρ with
  | none => none
  | some ds => match lc2Go t c it1 vs1 t1 c1 el (wipeD ρ vs) ds with
    | none => none
    | some r => if r.length ≤ 16777216 then some (.list r) else none
theorem in_it {J : It} {n : Nat} {Gp : Hp → Prop} {Y : Nat → Hp → V → Hp → Prop} (w : Walk J n Gp Y) {H : Hp} {NxO : Hp → Prop} {body : V → Hp → (Hp → Prop) → Prop} (Pv : Nat → Hp → Prop) (h0 : Pv 0 H) (hG : ∀ i H, i ≤ n → Pv i H → Gp H)
    (hs : ∀ i x H H', i < n → Pv i H → Y i H x H' → body x H' (Pv (i + 1))) (hd : ∀ H, Pv n H → NxO H) :
    ∃ W : Nat → Nat → Hp → Prop, (∃ m, W 0 m H) ∧ ∀ i m H, W i m H → (J.stop i H ∧ NxO H) ∨ (J.go i H ∧ ∃ Nx : Hp → Prop, (∀ H', Nx H' → ∃ m', m' < m ∧ W (i + 1) m' H') ∧ ∀ x H', J.yld i H x H' → body x H' Nx) := by
  refine ⟨fun i m H => m = n - i ∧ i ≤ n ∧ Pv i H, ⟨n, by simp, Nat.zero_le _, h0⟩, ?_⟩
  rintro i m H ⟨rfl, hi, p⟩
  have q := hG i H hi p
  by_cases hlt : i < n
  · exact .inr ⟨w.goes i H hlt q, Pv (i + 1), fun H' p' => ⟨n - (i + 1), by omega, rfl, hlt, p'⟩, fun x H' y => hs i x H H' hlt p (w.yields i H x H' hlt q y)⟩
  · have e : i = n := by omega
    subst e
    exact .inl ⟨w.stops H q, hd H p⟩
theorem lc2_of : ∀ σ H Q, tF X.prog X.w X.K [] (eLc2 (own.map (·.2)) it t c vs1 it1 t1 c1 el) σ H Q → tLc2 (tIP X.prog X.w X.K [] it) (tG X.prog X.w X.K [] (own.map (·.2)) t) (tT X.prog X.w X.K [] c) (tI X.prog X.w X.K [] it1) (tG X.prog X.w X.K [] vs1 t1) (tT X.prog X.w X.K [] c1) (tD X.prog X.w X.K [] el) (own.map (·.2)) vs1 σ H Q := fun σ H Q ⟨B, G0, G, ρ, d, r, hf, q⟩ => by
  unfold eLc2 at hf
  split at hf
  · cases hf
  rename_i ds hx
  split at hf
  · cases hf
  rename_i res hr
  split at hf
  case isFalse => cases hf
  rename_i hl
  cases hf
  refine ⟨B, G0, G, ρ, ds, r, hx, fun J H1 G1 s1 ⟨Y, W, hY⟩ D hD => ?_⟩
  have r1 := r.stp s1
  have st0 : Stp H1 G1 (upd H1 D (.lst [])) G1 := Stp.own s1.gh hD
  refine in_it W (fun i H2 => ∃ G2 xs acc rest, Stp H1 G1 H2 G2 ∧ G2 D = none ∧ H2 D = some (.lst xs) ∧ DqAll X.K G2 xs acc ∧ lc2Go t c it1 vs1 t1 c1 el (wipeD ρ (own.map (·.2))) (ds.drop i) = some rest ∧ acc ++ rest = res)
    ⟨G1, [], [], res, st0, ?_, upd_same, .nil, hr, rfl⟩ (fun i H2 _ ⟨G2, xs, acc, rest, s2, _⟩ a o e => s2.hh a o e) (fun i x H2 H3 hi ⟨G2, xs, acc, rest, s2, g2, e2, z2, hrest, hres⟩ y => ?_) (fun H2 ⟨G2, xs, acc, rest, s2, g2, e2, z2, hrest, hres⟩ => ?_)
  · cases e : G1 D with
    | none => rfl
    | some o => rw [s1.gh D o e] at hD; cases hD
  · have hd : ds.drop i = ds[i] :: ds.drop (i + 1) := List.drop_eq_getElem_cons hi
    rw [hd, lc2Go] at hrest
    split at hrest
    · cases hrest
    rename_i ρ1 h1
    obtain ⟨G3, s3, z⟩ := hY i x H2 H3 G2 ds[i] (List.getElem?_eq_getElem hi) y (fun a o e => s2.hh a o e) s2.gg s2.gh
    have rr := ((r1.stp s2).wipe (own.map (·.2))).stp s3
    have gD : ∀ {H' G'}, Stp H2 G2 H' G' → G' D = none ∧ H' D = some (.lst xs) := fun s => ⟨(s.old D _ e2).trans g2, s.hh _ _ e2⟩
    refine ⟨B, G0, G3, _, ds[i], ρ1, rr, .inl z, h1, fun σ1 r1' hw => ⟨?_, ?_⟩⟩
    · rw [hw]
      exact (wipe_wipe σ _)
    · split at hrest
      · cases hrest
      · rename_i hc
        exact ⟨B, G0, G3, ρ1, _, r1', hc, fun H4 G4 s4 => iteF ⟨G4, xs, acc, rest, s2.trans (s3.trans s4), (gD (s3.trans s4)).1, (gD (s3.trans s4)).2, dpa_up z2 (s3.trans s4).gg, hrest, hres⟩⟩
      · rename_i hc
        refine ⟨B, G0, G3, ρ1, _, r1', hc, fun H4 G4 s4 => iteT ?_⟩
        split at hrest
        · cases hrest
        rename_i es hit1
        split at hrest
        · cases hrest
        rename_i inner hin
        split at hrest
        · cases hrest
        rename_i r' hr'
        cases hrest
        refine ⟨B, G0, G4, ρ1, es, r1'.stp s4, hit1, fun J1 H5 G5 s5 ⟨Y1, W1, hY1⟩ => ?_⟩
        have s35 := s3.trans (s4.trans s5)
        have sD : Stp H1 G1 H5 G5 := s2.trans s35
        have r5 := ((r1'.stp s4).stp s5).wipe vs1
        refine in_it W1 (fun j H6 => ∃ G6 xs6 acc6 rest6, Stp H1 G1 H6 G6 ∧ (∀ a o, G5 a = some o → G6 a = some o) ∧ Rel X.prog X.w X.K B G0 [] (wipeD ρ1 vs1) (wipe σ1 vs1) H6 G6 ∧ G6 D = none ∧ H6 D = some (.lst xs6) ∧ DqAll X.K G6 xs6 acc6 ∧ lcGo t1 c1 el (wipeD ρ1 vs1) (es.drop j) = some rest6 ∧ acc6 ++ (rest6 ++ r') = res)
          ⟨G5, xs, acc, inner, sD, fun _ _ e => e, r5, (gD s35).1, (gD s35).2, dpa_up z2 s35.gg, hin, by exact hres⟩ (fun j H6 _ ⟨G6, xs6, acc6, rest6, s6, g6, _⟩ a o e => s6.gh a o (g6 a o e)) (fun j x1 H6 H7 hj ⟨G6, xs6, acc6, rest6, s6, g6, r6, n6, e6, z6, hrest6, hres6⟩ y1 => ?_) (fun H6 ⟨G6, xs6, acc6, rest6, s6, g6, r6, n6, e6, z6, hrest6, hres6⟩ => ?_)
        · have hd1 : es.drop j = es[j] :: es.drop (j + 1) := List.drop_eq_getElem_cons hj
          rw [hd1, lcGo] at hrest6
          split at hrest6
          · cases hrest6
          rename_i ρ3 h3
          obtain ⟨G7, s7, z7⟩ := hY1 j x1 H6 H7 G6 es[j] (List.getElem?_eq_getElem hj) y1 (fun a o e => s6.gh a o (g6 a o e)) g6 s6.gh
          have gD6 : ∀ {H' G'}, Stp H6 G6 H' G' → G' D = none ∧ H' D = some (.lst xs6) := fun s => ⟨(s.old D _ e6).trans n6, s.hh _ _ e6⟩
          refine ⟨B, G0, G7, _, es[j], ρ3, r6.stp s7, .inl z7, h3, fun σ3 r3' hw3 => ⟨?_, ?_⟩⟩
          · rw [hw3]
            exact (wipe_wipe σ1 _)
          · split at hrest6
            · cases hrest6
            · rename_i hc1
              refine ⟨B, G0, G7, ρ3, _, r3', hc1, fun H8 G8 s8 => iteF ?_⟩
              have s68 := s7.trans s8
              exact ⟨G8, xs6, acc6, rest6, s6.trans s68, fun a o e => s68.gg a o (g6 a o e), r6.stp s68, (gD6 s68).1, (gD6 s68).2, dpa_up z6 s68.gg, hrest6, hres6⟩
            · rename_i hc1
              refine ⟨B, G0, G7, ρ3, _, r3', hc1, fun H8 G8 s8 => iteT ?_⟩
              split at hrest6
              · cases hrest6
              rename_i y' hel
              split at hrest6
              case isFalse => cases hrest6
              rename_i hfl
              split at hrest6
              · cases hrest6
              rename_i r'' hr''
              cases hrest6
              refine ⟨B, G0, G8, ρ3, y', r3'.stp s8, hel, fun v H9 G9 s9 z9 => ?_⟩
              have s69 := s7.trans (s8.trans s9)
              obtain ⟨gd, hd9⟩ := gD6 s69
              have hdp : Dq X.K G9 v y' := z9.dp fun kvs e => by rw [e] at hfl; cases hfl
              have ss := s6.trans s69
              have hst : Stp H1 G1 (upd H9 D (.lst (xs6 ++ [v]))) G9 := by
                refine ⟨fun a o e => ?_, ss.gg, fun a o e => ?_, ss.old⟩
                · rw [upd_ne (ne_of_none e hD)]; exact ss.hh a o e
                · rw [upd_ne (ne_of_none e gd)]; exact ss.gh a o e
              refine ⟨xs6, hd9, ?_, G9, xs6 ++ [v], acc6 ++ [y'], r'', hst, fun a o e => s69.gg a o (g6 a o e), ?_, gd, upd_same, dpa_app (dpa_up z6 s69.gg) (.cons hdp .nil), hr'', by rw [List.append_assoc]; exact hres6⟩
              · rw [dpa_len z6, sizeLine_eq]
                have : res.length = acc6.length + ((r''.length + 1) + r'.length) := by rw [← hres6, List.length_append, List.length_append, List.length_cons]
                omega
              · have h9 := r6.stp s69
                refine ⟨h9.len, fun a o e => ?_, fun a o e => ?_, h9.gg, h9.bg, h9.val, fun i d e n => ?_, h9.sep, h9.pin⟩
                · have na : a ≠ D := fun z => by
                    have := r.bh a o e
                    rw [z] at this
                    rw [s1.hh _ _ this] at hD
                    cases hD
                  rw [upd_ne na]; exact h9.bh a o e
                · rw [upd_ne (ne_of_none e gd)]; exact h9.gh a o e
                · cases n
        · rw [List.drop_length, lcGo] at hrest6
          cases hrest6
          exact ⟨G6, xs6, acc6, r', s6, n6, e6, z6, hr', by simpa using hres6⟩
  · rw [List.drop_length, lc2Go] at hrest
    cases hrest
    rw [List.append_nil] at hres
    subst hres
    refine q D (.lst xs) H2 G2 (s1.trans s2) ?_ e2 g2 ⟨xs, rfl, z2⟩
    cases e : H D with
    | none => rfl
    | some o => rw [s1.hh D o e] at hD; cases hD
abbrev HI (X : Cx) (scope : Scope) (O : List Nat) (tg e : Expr) (f : Af) : Prop := ∀ (s : Shared) (H : Hp) (C : Addr) (cl : List (Str × Addr)) (fp : List Addr), PI (X.blk s H scope (compEnvC scope cl C X.env) fp) tg e (tI X.prog X.w X.K O f)
theorem df_lc2 (hN : X.N.Nodup) (ok : BlkOk X.N X.env.scope scope own) (hv : ∀ i ∈ vs1, i ∈ own.map (·.2)) (hi : PI X tg iter (tIP X.prog X.w X.K [] it)) (hg : HG X scope [] (own.map (·.2)) tg t) (ht : HT X scope [] ifs c) (hi1 : HI X scope [] tg1 iter1 it1) (hg1 : HG X scope [] vs1 tg1 t1) (ht1 : HT X scope [] ifs1 c1) (he : HE X scope [] elt el)
    (hc : X.calm = true := by rfl) (hs : ∀ x, foldedSetIterable iter X.env x = pure x := by intro _; rfl) (hs1 : ∀ env x, foldedSetIterable iter1 env x = pure x := by intro _ _; rfl) : DF X [] (.ListComp elt [⟨tg, iter, ifs, 0⟩, ⟨tg1, iter1, ifs1, 0⟩] scope pos) (eLc2 (own.map (·.2)) it t c vs1 it1 t1 c1 el) :=
  pe_wk (pe_lc2 hc hN hi ok hv hg ht hi1 hg1 ht1 he hs hs1) lc2_of
theorem de_lc2 (hN : X.N.Nodup) (ok : BlkOk X.N X.env.scope scope own) (hv : ∀ i ∈ vs1, i ∈ own.map (·.2)) (hi : PI X tg iter (tIP X.prog X.w X.K [] it)) (hg : HG X scope [] (own.map (·.2)) tg t) (ht : HT X scope [] ifs c) (hi1 : HI X scope [] tg1 iter1 it1) (hg1 : HG X scope [] vs1 tg1 t1) (ht1 : HT X scope [] ifs1 c1) (he : HE X scope [] elt el)
    (hc : X.calm = true := by rfl) (hs : ∀ x, foldedSetIterable iter X.env x = pure x := by intro _; rfl) (hs1 : ∀ env x, foldedSetIterable iter1 env x = pure x := by intro _ _; rfl) : DE X [] (.ListComp elt [⟨tg, iter, ifs, 0⟩, ⟨tg1, iter1, ifs1, 0⟩] scope pos) (eLc2 (own.map (·.2)) it t c vs1 it1 t1 c1 el) :=
  de_frz (df_lc2 hN ok hv hi hg ht hi1 hg1 ht1 he hc hs hs1)
theorem ds_lc2 (i : Nat) {y : Str} {py spos : Pos} (hN : X.N.Nodup) (ok : BlkOk X.N X.env.scope scope own) (hv : ∀ i ∈ vs1, i ∈ own.map (·.2)) (hi : PI X tg iter (tIP X.prog X.w X.K [] it)) (hg : HG X scope [] (own.map (·.2)) tg t) (ht : HT X scope [] ifs c) (hi1 : HI X scope [] tg1 iter1 it1) (hg1 : HG X scope [] vs1 tg1 t1) (ht1 : HT X scope [] ifs1 c1) (he : HE X scope [] elt el)
    (hsw : swapsWith (.ListComp elt [⟨tg, iter, ifs, 0⟩, ⟨tg1, iter1, ifs1, 0⟩] scope pos) (some (.Name y py)) spos.line X.env = pure true)
    (hy : X.N[i]? = some y := by rfl) (hyl : X.env.scope.names.lookup y = some .local := by rfl) (hc : X.calm = true := by rfl) (hs : ∀ x, foldedSetIterable iter X.env x = pure x := by intro _; rfl) (hs1 : ∀ env x, foldedSetIterable iter1 env x = pure x := by intro _ _; rfl) :
    DS X [] [] (.Assign [.Name y py] (.ListComp elt [⟨tg, iter, ifs, 0⟩, ⟨tg1, iter1, ifs1, 0⟩] scope pos) spos) (sSet i (eLc2 (own.map (·.2)) it t c vs1 it1 t1 c1 el)) :=
  ps_wk (ps_setLc2 hc hN hy hyl hsw hi ok hv hg ht hi1 hg1 ht1 he hs hs1) (asg_of (fun σ H Q z => lc2_of σ H Q (tD_tF σ H Q z)) (fun j h => by cases h) (fun h => by cases h))
end

/-! ### a def -/
def runB (np n : Nat) (F : Sf) : List D → Option D := fun ds => if ds.length = np then (match F (ds.map some ++ List.replicate (n - np) none) with
  | none => none
  | some (.rt d) => some d
  | some (.nx _) => some .none) else none
section
variable {P : Program} {w : World} {K : PySem.W.Frag} {mg : Str → Option Value} {base : Heap}
theorem start_rel {N : List Str} {vs : List V} {ds : List D} {H G : Hp} (h : Paired (DenT P w K G) vs ds) (g : ∀ a o, G a = some o → H a = some o) : Rel P w K ⟨H, none⟩ G [] (ds.map some ++ List.replicate (N.length - ds.length) none) (L2.start N vs) H G := by
  have hl := paired_len h
  refine ⟨?_, fun _ _ e => e, g, fun _ _ e => e, fun _ _ _ => rfl, fun i d e _ => ?_, fun i d _ z => (by cases z), fun i j p d e z => (by cases z), fun p d e z => (by cases z)⟩
  · unfold L2.start
    rw [List.length_append, List.length_append, List.length_map, List.length_map, hl, List.length_replicate, List.length_replicate]
  · unfold L2.start
    by_cases hi : i < ds.length
    · rw [List.getElem?_append_left (by rw [List.length_map]; exact hi), List.getElem?_map] at e
      rw [List.getElem?_append_left (by rw [List.length_map, hl]; exact hi), List.getElem?_map]
      have key : ∀ {vs : List V} {ds : List D} {i : Nat} {d : D}, Paired (DenT P w K G) vs ds → (ds[i]?).map some = some (some d) → ∃ v, (vs[i]?).map some = some (some v) ∧ DenT P w K G v d := by
        intro vs ds i d hp
        induction hp generalizing i with
        | nil => intro e; simp at e
        | cons q _ ih =>
          cases i with
          | zero => intro e; simp at e; subst e; exact ⟨_, rfl, q⟩
          | succ i => intro e; simp only [List.getElem?_cons_succ] at e ⊢; exact ih e
      exact key h e
    · rw [List.getElem?_append_right (by rw [List.length_map]; omega)] at e
      rw [List.getElem?_replicate] at e
      split at e <;> cases e
theorem fn_ok {x qual : Str} {st : Stmt} {f : Addr} {fd : FuncData} {N ps : List Str} {k : Nat} {F : Sf} (T : Fun K x qual st f fd) (S : FnScope N ps (defScope st))
    (hb : ∀ (cdv : Value) (A : Around) (outer : List PySem.Env) (s : Shared) (H : Hp) (E : XK), Room k (A.deeper (envOfC qual (defScope st) s.heap.objs.size f cdv)) → DSs (cxOf CX0 P w K mg base N qual (defScope st) f cdv A outer s H E).nox [] [] (defBody st) F) :
    FnOk P w K mg base CX0 (k + 1) f fd ps (spD P w K (runB ps.length N.length F)) := by
  refine T.ok S (fun vs H Q E ⟨G, ds, d, g, z, hf, q⟩ => ?_) fun cdv A outer s H vs Q E hr ⟨G, ds, d, g, z, hf, q⟩ => ?_
  · unfold runB at hf
    split at hf
    · rename_i hl; rw [paired_len z, hl]
    · cases hf
  · refine ⟨_, hb cdv A outer s H E hr, ?_⟩
    unfold runB at hf
    split at hf
    case isFalse => cases hf
    rename_i hl
    have hrel := start_rel (N := N) z g
    rw [hl] at hrel
    split at hf
    · cases hf
    · rename_i d' hF
      cases hf
      exact ⟨⟨H, none⟩, G, G, _, _, hrel, hF, fun v H' G' h1 h2 h3 h4 z' => q v H' G' ⟨h1, h2, h3, h4⟩ z'⟩
    · rename_i ρ' hF
      cases hf
      exact ⟨⟨H, none⟩, G, G, _, _, hrel, hF, fun σ' H' G' r' => q .non H' G' ⟨r'.bh, r'.gg, r'.gh, r'.bg⟩ (.inl .non)⟩
end
end DL
namespace DL
open PySem PySem.Spec PyProof.Rows L2

/-! ### what the operators compute -/
def okD (d : D) : Bool := SeqAt.shaped d
def dNeg : D → Option D
  | .int i => some (.int (-i))
  | _ => none
def dAdd : D → D → Option D
  | .int i, .int j => some (.int (i + j))
  | .str x, .str y => if x.length + y.length ≤ 16777216 then some (.str (x ++ y)) else none
  | .tuple xs, .tuple ys => if xs.length + ys.length ≤ 16777216 then some (.tuple (xs ++ ys)) else none
  | .list xs, .list ys => if xs.length + ys.length ≤ 16777216 then some (.list (xs ++ ys)) else none
  | _, _ => none
def dSub : D → D → Option D
  | .int i, .int j => some (.int (i - j))
  | _, _ => none
def dMul : D → D → Option D
  | .int i, .int j => if (-18446744073709551616 < i ∧ i < 18446744073709551616) then some (.int (i * j)) else none
  | _, _ => none
def dMod : D → D → Option D
  | .int i, .int j => if 0 < j then some (.int (i % j)) else none
  | _, _ => none
def dFdiv : D → D → Option D
  | .int i, .int j => if (0 < j ∧ j < 1073741824) then some (.int (i / j)) else none
  | _, _ => none
def dPow : D → D → Option D
  | .int i, .int j => if (0 ≤ j ∧ j ≤ 1000000 ∧ i.natAbs < 18446744073709551616) then some (.int (i ^ j.toNat)) else none
  | _, _ => none
def dEq : D → D → Option D := fun d e => if (okD d && okD e) = true then some (.bool (PyData.eqv d e)) else none
def dNe : D → D → Option D := fun d e => if (okD d && okD e) = true then some (.bool (!PyData.eqv d e)) else none
/-- can be ordered -/
def ordD (d e : D) : Bool := PySem.W.alike d e && decide (d.depth ≤ 32) && (match d with | .none => false | _ => true)
def dLt : D → D → Option D := fun d e => if ordD d e = true then some (.bool (PySem.W.dataLt d e)) else none
def dGt : D → D → Option D := fun d e => if ordD d e = true then some (.bool (PySem.W.dataLt e d)) else none
def dLe : D → D → Option D := fun d e => if ordD d e = true then some (.bool (!PySem.W.dataLt e d)) else none
def dGe : D → D → Option D := fun d e => if ordD d e = true then some (.bool (!PySem.W.dataLt d e)) else none
/-- a is b, for None, True, False -/
def dIs : D → D → Option D
  | .none, .none => some (.bool true)
  | .bool _, .none => some (.bool false)
  | .int _, .none => some (.bool false)
  | .str _, .none => some (.bool false)
  | .tuple _, .none => some (.bool false)
  | .list _, .none => some (.bool false)
  | .dict _, .none => some (.bool false)
  | .bool a, .bool b => some (.bool (decide (a = b)))
  | _, _ => none
def dIsNot (d e : D) : Option D := match dIs d e with
  | some (.bool b) => some (.bool (!b))
  | _ => none

section
variable {X : Cx}
theorem lnew' {pins : List (Addr × Obj)} {σ : L2.St} {H : Hp} {s : Shared} {its : List Value} {xs : List V} {t' : Nat} {h' : Heap} {p n : Nat} (I : Inv X pins σ H s) (r : Vals xs its) (hz : xs.length ≤ sizeLine) (k : ∀ b u, s.heap.get? b = some u → h'.get? b = some u) (hp : s.heap.objs.size ≤ p)
    (hn : h'.get? p = some { cls := .type "list", data := .seq its.toArray n }) : Inv X pins σ (upd H p (.lst xs)) { s with heap := h', toks := t' } :=
  I.laid k hp ⟨hz, its, n, r, hn⟩
theorem tnew' {pins : List (Addr × Obj)} {σ : L2.St} {H : Hp} {s : Shared} {its : List Value} {xs : List V} {t' : Nat} {h' : Heap} {p : Nat} (I : Inv X pins σ H s) (r : Vals xs its) (hz : xs.length ≤ sizeLine) (k : ∀ b u, s.heap.get? b = some u → h'.get? b = some u) (hp : s.heap.objs.size ≤ p)
    (hn : IsTup h' p its.toArray) : Inv X pins σ (upd H p (.tup xs)) { s with heap := h', toks := t' } :=
  I.laid k hp ⟨hz, its, r, hn⟩
theorem opAdd : OpR X (binaryOp .Add) (r2 X.prog X.w X.K dAdd) := by
  intro pins s σ H x y v u Q I rx ry ⟨G, d, e, r, g, ox, oy, hF, q⟩
  unfold dAdd at hF
  split at hF
  · cases hF
    obtain rfl := ox.int; obtain rfl := oy.int
    exact op_add pins s σ H _ _ v u Q I rx ry ⟨_, _, rfl, rfl, q _ H G (Stp.refl g) (.int _)⟩
  · split at hF
    · rename_i hl
      cases hF
      obtain rfl := ox.str; obtain rfl := oy.str
      exact op_add_str pins s σ H _ _ v u Q I rx ry ⟨_, _, rfl, rfl, by rw [sizeLine_eq]; exact hl, q _ H G (Stp.refl g) (.str _)⟩
    · cases hF
  · split at hF
    · rename_i xs ys hl
      cases hF
      obtain ⟨a, as, rfl, ha, za⟩ := ox.tup
      obtain ⟨b, bs, rfl, hb, zb⟩ := oy.tup
      have la := dpa_len za
      have lb := dpa_len zb
      cases rx; cases ry
      obtain ⟨its, rv, p1, hz1⟩ := I.tuple (SqT.up g ha.sq)
      obtain ⟨its2, rv2, p2, hz2⟩ := I.tuple (SqT.up g hb.sq)
      have hlen : its.length + its2.length ≤ sizeLine := by rw [← rv.length, ← rv2.length, la, lb, sizeLine_eq]; exact hl
      obtain ⟨⟨cls, dd, data, sl⟩, ho, hc, n, hd⟩ := id p1
      obtain ⟨⟨cls2, dd2, data2, sl2⟩, ho2, hc2, n2, hd2⟩ := id p2
      simp only at hc hd hc2 hd2
      subst hc hd hc2 hd2
      by_cases h1 : its = []
      · subst h1
        cases rv; cases za
        exact cat_tup0 p1 p2 ⟨.ref b, H, I, rfl, q _ H G (Stp.refl g) (.inl (.tup hb zb))⟩
      · by_cases h2 : its2 = []
        · subst h2
          cases rv2; cases zb
          refine concat_meets ⟨_, ho, rfl⟩ ⟨_, ho2, rfl⟩ noFill_tuple_add seq_tuple_add PySem.F.slot_tuple_add PySem.F.entry_tuple_add (PySem.F.args_tuple_add_2 _ _)
            (tuple_addW1 a b its.toArray ([] : List Value).toArray n n2 dd dd2 sl sl2 (by simpa using h1) (by simp)) ⟨ho, ho2, ?_⟩
          exact ⟨.ref a, H, I, rfl, q _ H G (Stp.refl g) (.inl (by rw [List.append_nil]; exact .tup ha za))⟩
        · refine concat_meets ⟨_, ho, rfl⟩ ⟨_, ho2, rfl⟩ noFill_tuple_add seq_tuple_add PySem.F.slot_tuple_add PySem.F.entry_tuple_add (PySem.F.args_tuple_add_2 _ _)
            (tuple_addW2 a b its.toArray its2.toArray n n2 dd dd2 sl sl2 (by simpa using h1) (by simpa using h2) (by simpa using hlen)) ⟨ho, ho2, ?_⟩
          have ea : its.toArray ++ its2.toArray = (its ++ its2).toArray := by simp
          try rw [ea]
          have hn : H s.heap.objs.size = none := I.hok.fresh (Nat.le_refl _)
          exact ⟨.ref s.heap.objs.size, _, tupNew (t' := s.toks) I (rv.append rv2) (by rw [List.length_append, la, lb, sizeLine_eq]; exact hl) (fun b u e => Heap.get?_push_of_some _ e) (Nat.le_refl _) (Heap.get?_push_size _ rfl), rfl, q _ _ _ (Stp.frz g hn) (.tup upd_same rfl (dpa_up (dpa_app za zb) (up_g g hn)))⟩
    · cases hF
  · split at hF
    · rename_i xs ys hl
      cases hF
      obtain ⟨a, as, rfl, ha, za⟩ := ox.list g
      obtain ⟨b, bs, rfl, hb, zb⟩ := oy.list g
      have la := dpa_len za
      have lb := dpa_len zb
      cases rx; cases ry
      obtain ⟨its, rv, ⟨⟨cls, dd, data, sl⟩, n, ho, hc, hd, hdd⟩, hz⟩ := I.list ha
      obtain ⟨its2, rv2, ⟨⟨cls2, dd2, data2, sl2⟩, n2, ho2, hc2, hd2, hdd2⟩, hz2⟩ := I.list hb
      simp only at hc hd hdd hc2 hd2 hdd2
      subst hc hdd hc2 hdd2
      have hlen : its.length + its2.length ≤ sizeLine := by rw [← rv.length, ← rv2.length, la, lb, sizeLine_eq]; exact hl
      refine concat_meets ⟨_, ho, rfl⟩ ⟨_, ho2, rfl⟩ noFill_list_add seq_list_add PySem.F.slot_list_add PySem.F.entry_list_add (PySem.F.args_list_add_2 _ _)
        (list_addW a b its.toArray its2.toArray n n2 dd dd2 sl sl2 (by simpa using hlen)) ⟨ho, ho2, ?_⟩
      have ea : its.toArray ++ its2.toArray = (its ++ its2).toArray := by simp
      try rw [ea]
      have hn : H s.heap.objs.size = none := I.hok.fresh (Nat.le_refl _)
      exact ⟨.ref s.heap.objs.size, _, lnew' (t' := s.toks) (n := 0) I (rv.append rv2) (by rw [List.length_append, la, lb, sizeLine_eq]; exact hl) (fun b u e => Heap.get?_push_of_some _ e) (Nat.le_refl _) (Heap.get?_push_size _ rfl), rfl, q _ _ _ (Stp.frz g hn) (.lst upd_same (dpa_up (dpa_app za zb) (up_g g hn)))⟩
    · cases hF
  · cases hF
theorem opSub : OpR X (binaryOp .Sub) (r2 X.prog X.w X.K dSub) := by
  intro pins s σ H x y v u Q I rx ry ⟨G, d, e, r, g, ox, oy, hF, q⟩
  unfold dSub at hF
  split at hF
  · cases hF
    obtain rfl := ox.int; obtain rfl := oy.int
    exact op_sub pins s σ H _ _ v u Q I rx ry ⟨_, _, rfl, rfl, q _ H G (Stp.refl g) (.int _)⟩
  · cases hF
theorem opMul : OpR X (binaryOp .Mult) (r2 X.prog X.w X.K dMul) := by
  intro pins s σ H x y v u Q I rx ry ⟨G, d, e, r, g, ox, oy, hF, q⟩
  unfold dMul at hF
  split at hF
  · split at hF
    · rename_i hc
      cases hF
      obtain rfl := ox.int; obtain rfl := oy.int
      exact op_mul pins s σ H _ _ v u Q I rx ry ⟨_, _, rfl, rfl, .inl ⟨by omega, by omega⟩, q _ H G (Stp.refl g) (.int _)⟩
    · cases hF
  · cases hF
theorem opMod : OpR X (binaryOp .Mod) (r2 X.prog X.w X.K dMod) := by
  intro pins s σ H x y v u Q I rx ry ⟨G, d, e, r, g, ox, oy, hF, q⟩
  unfold dMod at hF
  split at hF
  · split at hF
    · rename_i hc
      cases hF
      obtain rfl := ox.int; obtain rfl := oy.int
      exact op_mod pins s σ H _ _ v u Q I rx ry ⟨_, _, rfl, rfl, hc, q _ H G (Stp.refl g) (.int _)⟩
    · cases hF
  · cases hF
theorem opFdiv : OpR X (binaryOp .FloorDiv) (r2 X.prog X.w X.K dFdiv) := by
  intro pins s σ H x y v u Q I rx ry ⟨G, d, e, r, g, ox, oy, hF, q⟩
  unfold dFdiv at hF
  split at hF
  · split at hF
    · rename_i hc
      cases hF
      obtain rfl := ox.int; obtain rfl := oy.int
      exact op_fdiv pins s σ H _ _ v u Q I rx ry ⟨_, _, rfl, rfl, ⟨hc.1, hc.2⟩, q _ H G (Stp.refl g) (.int _)⟩
    · cases hF
  · cases hF
theorem opPow : OpR X (binaryOp .Pow) (r2 X.prog X.w X.K dPow) := by
  intro pins s σ H x y v u Q I rx ry ⟨G, d, e, r, g, ox, oy, hF, q⟩
  unfold dPow at hF
  split at hF
  · split at hF
    · rename_i hc
      cases hF
      obtain rfl := ox.int; obtain rfl := oy.int
      exact op_pow pins s σ H _ _ v u Q I rx ry ⟨_, _, rfl, rfl, ⟨hc.1, hc.2.1, hc.2.2⟩, q _ H G (Stp.refl g) (.int _)⟩
    · cases hF
  · cases hF
theorem okD_flat {d : D} (h : okD d = true) : ∀ kvs, d ≠ .dict kvs := fun kvs e => by
  subst e
  unfold okD SeqAt.shaped at h
  rw [Bool.and_eq_true] at h
  exact absurd h.1 (by simp [PyData.canLay0])
theorem opEq (hu : X.A.units + 64 < cLine) : OpR X (compareOp .Eq) (r2 X.prog X.w X.K dEq) := by
  intro pins s σ H x y v u Q I rx ry ⟨G, d, e, r, g, ox, oy, hF, q⟩
  unfold dEq at hF
  split at hF
  · rename_i hc
    cases hF
    rw [Bool.and_eq_true] at hc
    exact op_eqD hu pins s σ H x y v u Q I rx ry ⟨d, e, ox.dp g (okD_flat hc.1), oy.dp g (okD_flat hc.2), hc.1, hc.2, q _ H G (Stp.refl g) (.bl _)⟩
  · cases hF
theorem opNe (hu : X.A.units + 64 < cLine) : OpR X (compareOp .NotEq) (r2 X.prog X.w X.K dNe) := by
  intro pins s σ H x y v u Q I rx ry ⟨G, d, e, r, g, ox, oy, hF, q⟩
  unfold dNe at hF
  split at hF
  · rename_i hc
    cases hF
    rw [Bool.and_eq_true] at hc
    exact op_neD hu pins s σ H x y v u Q I rx ry ⟨d, e, ox.dp g (okD_flat hc.1), oy.dp g (okD_flat hc.2), hc.1, hc.2, q _ H G (Stp.refl g) (.bl _)⟩
  · cases hF
theorem ordD_1 {d e : D} (h : ordD d e = true) : PySem.W.alike d e = true ∧ d.depth ≤ 32 ∧ d ≠ .none ∧ (∀ kvs, d ≠ .dict kvs) ∧ (∀ kvs, e ≠ .dict kvs) := by
  unfold ordD at h
  rw [Bool.and_eq_true, Bool.and_eq_true] at h
  obtain ⟨⟨h1, h2⟩, h3⟩ := h
  refine ⟨h1, of_decide_eq_true h2, fun z => (by subst z; cases h3), fun kvs z => ?_, fun kvs z => ?_⟩
  · subst z; simp [PySem.W.alike] at h1
  · subst z; cases d <;> simp [PySem.W.alike] at h1
theorem opLt (hu : X.A.units + 64 < cLine) : OpR X (compareOp .Lt) (r2 X.prog X.w X.K dLt) := by
  intro pins s σ H x y v u Q I rx ry ⟨G, d, e, r, g, ox, oy, hF, q⟩
  unfold dLt at hF
  split at hF
  · rename_i hc
    cases hF
    obtain ⟨h1, h2, h3, h4, h5⟩ := ordD_1 hc
    obtain ⟨as, r1⟩ := Dp.reads I d x v (ox.dp g h4) rx
    obtain ⟨bs, r2⟩ := Dp.reads I e y u (oy.dp g h5) ry
    exact PySem.W.lt_data r1 r2 h1 h3 (by have := Nat.min_le_left d.depth e.depth; omega) ⟨.bl _, H, I, rfl, q _ H G (Stp.refl g) (.bl _)⟩
  · cases hF
theorem opGt (hu : X.A.units + 64 < cLine) : OpR X (compareOp .Gt) (r2 X.prog X.w X.K dGt) := by
  intro pins s σ H x y v u Q I rx ry ⟨G, d, e, r, g, ox, oy, hF, q⟩
  unfold dGt at hF
  split at hF
  · rename_i hc
    cases hF
    obtain ⟨h1, h2, h3, h4, h5⟩ := ordD_1 hc
    obtain ⟨as, r1⟩ := Dp.reads I d x v (ox.dp g h4) rx
    obtain ⟨bs, r2⟩ := Dp.reads I e y u (oy.dp g h5) ry
    exact PySem.W.gt_data r1 r2 h1 h3 (by have := Nat.min_le_left d.depth e.depth; omega) ⟨.bl _, H, I, rfl, q _ H G (Stp.refl g) (.bl _)⟩
  · cases hF
theorem opLe (hu : X.A.units + 64 < cLine) : OpR X (compareOp .LtE) (r2 X.prog X.w X.K dLe) := by
  intro pins s σ H x y v u Q I rx ry ⟨G, d, e, r, g, ox, oy, hF, q⟩
  unfold dLe at hF
  split at hF
  · rename_i hc
    cases hF
    obtain ⟨h1, h2, h3, h4, h5⟩ := ordD_1 hc
    obtain ⟨as, r1⟩ := Dp.reads I d x v (ox.dp g h4) rx
    obtain ⟨bs, r2⟩ := Dp.reads I e y u (oy.dp g h5) ry
    exact PySem.W.le_data r1 r2 h1 h3 (by have := Nat.min_le_left d.depth e.depth; omega) ⟨.bl _, H, I, rfl, q _ H G (Stp.refl g) (.bl _)⟩
  · cases hF
theorem opGe (hu : X.A.units + 64 < cLine) : OpR X (compareOp .GtE) (r2 X.prog X.w X.K dGe) := by
  intro pins s σ H x y v u Q I rx ry ⟨G, d, e, r, g, ox, oy, hF, q⟩
  unfold dGe at hF
  split at hF
  · rename_i hc
    cases hF
    obtain ⟨h1, h2, h3, h4, h5⟩ := ordD_1 hc
    obtain ⟨as, r1⟩ := Dp.reads I d x v (ox.dp g h4) rx
    obtain ⟨bs, r2⟩ := Dp.reads I e y u (oy.dp g h5) ry
    exact PySem.W.ge_data r1 r2 h1 h3 (by have := Nat.min_le_left d.depth e.depth; omega) ⟨.bl _, H, I, rfl, q _ H G (Stp.refl g) (.bl _)⟩
  · cases hF
theorem obs_ref_none {P : Program} {w : World} {K : PySem.W.Frag} {H G : Hp} {x : V} {d : D} (ox : ObsT P w K H G x d) (h : d ≠ .none) : x ≠ .non := fun z => by
  subst z
  rcases ox with (h' | ⟨p, o, e, _⟩) | ⟨p, o, e, _⟩
  · cases h'; exact h rfl
  · cases e
  · cases e
theorem opIs : OpR X (compareOp .Is) (r2 X.prog X.w X.K dIs) := by
  intro pins s σ H x y v u Q I rx ry ⟨G, d, e, r, g, ox, oy, hF, q⟩
  have none' : ∀ {k}, y = .non → d ≠ .none → (DenT X.prog X.w X.K G (.bl false) k → Q (.bl false) H) → r = k → r = .bool false → wpAny (model X.prog X.w) X.A (compareOp .Is v u) (EP X pins σ Q) X.xe s := fun {k} ey hd hq e1 e2 => by
    subst e1; subst e2; subst ey
    cases ry
    have := obs_ref_none ox hd
    refine is_none_gen ⟨.bl false, H, I, ?_, hq (.bl _)⟩
    show Value.bool _ = Value.bool false
    rw [rx.none_iff, decide_eq_false this]
  unfold dIs at hF
  split at hF
  · cases hF
    obtain rfl := ox.non; obtain rfl := oy.non
    cases ry; cases rx
    exact is_none_gen ⟨.bl true, H, I, rfl, q _ H G (Stp.refl g) (.bl _)⟩
  all_goals first
    | (cases hF; exact none' oy.non (by simp) (fun z => q _ H G (Stp.refl g) z) rfl rfl)
    | (cases hF
       obtain rfl := ox.bl; obtain rfl := oy.bl
       exact op_isBl pins s σ H _ _ v u Q I rx ry ⟨_, _, rfl, rfl, q _ H G (Stp.refl g) (.bl _)⟩)
    | cases hF
theorem opIsNot : OpR X (compareOp .IsNot) (r2 X.prog X.w X.K dIsNot) := by
  intro pins s σ H x y v u Q I rx ry ⟨G, d, e, r, g, ox, oy, hF, q⟩
  have none' : y = .non → d ≠ .none → (DenT X.prog X.w X.K G (.bl true) r → Q (.bl true) H) → r = .bool true → wpAny (model X.prog X.w) X.A (compareOp .IsNot v u) (EP X pins σ Q) X.xe s := fun ey hd hq e2 => by
    subst e2; subst ey
    cases ry
    have := obs_ref_none ox hd
    refine isnot_none_gen ⟨.bl true, H, I, ?_, hq (.bl _)⟩
    show Value.bool _ = Value.bool true
    rw [rx.none_iff, decide_eq_false this]
    rfl
  unfold dIsNot dIs at hF
  split at hF
  case h_2 => cases hF
  rename_i b hb
  cases hF
  split at hb
  · cases hb
    obtain rfl := ox.non; obtain rfl := oy.non
    cases ry; cases rx
    exact isnot_none_gen ⟨.bl false, H, I, rfl, q _ H G (Stp.refl g) (.bl _)⟩
  all_goals first
    | (cases hb; exact none' oy.non (by simp) (fun z => q _ H G (Stp.refl g) z) rfl)
    | (cases hb
       obtain rfl := ox.bl; obtain rfl := oy.bl
       exact op_notBl pins s σ H _ _ v u Q I rx ry ⟨_, _, rfl, rfl, q _ H G (Stp.refl g) (.bl _)⟩)
    | cases hb
end
end DL
namespace DL
open PySem PySem.Spec PyProof.Rows L2

/-! ### dicts by data -/
def lookP (p : D → Bool) : List (D × D) → Option D
  | [] => none
  | q :: r => if p q.1 = true then some q.2 else lookP p r
def setP (p : D → Bool) (d : D) : List (D × D) → List (D × D)
  | [] => []
  | q :: r => (if p q.1 = true then (q.1, d) else q) :: setP p d r
def putP (p : D → Bool) (key d : D) (kvs : List (D × D)) : List (D × D) := match lookP p kvs with
  | some _ => setP p d kvs
  | none => kvs ++ [(key, d)]
def isK (k : Key) : D → Bool := fun d => decide (keyD d = some k)
def isT (k : NestedKey) : D → Bool := fun d => decide (keyT d = some k)
/-- a key of a dict whose keys are tuples -/
def keyTup : D → Option NestedKey
  | .tuple ds => match keyT (.tuple ds) with
    | some k => if k.depth ≤ 8 then some k else none
    | none => none
  | _ => none
/-- what stands under a key -/
def dLook : D → D → Option (Option D)
  | .dict ((.none, _) :: kvs), key => match keyTup key with
    | some k => some (lookP (isT k) kvs)
    | none => none
  | .dict kvs, key => match keyD key with
    | some k => some (lookP (isK k) kvs)
    | none => none
  | _, _ => none
def dPut : D → D → D → Option D
  | .dict ((.none, x) :: kvs), key, d => match keyTup key with
    | some k => if kvs.length < 16777216 then some (.dict ((.none, x) :: putP (isT k) key d kvs)) else none
    | none => none
  | .dict kvs, key, d => match keyD key with
    | some k => if kvs.length < 16777216 then some (.dict (putP (isK k) key d kvs)) else none
    | none => none
  | _, _, _ => none

section
variable {P : Program} {w : World} {K : PySem.W.Frag} {G G' H H' : Hp}
mutual
theorem nested_of {h : Heap} : ∀ (d : D) (v : Value) (as : List Addr) (k : NestedKey), Reads h v d as → keyT d = some k → NestedIs h k v
  | .none, _, _, _, r, e => by cases r; simp [keyT] at e; subst e; exact .none
  | .bool b, _, _, _, r, e => by cases r; simp [keyT] at e; subst e; exact .bool rfl
  | .int i, _, _, _, r, e => by cases r; simp [keyT] at e; subst e; exact .int _ _
  | .str x, _, _, _, r, e => by cases r; simp [keyT] at e; subst e; exact .text _ _
  | .tuple ds, _, _, k, r, e => by
    cases r with
    | tuple h1 h2 h3 h4 =>
      rw [keyT] at e
      cases q : keyTs ds with
      | none => rw [q] at e; cases e
      | some ks =>
        rw [q] at e
        cases e
        exact .tup h1 h2 h3 (nesteds_of ds _ _ ks h4 q)
  | .list _, _, _, _, _, e => by simp [keyT] at e
  | .dict _, _, _, _, _, e => by simp [keyT] at e
theorem nesteds_of {h : Heap} : ∀ (ds : List D) (vs : List Value) (as : List Addr) (ks : List NestedKey), ReadsAll h vs ds as → keyTs ds = some ks → NestedAll h ks vs
  | [], _, _, _, r, e => by cases r; simp [keyTs] at e; subst e; exact .nil
  | d :: ds, _, _, ks, r, e => by
    cases r with
    | cons r1 r2 =>
      rw [keyTs] at e
      split at e
      · rename_i k ks' e1 e2
        cases e
        exact .cons (nested_of d _ _ _ r1 e1) (nesteds_of ds _ _ _ r2 e2)
      · cases e
end
theorem keyTup_1 {d : D} {k : NestedKey} (h : keyTup d = some k) : ∃ ds, d = .tuple ds ∧ keyT d = some k ∧ k.depth ≤ 8 := by
  unfold keyTup at h
  split at h
  · split at h
    · rename_i e
      split at h
      · rename_i hd; cases h; exact ⟨_, rfl, e, hd⟩
      · cases h
    · cases h
  · cases h
/-- the object of a tracked known object -/
theorem kn_get {X : Cx} {pins : List (Addr × Obj)} {σ : L2.St} {s : Shared} {a : Addr} {ob : Obj} (I : L2.Inv X pins σ H s) (h : H a = some (Kn a ob)) : s.heap.get? a = some ob := (show ObjOk X.prog X.w H s.heap a (Kn a ob) from I.hok a _ h).1
theorem kn_ok {h : Heap} {a : Addr} {ob : Obj} (e : h.get? a = some ob) : ObjOk P w H h a (Kn a ob) := ⟨e, ⟨ob, e⟩, fun h1 h2 e1 k => k ob e1⟩

theorem KvD.look {vs : List (Key × Value)} {kvs : List (D × D)} (h : KvD K G vs kvs) (k : Key) : (∃ d u v, lookP (isK k) kvs = some d ∧ valueAt vs k = some u ∧ L2.RelV v u ∧ Dq K G v d) ∨ (lookP (isK k) kvs = none ∧ valueAt vs k = none) := by
  induction h with
  | nil => exact .inr ⟨rfl, rfl⟩
  | @cons p q ps qs r _ ih =>
    obtain ⟨e, v, rv, z⟩ := r
    by_cases hk : p.1 = k
    · refine .inl ⟨q.2, p.2, v, by simp [lookP, isK, e, hk], by simp [valueAt, hk], rv, z⟩
    · have e1 : valueAt (p :: ps) k = valueAt ps k := by simp [valueAt, List.find?_cons, hk]
      have e2 : lookP (isK k) (q :: qs) = lookP (isK k) qs := by simp [lookP, isK, e, hk]
      rw [e1, e2]
      exact ih
theorem KvD.set {vs : List (Key × Value)} {kvs : List (D × D)} {k : Key} {u : Value} {v : V} {d : D} (h : KvD K G vs kvs) (r : L2.RelV v u) (z : Dq K G v d) : KvD K G (vs.map fun kv => if kv.1 = k then (kv.1, u) else kv) (setP (isK k) d kvs) := by
  induction h with
  | nil => exact .nil
  | @cons p q ps qs r' _ ih =>
    obtain ⟨e, v', rv, z'⟩ := r'
    unfold setP isK
    rw [e]
    by_cases hk : p.1 = k
    · simp only [List.map_cons, hk, if_true, decide_true]
      exact .cons ⟨by rw [← hk]; exact e, v, r, z⟩ ih
    · have hk' : ¬ (some p.1 = some k) := fun z => hk (Option.some.inj z)
      simp only [List.map_cons, hk, if_false, decide_eq_false hk', Bool.false_eq_true]
      exact .cons ⟨e, v', rv, z'⟩ ih
theorem KvD.app {vs us : List (Key × Value)} {kvs lvs : List (D × D)} (h : KvD K G vs kvs) (h' : KvD K G us lvs) : KvD K G (vs ++ us) (kvs ++ lvs) := by
  induction h with
  | nil => exact h'
  | cons r _ ih => exact .cons r ih
theorem valueAt_any (vs : List (Key × Value)) (k : Key) : vs.any (fun kv => kv.1 = k) = (valueAt vs k).isSome := by
  induction vs with
  | nil => rfl
  | cons p ps ih =>
    by_cases hk : p.1 = k
    · simp [valueAt, hk]
    · simp [valueAt, hk] at ih ⊢
      simpa using ih
theorem KvD.put {vs : List (Key × Value)} {kvs : List (D × D)} {k : Key} {u : Value} {v : V} {key d : D} (h : KvD K G vs kvs) (hk : keyD key = some k) (r : L2.RelV v u) (z : Dq K G v d) : KvD K G (stored vs k u) (putP (isK k) key d kvs) := by
  unfold stored putP
  rcases h.look k with ⟨d', u', v', e1, e2, _⟩ | ⟨e1, e2⟩
  · have : (vs.any fun kv => decide (kv.1 = k)) = true := by rw [valueAt_any, e2]; rfl
    rw [if_pos this, e1]
    exact h.set r z
  · have : ¬ (vs.any fun kv => decide (kv.1 = k)) = true := by rw [valueAt_any, e2]; simp
    rw [if_neg this, e1]
    exact h.app (.cons ⟨hk, v, r, z⟩ .nil)
theorem KtD.look {vs : List (NestedKey × Addr × Value)} {kvs : List (D × D)} (h : KtD K G vs kvs) (k : NestedKey) : (∃ d a u v, lookP (isT k) kvs = some d ∧ atKey vs k = some (a, u) ∧ L2.RelV v u ∧ Dq K G v d) ∨ (lookP (isT k) kvs = none ∧ atKey vs k = none) := by
  induction h with
  | nil => exact .inr ⟨rfl, rfl⟩
  | @cons p q ps qs r _ ih =>
    obtain ⟨e, _, _, _, v, rv, z⟩ := r
    by_cases hk : p.1 = k
    · refine .inl ⟨q.2, p.2.1, p.2.2, v, by simp [lookP, isT, e, hk], by simp [atKey, hk], rv, z⟩
    · have e1 : atKey (p :: ps) k = atKey ps k := by simp [atKey, List.find?_cons, hk]
      have e2 : lookP (isT k) (q :: qs) = lookP (isT k) qs := by simp [lookP, isT, e, hk]
      rw [e1, e2]
      exact ih
theorem KtD.set {vs : List (NestedKey × Addr × Value)} {kvs : List (D × D)} {k : NestedKey} {u : Value} {v : V} {d : D} (h : KtD K G vs kvs) (r : L2.RelV v u) (z : Dq K G v d) : KtD K G (vs.map (putAt k u)) (setP (isT k) d kvs) := by
  induction h with
  | nil => exact .nil
  | @cons p q ps qs r' _ ih =>
    obtain ⟨e, e2, e3, e4, v', rv, z'⟩ := r'
    unfold setP isT
    rw [e]
    by_cases hk : p.1 = k
    · simp only [List.map_cons, hk, if_true, decide_true, putAt]
      exact .cons ⟨by rw [← hk]; exact e, by rw [← hk]; exact e2, e3, e4, v, r, z⟩ ih
    · have hk' : ¬ (some p.1 = some k) := fun z => hk (Option.some.inj z)
      simp only [List.map_cons, hk, if_false, decide_eq_false hk', Bool.false_eq_true, putAt]
      exact .cons ⟨e, e2, e3, e4, v', rv, z'⟩ ih
theorem KtD.app {vs us : List (NestedKey × Addr × Value)} {kvs lvs : List (D × D)} (h : KtD K G vs kvs) (h' : KtD K G us lvs) : KtD K G (vs ++ us) (kvs ++ lvs) := by
  induction h with
  | nil => exact h'
  | cons r _ ih => exact .cons r ih
theorem KtD.put {vs : List (NestedKey × Addr × Value)} {kvs : List (D × D)} {k : NestedKey} {u : Value} {v : V} {key d : D} {b : Addr} (h : KtD K G vs kvs) (hk : keyTup key = some k) (hb : Dq K G (.ref b) key) (r : L2.RelV v u) (z : Dq K G v d) : KtD K G (storedH vs k b u) (putP (isT k) key d kvs) := by
  obtain ⟨ds, e1, e2, e3⟩ := keyTup_1 hk
  unfold storedH putP
  rcases h.look k with ⟨d', a', u', v', q1, q2, _⟩ | ⟨q1, q2⟩
  · rw [q1, q2]
    exact h.set r z
  · rw [q1, q2]
    exact h.app (.cons ⟨e2, e3, ⟨ds, e1⟩, hb, v, r, z⟩ .nil)
theorem KtD.len {vs : List (NestedKey × Addr × Value)} {kvs : List (D × D)} (h : KtD K G vs kvs) : vs.length = kvs.length := paired_len h
theorem KvD.len {vs : List (Key × Value)} {kvs : List (D × D)} (h : KvD K G vs kvs) : vs.length = kvs.length := paired_len h
end

section
variable {X : Cx} {pins : List (Addr × Obj)} {σ : L2.St} {s : Shared} {G H : Hp}
theorem dictH {a : Addr} {ob : Obj} {xs : List (NestedKey × Addr × Value)} {kvs : List (D × D)} (I : L2.Inv X pins σ H s) (g : ∀ a o, G a = some o → H a = some o) (e : s.heap.get? a = some ob) (r : DictRep X.prog X.w a ob xs) (z : KtD X.K G xs kvs) : s.heap.DictOfH (nestedKind X.prog X.w) a xs := by
  obtain ⟨es, ep, h1, h2, h3⟩ := r.ex
  refine ⟨ob, es, ep, e, h1, h2, h3, ?_, r.nd⟩
  have all : ∀ {l : List (NestedKey × Addr × Value)} {m : List (D × D)}, KtD X.K G l m → ∀ x ∈ l, (nestedKind X.prog X.w).is s.heap x.1 x.2.1 := by
    intro l m q
    induction q with
    | nil => intro x hx; exact nomatch hx
    | @cons p q ps qs hq t ih =>
      intro x hx
      rcases List.mem_cons.mp hx with e | hx
      · subst e
        obtain ⟨e1, e2, _, e4, _⟩ := hq
        obtain ⟨as, rd⟩ := Dp.reads I q.1 (.ref x.2.1) (.ref x.2.1) (dq_dp _ _ (dp_up e4 g)) rfl
        exact ⟨nested_of _ _ _ _ rd e1, e2⟩
      · exact ih x hx
  exact all z
theorem key_is {b : Addr} {key : D} {k : NestedKey} (I : L2.Inv X pins σ H s) (hk : keyTup key = some k) (hb : Dq X.K H (.ref b) key) : (nestedKind X.prog X.w).is s.heap k b := by
  obtain ⟨ds, e1, e2, e3⟩ := keyTup_1 hk
  obtain ⟨as, rd⟩ := Dp.reads I key (.ref b) (.ref b) (dq_dp _ _ hb) rfl
  exact ⟨nested_of _ _ _ _ rd e2, e3⟩
theorem keyD_rel {P : Program} {w : World} {K : PySem.W.Frag} {H G : Hp} {y : V} {u : Value} {key : D} {k : Key} (o : ObsT P w K H G y key) (hk : keyD key = some k) (r : L2.RelV y u) : (mixKind X.prog X.w).is k u = true := by
  unfold keyD at hk
  split at hk
  · cases hk; obtain rfl := o.int; obtain ⟨t, rfl⟩ := r; exact keyIs_int _ t
  · cases hk; obtain rfl := o.str; obtain ⟨t, rfl⟩ := r; exact keyIs_str _ t
  · cases hk
/-- a dict that is seen -/
theorem ObsT.dict {P : Program} {w : World} {K : PySem.W.Frag} {v : V} {kvs : List (D × D)} (h : ObsT P w K H G v (.dict kvs)) (g : ∀ a o, G a = some o → H a = some o) : ∃ p o, v = .ref p ∧ H p = some o ∧ ObjD P w K G p o (.dict kvs) := by
  rcases h with (h | ⟨p, o, e, h, q⟩) | ⟨p, o, e, h, q⟩
  · cases h
  · exact ⟨p, o, e, g _ _ h, q⟩
  · exact ⟨p, o, e, h, q⟩
theorem tupKey {P : Program} {w : World} {K : PySem.W.Frag} {H G : Hp} {y : V} {key : D} {k : NestedKey} (o : ObsT P w K H G y key) (hk : keyTup key = some k) : ∃ b, y = .ref b ∧ Dq K G (.ref b) key := by
  obtain ⟨ds, rfl, _⟩ := keyTup_1 hk
  obtain ⟨a, xs, rfl, h1, h2⟩ := o.tup
  exact ⟨a, rfl, .tup h1 h2⟩
theorem room1 (hu : X.A.units + 64 < cLine) : (nestedKind X.prog X.w).room X.A.in1 := by
  show X.A.units + 1 + 8 < cLine
  omega

/-- a dict asked: E(what stands there) -/
theorem dict_ask (hu : X.A.units + 64 < cLine) {x y : V} {v u : Value} {d key : D} {r : Option D} (I : L2.Inv X pins σ H s) (g : ∀ a o, G a = some o → H a = some o) (ox : ObsT X.prog X.w X.K H G x d) (oy : ObsT X.prog X.w X.K H G y key) (rx : L2.RelV x v) (ry : L2.RelV y u) (h : dLook d key = some r) :
    ∃ a, v = .ref a ∧ s.TypeIs (.ref a) "dict" ∧ (∃ o, s.heap.get? a = some o ∧ o.dict = none) ∧
      (∀ (Q : Value → Shared → Prop) (E : Value → Shared → Prop), (∀ s', L2.Inv X pins σ H s' → Q (.bool r.isSome) s') → wpAny (model X.prog X.w) X.A (compareOp .In u (.ref a)) Q E s) ∧
      (∀ (Q : Value → Shared → Prop) (E : Value → Shared → Prop), (∀ s', L2.Inv X pins σ H s' → Q (.bool (!r.isSome)) s') → wpAny (model X.prog X.w) X.A (compareOp .NotIn u (.ref a)) Q E s) ∧
      (∀ (Q : Value → Shared → Prop) (E : Value → Shared → Prop) (rd : D), r = some rd → (∀ z w' s', L2.Inv X pins σ H s' → L2.RelV z w' → Dq X.K G z rd → Q w' s') → wpAny (model X.prog X.w) X.A (getItem (.ref a) u) Q E s) ∧
      (∀ (Q : Value → Shared → Prop) (E : Value → Shared → Prop), (∀ w' s', L2.Inv X pins σ H s' → ((∃ rd z, r = some rd ∧ L2.RelV z w' ∧ Dq X.K G z rd) ∨ (r = none ∧ w' = .none)) → Q w' s') → wpAny (model X.prog X.w) X.A (call (.builtin "dict.get") [.ref a, u]) Q E s) ∧
      (∀ (Q : Value → Shared → Prop) (E : Value → Shared → Prop) (dv : Value), (∀ w' s', L2.Inv X pins σ H s' → ((∃ rd z, r = some rd ∧ L2.RelV z w' ∧ Dq X.K G z rd) ∨ (r = none ∧ w' = dv)) → Q w' s') → wpAny (model X.prog X.w) X.A (call (.builtin "dict.get") [.ref a, u, dv]) Q E s) := by
  unfold dLook at h
  split at h
  · -- tuple keys
    split at h
    case h_2 => cases h
    rename_i x0 kvs key k hk
    cases h
    obtain ⟨p, o, rfl, hp, hob⟩ := ox.dict g
    obtain rfl : v = .ref p := rx
    obtain ⟨b, rfl, hb⟩ := tupKey oy hk
    obtain rfl : u = .ref b := ry
    obtain ⟨ob, xs, rfl, rep, z⟩ := hob
    have e := kn_get I hp
    have dd := dictH I g e rep z
    have ki := key_is I hk (dp_up hb g)
    refine ⟨p, rfl, dd.typeIs, ⟨ob, e, ?_⟩, fun Q E hq => ?_, fun Q E hq => ?_, fun Q E rd er hq => ?_, fun Q E hq => ?_, fun Q E dv hq => ?_⟩
    · obtain ⟨_, _, h1, _⟩ := rep.ex
      exact h1.2.1
    · refine wpAny_in_heap (room1 hu) ki rep.sys dd ?_
      rcases z.look k with ⟨d, a, u, v, q1, q2, q3, q4⟩ | ⟨q1, q2⟩
      · rw [q1] at hq; rw [q2]; exact hq _ (I.tok _)
      · rw [q1] at hq; rw [q2]; exact hq _ (I.tok _)
    · refine wpAny_notIn_heap (room1 hu) ki rep.sys dd ?_
      rcases z.look k with ⟨d, a, u, v, q1, q2, q3, q4⟩ | ⟨q1, q2⟩
      · rw [q1] at hq; rw [q2]; exact hq _ (I.tok _)
      · rw [q1] at hq; rw [q2]; exact hq _ (I.tok _)
    · rcases z.look k with ⟨d, a, u, v, q1, q2, q3, q4⟩ | ⟨q1, q2⟩
      · rw [er] at q1; cases q1
        exact wpAny_getItem_heap (room1 hu) ki dd q2 (hq v u _ (I.tok _) q3 q4)
      · rw [er] at q1; cases q1
    · refine call_meetsIn PySem.F.slot_dict_get dd.typeIs PySem.F.entry_dict_get (PySem.F.args_dict_get_2 _ _) (meetsH_dict_get (nestedKind X.prog X.w) p b rep.sys) ⟨room1 hu, k, xs, ki, dd, hq _ _ (I.tok _) ?_⟩
      rcases z.look k with ⟨d, a, u, v, q1, q2, q3, q4⟩ | ⟨q1, q2⟩
      · rw [q2]; exact .inl ⟨d, v, q1, q3, q4⟩
      · rw [q2]; exact .inr ⟨q1, rfl⟩
    · refine call_meetsIn PySem.F.slot_dict_get dd.typeIs PySem.F.entry_dict_get (PySem.F.args_dict_get_3 _ _ _) (meetsH_dict_get_default (nestedKind X.prog X.w) p b rep.sys dv) ⟨room1 hu, k, xs, ki, dd, hq _ _ (I.tok _) ?_⟩
      rcases z.look k with ⟨d, a, u, v, q1, q2, q3, q4⟩ | ⟨q1, q2⟩
      · rw [q2]; exact .inl ⟨d, v, q1, q3, q4⟩
      · rw [q2]; exact .inr ⟨q1, rfl⟩
  · -- ints and texts
    split at h
    case h_2 => cases h
    rename_i kvs key hne _ k hk
    cases h
    obtain ⟨p, o, rfl, hp, hob⟩ := ox.dict g
    obtain rfl : v = .ref p := rx
    have ki : (mixKind X.prog X.w).is k u = true := keyD_rel oy hk ry
    unfold ObjD at hob
    split at hob
    · rename_i heq; cases heq
    · rename_i heq; cases heq; exact absurd rfl (hne _ _)
    rotate_left
    · exact hob.elim
    rename_i heq; cases heq
    obtain ⟨ob, vs, rfl, rep, z⟩ := hob
    have e := kn_get I hp
    have dd := rep.ex _ e
    refine ⟨p, rfl, dd.typeIs, ?_, fun Q E hq => ?_, fun Q E hq => ?_, fun Q E rd er hq => ?_, fun Q E hq => ?_, fun Q E dv hq => ?_⟩
    · obtain ⟨o, _, _, h1, h2, _⟩ := dd
      exact ⟨o, h1, h2.2.1⟩
    · refine wpAny_in_of ki rep.sys dd.mapOf ?_
      rcases z.look k with ⟨d, u, v, q1, q2, q3, q4⟩ | ⟨q1, q2⟩
      · rw [q1] at hq; rw [q2]; exact hq _ (I.tok _)
      · rw [q1] at hq; rw [q2]; exact hq _ (I.tok _)
    · refine wpAny_notIn_of ki rep.sys dd.mapOf ?_
      rcases z.look k with ⟨d, u, v, q1, q2, q3, q4⟩ | ⟨q1, q2⟩
      · rw [q1] at hq; rw [q2]; exact hq _ (I.tok _)
      · rw [q1] at hq; rw [q2]; exact hq _ (I.tok _)
    · rcases z.look k with ⟨d, u, v, q1, q2, q3, q4⟩ | ⟨q1, q2⟩
      · rw [er] at q1; cases q1
        exact wpAny_getItem_of ki dd.mapOf q2 (hq v u _ (I.tok _) q3 q4)
      · rw [er] at q1; cases q1
    · refine call_meetsIn PySem.F.slot_dict_get dd.typeIs PySem.F.entry_dict_get (PySem.F.args_dict_get_2 _ _) (meets_dict_get (mixKind X.prog X.w) p ki rep.sys) ⟨_, dd.mapOf, hq _ _ (I.tok _) ?_⟩
      rcases z.look k with ⟨d, u, v, q1, q2, q3, q4⟩ | ⟨q1, q2⟩
      · rw [q2]; exact .inl ⟨d, v, q1, q3, q4⟩
      · rw [q2]; exact .inr ⟨q1, rfl⟩
    · refine call_meetsIn PySem.F.slot_dict_get dd.typeIs PySem.F.entry_dict_get (PySem.F.args_dict_get_3 _ _ _) (meets_dict_get_default (mixKind X.prog X.w) p ki rep.sys dv) ⟨_, dd.mapOf, hq _ _ (I.tok _) ?_⟩
      rcases z.look k with ⟨d, u, v, q1, q2, q3, q4⟩ | ⟨q1, q2⟩
      · rw [q2]; exact .inl ⟨d, v, q1, q3, q4⟩
      · rw [q2]; exact .inr ⟨q1, rfl⟩
  · cases h
end
end DL
namespace DL
open PySem PySem.Spec PyProof.Rows L2

/-! ### in, subscripts, slices -/
def dIn : D → D → Option D := fun x c => match c with
  | .list ds => if (okD x && okD (.list ds)) = true then some (.bool (ds.any fun z => PyData.eqv z x)) else none
  | .tuple ds => if (okD x && okD (.tuple ds)) = true then some (.bool (ds.any fun z => PyData.eqv z x)) else none
  | .str z => match x with
    | .str y => match y.cps.toList with
      | [c] => some (.bool (decide (c ∈ z.cps.toList)))
      | _ => none
    | _ => none
  | .dict kvs => match dLook (.dict kvs) x with
    | some r => some (.bool r.isSome)
    | none => none
  | _ => none
def dNotIn (x c : D) : Option D := match dIn x c with
  | some (.bool b) => some (.bool (!b))
  | _ => none
def dIx (c i : D) : Option D := match c with
  | .list ds => match i with
    | .int k => atI ds k
    | _ => none
  | .tuple ds => match i with
    | .int k => atI ds k
    | _ => none
  | .str z => match i with
    | .int k => if z.length ≤ 16777216 then (match atI z.cps.toList k with
      | some c => some (.str ⟨#[c]⟩)
      | none => none) else none
    | _ => none
  | .dict kvs => match dLook (.dict kvs) i with
    | some (some r) => some r
    | _ => none
  | _ => none
def cutD (xs : List D) (lo hi : Option Int) : List D := (xs.drop (HT.sIx xs.length 0 lo)).take (HT.sIx xs.length xs.length hi - HT.sIx xs.length 0 lo)
def dSl (c : D) (lo hi : Option Int) : Option D := match c with
  | .list ds => some (.list (cutD ds lo hi))
  | .tuple ds => some (.tuple (cutD ds lo hi))
  | _ => none

section
variable {X : Cx} {pins : List (Addr × Obj)} {σ : L2.St} {s : Shared} {G H : Hp}
theorem str_one {y : Str} {c : Nat} (h : y.cps.toList = [c]) : y = ⟨#[c]⟩ := by
  cases y with
  | mk a =>
    have : a = #[c] := by
      apply Array.toList_inj.mp
      simpa using h
    rw [this]
theorem okD_all {ds : List D} (h : okD (.list ds) = true) : PyData.canLayAll0 ds = true := SeqAt.canLay_of_shaped (d := .list ds) h
theorem okD_allT {ds : List D} (h : okD (.tuple ds) = true) : PyData.canLayAll0 ds = true := SeqAt.canLay_of_shaped (d := .tuple ds) h
theorem opIn (hu : X.A.units + 70 < cLine) : OpR X (compareOp .In) (r2 X.prog X.w X.K dIn) := by
  intro pins s σ H x y v u Q I rx ry ⟨G, d, e, r, g, ox, oy, hF, q⟩
  unfold dIn at hF
  split at hF
  · split at hF
    · rename_i ds hc
      cases hF
      rw [Bool.and_eq_true] at hc
      exact op_inD (by omega) pins s σ H x y v u Q I rx ry ⟨d, ds, ox.dp g (okD_flat hc.1), oy.dp g (by simp), hc.1, hc.2, q _ H G (Stp.refl g) (.bl _)⟩
    · cases hF
  · split at hF
    · rename_i ds hc
      cases hF
      rw [Bool.and_eq_true] at hc
      obtain ⟨as, r1⟩ := Dp.reads I d x v (ox.dp g (okD_flat hc.1)) rx
      obtain ⟨bs, r2⟩ := Dp.reads I (.tuple ds) y u (oy.dp g (by simp)) ry
      exact SeqAt.in_tuple_reads r2 r1 (okD_allT hc.2) (SeqAt.canLay_of_shaped hc.1) (room_in_shaped hc.1 (by omega)) ⟨.bl _, H, I, rfl, q _ H G (Stp.refl g) (.bl _)⟩
    · cases hF
  · split at hF
    · split at hF
      · rename_i z yy c hc
        cases hF
        obtain rfl := ox.str; obtain rfl := oy.str
        obtain rfl := str_one hc
        exact op_in_sign pins s σ H _ _ v u Q I rx ry ⟨_, _, rfl, rfl, q _ H G (Stp.refl g) (.bl _)⟩
      · cases hF
    · cases hF
  · split at hF
    · rename_i kvs ro hr
      cases hF
      obtain ⟨a, e1, e2, e3, hin, _⟩ := dict_ask (by omega) I g oy ox ry rx hr
      subst e1
      exact hin _ _ fun s' I' => ⟨.bl _, H, I', rfl, q _ H G (Stp.refl g) (.bl _)⟩
    · cases hF
  · cases hF
theorem opNotIn (hu : X.A.units + 70 < cLine) : OpR X (compareOp .NotIn) (r2 X.prog X.w X.K dNotIn) := by
  intro pins s σ H x y v u Q I rx ry ⟨G, d, e, r, g, ox, oy, hF, q⟩
  unfold dNotIn dIn at hF
  split at hF
  case h_2 => cases hF
  rename_i b0 hb
  cases hF
  split at hb
  · split at hb
    · rename_i ds hc
      cases hb
      rw [Bool.and_eq_true] at hc
      exact op_notInD (by omega) pins s σ H x y v u Q I rx ry ⟨d, ds, ox.dp g (okD_flat hc.1), oy.dp g (by simp), hc.1, hc.2, q _ H G (Stp.refl g) (.bl _)⟩
    · cases hb
  · split at hb
    · rename_i ds hc
      cases hb
      rw [Bool.and_eq_true] at hc
      obtain ⟨as, r1⟩ := Dp.reads I d x v (ox.dp g (okD_flat hc.1)) rx
      obtain ⟨bs, r2⟩ := Dp.reads I (.tuple ds) y u (oy.dp g (by simp)) ry
      exact SeqAt.notIn_tuple_reads r2 r1 (okD_allT hc.2) (SeqAt.canLay_of_shaped hc.1) (room_in_shaped hc.1 (by omega)) ⟨.bl _, H, I, rfl, q _ H G (Stp.refl g) (.bl _)⟩
    · cases hb
  · split at hb
    · split at hb
      · rename_i z yy c hc
        cases hb
        obtain rfl := ox.str; obtain rfl := oy.str
        obtain rfl := str_one hc
        exact op_notIn_sign pins s σ H _ _ v u Q I rx ry ⟨_, _, rfl, rfl, q _ H G (Stp.refl g) (.bl _)⟩
      · cases hb
    · cases hb
  · split at hb
    · rename_i kvs ro hr
      cases hb
      obtain ⟨a, e1, e2, e3, _, hin, _⟩ := dict_ask (by omega) I g oy ox ry rx hr
      subst e1
      exact hin _ _ fun s' I' => ⟨.bl _, H, I', rfl, q _ H G (Stp.refl g) (.bl _)⟩
    · cases hb
  · cases hb
theorem atI_rel {K : PySem.W.Frag} {xs : List V} {ds : List D} {i : Int} {d : D} (h : DqAll K G xs ds) (e : atI ds i = some d) : ∃ v, atI xs i = some v ∧ Dq K G v d := by
  unfold atI at e ⊢
  rw [dpa_len h]
  cases q : ixN ds.length i with
  | none => rw [q] at e; cases e
  | some j =>
    rw [q] at e
    exact dpa_get h e
theorem ixD (hu : X.A.units + 70 < cLine) : IxR X (r2 X.prog X.w X.K dIx) := by
  intro value slice pins s σ H x y v u Q I rx ry ⟨G, d, e, r, g, ox, oy, hF, q⟩ hs
  unfold dIx at hF
  split at hF
  · split at hF
    · obtain ⟨a, xs, rfl, h1, h2⟩ := ox.list g
      obtain rfl := oy.int
      obtain ⟨z, e1, e2⟩ := atI_rel h2 hF
      exact ix_list value slice pins s σ H _ _ v u Q I rx ry ⟨a, xs, _, z, rfl, rfl, h1, e1, q _ H G (Stp.refl g) (.inl e2)⟩ hs
    · cases hF
  · split at hF
    · obtain ⟨a, xs, rfl, h1, h2⟩ := ox.tup
      obtain rfl := oy.int
      obtain ⟨z, e1, e2⟩ := atI_rel h2 hF
      exact ix_tup value slice pins s σ H _ _ v u Q I rx ry ⟨a, xs, _, z, rfl, rfl, SqT.up g h1.sq, e1, q _ H G (Stp.refl g) (.inl e2)⟩ hs
    · cases hF
  · split at hF
    · split at hF
      · rename_i hl
        split at hF
        · rename_i c hc
          cases hF
          obtain rfl := ox.str; obtain rfl := oy.int
          exact ix_str value slice pins s σ H _ _ v u Q I rx ry ⟨_, _, c, rfl, rfl, by rw [sizeLine_eq]; exact hl, hc, q _ H G (Stp.refl g) (.str _)⟩ hs
        · cases hF
      · cases hF
    · cases hF
  · split at hF
    · rename_i kvs ro hr
      cases hF
      obtain ⟨a, e1, e2, e3, _, _, hget, _⟩ := dict_ask (by omega) I g ox oy rx ry hr
      subst e1
      exact tail_any e2 PySem.F.slot_dict_getitem.lookup (hget _ _ r rfl fun z w' s' I' rz hz => ⟨z, H, I', rz, q _ H G (Stp.refl g) (.inl hz)⟩) hs
    · cases hF
  · cases hF

theorem cut_rel {K : PySem.W.Frag} {xs : List V} {ds : List D} {lo hi : Option Int} (h : DqAll K G xs ds) : DqAll K G (cutV xs lo hi) (cutD ds lo hi) := by
  unfold cutV cutD
  rw [dpa_len h]
  exact dpa_take _ (dpa_drop _ h)
def rSl (P : Program) (w : World) (K : PySem.W.Frag) : V → Option Int → Option Int → Hp → VK → Prop := fun x lo hi H Q => ∃ G d r, (∀ a o, G a = some o → H a = some o) ∧ ObsT P w K H G x d ∧ dSl d lo hi = some r ∧ ∀ v H' G', Stp H G H' G' → DenT P w K G' v r → Q v H'
theorem slD : SlR X (rSl X.prog X.w X.K) := by
  intro pins s σ H x v vl vu lo hi sl Q I rx hs pl pu ⟨G, d, r, g, ox, hF, q⟩
  unfold dSl at hF
  split at hF
  · cases hF
    obtain ⟨a, xs, rfl, h1, h2⟩ := ox.list g
    exact sl_list pins s σ H _ v vl vu lo hi sl Q I rx hs pl pu ⟨a, xs, rfl, h1, fun p hp => q _ _ _ (Stp.frz g hp) (.lst upd_same (dpa_up (cut_rel h2) (up_g g hp)))⟩
  · cases hF
    obtain ⟨a, xs, rfl, h1, h2⟩ := ox.tup
    by_cases hw : HT.sIx xs.length 0 lo = 0 ∧ HT.sIx xs.length xs.length hi = xs.length
    · cases rx
      obtain ⟨its, r, ht, hz⟩ := I.tuple (SqT.up g h1.sq)
      have hlen : its.toArray.size = xs.length := by rw [List.size_toArray]; exact r.length.symm
      refine ⟨"tuple", _, PyProof.Rows.slot_tuple_getitem.lookup, ht.typeIs, ?_⟩
      refine getItem_tuple_whole ht hs pl pu (by rw [hlen]; exact hw) ⟨.ref a, H, I, rfl, q _ H G (Stp.refl g) (.inl ?_)⟩
      have := cut_rel (lo := lo) (hi := hi) h2
      unfold cutV at this
      rw [hw.1, hw.2, List.drop_zero, Nat.sub_zero, List.take_length] at this
      exact .tup h1 this
    · cases rx
      obtain ⟨its, r, ht, hz⟩ := I.tuple (SqT.up g h1.sq)
      have hlen : its.toArray.size = xs.length := by rw [List.size_toArray]; exact r.length.symm
      refine ⟨"tuple", _, PyProof.Rows.slot_tuple_getitem.lookup, ht.typeIs, ?_⟩
      refine HT.getItem_tuple_cut ht hs pl pu (by rw [hlen]; exact hw) ?_ (by rw [hlen]; exact hz)
      rw [hlen]
      have hn : H s.heap.objs.size = none := I.hok.fresh (Nat.le_refl _)
      exact ⟨.ref s.heap.objs.size, _, tupNew (t' := s.toks) (xs := cutV xs lo hi) I ((r.drop (HT.sIx xs.length 0 lo)).take (HT.sIx xs.length xs.length hi - HT.sIx xs.length 0 lo)) (Nat.le_trans (cutV_length xs lo hi) hz) (fun b ob q => Heap.get?_push_of_some _ q) (Nat.le_refl _) (Heap.get?_push_size _ rfl), rfl,
        q _ _ _ (Stp.frz g hn) (.tup upd_same rfl (dpa_up (cut_rel h2) (up_g g hn)))⟩
  · cases hF
abbrev Pf := Sl → Option (Option Int)
def pNo : Pf := fun _ => some none
def pAt (f : Ef) : Pf := fun ρ => match f ρ with
  | some (.int i) => some (some i)
  | _ => none
def tPO (P : Program) (w : World) (K : PySem.W.Frag) (O : List Nat) (f : Pf) : TO := fun σ H Q => ∃ B G0 G ρ d, Rel P w K B G0 O ρ σ H G ∧ f ρ = some d ∧ ∀ H' G', Stp H G H' G' → Q d H'
abbrev DPO (X : Cx) (O : List Nat) (e : Option Expr) (f : Pf) : Prop := PO X e (tPO X.prog X.w X.K O f)
theorem po_wk {e : Option Expr} {t t' : TO} (h : PO X e t) (i : ∀ σ H Q, t' σ H Q → t σ H Q) : PO X e t' := ⟨fun pins s σ H Q I q => h.run pins s σ H Q I (i σ H Q q)⟩
variable {O : List Nat} {e : Expr} {f : Ef} {lo hi : Option Expr} {pl ph : Pf} {pos p2 : Pos}
theorem dpo_no : DPO X O none pNo := po_wk po_none fun σ H Q ⟨B, G0, G, ρ, d, r, hf, q⟩ => by
  cases hf
  exact q H G (Stp.refl r.gh)
theorem dpo_at (h : DP X O e f) : DPO X O (some e) (pAt f) := po_wk (po_some h) fun σ H Q ⟨B, G0, G, ρ, d, r, hf, q⟩ => by
  unfold pAt at hf
  split at hf
  · rename_i i hx
    cases hf
    exact ⟨B, G0, G, ρ, _, r, hx, fun v H1 G1 s1 z1 => ⟨i, z1.int, q H1 G1 s1⟩⟩
  · cases hf
def eSl (f : Ef) (lo hi : Pf) : Ef := fun ρ => match f ρ with
  | none => none
  | some d => match lo ρ with
    | none => none
    | some l => match hi ρ with
      | none => none
      | some h => dSl d l h
theorem de_sl (he : DP X O e f) (hl : DPO X O lo pl) (hh : DPO X O hi ph) : DE X O (.Subscript e (.Slice lo hi none p2) pos) (eSl f pl ph) := by
  refine pe_wk (pe_slice slD he hl hh) fun σ H Q ⟨B, G0, G, ρ, d, r, hf, q⟩ => ?_
  unfold eSl at hf
  split at hf
  · cases hf
  rename_i x hx
  split at hf
  · cases hf
  rename_i l hl'
  split at hf
  · cases hf
  rename_i h hh'
  exact ⟨B, G0, G, ρ, x, r, hx, fun v H1 G1 s1 z1 => ⟨B, G0, G1, ρ, l, r.stp s1, hl', fun H2 G2 s2 => ⟨B, G0, G2, ρ, h, (r.stp s1).stp s2, hh', fun H3 G3 s3 =>
    ⟨G3, x, d, s3.gh, z1.up (s2.trans s3), hf, fun v' H' G' s4 z4 => q v' H' G' (((s1.trans s2).trans s3).trans s4) z4⟩⟩⟩⟩
end

/-! ### built-ins of one thing -/
def dLen1 : D → Option D
  | .list ds => some (.int ds.length)
  | .tuple ds => some (.int ds.length)
  | .str z => if z.length ≤ 16777216 then some (.int z.length) else none
  | .dict ((.none, _) :: kvs) => some (.int kvs.length)
  | .dict kvs => some (.int kvs.length)
  | _ => none
def fn1 (F : D → Option D) : List D → Option D
  | [d] => F d
  | _ => none
def fn2 (F : D → D → Option D) : List D → Option D
  | [d, e] => F d e
  | _ => none
def dAbs1 : D → Option D
  | .int i => some (.int (if i < 0 then -i else i))
  | _ => none
def dInt1 : D → Option D
  | .int i => some (.int i)
  | _ => none
/-- the items of a list or tuple -/
def seqD : D → Option (List D)
  | .list ds => some ds
  | .tuple ds => some ds
  | _ => none
def intsD : List D → Option (List Int)
  | [] => some []
  | .int i :: r => match intsD r with
    | some l => some (i :: l)
    | none => none
  | _ => none
def blsD : List D → Option (List Bool)
  | [] => some []
  | .bool i :: r => match blsD r with
    | some l => some (i :: l)
    | none => none
  | _ => none
def dSum1 : D → Option D
  | .list ds => match intsD ds with
    | some l => some (.int l.sum)
    | none => none
  | _ => none
def dAny1 : D → Option D
  | .list ds => match blsD ds with
    | some l => some (.bool (l.any id))
    | none => none
  | _ => none
def dAll1 : D → Option D
  | .list ds => match blsD ds with
    | some l => some (.bool (l.all id))
    | none => none
  | _ => none
def dTuple1 : D → Option D
  | .list ds => some (.tuple ds)
  | .tuple ds => some (.tuple ds)
  | _ => none
section
variable {X : Cx}
theorem ob1 {P : Program} {w : World} {K : PySem.W.Frag} {H G : Hp} {vs : List V} {ds : List D} {F : D → Option D} {r : D} (o : ObsAll P w K H G vs ds) (h : fn1 F ds = some r) : ∃ v d, vs = [v] ∧ ds = [d] ∧ ObsT P w K H G v d ∧ F d = some r := by
  unfold fn1 at h
  split at h
  · cases o with
    | cons a b => cases b; exact ⟨_, _, rfl, rfl, a, h⟩
  · cases h
theorem ob2 {P : Program} {w : World} {K : PySem.W.Frag} {H G : Hp} {vs : List V} {ds : List D} {F : D → D → Option D} {r : D} (o : ObsAll P w K H G vs ds) (h : fn2 F ds = some r) : ∃ v u d e, vs = [v, u] ∧ ds = [d, e] ∧ ObsT P w K H G v d ∧ ObsT P w K H G u e ∧ F d e = some r := by
  unfold fn2 at h
  split at h
  · cases o with
    | cons a b =>
      cases b with
      | cons b c => cases c; exact ⟨_, _, _, _, rfl, rfl, a, b, h⟩
  · cases h
theorem cLen : CallR X (.builtin "len") (rFn X.prog X.w X.K (fn1 dLen1)) := by
  intro pins s σ H vs us Q I rv ⟨G, ds, r, g, o, h0, q⟩
  obtain ⟨v, d, rfl, rfl, ox, hF⟩ := ob1 o h0
  clear h0
  unfold dLen1 at hF
  split at hF
  · cases hF
    obtain ⟨a, xs, rfl, h1, h2⟩ := ox.list g
    exact call_len_seq pins s σ H _ us Q I rv ⟨a, xs, rfl, .inl h1, by rw [dpa_len h2]; exact q _ H G (Stp.refl g) (.int _)⟩
  · cases hF
    obtain ⟨a, xs, rfl, h1, h2⟩ := ox.tup
    exact call_len_seq pins s σ H _ us Q I rv ⟨a, xs, rfl, .inr (SqT.up g h1.sq), by rw [dpa_len h2]; exact q _ H G (Stp.refl g) (.int _)⟩
  · split at hF
    · rename_i hl
      cases hF
      obtain rfl := ox.str
      exact call_len_str pins s σ H _ us Q I rv ⟨_, rfl, by rw [sizeLine_eq]; exact hl, q _ H G (Stp.refl g) (.int _)⟩
    · cases hF
  · cases hF
    obtain ⟨p, o', rfl, hp, hob⟩ := ox.dict g
    obtain ⟨u, rfl, ru⟩ := vals1 rv
    obtain rfl : u = .ref p := ru
    obtain ⟨ob, xs, rfl, rep, z⟩ := hob
    have dd := dictH I g (kn_get I hp) rep z
    have hl := z.len
    have hz := rep.len
    rw [sizeLine_eq] at hz
    refine PyProof.Rows.call_len_slot (n := xs.length) dd.typeIs PySem.F.slot_dict_len (fun Q' hq => len_keyed rep.sys ⟨xs, dd, rfl⟩ (by rw [pairsH_length]; exact hq)) (by omega) (by omega) ?_
    rw [hl]
    exact ⟨.int _, H, I.tok _, ⟨_, rfl⟩, q _ H G (Stp.refl g) (.int _)⟩
  · rename_i kvs hne
    cases hF
    obtain ⟨p, o', rfl, hp, hob⟩ := ox.dict g
    obtain ⟨u, rfl, ru⟩ := vals1 rv
    obtain rfl : u = .ref p := ru
    unfold ObjD at hob
    split at hob
    · rename_i heq; cases heq
    · rename_i heq; cases heq; exact absurd rfl (hne _ _)
    rotate_left
    · exact hob.elim
    rename_i heq; cases heq
    obtain ⟨ob, vs, rfl, rep, z⟩ := hob
    have dd := rep.ex _ (kn_get I hp)
    have hl := z.len
    have hz := rep.len
    rw [sizeLine_eq] at hz
    refine call_len_dict rep.sys dd (by omega) ?_
    rw [hl]
    exact ⟨.int _, H, I.tok _, ⟨_, rfl⟩, q _ H G (Stp.refl g) (.int _)⟩
  · cases hF
theorem cAbs : CallR X (.builtin "abs") (rFn X.prog X.w X.K (fn1 dAbs1)) := by
  intro pins s σ H vs us Q I rv ⟨G, ds, r, g, o, h0, q⟩
  obtain ⟨v, d, rfl, rfl, ox, hF⟩ := ob1 o h0
  clear h0
  unfold dAbs1 at hF
  split at hF
  · cases hF
    obtain rfl := ox.int
    exact call_abs pins s σ H _ us Q I rv ⟨_, rfl, q _ H G (Stp.refl g) (.int _)⟩
  · cases hF
theorem cInt : CallR X (.type "int") (rFn X.prog X.w X.K (fn1 dInt1)) := by
  intro pins s σ H vs us Q I rv ⟨G, ds, r, g, o, h0, q⟩
  obtain ⟨v, d, rfl, rfl, ox, hF⟩ := ob1 o h0
  clear h0
  unfold dInt1 at hF
  split at hF
  · cases hF
    obtain rfl := ox.int
    exact call_int1 pins s σ H _ us Q I rv (.inl ⟨_, rfl, q _ H G (Stp.refl g) (.int _)⟩)
  · cases hF
theorem ints_rel {K : PySem.W.Frag} {G : Hp} : ∀ {xs : List V} {ds : List D} {l : List Int}, DqAll K G xs ds → intsD ds = some l → xs = l.map V.int
  | _, [], _, h, e => by cases h; simp [intsD] at e; subst e; rfl
  | _, d :: ds, _, h, e => by
    unfold intsD at e
    split at e
    · cases e
      cases ‹_ :: _ = []›
    · rename_i heq; cases heq
      cases h with
      | cons h1 h2 =>
        split at e
        · rename_i hl
          cases e
          cases h1
          rw [ints_rel h2 hl]; rfl
        · cases e
    · cases e
theorem bls_rel {K : PySem.W.Frag} {G : Hp} : ∀ {xs : List V} {ds : List D} {l : List Bool}, DqAll K G xs ds → blsD ds = some l → xs = l.map V.bl
  | _, [], _, h, e => by cases h; simp [blsD] at e; subst e; rfl
  | _, d :: ds, _, h, e => by
    unfold blsD at e
    split at e
    · cases e
      cases ‹_ :: _ = []›
    · rename_i heq; cases heq
      cases h with
      | cons h1 h2 =>
        split at e
        · rename_i hl
          cases e
          cases h1
          rw [bls_rel h2 hl]; rfl
        · cases e
    · cases e
theorem cSum (hc : X.calm = true := by rfl) : CallR X (.builtin "sum") (rFn X.prog X.w X.K (fn1 dSum1)) := by
  intro pins s σ H vs us Q I rv ⟨G, ds, r, g, o, h0, q⟩
  obtain ⟨v, d, rfl, rfl, ox, hF⟩ := ob1 o h0
  clear h0
  unfold dSum1 at hF
  split at hF
  · split at hF
    · rename_i l hl
      cases hF
      obtain ⟨a, xs, rfl, h1, h2⟩ := ox.list g
      obtain rfl := ints_rel h2 hl
      exact cr_sum hc pins s σ H _ us Q I rv ⟨a, l, rfl, h1, q _ H G (Stp.refl g) (.int _)⟩
    · cases hF
  · cases hF
theorem cAny (hc : X.calm = true := by rfl) : CallR X (.builtin "any") (rFn X.prog X.w X.K (fn1 dAny1)) := by
  intro pins s σ H vs us Q I rv ⟨G, ds, r, g, o, h0, q⟩
  obtain ⟨v, d, rfl, rfl, ox, hF⟩ := ob1 o h0
  clear h0
  unfold dAny1 at hF
  split at hF
  · split at hF
    · rename_i l hl
      cases hF
      obtain ⟨a, xs, rfl, h1, h2⟩ := ox.list g
      obtain rfl := bls_rel h2 hl
      exact cr_any hc pins s σ H _ us Q I rv ⟨a, l, rfl, h1, q _ H G (Stp.refl g) (.bl _)⟩
    · cases hF
  · cases hF
theorem cAll (hc : X.calm = true := by rfl) : CallR X (.builtin "all") (rFn X.prog X.w X.K (fn1 dAll1)) := by
  intro pins s σ H vs us Q I rv ⟨G, ds, r, g, o, h0, q⟩
  obtain ⟨v, d, rfl, rfl, ox, hF⟩ := ob1 o h0
  clear h0
  unfold dAll1 at hF
  split at hF
  · split at hF
    · rename_i l hl
      cases hF
      obtain ⟨a, xs, rfl, h1, h2⟩ := ox.list g
      obtain rfl := bls_rel h2 hl
      exact cr_all hc pins s σ H _ us Q I rv ⟨a, l, rfl, h1, q _ H G (Stp.refl g) (.bl _)⟩
    · cases hF
  · cases hF
theorem cTuple : CallR X (.type "tuple") (rFn X.prog X.w X.K (fn1 dTuple1)) := by
  intro pins s σ H vs us Q I rv ⟨G, ds, r, g, o, h0, q⟩
  obtain ⟨v, d, rfl, rfl, ox, hF⟩ := ob1 o h0
  clear h0
  unfold dTuple1 at hF
  split at hF
  · cases hF
    obtain ⟨a, xs, rfl, h1, h2⟩ := ox.list g
    obtain ⟨u, rfl, ru⟩ := vals1 rv
    obtain rfl : u = .ref a := ru
    obtain ⟨its, rv', pl, hz⟩ := I.list h1
    refine call_tuple_list pl.isList (fun h' hk => ?_) (by rw [List.size_toArray, ← rv'.length]; exact hz)
    have I1 : L2.Inv X pins σ H { s with heap := h' } := I.kept (t' := s.toks) hk
    have hn : H h'.objs.size = none := I1.hok.fresh (Nat.le_refl _)
    exact ⟨.ref h'.objs.size, _, tupNew (s := { s with heap := h' }) (t' := s.toks) I1 rv' hz (fun b o e => Heap.get?_push_of_some _ e) (Nat.le_refl _) (Heap.get?_push_size _ rfl), rfl, q _ _ _ (Stp.frz g hn) (.tup upd_same rfl (dpa_up h2 (up_g g hn)))⟩
  · cases hF
    obtain ⟨a, xs, rfl, h1, h2⟩ := ox.tup
    exact call_tupleT pins s σ H _ us Q I rv ⟨a, xs, rfl, SqT.up g h1.sq, q _ H G (Stp.refl g) (.inl (.tup h1 h2))⟩
  · cases hF
end
end DL
namespace DL
open PySem PySem.Spec PyProof.Rows L2

/-! ### what is walked -/
def signsD (z : Str) : List D := z.cps.toList.map fun c => .str ⟨#[c]⟩
def itD : D → Option (List D)
  | .list ds => some ds
  | .tuple ds => some ds
  | .str z => some (signsD z)
  | .dict ((.none, _) :: kvs) => some (kvs.map (·.1))
  | .dict kvs => some (kvs.map (·.1))
  | _ => none
def aIt (f : Ef) : Af := fun ρ => match f ρ with
  | some d => itD d
  | none => none
def rangeD (lo : Int) : Nat → List D
  | 0 => []
  | n + 1 => .int lo :: rangeD (lo + 1) n
def aR1 (a : Af) : Af := fun ρ => match a ρ with
  | some [.int j] => if j < 4611686018427387904 ∧ -4611686018427387904 ≤ j then some (rangeD 0 j.toNat) else none
  | _ => none
def aR2 (a : Af) : Af := fun ρ => match a ρ with
  | some [.int i, .int j] => if (i < 4611686018427387904 ∧ -4611686018427387904 ≤ i) ∧ j < 4611686018427387904 ∧ -4611686018427387904 ≤ j then some (rangeD i (j - i).toNat) else none
  | _ => none
def enumD (i : Int) : List D → List D
  | [] => []
  | d :: ds => .tuple [.int i, d] :: enumD (i + 1) ds
def aEnum (a : Af) : Af := fun ρ => match a ρ with
  | some [.tuple ds] => some (enumD 0 ds)
  | _ => none
def zipD : List D → List D → List D
  | x :: xs, y :: ys => .tuple [x, y] :: zipD xs ys
  | _, _ => []
def aZip (a : Af) : Af := fun ρ => match a ρ with
  | some [.tuple ds, .tuple es] => some (zipD ds es)
  | _ => none

theorem rangeD_get (n : Nat) : ∀ (lo : Int) (i : Nat), i < n → (rangeD lo n)[i]? = some (.int (lo + i)) := by
  induction n with
  | zero => intro lo i h; omega
  | succ n ih =>
    intro lo i h
    cases i with
    | zero => simp [rangeD]
    | succ i =>
      rw [rangeD, List.getElem?_cons_succ, ih (lo + 1) i (by omega)]
      congr 2
      omega
theorem rangeD_len (n : Nat) : ∀ lo : Int, (rangeD lo n).length = n := by
  induction n with
  | zero => intro _; rfl
  | succ n ih => intro lo; rw [rangeD, List.length_cons, ih]
theorem enumD_len : ∀ (ds : List D) (i : Int), (enumD i ds).length = ds.length
  | [], _ => rfl
  | d :: ds, i => by rw [enumD, List.length_cons, List.length_cons, enumD_len ds]
theorem enumD_get : ∀ (ds : List D) (k : Int) (i : Nat) (d : D), ds[i]? = some d → (enumD k ds)[i]? = some (.tuple [.int (k + i), d])
  | [], _, _, _, h => by simp at h
  | d :: ds, k, 0, e, h => by simp at h; subst h; simp [enumD]
  | d :: ds, k, i + 1, e, h => by
    rw [enumD, List.getElem?_cons_succ, enumD_get ds (k + 1) i e (by simpa using h)]
    congr 4
    omega
theorem zipD_len : ∀ (xs ys : List D), (zipD xs ys).length = min xs.length ys.length
  | [], ys => by cases ys <;> simp [zipD]
  | x :: xs, [] => by simp [zipD]
  | x :: xs, y :: ys => by rw [zipD, List.length_cons, zipD_len xs ys, List.length_cons, List.length_cons]; omega
theorem zipD_get : ∀ (xs ys : List D) (i : Nat) (x y : D), xs[i]? = some x → ys[i]? = some y → (zipD xs ys)[i]? = some (.tuple [x, y])
  | [], _, _, _, _, h, _ => by simp at h
  | x :: xs, [], _, _, _, _, h => by simp at h
  | x :: xs, y :: ys, 0, a, b, h, h' => by simp at h h'; subst h; subst h'; simp [zipD]
  | x :: xs, y :: ys, i + 1, a, b, h, h' => by
    rw [zipD, List.getElem?_cons_succ]
    exact zipD_get xs ys i a b (by simpa using h) (by simpa using h')

/-! ### from walks to data -/
section
variable {K : PySem.W.Frag} {J : It} {S G : Hp}
theorem itd_at {xs : List V} {ds : List D} (w : Walk J xs.length (fun H => ∀ a o, S a = some o → H a = some o) (YAt xs)) (h : DqAll K G xs ds) : ItD K J ds S G := by
  refine ⟨YAt xs, by rw [← dpa_len h]; exact w, fun i x H H' G2 d hd y _ hg hh => ?_⟩
  obtain ⟨rfl, hx⟩ := y
  obtain ⟨v, e1, z⟩ := dpa_get h hd
  rw [hx] at e1; cases e1
  exact ⟨G2, Stp.refl hh, dp_up z hg⟩
theorem itd_range {lo : Int} {n : Nat} : ItD K (Itr lo n) (rangeD lo n) S G := by
  refine ⟨YFn fun i => .int (lo + i), by rw [rangeD_len]; exact walk_range.mono (fun _ _ => trivial) fun _ _ _ _ _ _ y => y, fun i x H H' G2 d hd y _ hg hh => ?_⟩
  obtain ⟨rfl, rfl⟩ := y
  have hi : i < n := by
    have := (List.getElem?_eq_some_iff.mp hd).1
    rw [rangeD_len] at this; exact this
  rw [rangeD_get n lo i hi] at hd
  cases hd
  exact ⟨G2, Stp.refl hh, .int _⟩
/-- a new pair -/
def YPairF (xs ys : Nat → Option V) : Nat → Hp → V → Hp → Prop := fun i H v H' => ∃ T x y o, v = .ref T ∧ H T = none ∧ o.dict = none ∧ H' = upd H T (.frz o (.tup [x, y])) ∧ xs i = some x ∧ ys i = some y
theorem itd_pair {n : Nat} {xs ys : Nat → Option V} {ds : List D} (hn : ds.length = n) (w : Walk J n (fun H => ∀ a o, S a = some o → H a = some o) (YPairF xs ys))
    (h : ∀ i x y, i < n → xs i = some x → ys i = some y → ∃ d e, ds[i]? = some (.tuple [d, e]) ∧ Dq K G x d ∧ Dq K G y e) : ItD K J ds S G := by
  refine ⟨YPairF xs ys, by rw [hn]; exact w, fun i x H H' G2 d hd y _ hg hh => ?_⟩
  obtain ⟨T, u, v, o, rfl, hT, ho, rfl, e1, e2⟩ := y
  have hi : i < n := by rw [← hn]; exact (List.getElem?_eq_some_iff.mp hd).1
  obtain ⟨d1, d2, e3, z1, z2⟩ := h i u v hi e1 e2
  rw [hd] at e3; cases e3
  exact ⟨_, Stp.frz hh hT, .tup (.inl ⟨o, upd_same, ho⟩) (.cons (dp_up (dp_up z1 hg) (up_g hh hT)) (.cons (dp_up (dp_up z2 hg) (up_g hh hT)) .nil))⟩
end

/-! ### a dict's keys, the dict's object known -/
def Itkn (d : Addr) (ob : Obj) (ks : List V) : It :=
  ⟨fun i H => H d = some (Kn d ob) ∧ i < ks.length, fun i H x H' => H' = H ∧ ks[i]? = some x, fun i H => H d = some (Kn d ob) ∧ ks.length ≤ i⟩
theorem turn_kn {P : Program} {w : World} {K : PySem.W.Frag} {tg : Expr} {d : Addr} {ob : Obj} {es : Array DictEntry} {ep : Nat} {ks : List V} (it : Addr) (hod : ob.data = .dict es ep) (hsz : es.size = ks.length)
    (hk : ∀ (i : Nat) (x : V), ks[i]? = some x → ∃ en, es[i]? = some en ∧ L2.RelV x en.key) : Turn P w K tg (Itkn d ob ks) [it] it (fun i h => h.IsKeyIter it d i ks.length ep) where
  mem := by simp
  obj := fun i h st b hb => by
    have e : b = it := by simpa using hb
    subst e
    obtain ⟨oi, e, c, dd⟩ := st
    exact ⟨oi, e, fun v z => by rw [dd] at z; cases z⟩
  keep := fun i h h' st k => st.at fun oi e => k it (by simp) oi e
  item := by
    intro X hP hw hK hc i pins s σ H E I hf st hg
    subst hP hw hK
    obtain ⟨hd, hi⟩ := hg
    obtain ⟨f0, f1, f2, f3, f4, f5⟩ := hf it (by simp)
    have hgd := kn_get I hd
    obtain ⟨en, hen, hkey⟩ := hk i ks[i] (List.getElem?_eq_getElem hi)
    refine next_key_item st hgd hod hsz hen fun h' st' sb => ?_
    have I1 : L2.Inv X pins σ H { s with heap := h' } := I.turned (t' := s.toks) (fun b ob hb e => (sb.2 b hb).trans e) f0 f1 f3 f4 f5
    obtain ⟨oi, e, c, dd⟩ := id st'
    exact ⟨en.key, rfl, go_of (s := { s with heap := h' }) e c dd (by decide) ⟨ks[i], H, I1, hkey, ⟨rfl, List.getElem?_eq_getElem hi⟩, st', fun b hb => (hf b hb).1⟩⟩
  done := by
    intro X hP hw hK hc i pins s σ H E I hf st hg
    subst hP hw hK
    obtain ⟨hd, hi⟩ := hg
    obtain ⟨f0, f1, f2, f3, f4, f5⟩ := hf it (by simp)
    exact next_key_end (I.ok.hd hc) st (kn_get I hd) hod hsz hi fun h' eb => ⟨rfl, I.turned (t' := s.toks) (fun b ob hb e => eb b ob hb e) f0 f1 f3 f4 f5⟩
  self := fun A i s Q E st h => wpAny_pyIter_keyiter st h
theorem walk_kn {d : Addr} {ob : Obj} {ks : List V} {S : Hp} (hS : S d = some (Kn d ob)) : Walk (Itkn d ob ks) ks.length (fun H => ∀ a o, S a = some o → H a = some o) (YAt ks) :=
  ⟨fun i H hi q => ⟨q _ _ hS, hi⟩, fun H q => ⟨q _ _ hS, Nat.le_refl _⟩, fun _ _ _ _ _ _ y => y⟩

theorem pairs_get {P : Program} {w : World} : ∀ {es : List DictEntry} {vs : List (Key × Value)} {i : Nat} {p : Key × Value}, Pairs (mixKind P w) es vs → vs[i]? = some p → ∃ en, es[i]? = some en ∧ keyIs p.1 en.key = true
  | _, _, _, _, .nil, h => by simp at h
  | _, _, 0, _, .cons h1 _ _, h => by simp at h; subst h; exact ⟨_, rfl, h1⟩
  | _, _, i + 1, p, .cons _ _ t, h => by
    obtain ⟨en, e1, e2⟩ := pairs_get (i := i) t (by simpa using h)
    exact ⟨en, by simpa using e1, e2⟩
theorem pairs_len {P : Program} {w : World} : ∀ {es : List DictEntry} {vs : List (Key × Value)}, Pairs (mixKind P w) es vs → es.length = vs.length
  | _, _, .nil => rfl
  | _, _, .cons _ _ t => by rw [List.length_cons, List.length_cons, pairs_len t]
/-- the keys' values of a dict -/
theorem keysK {P : Program} {w : World} {K : PySem.W.Frag} {G : Hp} {a : Addr} {ob : Obj} {vs : List (Key × Value)} {kvs : List (D × D)} (r : RepK P w a ob vs) (z : KvD K G vs kvs) (h : Heap) (e : h.get? a = some ob) :
    ∃ es ep, ob.ExactDict ∧ ob.data = .dict es ep ∧ es.size = kvs.length ∧ ∃ ks : List V, ks.length = kvs.length ∧ DqAll K G ks (kvs.map (·.1)) ∧ ∀ (i : Nat) (x : V), ks[i]? = some x → ∃ en, es[i]? = some en ∧ L2.RelV x en.key := by
  obtain ⟨o, es, ep, e', h1, h2, h3, h4, h5⟩ := r.ex h e
  rw [e] at e'; cases e'
  refine ⟨es, ep, h1, h2, ?_, vs.map fun p => kV p.1, by rw [List.length_map, z.len], ?_, ?_⟩
  · rw [← z.len]
    have := pairs_len h4
    simpa using this
  · clear h4 h5 h3
    clear r
    induction z with
    | nil => exact .nil
    | @cons p q ps qs hq _ ih =>
      refine .cons ?_ ih
      obtain ⟨hk, _⟩ := hq
      unfold keyD at hk
      split at hk
      · rename_i i e1
        show Dq K G (kV p.1) q.1
        rw [e1, ← Option.some.inj hk]; exact .int i
      · rename_i i e1
        show Dq K G (kV p.1) q.1
        rw [e1, ← Option.some.inj hk]; exact .str i
      · cases hk
  · intro i x hx
    rw [List.getElem?_map] at hx
    cases q : vs[i]? with
    | none => rw [q] at hx; cases hx
    | some p =>
      rw [q] at hx; cases hx
      obtain ⟨en, he, hk⟩ := pairs_get h4 q
      exact ⟨en, by rw [← Array.getElem?_toList]; exact he, relV_key hk⟩
theorem keysT {P : Program} {w : World} {K : PySem.W.Frag} {G : Hp} {a : Addr} {ob : Obj} {xs : List (NestedKey × Addr × Value)} {kvs : List (D × D)} (r : DictRep P w a ob xs) (z : KtD K G xs kvs) :
    ∃ es ep, ob.ExactDict ∧ ob.data = .dict es ep ∧ es.size = kvs.length ∧ ∃ ks : List V, ks.length = kvs.length ∧ DqAll K G ks (kvs.map (·.1)) ∧ ∀ (i : Nat) (x : V), ks[i]? = some x → ∃ en, es[i]? = some en ∧ L2.RelV x en.key := by
  obtain ⟨es, ep, h1, h2, h3⟩ := r.ex
  refine ⟨es, ep, h1, h2, ?_, xs.map fun p => V.ref p.2.1, by rw [List.length_map, z.len], ?_, ?_⟩
  · rw [← z.len, ← Array.length_toList, h3, List.length_map]
  · clear h3 r
    induction z with
    | nil => exact .nil
    | cons hq _ ih => exact .cons hq.2.2.2.1 ih
  · intro i x hx
    rw [List.getElem?_map] at hx
    cases q : xs[i]? with
    | none => rw [q] at hx; cases hx
    | some p =>
      rw [q] at hx; cases hx
      refine ⟨entryOfKey (nestedKind P w) p, by rw [← Array.getElem?_toList, h3, List.getElem?_map, q]; rfl, rfl⟩

section
variable {X : Cx} {pins : List (Addr × Obj)} {σ : L2.St} {s : Shared} {G H S : Hp} {tg : Expr} {R : It → Hp → Prop}
/-- iter(v) of data: S is what must stand while it is walked -/
theorem it_dat {v : V} {u : Value} {d : D} {ds : List D} (I : L2.Inv X pins σ H s) (g : ∀ a o, G a = some o → H a = some o) (hS : ∀ a o, S a = some o → H a = some o) (hGS : ∀ a o, G a = some o → S a = some o) (o : ObsT X.prog X.w X.K S G v d) (r : L2.RelV v u) (e : itD d = some ds) (q : ∀ J, ItD X.K J ds S G → R J H) :
    wpAny (model X.prog X.w) X.A (pyIter u) (PIE X pins σ tg R) X.xe s := by
  unfold itD at e
  split at e
  · cases e
    obtain ⟨a, xs, rfl, h1, h2⟩ := o.list hGS
    obtain rfl : u = .ref a := r
    obtain ⟨its, rv, p, hz⟩ := I.list (SqL.up hS h1)
    refine wpAny_pyIter_list p.isList ?_
    refine ⟨s.heap.objs.size, [s.heap.objs.size], _, _, H, rfl, I.kept (t' := s.toks) fun b o e => Heap.get?_push_of_some _ e, turn_list a _, ⟨_, Heap.get?_push_size _ rfl, rfl, rfl⟩, fun b hb => ?_, q _ (itd_at (walk_list.mono (fun H h => SqL.up h h1) fun _ _ _ _ _ _ y => y) h2)⟩
    have e : b = s.heap.objs.size := by simpa using hb
    subst e
    exact I.fpOk (Nat.le_refl _) (I.hok.fresh (Nat.le_refl _))
  · cases e
    obtain ⟨a, xs, rfl, h1, h2⟩ := o.tup
    obtain rfl : u = .ref a := r
    obtain ⟨its, rv, p, hz⟩ := I.tuple (SqT.up g h1.sq)
    refine wpAny_pyIter_tuple (show s.heap.IsTuple a its.toArray from p) ?_
    refine ⟨s.heap.objs.size, [s.heap.objs.size], _, _, H, rfl, I.kept (t' := s.toks) fun b o e => Heap.get?_push_of_some _ e, turn_tuple a _, ⟨_, Heap.get?_push_size _ rfl, rfl, rfl⟩, fun b hb => ?_, q _ (itd_at (walk_tup.mono (fun H h => SqT.up h (SqT.up hGS h1.sq)) fun _ _ _ _ _ _ y => y) h2)⟩
    have e : b = s.heap.objs.size := by simpa using hb
    subst e
    exact I.fpOk (Nat.le_refl _) (I.hok.fresh (Nat.le_refl _))
  · rename_i x
    cases e
    obtain rfl := o.str
    obtain ⟨t, rfl⟩ := r
    have wk : Walk (Its x) (signsD x).length (fun H => ∀ a o, S a = some o → H a = some o) (YAt (x.cps.toList.map fun c => V.str ⟨#[c]⟩)) := by
      have hl : (signsD x).length = x.cps.size := by simp [signsD]
      rw [hl]
      refine walk_str.mono (fun _ _ => trivial) fun i H v H' hi _ y => ?_
      obtain ⟨e1, c, e2, e3⟩ := y
      refine ⟨e1, ?_⟩
      rw [List.getElem?_map, Array.getElem?_toList, e2, e3]; rfl
    have hq : DqAll X.K G (x.cps.toList.map fun c => V.str ⟨#[c]⟩) (signsD x) := by
      unfold signsD
      induction x.cps.toList with
      | nil => exact .nil
      | cons c l ih => exact .cons (.str _) ih
    have it : ItD X.K (Its x) (signsD x) S G := itd_at (by rw [dpa_len hq]; exact wk) hq
    cases ha : x.cps.all (· < 128)
    · exact wpAny_pyIter_wide ha (pi_one (tk := s.toks) I _ (turn_str _ x t "str_iterator" (.inr rfl)) ⟨_, Heap.get?_push_size _ rfl, rfl, rfl⟩ (q _ it))
    · exact wpAny_pyIter_ascii ha (pi_one (tk := s.toks) I _ (turn_str _ x t "str_ascii_iterator" (.inl rfl)) ⟨_, Heap.get?_push_size _ rfl, rfl, rfl⟩ (q _ it))
  · cases e
    obtain ⟨p, o', rfl, hp, hob⟩ := o.dict hGS
    obtain rfl : u = .ref p := r
    obtain ⟨ob, xs, rfl, rep, z⟩ := hob
    obtain ⟨es, ep, h1, h2, h3, ks, h4, h5, h6⟩ := keysT rep z
    have hgd := kn_get I (hS _ _ hp)
    refine iter_keys rep.sys hgd h1 h2 (pi_one (tk := s.toks) I _ (turn_kn _ h2 (by rw [h3, h4]) h6) ⟨_, Heap.get?_push_size _ rfl, rfl, ?_⟩ (q _ (itd_at (walk_kn hp) h5)))
    rw [h3, h4] <;> rfl
  · rename_i kvs hne
    cases e
    obtain ⟨p, o', rfl, hp, hob⟩ := o.dict hGS
    obtain rfl : u = .ref p := r
    unfold ObjD at hob
    split at hob
    · rename_i heq; cases heq
    · rename_i heq; cases heq; exact absurd rfl (hne _ _)
    rotate_left
    · exact hob.elim
    rename_i heq; cases heq
    obtain ⟨ob, vs, rfl, rep, z⟩ := hob
    have hgd := kn_get I (hS _ _ hp)
    obtain ⟨es, ep, h1, h2, h3, ks, h4, h5, h6⟩ := keysK rep z _ hgd
    refine iter_keys rep.sys hgd h1 h2 (pi_one (tk := s.toks) I _ (turn_kn _ h2 (by rw [h3, h4]) h6) ⟨_, Heap.get?_push_size _ rfl, rfl, ?_⟩ (q _ (itd_at (walk_kn hp) h5)))
    rw [h3, h4] <;> rfl
  · cases e

variable {O : List Nat} {e : Expr} {es : List Expr} {f : Ef} {fs : Af} {p pos : Pos}
/-- in a comprehension: the thing walked may be a slot's own -/
theorem pi_dp (h : DP X O e f) : PI X tg e (tIP X.prog X.w X.K O (aIt f)) := ⟨fun pins s σ H R I ⟨B, G0, G, ρ, ds, r, hf, q⟩ => by
  unfold aIt at hf
  split at hf
  · rename_i d hx
    refine thn (h.run pins s σ H (fun v H1 => ∃ G1, Stp H G H1 G1 ∧ ObsT X.prog X.w X.K H1 G1 v d) I ⟨B, G0, G, ρ, d, r, hx, fun v H1 G1 s1 z => ⟨G1, s1, z⟩⟩) fun u s1 ⟨v, H1, I1, r1, G1, st, z⟩ => ?_
    exact it_dat I1 st.gh (fun _ _ e => e) st.gh z r1 hf fun J hJ => q J H1 G1 st hJ
  · cases hf⟩
/-- in a for: what is walked stands still -/
theorem pi_de (h : DE X O e f) : PI X tg e (tI X.prog X.w X.K O (aIt f)) := ⟨fun pins s σ H R I ⟨B, G0, G, ρ, ds, r, hf, q⟩ => by
  unfold aIt at hf
  split at hf
  · rename_i d hx
    refine thn (h.run pins s σ H (fun v H1 => ∃ G1, Stp H G H1 G1 ∧ DenT X.prog X.w X.K G1 v d) I ⟨B, G0, G, ρ, d, r, hx, fun v H1 G1 s1 z => ⟨G1, s1, z⟩⟩) fun u s1 ⟨v, H1, I1, r1, G1, st, z⟩ => ?_
    exact it_dat I1 st.gh st.gh (fun _ _ e => e) (.inl z) r1 hf fun J hJ => q J H1 G1 st hJ
  · cases hf⟩
/-- what stands still may be walked in a comprehension, too -/
theorem ItD.peek {K : PySem.W.Frag} {J : It} {ds : List D} {G H : Hp} (g : ∀ a o, G a = some o → H a = some o) (h : ItD K J ds G G) : ItD K J ds H G := by
  obtain ⟨Y, w, hY⟩ := h
  exact ⟨Y, w.mono (fun H' q a o e => q a o (g a o e)) fun _ _ _ _ _ _ y => y, fun i x H1 H2 G2 d hd y hS => hY i x H1 H2 G2 d hd y fun a o e => hS a o (g a o e)⟩
theorem pi_peek (h : PI X tg e (tI X.prog X.w X.K O fs)) : PI X tg e (tIP X.prog X.w X.K O fs) := pi_wk h fun σ H R ⟨B, G0, G, ρ, ds, r, hf, q⟩ => ⟨B, G0, G, ρ, ds, r, hf, fun J H' G' st hJ => q J H' G' st (hJ.peek st.gh)⟩
theorem pi_r1 {a : Expr} (ha : DPA X O [a] fs) (hg : Gl X "range" := by rfl) (hm : X.mg "range" = none := by assumption) (hs : starEach [a] X.env = [(false, eval a X.env)] := by rfl) : PI X tg (.Call (.Name "range" p) [a] [] pos) (tI X.prog X.w X.K O (aR1 fs)) :=
  pi_wk (pi_range1 hg hm ha hs) fun σ H R ⟨B, G0, G, ρ, ds, r, hf, q⟩ => by
    unfold aR1 at hf
    split at hf
    · rename_i j hx
      split at hf
      · rename_i hj
        cases hf
        refine ⟨B, G0, G, ρ, _, r, hx, fun vs H1 G1 s1 z => ?_⟩
        cases z with
        | cons z1 z2 =>
          cases z2
          exact ⟨j, by rw [z1.int], by omega, by omega, q _ H1 G1 s1 itd_range⟩
      · cases hf
    · cases hf
theorem pi_r2 {a b : Expr} (ha : DPA X O [a, b] fs) (hg : Gl X "range" := by rfl) (hm : X.mg "range" = none := by assumption) (hs : starEach [a, b] X.env = [(false, eval a X.env), (false, eval b X.env)] := by rfl) (hs2 : starEach [b] X.env = [(false, eval b X.env)] := by rfl) :
    PI X tg (.Call (.Name "range" p) [a, b] [] pos) (tI X.prog X.w X.K O (aR2 fs)) :=
  pi_wk (pi_range2 hg hm ha hs hs2) fun σ H R ⟨B, G0, G, ρ, ds, r, hf, q⟩ => by
    unfold aR2 at hf
    split at hf
    · rename_i i j hx
      split at hf
      · rename_i hj
        cases hf
        refine ⟨B, G0, G, ρ, _, r, hx, fun vs H1 G1 s1 z => ?_⟩
        cases z with
        | cons z1 z2 =>
          cases z2 with
          | cons z2 z3 =>
            cases z3
            exact ⟨i, j, by rw [z1.int, z2.int], ⟨by omega, by omega, by omega, by omega⟩, q _ H1 G1 s1 itd_range⟩
      · cases hf
    · cases hf
end

/-! ### enumerate and zip of tuples, each pair an object that is known -/
def IteF (K : PySem.W.Frag) (a : Addr) : It :=
  ⟨fun i H => ∃ (xs : List V) (x : V), SqT K H a xs ∧ xs[i]? = some x, fun i H v H' => ∃ T x o, v = .ref T ∧ H T = none ∧ o.dict = none ∧ H' = upd H T (.frz o (.tup [.int (i : Nat), x])) ∧ ∀ xs, SqT K H a xs → xs[i]? = some x, fun i H => ∃ xs : List V, SqT K H a xs ∧ i = xs.length⟩
theorem meets_enumerate_newT (t : Addr) (items : Array Value) : Meets (Builtin.«enumerate.__new__» ⟨[.type "enumerate", .ref t], []⟩) (fun _ R s => s.heap.IsTuple t items ∧
      R (.ok (.ret (.ref (s.heap.push { cls := .type "tuple_iterator", data := .fields #[.ref t, .int 0 0] }).objs.size)))
        { s with heap := (s.heap.push { cls := .type "tuple_iterator", data := .fields #[.ref t, .int 0 0] }).push { cls := .type "enumerate", data := .fields #[.none, .bool false, .ref s.heap.objs.size, rawInt 0, .none, .none] } }) :=
  .of_wp fun prog w A R s h => by
    obtain ⟨hp, g, d, tk, os⟩ := s; obtain ⟨hl, h⟩ := h
    have hsub := sub_enumerate
    obtain ⟨o, ho, hc, n, hd⟩ := id hl
    obtain ⟨c, dct, dt, sl⟩ := o
    simp only at hc hd
    subst hc hd
    wp_walk using AutoSeq1.wpAny_loadPart' ho
    refine wpAny_stack_any fun st => wpAny_pure ?_
    split
    · rename_i c _ _ _ _ _
      cases (c == Value.type "enumerate")
      · wp_walk using AutoSeq1.wpAny_loadPart' ho, wpAny_pyIter_tuple hl
        exact ⟨_, rfl, h⟩
      · wp_walk using AutoSeq1.wpAny_loadPart' ho, wpAny_pyIter_tuple hl
        exact ⟨_, rfl, h⟩
    · wp_walk using AutoSeq1.wpAny_loadPart' ho, wpAny_pyIter_tuple hl
      exact ⟨_, rfl, h⟩
end DL
namespace DL
open PySem PySem.Spec PyProof.Rows L2
theorem call_enumerate_tuple {prog : Program} {w : World} {A : Around} {E : Value → Shared → Prop} {s : Shared} {t : Addr} {items : Array Value} {Q : Value → Shared → Prop} (hL : s.heap.IsTuple t items)
    (h : ∀ h', IsEnum h' (s.heap.objs.size + 1) s.heap.objs.size 0 .none → h'.IsTupleIter s.heap.objs.size t 0 → h'.objs.size = s.heap.objs.size + 2 →
      (∀ b o, s.heap.get? b = some o → h'.get? b = some o) → Q (.ref (s.heap.objs.size + 1)) { s with heap := h' }) :
    wpAny (model prog w) A (call (.type "enumerate") [.ref t]) Q E s := by
  refine callType_new F.called_enumerate (by decide) (F.typeCall_enumerate_1 _) (F.newCall_enumerate_1 _) (fun obj => F.args_object_init_2 obj _) F.entry_enumerate_new
    (meets_enumerate_newT t items) ⟨hL, ?_⟩
  have hz : (s.heap.push { cls := .type "tuple_iterator", data := .fields #[.ref t, .int 0 0] }).objs.size = s.heap.objs.size + 1 := Heap.size_push ..
  show _ ∧ _
  rw [hz]
  have he : IsEnum ((s.heap.push { cls := .type "tuple_iterator", data := .fields #[.ref t, .int 0 0] }).push
      { cls := .type "enumerate", data := .fields #[.none, .bool false, .ref s.heap.objs.size, rawInt 0, .none, .none] }) (s.heap.objs.size + 1) s.heap.objs.size 0 .none := by
    have := Heap.get?_push_size (s.heap.push { cls := .type "tuple_iterator", data := .fields #[.ref t, .int 0 0] })
      (o := { cls := .type "enumerate", data := .fields #[.none, .bool false, .ref s.heap.objs.size, rawInt 0, .none, .none] }) rfl
    rw [hz] at this; exact this
  refine ⟨⟨_, he, rfl⟩, h _ he ⟨_, Heap.get?_push_of_some _ (Heap.get?_push_size _ rfl), rfl, rfl⟩ (by rw [Heap.size_push, hz]) fun b o x => Heap.get?_push_of_some _ (Heap.get?_push_of_some _ x)⟩
theorem turn_enumF {P : Program} {w : World} {K : PySem.W.Frag} {elts : List Expr} {kk : Nat} {tpos : Pos} (a e it : Addr) (hai : a ≠ it) (hae : a ≠ e) :
    Turn P w K (.Tuple elts kk tpos) (IteF K a) [e, it] e (fun i h => (∃ old, IsEnum h e it ((i : Nat) : Int) old) ∧ h.IsTupleIter it a i ∧ e ≠ it) where
  mem := by simp
  obj := fun i h st b hb => by
    obtain ⟨⟨old, he⟩, ⟨o, ho, hc, hd⟩, _⟩ := st
    have e' : b = e ∨ b = it := by simpa using hb
    rcases e' with z | z
    · rw [z]; exact ⟨_, he, fun v q => nomatch q⟩
    · rw [z]; exact ⟨o, ho, fun v q => by rw [hd] at q; cases q⟩
  keep := fun i h h' st k => let ⟨⟨old, he⟩, hi, hne⟩ := st; ⟨⟨old, k e (by simp) _ he⟩, hi.at fun o q => k it (by simp) o q, hne⟩
  item := by
    intro X hP hw hK hc i pins s σ H E I hf st hg
    subst hP hw hK
    obtain ⟨⟨old, he⟩, hit, hne⟩ := st
    obtain ⟨xs, x, hq, hx⟩ := hg
    obtain ⟨its, rv, p, hz⟩ := I.tuple hq
    obtain ⟨u, hu, ru⟩ := rv.get hx
    have hel : e < s.heap.objs.size := Heap.lt_size he
    have hil : it < s.heap.objs.size := by obtain ⟨_, q, _⟩ := hit; exact Heap.lt_size q
    have hlen : i < its.toArray.size := by
      have := (List.getElem?_eq_some_iff.mp hu).1
      simpa using this
    refine wpAny_pyNext_enum_itemD (Draws.tuple (A := X.A.in1) (I.ok.hd hc) it a hai its.toArray) he ⟨hit, p⟩ hlen hne (by simp [hne, Ne.symm hae]) fun x' h' tk hx' ho hst' hT hsz hk => ?_
    obtain ⟨hit', _⟩ := hst'
    have ex : x' = u := by
      have : its.toArray[i]? = some u := by simpa using hu
      rw [this] at hx'; exact (Option.some.inj hx').symm
    subst ex
    refine ⟨_, rfl, wpAny_letOwnedTupleGo_enum (s := { s with heap := h', toks := tk + 1 }) ho fun h'' he' sb => ?_⟩
    have hT2 : h''.get? s.heap.objs.size = some (tupO [.int i tk, x']) := (sb.2 _ (Nat.ne_of_gt hel)).trans hT
    have new : ObjOk X.prog X.w (upd H s.heap.objs.size (.frz (tupO [.int i tk, x']) (.tup [.int (i : Nat), x]))) h'' s.heap.objs.size (.frz (tupO [.int i tk, x']) (.tup [.int (i : Nat), x])) :=
      ⟨hT2, by show 2 ≤ sizeLine; decide, [.int i tk, x'], .cons ⟨_, rfl⟩ (.cons ru .nil), ⟨_, hT2, rfl, _, rfl⟩⟩
    have I1 : L2.Inv X pins σ (upd H s.heap.objs.size (.frz (tupO [.int i tk, x']) (.tup [.int (i : Nat), x]))) { s with heap := h'', toks := tk + 1 } :=
      I.turnedNew (ch := [e, it]) (fun b ob hb q => (sb.2 b (fun z => hb (by simp [z]))).trans (hk b ob (fun z => hb (by simp [z])) (fun z => hb (by simp [z])) q)) hf (Nat.le_refl _) new
    refine ⟨.ref s.heap.objs.size, _, I1, rfl, ⟨_, x, _, rfl, I.hok.fresh (Nat.le_refl _), rfl, rfl, fun ys hy => by rw [I.tuple_inj hy hq]; exact hx⟩, ⟨⟨x', ?_⟩, hit'.at fun o q => (sb.2 it (Ne.symm hne)).trans q, hne⟩, fun b hb => ?_⟩
    · have e1 : ((i + 1 : Nat) : Int) = (i : Int) + 1 := by omega
      rw [e1]; exact he'
    · have hb' : b < s.heap.objs.size := by
        have e' : b = e ∨ b = it := by simpa using hb
        rcases e' with z | z
        · rw [z]; exact hel
        · rw [z]; exact hil
      rw [upd_ne (Nat.ne_of_lt hb')]
      exact (hf b hb).1
  done := by
    intro X hP hw hK hc i pins s σ H E I hf st hg
    subst hP hw hK
    obtain ⟨⟨old, he⟩, hit, hne⟩ := st
    obtain ⟨xs, hq, hx⟩ := hg
    obtain ⟨its, rv, p, hz⟩ := I.tuple hq
    obtain ⟨f0, f1, f2, f3, f4, f5⟩ := hf it (by simp)
    have hl : i = its.toArray.size := by rw [List.size_toArray, ← rv.length]; exact hx
    refine wpAny_pyNext_enum_endD (Draws.tuple (A := X.A.in1) (I.ok.hd hc) it a hai its.toArray) he ⟨by rw [← hl]; exact hit, p⟩ fun h' eb => ⟨rfl, I.turned (t' := s.toks) (fun b o hb q => eb b o hb q) f0 f1 f3 f4 f5⟩
  self := fun A i s Q E st h => let ⟨⟨_, he⟩, _⟩ := st; wpAny_pyIter_enum he h
section
variable {X : Cx} {O : List Nat} {e e2 : Expr} {fs : Af} {p pos tpos : Pos} {elts : List Expr} {kk : Nat}
def iEnumF (K : PySem.W.Frag) (ta : TA) : TI := fun σ H R => ta σ H fun vs H1 => ∃ a xs, vs = [.ref a] ∧ SqT K H1 a xs ∧ R (IteF K a) H1
theorem pi_enumF {ta : TA} (hg : Gl X "enumerate") (hm : X.mg "enumerate" = none) (ha : PA X [e] ta) (hs : starEach [e] X.env = [(false, eval e X.env)] := by rfl) :
    PI X (.Tuple elts kk tpos) (.Call (.Name "enumerate" p) [e] [] pos) (iEnumF X.K ta) := by
  refine ⟨fun pins s σ H R I h => ?_⟩
  refine Call_ (ld_blt I hg hm boot_enumerate (PyProof.Rows.callWith_type1 (thn (ha.run pos pins s σ H _ I h) fun us s1 ⟨vs, H1, I1, r1, q1⟩ => ?_) hs rfl))
  obtain ⟨a, xs, ex, hq, q⟩ := q1
  subst ex
  cases r1 with
  | cons r rr =>
    cases rr
    cases r
    obtain ⟨its, rv, p', hz⟩ := I1.tuple hq
    have hal : a < s1.heap.objs.size := p'.lt
    refine call_enumerate_tuple p' fun h' he hit hsz hk => wpAny_pyIter_enum he ?_
    have I2 : L2.Inv X pins σ H1 { s1 with heap := h' } := I1.kept (t' := s1.toks) hk
    refine ⟨s1.heap.objs.size + 1, [s1.heap.objs.size + 1, s1.heap.objs.size], _, _, H1, rfl, I2, turn_enumF a (s1.heap.objs.size + 1) s1.heap.objs.size (Nat.ne_of_lt hal) (Nat.ne_of_lt (Nat.lt_succ_of_lt hal)), ⟨⟨.none, he⟩, hit, Nat.succ_ne_self _⟩, fun b hb => ?_, q⟩
    have e' : b = s1.heap.objs.size + 1 ∨ b = s1.heap.objs.size := by simpa using hb
    have hle : s1.heap.objs.size ≤ b := by
      rcases e' with z | z
      · rw [z]; exact Nat.le_add_right _ _
      · rw [z]; exact Nat.le_refl _
    exact I1.fpOk hle (I1.hok.fresh hle)
theorem pi_enu (ha : DPA X O [e] fs) (hg : Gl X "enumerate" := by rfl) (hm : X.mg "enumerate" = none := by assumption) (hs : starEach [e] X.env = [(false, eval e X.env)] := by rfl) : PI X (.Tuple elts kk tpos) (.Call (.Name "enumerate" p) [e] [] pos) (tI X.prog X.w X.K O (aEnum fs)) :=
  pi_wk (pi_enumF hg hm ha hs) fun σ H R ⟨B, G0, G, ρ, ds, r, hf, q⟩ => by
    unfold aEnum at hf
    split at hf
    · rename_i ds hx
      cases hf
      refine ⟨B, G0, G, ρ, _, r, hx, fun vs H1 G1 s1 z => ?_⟩
      cases z with
      | cons z1 z2 =>
        cases z2
        obtain ⟨a, xs, rfl, h1, h2⟩ := z1.tup
        have hl := dpa_len h2
        refine ⟨a, xs, rfl, SqT.up s1.gh h1.sq, q _ H1 G1 s1 (itd_pair (n := xs.length) (xs := fun i => some (.int (i : Nat))) (ys := fun i => xs[i]?) (by rw [enumD_len, hl]) ⟨fun i H hi w => ⟨xs, xs[i], SqT.up w h1.sq, by simp [hi]⟩, fun H w => ⟨xs, SqT.up w h1.sq, rfl⟩, fun i H v H' hi w y => ?_⟩ fun i x y hi e1 e2 => ?_)⟩
        · obtain ⟨T, x, o, h1', h2', h3, h4, h5⟩ := y
          exact ⟨T, _, x, o, h1', h2', h3, h4, rfl, h5 xs (SqT.up w h1.sq)⟩
        · obtain ⟨d, e3, z⟩ := dpa_getV h2 e2
          cases e1
          refine ⟨_, d, enumD_get ds 0 i d e3, ?_, z⟩
          rw [Int.zero_add]
          exact .int _
    · cases hf
end
end DL
namespace DL
open PySem PySem.Spec PyProof.Rows L2

/-! ### lists and dicts that a slot owns are changed -/
theorem setP_len (p : D → Bool) (d : D) : ∀ kvs : List (D × D), (setP p d kvs).length = kvs.length
  | [] => rfl
  | q :: r => by rw [setP, List.length_cons, List.length_cons, setP_len p d r]
theorem putP_len (p : D → Bool) (key d : D) (kvs : List (D × D)) : (putP p key d kvs).length ≤ kvs.length + 1 := by
  unfold putP
  split
  · rw [setP_len]; omega
  · simp
theorem objD_K {P : Program} {w : World} {K : PySem.W.Frag} {G : Hp} {p : Addr} {o : HO} {kvs : List (D × D)} (hne : ∀ x r, kvs = (.none, x) :: r → False) (h : ObjD P w K G p o (.dict kvs)) : ∃ ob vs, o = Kn p ob ∧ RepK P w p ob vs ∧ KvD K G vs kvs := by
  unfold ObjD at h
  split at h
  · rename_i heq; cases heq
  · rename_i heq; cases heq; exact (hne _ _ rfl).elim
  · rename_i heq; cases heq; exact h
  · exact h.elim
theorem objD_mkK {P : Program} {w : World} {K : PySem.W.Frag} {G : Hp} {p : Addr} {ob : Obj} {vs : List (Key × Value)} {kvs : List (D × D)} (r : RepK P w p ob vs) (z : KvD K G vs kvs) : ObjD P w K G p (Kn p ob) (.dict kvs) := by
  unfold ObjD
  split
  · rename_i heq; cases heq
  · rename_i heq; cases heq
    cases z with
    | cons a b => obtain ⟨e, _⟩ := a; cases e
  · rename_i heq; cases heq; exact ⟨ob, vs, rfl, r, z⟩
  · rename_i h1 h2 h3; exact absurd rfl (h3 _)
theorem keyed_ne {K : PySem.W.Frag} {G : Hp} {vs : List (Key × Value)} {kvs : List (D × D)} (z : KvD K G vs kvs) : ∀ x r, kvs = (.none, x) :: r → False := by
  intro x r e
  subst e
  cases z with
  | cons a b => obtain ⟨e, _⟩ := a; cases e
section
variable {X : Cx} {pins : List (Addr × Obj)} {σ : L2.St} {s : Shared} {G H : Hp}
theorem repK_of {P : Program} {w : World} {h : Heap} {a : Addr} {vs : List (Key × Value)} (dd : h.DictOf (mixKind P w) a vs) (hl : vs.length ≤ sizeLine) (hs : (a == sysModules) = false) : ∃ ob, h.get? a = some ob ∧ RepK P w a ob vs := by
  obtain ⟨o, es, ep, h1, h2⟩ := dd
  exact ⟨o, h1, fun h' e => ⟨o, es, ep, e, h2⟩, hl, hs⟩
theorem dictRep_of {P : Program} {w : World} {h : Heap} {a : Addr} {xs : List (NestedKey × Addr × Value)} (dd : h.DictOfH (nestedKind P w) a xs) (hl : xs.length ≤ sizeLine) (hs : (a == sysModules) = false) : ∃ ob, h.get? a = some ob ∧ DictRep P w a ob xs := by
  obtain ⟨o, es, ep, h1, h2, h3, h4, _, h6⟩ := dd
  exact ⟨o, h1, ⟨es, ep, h2, h3, h4⟩, h6, hl, hs⟩
/-- d[y] = v -/
theorem dict_put (hu : X.A.units + 64 < cLine) {a : Addr} {ob : HO} {y v : V} {u r : Value} {d key dv d' : D} (I : L2.Inv X pins σ H s) (g : ∀ a o, G a = some o → H a = some o) (hp : H a = some ob) (hq : ObjD X.prog X.w X.K G a ob d) (oy : ObsT X.prog X.w X.K H G y key) (ry : RelV y u) (rv : RelV v r) (zv : Dq X.K G v dv) (h : dPut d key dv = some d')
    {Q : Unit → Shared → Prop} {E : Value → Shared → Prop} (q : ∀ ob' s', L2.Inv X pins σ (upd H a ob') s' → ObjD X.prog X.w X.K G a ob' d' → Q () s') : wpAny (model X.prog X.w) X.A (setItem (.ref a) u r) Q E s := by
  unfold dPut at h
  split at h
  · split at h
    case h_2 => cases h
    rename_i x0 kvs kk dd0 k hk
    split at h
    case isFalse => cases h
    rename_i hl
    cases h
    obtain ⟨ob, xs, rfl, rep, z⟩ := hq
    have e := kn_get I hp
    have dd := dictH I g e rep z
    obtain ⟨b, rfl, hb⟩ := tupKey oy hk
    obtain rfl : u = .ref b := ry
    have ki := key_is I hk (dp_up hb g)
    have zz := KtD.put z hk hb rv zv
    refine wpAny_setItem_heap (hsz := rep.len) (room1 hu) ki dd fun h' dd' hs => ?_
    have hl' : (storedH xs k b r).length ≤ sizeLine := by
      rw [zz.len, sizeLine_eq]
      exact Nat.le_trans (putP_len _ _ _ _) (by omega)
    obtain ⟨ob', e', rep'⟩ := dictRep_of dd' hl' rep.sys
    refine q _ _ (d_write I (by rw [hp]; exact True.intro) hs ⟨_, e'⟩ (kn_ok e')) ?_
    unfold ObjD
    exact ⟨ob', _, rfl, rep', zz⟩
  · split at h
    case h_2 => cases h
    rename_i kvs kk dd0 hne _ k hk
    split at h
    case isFalse => cases h
    rename_i hl
    cases h
    obtain ⟨ob, vs, rfl, rep, z⟩ := objD_K (fun x r e => hne x r (by rw [e])) hq
    have e := kn_get I hp
    have dd := rep.ex _ e
    have ki : (mixKind X.prog X.w).is k u = true := keyD_rel oy hk ry
    have zz := KvD.put z hk rv zv
    refine wpAny_setItem_pairs (hsz := rep.len) ki dd fun h' dd' hs => ?_
    have hl' : (stored vs k r).length ≤ sizeLine := by
      rw [zz.len, sizeLine_eq]
      exact Nat.le_trans (putP_len _ _ _ _) (by omega)
    obtain ⟨ob', e', rep'⟩ := repK_of dd' hl' rep.sys
    exact q _ _ (d_write I (by rw [hp]; exact True.intro) hs ⟨_, e'⟩ (kn_ok e')) (objD_mkK rep' zz)
  · cases h
end

section
variable {X : Cx} {O O' vs : List Nat} {e k : Expr} {f fk : Ef} {pos pos' p1 p2 p3 : Pos} {i : Nat} {x : Str}
def sPut (i : Nat) (fk f : Ef) : Sf := fun ρ => match f ρ with
  | none => none
  | some d => if flatD d = true then (match fk ρ with
    | none => none
    | some key => match eVar i ρ with
      | none => none
      | some d0 => match dPut d0 key d with
        | none => none
        | some d1 => some (.nx (ρ.set i (some d1)))) else none
theorem ds_put (i : Nat) (hu : X.A.units + 64 < cLine) (he : DE X O e f) (hk : DP X O k fk) (hi : i ∈ O := by decide) (hN : X.N[i]? = some x := by rfl) (hv : Vis X.env.scope x := by first | exact Or.inl rfl | exact Or.inr (Or.inl rfl) | exact Or.inr (Or.inr rfl)) (hd : (x == ("__debug__" : Str)) = false := by decide)
    (hcd : (x == ("__classdict__" : Str)) = false := by decide) (hs : swapsWith e (some (.Subscript (.Name x p1) k pos')) pos.line X.env = pure false := by rfl) : DS X O O (.Assign [.Subscript (.Name x p1) k pos'] e pos) (sPut i fk f) := by
  refine ⟨fun pins s σ H D I ⟨B, G0, G, ρ, out, r, hf, q⟩ => ?_⟩
  unfold sPut at hf
  split at hf
  · cases hf
  rename_i d hx
  split at hf
  case isFalse => cases hf
  rename_i hfl
  split at hf
  · cases hf
  rename_i key hkk
  split at hf
  · cases hf
  rename_i d0 h0
  split at hf
  · cases hf
  rename_i d1 h1
  cases hf
  refine wpAny_Assign_Subscript (thn (he.run pins s σ H (fun v H1 => ∃ G1, Stp H G H1 G1 ∧ DenT X.prog X.w X.K G1 v d) I ⟨B, G0, G, ρ, d, r, hx, fun v H1 G1 s1 z => ⟨G1, s1, z⟩⟩) fun rv s1 ⟨v, H1, I1, rv', G1, st1, z1⟩ => ?_) hs
  have r1 := r.stp st1
  obtain ⟨p, o, e1, h1', _, _, hob⟩ := r1.own i d0 (getD_some h0) hi
  refine thn ((pe_var hN hv hd hcd).run pins s1 σ H1 (fun x H2 => H2 = H1 ∧ x = .ref p) I1 ⟨_, e1, rfl, rfl⟩) fun u s2 ⟨x', H2, I2, rx, e2, e3⟩ => ?_
  subst e2 e3
  obtain rfl : u = Value.ref p := rx
  refine thn (hk.run pins s2 σ H2 (fun y H3 => ∃ G3, Stp H2 G1 H3 G3 ∧ ObsT X.prog X.w X.K H3 G3 y key) I2 ⟨B, G0, G1, ρ, key, r1, hkk, fun v H3 G3 s3 z3 => ⟨G3, s3, z3⟩⟩) fun iv s3 ⟨y, H3, I3, ry, G3, st3, z3⟩ => ?_
  have r3 := r1.stp st3
  have zv : Dq X.K G3 v d := dp_up (z1.dp fun kvs e => by rw [e] at hfl; cases hfl) st3.gg
  refine dict_put hu I3 st3.gh (st3.hh _ _ h1') (hob.up st3.gg) z3 ry rv' zv h1 fun ob' s4 I4 hob' => ⟨σ, _, I4, q σ _ G3 (r3.mut hi (getD_some h0) e1 hob')⟩

/-! ### name op= e of whole numbers -/
def sAug (F : Int → Int → Int) (i : Nat) (f : Ef) : Sf := fun ρ => match eVar i ρ with
  | some (.int a) => match f ρ with
    | some (.int b) => some (.nx (ρ.set i (some (.int (F a b)))))
    | _ => none
  | _ => none
theorem ds_aug {op : Operator} {F : Int → Int → Int} (i : Nat) (ho : PIp X op (ipI F)) (hN : X.N.Nodup) (he : DP X O e f) (hO : i ∉ O := by decide) (hi : X.N[i]? = some x := by rfl) (hx : Loc X.env.scope x := by first | exact Or.inl rfl | exact Or.inr rfl)
    (hf : X.fn x = true ∨ X.env.scope.names.lookup x = some .local := by first | exact .inl rfl | exact .inr rfl | assumption) : DS X O O (.AugAssign (.Name x pos') op e pos) (sAug F i f) :=
  ps_wk (ps_aug hN hi hx he ho hf) fun D σ H ⟨B, G0, G, ρ, out, r, hf, q⟩ => by
    unfold sAug at hf
    split at hf
    · rename_i a h1
      split at hf
      · rename_i b h2
        cases hf
        obtain ⟨v, e1, z⟩ := r.val i _ (getD_some h1) hO
        obtain rfl := ObsT.int (H := H) (.inl z)
        refine ⟨_, e1, B, G0, G, ρ, _, r, h2, fun u H1 G1 s1 z1 => ?_⟩
        obtain rfl := z1.int
        exact ⟨a, b, rfl, rfl, q _ _ G1 ((r.stp s1).set hO (.int _))⟩
      · cases hf
    · cases hf
theorem aAdd : PIp X .Add (ipI fun i j => i + j) := ip_add
theorem aSub : PIp X .Sub (ipI fun i j => i - j) := ip_sub

/-! ### methods that change a list -/
def sMut (i : Nat) (F : List D → List D → Option (List D)) (fs : Af) : Sf := fun ρ => match eVar i ρ with
  | some (.list xs) => match fs ρ with
    | some ds => match F xs ds with
      | some ys => some (.nx (ρ.set i (some (.list ys))))
      | none => none
    | none => none
  | _ => none
/-- what a method does to a list -/
def MutR (X : Cx) (id : String) (F : List D → List D → Option (List D)) : Prop := ∀ (pins : List (Addr × Obj)) (s : Shared) (σ : L2.St) (H G : Hp) (l : Addr) (xs vs : List V) (v : Value) (us : List Value) (ds es ys : List D) (Q : Value → Shared → Prop), L2.Inv X pins σ H s → (∀ a o, G a = some o → H a = some o) → RelV (.ref l) v → Vals vs us →
  H l = some (.lst xs) → DqAll X.K G xs ds → ObsAll X.prog X.w X.K H G vs es → F ds es = some ys → (∀ s' u zs, L2.Inv X pins σ (upd H l (.lst zs)) s' → DqAll X.K G zs ys → RelV .non u → Q u s') → wpAny (model X.prog X.w) X.A (call (.builtin id) (v :: us)) Q X.xe s
theorem ds_mut {name : Str} {id : String} {F : List D → List D → Option (List D)} {es : List Expr} {fs : Af} (i : Nat) (slot : Slot "list" name id) (hty : typeOf (.builtin id) = pure (.type "method_descriptor")) (hm : MutR X id F) (ha : DPA X O (e :: es) fs) (hO : i ∈ O := by decide) (hN : X.N[i]? = some x := by rfl) (hv : Vis X.env.scope x := by first | exact Or.inl rfl | exact Or.inr (Or.inl rfl) | exact Or.inr (Or.inr rfl)) (hd : (x == ("__debug__" : Str)) = false := by decide)
    (hcd : (x == ("__classdict__" : Str)) = false := by decide) (hbase : attributeBase (.Name x p1) name X.env (eval (.Name x p1) X.env) = eval (.Name x p1) X.env := by rfl)
    (hfew : ((backTo p3 (starEach (e :: es) X.env)).all (fun x => !x.1) && (backToKw p3 (keywordEach [] X.env)).all (fun x => x.1.isSome)
      && decide ((e :: es).length + ([] : List Keyword).length + (if ([] : List Keyword).isEmpty then 0 else 1) < 30)) = true := by rfl)
    (hline : (p2.endLine == p3.line) = true := by rfl) (hs : starEach (e :: es) X.env = (false, eval e X.env) :: starEach es X.env := by rfl) (hplain : (backTo p3 (starEach es X.env)).any (·.1) = false := by rfl)
    (hsw : swapsWith (.Call (.Attribute (.Name x p1) name p2) (e :: es) [] p3) none pos.line X.env = pure false := by rfl) : DS X O O (.Expr (.Call (.Attribute (.Name x p1) name p2) (e :: es) [] p3) pos) (sMut i F fs) := by
  refine ⟨fun pins s σ H D I ⟨B, G0, G, ρ, out, r, hf, q⟩ => ?_⟩
  unfold sMut at hf
  split at hf
  case h_2 => cases hf
  rename_i ds h0
  split at hf
  case h_2 => cases hf
  rename_i es' hx
  split at hf
  case h_2 => cases hf
  rename_i ys hF
  cases hf
  obtain ⟨p, o, e1, h1, g1, b1, hob⟩ := r.own i _ (getD_some h0) hO
  obtain ⟨xs, rfl, zx⟩ := hob
  have key : PE X (.Call (.Attribute (.Name x p1) name p2) (e :: es) [] p3) (fun σ' H' Q => σ' = σ ∧ H' = H ∧ ∀ v H2 G2, Rel X.prog X.w X.K B G0 O (ρ.set i (some (.list ys))) σ H2 G2 → Q v H2) := by
    refine ⟨fun pins s σ' H' Q I' ⟨e2, e3, hq⟩ => ?_⟩
    subst e2 e3
    refine wpAny_Call_method_late hbase hfew hline rfl (thn ((pe_var hN hv hd hcd).run pins s σ' H' (fun x H2 => H2 = H' ∧ x = .ref p) I' ⟨_, e1, rfl, rfl⟩) fun v s1 ⟨x', H1, I1, r1, e4, e5⟩ => ?_)
    subst e4 e5
    obtain ⟨h1', h2'⟩ := tyV_is I1 r1 (T := "list") (.inl ⟨rfl, xs, .of h1⟩)
    refine ⟨"list", id, PySem.F.plainAttrs_list, slot, hty, h1', h2', ?_⟩
    have hA := ha.run p3 pins s1 σ' H1 (fun vs H2 => ∃ G2, Stp H1 G H2 G2 ∧ ObsAll X.prog X.w X.K H2 G2 vs es') I1 ⟨B, G0, G, ρ, es', r, hx, fun vs H2 G2 s2 z => ⟨G2, s2, z⟩⟩
    rw [hs] at hA ⊢
    refine Calls.callWith_builtin (by show (false || (backTo p3 (starEach es X.env)).any (·.1)) = false; rw [hplain] <;> rfl) (Calls.evalArgs_plain ?_)
    refine thn hA fun us s2 ⟨vs, H2, I2, r2, G2, st, z⟩ => ?_
    refine hm pins s2 σ' H2 G2 p xs vs v us ds es' ys _ I2 st.gh r1 r2 (st.hh _ _ h1) (dpa_up zx st.gg) z hF fun s3 u zs I3 zz ru => ⟨.non, _, I3, ru, hq _ _ G2 ((r.stp st).mut hO (getD_some h0) e1 ⟨zs, rfl, zz⟩)⟩
  exact (ps_expr key hsw).run pins s σ H D I ⟨rfl, rfl, fun v H2 G2 r2 => q σ H2 G2 r2⟩

/-- no list, no dict -/
def atD : D → Bool
  | .list _ => false
  | .dict _ => false
  | _ => true
def fApp : List D → List D → Option (List D) := fun xs ds => match ds with
  | [d] => if atD d = true ∧ xs.length < 16777216 then some (xs ++ [d]) else none
  | _ => none
def fExt : List D → List D → Option (List D) := fun xs ds => match ds with
  | [.list es] => if xs.length + es.length ≤ 16777216 then some (xs ++ es) else none
  | _ => none
def fIns : List D → List D → Option (List D) := fun xs ds => match ds with
  | [.int i, d] => if atD d = true ∧ xs.length < 16777216 ∧ 0 ≤ i ∧ i < 2 ^ 63 then some (xs.take i.toNat ++ [d] ++ xs.drop i.toNat) else none
  | _ => none
theorem ObsT.at {P : Program} {w : World} {K : PySem.W.Frag} {H G : Hp} {v : V} {d : D} (h : ObsT P w K H G v d) (hd : atD d = true) : Dq K G v d := h.den (fun kvs e => by rw [e] at hd; cases hd) (fun kvs e => by rw [e] at hd; cases hd)
theorem mAppend : MutR X "list.append" fApp := by
  intro pins s σ H G l xs vs v us ds es ys Q I g rx rv hl zx za hF q
  unfold fApp at hF
  split at hF
  case h_2 => cases hF
  rename_i d
  split at hF
  case isFalse => cases hF
  rename_i hd
  cases hF
  cases za with
  | cons z1 z2 =>
    cases z2
    exact mt_append pins s σ H _ _ v us (fun x H' => x = .non ∧ ∃ zs, H' = upd H l (.lst zs) ∧ DqAll X.K G zs (ds ++ [d])) I rx rv ⟨l, xs, _, rfl, rfl, hl, by rw [dpa_len zx, sizeLine_eq]; exact hd.2, rfl, _, rfl, dpa_app zx (.cons (z1.at hd.1) .nil)⟩ |> fun h => thn h fun u s1 ⟨x, H1, I1, r1, e1, zs, e2, z3⟩ => by subst e1 e2; exact q s1 u zs I1 z3 r1
theorem mInsert : MutR X "list.insert" fIns := by
  intro pins s σ H G l xs vs v us ds es ys Q I g rx rv hl zx za hF q
  unfold fIns at hF
  split at hF
  case h_2 => cases hF
  rename_i i d
  split at hF
  case isFalse => cases hF
  rename_i hd
  cases hF
  cases za with
  | cons z1 z2 =>
    cases z2 with
    | cons z2 z3 =>
      cases z3
      obtain rfl := z1.int
      exact mt_insert pins s σ H _ _ v us (fun x H' => x = .non ∧ ∃ zs, H' = upd H l (.lst zs) ∧ DqAll X.K G zs (ds.take i.toNat ++ [d] ++ ds.drop i.toNat)) I rx rv ⟨l, xs, i, _, rfl, rfl, hl, by rw [dpa_len zx, sizeLine_eq]; exact hd.2.1, hd.2.2.1, hd.2.2.2, rfl, _, rfl, dpa_app (dpa_app (dpa_take _ zx) (.cons (z2.at hd.1) .nil)) (dpa_drop _ zx)⟩ |> fun h => thn h fun u s1 ⟨x, H1, I1, r1, e1, zs, e2, z3⟩ => by subst e1 e2; exact q s1 u zs I1 z3 r1
section
open PySem.AutoSeq1
theorem list_extend_any (l : Addr) (items : Array Value) (n : Nat) (b : Addr) (items2 : Array Value) (n2 : Nat) (sl2 : Array (Option Value)) (hc0 : ¬(!items.isEmpty && Builtin.List.listTooLong (items.size + items2.size)) = true) (hc1 : items.size ≤ sizeLine) (hs2 : items.size + items2.size ≤ sizeLine + 1) :
    Meets (Builtin.«list.extend» ⟨[.ref l, .ref b], []⟩) (fun _ R s => s.heap.get? l = some { cls := .type "list", dict := none, data := .seq items n, slots := #[] } ∧ s.heap.get? b = some { cls := .type "list", dict := none, data := .seq items2 n2, slots := sl2 } ∧ R (.ok (.ret Value.none)) { s with heap := s.heap.update l (Obj.mapSeq fun x => x ++ items2), toks := s.toks }) :=
  .of_wp fun prog w A R s h => by
    obtain ⟨hp, g, d, tk, os⟩ := s; obtain ⟨hl, hb, h⟩ := h; have f1 := AutoSeq1.idx_int; have f2 := AutoSeq1.sub_tuple_tuple; have f3 := AutoSeq1.sub_list_list; have f4 := AutoSeq1.sub_tuple_list; have f5 := AutoSeq1.sub_list_tuple;
    have hz' : (items ++ items2).size ≤ sizeLine + 1 := by rw [Array.size_append]; exact hs2
    wp_walk using (wpAny_updateSeq hl rfl (hz := hc1) (_hz' := hz')), AutoSeq1.wpAny_loadPart' hl, AutoSeq1.wpAny_loadPart' hb; exact ⟨_, rfl, h⟩
end
theorem mExtend : MutR X "list.extend" fExt := by
  intro pins s σ H G l xs vs v us ds es ys Q I g rx rv hl zx za hF q
  unfold fExt at hF
  split at hF
  case h_2 => cases hF
  rename_i es0
  split at hF
  case isFalse => cases hF
  rename_i hz
  cases hF
  cases za with
  | cons z1 z2 =>
    cases z2
    obtain ⟨b, zs, rfl, hb, zz⟩ := z1.list g
    cases rx
    obtain ⟨u, rfl, ru⟩ := rv.one
    cases ru
    obtain ⟨z, its, n, r, hl1, e⟩ := I.lstM hl
    obtain ⟨its2, r2, ⟨⟨cls2, dd2, data2, sl2⟩, n2, e2, c2, c3, c4⟩, z2⟩ := I.list hb
    simp only at c2 c3 c4
    subst c2 c3 c4
    have l1 := dpa_len zx
    have l2 := dpa_len zz
    have l3 := r2.length
    have hsz : its.toArray.size + its2.toArray.size ≤ sizeLine := by rw [List.size_toArray, List.size_toArray, sizeLine_eq]; omega
    have hlong : ¬ (!its.toArray.isEmpty && Builtin.List.listTooLong (its.toArray.size + its2.toArray.size)) = true := by
      rw [notLongL hsz, Bool.and_false]
      exact Bool.false_ne_true
    refine call_meets F.slot_list_extend ⟨_, e, rfl⟩ F.entry_list_extend (F.args_list_extend_2 _ _)
      (list_extend_any l its.toArray n b its2.toArray n2 sl2 hlong (by rw [List.size_toArray]; omega) (by omega)) ⟨e, e2, ?_⟩
    refine q _ _ (xs ++ zs) (I.lset (its' := its ++ its2) hl e (by simp) (r.append r2) ?_) (dpa_app zx zz) rfl
    rw [List.length_append, sizeLine_eq]
    omega
end
end DL
namespace DL
open PySem PySem.Spec PyProof.Rows L2

/-! ### expressions that change what a slot owns -/
abbrev Xf := Sl → Option (D × Sl)
abbrev XAf := Sl → Option (List D × Sl)
abbrev XTf := Sl → Option (Bool × Sl)
section
variable (P : Program) (w : World) (K : PySem.W.Frag)
structure XStp (B : Bs) (G0 : Hp) (O : List Nat) (σ : L2.St) (ρ : Sl) (H G : Hp) (ρ' : Sl) (H' G' : Hp) : Prop where
  gg : ∀ a o, G a = some o → G' a = some o
  rel : Rel P w K B G0 O ρ' σ H' G'
  dom : ∀ (i : Nat) (d : D), ρ'[i]? = some (some d) → ∃ d' : D, ρ[i]? = some (some d')
  frame : ∀ a o, H a = some o → (∀ (i : Nat) (d : D), i ∈ O → ρ[i]? = some (some d) → σ[i]? ≠ some (some (.ref a))) → H' a = some o ∧ G' a = G a
def tX (O : List Nat) (f : Xf) : TE := fun σ H Q => ∃ B G0 G ρ d ρ', Rel P w K B G0 O ρ σ H G ∧ f ρ = some (d, ρ') ∧ ∀ v H' G', XStp P w K B G0 O σ ρ H G ρ' H' G' → DenT P w K G' v d → Q v H'
def tXA (O : List Nat) (f : XAf) : TA := fun σ H Q => ∃ B G0 G ρ ds ρ', Rel P w K B G0 O ρ σ H G ∧ f ρ = some (ds, ρ') ∧ ∀ vs H' G', XStp P w K B G0 O σ ρ H G ρ' H' G' → Paired (DenT P w K G') vs ds → Q vs H'
def tXT (O : List Nat) (f : XTf) : TT := fun σ H Q => ∃ B G0 G ρ b ρ', Rel P w K B G0 O ρ σ H G ∧ f ρ = some (b, ρ') ∧ ∀ H' G', XStp P w K B G0 O σ ρ H G ρ' H' G' → Q b H'
def tXI (O : List Nat) (f : XAf) : TI := fun σ H R => ∃ B G0 G ρ ds ρ', Rel P w K B G0 O ρ σ H G ∧ f ρ = some (ds, ρ') ∧ ∀ J H' G', XStp P w K B G0 O σ ρ H G ρ' H' G' → ItD K J ds G' G' → R J H'
/-- a call that changes the object of its first argument -/
def spE (Φ : D → List D → Option (D × D)) : Sp := fun vs H Q _ => ∃ G p o rest d0 ds d d1, vs = .ref p :: rest ∧ (∀ a o, G a = some o → H a = some o) ∧ H p = some o ∧ G p = none ∧ ObjD P w K G p o d0 ∧ Paired (DenT P w K G) rest ds ∧ Φ d0 ds = some (d, d1) ∧
  ∀ v H' G' o', (∀ a u, a ≠ p → H a = some u → H' a = some u) → (∀ a u, G a = some u → G' a = some u) → (∀ a u, G' a = some u → H' a = some u) → (∀ a u, H a = some u → G' a = G a) → H' p = some o' → ObjD P w K G' p o' d1 → DenT P w K G' v d → Q v H'
/-- the statements of such a def -/
def tZ (O : List Nat) (Z : Xf) : TS := fun D σ H => ∃ B G0 G ρ d d1 p, Rel P w K B G0 O ρ σ H G ∧ B.pin = some p ∧ Z ρ = some (d, [some d1]) ∧
  ∀ v H' G' o', (∀ a u, B a = some u → H' a = some u) → (∀ a u, G0 a = some u → G' a = some u) → (∀ a u, G' a = some u → H' a = some u) → (∀ a u, B a = some u → G' a = G0 a) → H' p = some o' → G' p = none → ObjD P w K G' p o' d1 → DenT P w K G' v d → D.rt v H'
end
abbrev DX (X : Cx) (O : List Nat) (e : Expr) (f : Xf) : Prop := PE X e (tX X.prog X.w X.K O f)
abbrev DXA (X : Cx) (O : List Nat) (es : List Expr) (f : XAf) : Prop := PA X es (tXA X.prog X.w X.K O f)
abbrev DXT (X : Cx) (O : List Nat) (e : Expr) (f : XTf) : Prop := PT X e (tXT X.prog X.w X.K O f)
abbrev DZs (X : Cx) (O : List Nat) (sts : List Stmt) (Z : Xf) : Prop := PSs X sts (tZ X.prog X.w X.K O Z)

section
variable {P : Program} {w : World} {K : PySem.W.Frag} {B : Bs} {G0 G G' H H' : Hp} {O : List Nat} {σ : L2.St} {ρ ρ' : Sl}
theorem XStp.of (r : Rel P w K B G0 O ρ σ H G) (s : Stp H G H' G') : XStp P w K B G0 O σ ρ H G ρ H' G' := ⟨s.gg, r.stp s, fun i d e => ⟨d, e⟩, fun a o e _ => ⟨s.hh a o e, s.old a o e⟩⟩
theorem XStp.trans {ρ1 ρ2 : Sl} {H1 G1 H2 G2 : Hp} (a : XStp P w K B G0 O σ ρ H G ρ1 H1 G1) (b : XStp P w K B G0 O σ ρ1 H1 G1 ρ2 H2 G2) : XStp P w K B G0 O σ ρ H G ρ2 H2 G2 :=
  ⟨fun p o e => b.gg p o (a.gg p o e), b.rel, fun i d e => let ⟨d1, e1⟩ := b.dom i d e; a.dom i d1 e1, fun p o e hn => by
    obtain ⟨h1, g1⟩ := a.frame p o e hn
    obtain ⟨h2, g2⟩ := b.frame p o h1 fun i d hi e2 => let ⟨d1, e1⟩ := a.dom i d e2; hn i d1 hi e1
    exact ⟨h2, g2.trans g1⟩⟩
theorem XStp.stp {ρ1 : Sl} {H1 G1 H2 G2 : Hp} (a : XStp P w K B G0 O σ ρ H G ρ1 H1 G1) (s : Stp H1 G1 H2 G2) : XStp P w K B G0 O σ ρ H G ρ1 H2 G2 := a.trans (.of a.rel s)
/-- the object of an owning slot was changed by a call -/
theorem Rel.eff {i : Nat} {p : Addr} {o o' : HO} {d d' : D} (r : Rel P w K B G0 O ρ σ H G) (hi : i ∈ O) (e1 : ρ[i]? = some (some d)) (e2 : σ[i]? = some (some (V.ref p))) (hp : H p = some o) (gp : G p = none)
    (hh : ∀ a u, a ≠ p → H a = some u → H' a = some u) (gg : ∀ a u, G a = some u → G' a = some u) (gh : ∀ a u, G' a = some u → H' a = some u) (old : ∀ a u, H a = some u → G' a = G a) (hp' : H' p = some o') (q : ObjD P w K G' p o' d') : XStp P w K B G0 O σ ρ H G (ρ.set i (some d')) H' G' := by
  have gp' : G' p = none := (old p o hp).trans gp
  have s : Stp H G (upd H' p o) G' := ⟨fun a u e => by
      by_cases z : a = p
      · subst z; rw [upd_same]; rw [hp] at e; exact e
      · rw [upd_ne z]; exact hh a u z e, gg, fun a u e => by
      rw [upd_ne (ne_of_none e gp')]; exact gh a u e, old⟩
  have r1 := (r.stp s).mut (o := o') (d' := d') hi e1 e2 q
  have eH : upd (upd H' p o) p o' = H' := by
    funext a
    by_cases z : a = p
    · subst z; rw [upd_same]; exact hp'.symm
    · rw [upd_ne z, upd_ne z]
  rw [eH] at r1
  refine ⟨gg, r1, fun j x h => ?_, fun a u e hn => ?_⟩
  · rcases get_set_some h with ⟨rfl, rfl⟩ | ⟨_, h'⟩
    · exact ⟨_, e1⟩
    · exact ⟨_, h'⟩
  · have na : a ≠ p := fun z => hn i d hi e1 (by rw [e2, z])
    exact ⟨hh a u na e, old a u e⟩
end

def xD (f : Ef) : Xf := fun ρ => match f ρ with
  | none => none
  | some d => some (d, ρ)
def x2 (F : D → D → Option D) (a b : Xf) : Xf := fun ρ => match a ρ with
  | none => none
  | some (d, ρ1) => match b ρ1 with
    | none => none
    | some (e, ρ2) => match F d e with
      | none => none
      | some r => some (r, ρ2)
def xNil : XAf := fun ρ => some ([], ρ)
def xCons (a : Xf) (r : XAf) : XAf := fun ρ => match a ρ with
  | none => none
  | some (d, ρ1) => match r ρ1 with
    | none => none
    | some (ds, ρ2) => some (d :: ds, ρ2)
def xSeq (mk : List D → D) (a : XAf) : Xf := fun ρ => match a ρ with
  | none => none
  | some (ds, ρ1) => if okSeq ds = true then some (mk ds, ρ1) else none
def xCall (i : Nat) (Φ : D → List D → Option (D × D)) (a : Af) : Xf := fun ρ => match eVar i ρ with
  | none => none
  | some d0 => match a ρ with
    | none => none
    | some ds => match Φ d0 ds with
      | none => none
      | some (d, d1) => some (d, ρ.set i (some d1))
/-- a built-in over such arguments -/
def xFn (F : List D → Option D) (a : XAf) : Xf := fun ρ => match a ρ with
  | none => none
  | some (ds, ρ1) => match F ds with
    | none => none
    | some d => some (d, ρ1)
def xB (f : Xf) : XTf := fun ρ => match f ρ with
  | some (.bool b, ρ1) => some (b, ρ1)
  | _ => none
def xNot (f : XTf) : XTf := fun ρ => match f ρ with
  | none => none
  | some (b, ρ1) => some (!b, ρ1)
def xT (f : Tf) : XTf := fun ρ => match f ρ with
  | none => none
  | some b => some (b, ρ)
section
variable {X : Cx} {O vs : List Nat} {a b e : Expr} {es : List Expr} {f g : Ef} {xf xg : Xf} {xs : XAf} {fs : Af} {pos pos' p1 p2 p3 : Pos} {x y : Str} {tg : Expr}
theorem dx_of (h : DE X O e f) : DX X O e (xD f) := pe_wk h fun σ H Q ⟨B, G0, G, ρ, d, ρ', r, hf, q⟩ => by
  unfold xD at hf
  split at hf
  · cases hf
  · rename_i d' hx
    cases hf
    exact ⟨B, G0, G, ρ, _, r, hx, fun v H1 G1 s z => q v H1 G1 (.of r s) z⟩
theorem dxt_of {c : Tf} (h : DT X O e c) : DXT X O e (xT c) := pt_wk h fun σ H Q ⟨B, G0, G, ρ, d, ρ', r, hf, q⟩ => by
  unfold xT at hf
  split at hf
  · cases hf
  · rename_i d' hx
    cases hf
    exact ⟨B, G0, G, ρ, _, r, hx, fun H1 G1 s => q H1 G1 (.of r s)⟩
theorem dx_op {op : Operator} {F : D → D → Option D} (ho : OpR X (binaryOp op) (r2 X.prog X.w X.K F)) (ha : DX X O a xf) (hb : DX X O b xg) : DX X O (.BinOp a op b pos) (x2 F xf xg) := by
  refine pe_wk (pe_op ho ha hb) fun σ H Q ⟨B, G0, G, ρ, d, ρ', r, hf, q⟩ => ?_
  unfold x2 at hf
  split at hf
  · cases hf
  rename_i d1 ρ1 h1
  split at hf
  · cases hf
  rename_i d2 ρ2 h2
  split at hf
  · cases hf
  rename_i res hF
  cases hf
  exact ⟨B, G0, G, ρ, d1, ρ1, r, h1, fun v H1 G1 s1 z1 => ⟨B, G0, G1, ρ1, d2, ρ', s1.rel, h2, fun u H2 G2 s2 z2 => ⟨G2, d1, d2, d, s2.rel.gh, .inl (z1.up s2.gg), .inl z2, hF, fun v' H' G' s3 z3 => q v' H' G' ((s1.trans s2).stp s3) z3⟩⟩⟩
theorem dx_cmp {op : CmpOp} {F : D → D → Option D} (ho : OpR X (compareOp op) (r2 X.prog X.w X.K F)) (ha : DX X O a xf) (hb : DX X O b xg) (hm : behindInMarks op b = false := by first | exact nobehind _ (by decide) (by decide) | rfl) : DX X O (.Compare a [op] [b] pos) (x2 F xf xg) := by
  refine pe_wk (pe_cmpR ho ha hb hm) fun σ H Q ⟨B, G0, G, ρ, d, ρ', r, hf, q⟩ => ?_
  unfold x2 at hf
  split at hf
  · cases hf
  rename_i d1 ρ1 h1
  split at hf
  · cases hf
  rename_i d2 ρ2 h2
  split at hf
  · cases hf
  rename_i res hF
  cases hf
  exact ⟨B, G0, G, ρ, d1, ρ1, r, h1, fun v H1 G1 s1 z1 => ⟨B, G0, G1, ρ1, d2, ρ', s1.rel, h2, fun u H2 G2 s2 z2 => ⟨G2, d1, d2, d, s2.rel.gh, .inl (z1.up s2.gg), .inl z2, hF, fun v' H' G' s3 z3 => q v' H' G' ((s1.trans s2).stp s3) z3⟩⟩⟩
theorem dxt_val (h : DX X O e xf) (he : ∀ whole, isTrue e X.env whole = (do let v ← whole; standAt e.pos; holding [v] (truthy v)) := by intro _; rfl) : DXT X O e (xB xf) := by
  refine pt_wk (pt_val h he) fun σ H Q ⟨B, G0, G, ρ, d, ρ', r, hf, q⟩ => ?_
  unfold xB at hf
  split at hf
  · rename_i bb ρ1 hx
    cases hf
    exact ⟨B, G0, G, ρ, _, _, r, hx, fun v H1 G1 s1 z1 => ⟨d, ObsT.bl (H := H1) (.inl z1), q H1 G1 s1⟩⟩
  · cases hf
theorem dxt_not {c : XTf} (h : DXT X O a c) : DXT X O (.UnaryOp .Not a pos) (xNot c) := by
  refine pt_wk (pt_not h) fun σ H Q ⟨B, G0, G, ρ, d, ρ', r, hf, q⟩ => ?_
  unfold xNot at hf
  split at hf
  · cases hf
  · rename_i bb ρ1 hx
    cases hf
    exact ⟨B, G0, G, ρ, _, _, r, hx, fun H1 G1 s1 => q H1 G1 s1⟩
theorem dxa_nil : DXA X O [] xNil := pa_wk pa_nil fun σ H Q ⟨B, G0, G, ρ, d, ρ', r, hf, q⟩ => by
  cases hf; exact q [] H G (.of r (Stp.refl r.gh)) .nil
theorem dxa_cons (ha : DX X O e xf) (hr : DXA X O es xs) (hs : starEach (e :: es) X.env = (false, eval e X.env) :: starEach es X.env := by rfl) : DXA X O (e :: es) (xCons xf xs) := by
  refine pa_wk (pa_cons ha hr hs) fun σ H Q ⟨B, G0, G, ρ, d, ρ', r, hf, q⟩ => ?_
  unfold xCons at hf
  split at hf
  · cases hf
  rename_i d1 ρ1 h1
  split at hf
  · cases hf
  rename_i ds ρ2 h2
  cases hf
  exact ⟨B, G0, G, ρ, d1, ρ1, r, h1, fun v H1 G1 s1 z1 => ⟨B, G0, G1, ρ1, ds, ρ', s1.rel, h2, fun u H2 G2 s2 z2 => q _ H2 G2 (s1.trans s2) (.cons (z1.up s2.gg) z2)⟩⟩
theorem xSeq_some {mk : List D → D} {ρ ρ' : Sl} {d : D} (h : xSeq mk xs ρ = some (d, ρ')) : ∃ ds, xs ρ = some (ds, ρ') ∧ okSeq ds = true ∧ d = mk ds := by
  unfold xSeq at h
  split at h
  · cases h
  · rename_i ds ρ1 hx
    split at h
    · rename_i hk; cases h; exact ⟨ds, hx, hk, rfl⟩
    · cases h
theorem dx_tup {x1} (h : DXA X O es xs) : DX X O (.Tuple es x1 pos) (xSeq .tuple xs) := by
  refine pe_wk (pe_tupF h) fun σ H Q ⟨B, G0, G, ρ, d, ρ', r, hf, q⟩ => ?_
  obtain ⟨ds, hx, hk, rfl⟩ := xSeq_some hf
  refine ⟨B, G0, G, ρ, ds, ρ', r, hx, fun vs H1 G1 s1 z => ⟨by rw [paired_len z]; exact okSeq_2 hk, fun p o ho hp => ?_⟩⟩
  exact q _ _ _ (s1.stp (Stp.frz s1.rel.gh hp)) (.tup upd_same ho (dpa_up (den_all z (okSeq_1 hk)) (up_g s1.rel.gh hp)))
theorem dx_lst (h : DXA X O es xs) : DX X O (.List es pos) (xSeq .list xs) := by
  refine pe_wk (pe_lst h) fun σ H Q ⟨B, G0, G, ρ, d, ρ', r, hf, q⟩ => ?_
  obtain ⟨ds, hx, hk, rfl⟩ := xSeq_some hf
  refine ⟨B, G0, G, ρ, ds, ρ', r, hx, fun vs H1 G1 s1 z => ⟨by rw [paired_len z]; exact okSeq_2 hk, fun p hp => ?_⟩⟩
  exact q _ _ _ (s1.stp (Stp.frz s1.rel.gh hp)) (.lst upd_same (dpa_up (den_all z (okSeq_1 hk)) (up_g s1.rel.gh hp)))
theorem obsAll_den {P : Program} {w : World} {K : PySem.W.Frag} : ∀ {vs : List V} {ds : List D}, Paired (DenT P w K G) vs ds → ObsAll P w K H G vs ds
  | _, _, .nil => .nil
  | _, _, .cons h t => .cons (.inl h) (obsAll_den t)
theorem dx_bi {id : String} {p : Pos} {F : List D → Option D} (hc : CallR X (.builtin id) (rFn X.prog X.w X.K F)) (hg : Gl X x) (hm : X.mg x = none) (hv : bootBuiltins x = some (.builtin id)) (ha : DXA X O (e :: es) xs) (hn : x ≠ "__name__" := by decide) (hdb : (x == ("__debug__" : Str)) = false := by decide)
    (he : starEach (e :: es) X.env = (false, eval e X.env) :: starEach es X.env := by rfl) (hpl : (backTo pos (starEach es X.env)).any (·.1) = false := by rfl) : DX X O (.Call (.Name x p) (e :: es) [] pos) (xFn F xs) := by
  refine pe_wk (pe_callB hc hg hm hv ha hn hdb he hpl) fun σ H Q ⟨B, G0, G, ρ, d, ρ', r, hf, q⟩ => ?_
  unfold xFn at hf
  split at hf
  · cases hf
  rename_i ds ρ1 hx
  split at hf
  · cases hf
  rename_i d1 hF
  cases hf
  exact ⟨B, G0, G, ρ, ds, ρ', r, hx, fun vs H1 G1 s1 z => ⟨G1, ds, d, s1.rel.gh, obsAll_den z, hF, fun v H' G' s2 z2 => q v H' G' (s1.stp s2) z2⟩⟩
theorem dx_ty {T : String} {p : Pos} {F : List D → Option D} (hc : CallR X (.type T) (rFn X.prog X.w X.K F)) (hg : Gl X x) (hm : X.mg x = none) (hv : bootBuiltins x = some (.type T)) (ha : DXA X O (e :: es) xs) (hn : x ≠ "__name__" := by decide) (hdb : (x == ("__debug__" : Str)) = false := by decide)
    (he : starEach (e :: es) X.env = (false, eval e X.env) :: starEach es X.env := by rfl) (hpl : (backTo pos (starEach es X.env)).any (·.1) = false := by rfl) : DX X O (.Call (.Name x p) (e :: es) [] pos) (xFn F xs) := by
  refine pe_wk (pe_callTy hc hg hm hv ha hn hdb he hpl) fun σ H Q ⟨B, G0, G, ρ, d, ρ', r, hf, q⟩ => ?_
  unfold xFn at hf
  split at hf
  · cases hf
  rename_i ds ρ1 hx
  split at hf
  · cases hf
  rename_i d1 hF
  cases hf
  exact ⟨B, G0, G, ρ, ds, ρ', r, hx, fun vs H1 G1 s1 z => ⟨G1, ds, d, s1.rel.gh, obsAll_den z, hF, fun v H' G' s2 z2 => q v H' G' (s1.stp s2) z2⟩⟩
/-- a def of the text that changes its first argument -/
theorem dx_call {k : Nat} {fa : Addr} {fd : FuncData} {ps : List Str} {Φ : D → List D → Option (D × D)} {p : Pos} (i : Nat) (F : FnOk X.prog X.w X.K X.mg X.base CX0 k fa fd ps (spE X.prog X.w X.K Φ)) (hr : Room k X.A) (hg : Gl X x) (hm : X.mg x = some (.ref fa)) (hk : PySem.W.keepIn X.K (.ref fa) = true) (hb : Binds X.K fd ps [])
    (ha : DA X O es fs) (hO : i ∈ O := by decide) (hN : X.N[i]? = some y := by rfl) (hv : Vis X.env.scope y := by first | exact Or.inl rfl | exact Or.inr (Or.inl rfl) | exact Or.inr (Or.inr rfl)) (hd : (y == ("__debug__" : Str)) = false := by decide) (hcd : (y == ("__classdict__" : Str)) = false := by decide)
    (hdb : (x == ("__debug__" : Str)) = false := by decide) (he : starEach (.Name y p1 :: es) X.env = (false, eval (.Name y p1) X.env) :: starEach es X.env := by rfl) (hpl : (backTo pos (starEach es X.env)).any (·.1) = false := by rfl) :
    DX X O (.Call (.Name x p) (.Name y p1 :: es) [] pos) (xCall i Φ fs) := by
  refine pe_wk (pe_call F hr hg hm hk hb .nil pass0 (pa_cons (pe_var hN hv hd hcd) ha he) hdb he hpl) fun σ H Q ⟨B, G0, G, ρ, d, ρ', r, hf, q⟩ => ?_
  unfold xCall at hf
  split at hf
  · cases hf
  rename_i d0 h0
  split at hf
  · cases hf
  rename_i ds hx
  split at hf
  · cases hf
  rename_i res d1 hF
  cases hf
  obtain ⟨pa, o, e1, h1, g1, b1, hob⟩ := r.own i d0 (getD_some h0) hO
  refine ⟨_, e1, B, G0, G, ρ, ds, r, hx, fun vs H1 G1 s1 z => ?_⟩
  show spE X.prog X.w X.K Φ ((V.ref pa :: vs) ++ []) H1 Q E0
  rw [List.append_nil]
  have gp : G1 pa = none := (s1.old _ _ h1).trans g1
  exact ⟨G1, pa, o, vs, d0, ds, d, d1, rfl, s1.gh, s1.hh _ _ h1, gp, hob.up s1.gg, z, hF, fun v H' G' o' c1 c2 c3 c4 c5 c6 z2 => q v H' G' ((XStp.of r s1).trans ((r.stp s1).eff hO (getD_some h0) e1 (s1.hh _ _ h1) gp c1 c2 c3 c4 c5 c6)) z2⟩
end

/-! ### statements -/
def sSetX (i : Nat) (f : Xf) : Sf := fun ρ => match f ρ with
  | none => none
  | some (d, ρ1) => some (.nx (ρ1.set i (some d)))
def sAsgX (f : Xf) (t : Gf) : Sf := fun ρ => match f ρ with
  | none => none
  | some (d, ρ1) => match t d ρ1 with
    | none => none
    | some ρ2 => some (.nx ρ2)
def sIfX (c : XTf) (a b : Sf) : Sf := fun ρ => match c ρ with
  | none => none
  | some (true, ρ1) => a ρ1
  | some (false, ρ1) => b ρ1
section
variable {X : Cx} {O O' O1 Oo vs : List Nat} {a b e : Expr} {es : List Expr} {f g : Ef} {xf xg : Xf} {xs : XAf} {fs : Af} {pos pos' p1 p2 p3 : Pos} {x y : Str} {tg : Expr} {st : Stmt} {sts sb : List Stmt} {F F' : Sf} {Z : Xf}
theorem ds_setX (i : Nat) (hN : X.N.Nodup) (he : DX X O e xf) (hO : i ∉ O := by decide) (hi : X.N[i]? = some x := by rfl) (hx : Loc X.env.scope x := by first | exact Or.inl rfl | exact Or.inr rfl)
    (hs : swapsWith e (some (.Name x pos')) pos.line X.env = pure false := by rfl) (hf : X.fn x = true ∨ X.env.scope.names.lookup x = some .local := by first | exact .inl rfl | exact .inr rfl | assumption) : DS X O O (.Assign [.Name x pos'] e pos) (sSetX i xf) :=
  ps_wk (ps_set hN hi hx he hs hf) fun D σ H ⟨B, G0, G, ρ, out, r, hf, q⟩ => by
    unfold sSetX at hf
    split at hf
    · cases hf
    · rename_i d ρ1 hx
      cases hf
      exact ⟨B, G0, G, ρ, d, ρ1, r, hx, fun v H1 G1 s1 z => q _ _ _ (s1.rel.set hO z)⟩
theorem ds_asgX {t : Gf} (he : DX X O e xf) (ht : DG X O vs tg t) (hs : swapsWithSole [tg] e pos.line X.env = pure false := by rfl) (hw : swappedStores [tg] e X.env = pure none := by rfl)
    (h1 : (assignEach [tg] X.env).map (·.2) = [assign tg X.env] := by rfl) : DS X O O (.Assign [tg] e pos) (sAsgX xf t) :=
  ps_wk (ps_asg he ht hs hw h1) fun D σ H ⟨B, G0, G, ρ, out, r, hf, q⟩ => by
    unfold sAsgX at hf
    split at hf
    · cases hf
    · rename_i d ρ1 hx
      split at hf
      · cases hf
      · rename_i ρ2 h1
        cases hf
        exact ⟨B, G0, G, ρ, d, ρ1, r, hx, fun v H1 G1 s1 z => ⟨B, G0, G1, ρ1, d, ρ2, s1.rel, z, h1, fun σ' r' _ => q _ _ _ r'⟩⟩
theorem ds_ifX {t : XTf} (hc : DXT X O a t) (ha : DSs X O Oo sts F) (hb : DSs X O Oo sb F') : DS X O Oo (.If a sts sb pos) (sIfX t F F') := ps_wk (ps_if hc ha hb) fun D σ H ⟨B, G0, G, ρ, out, r, hf, q⟩ => by
  unfold sIfX at hf
  split at hf
  · cases hf
  · rename_i ρ1 hx
    exact ⟨B, G0, G, ρ, _, ρ1, r, hx, fun H1 G1 s1 => iteT ⟨B, G0, G1, ρ1, out, s1.rel, hf, q⟩⟩
  · rename_i ρ1 hx
    exact ⟨B, G0, G, ρ, _, ρ1, r, hx, fun H1 G1 s1 => iteF ⟨B, G0, G1, ρ1, out, s1.rel, hf, q⟩⟩

/-! ### the body of a def that changes its first argument -/
def zSeq (F : Sf) (Z : Xf) : Xf := fun ρ => match F ρ with
  | some (.nx ρ1) => Z ρ1
  | _ => none
def simpleD : D → Bool
  | .int _ => true
  | .bool _ => true
  | .none => true
  | .str _ => true
  | _ => false
def zEnd (F : Sf) : Xf := fun ρ => match eVar 0 ρ with
  | some (.dict kvs) => match F ρ with
    | some (.rt d) => if simpleD d = true then some (d, [some (.dict kvs)]) else none
    | _ => none
  | _ => none
theorem simple_den {P : Program} {w : World} {K : PySem.W.Frag} {G G' : Hp} {v : V} {d : D} (h : DenT P w K G v d) (hs : simpleD d = true) : DenT P w K G' v d := by
  cases d with
  | int i => obtain rfl := ObsT.int (H := G) (.inl h); exact .int i
  | bool i => obtain rfl := ObsT.bl (H := G) (.inl h); exact .bl i
  | none => obtain rfl := ObsT.non (H := G) (.inl h); exact .non
  | str i => obtain rfl := ObsT.str (H := G) (.inl h); exact .str i
  | list _ => cases hs
  | tuple _ => cases hs
  | dict _ => cases hs
theorem dz_cons (h1 : DS X O O1 st F) (h2 : DZs X O1 sts Z) : DZs X O (st :: sts) (zSeq F Z) := pss_wk (pss_cons h1 h2) fun D σ H ⟨B, G0, G, ρ, d, d1, p, r, hpin, hf, q⟩ => by
  unfold zSeq at hf
  split at hf
  · rename_i ρ1 h1
    exact ⟨B, G0, G, ρ, _, r, h1, fun σ' H' G' r' => ⟨B, G0, G', ρ1, d, d1, p, r', hpin, hf, q⟩⟩
  · cases hf
theorem dz_end (h : DSs X O' Oo sts F) (h0 : 0 ∈ O := by decide) (h1 : 0 ∉ O' := by decide) (h2 : ∀ j, j ∈ O' → j ∈ O := by decide) : DZs X O sts (zEnd F) := pss_wk h fun D σ H ⟨B, G0, G, ρ, d, d1, p, r, hpin, hf, q⟩ => by
  unfold zEnd at hf
  split at hf
  case h_2 => cases hf
  rename_i kvs e0
  split at hf
  case h_2 => cases hf
  rename_i d' hF
  split at hf
  case isFalse => cases hf
  rename_i hs
  cases hf
  obtain ⟨p', o, e1, hp, gp, bp, hob⟩ := r.own 0 (.dict kvs) (getD_some e0) h0
  have e1' := r.pin p (.dict kvs) hpin h0 (getD_some e0)
  rw [e1] at e1'
  cases e1'
  obtain ⟨G1, g1, r1⟩ := r.frz h2
  have hp1 : G1 p = some o := by
    obtain ⟨v, e2, z⟩ := r1.val 0 (.dict kvs) (getD_some e0) h1
    rw [e1] at e2
    cases e2
    rcases z with z | ⟨a, u, ea, hu, _⟩
    · cases z
    · cases ea
      have := r1.gh _ _ hu
      rw [hp] at this
      cases this
      exact hu
  refine ⟨B, G1, G1, ρ, _, r1.base, hF, fun v H' G' c1 c2 c3 c4 z => ?_⟩
  have gG : ∀ a u, G a = some u → H' a = some u := fun a u e => c3 a u (c2 a u (g1 a u e))
  refine q v H' G o c1 r.gg gG r.bg (c3 _ _ (c2 _ _ hp1)) gp hob (simple_den z hs)
end
end DL
namespace DL
open PySem PySem.Spec PyProof.Rows L2

/-! ### comprehensions whose parts change what a slot owns -/
def lcGoX (vs : List Nat) (j : Nat) (c : XTf) (el : Xf) : Sl → List D → Option (List D × Sl)
  | ρ, [] => some ([], ρ)
  | ρ, d :: ds => match c (ρ.set j (some d)) with
    | none => none
    | some (false, ρ2) => lcGoX vs j c el (wipeD ρ2 vs) ds
    | some (true, ρ2) => match el ρ2 with
      | none => none
      | some (x, ρ3) => if flatD x = true then (match lcGoX vs j c el (wipeD ρ3 vs) ds with
        | none => none
        | some (r, ρ4) => some (x :: r, ρ4)) else none
/-- what stood in the slots of a comprehension before -/
def keepD (ρ0 ρ1 : Sl) : List Nat → Sl
  | [] => ρ1
  | v :: vs => (keepD ρ0 ρ1 vs).set v (ρ0.getD v none)
def xLc (vs : List Nat) (it : XAf) (j : Nat) (c : XTf) (el : Xf) : Xf := fun ρ => match it ρ with
  | none => none
  | some (ds, ρ0) => match lcGoX vs j c el (wipeD ρ0 vs) ds with
    | none => none
    | some (r, ρ1) => if r.length ≤ 16777216 then some (.list r, keepD ρ0 ρ1 vs) else none
abbrev DXTs (X : Cx) (O : List Nat) (ifs : List Expr) (c : XTf) : Prop := PTs X ifs (tXT X.prog X.w X.K O c)
abbrev HXT (X : Cx) (scope : Scope) (O : List Nat) (ifs : List Expr) (c : XTf) : Prop := ∀ (s : Shared) (H : Hp) (C : Addr) (cl : List (Str × Addr)) (fp : List Addr), DXTs (X.blk s H scope (compEnvC scope cl C X.env) fp) O ifs c
abbrev HX (X : Cx) (scope : Scope) (O : List Nat) (e : Expr) (f : Xf) : Prop := ∀ (s : Shared) (H : Hp) (C : Addr) (cl : List (Str × Addr)) (fp : List Addr), DX (X.blk s H scope (compEnvC scope cl C X.env) fp) O e f
section
variable {X : Cx} {O vs : List Nat} {c : XTf}
theorem dxts_nil : DXTs X O [] (xT cYes) := ⟨fun pins s σ H Q I ⟨B, G0, G, ρ, b, ρ', r, hf, q⟩ => by
  cases hf
  exact pts_nil.run pins s σ H Q I (q H G (.of r (Stp.refl r.gh)))⟩
theorem dxts_one {e : Expr} (h : DXT X O e c) : DXTs X O [e] c := pts_one h
theorem wipeD_get (ρ : Sl) (i : Nat) : ∀ vs : List Nat, (wipeD ρ vs)[i]? = if i ∈ vs then (ρ[i]?).map (fun _ => none) else ρ[i]?
  | [] => by simp [wipeD]
  | v :: vs => by
    unfold wipeD
    by_cases e : v = i
    · subst e
      rw [if_pos List.mem_cons_self, List.getElem?_set_self', wipeD_get ρ v vs]
      by_cases h : v ∈ vs
      · rw [if_pos h]; cases ρ[v]? <;> rfl
      · rw [if_neg h]; cases ρ[v]? <;> rfl
    · rw [List.getElem?_set_ne e, wipeD_get ρ i vs]
      by_cases h : i ∈ vs
      · rw [if_pos h, if_pos (List.mem_cons_of_mem _ h)]
      · rw [if_neg h, if_neg]
        intro z
        rcases List.mem_cons.mp z with z | z
        · exact e z.symm
        · exact h z
theorem wipeD_some {ρ : Sl} {i : Nat} {d : D} {vs : List Nat} (h : (wipeD ρ vs)[i]? = some (some d)) : i ∉ vs ∧ ρ[i]? = some (some d) := by
  rw [wipeD_get] at h
  by_cases hv : i ∈ vs
  · rw [if_pos hv] at h
    cases e : ρ[i]? with
    | none => rw [e] at h; cases h
    | some x => rw [e] at h; cases h
  · rw [if_neg hv] at h; exact ⟨hv, h⟩
theorem keepD_some {ρ0 ρ1 : Sl} {i : Nat} {d : D} : ∀ {vs : List Nat}, (keepD ρ0 ρ1 vs)[i]? = some (some d) → (i ∈ vs ∧ ρ0[i]? = some (some d)) ∨ (i ∉ vs ∧ ρ1[i]? = some (some d))
  | [], h => .inr ⟨List.not_mem_nil, h⟩
  | v :: vs, h => by
    unfold keepD at h
    by_cases e : v = i
    · subst e
      rw [List.getElem?_set_self'] at h
      cases q : (keepD ρ0 ρ1 vs)[v]? with
      | none => rw [q] at h; cases h
      | some x =>
        rw [q] at h
        have : ρ0.getD v none = some d := Option.some.inj h
        exact .inl ⟨List.mem_cons_self, getD_some this⟩
    · rw [List.getElem?_set_ne e] at h
      rcases keepD_some h with ⟨a, b⟩ | ⟨a, b⟩
      · exact .inl ⟨List.mem_cons_of_mem _ a, b⟩
      · refine .inr ⟨fun z => ?_, b⟩
        rcases List.mem_cons.mp z with z | z
        · exact e z.symm
        · exact a z
theorem keepD_len {ρ0 ρ1 : Sl} : ∀ {vs : List Nat}, (keepD ρ0 ρ1 vs).length = ρ1.length
  | [] => rfl
  | v :: vs => by unfold keepD; rw [List.length_set]; exact keepD_len
theorem wipe_len {σ : L2.St} : ∀ {vs : List Nat}, (wipe σ vs).length = σ.length
  | [] => rfl
  | v :: vs => by unfold wipe; rw [List.length_set]; exact wipe_len
end
section
variable {P : Program} {w : World} {K : PySem.W.Frag} {B : Bs} {G0 G G' G1 H H' H1 : Hp} {O vs : List Nat} {σ : L2.St} {ρ ρ' ρ0 ρ1 : Sl}
theorem XStp.unhide (hO : ∀ i ∈ vs, i ∉ O) (r : Rel P w K B G0 O ρ0 σ H G) (x : XStp P w K B G0 O (wipe σ vs) (wipeD ρ0 vs) H G ρ1 H' G') : XStp P w K B G0 O σ ρ0 H G (keepD ρ0 ρ1 vs) H' G' := by
  have sg : ∀ i, i ∉ vs → (wipe σ vs)[i]? = σ[i]? := fun i h => by rw [wipe_get, if_neg h]
  have q := x.rel
  refine ⟨x.gg, ⟨?_, q.bh, q.gh, q.gg, q.bg, fun i d h n => ?_, fun i d h n => ?_, fun i j p d e hi hj s1 s2 r1 r2 => ?_, fun p d hp h0 e => ?_⟩, fun i d h => ?_, fun a o e hn => ?_⟩
  · rw [keepD_len, ← q.len, wipe_len]
  · rcases keepD_some h with ⟨hv, h'⟩ | ⟨hv, h'⟩
    · obtain ⟨v, e1, z⟩ := r.val i d h' n
      exact ⟨v, e1, z.up x.gg⟩
    · obtain ⟨v, e1, z⟩ := q.val i d h' n
      rw [sg i hv] at e1
      exact ⟨v, e1, z⟩
  · rcases keepD_some h with ⟨hv, h'⟩ | ⟨hv, h'⟩
    · exact absurd n (hO i hv)
    · obtain ⟨p, o, e1, z⟩ := q.own i d h' n
      rw [sg i hv] at e1
      exact ⟨p, o, e1, z⟩
  · rcases keepD_some r1 with ⟨hv, h'⟩ | ⟨hv, h'⟩
    · exact absurd hi (hO i hv)
    · rcases keepD_some r2 with ⟨hv2, h2'⟩ | ⟨hv2, h2'⟩
      · exact absurd hj (hO j hv2)
      · exact q.sep i j p d e hi hj (by rw [sg i hv]; exact s1) (by rw [sg j hv2]; exact s2) h' h2'
  · rcases keepD_some e with ⟨hv, h'⟩ | ⟨hv, h'⟩
    · exact absurd h0 (hO 0 hv)
    · have := q.pin p d hp h0 h'
      rw [sg 0 hv] at this
      exact this
  · rcases keepD_some h with ⟨hv, h'⟩ | ⟨hv, h'⟩
    · exact ⟨d, h'⟩
    · obtain ⟨d', e⟩ := x.dom i d h'
      exact ⟨d', (wipeD_some e).2⟩
  · exact x.frame a o e fun i d hi hd => by
      obtain ⟨hv, h'⟩ := wipeD_some hd
      rw [sg i hv]
      exact hn i d hi h'
theorem XStp.hide {σ2 : L2.St} {j : Nat} {d0 : D} (hO : ∀ i ∈ vs, i ∉ O) (hj : j ∈ vs) (hw : wipe σ2 vs = wipe σ vs) (x : XStp P w K B G0 O σ2 (ρ.set j (some d0)) H G ρ1 H' G') : XStp P w K B G0 O (wipe σ vs) ρ H G (wipeD ρ1 vs) H' G' := by
  have sg : ∀ i, i ∉ vs → σ2[i]? = (wipe σ vs)[i]? := fun i h => by rw [← hw, wipe_get, if_neg h]
  refine ⟨x.gg, by rw [← hw]; exact x.rel.wipe vs, fun i d h => ?_, fun a o e hn => ?_⟩
  · obtain ⟨hv, h'⟩ := wipeD_some h
    obtain ⟨d', e⟩ := x.dom i d h'
    rw [List.getElem?_set_ne (fun z : j = i => hv (z ▸ hj))] at e
    exact ⟨d', e⟩
  · exact x.frame a o e fun i d hi hd => by
      have hv : i ∉ vs := fun z => hO i z hi
      rw [List.getElem?_set_ne (fun z : j = i => hv (z ▸ hj))] at hd
      rw [sg i hv]
      exact hn i d hi hd
/-- an object that no slot owns and that is not frozen changes -/
theorem XStp.poke {D : Addr} {u : HO} (x : XStp P w K B G0 O σ ρ H G ρ1 H' G') (hD : H D = none) (gD : G' D = none) (nD : ∀ (i : Nat) (d : DL.D), i ∈ O → ρ1[i]? = some (some d) → σ[i]? ≠ some (some (.ref D))) (bD : B D = none) : XStp P w K B G0 O σ ρ H G ρ1 (upd H' D u) G' := by
  have r := x.rel
  refine ⟨x.gg, ⟨r.len, fun a o e => ?_, fun a o e => ?_, r.gg, r.bg, r.val, fun i d h n => ?_, r.sep, r.pin⟩, x.dom, fun a o e hn => ?_⟩
  · rw [upd_ne (ne_of_none e bD)]; exact r.bh a o e
  · rw [upd_ne (ne_of_none e gD)]; exact r.gh a o e
  · obtain ⟨p, o, e1, h1, z⟩ := r.own i d h n
    refine ⟨p, o, e1, ?_, z⟩
    have : p ≠ D := fun y => nD i d n h (by rw [e1, y])
    rw [upd_ne this]; exact h1
  · rw [upd_ne (ne_of_none e hD)]; exact x.frame a o e hn
/-- .. is frozen -/
theorem XStp.seal {D : Addr} {u : HO} (x : XStp P w K B G0 O σ ρ H G ρ1 H' G') (hD : H D = none) (hD' : H' D = some u) (gD : G' D = none) (nD : ∀ (i : Nat) (d : DL.D), i ∈ O → ρ1[i]? = some (some d) → σ[i]? ≠ some (some (.ref D))) (bD : B D = none) : XStp P w K B G0 O σ ρ H G ρ1 H' (upd G' D u) := by
  have r := x.rel
  have g : ∀ a o, G' a = some o → upd G' D u a = some o := fun a o e => by rw [upd_ne (ne_of_none e gD)]; exact e
  refine ⟨fun a o e => g a o (x.gg a o e), ⟨r.len, r.bh, fun a o e => ?_, fun a o e => g a o (r.gg a o e), fun a o e => ?_, fun i d h n => ?_, fun i d h n => ?_, r.sep, r.pin⟩, x.dom, fun a o e hn => ?_⟩
  · by_cases z : a = D
    · subst z; rw [upd_same] at e; cases e; exact hD'
    · rw [upd_ne z] at e; exact r.gh a o e
  · rw [upd_ne (ne_of_none e bD)]; exact r.bg a o e
  · obtain ⟨v, e1, z⟩ := r.val i d h n
    exact ⟨v, e1, z.up g⟩
  · obtain ⟨p, o, e1, h1, g1, b1, z⟩ := r.own i d h n
    have : p ≠ D := fun y => nD i d n h (by rw [e1, y])
    exact ⟨p, o, e1, h1, by rw [upd_ne this]; exact g1, b1, z.up g⟩
  · obtain ⟨h1, g1⟩ := x.frame a o e hn
    exact ⟨h1, by rw [upd_ne (ne_of_none e hD)]; exact g1⟩
end
section
variable {X : Cx} {O vs : List Nat} {elt tg iter : Expr} {ifs : List Expr} {scope : Scope} {own : List (Str × Nat)} {pos : Pos} {it : XAf} {j : Nat} {c : XTf} {el : Xf}
theorem lcx_of (hO : ∀ i ∈ own.map (·.2), i ∉ O) (hj : j ∈ own.map (·.2)) : ∀ σ H Q, tX X.prog X.w X.K O (xLc (own.map (·.2)) it j c el) σ H Q → tLc (tXI X.prog X.w X.K O it) (tG X.prog X.w X.K O (own.map (·.2)) (gNm j)) (tXT X.prog X.w X.K O c) (tX X.prog X.w X.K O el) (own.map (·.2)) σ H Q := fun σ H Q ⟨B, G0, G, ρ, d, ρ', r, hf, q⟩ => by
  unfold xLc at hf
  split at hf
  · cases hf
  rename_i ds ρ0 hx
  split at hf
  · cases hf
  rename_i res ρ1 hr
  split at hf
  case isFalse => cases hf
  rename_i hl
  cases hf
  refine ⟨B, G0, G, ρ, ds, ρ0, r, hx, fun J H1 G1 s1 ⟨Y, W, hY⟩ D hD => ?_⟩
  have bD : B D = none := by
    cases e : B D with
    | none => rfl
    | some o => rw [s1.rel.bh D o e] at hD; cases hD
  have gD1 : G1 D = none := by
    cases e : G1 D with
    | none => rfl
    | some o => rw [s1.rel.gh D o e] at hD; cases hD
  have nD0 : ∀ (i : Nat) (d : DL.D), i ∈ O → ρ0[i]? = some (some d) → σ[i]? ≠ some (some (.ref D)) := fun i d hi e z => by
    obtain ⟨p, o, e1, hp, _⟩ := s1.rel.own i d e hi
    rw [z] at e1
    cases e1
    rw [hD] at hp
    cases hp
  have sg : ∀ i, i ∈ O → (wipe σ (own.map (·.2)))[i]? = σ[i]? := fun i h => by rw [wipe_get, if_neg fun z => hO i z h]
  have nDw : ∀ {ρ2 H2 G2}, XStp X.prog X.w X.K B G0 O (wipe σ (own.map (·.2))) (wipeD ρ0 (own.map (·.2))) H1 G1 ρ2 H2 G2 → ∀ (i : Nat) (d : DL.D), i ∈ O → ρ2[i]? = some (some d) → (wipe σ (own.map (·.2)))[i]? ≠ some (some (.ref D)) := fun x i d hi e => by
    obtain ⟨d', e'⟩ := x.dom i d e
    rw [sg i hi]
    exact nD0 i d' hi (wipeD_some e').2
  have x0 : XStp X.prog X.w X.K B G0 O (wipe σ (own.map (·.2))) (wipeD ρ0 (own.map (·.2))) H1 G1 (wipeD ρ0 (own.map (·.2))) H1 G1 := .of (s1.rel.wipe _) (Stp.refl s1.rel.gh)
  refine lc_it W (fun i H2 => ∃ G2 ρ2 xs acc rest, XStp X.prog X.w X.K B G0 O (wipe σ (own.map (·.2))) (wipeD ρ0 (own.map (·.2))) H1 G1 ρ2 H2 G2 ∧ G2 D = none ∧ H2 D = some (.lst xs) ∧ DqAll X.K G2 xs acc ∧ lcGoX (own.map (·.2)) j c el ρ2 (ds.drop i) = some (rest, ρ1) ∧ acc ++ rest = res)
    ⟨G1, _, [], [], res, x0.poke hD gD1 (nDw x0) bD, gD1, upd_same, .nil, hr, rfl⟩ (fun i H2 _ ⟨G2, ρ2, xs, acc, rest, x, _⟩ a o e => x.rel.gh a o (x.gg a o e)) (fun i x H2 H3 hi ⟨G2, ρ2, xs, acc, rest, x2, g2, e2, z2, hrest, hres⟩ y => ?_) (fun H2 ⟨G2, ρ2, xs, acc, rest, x2, g2, e2, z2, hrest, hres⟩ => ?_)
  · have hd : ds.drop i = ds[i] :: ds.drop (i + 1) := List.drop_eq_getElem_cons hi
    rw [hd, lcGoX] at hrest
    obtain ⟨G3, s3, z⟩ := hY i x H2 H3 G2 ds[i] (List.getElem?_eq_getElem hi) y (fun a o e => x2.rel.gh a o (x2.gg a o e)) x2.gg x2.rel.gh
    have x3 := x2.stp s3
    have e3 : H3 D = some (.lst xs) := s3.hh _ _ e2
    have g3 : G3 D = none := (s3.old D _ e2).trans g2
    refine ⟨B, G0, G3, ρ2, ds[i], _, x3.rel, .inl z, rfl, fun σ2 r2 hw => ⟨hw.trans (wipe_wipe σ _), ?_⟩⟩
    have hw' : wipe σ2 (own.map (·.2)) = wipe σ (own.map (·.2)) := hw.trans (wipe_wipe σ _)
    have fin : ∀ {ρ4 H4 G4}, XStp X.prog X.w X.K B G0 O σ2 (ρ2.set j (some ds[i])) H3 G3 ρ4 H4 G4 → XStp X.prog X.w X.K B G0 O (wipe σ (own.map (·.2))) (wipeD ρ0 (own.map (·.2))) H1 G1 (wipeD ρ4 (own.map (·.2))) H4 G4 ∧ H4 D = some (.lst xs) ∧ G4 D = none := fun x4 => by
      have x4' := x4.hide hO hj hw'
      obtain ⟨h1, h2⟩ := x4'.frame D _ e3 (nDw x3)
      exact ⟨x3.trans x4', h1, h2.trans g3⟩
    split at hrest
    · cases hrest
    · rename_i ρ3 hc
      refine ⟨B, G0, G3, _, _, ρ3, r2, hc, fun H4 G4 x4 => iteF ?_⟩
      obtain ⟨x5, e5, g5⟩ := fin x4
      exact ⟨G4, _, xs, acc, rest, x5, g5, e5, dpa_up z2 fun a o e => x4.gg a o (s3.gg a o e), hrest, hres⟩
    · rename_i ρ3 hc
      refine ⟨B, G0, G3, _, _, ρ3, r2, hc, fun H4 G4 x4 => iteT ?_⟩
      split at hrest
      · cases hrest
      rename_i y' ρ4 hel
      split at hrest
      case isFalse => cases hrest
      rename_i hfl
      split at hrest
      · cases hrest
      rename_i r' ρ5 hr'
      cases hrest
      refine ⟨B, G0, G4, ρ3, y', ρ4, x4.rel, hel, fun v H5 G5 x5 z5 => ?_⟩
      obtain ⟨x6, e6, g6⟩ := fin (x4.trans x5)
      have hdp : Dq X.K G5 v y' := z5.dp fun kvs e => by rw [e] at hfl; cases hfl
      refine ⟨xs, e6, ?_, G5, _, xs ++ [v], acc ++ [y'], r', x6.poke hD g6 (nDw x6) bD, g6, upd_same, dpa_app (dpa_up z2 fun a o e => x5.gg a o (x4.gg a o (s3.gg a o e))) (.cons hdp .nil), hr', by rw [List.append_assoc]; exact hres⟩
      rw [dpa_len z2, sizeLine_eq]
      have : res.length = acc.length + (r'.length + 1) := by rw [← hres, List.length_append, List.length_cons]
      omega
  · rw [List.drop_length, lcGoX] at hrest
    cases hrest
    rw [List.append_nil] at hres
    subst hres
    have x3 := x2.unhide hO s1.rel
    have nD : ∀ (i : Nat) (d : DL.D), i ∈ O → (keepD ρ0 ρ1 (own.map (·.2)))[i]? = some (some d) → σ[i]? ≠ some (some (.ref D)) := fun i d hi e => by
      obtain ⟨d', e'⟩ := x3.dom i d e
      exact nD0 i d' hi e'
    exact q (.ref D) H2 _ (s1.trans (x3.seal hD e2 g2 nD bD)) (.lst upd_same (dpa_up z2 fun a o e => by rw [upd_ne (ne_of_none e g2)]; exact e))
theorem dx_lc (hN : X.N.Nodup) (ok : BlkOk X.N X.env.scope scope own) (hi : PI X tg iter (tXI X.prog X.w X.K O it)) (hg : HG X scope O (own.map (·.2)) tg (gNm j)) (ht : HXT X scope O ifs c) (he : HX X scope O elt el) (hO : ∀ i ∈ own.map (·.2), i ∉ O := by decide) (hj : j ∈ own.map (·.2) := by decide)
    (hc : X.calm = true := by rfl) (hs : ∀ x, foldedSetIterable iter X.env x = pure x := by intro _; rfl) : DX X O (.ListComp elt [⟨tg, iter, ifs, 0⟩] scope pos) (xLc (own.map (·.2)) it j c el) :=
  pe_wk (pe_lc hc hN hi ok hg ht he hs) (lcx_of hO hj)
theorem ds_lcX (i : Nat) {y : Str} {py spos : Pos} (hN : X.N.Nodup) (ok : BlkOk X.N X.env.scope scope own) (hi : PI X tg iter (tXI X.prog X.w X.K O it)) (hg : HG X scope O (own.map (·.2)) tg (gNm j)) (ht : HXT X scope O ifs c) (he : HX X scope O elt el)
    (hsw : swapsWith (.ListComp elt [⟨tg, iter, ifs, 0⟩] scope pos) (some (.Name y py)) spos.line X.env = pure true) (h2 : i ∉ O := by decide) (hO : ∀ i ∈ own.map (·.2), i ∉ O := by decide) (hj : j ∈ own.map (·.2) := by decide)
    (hy : X.N[i]? = some y := by rfl) (hyl : X.env.scope.names.lookup y = some .local := by rfl) (hc : X.calm = true := by rfl) (hs : ∀ x, foldedSetIterable iter X.env x = pure x := by intro _; rfl) : DS X O O (.Assign [.Name y py] (.ListComp elt [⟨tg, iter, ifs, 0⟩] scope pos) spos) (sSetX i (xLc (own.map (·.2)) it j c el)) :=
  ps_wk (ps_setLc hc hN hy hyl hsw hi ok hg ht he hs) fun D σ H ⟨B, G0, G, ρ, out, r, hf, q⟩ => by
    unfold sSetX at hf
    split at hf
    · cases hf
    · rename_i d ρ1 hx
      cases hf
      exact lcx_of hO hj σ H _ ⟨B, G0, G, ρ, d, ρ1, r, hx, fun v H1 G1 s1 z => q _ _ _ (s1.rel.set h2 z)⟩
/-- what is walked, with an effect before -/
def xI (fs : Af) : XAf := fun ρ => match fs ρ with
  | none => none
  | some ds => some (ds, ρ)
theorem pxi_of {fs : Af} (h : PI X tg iter (tI X.prog X.w X.K O fs)) : PI X tg iter (tXI X.prog X.w X.K O (xI fs)) := pi_wk h fun σ H R ⟨B, G0, G, ρ, ds, ρ', r, hf, q⟩ => by
  unfold xI at hf
  split at hf
  · cases hf
  · rename_i ds' hx
    cases hf
    exact ⟨B, G0, G, ρ, _, r, hx, fun J H1 G1 s z => q J H1 G1 (.of r s) z⟩
def xR1 (fs : XAf) : XAf := fun ρ => match fs ρ with
  | some ([.int j], ρ1) => if j < 4611686018427387904 ∧ -4611686018427387904 ≤ j then some (rangeD 0 j.toNat, ρ1) else none
  | _ => none
theorem pxi_r1 {p : Pos} {a : Expr} {fs : XAf} (ha : DXA X O [a] fs) (hg : Gl X "range" := by rfl) (hm : X.mg "range" = none := by assumption) (hs : starEach [a] X.env = [(false, eval a X.env)] := by rfl) : PI X tg (.Call (.Name "range" p) [a] [] pos) (tXI X.prog X.w X.K O (xR1 fs)) :=
  pi_wk (pi_range1 hg hm ha hs) fun σ H R ⟨B, G0, G, ρ, ds, ρ', r, hf, q⟩ => by
    unfold xR1 at hf
    split at hf
    · rename_i j ρ1 hx
      split at hf
      · rename_i hj
        cases hf
        refine ⟨B, G0, G, ρ, _, _, r, hx, fun vs H1 G1 s1 z => ?_⟩
        cases z with
        | cons z1 z2 =>
          cases z2
          exact ⟨j, by rw [ObsT.int (H := H1) (.inl z1)], by omega, by omega, q _ H1 G1 s1 itd_range⟩
      · cases hf
    · cases hf
end

/-! ### x[k] op= e of whole numbers, x an owned dict -/
def sPutA (F : Int → Int → Int) (i : Nat) (fk f : Ef) : Sf := fun ρ => match eVar i ρ with
  | none => none
  | some d0 => match fk ρ with
    | none => none
    | some key => match dLook d0 key with
      | some (some (.int a)) => match f ρ with
        | some (.int b) => match dPut d0 key (.int (F a b)) with
          | none => none
          | some d1 => some (.nx (ρ.set i (some d1)))
        | _ => none
      | _ => none
section
variable {X : Cx} {O O' O1 Oo vs : List Nat} {a b e k : Expr} {es : List Expr} {f g fk : Ef} {fs : Af} {pos pos' p1 p2 p3 : Pos} {x y : Str}
theorem ds_putA {op : Operator} {F : Int → Int → Int} (i : Nat) (ho : PIp X op (ipI F)) (hu : X.A.units + 64 < cLine) (hk : DE X O k fk) (he : DP X O e f) (hi : i ∈ O := by decide) (hN : X.N[i]? = some x := by rfl) (hv : Vis X.env.scope x := by first | exact Or.inl rfl | exact Or.inr (Or.inl rfl) | exact Or.inr (Or.inr rfl)) (hd : (x == ("__debug__" : Str)) = false := by decide)
    (hcd : (x == ("__classdict__" : Str)) = false := by decide) (ha : ∀ ov iv new, augStore k ov iv new = (do holding [new, ov, iv] (setItem ov iv new); release [new, ov, iv] []; pure .next) := by intros; rfl) : DS X O O (.AugAssign (.Subscript (.Name x p1) k pos') op e pos) (sPutA F i fk f) := by
  refine ⟨fun pins s σ H D I ⟨B, G0, G, ρ, out, r, hf, q⟩ => ?_⟩
  unfold sPutA at hf
  split at hf
  · cases hf
  rename_i d0 h0
  split at hf
  · cases hf
  rename_i key hkk
  split at hf
  case h_2 => cases hf
  rename_i a' hl
  split at hf
  case h_2 => cases hf
  rename_i b' hb
  split at hf
  · cases hf
  rename_i d1 h1
  cases hf
  obtain ⟨p, o, e1, h1', _, _, hob⟩ := r.own i d0 (getD_some h0) hi
  refine wpAny_AugAssign_SubscriptAny (thn ((pe_var hN hv hd hcd).run pins s σ H (fun x H2 => H2 = H ∧ x = .ref p) I ⟨_, e1, rfl, rfl⟩) fun u s2 ⟨x', H2, I2, rx, e2, e3⟩ => ?_) ha
  subst e2 e3
  obtain rfl : u = Value.ref p := rx
  refine thn (hk.run pins s2 σ H2 (fun y H3 => ∃ G3, Stp H2 G H3 G3 ∧ DenT X.prog X.w X.K G3 y key) I2 ⟨B, G0, G, ρ, key, r, hkk, fun v H3 G3 s3 z3 => ⟨G3, s3, z3⟩⟩) fun iv s3 ⟨y, H3, I3, ry, G3, st3, z3⟩ => ?_
  have r3 := r.stp st3
  have ox : ObsT X.prog X.w X.K H3 G3 (.ref p) d0 := .inr ⟨p, o, rfl, st3.hh _ _ h1', hob.up st3.gg⟩
  obtain ⟨pa, ea, _, _, _, _, gi, _⟩ := dict_ask hu I3 st3.gh ox (.inl z3) (v := .ref p) rfl ry hl
  cases ea
  refine gi _ _ _ rfl fun z w' s4 I4 rz zz => ?_
  obtain rfl := ObsT.int (P := X.prog) (w := X.w) (H := H3) (.inl (.inl zz))
  obtain ⟨t4, rfl⟩ := rz
  refine thn (he.run pins s4 σ H3 (fun y H5 => ∃ G5, Stp H3 G3 H5 G5 ∧ y = .int b') I4 ⟨B, G0, G3, ρ, .int b', r3, hb, fun v H5 G5 s5 z5 => ⟨G5, s5, z5.int⟩⟩) fun u5 s5 ⟨y5, H5, I5, ry5, G5, st5, e5⟩ => ?_
  subst e5
  have r5 := r3.stp st5
  refine thn (ho pins s5 σ H5 (.int a') (.int b') _ u5 (fun v H6 => H6 = H5 ∧ v = .int (F a' b')) I5 ⟨t4, rfl⟩ ry5 ⟨a', b', rfl, rfl, rfl, rfl⟩) fun u6 s6 ⟨y6, H6, I6, ry6, e6, e6'⟩ => ?_
  subst e6 e6'
  refine dict_put hu I6 st5.gh (st5.hh _ _ (st3.hh _ _ h1')) (hob.up fun a o e => st5.gg a o (st3.gg a o e)) (.inl (z3.up st5.gg)) ry ry6 (.int _) h1 fun ob' s7 I7 hob' => ⟨σ, _, I7, q σ _ G5 (r5.mut hi (getD_some h0) e1 hob')⟩
end

/-! ### a def that changes its first argument -/
def runE (np n : Nat) (Z : Xf) : D → List D → Option (D × D) := fun d0 ds => if ds.length + 1 = np then (match Z ((d0 :: ds).map some ++ List.replicate (n - np) none) with
  | some (d, [some d1]) => some (d, d1)
  | _ => none) else none
section
variable {P : Program} {w : World} {K : PySem.W.Frag} {mg : Str → Option Value} {base : Heap}
theorem startE_rel {N : List Str} {p : Addr} {o : HO} {d0 : D} {vs : List V} {ds : List D} {H G : Hp} (h : Paired (DenT P w K G) vs ds) (g : ∀ a o, G a = some o → H a = some o) (hp : H p = some o) (gp : G p = none) (hob : ObjD P w K G p o d0) :
    Rel P w K ⟨fun a => if a = p then none else H a, some p⟩ G [0] ((d0 :: ds).map some ++ List.replicate (N.length - (ds.length + 1)) none) (L2.start N (.ref p :: vs)) H G := by
  have hl := paired_len h
  have e0 : (L2.start N (.ref p :: vs))[0]? = some (some (V.ref p)) := by unfold L2.start; simp
  refine ⟨?_, fun a u e => ?_, g, fun _ _ e => e, fun _ _ _ => rfl, fun i d e n => ?_, fun i d e z => ?_, fun i j p d e hi hj => ?_, fun p' d e _ _ => ?_⟩
  · unfold L2.start
    rw [List.length_append, List.length_append, List.length_map, List.length_map, List.length_cons, List.length_cons, hl, List.length_replicate, List.length_replicate]
  · by_cases z : a = p
    · subst z; simp at e
    · simpa [z] using e
  · cases i with
    | zero => exact absurd List.mem_cons_self n
    | succ i =>
      have e' : (ds.map some ++ List.replicate (N.length - (ds.length + 1)) none)[i]? = some (some d) := by simpa using e
      have key : ∀ {vs : List V} {ds : List D} {i : Nat} {d : D}, Paired (DenT P w K G) vs ds → (ds[i]?).map some = some (some d) → ∃ v, (vs[i]?).map some = some (some v) ∧ DenT P w K G v d := by
        intro vs ds i d hp
        induction hp generalizing i with
        | nil => intro e; simp at e
        | cons q _ ih =>
          cases i with
          | zero => intro e; simp at e; subst e; exact ⟨_, rfl, q⟩
          | succ i => intro e; simp only [List.getElem?_cons_succ] at e ⊢; exact ih e
      by_cases hi : i < ds.length
      · rw [List.getElem?_append_left (by rw [List.length_map]; exact hi), List.getElem?_map] at e'
        obtain ⟨v, e1, z⟩ := key h e'
        refine ⟨v, ?_, z⟩
        unfold L2.start
        rw [List.map_cons, List.cons_append, List.getElem?_cons_succ, List.getElem?_append_left (by rw [List.length_map, hl]; exact hi), List.getElem?_map]
        exact e1
      · rw [List.getElem?_append_right (by rw [List.length_map]; omega), List.getElem?_replicate] at e'
        split at e' <;> cases e'
  · rcases List.mem_cons.mp z with rfl | z
    · have : d = d0 := by simpa using e.symm
      subst this
      exact ⟨p, o, e0, hp, gp, by simp, hob⟩
    · cases z
  · rcases List.mem_cons.mp hi with rfl | z
    · rcases List.mem_cons.mp hj with rfl | z
      · intros; rfl
      · cases z
    · cases z
  · cases e; exact e0
theorem fnE_ok {x qual : Str} {st : Stmt} {f : Addr} {fd : FuncData} {N ps : List Str} {k : Nat} {Z : Xf} (T : Fun K x qual st f fd) (S : FnScope N ps (defScope st))
    (hb : ∀ (cdv : Value) (A : Around) (outer : List PySem.Env) (s : Shared) (H : Hp) (E : XK), Room k (A.deeper (envOfC qual (defScope st) s.heap.objs.size f cdv)) → DZs (cxOf CX0 P w K mg base N qual (defScope st) f cdv A outer s H E).nox [0] (defBody st) Z) :
    FnOk P w K mg base CX0 (k + 1) f fd ps (spE P w K (runE ps.length N.length Z)) := by
  refine T.ok S (fun vs H Q E ⟨G, p, o, rest, d0, ds, d, d1, ev, g, hp, gp, hob, z, hf, q⟩ => ?_) fun cdv A outer s H vs Q E hr ⟨G, p, o, rest, d0, ds, d, d1, ev, g, hp, gp, hob, z, hf, q⟩ => ?_
  · unfold runE at hf
    split at hf
    · rename_i hl; rw [ev, List.length_cons, paired_len z, hl]
    · cases hf
  · refine ⟨_, hb cdv A outer s H E hr, ?_⟩
    unfold runE at hf
    split at hf
    case isFalse => cases hf
    rename_i hl
    subst ev
    have hrel := startE_rel (N := N) z g hp gp hob
    rw [hl] at hrel
    split at hf
    case h_2 => cases hf
    rename_i d' d1' hZ
    cases hf
    refine ⟨⟨fun a => if a = p then none else H a, some p⟩, G, G, _, d, d1, p, hrel, rfl, hZ, fun v H' G' o' c1 c2 c3 c4 c5 c6 c7 z' => q v H' G' o' (fun a u n e => c1 a u (by show (if a = p then none else H a) = some u; rw [if_neg n]; exact e)) c2 c3 (fun a u e => ?_) c5 c7 z'⟩
    by_cases n : a = p
    · subst n; rw [c6, gp]
    · exact c4 a u (by show (if a = p then none else H a) = some u; rw [if_neg n]; exact e)
end
end DL
namespace DL
open PySem PySem.Spec PyProof.Rows L2

/-! ### -x, min, max, index -/
section
variable {X : Cx}
theorem unNeg : UnR X (unaryOp .USub) (r1 X.prog X.w X.K dNeg) := by
  intro pins s σ H x v Q I rx ⟨G, d, r, g, ox, hF, q⟩
  unfold dNeg at hF
  split at hF
  · cases hF
    obtain rfl := ox.int
    exact un_neg pins s σ H _ v Q I rx ⟨_, rfl, q _ H G (Stp.refl g) (.int _)⟩
  · cases hF
end
mutual
theorem dq_plain {K : PySem.W.Frag} {G : Hp} : ∀ (d : D) (v : V), Dq K G v d → d.plain = true
  | .none, _, _ => rfl
  | .bool _, _, _ => rfl
  | .int _, _, _ => rfl
  | .str _, _, _ => rfl
  | .list ds, _, h => by cases h with | lst _ h => rw [PyData.plain]; exact dqa_plain ds _ h
  | .tuple ds, _, h => by cases h with | tup _ h => rw [PyData.plain]; exact dqa_plain ds _ h
  | .dict _, _, h => by cases h
theorem dqa_plain {K : PySem.W.Frag} {G : Hp} : ∀ (ds : List D) (vs : List V), DqAll K G vs ds → PyData.plainAll ds = true
  | [], _, _ => rfl
  | d :: ds, _, h => by cases h with | cons h1 h2 => rw [PyData.plainAll, dq_plain d _ h1, dqa_plain ds _ h2]; rfl
end
/-- all can be ordered, each with each -/
def alikeB (ds : List D) : Bool := ds.all fun x => ds.all fun y => PySem.W.alike x y
def notNone : D → Bool
  | .none => false
  | _ => true
def okMin (ds : List D) : Bool := alikeB ds && ds.all notNone && decide (PyData.depthAll ds ≤ 32)
def seqOf : D → Option (List D)
  | .list xs => some xs
  | .tuple xs => some xs
  | _ => none
def dMin1 (d : D) : Option D := match seqOf d with
  | some (x :: xs) => if okMin (x :: xs) = true then some (PySem.W.minD x xs) else none
  | _ => none
def dMax1 (d : D) : Option D := match seqOf d with
  | some (x :: xs) => if okMin (x :: xs) = true then some (PySem.W.maxD x xs) else none
  | _ => none
def dMin2 (d e : D) : Option D := if okMin [d, e] = true then some (if PySem.W.dataLt e d = true then e else d) else none
def dMax2 (d e : D) : Option D := if okMin [d, e] = true then some (if PySem.W.dataLt d e = true then e else d) else none
theorem okMin_1 {ds : List D} (h : okMin ds = true) : PySem.W.AlikeAll ds ∧ PyData.depthAll ds ≤ 32 := by
  unfold okMin alikeB at h
  simp only [Bool.and_eq_true, List.all_eq_true, decide_eq_true_eq] at h
  refine ⟨⟨h.1.1, fun x hx e => ?_⟩, h.2⟩
  have := h.1.2 x hx
  rw [e] at this
  cases this
theorem vals_getU : ∀ {xs : List V} {us : List Value} {i : Nat} {u : Value}, Vals xs us → us[i]? = some u → ∃ x, xs[i]? = some x ∧ RelV x u
  | _, _, _, _, .nil, e => by simp at e
  | _, _, 0, _, .cons r _, e => by simp at e; subst e; exact ⟨_, rfl, r⟩
  | _, _, i + 1, x, .cons _ t, e => by
    obtain ⟨u, h1, h2⟩ := vals_getU (i := i) t (by simpa using e)
    exact ⟨u, by simpa using h1, h2⟩
section
open Sem (wp)
open PySem.W
variable {prog : Program} {w : World} {A : Around} {E : Value → Shared → Prop} {s : Shared}
theorem min_two_data {a b : Value} {x y : PyData} {as : List Addr} {Q : Value → Shared → Prop} (hh : A.handled = none) (hr : ReadsAll s.heap [a, b] [x, y] as) (ha : AlikeAll [x, y]) (hu : A.units + 1 + PyData.depthAll [x, y] < cLine)
    (h : ∀ (i : Nat) v h' tk bs, [a, b][i]? = some v → Reads h' v (minD x [y]) bs → (∀ b o, s.heap.get? b = some o → h'.get? b = some o) → Q v { s with heap := h', toks := tk }) :
    wpAny (model prog w) A (call (.builtin "min") [a, b]) Q E s := by
  have hname : (toString "min" ++ toString ".loop" : String) = "min.loop" := by decide
  refine call_function_tree F.kind_min F.plain_min F.entry_min (F.args_min2 _ _) ?_
  show wpAny _ A.in1 (Builtin.Builtins.bindParams "min" ["key", "default"] 0 ⟨[], []⟩ >>= _) _ _ s
  refine wpAny_bind (wpAny_of_eq (show Builtin.Builtins.bindParams "min" ["key", "default"] 0 ⟨[], []⟩ = pure [none, none] from rfl) ?_)
  show wpAny _ A.in1 (newTuple [a, b] >>= _) _ _ s
  refine wpAny_bind (wpAny_newObj_type ?_)
  have k0 : ∀ c o, s.heap.get? c = some o → (s.heap.push { cls := .type "tuple", data := .seq #[a, b] }).get? c = some o := fun c o e => Heap.get?_push_of_some _ e
  have hT : (s.heap.push { cls := .type "tuple", data := .seq #[a, b] }).IsTuple s.heap.objs.size #[a, b] := ⟨_, Heap.get?_push_size _ rfl, rfl, 0, rfl⟩
  have hr1 : ReadsAll (s.heap.push { cls := .type "tuple", data := .seq #[a, b] }) (#[a, b] : Array Value).toList [x, y] as := PyProof.Rows.ReadsAll.keeps k0 hr
  refine wpAny_bind (iter_tupleW (s := { s with heap := s.heap.push { cls := .type "tuple", data := .seq #[a, b] } }) (A := A.in1) hh hT fun s₂ e W st hfp hw hk => ?_)
  refine wpAny_bind (wpAny_newObj_type ?_)
  have hSf : s₂.heap.objs.size ∉ _ := fun hm => Nat.lt_irrefl _ (hfp _ hm)
  rw [hname]
  refine wpAny_pure ⟨plainId_quiet F.plain_min_loop _, codeAny_min_loop_firstH W _ hw _ (cmpIn_lt (s := { s with heap := s.heap.push { cls := .type "tuple", data := .seq #[a, b] } }) (A := A.in1) hr1 ha (by show A.units + 1 + _ < _; exact hu)) s₂.heap.objs.size hSf (fresh_in hk) _ (Nat.zero_lt_succ _) (fun b o e => Heap.get?_push_of_some _ (hk b o e)) (W.frame 0 s₂ _ s₂.toks st (Nat.le_refl _) fun b _ o e => Heap.get?_push_of_some _ e) (Heap.get?_push_size _ rfl) fun v s' hP hm => ?_⟩
  have m := Moved.drop_new (tk := s₂.toks) hm (Nat.le_refl _)
  obtain ⟨h', tk, rfl, hk'⟩ := moved_old e rfl m
  obtain ⟨bs, r, _, _, _⟩ := readsAll_atA hr1 _ v hP
  have e2 := (argBest_fold dataLt PyData.none x [y] 1 (Nat.le_refl _)).2
  rw [show ([y] : List PyData).take 1 = [y] from rfl] at e2
  exact h _ v h' tk bs (by simpa using hP) (reads_keeps hk' (by unfold minD; rw [← e2]; exact r)) fun c o e => hk' c o (k0 c o e)
theorem max_two_data {a b : Value} {x y : PyData} {as : List Addr} {Q : Value → Shared → Prop} (hh : A.handled = none) (hr : ReadsAll s.heap [a, b] [x, y] as) (ha : AlikeAll [x, y]) (hu : A.units + 1 + PyData.depthAll [x, y] < cLine)
    (h : ∀ (i : Nat) v h' tk bs, [a, b][i]? = some v → Reads h' v (maxD x [y]) bs → (∀ b o, s.heap.get? b = some o → h'.get? b = some o) → Q v { s with heap := h', toks := tk }) :
    wpAny (model prog w) A (call (.builtin "max") [a, b]) Q E s := by
  have hname : (toString "max" ++ toString ".loop" : String) = "max.loop" := by decide
  refine call_function_tree F.kind_max F.plain_max F.entry_max (F.args_max2 _ _) ?_
  show wpAny _ A.in1 (Builtin.Builtins.bindParams "max" ["key", "default"] 0 ⟨[], []⟩ >>= _) _ _ s
  refine wpAny_bind (wpAny_of_eq (show Builtin.Builtins.bindParams "max" ["key", "default"] 0 ⟨[], []⟩ = pure [none, none] from rfl) ?_)
  show wpAny _ A.in1 (newTuple [a, b] >>= _) _ _ s
  refine wpAny_bind (wpAny_newObj_type ?_)
  have k0 : ∀ c o, s.heap.get? c = some o → (s.heap.push { cls := .type "tuple", data := .seq #[a, b] }).get? c = some o := fun c o e => Heap.get?_push_of_some _ e
  have hT : (s.heap.push { cls := .type "tuple", data := .seq #[a, b] }).IsTuple s.heap.objs.size #[a, b] := ⟨_, Heap.get?_push_size _ rfl, rfl, 0, rfl⟩
  have hr1 : ReadsAll (s.heap.push { cls := .type "tuple", data := .seq #[a, b] }) (#[a, b] : Array Value).toList [x, y] as := PyProof.Rows.ReadsAll.keeps k0 hr
  refine wpAny_bind (iter_tupleW (s := { s with heap := s.heap.push { cls := .type "tuple", data := .seq #[a, b] } }) (A := A.in1) hh hT fun s₂ e W st hfp hw hk => ?_)
  refine wpAny_bind (wpAny_newObj_type ?_)
  have hSf : s₂.heap.objs.size ∉ _ := fun hm => Nat.lt_irrefl _ (hfp _ hm)
  rw [hname]
  refine wpAny_pure ⟨plainId_quiet F.plain_max_loop _, codeAny_max_loop_firstH W _ hw _ (cmpIn_gt (s := { s with heap := s.heap.push { cls := .type "tuple", data := .seq #[a, b] } }) (A := A.in1) hr1 ha (by show A.units + 1 + _ < _; exact hu)) s₂.heap.objs.size hSf (fresh_in hk) _ (Nat.zero_lt_succ _) (fun b o e => Heap.get?_push_of_some _ (hk b o e)) (W.frame 0 s₂ _ s₂.toks st (Nat.le_refl _) fun b _ o e => Heap.get?_push_of_some _ e) (Heap.get?_push_size _ rfl) fun v s' hP hm => ?_⟩
  have m := Moved.drop_new (tk := s₂.toks) hm (Nat.le_refl _)
  obtain ⟨h', tk, rfl, hk'⟩ := moved_old e rfl m
  obtain ⟨bs, r, _, _, _⟩ := readsAll_atA hr1 _ v hP
  have e2 := (argBest_fold (fun a b => dataLt b a) PyData.none x [y] 1 (Nat.le_refl _)).2
  rw [show ([y] : List PyData).take 1 = [y] from rfl] at e2
  exact h _ v h' tk bs (by simpa using hP) (reads_keeps hk' (by unfold maxD; rw [← e2]; exact r)) fun c o e => hk' c o (k0 c o e)
end
section
variable {X : Cx}
/-- a list or tuple seen -/
theorem seq_seen {pins : List (Addr × Obj)} {σ : L2.St} {s : Shared} {H G : Hp} {v : V} {u : Value} {d : D} {ds : List D} (I : L2.Inv X pins σ H s) (g : ∀ a o, G a = some o → H a = some o) (ox : ObsT X.prog X.w X.K H G v d) (rv : RelV v u) (h : seqOf d = some ds) :
    ∃ a vs its, u = .ref a ∧ Vals vs its ∧ vs.length ≤ sizeLine ∧ DqAll X.K G vs ds ∧ (s.heap.IsList a its.toArray ∨ s.heap.IsTuple a its.toArray) := by
  unfold seqOf at h
  split at h
  · cases h
    obtain ⟨a, xs, rfl, h1, h2⟩ := ox.list g
    obtain rfl : u = .ref a := rv
    obtain ⟨its, rv', pl, hz⟩ := I.list h1
    exact ⟨a, xs, its, rfl, rv', hz, h2, .inl pl.isList⟩
  · cases h
    obtain ⟨a, xs, rfl, h1, h2⟩ := ox.tup
    obtain rfl : u = .ref a := rv
    obtain ⟨its, rv', p1, hz⟩ := I.tuple (SqT.up g h1.sq)
    exact ⟨a, xs, its, rfl, rv', hz, h2, .inr p1⟩
  · cases h
theorem pick_out {pins : List (Addr × Obj)} {σ : L2.St} {s' : Shared} {H G : Hp} {vs : List V} {its : List Value} {ds : List D} {i : Nat} {u : Value} {m : D} {bs : List Addr} (I : L2.Inv X pins σ H s') (g : ∀ a o, G a = some o → H a = some o) (rv : Vals vs its) (z : DqAll X.K G vs ds) (hi : its[i]? = some u) (rd : Reads s'.heap u m bs) : ∃ v, RelV v u ∧ Dq X.K G v m := by
  obtain ⟨v, e1, r1⟩ := vals_getU rv hi
  obtain ⟨d, e2, z2⟩ := dpa_getV z e1
  obtain ⟨as, rd2⟩ := Dp.reads I d v u (dq_dp _ _ (dp_up z2 g)) r1
  have := PySem.SeqAt.plain_unique d m u as bs (dq_plain d v z2) rd2 rd
  subst this
  exact ⟨v, r1, z2⟩
theorem cMin1 (hc : X.calm = true) (hu : X.A.units + 70 < cLine) : CallR X (.builtin "min") (rFn X.prog X.w X.K (fn1 dMin1)) := by
  intro pins s σ H vs us Q I rv ⟨G, ds, r, g, o, h0, q⟩
  obtain ⟨v, d, rfl, rfl, ox, hF⟩ := ob1 o h0
  clear h0
  obtain ⟨u, rfl, ru⟩ := vals1 rv
  unfold dMin1 at hF
  split at hF
  case h_2 => cases hF
  rename_i x xs hs
  split at hF
  case isFalse => cases hF
  rename_i hok
  cases hF
  obtain ⟨ha, hd⟩ := okMin_1 hok
  obtain ⟨a, ws, its, rfl, rv', hz, zz, hl⟩ := seq_seen I g ox ru hs
  obtain ⟨as, hr⟩ := Dp.readsAll I (x :: xs) ws its (dqa_dp _ _ (dpa_up zz g)) rv'
  have fin : ∀ (i : Nat) v h' tk bs, its.toArray[i]? = some v → Reads h' v (PySem.W.minD x xs) bs → (∀ b o, s.heap.get? b = some o → h'.get? b = some o) → EP X pins σ Q v { s with heap := h', toks := tk } := fun i v h' tk bs hi rd hk => by
    have I1 : L2.Inv X pins σ H { s with heap := h', toks := tk } := I.kept hk
    obtain ⟨w, rw', zw⟩ := pick_out I1 g rv' zz (by simpa using hi) rd
    exact ⟨w, H, I1, rw', q w H G (Stp.refl g) (.inl zw)⟩
  rcases hl with hl | hl
  · exact PySem.W.min_list_data (I.ok.hd hc) hl hr ha (by omega) fin
  · exact PySem.W.min_tuple_data (I.ok.hd hc) hl hr ha (by omega) fin
theorem cMax1 (hc : X.calm = true) (hu : X.A.units + 70 < cLine) : CallR X (.builtin "max") (rFn X.prog X.w X.K (fn1 dMax1)) := by
  intro pins s σ H vs us Q I rv ⟨G, ds, r, g, o, h0, q⟩
  obtain ⟨v, d, rfl, rfl, ox, hF⟩ := ob1 o h0
  clear h0
  obtain ⟨u, rfl, ru⟩ := vals1 rv
  unfold dMax1 at hF
  split at hF
  case h_2 => cases hF
  rename_i x xs hs
  split at hF
  case isFalse => cases hF
  rename_i hok
  cases hF
  obtain ⟨ha, hd⟩ := okMin_1 hok
  obtain ⟨a, ws, its, rfl, rv', hz, zz, hl⟩ := seq_seen I g ox ru hs
  obtain ⟨as, hr⟩ := Dp.readsAll I (x :: xs) ws its (dqa_dp _ _ (dpa_up zz g)) rv'
  have fin : ∀ (i : Nat) v h' tk bs, its.toArray[i]? = some v → Reads h' v (PySem.W.maxD x xs) bs → (∀ b o, s.heap.get? b = some o → h'.get? b = some o) → EP X pins σ Q v { s with heap := h', toks := tk } := fun i v h' tk bs hi rd hk => by
    have I1 : L2.Inv X pins σ H { s with heap := h', toks := tk } := I.kept hk
    obtain ⟨w, rw', zw⟩ := pick_out I1 g rv' zz (by simpa using hi) rd
    exact ⟨w, H, I1, rw', q w H G (Stp.refl g) (.inl zw)⟩
  rcases hl with hl | hl
  · exact PySem.W.max_list_data (I.ok.hd hc) hl hr ha (by omega) fin
  · exact PySem.W.max_tuple_data (I.ok.hd hc) hl hr ha (by omega) fin
theorem obs_dqs {P : Program} {w : World} {K : PySem.W.Frag} {H G : Hp} {v : V} {d : D} (o : ObsT P w K H G v d) (hd : atD d = true) : Dq K G v d := o.at hd
theorem cMin2 (hc : X.calm = true) (hu : X.A.units + 70 < cLine) : CallR X (.builtin "min") (rFn X.prog X.w X.K (fn2 fun d e => if (atD d && atD e) = true then dMin2 d e else none)) := by
  intro pins s σ H vs us Q I rv ⟨G, ds, r, g, o, h0, q⟩
  obtain ⟨v, v2, d, e, rfl, rfl, ox, oy, hF⟩ := ob2 o h0
  clear h0
  obtain ⟨u, u2, rfl, ru, ru2⟩ := vals2 rv
  split at hF
  case isFalse => cases hF
  rename_i hat
  rw [Bool.and_eq_true] at hat
  unfold dMin2 at hF
  split at hF
  case isFalse => cases hF
  rename_i hok
  cases hF
  obtain ⟨ha, hd⟩ := okMin_1 hok
  have zz : DqAll X.K G [v, v2] [d, e] := .cons (ox.at hat.1) (.cons (oy.at hat.2) .nil)
  obtain ⟨as, hr⟩ := Dp.readsAll I [d, e] [v, v2] [u, u2] (dqa_dp _ _ (dpa_up zz g)) (.cons ru (.cons ru2 .nil))
  refine min_two_data (I.ok.hd hc) hr ha (by omega) fun i v h' tk bs hi rd hk => ?_
  have I1 : L2.Inv X pins σ H { s with heap := h', toks := tk } := I.kept hk
  obtain ⟨w, rw', zw⟩ := pick_out I1 g (.cons ru (.cons ru2 .nil)) zz hi rd
  exact ⟨w, H, I1, rw', q w H G (Stp.refl g) (.inl zw)⟩
theorem cMax2 (hc : X.calm = true) (hu : X.A.units + 70 < cLine) : CallR X (.builtin "max") (rFn X.prog X.w X.K (fn2 fun d e => if (atD d && atD e) = true then dMax2 d e else none)) := by
  intro pins s σ H vs us Q I rv ⟨G, ds, r, g, o, h0, q⟩
  obtain ⟨v, v2, d, e, rfl, rfl, ox, oy, hF⟩ := ob2 o h0
  clear h0
  obtain ⟨u, u2, rfl, ru, ru2⟩ := vals2 rv
  split at hF
  case isFalse => cases hF
  rename_i hat
  rw [Bool.and_eq_true] at hat
  unfold dMax2 at hF
  split at hF
  case isFalse => cases hF
  rename_i hok
  cases hF
  obtain ⟨ha, hd⟩ := okMin_1 hok
  have zz : DqAll X.K G [v, v2] [d, e] := .cons (ox.at hat.1) (.cons (oy.at hat.2) .nil)
  obtain ⟨as, hr⟩ := Dp.readsAll I [d, e] [v, v2] [u, u2] (dqa_dp _ _ (dpa_up zz g)) (.cons ru (.cons ru2 .nil))
  refine max_two_data (I.ok.hd hc) hr ha (by omega) fun i v h' tk bs hi rd hk => ?_
  have I1 : L2.Inv X pins σ H { s with heap := h', toks := tk } := I.kept hk
  obtain ⟨w, rw', zw⟩ := pick_out I1 g (.cons ru (.cons ru2 .nil)) zz hi rd
  exact ⟨w, H, I1, rw', q w H G (Stp.refl g) (.inl zw)⟩
end
end DL
namespace DL
open PySem PySem.Spec PyProof.Rows L2

/-! ### methods that only look -/
/-- a method of a built-in type, its receiver the first value -/
def eMeth (F : List D → Option D) (a : Ef) (fs : Af) : Ef := fun ρ => match a ρ with
  | none => none
  | some d => match fs ρ with
    | none => none
    | some ds => F (d :: ds)
def RecvOk (X : Cx) (T : String) (F : List D → Option D) : Prop := ∀ (pins : List (Addr × Obj)) (s : Shared) (σ : L2.St) (H G : Hp) (v : V) (u : Value) (d : D) (ds : List D) (r : D), L2.Inv X pins σ H s → (∀ a o, G a = some o → H a = some o) → ObsT X.prog X.w X.K H G v d → RelV v u → F (d :: ds) = some r →
  s.TypeIs u T ∧ ∀ a, u = .ref a → ∃ ob, s.heap.get? a = some ob ∧ ob.dict = none
section
variable {X : Cx} {O : List Nat} {o e : Expr} {es : List Expr} {f : Ef} {fs : Af} {apos cpos : Pos}
theorem de_meth {T id : String} {name : Str} {F : List D → Option D} (pa : PlainAttrs T) (slot : Slot T name id) (hty : typeOf (.builtin id) = pure (.type "method_descriptor")) (hm : CallR X (.builtin id) (rFn X.prog X.w X.K F)) (hrv : RecvOk X T F) (ho : DP X O o f) (ha : DPA X O (e :: es) fs)
    (hbase : attributeBase o name X.env (eval o X.env) = eval o X.env := by rfl)
    (hfew : ((backTo cpos (starEach (e :: es) X.env)).all (fun x => !x.1) && (backToKw cpos (keywordEach [] X.env)).all (fun x => x.1.isSome)
      && decide ((e :: es).length + ([] : List Keyword).length + (if ([] : List Keyword).isEmpty then 0 else 1) < 30)) = true := by rfl)
    (hline : (apos.endLine == cpos.line) = true := by rfl) (hs : starEach (e :: es) X.env = (false, eval e X.env) :: starEach es X.env := by rfl) (hplain : (backTo cpos (starEach es X.env)).any (·.1) = false := by rfl) :
    DE X O (.Call (.Attribute o name apos) (e :: es) [] cpos) (eMeth F f fs) := by
  refine ⟨fun pins s σ H Q I ⟨B, G0, G, ρ, r, rr, hf, q⟩ => ?_⟩
  unfold eMeth at hf
  split at hf
  · cases hf
  rename_i d hx
  split at hf
  · cases hf
  rename_i ds hy
  refine wpAny_Call_method_late hbase hfew hline rfl (thn (ho.run pins s σ H (fun v H1 => ∃ G1, Stp H G H1 G1 ∧ ObsT X.prog X.w X.K H1 G1 v d) I ⟨B, G0, G, ρ, d, rr, hx, fun v H1 G1 s1 z => ⟨G1, s1, z⟩⟩) fun v s1 ⟨x, H1, I1, r1, G1, st1, z1⟩ => ?_)
  obtain ⟨h1, h2⟩ := hrv pins s1 σ H1 G1 x v d ds r I1 st1.gh z1 r1 hf
  refine ⟨T, id, pa, slot, hty, h1, h2, ?_⟩
  have hA := ha.run cpos pins s1 σ H1 (fun vs H2 => ∃ G2, Stp H1 G1 H2 G2 ∧ ObsAll X.prog X.w X.K H2 G2 vs ds) I1 ⟨B, G0, G1, ρ, ds, rr.stp st1, hy, fun vs H2 G2 s2 z => ⟨G2, s2, z⟩⟩
  rw [hs] at hA ⊢
  refine Calls.callWith_builtin (by show (false || (backTo cpos (starEach es X.env)).any (·.1)) = false; rw [hplain] <;> rfl) (Calls.evalArgs_plain ?_)
  exact thn hA fun us s2 ⟨vs, H2, I2, r2, G2, st2, z2⟩ => hm pins s2 σ H2 (x :: vs) (v :: us) Q I2 (.cons r1 r2) ⟨G2, d :: ds, r, st2.gh, .cons (z1.up st2) z2, hf, fun v' H' G' s3 z3 => q v' H' G' ((st1.trans st2).trans s3) z3⟩
end

/-! #### index -/
def indexD (xs : List D) (x : D) : Option D := if (flatD x && decide (x.depth ≤ 32)) = true then (if true ∈ xs.map (fun y => PyData.eqv y x) then some (.int ((xs.map fun y => PyData.eqv y x).idxOf true : Nat)) else none) else none
def fIndexL : List D → Option D
  | [.list xs, x] => indexD xs x
  | _ => none
def fIndexT : List D → Option D
  | [.tuple xs, x] => indexD xs x
  | _ => none
section
variable {X : Cx}
theorem indexD_1 {xs : List D} {x r : D} (h : indexD xs x = some r) : (∀ kvs, x ≠ .dict kvs) ∧ x.depth ≤ 32 ∧ true ∈ xs.map (fun y => PyData.eqv y x) ∧ r = .int ((xs.map fun y => PyData.eqv y x).idxOf true : Nat) := by
  unfold indexD at h
  split at h
  · rename_i hc
    rw [Bool.and_eq_true] at hc
    split at h
    · rename_i hm
      cases h
      exact ⟨fun kvs e => (by rw [e] at hc; cases hc.1), of_decide_eq_true hc.2, hm, rfl⟩
    · cases h
  · cases h
theorem items_eq {pins : List (Addr × Obj)} {σ : L2.St} {s : Shared} {H : Hp} {vs : List V} {its : List Value} {ds : List D} {v : V} {u : Value} {x : D} (hu : X.A.units + 64 < cLine) (I : L2.Inv X pins σ H s) (z : DqAll X.K H vs ds) (rv : Vals vs its) (zx : Dq X.K H v x) (rx : RelV v u) (hd : x.depth ≤ 32) :
    SeqAt.ItemsEq X.A.in1 s its (ds.map fun y => PyData.eqv y x) u true := by
  have l1 := dpa_len z
  have l2 := rv.length
  refine ⟨by rw [List.length_map]; omega, fun j h1 h2 => ?_⟩
  have e1 : its[j]? = some its[j] := List.getElem?_eq_getElem h1
  obtain ⟨w, e2, r2⟩ := vals_getU rv e1
  obtain ⟨d, e3, z3⟩ := dpa_getV z e2
  obtain ⟨as, rd⟩ := Dp.reads I d w its[j] (dq_dp _ _ z3) r2
  obtain ⟨bs, rd2⟩ := Dp.reads I x v u (dq_dp _ _ zx) rx
  have e4 : (ds.map fun y => PyData.eqv y x)[j] = PyData.eqv d x := by
    rw [List.getElem_map]
    have : ds[j]'(by simpa using h2) = d := by
      have := List.getElem?_eq_getElem (l := ds) (i := j) (by simpa using h2)
      rw [e3] at this
      exact (Option.some.inj this).symm
    rw [this]
  have key := PySem.SeqAt.eqAt_plain d x X.A.in1 s its[j] u as bs rd rd2 (dq_plain d w z3) (dq_plain x v zx) (by show X.A.units + 1 + _ < _; have := Nat.min_le_right d.depth x.depth; omega)
  rw [e4]
  have e5 : decide (PyData.eqv d x = true) = PyData.eqv d x := by cases PyData.eqv d x <;> rfl
  rw [e5]
  exact key
theorem mIndexL (hu : X.A.units + 64 < cLine) : CallR X (.builtin "list.index") (rFn X.prog X.w X.K fIndexL) := by
  intro pins s σ H vs us Q I rv ⟨G, ds, r, g, o, hF, q⟩
  unfold fIndexL at hF
  split at hF
  · rename_i xs x
    obtain ⟨h1, h2, h3, rfl⟩ := indexD_1 hF
    cases o with
    | cons o1 o2 =>
      cases o2 with
      | cons o2 o3 =>
        cases o3
        obtain ⟨u, u2, rfl, ru, ru2⟩ := vals2 rv
        obtain ⟨a, ws, rfl, hl, zz⟩ := o1.list g
        obtain rfl : u = .ref a := ru
        obtain ⟨its, rv', pl, hz⟩ := I.list hl
        have zx := o2.dq g h1
        refine SeqAt.call_list_index (vs := its) pl.isList (items_eq hu I (dpa_up zz g) rv' zx ru2 h2) (by rw [List.length_map, ← dpa_len zz]; exact hz) h3 ?_
        exact ⟨.int _, H, I.tok _, ⟨_, rfl⟩, q _ H G (Stp.refl g) (.int _)⟩
  · cases hF
theorem mIndexT (hu : X.A.units + 64 < cLine) : CallR X (.builtin "tuple.index") (rFn X.prog X.w X.K fIndexT) := by
  intro pins s σ H vs us Q I rv ⟨G, ds, r, g, o, hF, q⟩
  unfold fIndexT at hF
  split at hF
  · rename_i xs x
    obtain ⟨h1, h2, h3, rfl⟩ := indexD_1 hF
    cases o with
    | cons o1 o2 =>
      cases o2 with
      | cons o2 o3 =>
        cases o3
        obtain ⟨u, u2, rfl, ru, ru2⟩ := vals2 rv
        obtain ⟨a, ws, rfl, hl, zz⟩ := o1.tup
        obtain rfl : u = .ref a := ru
        obtain ⟨its, rv', p1, hz⟩ := I.tuple (SqT.up g hl.sq)
        have zx := o2.dq g h1
        refine SeqAt.call_tuple_index (vs := its) p1 (items_eq hu I (dpa_up zz g) rv' zx ru2 h2) h3 ?_
        exact ⟨.int _, H, I.tok _, ⟨_, rfl⟩, q _ H G (Stp.refl g) (.int _)⟩
  · cases hF
theorem rcIndexL : RecvOk X "list" fIndexL := by
  intro pins s σ H G v u d ds r I g o rv hF
  unfold fIndexL at hF
  split at hF
  · rename_i h
    cases h
    obtain ⟨a, ws, rfl, hl, zz⟩ := o.list g
    obtain rfl : u = .ref a := rv
    obtain ⟨its, rv', pl, hz⟩ := I.list hl
    refine ⟨pl.isList.typeIs, fun b e => ?_⟩
    cases e
    obtain ⟨ob, n, e1, e2, e3, e4⟩ := pl
    exact ⟨ob, e1, e3⟩
  · cases hF
theorem tupF_obj {pins : List (Addr × Obj)} {σ : L2.St} {s : Shared} {H : Hp} {a : Addr} {xs : List V} (I : L2.Inv X pins σ H s) (h : TupF X.K H a xs) : ∃ ob, s.heap.get? a = some ob ∧ ob.cls = .type "tuple" ∧ ob.dict = none := by
  obtain ⟨its, rv', ⟨o1, e1, c1, _⟩, hz⟩ := I.tuple h.sq
  rcases h with ⟨o, h, hd⟩ | ⟨o, its, n, h1, h2, h3, h4, h5, h6⟩
  · obtain ⟨e, _⟩ := I.hok a _ h
    have e' : s.heap.get? a = some o := e
    rw [e1] at e'
    cases e'
    exact ⟨o1, e1, c1, hd⟩
  · have e' := I.kIn a o h1
    exact ⟨o, e', h2, h6⟩
theorem rcIndexT : RecvOk X "tuple" fIndexT := by
  intro pins s σ H G v u d ds r I g o rv hF
  unfold fIndexT at hF
  split at hF
  · rename_i h
    cases h
    obtain ⟨a, ws, rfl, hl, zz⟩ := o.tup
    obtain rfl : u = .ref a := rv
    obtain ⟨ob, e1, e2, e3⟩ := tupF_obj I (hl.up g)
    refine ⟨⟨ob, e1, e2⟩, fun b e => ?_⟩
    cases e
    exact ⟨ob, e1, e3⟩
  · cases hF

/-! #### dict.get -/
def fGet1 : List D → Option D
  | [d, k] => match dLook d k with
    | some (some r) => some r
    | some none => some .none
    | none => none
  | _ => none
def fGet2 : List D → Option D
  | [d, k, x] => if atD x = true then (match dLook d k with
    | some (some r) => some r
    | some none => some x
    | none => none) else none
  | _ => none
theorem mGet1 (hu : X.A.units + 64 < cLine) : CallR X (.builtin "dict.get") (rFn X.prog X.w X.K fGet1) := by
  intro pins s σ H vs us Q I rv ⟨G, ds, r, g, o, hF, q⟩
  unfold fGet1 at hF
  split at hF
  · rename_i d k
    cases o with
    | cons o1 o2 =>
      cases o2 with
      | cons o2 o3 =>
        cases o3
        obtain ⟨u, u2, rfl, ru, ru2⟩ := vals2 rv
        split at hF
        · rename_i rd hl
          cases hF
          obtain ⟨a, rfl, _, _, _, _, _, h1, _⟩ := dict_ask hu I g o1 o2 ru ru2 hl
          refine h1 _ _ fun w' s' I' hh => ?_
          rcases hh with ⟨rd', z, e, rz, zz⟩ | ⟨e, _⟩
          · cases e
            exact ⟨z, H, I', rz, q _ H G (Stp.refl g) (.inl zz)⟩
          · cases e
        · rename_i hl
          cases hF
          obtain ⟨a, rfl, _, _, _, _, _, h1, _⟩ := dict_ask hu I g o1 o2 ru ru2 hl
          refine h1 _ _ fun w' s' I' hh => ?_
          rcases hh with ⟨rd', z, e, rz, zz⟩ | ⟨e, rfl⟩
          · cases e
          · exact ⟨.non, H, I', rfl, q _ H G (Stp.refl g) .non⟩
        · cases hF
  · cases hF
theorem mGet2 (hu : X.A.units + 64 < cLine) : CallR X (.builtin "dict.get") (rFn X.prog X.w X.K fGet2) := by
  intro pins s σ H vs us Q I rv ⟨G, ds, r, g, o, hF, q⟩
  unfold fGet2 at hF
  split at hF
  · rename_i d k x
    split at hF
    case isFalse => cases hF
    rename_i hat
    cases o with
    | cons o1 o2 =>
      cases o2 with
      | cons o2 o3 =>
        cases o3 with
        | cons o3 o4 =>
          cases o4
          cases rv with
          | cons ru rv =>
            obtain ⟨u2, u3, rfl, ru2, ru3⟩ := vals2 rv
            split at hF
            · rename_i rd hl
              cases hF
              obtain ⟨a, rfl, _, _, _, _, _, _, h2⟩ := dict_ask hu I g o1 o2 ru ru2 hl
              refine h2 _ _ _ fun w' s' I' hh => ?_
              rcases hh with ⟨rd', z, e, rz, zz⟩ | ⟨e, _⟩
              · cases e
                exact ⟨z, H, I', rz, q _ H G (Stp.refl g) (.inl zz)⟩
              · cases e
            · rename_i hl
              cases hF
              obtain ⟨a, rfl, _, _, _, _, _, _, h2⟩ := dict_ask hu I g o1 o2 ru ru2 hl
              refine h2 _ _ _ fun w' s' I' hh => ?_
              rcases hh with ⟨rd', z, e, rz, zz⟩ | ⟨e, rfl⟩
              · cases e
              · exact ⟨_, H, I', ru3, q _ H G (Stp.refl g) (.inl (o3.at hat))⟩
            · cases hF
  · cases hF
theorem dict_type {pins : List (Addr × Obj)} {σ : L2.St} {s : Shared} {H G : Hp} {v : V} {u : Value} {kvs : List (D × D)} (I : L2.Inv X pins σ H s) (g : ∀ a o, G a = some o → H a = some o) (o : ObsT X.prog X.w X.K H G v (.dict kvs)) (rv : RelV v u) :
    ∃ p ob, u = .ref p ∧ s.heap.get? p = some ob ∧ s.TypeIs u "dict" ∧ ob.dict = none := by
  obtain ⟨p, ho, rfl, hp, hob⟩ := o.dict g
  obtain rfl : u = .ref p := rv
  unfold ObjD at hob
  split at hob
  · rename_i heq; cases heq
  · obtain ⟨ob, xs, rfl, rep, z⟩ := hob
    have e := kn_get I hp
    obtain ⟨_, _, h1, _⟩ := rep.ex
    exact ⟨p, ob, rfl, e, ⟨ob, e, h1.1⟩, h1.2.1⟩
  · rename_i heq
    obtain ⟨ob, vs, rfl, rep, z⟩ := hob
    have e := kn_get I hp
    obtain ⟨o, _, _, h1, h2, _⟩ := rep.ex _ e
    rw [e] at h1
    cases h1
    exact ⟨p, ob, rfl, e, ⟨ob, e, h2.1⟩, h2.2.1⟩
  · exact hob.elim
theorem dLook_dict {d k : D} {r : Option D} (h : dLook d k = some r) : ∃ kvs, d = .dict kvs := by
  unfold dLook at h
  split at h
  · exact ⟨_, rfl⟩
  · exact ⟨_, rfl⟩
  · cases h
theorem rc_dict {F : List D → Option D} (hF : ∀ d ds r, F (d :: ds) = some r → ∃ kvs, d = .dict kvs) : RecvOk X "dict" F := by
  intro pins s σ H G v u d ds r I g o rv h
  obtain ⟨kvs, rfl⟩ := hF d ds r h
  obtain ⟨p, ob, rfl, e, t, hd⟩ := dict_type I g o rv
  exact ⟨t, fun a e' => by cases e'; exact ⟨ob, e, hd⟩⟩
theorem rcGet1 : RecvOk X "dict" fGet1 := rc_dict fun d ds r h => by
  unfold fGet1 at h
  split at h
  · rename_i h2
    cases h2
    split at h
    · exact dLook_dict (by assumption)
    · exact dLook_dict (by assumption)
    · cases h
  · cases h
theorem rcGet2 : RecvOk X "dict" fGet2 := rc_dict fun d ds r h => by
  unfold fGet2 at h
  split at h
  · rename_i h2
    cases h2
    split at h
    · split at h
      · exact dLook_dict (by assumption)
      · exact dLook_dict (by assumption)
      · cases h
    · cases h
  · cases h
end
end DL
namespace DL
open PySem PySem.Spec PyProof.Rows L2

/-! ### sorted -/
def insD (x : D) : List D → List D
  | [] => [x]
  | y :: ys => if PySem.W.dataLt y x = true then y :: insD x ys else x :: y :: ys
def sortD : List D → List D
  | [] => []
  | x :: xs => insD x (sortD xs)
section
open PySem.W
abbrev leD : D → D → Bool := dataLe false id
theorem leD_total : TotalLe leD := sortLe_total _ _ _
theorem leD_lt (x y : D) : leD x y = !dataLt y x := rfl
theorem insD_mem {x z : D} : ∀ {l : List D}, z ∈ insD x l ↔ z = x ∨ z ∈ l
  | [] => by simp [insD]
  | y :: ys => by
    unfold insD
    split
    · rw [List.mem_cons, insD_mem, List.mem_cons]
      constructor
      · rintro (h | h | h)
        · exact .inr (.inl h)
        · exact .inl h
        · exact .inr (.inr h)
      · rintro (h | h | h)
        · exact .inr (.inl h)
        · exact .inl h
        · exact .inr (.inr h)
    · simp
theorem insD_pair {x : D} : ∀ {l : List D}, l.Pairwise (fun a b => leD a b = true) → (insD x l).Pairwise (fun a b => leD a b = true)
  | [], _ => by simp [insD]
  | y :: ys, h => by
    unfold insD
    have hy := List.pairwise_cons.mp h
    split
    · rename_i hlt
      refine List.pairwise_cons.mpr ⟨fun z hz => ?_, insD_pair hy.2⟩
      rcases insD_mem.mp hz with rfl | hz
      · exact (leD_total.total y z).elim id fun q => by rw [leD_lt, hlt] at q; cases q
      · exact hy.1 z hz
    · rename_i hlt
      have hxy : leD x y = true := by rw [leD_lt, Bool.not_eq_true] at *; rw [hlt]; rfl
      refine List.pairwise_cons.mpr ⟨fun z hz => ?_, h⟩
      rcases List.mem_cons.mp hz with rfl | hz
      · exact hxy
      · exact leD_total.trans _ _ _ hxy (hy.1 z hz)
theorem insD_filter {x c : D} : ∀ {l : List D}, (insD x l).filter (sameRank leD c) = (x :: l).filter (sameRank leD c)
  | [] => rfl
  | y :: ys => by
    unfold insD
    split
    · rename_i hlt
      rw [List.filter_cons, insD_filter]
      by_cases hx : sameRank leD c x = true
      · have hy : ¬ sameRank leD c y = true := fun hy => by
          unfold sameRank at hx hy
          rw [Bool.and_eq_true] at hx hy
          have := leD_total.trans _ _ _ hx.2 hy.1
          rw [leD_lt, hlt] at this
          cases this
        rw [if_neg hy, List.filter_cons_of_pos hx, List.filter_cons_of_pos hx, List.filter_cons_of_neg hy]
      · rw [List.filter_cons_of_neg hx, List.filter_cons_of_neg hx, List.filter_cons]
    · rfl
theorem sortD_pair : ∀ l : List D, (sortD l).Pairwise (fun a b => leD a b = true)
  | [] => List.Pairwise.nil
  | x :: xs => insD_pair (sortD_pair xs)
theorem sortD_filter (c : D) : ∀ l : List D, (sortD l).filter (sameRank leD c) = l.filter (sameRank leD c)
  | [] => rfl
  | x :: xs => by rw [sortD, insD_filter, List.filter_cons, List.filter_cons, sortD_filter c xs]
theorem sortD_eq (l : List D) : l.mergeSort leD = sortD l := (sort_unique leD_total (sortD_pair l) fun c => sortD_filter c l).symm
end
def neTup : D → Bool
  | .tuple (_ :: _) => true
  | _ => false
def noTup : D → Bool
  | .tuple _ => false
  | .none => false
  | _ => true
def okSort (ds : List D) : Bool := alikeB ds && (ds.all neTup || ds.all noTup) && ds.all (fun d => decide (d.depth ≤ 32))
theorem okSort_1 {ds : List D} (h : okSort ds = true) : PySem.W.AllAlike ds ∧ PySem.W.Sortable ds ∧ ∀ d ∈ ds, d.depth ≤ 32 := by
  unfold okSort alikeB at h
  simp only [Bool.and_eq_true, List.all_eq_true, decide_eq_true_eq, Bool.or_eq_true] at h
  refine ⟨fun d hd d' hd' => h.1.1 d hd d' hd', ?_, h.2⟩
  rcases h.1.2 with h1 | h1
  · refine .inl fun d hd => ?_
    have := h1 d hd
    unfold neTup at this
    split at this
    · exact ⟨_, _, rfl⟩
    · cases this
  · refine .inr fun d hd => ?_
    have := h1 d hd
    refine ⟨fun e => ?_, fun xs e => ?_⟩
    · rw [e] at this; cases this
    · rw [e] at this; cases this
section
open PySem.W
variable {X : Cx} {pins : List (Addr × Obj)} {σ : L2.St} {s : Shared} {G H : Hp}
/-- what is left of sorted(..) once its items are taken -/
theorem sort_rest (hu : X.A.units + 70 < cLine) (I : L2.Inv X pins σ H s) (g : ∀ a o, G a = some o → H a = some o) {its : List Value} {vs : List V} {ds : List D} (rv : Vals vs its) (z : DqAll X.K G vs ds) (hs : okSort ds = true) (hl : ds.length ≤ 16777216) {Q : PySem.Fin → Shared → Prop} {E : Value → Shared → Prop}
    (q : ∀ p s' ws, L2.Inv X pins σ (upd H p (.lst ws)) s' → H p = none → DqAll X.K G ws (sortD ds) → Q (.done (.ret (.ref p))) s') :
    wpAny (model X.prog X.w) X.A.in1 (newList its >>= fun l => (holding [l] (call (.builtin "list.sort") [l] [])) >>= fun _ => ret l) Q E s := by
  obtain ⟨h1, h2, h3⟩ := okSort_1 hs
  have l1 := dpa_len z
  have l2 := rv.length
  refine wpAny_bind (wpAny_newList ?_ (by rw [sizeLine_eq]; omega))
  have hoL : (s.heap.push (seqObj "list" its.toArray 0)).get? s.heap.objs.size = some (seqObj "list" its.toArray 0) := Heap.get?_push_size _ rfl
  show wpAny _ _ _ _ _ { s with heap := s.heap.push (seqObj "list" its.toArray 0) }
  have hp : H s.heap.objs.size = none := I.hok.fresh (Nat.le_refl _)
  -- the items and their data, in pairs
  have each : EachIs (fun (u : Value) (b : V × D) => RelV b.1 u ∧ Dq X.K G b.1 b.2) its (vs.zip ds) := by
    clear h1 h2 h3 hs hl l1 l2 hoL q
    induction rv generalizing ds with
    | nil => cases z; exact .nil
    | cons r t ih =>
      cases z with
      | cons z1 z2 => exact .cons ⟨r, z1⟩ (ih z2)
  have hmap : (vs.zip ds).map (fun b => b.2) = ds := by
    clear h1 h2 h3 hs hl l2 hoL q each rv
    rw [List.map_snd_zip (by omega)]
  have read : EachIs (fun (u : Value) (b : V × D) => ∃ as, Reads (sortingHeap (s.heap.push (seqObj "list" its.toArray 0)) s.heap.objs.size its) u b.2 as) its (vs.zip ds) := each.mono fun u b ⟨r, zq⟩ => by
    obtain ⟨as, rd⟩ := Dp.reads I b.2 b.1 u (dq_dp _ _ (dp_up zq g)) r
    refine ⟨as, PyProof.Rows.Reads.keeps (fun c o e => ?_) rd⟩
    exact sortingHeap_old (Nat.ne_of_lt (Heap.lt_size e)) (Heap.get?_push_of_some _ e)
  have hal : AllAlike ((vs.zip ds).map fun b => b.2) := by rw [hmap]; exact h1
  have hsrt : Sortable ((vs.zip ds).map fun b => b.2) := by rw [hmap]; exact h2
  have hdp : ∀ d ∈ (vs.zip ds).map (fun b => b.2), X.A.in1.in1.units + d.depth < cLine := by
    rw [hmap]
    intro d hd
    have := h3 d hd
    show X.A.units + 1 + 1 + _ < _
    omega
  refine wpAny_bind (wpAny_holding (wpAny_call_entry slot_list_sort ⟨_, hoL, rfl⟩ entry_list_sort
    (list_sort_vals (κ := dataKind (sortingHeap (s.heap.push (seqObj "list" its.toArray 0)) s.heap.objs.size its) ((vs.zip ds).map fun b => b.2)) hoL
      (SortsAt.data (s := { s with heap := sortingHeap (s.heap.push (seqObj "list" its.toArray 0)) s.heap.objs.size its }) (each_map (R := fun u d => ∃ as, Reads (sortingHeap (s.heap.push (seqObj "list" its.toArray 0)) s.heap.objs.size its) u d as) (fun b : V × D => b.2) read) hal hsrt hdp)
      (by rw [sizeLine_eq]; omega) ⟨_, rfl, ?_⟩) (PyProof.Rows.args_list_sort _)))
  have out := sortVals_data (R := fun (u : Value) (b : V × D) => RelV b.1 u ∧ Dq X.K G b.1 b.2) false each read hal
  generalize hout : sortVals (dataKind (sortingHeap (s.heap.push (seqObj "list" its.toArray 0)) s.heap.objs.size its) ((vs.zip ds).map fun b => b.2)) false its its = outv at out ⊢
  have hsorted : ((vs.zip ds).mergeSort (dataLe false fun b : V × D => b.2)).map (fun b => b.2) = sortD ds := by
    have t := sort_maps (r := dataLe false fun b : V × D => b.2) (s := leD) (l := vs.zip ds) (fun b : V × D => b.2) fun a _ b _ => rfl
    rw [hmap, sortD_eq] at t
    exact t
  have hvals : Vals (((vs.zip ds).mergeSort (dataLe false fun b : V × D => b.2)).map (fun b => b.1)) outv ∧ DqAll X.K G (((vs.zip ds).mergeSort (dataLe false fun b : V × D => b.2)).map (fun b => b.1)) (((vs.zip ds).mergeSort (dataLe false fun b : V × D => b.2)).map (fun b => b.2)) := by
    generalize (vs.zip ds).mergeSort (dataLe false fun b : V × D => b.2) = ms at out
    clear hout hsorted
    induction out with
    | nil => exact ⟨.nil, .nil⟩
    | cons r t ih => exact ⟨.cons r.1 ih.1, .cons r.2 ih.2⟩
  rw [hsorted] at hvals
  obtain ⟨e', he'⟩ := PyProof.Rows.sortedHeap_at (out := outv.toArray) hoL
  have hlen : (((vs.zip ds).mergeSort (dataLe false fun b : V × D => b.2)).map (fun b => b.1)).length ≤ sizeLine := by
    rw [List.length_map, List.length_mergeSort, List.length_zip, sizeLine_eq]; omega
  refine wpAny_pure (q _ _ _ (I.laid (t' := s.toks) (fun b u e => ?_) (Nat.le_refl _) ⟨hlen, outv, e', hvals.1, he'⟩) hp hvals.2)
  have hb : b < s.heap.objs.size := Heap.lt_size e
  rw [PyProof.Rows.sortedHeap_old (Nat.ne_of_lt hb) (by rw [size_push']; exact Nat.lt_succ_of_lt hb)]
  exact Heap.get?_push_of_some _ e
theorem collect_tuple {prog : Program} {w : World} {A : Around} {E : Value → Shared → Prop} {s : Shared} {l : Addr} {vs : List Value} {Q : List Value → Shared → Prop} (hl : s.heap.IsTuple l vs.toArray)
    (h : Q vs { s with heap := (s.heap.push (seqObj "list" #[] 0)).update s.heap.objs.size (Obj.mapSeq (· ++ vs.toArray)) }) (hsz : vs.length ≤ sizeLine) :
    wpAny (model prog w) A (collect (.ref l)) Q E s := by
  obtain ⟨o, ho, hc, n, hd⟩ := id hl
  unfold collect
  refine wpAny_bind (wpAny_runValue (codeAny_builtin entry_proto_collect' ?_))
  show wpAny _ _ (do again (.builtin "list.__iadd__" ⟨[← newList [], .ref l], []⟩)) _ _ s
  refine wpAny_bind (wpAny_newList (wpAny_pure ⟨Code.quiet_builtin _ (by decide +kernel), codeAny_builtin entry_list_iadd' ?_⟩))
  show wpAny _ _ (Builtin.List.listExtendWith (.ref s.heap.objs.size) (.ref l) (.ref s.heap.objs.size)) _ _ { s with heap := s.heap.push (seqObj "list" #[] 0) }
  unfold Builtin.List.listExtendWith
  have ho' : (s.heap.push (seqObj "list" #[] 0)).get? l = some o := Heap.get?_push_of_some _ ho
  refine wpAny_bind (wpAny_typeOf (T := "tuple") ⟨o, ho', hc⟩ ?_)
  have ht : (Value.type "tuple" == Value.type "tuple") = true := by rfl
  rw [if_pos (by rw [ht]; simp)]
  refine wpAny_bind (listItems_at ho' hd ?_)
  refine wpAny_bind (listItems_at (xs := #[]) (n := 0) (Heap.get?_push_size _ rfl) rfl ?_)
  rw [if_neg (by simp)]
  refine wpAny_bind (listUpdate_at (xs := #[]) (n := 0) (Heap.get?_push_size _ rfl) rfl ?_ (Nat.zero_le _) (by show (#[] ++ vs.toArray).size ≤ sizeLine + 1; simp only [Array.size_append, List.size_toArray, List.length_nil]; omega))
  refine wpAny_pure ?_
  show wpAny (model prog w) A (do
      let o ← load s.heap.objs.size
      match o.data with
      | .seq xs _ => pure xs.toList
      | _ => unsupported "internal:collect") Q E { s with heap := (s.heap.push (seqObj "list" #[] 0)).update s.heap.objs.size (Obj.mapSeq (· ++ vs.toArray)) }
  refine wpAny_bind (wpAny_load (get?_update_seq (Heap.get?_push_size _ rfl) _) ?_)
  show wpAny _ _ (pure ((#[] : Array Value) ++ vs.toArray).toList) Q E _
  rw [show ((#[] : Array Value) ++ vs.toArray).toList = vs by simp]
  exact wpAny_pure h
theorem vals_by : ∀ {ks : List V} {us : List Value}, ks.length = us.length → (∀ (i : Nat) (x : V) (u : Value), ks[i]? = some x → us[i]? = some u → RelV x u) → Vals ks us
  | [], [], _, _ => .nil
  | x :: ks, u :: us, hl, h => .cons (h 0 x u rfl rfl) (vals_by (by simpa using hl) fun i x u e1 e2 => h (i + 1) x u (by simpa using e1) (by simpa using e2))
  | [], _ :: _, hl, _ => by simp at hl
  | _ :: _, [], hl, _ => by simp at hl
/-- a list, a tuple, a dict's keys -/
def colD : D → Option (List D)
  | .list ds => some ds
  | .tuple ds => some ds
  | .dict ((.none, _) :: kvs) => some (kvs.map (·.1))
  | .dict kvs => some (kvs.map (·.1))
  | _ => none
/-- the keys of a dict object -/
theorem dict_keys {v : V} {kvs : List (D × D)} {ds : List D} (I : L2.Inv X pins σ H s) (g : ∀ a o, G a = some o → H a = some o) (o : ObsT X.prog X.w X.K H G v (.dict kvs)) (hd : colD (.dict kvs) = some ds) :
    ∃ p ob es ep, v = .ref p ∧ s.heap.get? p = some ob ∧ ob.ExactDict ∧ ob.data = .dict es ep ∧ (p == sysModules) = false ∧ es.size = ds.length ∧ ∃ ks : List V, ks.length = ds.length ∧ DqAll X.K G ks ds ∧ ∀ (i : Nat) (x : V), ks[i]? = some x → ∃ en, es[i]? = some en ∧ L2.RelV x en.key := by
  obtain ⟨p, o', rfl, hp, hob⟩ := o.dict g
  unfold ObjD at hob
  split at hob
  · rename_i heq; cases heq
  · rename_i heq
    cases heq
    obtain ⟨ob, xs, rfl, rep, z⟩ := hob
    obtain ⟨es, ep, h1, h2, h3, ks, h4, h5, h6⟩ := keysT rep z
    have e : ds = _ := (Option.some.inj hd).symm
    subst e
    exact ⟨p, ob, es, ep, rfl, kn_get I hp, h1, h2, rep.sys, by rw [List.length_map]; exact h3, ks, by rw [List.length_map]; exact h4, h5, h6⟩
  · rename_i hne heq
    cases heq
    obtain ⟨ob, vs, rfl, rep, z⟩ := hob
    have hgd := kn_get I hp
    obtain ⟨es, ep, h1, h2, h3, ks, h4, h5, h6⟩ := keysK rep z _ hgd
    have e : ds = kvs.map (·.1) := by
      unfold colD at hd
      split at hd
      · rename_i heq; cases heq
      · rename_i heq; cases heq
      · rename_i heq; cases heq; exact absurd rfl (hne _ _)
      · rename_i heq; cases heq; exact (Option.some.inj hd).symm
      · cases hd
    subst e
    exact ⟨p, ob, es, ep, rfl, hgd, h1, h2, rep.sys, by rw [List.length_map]; exact h3, ks, by rw [List.length_map]; exact h4, h5, h6⟩
  · exact hob.elim
/-- the items of a list, a tuple, a dict's keys -/
theorem collect_dat {A : Around} (hh : A.handled = none) {u : Value} {v : V} {d : D} {ds : List D} (I : L2.Inv X pins σ H s) (g : ∀ a o, G a = some o → H a = some o) (o : ObsT X.prog X.w X.K H G v d) (rv : RelV v u) (hd : colD d = some ds) (hl : ds.length ≤ 16777216) {Q : List Value → Shared → Prop} {E : Value → Shared → Prop}
    (q : ∀ its vs s', L2.Inv X pins σ H s' → Vals vs its → DqAll X.K G vs ds → Q its s') : wpAny (model X.prog X.w) A (collect u) Q E s := by
  have kept : ∀ {vs : List Value} (b : Addr) (o : Obj), s.heap.get? b = some o → ((s.heap.push (seqObj "list" #[] 0)).update s.heap.objs.size (Obj.mapSeq (· ++ vs.toArray))).get? b = some o := fun b o e => by
    rw [Heap.get?_update_ne _ _ _ _ (Nat.ne_of_lt (Heap.lt_size e))]
    exact Heap.get?_push_of_some _ e
  cases d with
  | list xs =>
    cases hd
    obtain ⟨a, ws, its, rfl, rv', hz, zz, h⟩ := seq_seen I g o rv (ds := ds) rfl
    rcases h with h | h
    · exact PyProof.Rows.collect_list h (q _ _ _ (I.kept (t' := s.toks) kept) rv' zz) (by rw [← rv'.length]; exact hz)
    · exact collect_tuple h (q _ _ _ (I.kept (t' := s.toks) kept) rv' zz) (by rw [← rv'.length]; exact hz)
  | tuple xs =>
    cases hd
    obtain ⟨a, ws, its, rfl, rv', hz, zz, h⟩ := seq_seen I g o rv (ds := ds) rfl
    rcases h with h | h
    · exact PyProof.Rows.collect_list h (q _ _ _ (I.kept (t' := s.toks) kept) rv' zz) (by rw [← rv'.length]; exact hz)
    · exact collect_tuple h (q _ _ _ (I.kept (t' := s.toks) kept) rv' zz) (by rw [← rv'.length]; exact hz)
  | dict kvs =>
    obtain ⟨p, ob, es, ep, rfl, e, h1, h2, lo, hs, ks, h4, h5, h6⟩ := dict_keys I g o hd
    obtain rfl : u = .ref p := rv
    refine PySem.W.kdu_collect (KdlSrc.rawDict (es := es) (ep := ep) lo) hh ⟨ob, e, h1, h2⟩ (by rw [hs, sizeLine_eq]; exact hl) fun h' tk acc hk hacc => ?_
    refine q _ ks _ (I.kept hk) (vals_by (by have a1 : acc.size = es.size := hacc.1; have a2 : acc.toList.length = acc.size := Array.length_toList; omega) fun i x u e1 e2 => ?_) h5
    obtain ⟨en, e3, r⟩ := h6 i x e1
    obtain ⟨hi, e4⟩ := hacc.2 i u (by rw [← Array.getElem?_toList]; exact e2)
    rw [Array.getElem?_eq_getElem hi] at e3
    cases e3
    rw [e4]; exact r
  | none => cases hd
  | bool _ => cases hd
  | int _ => cases hd
  | str _ => cases hd
def dSorted1 (d : D) : Option D := match colD d with
  | some ds => if (okSort ds && decide (ds.length ≤ 16777216)) = true then some (.list (sortD ds)) else none
  | none => none
theorem cSorted (hc : X.calm = true) (hu : X.A.units + 70 < cLine) : CallR X (.builtin "sorted") (rFn X.prog X.w X.K (fn1 dSorted1)) := by
  intro pins s σ H vs us Q I rv ⟨G, ds, r, g, o, h0, q⟩
  obtain ⟨v, d, rfl, rfl, ox, hF⟩ := ob1 o h0
  clear h0
  obtain ⟨u, rfl, ru⟩ := vals1 rv
  unfold dSorted1 at hF
  split at hF
  case h_2 => cases hF
  rename_i ds hcol
  split at hF
  case isFalse => cases hF
  rename_i hok
  rw [Bool.and_eq_true, decide_eq_true_eq] at hok
  cases hF
  refine Calls.call_function_entry PyProof.Rows.kind_sorted PyProof.Rows.plain_sorted PyProof.Rows.entry_sorted (PyProof.Rows.args_sorted1 _) ?_
  unfold Builtin.«sorted»
  refine wpAny_bind (m := checkCount "sorted" 1 1 _) (wpAny_pure ?_)
  refine wpAny_bind (collect_dat (A := X.A.in1) (I.ok.hd hc) I g ox ru hcol hok.2 fun its ws s1 I1 r1 z1 => ?_)
  refine sort_rest hu I1 g r1 z1 hok.1 hok.2 fun p s2 ys I2 hp z2 => ⟨_, rfl, ?_⟩
  have hn : ∀ a o, G a = some o → a ≠ p := fun a o e => ne_of_none (g a o e) hp
  refine ⟨.ref p, _, I2, rfl, q _ _ (upd G p (.lst ys)) (Stp.frz g hp) (.lst upd_same (dpa_up z2 (up_g g hp)))⟩
end
end DL
namespace DL
open PySem PySem.Spec PyProof.Rows L2

/-! ### dicts made -/
def putAll : D → List (D × D) → Option D
  | d, [] => some d
  | d, (k, v) :: r => if flatD v = true then (match dPut d k v with
    | none => none
    | some d1 => putAll d1 r) else none
abbrev Dpf := Sl → Option (List (D × D))
def pNil : Dpf := fun _ => some []
def pCons (k v : Ef) (r : Dpf) : Dpf := fun ρ => match k ρ with
  | none => none
  | some kd => match v ρ with
    | none => none
    | some vd => match r ρ with
      | none => none
      | some l => some ((kd, vd) :: l)
def eDisp (z : D) (ps : Dpf) : Ef := fun ρ => match ps ρ with
  | none => none
  | some l => if l.length ≤ 15 then putAll z l else none
def PairT (P : Program) (w : World) (K : PySem.W.Frag) (G : Hp) : List (V × V) → List (D × D) → Prop := Paired fun p q => DenT P w K G p.1 q.1 ∧ DenT P w K G p.2 q.2
structure DPs (X : Cx) (O : List Nat) (pos : Pos) (keys : List (Option Expr)) (values : List Expr) (f : Dpf) : Prop where
  run : ∀ (pins : List (Addr × Obj)) (s : Shared) (σ : L2.St) (H : Hp) (B : Bs) (G0 G : Hp) (ρ : Sl) (ds : List (D × D)) (Q : List (Value × Value) → Shared → Prop), L2.Inv X pins σ H s → Rel X.prog X.w X.K B G0 O ρ σ H G → f ρ = some ds →
    (∀ vs s' H' G' ps, L2.Inv X pins σ H' s' → Stp H G H' G' → VV ps vs → PairT X.prog X.w X.K G' ps ds → Q vs s') → wpAny (model X.prog X.w) X.A (evalPairs (pairTrees keys values X.env pos)) Q X.xe s
section
variable {X : Cx} {O : List Nat} {pos : Pos} {k v : Expr} {ks : List (Option Expr)} {vs : List Expr} {f g : Ef} {ps : Dpf}
theorem dps_nil : DPs X O pos [] [] pNil := ⟨fun pins s σ H B G0 G ρ ds Q I r hf q => by
  cases hf
  exact pairTrees_nil_walk (q [] s H G [] I (Stp.refl r.gh) .nil .nil)⟩
theorem dps_cons (hk : DE X O k f) (hv : DE X O v g) (hr : DPs X O pos ks vs ps) : DPs X O pos (some k :: ks) (v :: vs) (pCons f g ps) := ⟨fun pins s σ H B G0 G ρ ds Q I r hf q => by
  unfold pCons at hf
  split at hf
  · cases hf
  rename_i kd h1
  split at hf
  · cases hf
  rename_i vd h2
  split at hf
  · cases hf
  rename_i l h3
  cases hf
  refine pairTrees_cons_walk (thn (hk.run pins s σ H (fun v H1 => ∃ G1, Stp H G H1 G1 ∧ DenT X.prog X.w X.K G1 v kd) I ⟨B, G0, G, ρ, kd, r, h1, fun v H1 G1 s1 z => ⟨G1, s1, z⟩⟩) fun u s1 ⟨x, H1, I1, rx, G1, st1, z1⟩ => ?_)
  have r1 := r.stp st1
  refine thn (hv.run pins s1 σ H1 (fun v H2 => ∃ G2, Stp H1 G1 H2 G2 ∧ DenT X.prog X.w X.K G2 v vd) I1 ⟨B, G0, G1, ρ, vd, r1, h2, fun v H1 G1 s1 z => ⟨G1, s1, z⟩⟩) fun u2 s2 ⟨y, H2, I2, ry, G2, st2, z2⟩ => ?_
  have r2 := r1.stp st2
  refine hr.run pins s2 σ H2 B G0 G2 ρ l _ I2 r2 h3 fun ws s3 H3 G3 qs I3 st3 vv pt => ?_
  exact q _ s3 H3 G3 ((x, y) :: qs) I3 ((st1.trans st2).trans st3) (.cons ⟨rx, ry⟩ vv) (.cons ⟨(z1.up st2.gg).up st3.gg, z2.up st3.gg⟩ pt)⟩

theorem dPut_K {kvs : List (D × D)} {k v d1 : D} (hne : ∀ x r, kvs = (.none, x) :: r → False) (h : dPut (.dict kvs) k v = some d1) : ∃ key, keyD k = some key ∧ kvs.length < 16777216 ∧ d1 = .dict (putP (isK key) k v kvs) := by
  unfold dPut at h
  split at h
  · rename_i heq; cases heq; exact (hne _ _ rfl).elim
  · rename_i heq
    cases heq
    split at h
    · rename_i key hk
      split at h
      · rename_i hl; cases h; exact ⟨key, hk, hl, rfl⟩
      · cases h
    · cases h
  · cases h
theorem dPut_T {x : D} {kvs : List (D × D)} {k v d1 : D} (h : dPut (.dict ((.none, x) :: kvs)) k v = some d1) : ∃ key, keyTup k = some key ∧ kvs.length < 16777216 ∧ d1 = .dict ((.none, x) :: putP (isT key) k v kvs) := by
  have e : dPut (.dict ((.none, x) :: kvs)) k v = (match keyTup k with
    | some key => if kvs.length < 16777216 then some (.dict ((.none, x) :: putP (isT key) k v kvs)) else none
    | none => none) := rfl
  rw [e] at h
  split at h
  · rename_i key hk
    split at h
    · rename_i hl; cases h; exact ⟨key, hk, hl, rfl⟩
    · cases h
  · cases h
theorem den_flat {P : Program} {w : World} {K : PySem.W.Frag} {G : Hp} {v : V} {d : D} (h : DenT P w K G v d) (hd : flatD d = true) : Dq K G v d := h.dp fun kvs e => by rw [e] at hd; cases hd
theorem carry_K : ∀ {G : Hp} {ds : List (D × D)} {ps : List (V × V)} {ws : List (Value × Value)} {kvs : List (D × D)} {d' : D} {vs0 : List (Key × Value)}, VV ps ws → PairT X.prog X.w X.K G ps ds → putAll (.dict kvs) ds = some d' → KvD X.K G vs0 kvs →
    ∃ rs kvs', Carries (mixKind X.prog X.w) ws rs ∧ d' = .dict kvs' ∧ KvD X.K G (merged vs0 rs) kvs' ∧ (kvs.length ≤ 16777216 → kvs'.length ≤ 16777216)
  | _, [], _, _, kvs, _, vs0, vv, pt, h, z => by
    cases pt; cases vv
    cases h
    exact ⟨[], kvs, True.intro, rfl, z, id⟩
  | G, (kd, vd) :: ds, _, _, kvs, d', vs0, vv, pt, h, z => by
    cases pt with
    | cons p1 p2 =>
      cases vv with
      | cons v1 v2 =>
        unfold putAll at h
        split at h
        case isFalse => cases h
        rename_i hfl
        split at h
        · cases h
        rename_i d1 h1
        obtain ⟨k, hk, hlen, rfl⟩ := dPut_K (keyed_ne z) h1
        have zq : Dq X.K G _ vd := den_flat p1.2 hfl
        have zz := KvD.put z hk v1.2 zq
        obtain ⟨rs, kvs', c, e, z', hl⟩ := carry_K v2 p2 h zz
        refine ⟨(k, _) :: rs, kvs', ⟨keyD_rel (H := G) (.inl p1.1) hk v1.1, rfl, c⟩, e, z', fun _ => hl ?_⟩
        have := putP_len (isK k) kd vd kvs
        omega
theorem carry_T {h : Heap} : ∀ {G : Hp} {ds : List (D × D)} {ps : List (V × V)} {ws : List (Value × Value)} {x : D} {kvs : List (D × D)} {d' : D} {xs0 : List (NestedKey × Addr × Value)}, (∀ b key k, keyTup key = some k → Dq X.K G (.ref b) key → (nestedKind X.prog X.w).is h k b) → VV ps ws → PairT X.prog X.w X.K G ps ds → putAll (.dict ((.none, x) :: kvs)) ds = some d' → KtD X.K G xs0 kvs →
    ∃ rs kvs', CarriesH (nestedKind X.prog X.w) h ws rs ∧ d' = .dict ((.none, x) :: kvs') ∧ KtD X.K G (storedAllH xs0 rs) kvs' ∧ (kvs.length ≤ 16777216 → kvs'.length ≤ 16777216)
  | _, [], _, _, _, kvs, _, xs0, _, vv, pt, h, z => by
    cases pt; cases vv
    cases h
    exact ⟨[], kvs, True.intro, rfl, z, id⟩
  | G, (kd, vd) :: ds, _, _, x, kvs, d', xs0, hk0, vv, pt, h, z => by
    cases pt with
    | cons p1 p2 =>
      cases vv with
      | cons v1 v2 =>
        unfold putAll at h
        split at h
        case isFalse => cases h
        rename_i hfl
        split at h
        · cases h
        rename_i d1 h1
        obtain ⟨k, hk, hlen, rfl⟩ := dPut_T h1
        have zq : Dq X.K G _ vd := den_flat p1.2 hfl
        obtain ⟨b, e1, hb⟩ := tupKey (H := G) (.inl p1.1) hk
        have zz := KtD.put z hk hb v1.2 zq
        obtain ⟨rs, kvs', c, e, z', hl⟩ := carry_T hk0 v2 p2 h zz
        have r1 := v1.1
        rw [e1] at r1
        refine ⟨(k, b, _) :: rs, kvs', ⟨r1, rfl, hk0 b kd k hk hb, c⟩, e, z', fun _ => hl ?_⟩
        have := putP_len (isT k) kd vd kvs
        omega
/-- a new dict object -/
def newDict : Obj := { cls := .type "dict", data := .dict #[] }
theorem repK_new {P : Program} {w : World} {a : Addr} (hs : (a == sysModules) = false) : RepK P w a newDict [] :=
  ⟨fun h e => ⟨_, #[], 0, e, ⟨rfl, rfl, rfl⟩, rfl, fun _ he => by simp at he, Pairs.nil, List.nodup_nil⟩, Nat.zero_le _, hs⟩
theorem repT_new {P : Program} {w : World} {a : Addr} (hs : (a == sysModules) = false) : DictRep P w a newDict [] :=
  ⟨⟨#[], 0, ⟨rfl, rfl, rfl⟩, rfl, rfl⟩, List.nodup_nil, Nat.zero_le _, hs⟩
theorem new_sys {pins : List (Addr × Obj)} {σ : L2.St} {s : Shared} {H : Hp} (I : L2.Inv X pins σ H s) : (s.heap.objs.size == sysModules) = false := beq_eq_false_iff_ne.mpr (Nat.ne_of_gt I.big)
theorem df_newK : DF X O (.Dict [] [] pos) (eC (mkK [])) := ⟨fun pins s σ H Q I ⟨B, G0, G, ρ, d, r, hf, q⟩ => by
  cases hf
  have hn := I.hok.fresh (Nat.le_refl s.heap.objs.size)
  have gn : G s.heap.objs.size = none := by
    cases e : G s.heap.objs.size with
    | none => rfl
    | some o => rw [r.gh _ _ e] at hn; cases hn
  refine wpAny_Dict_empty ⟨.ref s.heap.objs.size, _, I.laid (a := s.heap.objs.size) (o := Kn s.heap.objs.size newDict) (t' := s.toks) (fun _ _ q => Heap.get?_push_of_some _ q) (Nat.le_refl _) (kn_ok (Heap.get?_push_size _ rfl)), rfl, ?_⟩
  exact q _ _ _ G (Stp.own r.gh hn) hn upd_same gn (objD_mkK (repK_new (new_sys I)) .nil)⟩
theorem df_newT : DF X O (.Dict [] [] pos) (eC (mkT [])) := ⟨fun pins s σ H Q I ⟨B, G0, G, ρ, d, r, hf, q⟩ => by
  cases hf
  have hn := I.hok.fresh (Nat.le_refl s.heap.objs.size)
  have gn : G s.heap.objs.size = none := by
    cases e : G s.heap.objs.size with
    | none => rfl
    | some o => rw [r.gh _ _ e] at hn; cases hn
  refine wpAny_Dict_empty ⟨.ref s.heap.objs.size, _, I.laid (a := s.heap.objs.size) (o := Kn s.heap.objs.size newDict) (t' := s.toks) (fun _ _ q => Heap.get?_push_of_some _ q) (Nat.le_refl _) (kn_ok (Heap.get?_push_size _ rfl)), rfl, ?_⟩
  exact q _ _ _ G (Stp.own r.gh hn) hn upd_same gn ⟨_, [], rfl, repT_new (new_sys I), .nil⟩⟩
theorem vv_len {ps : List (V × V)} {ws : List (Value × Value)} (h : VV ps ws) : ps.length = ws.length := paired_len h
/-- {k: v, ..} -/
theorem df_dispK (h : DPs X O pos ks vs ps) (hall : ks.all (·.isSome) = true) (hl : ks.length = vs.length) (h0 : ks ≠ []) (h15 : ks.length ≤ 15) : DF X O (.Dict ks vs pos) (eDisp (mkK []) ps) := ⟨fun pins s σ H Q I ⟨B, G0, G, ρ, d, r, hf, q⟩ => by
  unfold eDisp at hf
  split at hf
  · cases hf
  rename_i l hl'
  split at hf
  case isFalse => cases hf
  rename_i hlen
  have hn := I.hok.fresh (Nat.le_refl s.heap.objs.size)
  have gn : G s.heap.objs.size = none := by
    cases e : G s.heap.objs.size with
    | none => rfl
    | some o => rw [r.gh _ _ e] at hn; cases hn
  have I0 := I.laid (a := s.heap.objs.size) (o := Kn s.heap.objs.size newDict) (t' := s.toks) (h' := s.heap.push newDict) (fun _ _ q => Heap.get?_push_of_some _ q) (Nat.le_refl _) (kn_ok (Heap.get?_push_size _ rfl))
  have st0 : Stp H G (upd H s.heap.objs.size (Kn s.heap.objs.size newDict)) G := Stp.own r.gh hn
  refine wpAny_Dict_walk (knd := mixKind X.prog X.w) hall hl h0 h15 (h.run pins _ σ _ B G0 G ρ l _ I0 (r.stp st0) hl' fun ws s1 H1 G1 qs I1 st1 vv pt => ?_)
  obtain ⟨rs, kvs', c, e, z, hz⟩ := carry_K (X := X) vv pt hf (.nil)
  have h1 : H1 s.heap.objs.size = some (Kn s.heap.objs.size newDict) := st1.hh _ _ upd_same
  have dd := (repK_new (P := X.prog) (w := X.w) (new_sys I)).ex _ (kn_get I1 h1)
  refine ⟨rs, c, dd, fun h' dd' hs => ?_⟩
  have hle : (merged [] rs).length ≤ sizeLine := by rw [z.len, sizeLine_eq]; exact hz (by simp)
  obtain ⟨ob', e', rep'⟩ := repK_of dd' hle (new_sys I)
  have gn1 : G1 s.heap.objs.size = none := (st1.old _ _ upd_same).trans gn
  refine ⟨.ref s.heap.objs.size, _, d_write I1 (by rw [h1]; exact True.intro) hs ⟨_, e'⟩ (kn_ok e'), rfl, ?_⟩
  subst e
  refine q _ _ _ G1 ⟨fun a o e => ?_, st1.gg, fun a o e => ?_, fun a o e => ?_⟩ hn upd_same gn1 (objD_mkK rep' z)
  · have ne := ne_of_none e hn
    rw [upd_ne ne]; exact st1.hh _ _ (by rw [upd_ne ne]; exact e)
  · rw [upd_ne (ne_of_none e gn1)]; exact st1.gh a o e
  · exact st1.old a o (by rw [upd_ne (ne_of_none e hn)]; exact e)⟩
theorem df_dispT (hu : X.A.units + 64 < cLine) (h : DPs X O pos ks vs ps) (hall : ks.all (·.isSome) = true) (hl : ks.length = vs.length) (h0 : ks ≠ []) (h15 : ks.length ≤ 15) : DF X O (.Dict ks vs pos) (eDisp (mkT []) ps) := ⟨fun pins s σ H Q I ⟨B, G0, G, ρ, d, r, hf, q⟩ => by
  unfold eDisp at hf
  split at hf
  · cases hf
  rename_i l hl'
  split at hf
  case isFalse => cases hf
  rename_i hlen
  have hn := I.hok.fresh (Nat.le_refl s.heap.objs.size)
  have gn : G s.heap.objs.size = none := by
    cases e : G s.heap.objs.size with
    | none => rfl
    | some o => rw [r.gh _ _ e] at hn; cases hn
  have I0 := I.laid (a := s.heap.objs.size) (o := Kn s.heap.objs.size newDict) (t' := s.toks) (h' := s.heap.push newDict) (fun _ _ q => Heap.get?_push_of_some _ q) (Nat.le_refl _) (kn_ok (Heap.get?_push_size _ rfl))
  have st0 : Stp H G (upd H s.heap.objs.size (Kn s.heap.objs.size newDict)) G := Stp.own r.gh hn
  have hnl := pairTrees_length ks vs X.env pos hall hl
  have hne : pairTrees ks vs X.env pos ≠ [] := fun he => by
    rw [he] at hnl
    exact h0 (List.length_eq_zero_iff.mp hnl.symm)
  rw [arm_eval_Dict, zip_pairTrees ks vs X.env pos hall hl, dictDisplay_pairs _ hne (by omega)]
  refine wpAny_bind (wpAny_standAt (wpAny_bind (wpAny_subDictH (knd := nestedKind X.prog X.w) (show X.A.units + 8 < cLine by omega) (by rw [hnl]; exact h15) (h.run pins _ σ _ B G0 G ρ l _ I0 (r.stp st0) hl' fun ws s1 H1 G1 qs I1 st1 vv pt => ?_))))
  have hk : ∀ b key k, keyTup key = some k → Dq X.K G1 (.ref b) key → (nestedKind X.prog X.w).is s1.heap k b := fun b key k e zb => key_is I1 e (dp_up zb st1.gh)
  obtain ⟨rs, kvs', c, e, z, hz⟩ := carry_T (X := X) hk vv pt hf (.nil)
  have h1 : H1 s.heap.objs.size = some (Kn s.heap.objs.size newDict) := st1.hh _ _ upd_same
  have dd : s1.heap.DictOfH (nestedKind X.prog X.w) s.heap.objs.size [] := ⟨newDict, #[], 0, kn_get I1 h1, ⟨rfl, rfl, rfl⟩, rfl, rfl, fun _ hx => by simp at hx, List.nodup_nil⟩
  refine ⟨rs, c, dd, fun h' tk dd' hs => wpAny_pure ?_⟩
  have hle : (storedAllH [] rs).length ≤ sizeLine := by rw [z.len, sizeLine_eq]; exact hz (by simp)
  obtain ⟨ob', e', rep'⟩ := dictRep_of dd' hle (new_sys I)
  have gn1 : G1 s.heap.objs.size = none := (st1.old _ _ upd_same).trans gn
  refine ⟨.ref s.heap.objs.size, _, d_write I1 (by rw [h1]; exact True.intro) hs ⟨_, e'⟩ (kn_ok e'), rfl, ?_⟩
  subst e
  refine q _ _ _ G1 ⟨fun a o e => ?_, st1.gg, fun a o e => ?_, fun a o e => ?_⟩ hn upd_same gn1 ⟨ob', _, rfl, rep', z⟩
  · have ne := ne_of_none e hn
    rw [upd_ne ne]; exact st1.hh _ _ (by rw [upd_ne ne]; exact e)
  · rw [upd_ne (ne_of_none e gn1)]; exact st1.gh a o e
  · exact st1.old a o (by rw [upd_ne (ne_of_none e hn)]; exact e)⟩

/-! ### x.pop() -/
def xPop (i : Nat) : Xf := fun ρ => match eVar i ρ with
  | some (.list xs) => match xs.getLast? with
    | some d => some (d, ρ.set i (some (.list xs.dropLast)))
    | none => none
  | _ => none
theorem dx_pop {x : Str} {p1 p2 p3 : Pos} (i : Nat) (hO : i ∈ O := by decide) (hN : X.N[i]? = some x := by rfl) (hv : Vis X.env.scope x := by first | exact Or.inl rfl | exact Or.inr (Or.inl rfl) | exact Or.inr (Or.inr rfl)) (hd : (x == ("__debug__" : Str)) = false := by decide)
    (hcd : (x == ("__classdict__" : Str)) = false := by decide) (hbase : attributeBase (.Name x p1) "pop" X.env (eval (.Name x p1) X.env) = eval (.Name x p1) X.env := by rfl) (hline : (p2.endLine == p3.line) = true := by rfl) : DX X O (.Call (.Attribute (.Name x p1) "pop" p2) [] [] p3) (xPop i) := ⟨fun pins s σ H Q I ⟨B, G0, G, ρ, d, ρ', r, hf, q⟩ => by
  unfold xPop at hf
  split at hf
  case h_2 => cases hf
  rename_i xs h0
  split at hf
  case h_2 => cases hf
  rename_i d' hlast
  cases hf
  obtain ⟨p, o, e1, h1, g1, b1, hob⟩ := r.own i _ (getD_some h0) hO
  obtain ⟨vs, rfl, zx⟩ := hob
  refine wpAny_Call_method0_late hbase hline (thn ((pe_var hN hv hd hcd).run pins s σ H (fun x H2 => H2 = H ∧ x = .ref p) I ⟨_, e1, rfl, rfl⟩) fun v s1 ⟨x', H1, I1, r1, e4, e5⟩ => ?_)
  subst e4 e5
  obtain ⟨h1', h2'⟩ := tyV_is I1 r1 (T := "list") (.inl ⟨rfl, vs, .of h1⟩)
  have hne : xs ≠ [] := fun e => by rw [e] at hlast; cases hlast
  have hl := dpa_len zx
  have e3 : xs[xs.length - 1]? = some d := by rw [← List.getLast?_eq_getElem?]; exact hlast
  obtain ⟨y, ey, zy⟩ := dpa_get zx e3
  have ey' : vs[vs.length - 1]? = some y := by rw [hl]; exact ey
  refine ⟨"list", "list.pop", PySem.F.plainAttrs_list, PySem.F.slot_list_pop, PySem.F.type_list_pop, h1', h2', Calls.callWith_builtin rfl (PySem.evalArgs_none (mt_pop pins s1 σ H1 (.ref p) [] v [] Q I1 r1 .nil ⟨p, vs, y, rfl, rfl, h1, ey', ?_⟩))⟩
  have zd : DqAll X.K G vs.dropLast xs.dropLast := by
    have := dpa_take (xs.length - 1) zx
    rw [List.dropLast_eq_take, List.dropLast_eq_take, hl]
    exact this
  have m := r.mut (d' := .list xs.dropLast) hO (getD_some h0) e1 (o := .lst vs.dropLast) ⟨vs.dropLast, rfl, zd⟩
  refine q y _ G ⟨fun _ _ e => e, m, fun j x h => ?_, fun a u e hn => ?_⟩ (.inl zy)
  · rcases get_set_some h with ⟨rfl, rfl⟩ | ⟨_, h'⟩
    · exact ⟨_, getD_some h0⟩
    · exact ⟨_, h'⟩
  · have na : a ≠ p := fun z => hn i _ hO (getD_some h0) (by rw [e1, z])
    exact ⟨by rw [upd_ne na]; exact e, rfl⟩⟩
end
end DL
namespace DL
open PySem PySem.Spec PyProof.Rows L2

/-! ### a, b = x, y, some of them new objects that the names own from here on -/
def Mix (P : Program) (w : World) (K : PySem.W.Frag) (H' G' : Hp) : Hp → List Bool → List V → List D → Prop
  | _, [], [], [] => True
  | H, true :: ks, v :: vs, d :: ds => ∃ p o H1, v = .ref p ∧ H p = none ∧ H1 p ≠ none ∧ (∀ a, H1 a = none → H a = none) ∧ H' p = some o ∧ G' p = none ∧ ObjD P w K G' p o d ∧ Mix P w K H' G' H1 ks vs ds
  | H, false :: ks, v :: vs, d :: ds => ∃ H1, (∀ a, H1 a = none → H a = none) ∧ DenT P w K G' v d ∧ Mix P w K H' G' H1 ks vs ds
  | _, _, _, _ => False
/-- the names take the values -/
def setL {α : Type} : List Nat → List α → List (Option α) → List (Option α)
  | i :: is, x :: xs, l => setL is xs (l.set i (some x))
  | _, _, l => l
def ownL : List Nat → List Bool → List Nat → List Nat
  | i :: is, true :: ks, O => ownL is ks (i :: O)
  | _ :: is, false :: ks, O => ownL is ks O
  | _, _, O => O
def okL : List Nat → List Bool → List Nat → Bool
  | i :: is, true :: ks, O => decide (i ≠ 0) && okL is ks (i :: O)
  | i :: is, false :: ks, O => decide (i ∉ O) && okL is ks O
  | [], [], _ => true
  | _, _, _ => false
section
variable {P : Program} {w : World} {K : PySem.W.Frag} {B : Bs} {G0 G G' H H' Hs : Hp} {O O' : List Nat} {σ : L2.St} {ρ : Sl}
/-- a slot takes an object that no slot owns -/
theorem Rel.take {i : Nat} {p : Addr} {o : HO} {d : D} (r : Rel P w K B G0 O ρ σ H G) (hp : H p = some o) (gp : G p = none) (bp : B p = none) (np : ∀ (j : Nat) (d : D), j ∈ O → ρ[j]? = some (some d) → σ[j]? ≠ some (some (.ref p))) (q : ObjD P w K G p o d) (hi0 : i ≠ 0) : Rel P w K B G0 (i :: O) (ρ.set i (some d)) (σ.set i (some (V.ref p))) H G := by
  refine ⟨by rw [List.length_set, List.length_set]; exact r.len, r.bh, r.gh, r.gg, r.bg, fun j e h n => ?_, fun j e h n => ?_, fun j k a d' e' hj hk s1 s2 r1 r2 => ?_, fun a d' ha h0 e => ?_⟩
  · rcases get_set_some h with ⟨rfl, rfl⟩ | ⟨hj, h'⟩
    · exact absurd List.mem_cons_self n
    · obtain ⟨u, e1, z⟩ := r.val j e h' fun z => n (List.mem_cons_of_mem _ z)
      exact ⟨u, by rw [List.getElem?_set_ne (Ne.symm hj)]; exact e1, z⟩
  · rcases get_set_some h with ⟨rfl, rfl⟩ | ⟨hj, h'⟩
    · exact ⟨p, o, set_at r.len h, hp, gp, bp, q⟩
    · obtain ⟨a, u, e1, z⟩ := r.own j e h' ((List.mem_cons.mp n).resolve_left hj)
      exact ⟨a, u, by rw [List.getElem?_set_ne (Ne.symm hj)]; exact e1, z⟩
  · rcases get_set_some r1 with ⟨rfl, _⟩ | ⟨nj, e1⟩
    · have hpa : p = a := by
        have := set_at (x := V.ref p) r.len r1
        rw [this] at s1
        exact V.ref.inj (Option.some.inj (Option.some.inj s1))
      subst hpa
      rcases get_set_some r2 with ⟨rfl, _⟩ | ⟨nk, e2⟩
      · rfl
      · rw [List.getElem?_set_ne (Ne.symm nk)] at s2
        exact absurd s2 (np k _ ((List.mem_cons.mp hk).resolve_left nk) e2)
    · rw [List.getElem?_set_ne (Ne.symm nj)] at s1
      rcases get_set_some r2 with ⟨rfl, _⟩ | ⟨nk, e2⟩
      · have hpa : p = a := by
          have := set_at (x := V.ref p) r.len r2
          rw [this] at s2
          exact V.ref.inj (Option.some.inj (Option.some.inj s2))
        subst hpa
        exact absurd s1 (np j _ ((List.mem_cons.mp hj).resolve_left nj) e1)
      · rw [List.getElem?_set_ne (Ne.symm nk)] at s2
        exact r.sep j k a _ _ ((List.mem_cons.mp hj).resolve_left nj) ((List.mem_cons.mp hk).resolve_left nk) s1 s2 e1 e2
  · rw [List.getElem?_set_ne hi0] at e ⊢
    exact r.pin a d' ha ((List.mem_cons.mp h0).resolve_left (Ne.symm hi0)) e
theorem mix_set : ∀ {is : List Nat} {ks : List Bool} {vs : List V} {ds : List D} {O : List Nat} {ρ : Sl} {σ : L2.St} {Hs : Hp}, Rel P w K B G0 O ρ σ H G → Mix P w K H G Hs ks vs ds → (∀ a o, B a = some o → Hs a ≠ none) → (∀ (j : Nat) (d : D) (p : Addr), j ∈ O → ρ[j]? = some (some d) → σ[j]? = some (some (.ref p)) → Hs p ≠ none) → okL is ks O = true → Rel P w K B G0 (ownL is ks O) (setL is ds ρ) (setL is vs σ) H G
  | [], [], [], [], O, ρ, σ, Hs, r, _, _, _, _ => r
  | i :: is, true :: ks, v :: vs, d :: ds, O, ρ, σ, Hs, r, m, hb, ho, hk => by
    obtain ⟨p, o, H1, rfl, h1, h2, h3, h4, h5, h6, m'⟩ := m
    unfold okL at hk
    rw [Bool.and_eq_true, decide_eq_true_eq] at hk
    have bp : B p = none := by
      cases e : B p with
      | none => rfl
      | some u => exact absurd h1 (hb p u e)
    show Rel P w K B G0 (ownL is ks (i :: O)) (setL is ds (ρ.set i (some d))) (setL is vs (σ.set i (some (V.ref p)))) H G
    refine mix_set (r.take h4 h5 bp (fun j d' hj hd z => ho j d' p hj hd z h1) h6 hk.1) m' (fun a u e z => hb a u e (h3 a z)) (fun j d' p' hj hd hs => ?_) hk.2
    rcases get_set_some hd with ⟨rfl, rfl⟩ | ⟨nj, hd'⟩
    · have := set_at (x := V.ref p) r.len hd
      rw [this] at hs
      cases hs
      exact h2
    · rw [List.getElem?_set_ne (Ne.symm nj)] at hs
      exact fun z => ho j d' p' ((List.mem_cons.mp hj).resolve_left nj) hd' hs (h3 p' z)
  | i :: is, false :: ks, v :: vs, d :: ds, O, ρ, σ, Hs, r, m, hb, ho, hk => by
    obtain ⟨H1, h3, h4, m'⟩ := m
    unfold okL at hk
    rw [Bool.and_eq_true, decide_eq_true_eq] at hk
    show Rel P w K B G0 (ownL is ks O) (setL is ds (ρ.set i (some d))) (setL is vs (σ.set i (some v))) H G
    refine mix_set (r.set hk.1 h4) m' (fun a u e z => hb a u e (h3 a z)) (fun j d' p' hj hd hs => ?_) hk.2
    have nj : i ≠ j := fun z => hk.1 (z ▸ hj)
    rw [List.getElem?_set_ne nj] at hd hs
    exact fun z => ho j d' p' hj hd hs (h3 p' z)
  | [], [], [], _ :: _, _, _, _, _, _, m, _, _, _ => m.elim
  | [], [], _ :: _, _, _, _, _, _, _, m, _, _, _ => by
    cases ‹List D› <;> exact m.elim
  | [], _ :: _, _, _, _, _, _, _, _, _, _, _, hk => by cases hk
  | _ :: _, [], _, _, _, _, _, _, _, _, _, _, hk => by cases hk
  | _ :: _, true :: _, [], _, _, _, _, _, _, m, _, _, _ => by cases ‹List D› <;> exact m.elim
  | _ :: _, false :: _, [], _, _, _, _, _, _, m, _, _, _ => by cases ‹List D› <;> exact m.elim
  | _ :: _, true :: _, _ :: _, [], _, _, _, _, _, m, _, _, _ => m.elim
  | _ :: _, false :: _, _ :: _, [], _, _, _, _, _, m, _, _, _ => m.elim
/-- frozen later -/
theorem Mix.mono : ∀ {ks : List Bool} {vs : List V} {ds : List D} {Hs Hs' : Hp}, (∀ a, Hs' a = none → Hs a = none) → Mix P w K H G Hs' ks vs ds → Mix P w K H G Hs ks vs ds
  | [], [], [], _, _, _, m => m
  | true :: ks, v :: vs, d :: ds, _, _, h, m => by
    obtain ⟨p, o, H1, e, h1, h2, h3, r⟩ := m
    exact ⟨p, o, H1, e, h p h1, h2, fun a z => h a (h3 a z), r⟩
  | false :: ks, v :: vs, d :: ds, _, _, h, m => by
    obtain ⟨H1, h3, r⟩ := m
    exact ⟨H1, fun a z => h a (h3 a z), r⟩
  | [], [], _ :: _, _, _, _, m => m.elim
  | [], _ :: _, ds, _, _, _, m => by cases ds <;> exact m.elim
  | true :: _, [], ds, _, _, _, m => by cases ds <;> exact m.elim
  | false :: _, [], ds, _, _, _, m => by cases ds <;> exact m.elim
  | true :: _, _ :: _, [], _, _, _, m => m.elim
  | false :: _, _ :: _, [], _, _, _, m => m.elim
end
section
variable (P : Program) (w : World) (K : PySem.W.Frag)
def tXM (O : List Nat) (ks : List Bool) (f : XAf) : TA := fun σ H Q => ∃ B G0 G ρ ds ρ', Rel P w K B G0 O ρ σ H G ∧ f ρ = some (ds, ρ') ∧ ∀ vs H' G', XStp P w K B G0 O σ ρ H G ρ' H' G' → (∀ a, H' a = none → H a = none) → Mix P w K H' G' H ks vs ds → Q vs H'
end
/-- .. with objects kept at their places -/
def tXk (P : Program) (w : World) (K : PySem.W.Frag) (O : List Nat) (f : Xf) : TE := fun σ H Q => ∃ B G0 G ρ d ρ', Rel P w K B G0 O ρ σ H G ∧ f ρ = some (d, ρ') ∧ ∀ v H' G', XStp P w K B G0 O σ ρ H G ρ' H' G' → (∀ a, H' a = none → H a = none) → DenT P w K G' v d → Q v H'
theorem XStp.there {P : Program} {w : World} {K : PySem.W.Frag} {B : Bs} {G0 G G' H H' : Hp} {O : List Nat} {σ : L2.St} {ρ ρ' : Sl} (x : XStp P w K B G0 O σ ρ H G ρ' H' G') (hd : ∀ (i : Nat) (d : D), i ∈ O → ρ[i]? = some (some d) → ∃ d', ρ'[i]? = some (some d')) : ∀ a, H' a = none → H a = none := fun a z => by
  cases e : H a with
  | none => rfl
  | some o =>
    exfalso
    by_cases hn : ∀ (i : Nat) (d : DL.D), i ∈ O → ρ[i]? = some (some d) → σ[i]? ≠ some (some (.ref a))
    · have := (x.frame a o e hn).1
      rw [z] at this
      cases this
    · simp only [Classical.not_forall, Classical.not_not] at hn
      obtain ⟨i, d, hi, h1, h2⟩ := hn
      obtain ⟨d', h3⟩ := hd i d hi h1
      obtain ⟨p, u, e1, hp, _⟩ := x.rel.own i d' h3 hi
      rw [h2] at e1
      cases e1
      rw [z] at hp
      cases hp
/-- the owned slots keep their data -/
def keepO (O : List Nat) (ρ ρ' : Sl) : Bool := O.all fun i => match eVar i ρ, eVar i ρ' with
  | some _, none => false
  | _, _ => true
theorem keepO_1 {O : List Nat} {ρ ρ' : Sl} (h : keepO O ρ ρ' = true) : ∀ (i : Nat) (d : D), i ∈ O → ρ[i]? = some (some d) → ∃ d', ρ'[i]? = some (some d') := fun i d hi hd => by
  unfold keepO at h
  rw [List.all_eq_true] at h
  have := h i hi
  have e1 : eVar i ρ = some d := by
    show ρ.getD i none = some d
    rw [List.getD_eq_getElem?_getD, hd]; rfl
  rw [e1] at this
  cases e2 : eVar i ρ' with
  | none => rw [e2] at this; cases this
  | some d' => exact ⟨d', getD_some e2⟩
abbrev DXM (X : Cx) (O : List Nat) (ks : List Bool) (es : List Expr) (f : XAf) : Prop := PA X es (tXM X.prog X.w X.K O ks f)
def mNil : XAf := fun ρ => some ([], ρ)
def mFrz (O : List Nat) (a : Xf) (r : XAf) : XAf := fun ρ => match a ρ with
  | none => none
  | some (d, ρ1) => if keepO O ρ ρ1 = true then (match r ρ1 with
    | none => none
    | some (ds, ρ2) => some (d :: ds, ρ2)) else none
def mOwn (a : Ef) (r : XAf) : XAf := fun ρ => match a ρ with
  | none => none
  | some d => match r ρ with
    | none => none
    | some (ds, ρ2) => some (d :: ds, ρ2)
section
variable {X : Cx} {O vs : List Nat} {ks : List Bool} {a b e : Expr} {es : List Expr} {f g : Ef} {xf xg : Xf} {xs : XAf} {fs : Af} {pos : Pos}
theorem dxm_nil : DXM X O [] [] mNil := pa_wk pa_nil fun σ H Q ⟨B, G0, G, ρ, ds, ρ', r, hf, q⟩ => by
  cases hf
  exact q [] H G (.of r (Stp.refl r.gh)) (fun _ z => z) True.intro
theorem dxm_frz (ha : DX X O e xf) (hr : DXM X O ks es xs) (hs : starEach (e :: es) X.env = (false, eval e X.env) :: starEach es X.env := by rfl) : DXM X O (false :: ks) (e :: es) (mFrz O xf xs) := by
  refine pa_wk (pa_cons ha hr hs) fun σ H Q ⟨B, G0, G, ρ, ds, ρ', r, hf, q⟩ => ?_
  unfold mFrz at hf
  split at hf
  · cases hf
  rename_i d ρ1 h1
  split at hf
  case isFalse => cases hf
  rename_i hk
  split at hf
  · cases hf
  rename_i ds' ρ2 h2
  cases hf
  refine ⟨B, G0, G, ρ, d, ρ1, r, h1, fun v H1 G1 s1 z1 => ⟨B, G0, G1, ρ1, ds', ρ', s1.rel, h2, fun vs H2 G2 s2 hn m => ?_⟩⟩
  have t1 := s1.there (keepO_1 hk)
  exact q _ H2 G2 (s1.trans s2) (fun a z => t1 a (hn a z)) ⟨H1, t1, z1.up s2.gg, m⟩
theorem dxm_own (ha : DF X O e f) (hr : DXM X O ks es xs) (hs : starEach (e :: es) X.env = (false, eval e X.env) :: starEach es X.env := by rfl) : DXM X O (true :: ks) (e :: es) (mOwn f xs) := by
  refine pa_wk (pa_cons ha hr hs) fun σ H Q ⟨B, G0, G, ρ, ds, ρ', r, hf, q⟩ => ?_
  unfold mOwn at hf
  split at hf
  · cases hf
  rename_i d h1
  split at hf
  · cases hf
  rename_i ds' ρ2 h2
  cases hf
  refine ⟨B, G0, G, ρ, d, r, h1, fun p o H1 G1 s1 hp ho hg z1 => ⟨B, G0, G1, ρ, ds', ρ', r.stp s1, h2, fun vs H2 G2 s2 hn m => ?_⟩⟩
  have t1 : ∀ a, H1 a = none → H a = none := fun a z => by
    cases e : H a with
    | none => rfl
    | some u => rw [s1.hh a u e] at z; cases z
  have np : ∀ (i : Nat) (d : DL.D), i ∈ O → ρ[i]? = some (some d) → σ[i]? ≠ some (some (.ref p)) := fun i d hi e z => by
    obtain ⟨p', u, e1, hp', _⟩ := r.own i d e hi
    rw [z] at e1
    cases e1
    rw [hp] at hp'
    cases hp'
  obtain ⟨h1', g1'⟩ := s2.frame p o ho np
  exact q _ H2 G2 ((XStp.of r s1).trans s2) (fun a z => t1 a (hn a z)) ⟨p, o, H1, rfl, hp, by rw [ho]; exact fun z => (by cases z), t1, h1', g1'.trans hg, z1.up s2.gg, m⟩
end
def sPar (is : List Nat) (f : XAf) : Sf := fun ρ => match f ρ with
  | none => none
  | some (ds, ρ1) => if ds.length = is.length then some (.nx (setL is ds ρ1)) else none
section
variable {X : Cx} {O vs : List Nat} {a b c e : Expr} {xs : XAf} {pos pos' px py pz pt pt2 : Pos} {x y z : Str} {k1 k2 k3 : Bool} {kt kt2 : Nat}
theorem mix_len {P : Program} {w : World} {K : PySem.W.Frag} {H G : Hp} : ∀ {ks : List Bool} {vs : List V} {ds : List D} {Hs : Hp}, Mix P w K H G Hs ks vs ds → vs.length = ks.length ∧ ds.length = ks.length
  | [], [], [], _, _ => ⟨rfl, rfl⟩
  | true :: ks, v :: vs, d :: ds, _, m => by
    obtain ⟨p, o, H1, _, _, _, _, _, _, _, m'⟩ := m
    have := mix_len m'
    exact ⟨by rw [List.length_cons, List.length_cons, this.1], by rw [List.length_cons, List.length_cons, this.2]⟩
  | false :: ks, v :: vs, d :: ds, _, m => by
    obtain ⟨H1, _, _, m'⟩ := m
    have := mix_len m'
    exact ⟨by rw [List.length_cons, List.length_cons, this.1], by rw [List.length_cons, List.length_cons, this.2]⟩
  | [], [], _ :: _, _, m => m.elim
  | [], _ :: _, ds, _, m => by cases ds <;> exact m.elim
  | true :: _, [], ds, _, m => by cases ds <;> exact m.elim
  | false :: _, [], ds, _, m => by cases ds <;> exact m.elim
  | true :: _, _ :: _, [], _, m => m.elim
  | false :: _, _ :: _, [], _, m => m.elim
theorem mix_rel {is : List Nat} {ks : List Bool} {B : Bs} {G0 G H H' G' : Hp} {ρ ρ' : Sl} {σ : L2.St} {vs' : List V} {ds : List D} (hk : okL is ks O = true) (r : Rel X.prog X.w X.K B G0 O ρ σ H G) (s : XStp X.prog X.w X.K B G0 O σ ρ H G ρ' H' G') (m : Mix X.prog X.w X.K H' G' H ks vs' ds) : Rel X.prog X.w X.K B G0 (ownL is ks O) (setL is ds ρ') (setL is vs' σ) H' G' := by
  refine mix_set s.rel m (fun a o e z => by rw [r.bh a o e] at z; cases z) (fun j d p hj hd hs z => ?_) hk
  obtain ⟨d', hd'⟩ := s.dom j d hd
  obtain ⟨p', u, e1, hp', _⟩ := r.own j d' hd' hj
  rw [hs] at e1
  cases e1
  rw [z] at hp'
  cases hp'
theorem len2 {α : Type} {l : List α} (h : l.length = 2) : ∃ x y, l = [x, y] := by
  match l, h with
  | [x, y], _ => exact ⟨x, y, rfl⟩
theorem len3 {α : Type} {l : List α} (h : l.length = 3) : ∃ x y z, l = [x, y, z] := by
  match l, h with
  | [x, y, z], _ => exact ⟨x, y, z, rfl⟩
/-- two plain names -/
theorem ds_par (i j : Nat) (hN : X.N.Nodup) (ha : DXM X O [k1, k2] [a, b] xs) (hw : swappedStores [.Tuple [.Name x px, .Name y py] kt pt] (.Tuple [a, b] kt2 pt2) X.env = pure (some [x, y])) (hk : okL [i, j] [k1, k2] O = true := by decide) (hij : i ≠ j := by decide) (hi : X.N[i]? = some x := by rfl) (hj : X.N[j]? = some y := by rfl)
    (hx : X.env.scope.names.lookup x = some .local := by rfl) (hy : X.env.scope.names.lookup y = some .local := by rfl) (hc : X.calm = true := by rfl) (hs : swapsWithSole [.Tuple [.Name x px, .Name y py] kt pt] (.Tuple [a, b] kt2 pt2) pos.line X.env = pure false := by rfl) :
    DS X O (ownL [i, j] [k1, k2] O) (.Assign [.Tuple [.Name x px, .Name y py] kt pt] (.Tuple [a, b] kt2 pt2) pos) (sPar [i, j] xs) :=
  ps_wk (ps_par hc hN hi hj hij hx hy ha hw hs) fun D σ H ⟨B, G0, G, ρ, out, r, hf, q⟩ => by
    unfold sPar at hf
    split at hf
    · cases hf
    rename_i ds ρ1 h1
    split at hf
    case isFalse => cases hf
    cases hf
    refine ⟨B, G0, G, ρ, ds, ρ1, r, h1, fun vs H1 G1 s hn m => ?_⟩
    obtain ⟨v, w, rfl⟩ := len2 (mix_len m).1
    exact ⟨v, w, rfl, q _ _ G1 (mix_rel hk r s m)⟩
theorem ds_par3 (i j l : Nat) (hN : X.N.Nodup) (ha : DXM X O [k1, k2, k3] [a, b, c] xs) (hw : swappedStores [.Tuple [.Name x px, .Name y py, .Name z pz] kt pt] (.Tuple [a, b, c] kt2 pt2) X.env = pure (some [x, y, z])) (hk : okL [i, j, l] [k1, k2, k3] O = true := by decide) (hij : i ≠ j := by decide) (hil : i ≠ l := by decide) (hjl : j ≠ l := by decide) (hi : X.N[i]? = some x := by rfl) (hj : X.N[j]? = some y := by rfl) (hl : X.N[l]? = some z := by rfl)
    (hx : X.env.scope.names.lookup x = some .local := by rfl) (hy : X.env.scope.names.lookup y = some .local := by rfl) (hz : X.env.scope.names.lookup z = some .local := by rfl) (hc : X.calm = true := by rfl) (hs : swapsWithSole [.Tuple [.Name x px, .Name y py, .Name z pz] kt pt] (.Tuple [a, b, c] kt2 pt2) pos.line X.env = pure false := by rfl) :
    DS X O (ownL [i, j, l] [k1, k2, k3] O) (.Assign [.Tuple [.Name x px, .Name y py, .Name z pz] kt pt] (.Tuple [a, b, c] kt2 pt2) pos) (sPar [i, j, l] xs) :=
  ps_wk (ps_par3 hc hN hi hj hl hij hil hjl hx hy hz ha hw hs) fun D σ H ⟨B, G0, G, ρ, out, r, hf, q⟩ => by
    unfold sPar at hf
    split at hf
    · cases hf
    rename_i ds ρ1 h1
    split at hf
    case isFalse => cases hf
    cases hf
    refine ⟨B, G0, G, ρ, ds, ρ1, r, h1, fun vs H1 G1 s hn m => ?_⟩
    obtain ⟨v, w, u, rfl⟩ := len3 (mix_len m).1
    exact ⟨v, w, u, rfl, q _ _ G1 (mix_rel hk r s m)⟩
/-- by way of a tuple: names that comprehensions share -/
theorem tup_step {B : Bs} {G0 G H H' G' : Hp} {ρ ρ' : Sl} {σ : L2.St} {vs' : List V} {p : Addr} {o : Obj} (s : XStp X.prog X.w X.K B G0 O σ ρ H G ρ' H' G') (hp : H' p = none) : XStp X.prog X.w X.K B G0 O σ ρ H G ρ' (upd H' p (.frz o (.tup vs'))) G' := s.stp (Stp.own s.rel.gh hp)
theorem mix_upd {P : Program} {w : World} {K : PySem.W.Frag} {H G : Hp} {p : Addr} {u : HO} (hp : H p = none) : ∀ {ks : List Bool} {vs : List V} {ds : List D} {Hs : Hp}, Mix P w K H G Hs ks vs ds → Mix P w K (upd H p u) G Hs ks vs ds
  | [], [], [], _, m => m
  | true :: ks, v :: vs, d :: ds, _, m => by
    obtain ⟨p', o, H1, h0, h1, h2, h3, h4, h5, h6, m'⟩ := m
    exact ⟨p', o, H1, h0, h1, h2, h3, by rw [upd_ne (ne_of_none h4 hp)]; exact h4, h5, h6, mix_upd hp m'⟩
  | false :: ks, v :: vs, d :: ds, _, m => by
    obtain ⟨H1, h3, h4, m'⟩ := m
    exact ⟨H1, h3, h4, mix_upd hp m'⟩
  | [], [], _ :: _, _, m => m.elim
  | [], _ :: _, ds, _, m => by cases ds <;> exact m.elim
  | true :: _, [], ds, _, m => by cases ds <;> exact m.elim
  | false :: _, [], ds, _, m => by cases ds <;> exact m.elim
  | true :: _, _ :: _, [], _, m => m.elim
  | false :: _, _ :: _, [], _, m => m.elim
theorem ds_parT (i j : Nat) (hN : X.N.Nodup) (ha : DXM X O [k1, k2] [a, b] xs) (hk : okL [i, j] [k1, k2] O = true := by decide) (hi : X.N[i]? = some x := by rfl) (hj : X.N[j]? = some y := by rfl)
    (hx : Loc X.env.scope x := by first | exact Or.inl rfl | exact Or.inr rfl) (hy : Loc X.env.scope y := by first | exact Or.inl rfl | exact Or.inr rfl) (hfx : X.fn x = true ∨ X.env.scope.names.lookup x = some .local := by first | exact .inl rfl | exact .inr rfl | assumption) (hfy : X.fn y = true ∨ X.env.scope.names.lookup y = some .local := by first | exact .inl rfl | exact .inr rfl | assumption)
    (hc : X.calm = true := by rfl) (hs : swapsWithSole [.Tuple [.Name x px, .Name y py] kt pt] (.Tuple [a, b] kt2 pt2) pos.line X.env = pure false := by rfl) (hw : swappedStores [.Tuple [.Name x px, .Name y py] kt pt] (.Tuple [a, b] kt2 pt2) X.env = pure none := by rfl) :
    DS X O (ownL [i, j] [k1, k2] O) (.Assign [.Tuple [.Name x px, .Name y py] kt pt] (.Tuple [a, b] kt2 pt2) pos) (sPar [i, j] xs) :=
  ps_wk (ps_asg (pe_tupF ha) (pg_tup (n := 2) hc (pgs_cons (pg_name hN hi hx hfx) (pgs_cons (pg_name hN hj hy hfy) pgs_nil))) hs hw rfl) fun D σ H ⟨B, G0, G, ρ, out, r, hf, q⟩ => by
    unfold sPar at hf
    split at hf
    · cases hf
    rename_i ds ρ1 h1
    split at hf
    case isFalse => cases hf
    cases hf
    refine ⟨B, G0, G, ρ, ds, ρ1, r, h1, fun vs H1 G1 s hn m => ⟨by rw [(mix_len m).1, sizeLine_eq]; simp, fun p o ho hp => ?_⟩⟩
    obtain ⟨v, w, rfl⟩ := len2 (mix_len m).1
    exact ⟨p, [v, w], rfl, .inl (.inr ⟨o, upd_same⟩), rfl, v, [w], rfl, w, [], rfl, rfl, q _ _ G1 (mix_rel hk r (tup_step s hp) (mix_upd hp m))⟩
theorem ds_parT3 (i j l : Nat) (hN : X.N.Nodup) (ha : DXM X O [k1, k2, k3] [a, b, c] xs) (hk : okL [i, j, l] [k1, k2, k3] O = true := by decide) (hi : X.N[i]? = some x := by rfl) (hj : X.N[j]? = some y := by rfl) (hl : X.N[l]? = some z := by rfl)
    (hx : Loc X.env.scope x := by first | exact Or.inl rfl | exact Or.inr rfl) (hy : Loc X.env.scope y := by first | exact Or.inl rfl | exact Or.inr rfl) (hz : Loc X.env.scope z := by first | exact Or.inl rfl | exact Or.inr rfl) (hfx : X.fn x = true ∨ X.env.scope.names.lookup x = some .local := by first | exact .inl rfl | exact .inr rfl | assumption) (hfy : X.fn y = true ∨ X.env.scope.names.lookup y = some .local := by first | exact .inl rfl | exact .inr rfl | assumption) (hfz : X.fn z = true ∨ X.env.scope.names.lookup z = some .local := by first | exact .inl rfl | exact .inr rfl | assumption)
    (hc : X.calm = true := by rfl) (hs : swapsWithSole [.Tuple [.Name x px, .Name y py, .Name z pz] kt pt] (.Tuple [a, b, c] kt2 pt2) pos.line X.env = pure false := by rfl) (hw : swappedStores [.Tuple [.Name x px, .Name y py, .Name z pz] kt pt] (.Tuple [a, b, c] kt2 pt2) X.env = pure none := by rfl) :
    DS X O (ownL [i, j, l] [k1, k2, k3] O) (.Assign [.Tuple [.Name x px, .Name y py, .Name z pz] kt pt] (.Tuple [a, b, c] kt2 pt2) pos) (sPar [i, j, l] xs) :=
  ps_wk (ps_asg (pe_tupF ha) (pg_tup (n := 3) hc (pgs_cons (pg_name hN hi hx hfx) (pgs_cons (pg_name hN hj hy hfy) (pgs_cons (pg_name hN hl hz hfz) pgs_nil)))) hs hw rfl) fun D σ H ⟨B, G0, G, ρ, out, r, hf, q⟩ => by
    unfold sPar at hf
    split at hf
    · cases hf
    rename_i ds ρ1 h1
    split at hf
    case isFalse => cases hf
    cases hf
    refine ⟨B, G0, G, ρ, ds, ρ1, r, h1, fun vs H1 G1 s hn m => ⟨by rw [(mix_len m).1, sizeLine_eq]; simp, fun p o ho hp => ?_⟩⟩
    obtain ⟨v, w, u, rfl⟩ := len3 (mix_len m).1
    exact ⟨p, [v, w, u], rfl, .inl (.inr ⟨o, upd_same⟩), rfl, v, [w, u], rfl, w, [u], rfl, u, [], rfl, rfl, q _ _ G1 (mix_rel hk r (tup_step s hp) (mix_upd hp m))⟩
end
end DL
namespace DL
open PySem PySem.Spec PyProof.Rows L2
theorem fn_none {P : Program} {w : World} {K : PySem.W.Frag} {mg : Str → Option Value} {base : Heap} {x qual : Str} {st : Stmt} {f : Addr} {fd : FuncData} {N ps : List Str} {k : Nat} (T : Fun K x qual st f fd) (S : FnScope N ps (defScope st)) : FnOk P w K mg base CX0 (k + 1) f fd ps (spD P w K fun _ => none) :=
  T.ok S (fun vs H Q E ⟨G, ds, d, g, z, hf, q⟩ => by cases hf) fun cdv A outer s H vs Q E hr ⟨G, ds, d, g, z, hf, q⟩ => by cases hf
theorem de_uno {X : Cx} {O : List Nat} {a : Expr} {f : Ef} {pos : Pos} {op : UnaryOp} {F : D → Option D} (ho : UnR X (unaryOp op) (r1 X.prog X.w X.K F)) (ha : DP X O a f) : DE X O (.UnaryOp op a pos) (e1 F f) := de_un (r := fun _ _ _ => True) (pe_un ho ha)
end DL
namespace DL
open PySem PySem.Spec PyProof.Rows L2

/-! ### the plain functions at work -/
theorem ev {ρ : Sl} {i : Nat} : eVar i ρ = ρ.getD i none := rfl
/-- a for, by what stands before and after each turn -/
theorem forGo_inv {t : Gf} {b : Sf} (Inv : Nat → Sl → Prop) : ∀ (ds : List D) (i : Nat) (ρ : Sl), Inv i ρ → (∀ j d ρ, ds[j]? = some d → Inv (i + j) ρ → ∃ ρ1 ρ2, t d ρ = some ρ1 ∧ b ρ1 = some (.nx ρ2) ∧ Inv (i + j + 1) ρ2) → ∃ ρ', forGo t b ds ρ = some (.nx ρ') ∧ Inv (i + ds.length) ρ'
  | [], i, ρ, h, _ => ⟨ρ, rfl, h⟩
  | d :: ds, i, ρ, h, hs => by
    obtain ⟨ρ1, ρ2, e1, e2, h2⟩ := hs 0 d ρ rfl h
    obtain ⟨ρ', e3, h3⟩ := forGo_inv Inv ds (i + 1) ρ2 h2 fun j d ρ hj hI => by
      have := hs (j + 1) d ρ (by simpa using hj) (by rw [show i + (j + 1) = i + 1 + j by omega]; exact hI)
      rw [show i + (j + 1) + 1 = i + 1 + j + 1 by omega] at this
      exact this
    refine ⟨ρ', ?_, by rw [List.length_cons, show i + (ds.length + 1) = i + 1 + ds.length by omega]; exact h3⟩
    rw [forGo, e1]
    simp only [e2]
    exact e3
/-! ### the draws -/
def Fd_in : Sf := (sIf (cB (e2 dGt (eVar 6) (eC (.int 0)))) (sSeq (sMut 2 fApp (aCons (e2 dMod (eCall (fn1 dInt1) (aCons (eVar 6) aNil)) (eC (.int 997))) aNil)) (sSet 6 (e2 dFdiv (eVar 6) (eC (.int 997))))) sNil)
def Fd_one : Sf := (sSeq (sSet 5 (eCall (fn1 dAbs1) (aCons (eCall (fn1 dInt1) (aCons (e2 dIx (eVar 0) (eVar 4)) aNil)) aNil))) (sSeq (sSet 3 (e2 dMod (eCall (fn1 dInt1) (aCons (e2 dAdd (e2 dAdd (e2 dMul (eVar 3) (eC (.int 48271))) (e2 dMod (eVar 5) (eC (.int 1000003)))) (eVar 4)) aNil)) (eC (.int 65537)))) (sSeq (sSet 6 (eC (.int 0))) (sSeq (sIf (cB (e2 dGe (eVar 5) (e2 dPow (eC (.int 10)) (eC (.int 18))))) (sSet 6 (eVar 5)) (sSeq (sMut 2 fApp (aCons (e2 dMod (eCall (fn1 dInt1) (aCons (eVar 5) aNil)) (eC (.int 997))) aNil)) (sMut 2 fApp (aCons (e2 dMod (e2 dMod (eCall (fn1 dInt1) (aCons (e2 dAdd (e2 dMul (eVar 3) (eC (.int 69621))) (eC (.int 5))) aNil)) (eC (.int 65521))) (eC (.int 997))) aNil)))) (sFor (aR1 (aCons (eC (.int 60)) aNil)) (gNm 7) Fd_in)))))
def Fd_two : Sf := (sSeq (sSet 3 (e2 dMod (eCall (fn1 dInt1) (aCons (e2 dAdd (e2 dAdd (e2 dMul (eVar 3) (eC (.int 16807))) (eVar 4)) (eC (.int 1))) aNil)) (eC (.int 65537)))) (sMut 2 fApp (aCons (e2 dMod (eCall (fn1 dInt1) (aCons (eVar 3) aNil)) (eC (.int 997))) aNil)))
def F_draws : Sf := (sSeq (sSet 2 (eSeq .list aNil)) (sSeq (sSet 3 (eC (.int 7))) (sSeq (sFor (aR1 (aCons (eCall (fn1 dLen1) (aCons (eVar 0) aNil)) aNil)) (gNm 4) Fd_one) (sSeq (sFor (aR1 (aCons (eVar 1) aNil)) (gNm 4) Fd_two) (sRet (eSl (eVar 2) pNo (pAt (eVar 1))))))))
theorem ordInt (a b : Int) : ordD (.int a) (.int b) = true := by
  simp [ordD, PySem.W.alike, PyData.depth]
theorem ltInt (a b : Int) : PySem.W.dataLt (.int a) (.int b) = decide (a < b) := PySem.W.dataLt_int a b
theorem dGtI (a b : Int) : dGt (.int a) (.int b) = some (.bool (decide (b < a))) := by simp [dGt, ordInt, ltInt]
theorem dLtI (a b : Int) : dLt (.int a) (.int b) = some (.bool (decide (a < b))) := by simp [dLt, ordInt, ltInt]
theorem ndec (a b : Int) : (!decide (a < b)) = decide (b ≤ a) := by
  by_cases h : a < b
  · have h' : ¬ b ≤ a := by omega
    rw [decide_eq_true h, decide_eq_false h']; rfl
  · have h' : b ≤ a := by omega
    rw [decide_eq_false h, decide_eq_true h']; rfl
theorem dGeI (a b : Int) : dGe (.int a) (.int b) = some (.bool (decide (b ≤ a))) := by rw [dGe, if_pos (ordInt a b), ltInt, ndec]
theorem dLeI (a b : Int) : dLe (.int a) (.int b) = some (.bool (decide (a ≤ b))) := by rw [dLe, if_pos (ordInt a b), ltInt, ndec]

/-- the draws: whole numbers -/
def lsI (ds : List Int) : D := .list (ds.map .int)
theorem Fd_in_step (x0 x1 x4 x5 x7 : Option D) (ds : List Int) (m r : Int) (hl : ds.length < 16777216) : ∃ ds' r', Fd_in [x0, x1, some (lsI ds), some (.int m), x4, x5, some (.int r), x7] = some (.nx [x0, x1, some (lsI ds'), some (.int m), x4, x5, some (.int r'), x7]) ∧ ds'.length ≤ ds.length + 1 ∧ ds.length ≤ ds'.length := by
  by_cases h : 0 < r
  · refine ⟨ds ++ [r % 997], r / 997, ?_, by simp, by simp⟩
    simp [sSeq, sNil, sSet, sRet, sIf, sMut, sAug, sFor, eVar, eC, e1, e2, aNil, aCons, eCall, cB, cNot, cAnd, cOr, fn1, dAdd, dSub, dMul, dMod, dFdiv, dPow, dAbs1, dInt1, dLen1, fApp, atD, gNm, aR1, aR2, dGtI, dGeI, dLtI, dLeI, Fd_in, h, lsI, hl]
  · exact ⟨ds, r, by simp [sSeq, sNil, sSet, sRet, sIf, sMut, sAug, sFor, eVar, eC, e1, e2, aNil, aCons, eCall, cB, cNot, cAnd, cOr, fn1, dAdd, dSub, dMul, dMod, dFdiv, dPow, dAbs1, dInt1, dLen1, fApp, atD, gNm, aR1, aR2, dGtI, dGeI, dLtI, dLeI, Fd_in, h], by omega, by omega⟩
theorem atI_ints {sc : List Int} {k : Int} (hk : 0 ≤ k ∧ k < sc.length) : ∃ c, atI (sc.map PyData.int) k = some (.int c) := by
  have h : k.toNat < sc.length := by omega
  refine ⟨sc[k.toNat], ?_⟩
  unfold atI ixN
  rw [List.length_map, if_pos hk.1, if_pos hk.2]
  simp [sSeq, sNil, sSet, sRet, sIf, sMut, sAug, sFor, eVar, eC, e1, e2, aNil, aCons, eCall, cB, cNot, cAnd, cOr, fn1, dAdd, dSub, dMul, dMod, dFdiv, dPow, dAbs1, dInt1, dLen1, fApp, atD, gNm, aR1, aR2, dGtI, dGeI, dLtI, dLeI, h]
theorem Fd_loop (x0 x1 x4 x5 : Option D) (m : Int) (n : Nat) (lo : Int) (ds : List Int) (r : Int) (x7 : Option D) (hl : ds.length + n ≤ 16777216) : ∃ ds' r' y7, forGo (gNm 7) Fd_in (rangeD lo n) [x0, x1, some (lsI ds), some (.int m), x4, x5, some (.int r), x7] = some (.nx [x0, x1, some (lsI ds'), some (.int m), x4, x5, some (.int r'), y7]) ∧ ds'.length ≤ ds.length + n := by
  induction n generalizing lo ds r x7 with
  | zero => exact ⟨ds, r, x7, rfl, by omega⟩
  | succ n ih =>
    obtain ⟨ds1, r1, e1, h1, h2⟩ := Fd_in_step x0 x1 x4 x5 (some (.int lo)) ds m r (by omega)
    obtain ⟨ds2, r2, y7, e2, h3⟩ := ih (lo + 1) ds1 r1 (some (.int lo)) (by omega)
    refine ⟨ds2, r2, y7, ?_, by omega⟩
    rw [rangeD, forGo]
    show (match Fd_in [x0, x1, some (lsI ds), some (.int m), x4, x5, some (.int r), some (.int lo)] with
      | some (.nx ρ2) => forGo (gNm 7) Fd_in (rangeD (lo + 1) n) ρ2
      | o => o) = _
    rw [e1]
    exact e2
theorem Fd_one_step (sc ds : List Int) (k m : Int) (x1 x5 x6 x7 : Option D) (hk : 0 ≤ k ∧ k < sc.length) (hm : 0 ≤ m ∧ m < 65537) (hl : ds.length ≤ 10000) : ∃ ds' m' y5 y6 y7, Fd_one [some (lsI sc), x1, some (lsI ds), some (.int m), some (.int k), x5, x6, x7] = some (.nx [some (lsI sc), x1, some (lsI ds'), some (.int m'), some (.int k), y5, y6, y7]) ∧ ds'.length ≤ ds.length + 62 ∧ (0 ≤ m' ∧ m' < 65537) := by
  obtain ⟨c, hc⟩ := atI_ints hk
  have h0 : ∀ z : Int, 0 ≤ z % 65537 ∧ z % 65537 < 65537 := fun z => ⟨Int.emod_nonneg _ (by decide), Int.emod_lt_of_pos _ (by decide)⟩
  generalize hcell : (if c < 0 then -c else c) = cell
  generalize hm' : (m * 48271 + cell % 1000003 + k) % 65537 = m'
  have hm2 : 0 ≤ m' ∧ m' < 65537 := by rw [← hm']; exact h0 _
  have b1 : -18446744073709551616 < m ∧ m < 18446744073709551616 := by omega
  have b2 : -18446744073709551616 < m' ∧ m' < 18446744073709551616 := by omega
  have hpow : (10 : Int) ^ 18 = 1000000000000000000 := by decide
  by_cases hbig : (1000000000000000000 : Int) ≤ cell
  · obtain ⟨ds', r', y7, e, hl'⟩ := Fd_loop (some (lsI sc)) x1 (some (.int k)) (some (.int cell)) m' 60 0 ds cell x7 (by omega)
    refine ⟨ds', m', some (.int cell), some (.int r'), y7, ?_, by omega, hm2⟩
    simp [sSeq, sNil, sSet, sRet, sIf, sMut, sAug, sFor, eVar, eC, e1, e2, aNil, aCons, eCall, cB, cNot, cAnd, cOr, fn1, dAdd, dSub, dMul, dMod, dFdiv, dPow, dAbs1, dInt1, dLen1, fApp, atD, gNm, aR1, aR2, dGtI, dGeI, dLtI, dLeI, Fd_one, lsI, dIx, hc, b1, hcell, hm', hpow, hbig]
    exact e
  · obtain ⟨ds', r', y7, e, hl'⟩ := Fd_loop (some (lsI sc)) x1 (some (.int k)) (some (.int cell)) m' 60 0 (ds ++ [cell % 997, (m' * 69621 + 5) % 65521 % 997]) 0 x7 (by simp; omega)
    refine ⟨ds', m', some (.int cell), some (.int r'), y7, ?_, by simp at hl'; omega, hm2⟩
    have l1 : ds.length < 16777216 := by omega
    have l2 : ds.length + 1 < 16777216 := by omega
    simp [sSeq, sNil, sSet, sRet, sIf, sMut, sAug, sFor, eVar, eC, e1, e2, aNil, aCons, eCall, cB, cNot, cAnd, cOr, fn1, dAdd, dSub, dMul, dMod, dFdiv, dPow, dAbs1, dInt1, dLen1, fApp, atD, gNm, aR1, aR2, dGtI, dGeI, dLtI, dLeI, Fd_one, lsI, dIx, hc, b1, b2, hcell, hm', hpow, hbig, l1, l2]
    simpa [lsI] using e
theorem Fd_two_step (x0 x1 x5 x6 x7 : Option D) (ds : List Int) (k m : Int) (hm : 0 ≤ m ∧ m < 65537) (hl : ds.length < 16777216) : ∃ m', Fd_two [x0, x1, some (lsI ds), some (.int m), some (.int k), x5, x6, x7] = some (.nx [x0, x1, some (lsI (ds ++ [m' % 997])), some (.int m'), some (.int k), x5, x6, x7]) ∧ (0 ≤ m' ∧ m' < 65537) := by
  have b1 : -18446744073709551616 < m ∧ m < 18446744073709551616 := by omega
  refine ⟨(m * 16807 + k + 1) % 65537, ?_, Int.emod_nonneg _ (by decide), Int.emod_lt_of_pos _ (by decide)⟩
  simp [sSeq, sNil, sSet, sRet, sIf, sMut, sAug, sFor, eVar, eC, e1, e2, aNil, aCons, eCall, cB, cNot, cAnd, cOr, fn1, dAdd, dSub, dMul, dMod, dFdiv, dPow, dAbs1, dInt1, dLen1, fApp, atD, gNm, aR1, aR2, dGtI, dGeI, dLtI, dLeI, Fd_two, lsI, b1, hl]
theorem Fd_loop1 (sc : List Int) (x1 : Option D) : ∀ (n : Nat) (lo : Int) (ds : List Int) (m : Int) (x4 x5 x6 x7 : Option D), 0 ≤ lo → lo + n ≤ sc.length → (0 ≤ m ∧ m < 65537) → ds.length + 62 * n ≤ 10000 → ∃ ds' m' y4 y5 y6 y7, forGo (gNm 4) Fd_one (rangeD lo n) [some (lsI sc), x1, some (lsI ds), some (.int m), x4, x5, x6, x7] = some (.nx [some (lsI sc), x1, some (lsI ds'), some (.int m'), y4, y5, y6, y7]) ∧ ds'.length ≤ ds.length + 62 * n ∧ (0 ≤ m' ∧ m' < 65537)
  | 0, lo, ds, m, x4, x5, x6, x7, _, _, hm, _ => ⟨ds, m, x4, x5, x6, x7, rfl, by omega, hm⟩
  | n + 1, lo, ds, m, x4, x5, x6, x7, h0, h1, hm, hl => by
    obtain ⟨ds1, m1, a5, a6, a7, e1, l1, hm1⟩ := Fd_one_step sc ds lo m x1 x5 x6 x7 ⟨h0, by omega⟩ hm (by omega)
    obtain ⟨ds2, m2, y4, y5, y6, y7, e2, l2, hm2⟩ := Fd_loop1 sc x1 n (lo + 1) ds1 m1 (some (.int lo)) a5 a6 a7 (by omega) (by omega) hm1 (by omega)
    refine ⟨ds2, m2, y4, y5, y6, y7, ?_, by omega, hm2⟩
    rw [rangeD, forGo]
    show (match Fd_one [some (lsI sc), x1, some (lsI ds), some (.int m), some (.int lo), x5, x6, x7] with
      | some (.nx ρ2) => forGo (gNm 4) Fd_one (rangeD (lo + 1) n) ρ2
      | o => o) = _
    rw [e1]
    exact e2
theorem Fd_loop2 (x0 x1 x5 x6 x7 : Option D) : ∀ (n : Nat) (lo : Int) (ds : List Int) (m : Int) (x4 : Option D), (0 ≤ m ∧ m < 65537) → ds.length + n ≤ 16777216 → ∃ ds' m' y4, forGo (gNm 4) Fd_two (rangeD lo n) [x0, x1, some (lsI ds), some (.int m), x4, x5, x6, x7] = some (.nx [x0, x1, some (lsI ds'), some (.int m'), y4, x5, x6, x7])
  | 0, lo, ds, m, x4, _, _ => ⟨ds, m, x4, rfl⟩
  | n + 1, lo, ds, m, x4, hm, hl => by
    obtain ⟨m1, e1, hm1⟩ := Fd_two_step x0 x1 x5 x6 x7 ds lo m hm (by omega)
    obtain ⟨ds2, m2, y4, e2⟩ := Fd_loop2 x0 x1 x5 x6 x7 n (lo + 1) (ds ++ [m1 % 997]) m1 (some (.int lo)) hm1 (by simp; omega)
    refine ⟨ds2, m2, y4, ?_⟩
    rw [rangeD, forGo]
    show (match Fd_two [x0, x1, some (lsI ds), some (.int m), some (.int lo), x5, x6, x7] with
      | some (.nx ρ2) => forGo (gNm 4) Fd_two (rangeD (lo + 1) n) ρ2
      | o => o) = _
    rw [e1]
    exact e2
theorem cutD_ints (ds : List Int) (lo hi : Option Int) : ∃ es : List Int, cutD (ds.map PyData.int) lo hi = es.map PyData.int := by
  unfold cutD
  exact ⟨(ds.drop _).take _, by rw [List.map_take, List.map_drop]⟩
def Φ_draws : List D → Option D := runB 2 8 F_draws
theorem runB_rt {np n : Nat} {F : Sf} {ds : List D} {ρ : Sl} {d : D} (hl : ds.length = np) (hρ : ds.map some ++ List.replicate (n - np) none = ρ) (h : F ρ = some (.rt d)) : runB np n F ds = some d := by
  unfold runB
  rw [if_pos hl, hρ, h]
theorem sSeq_nx {a b : Sf} {ρ ρ1 : Sl} (h : a ρ = some (.nx ρ1)) : sSeq a b ρ = b ρ1 := by rw [sSeq, h]
theorem sFor_nx {it : Af} {t : Gf} {b : Sf} {ρ : Sl} {ds : List D} (h : it ρ = some ds) : sFor it t b ρ = forGo t b ds ρ := by rw [sFor, h]
theorem aR1_len {i : Nat} {ρ : Sl} {ds : List Int} (h : eVar i ρ = some (lsI ds)) (hl : ds.length ≤ 10000) : aR1 (aCons (eCall (fn1 dLen1) (aCons (eVar i) aNil)) aNil) ρ = some (rangeD 0 ds.length) := by
  have b : (ds.length : Int) < 4611686018427387904 := by omega
  have b2 : (-4611686018427387904 : Int) ≤ ds.length := by omega
  unfold aR1 aCons eCall
  simp only [aCons, aNil, h, fn1, lsI, dLen1, List.length_map, b, b2, and_self, if_true, Int.toNat_natCast]
theorem aR1_var {i : Nat} {ρ : Sl} {n : Nat} (h : eVar i ρ = some (.int n)) (hl : n ≤ 10000) : aR1 (aCons (eVar i) aNil) ρ = some (rangeD 0 n) := by
  have b : (n : Int) < 4611686018427387904 := by omega
  have b2 : (-4611686018427387904 : Int) ≤ n := by omega
  unfold aR1 aCons aNil
  rw [h]
  simp only [b, b2, and_self, if_true, Int.toNat_natCast]
theorem draws_many (sc : List Int) (many : Nat) (h : sc.length ≤ 63) (hm : many ≤ 1000) : ∃ ds : List Int, Φ_draws [lsI sc, .int many] = some (lsI ds) := by
  obtain ⟨ds1, m1, y4, y5, y6, y7, e1, l1, hm1⟩ := Fd_loop1 sc (some (.int many)) sc.length 0 [] 7 none none none none (by omega) (by omega) (by omega) (by simp; omega)
  obtain ⟨ds2, m2, z4, e2⟩ := Fd_loop2 (some (lsI sc)) (some (.int many)) y5 y6 y7 many 0 ds1 m1 y4 hm1 (by simp at l1; omega)
  obtain ⟨es, e3⟩ := cutD_ints ds2 none (some many)
  refine ⟨es, ?_⟩
  have key : F_draws [some (lsI sc), some (.int many), none, none, none, none, none, none] = some (.rt (lsI es)) := by
    unfold F_draws
    rw [sSeq_nx (ρ1 := [some (lsI sc), some (.int many), some (lsI []), none, none, none, none, none]) rfl]
    rw [sSeq_nx (ρ1 := [some (lsI sc), some (.int many), some (lsI []), some (.int 7), none, none, none, none]) rfl]
    rw [sSeq_nx (by rw [sFor_nx (aR1_len rfl (by omega))]; exact e1)]
    rw [sSeq_nx (by rw [sFor_nx (aR1_var rfl (by omega))]; exact e2)]
    have e4 : eSl (eVar 2) pNo (pAt (eVar 1)) [some (lsI sc), some (.int many), some (lsI ds2), some (.int m2), z4, y5, y6, y7] = some (lsI es) := by
      show some (PyData.list (cutD (ds2.map PyData.int) none (some (many : Int)))) = _
      rw [e3]
      rfl
    rw [sRet, e4]
  exact runB_rt rfl (ρ := [some (lsI sc), some (.int many), none, none, none, none, none, none]) rfl key
theorem draws_ints (sc : List Int) (h : sc.length ≤ 63) : ∃ ds : List Int, Φ_draws [lsI sc, .int 200] = some (lsI ds) := draws_many sc 200 h (by decide)

/-! ### the next draw -/
def dW (ds : List Int) (n : Int) : D := mkK [(.str "draws", lsI ds), (.str "at", .int n)]
def F_next : Xf := (zSeq (sPutA (fun i j => i + j) 0 (eC (.str "at")) (eC (.int 1))) (zEnd (sSeq (sIf (cB (e2 dGt (e2 dIx (eVar 0) (eC (.str "at"))) (eCall (fn1 dLen1) (aCons (e2 dIx (eVar 0) (eC (.str "draws"))) aNil)))) (sRet (eC (.int 0))) sNil) (sRet (e2 dMod (eCall (fn1 dInt1) (aCons (e2 dIx (e2 dIx (eVar 0) (eC (.str "draws"))) (e2 dSub (e2 dIx (eVar 0) (eC (.str "at"))) (eC (.int 1)))) aNil)) (eVar 1))))))
def Φ_next : D → List D → Option (D × D) := runE 2 2 F_next
theorem look_at (ds : List Int) (n : Int) : dLook (dW ds n) (.str "at") = some (some (.int n)) := rfl
theorem look_draws (ds : List Int) (n : Int) : dLook (dW ds n) (.str "draws") = some (some (lsI ds)) := rfl
theorem put_at (ds : List Int) (n m : Int) : dPut (dW ds n) (.str "at") (.int m) = some (dW ds m) := rfl
theorem ix_at (ds : List Int) (n : Int) : dIx (dW ds n) (.str "at") = some (.int n) := rfl
theorem ix_draws (ds : List Int) (n : Int) : dIx (dW ds n) (.str "draws") = some (lsI ds) := rfl
theorem next_val (ds : List Int) (n m : Int) (hn : 0 ≤ n) (hm : 0 < m) : ∃ r : Int, 0 ≤ r ∧ r < m ∧ Φ_next (dW ds n) [.int m] = some (.int r, dW ds (n + 1)) := by
  by_cases h : (ds.length : Int) < n + 1
  · refine ⟨0, by omega, hm, ?_⟩
    have key : F_next [some (dW ds n), some (.int m)] = some (.int 0, [some (dW ds (n + 1))]) := by
      have e1 : sPutA (fun i j => i + j) 0 (eC (.str "at")) (eC (.int 1)) [some (dW ds n), some (.int m)] = some (.nx [some (dW ds (n + 1)), some (.int m)]) := by
        simp [sSeq, sNil, sSet, sRet, sIf, sMut, sAug, sFor, eVar, eC, e1, e2, aNil, aCons, eCall, cB, cNot, cAnd, cOr, fn1, dAdd, dSub, dMul, dMod, dFdiv, dPow, dAbs1, dInt1, dLen1, fApp, atD, gNm, aR1, aR2, dGtI, dGeI, dLtI, dLeI, sPutA, look_at, put_at]
      rw [F_next, zSeq, e1]
      show zEnd _ [some (dW ds (n + 1)), some (.int m)] = _
      have e2 : (sSeq (sIf (cB (e2 dGt (e2 dIx (eVar 0) (eC (.str "at"))) (eCall (fn1 dLen1) (aCons (e2 dIx (eVar 0) (eC (.str "draws"))) aNil)))) (sRet (eC (.int 0))) sNil) (sRet (e2 dMod (eCall (fn1 dInt1) (aCons (e2 dIx (e2 dIx (eVar 0) (eC (.str "draws"))) (e2 dSub (e2 dIx (eVar 0) (eC (.str "at"))) (eC (.int 1)))) aNil)) (eVar 1)))) [some (dW ds (n + 1)), some (.int m)] = some (.rt (.int 0)) := by
        simp [sSeq, sNil, sSet, sRet, sIf, sMut, sAug, sFor, eVar, eC, e1, e2, aNil, aCons, eCall, cB, cNot, cAnd, cOr, fn1, dAdd, dSub, dMul, dMod, dFdiv, dPow, dAbs1, dInt1, dLen1, fApp, atD, gNm, aR1, aR2, dGtI, dGeI, dLtI, dLeI, ix_at, ix_draws, lsI, h]
      unfold zEnd
      rw [e2]
      rfl
    show (match F_next [some (dW ds n), some (.int m)] with
      | some (d, [some d1]) => some (d, d1)
      | _ => none) = _
    rw [key]
  · obtain ⟨c, hc⟩ := atI_ints (sc := ds) (k := n) ⟨hn, by omega⟩
    refine ⟨c % m, Int.emod_nonneg _ (by omega), Int.emod_lt_of_pos _ hm, ?_⟩
    have key : F_next [some (dW ds n), some (.int m)] = some (.int (c % m), [some (dW ds (n + 1))]) := by
      have e1 : sPutA (fun i j => i + j) 0 (eC (.str "at")) (eC (.int 1)) [some (dW ds n), some (.int m)] = some (.nx [some (dW ds (n + 1)), some (.int m)]) := by
        simp [sSeq, sNil, sSet, sRet, sIf, sMut, sAug, sFor, eVar, eC, e1, e2, aNil, aCons, eCall, cB, cNot, cAnd, cOr, fn1, dAdd, dSub, dMul, dMod, dFdiv, dPow, dAbs1, dInt1, dLen1, fApp, atD, gNm, aR1, aR2, dGtI, dGeI, dLtI, dLeI, sPutA, look_at, put_at]
      rw [F_next, zSeq, e1]
      show zEnd _ [some (dW ds (n + 1)), some (.int m)] = _
      have e2 : (sSeq (sIf (cB (e2 dGt (e2 dIx (eVar 0) (eC (.str "at"))) (eCall (fn1 dLen1) (aCons (e2 dIx (eVar 0) (eC (.str "draws"))) aNil)))) (sRet (eC (.int 0))) sNil) (sRet (e2 dMod (eCall (fn1 dInt1) (aCons (e2 dIx (e2 dIx (eVar 0) (eC (.str "draws"))) (e2 dSub (e2 dIx (eVar 0) (eC (.str "at"))) (eC (.int 1)))) aNil)) (eVar 1)))) [some (dW ds (n + 1)), some (.int m)] = some (.rt (.int (c % m))) := by
        simp [sSeq, sNil, sSet, sRet, sIf, sMut, sAug, sFor, eVar, eC, e1, e2, aNil, aCons, eCall, cB, cNot, cAnd, cOr, fn1, dAdd, dSub, dMul, dMod, dFdiv, dPow, dAbs1, dInt1, dLen1, fApp, atD, gNm, aR1, aR2, dGtI, dGeI, dLtI, dLeI, ix_at, ix_draws, lsI, h]
        simp [sSeq, sNil, sSet, sRet, sIf, sMut, sAug, sFor, eVar, eC, e1, e2, aNil, aCons, eCall, cB, cNot, cAnd, cOr, fn1, dAdd, dSub, dMul, dMod, dFdiv, dPow, dAbs1, dInt1, dLen1, fApp, atD, gNm, aR1, aR2, dGtI, dGeI, dLtI, dLeI, dIx, hc, hm]
      unfold zEnd
      rw [e2]
      rfl
    show (match F_next [some (dW ds n), some (.int m)] with
      | some (d, [some d1]) => some (d, d1)
      | _ => none) = _
    rw [key]

/-! ### the law's own loop -/
def F_lawT (Φd : List D → Option D) (Φh : D → List D → Option (D × D)) : Sf := (sSeq (sSet 1 (eDisp (mkK []) (pCons (eC (.str "draws")) (eCall Φd (aCons (eVar 0) (aCons (eC (.int 200)) aNil))) (pCons (eC (.str "at")) (eC (.int 0)) pNil)))) (sSeq (sFor (aR1 (aCons (eC (.int 4)) aNil)) (gNm 2) (sIfX (xNot (xB (xCall 1 Φh aNil))) (sRet (eC (.bool false))) sNil)) (sRet (eC (.bool true)))))
def F_turn (Φh : D → List D → Option (D × D)) : Sf := sIfX (xNot (xB (xCall 1 Φh aNil))) (sRet (eC (.bool false))) sNil
theorem turn_nx {Φh : D → List D → Option (D × D)} {x0 x2 : Option D} {d d' : D} (e1 : Φh d [] = some (.bool true, d')) : F_turn Φh [x0, some d, x2] = some (.nx [x0, some d', x2]) := by
  simp [sSeq, sNil, sSet, sRet, sIf, sMut, sAug, sFor, eVar, eC, e1, e2, aNil, aCons, eCall, cB, cNot, cAnd, cOr, fn1, dAdd, dSub, dMul, dMod, dFdiv, dPow, dAbs1, dInt1, dLen1, fApp, atD, gNm, aR1, aR2, dGtI, dGeI, dLtI, dLeI, F_turn, sIfX, xNot, xB, xCall, e1]
theorem law_loop {Φh : D → List D → Option (D × D)} (hh : ∀ (ds : List Int) (n : Int), 0 ≤ n → ∃ n' : Int, 0 ≤ n' ∧ Φh (dW ds n) [] = some (.bool true, dW ds n')) (ds : List Int) (x0 : Option D) : ∀ (k : Nat) (lo : Int) (n : Int) (x2 : Option D), 0 ≤ n → ∃ n' y2, forGo (gNm 2) (F_turn Φh) (rangeD lo k) [x0, some (dW ds n), x2] = some (.nx [x0, some (dW ds n'), y2])
  | 0, lo, n, x2, _ => ⟨n, x2, rfl⟩
  | k + 1, lo, n, x2, hn => by
    obtain ⟨n1, hn1, e1⟩ := hh ds n hn
    obtain ⟨n2, y2, e2⟩ := law_loop hh ds x0 k (lo + 1) n1 (some (.int lo)) hn1
    refine ⟨n2, y2, ?_⟩
    rw [rangeD, forGo]
    have e3 : gNm 2 (.int lo) [x0, some (dW ds n), x2] = some [x0, some (dW ds n), some (.int lo)] := rfl
    simp only [e3, turn_nx e1]
    exact e2
theorem law_w {Φd : List D → Option D} {sc ds : List Int} (e : Φd [lsI sc, .int 200] = some (lsI ds)) : eDisp (mkK []) (pCons (eC (.str "draws")) (eCall Φd (aCons (eVar 0) (aCons (eC (.int 200)) aNil))) (pCons (eC (.str "at")) (eC (.int 0)) pNil)) [some (lsI sc), none, none] = some (dW ds 0) := by
  have e1 : eCall Φd (aCons (eVar 0) (aCons (eC (.int 200)) aNil)) [some (lsI sc), none, none] = some (lsI ds) := e
  unfold eDisp pCons
  simp only [e1]
  rfl
theorem four_turns (ρ : Sl) : aR1 (aCons (eC (.int 4)) aNil) ρ = some (rangeD 0 4) := rfl
theorem law_true (Φh : D → List D → Option (D × D)) (hh : ∀ (ds : List Int) (n : Int), 0 ≤ n → ∃ n' : Int, 0 ≤ n' ∧ Φh (dW ds n) [] = some (.bool true, dW ds n')) (sc : List Int) (h : sc.length ≤ 63) : runB 1 3 (F_lawT Φ_draws Φh) [lsI sc] = some (.bool true) := by
  obtain ⟨ds, e⟩ := draws_ints sc h
  obtain ⟨n', y2, e4⟩ := law_loop hh ds (some (lsI sc)) 4 0 0 none (by decide)
  have key : F_lawT Φ_draws Φh [some (lsI sc), none, none] = some (.rt (.bool true)) := by
    unfold F_lawT
    rw [sSeq_nx (ρ1 := [some (lsI sc), some (dW ds 0), none]) (by rw [sSet, law_w e]; rfl)]
    rw [sSeq_nx (by rw [sFor_nx (four_turns _)]; exact e4)]
    rfl
  exact runB_rt rfl (ρ := [some (lsI sc), none, none]) rfl key
end DL
namespace DL
open PySem PySem.Spec PyProof.Rows L2

/-! ### one step each -/
theorem aCons_eq {a : Ef} {r : Af} {ρ : Sl} {d : D} {ds : List D} (h : a ρ = some d) (h' : r ρ = some ds) : aCons a r ρ = some (d :: ds) := by rw [aCons, h]; simp only [h']
theorem aOne_eq {a : Ef} {ρ : Sl} {d : D} (h : a ρ = some d) : aCons a aNil ρ = some [d] := aCons_eq h rfl
theorem e1_eq {F : D → Option D} {a : Ef} {ρ : Sl} {d : D} {r : Option D} (h : a ρ = some d) (hr : F d = r) : e1 F a ρ = r := by rw [e1, h]; exact hr
theorem e2_eq {F : D → D → Option D} {a b : Ef} {ρ : Sl} {d e : D} {r : Option D} (h : a ρ = some d) (h' : b ρ = some e) (hr : F d e = r) : e2 F a b ρ = r := by rw [e2, h]; simp only [h']; exact hr
theorem eCall_eq {Φ : List D → Option D} {a : Af} {ρ : Sl} {ds : List D} {r : Option D} (h : a ρ = some ds) (hr : Φ ds = r) : eCall Φ a ρ = r := by rw [eCall, h]; exact hr
theorem eSeq_eq {mk : List D → D} {a : Af} {ρ : Sl} {ds : List D} (h : a ρ = some ds) (hk : okSeq ds = true) : eSeq mk a ρ = some (mk ds) := by rw [eSeq, h]; simp only [hk, if_true]
theorem eMeth_eq {F : List D → Option D} {a : Ef} {fs : Af} {ρ : Sl} {d : D} {ds : List D} {r : Option D} (h : a ρ = some d) (h' : fs ρ = some ds) (hr : F (d :: ds) = r) : eMeth F a fs ρ = r := by rw [eMeth, h]; simp only [h']; exact hr
theorem cB_eq {a : Ef} {ρ : Sl} {b : Bool} (h : a ρ = some (.bool b)) : cB a ρ = some b := by rw [cB, h]
theorem cOr_ff {a b : Tf} {ρ : Sl} {r : Option Bool} (h : a ρ = some false) (h' : b ρ = r) : cOr a b ρ = r := by rw [cOr, h]; exact h'
theorem cOr_tt {a b : Tf} {ρ : Sl} (h : a ρ = some true) : cOr a b ρ = some true := by rw [cOr, h]
theorem cAnd_tt {a b : Tf} {ρ : Sl} {r : Option Bool} (h : a ρ = some true) (h' : b ρ = r) : cAnd a b ρ = r := by rw [cAnd, h]; exact h'
theorem cAnd_ff {a b : Tf} {ρ : Sl} (h : a ρ = some false) : cAnd a b ρ = some false := by rw [cAnd, h]
theorem cNot_eq {a : Tf} {ρ : Sl} {b : Bool} (h : a ρ = some b) : cNot a ρ = some (!b) := by rw [cNot, h]
theorem eAnd_tt {a b : Ef} {ρ : Sl} {r : Option D} (h : a ρ = some (.bool true)) (h' : b ρ = r) : eAnd a b ρ = r := by rw [eAnd, h]; exact h'
theorem sIf_tt {c : Tf} {a b : Sf} {ρ : Sl} {r : Option Out} (h : c ρ = some true) (h' : a ρ = r) : sIf c a b ρ = r := by rw [sIf, h]; exact h'
theorem sIf_ff {c : Tf} {a b : Sf} {ρ : Sl} {r : Option Out} (h : c ρ = some false) (h' : b ρ = r) : sIf c a b ρ = r := by rw [sIf, h]; exact h'
theorem eIf_tt {c : Tf} {a b : Ef} {ρ : Sl} {r : Option D} (h : c ρ = some true) (h' : a ρ = r) : eIf c a b ρ = r := by rw [eIf, h]; exact h'
theorem eIf_ff {c : Tf} {a b : Ef} {ρ : Sl} {r : Option D} (h : c ρ = some false) (h' : b ρ = r) : eIf c a b ρ = r := by rw [eIf, h]; exact h'
theorem sSet_eq {i : Nat} {f : Ef} {ρ : Sl} {d : D} (h : f ρ = some d) : sSet i f ρ = some (.nx (ρ.set i (some d))) := by rw [sSet, h]
theorem sSetX_eq {i : Nat} {f : Xf} {ρ ρ1 : Sl} {d : D} (h : f ρ = some (d, ρ1)) : sSetX i f ρ = some (.nx (ρ1.set i (some d))) := by rw [sSetX, h]
theorem sRet_eq {f : Ef} {ρ : Sl} {d : D} (h : f ρ = some d) : sRet f ρ = some (.rt d) := by rw [sRet, h]
theorem xFn_eq {F : List D → Option D} {a : XAf} {ρ ρ1 : Sl} {ds : List D} {d : D} (h : a ρ = some (ds, ρ1)) (hF : F ds = some d) : xFn F a ρ = some (d, ρ1) := by rw [xFn, h]; simp only [hF]
theorem xOne_eq {a : Xf} {ρ ρ1 : Sl} {d : D} (h : a ρ = some (d, ρ1)) : xCons a xNil ρ = some ([d], ρ1) := by rw [xCons, h]; rfl
/-! ### comprehensions, by what they give -/
theorem lcGo_eq {t : Gf} {c : Tf} {el : Ef} {ρ : Sl} (T : D → Sl) (p : D → Bool) (g : D → D) : ∀ ds : List D, (∀ d ∈ ds, t d ρ = some (T d) ∧ c (T d) = some (p d) ∧ (p d = true → el (T d) = some (g d) ∧ flatD (g d) = true)) → lcGo t c el ρ ds = some ((ds.filter p).map g)
  | [], _ => rfl
  | d :: ds, h => by
    obtain ⟨h1, h2, h3⟩ := h d List.mem_cons_self
    have ih := lcGo_eq T p g ds fun e he => h e (List.mem_cons_of_mem _ he)
    rw [lcGo, h1]
    simp only [h2]
    cases hp : p d with
    | false => simp only [hp]; rw [ih, List.filter_cons_of_neg (by rw [hp]; simp)]
    | true =>
      obtain ⟨h4, h5⟩ := h3 hp
      simp only [h4, h5, if_true, ih]
      rw [List.filter_cons_of_pos hp, List.map_cons]
theorem eLc_eq {vs : List Nat} {it : Af} {t : Gf} {c : Tf} {el : Ef} {ρ : Sl} {ds : List D} (T : D → Sl) (p : D → Bool) (g : D → D) (hi : it ρ = some ds) (hl : ds.length ≤ 16777216) (h : ∀ d ∈ ds, t d (wipeD ρ vs) = some (T d) ∧ c (T d) = some (p d) ∧ (p d = true → el (T d) = some (g d) ∧ flatD (g d) = true)) : eLc vs it t c el ρ = some (.list ((ds.filter p).map g)) := by
  unfold eLc
  rw [hi]
  simp only [lcGo_eq T p g ds h]
  rw [if_pos]
  rw [List.length_map]
  exact Nat.le_trans (List.length_filter_le _ _) hl
/-- with no condition -/
theorem eLc_map {vs : List Nat} {it : Af} {t : Gf} {el : Ef} {ρ : Sl} {ds : List D} (T : D → Sl) (g : D → D) (hi : it ρ = some ds) (hl : ds.length ≤ 16777216) (h : ∀ d ∈ ds, t d (wipeD ρ vs) = some (T d) ∧ el (T d) = some (g d) ∧ flatD (g d) = true) : eLc vs it t cYes el ρ = some (.list (ds.map g)) := by
  have := eLc_eq (c := cYes) T (fun _ => true) g hi hl fun d hd => ⟨(h d hd).1, rfl, fun _ => (h d hd).2⟩
  rw [this, List.filter_eq_self.mpr (by intros; rfl)]
theorem rangeD_mem {n : Nat} {lo : Int} {d : D} (h : d ∈ rangeD lo n) : ∃ k : Int, d = .int k ∧ lo ≤ k ∧ k < lo + n := by
  obtain ⟨j, hj, e⟩ := List.getElem_of_mem h
  rw [rangeD_len] at hj
  have := rangeD_get n lo j hj
  rw [List.getElem?_eq_getElem (by rw [rangeD_len]; exact hj), e] at this
  exact ⟨lo + j, Option.some.inj this, by omega, by omega⟩
theorem rangeD_map : ∀ (n : Nat) (lo : Int), rangeD lo n = (List.range n).map fun (k : Nat) => PyData.int (lo + k)
  | 0, _ => rfl
  | n + 1, lo => by
    rw [rangeD, rangeD_map n (lo + 1), List.range_succ_eq_map, List.map_cons, List.map_map]
    congr 1
    · simp
    · refine List.map_congr_left fun k _ => ?_
      show PyData.int _ = PyData.int _
      congr 1
      push_cast
      omega
/-- a tuple of whole numbers -/
def tpI (hs : List Int) : D := .tuple (hs.map .int)
theorem ix_tpI {hs : List Int} {k : Int} (h0 : 0 ≤ k) (h1 : k < hs.length) : dIx (tpI hs) (.int k) = some (.int (hs.getD k.toNat 0)) := by
  have h : k.toNat < hs.length := by omega
  show atI (hs.map PyData.int) k = _
  unfold atI ixN
  rw [List.length_map, if_pos h0, if_pos h1]
  simp [h, List.getD_eq_getElem?_getD]
theorem ix_lsI {hs : List Int} {k : Int} (h0 : 0 ≤ k) (h1 : k < hs.length) : dIx (lsI hs) (.int k) = some (.int (hs.getD k.toNat 0)) := ix_tpI h0 h1
theorem len_tpI (hs : List Int) : dLen1 (tpI hs) = some (.int hs.length) := by simp [dLen1, tpI]
theorem len_lsI (hs : List Int) : dLen1 (lsI hs) = some (.int hs.length) := by simp [dLen1, lsI]
theorem aR1_of {a : Af} {ρ : Sl} {j : Int} (h : a ρ = some [.int j]) (h1 : j < 4611686018427387904) (h2 : -4611686018427387904 ≤ j) : aR1 a ρ = some (rangeD 0 j.toNat) := by
  unfold aR1
  rw [h]
  simp only [h1, h2, and_self, if_true]
theorem aR2_of {a : Af} {ρ : Sl} {i j : Int} (h : a ρ = some [.int i, .int j]) (h0 : i < 4611686018427387904 ∧ -4611686018427387904 ≤ i) (h1 : j < 4611686018427387904) (h2 : -4611686018427387904 ≤ j) : aR2 a ρ = some (rangeD i (j - i).toNat) := by
  unfold aR2
  rw [h]
  simp only [h0, h1, h2, and_self, if_true]
/-! ### equal to itself -/
theorem plain0 : ∀ ds : List D, (∀ d ∈ ds, ∃ i, d = .int i) → PyData.canLayAll0 ds = true ∧ PyData.depthAll ds = 0
  | [], _ => ⟨rfl, rfl⟩
  | d :: ds, h => by
    obtain ⟨i, rfl⟩ := h d List.mem_cons_self
    obtain ⟨h1, h2⟩ := plain0 ds fun e he => h e (List.mem_cons_of_mem _ he)
    constructor
    · simp [PyData.canLayAll0, PyData.canLay0, h1]
    · simp [PyData.depthAll, PyData.depth, h2]
theorem okD_ints {ds : List D} (h : ∀ d ∈ ds, ∃ i, d = .int i) : okD (.tuple ds) = true ∧ okD (.list ds) = true := by
  obtain ⟨h1, h2⟩ := plain0 ds h
  constructor <;> simp [okD, SeqAt.shaped, PyData.canLay0, PyData.depth, h1, h2]
theorem dNe_same {d : D} (h : okD d = true) : dNe d d = some (.bool false) := by
  rw [dNe, h, SeqAt.eqv_refl d (SeqAt.canLay_of_shaped h)]
  rfl
theorem dEq_same {d : D} (h : okD d = true) : dEq d d = some (.bool true) := by
  rw [dEq, h, SeqAt.eqv_refl d (SeqAt.canLay_of_shaped h)]
  rfl
/-! ### what is drawn -/
def Draws (el : Xf) (P : Int → Prop) : Prop := ∀ (ds : List Int) (n : Int) (τ : Sl), 0 ≤ n → ∃ r, P r ∧ el (some (dW ds n) :: τ) = some (.int r, some (dW ds (n + 1)) :: τ)
theorem draws_next {m : Int} (hm : 0 < m) : Draws (xCall 0 Φ_next (aCons (eC (.int m)) aNil)) (fun r => 0 ≤ r ∧ r < m) := fun ds n τ hn => by
  obtain ⟨r, h1, h2, e⟩ := next_val ds n m hn hm
  refine ⟨r, ⟨h1, h2⟩, ?_⟩
  show (match Φ_next (dW ds n) [.int m] with
    | none => none
    | some (d, d1) => some (d, (some (dW ds n) :: τ).set 0 (some d1))) = _
  rw [e]
  rfl
theorem draws_add {el : Xf} {P : Int → Prop} (c : Int) (h : Draws el P) : Draws (x2 dAdd (xD (eC (.int c))) el) (fun r => P (r - c)) := fun ds n τ hn => by
  obtain ⟨r, h1, e⟩ := h ds n τ hn
  refine ⟨c + r, by show P (c + r - c); rw [show c + r - c = r by omega]; exact h1, ?_⟩
  show (match el (some (dW ds n) :: τ) with
    | none => none
    | some (e, ρ2) => match dAdd (.int c) e with
      | none => none
      | some r => some (r, ρ2)) = _
  rw [e]
  rfl
theorem draws_list {el : Xf} {P : Int → Prop} (h : Draws el P) {vs : List Nat} {j : Nat} {τ : Sl} (hw : ∀ w x : D, wipeD ((some w :: τ).set (j + 1) (some x)) vs = some w :: τ) (ds : List Int) : ∀ (es : List D) (n : Int), 0 ≤ n → ∃ rs : List Int, (∀ r ∈ rs, P r) ∧ rs.length = es.length ∧ lcGoX vs (j + 1) (xT cYes) el (some (dW ds n) :: τ) es = some (rs.map .int, some (dW ds (n + es.length)) :: τ)
  | [], n, _ => ⟨[], fun r hr => (by cases hr), rfl, by simp [lcGoX]⟩
  | e :: es, n, hn => by
    obtain ⟨r, hr, e1⟩ := h ds n (τ.set j (some e)) hn
    obtain ⟨rs, h1, h2, e2⟩ := draws_list h hw ds es (n + 1) (by omega)
    refine ⟨r :: rs, fun x hx => ?_, by simp [h2], ?_⟩
    · rcases List.mem_cons.mp hx with rfl | hx
      · exact hr
      · exact h1 x hx
    · rw [lcGoX]
      show (match el (some (dW ds n) :: τ.set j (some e)) with
        | none => none
        | some (x, ρ3) => if flatD x = true then (match lcGoX vs (j + 1) (xT cYes) el (wipeD ρ3 vs) es with
          | none => none
          | some (r, ρ4) => some (x :: r, ρ4)) else none) = _
      rw [e1]
      have e3 : wipeD (some (dW ds (n + 1)) :: τ.set j (some e)) vs = some (dW ds (n + 1)) :: τ := hw _ e
      simp only [flatD, if_true, e3, e2, List.map_cons, List.length_cons]
      rw [show n + 1 + (es.length : Int) = n + ((es.length + 1 : Nat) : Int) by push_cast; omega]
theorem zSeq_nx {F : Sf} {Z : Xf} {ρ ρ1 : Sl} (h : F ρ = some (.nx ρ1)) : zSeq F Z ρ = Z ρ1 := by rw [zSeq, h]
theorem runE_val {np n : Nat} {Z : Xf} {d0 : D} {ds : List D} {ρ : Sl} {d d1 : D} (hl : ds.length + 1 = np) (hρ : (d0 :: ds).map some ++ List.replicate (n - np) none = ρ) (h : Z ρ = some (d, [some d1])) : runE np n Z d0 ds = some (d, d1) := by
  unfold runE
  rw [if_pos hl, hρ, h]
theorem zEnd_val {F : Sf} {ρ : Sl} {kvs : List (D × D)} {d : D} (h0 : eVar 0 ρ = some (.dict kvs)) (h : F ρ = some (.rt d)) (hs : simpleD d = true) : zEnd F ρ = some (d, [some (.dict kvs)]) := by
  unfold zEnd
  rw [h0]
  simp only [h, hs, if_true]
/-! ### min and max of whole numbers -/
theorem okMin_ints {ds : List D} (h : ∀ d ∈ ds, ∃ i, d = .int i) : okMin ds = true := by
  have h2 := (plain0 ds h).2
  unfold okMin alikeB
  rw [h2]
  simp only [Bool.and_eq_true, List.all_eq_true, decide_eq_true_eq]
  refine ⟨⟨fun x hx y hy => ?_, fun x hx => ?_⟩, by omega⟩
  · obtain ⟨i, rfl⟩ := h x hx
    obtain ⟨j, rfl⟩ := h y hy
    rfl
  · obtain ⟨i, rfl⟩ := h x hx
    rfl
theorem mem_ints {hs : List Int} : ∀ d ∈ hs.map PyData.int, ∃ i, d = .int i := fun d hd => by
  obtain ⟨i, _, rfl⟩ := List.mem_map.mp hd
  exact ⟨i, rfl⟩
theorem max_tpI (h : Int) (hs : List Int) : dMax1 (tpI (h :: hs)) = some (.int (hs.foldl max h)) := by
  show (if okMin ((h :: hs).map .int) = true then some (PySem.W.maxD (.int h) (hs.map .int)) else none) = _
  rw [if_pos (okMin_ints mem_ints), PySem.W.maxD_ints]
theorem min_tpI (h : Int) (hs : List Int) : dMin1 (tpI (h :: hs)) = some (.int (hs.foldl min h)) := by
  show (if okMin ((h :: hs).map .int) = true then some (PySem.W.minD (.int h) (hs.map .int)) else none) = _
  rw [if_pos (okMin_ints mem_ints), PySem.W.minD_ints]
/-- a list of draws, as many as drawn -/
theorem draws_comp {el el0 : Xf} {P P0 : Int → Prop} (h : Draws el P) (h0 : Draws el0 P0) (hP : ∀ r, P0 r → 0 ≤ r ∧ r ≤ 1000) {vs : List Nat} {j : Nat} {τ : Sl} (hw : ∀ w x : D, wipeD ((some w :: τ).set (j + 1) (some x)) vs = some w :: τ) (hw0 : ∀ w : D, wipeD (some w :: τ) vs = some w :: τ) (hk : ∀ w w' : D, keepD (some w :: τ) (some w' :: τ) vs = some w' :: τ) (ds : List Int) (n : Int) (hn : 0 ≤ n) :
    ∃ (r : Int) (rs : List Int), P0 r ∧ (∀ x ∈ rs, P x) ∧ (rs.length : Int) = r ∧ xLc vs (xR1 (xCons el0 xNil)) (j + 1) (xT cYes) el (some (dW ds n) :: τ) = some (lsI rs, some (dW ds (n + 1 + r)) :: τ) := by
  obtain ⟨r, hr, e0⟩ := h0 ds n τ hn
  obtain ⟨r0, r1⟩ := hP r hr
  obtain ⟨rs, h1, h2, e1⟩ := draws_list h hw ds (rangeD 0 r.toNat) (n + 1) (by omega)
  rw [rangeD_len] at h2 e1
  refine ⟨r, rs, hr, h1, by omega, ?_⟩
  have e2 : xR1 (xCons el0 xNil) (some (dW ds n) :: τ) = some (rangeD 0 r.toNat, some (dW ds (n + 1)) :: τ) := by
    rw [xR1, xOne_eq e0]
    simp only [show r < 4611686018427387904 ∧ -4611686018427387904 ≤ r by omega, and_self, if_true]
  rw [xLc, e2]
  simp only [hw0, e1, hk]
  rw [if_pos (by rw [List.length_map]; omega), show n + 1 + (r.toNat : Int) = n + 1 + r by omega]
  rfl
theorem next_call {m : Int} (hm : 0 < m) {a : Af} {ds : List Int} {n : Int} {τ : Sl} (hn : 0 ≤ n) (ha : a (some (dW ds n) :: τ) = some [.int m]) : ∃ r, 0 ≤ r ∧ r < m ∧ xCall 0 Φ_next a (some (dW ds n) :: τ) = some (.int r, some (dW ds (n + 1)) :: τ) := by
  obtain ⟨r, h1, h2, e⟩ := next_val ds n m hn hm
  refine ⟨r, h1, h2, ?_⟩
  show (match a (some (dW ds n) :: τ) with
    | none => none
    | some es => match Φ_next (dW ds n) es with
      | none => none
      | some (d, d1) => some (d, (some (dW ds n) :: τ).set 0 (some d1))) = _
  rw [ha]
  simp only [e]
  rfl
theorem x2_eq {F : D → D → Option D} {a b : Xf} {ρ ρ1 ρ2 : Sl} {d e r : D} (h : a ρ = some (d, ρ1)) (h' : b ρ1 = some (e, ρ2)) (hr : F d e = some r) : x2 F a b ρ = some (r, ρ2) := by rw [x2, h]; simp only [h', hr]
theorem xD_eq {f : Ef} {ρ : Sl} {d : D} (h : f ρ = some d) : xD f ρ = some (d, ρ) := by rw [xD, h]
theorem dqa_ints {K : PySem.W.Frag} {G : Hp} : ∀ ns : List Int, DqAll K G (ns.map V.int) (ns.map PyData.int)
  | [] => .nil
  | n :: ns => .cons (.int n) (dqa_ints ns)
/-- the law at its script -/
theorem law_start {P : Program} {w : World} {K : PySem.W.Frag} {H : Hp} {a : Addr} {ns : List Int} {Φ : List D → Option D} (hS : SqL K H a (ns.map V.int)) (h : Φ [lsI ns] = some (.bool true)) : spD P w K Φ [.ref a] H (fun v _ => v = .bl true) fun _ _ _ => False :=
  ⟨H, [lsI ns], .bool true, fun _ _ e => e, .cons (.inl (.lst hS (dqa_ints ns))) .nil, h, fun v H' G' s z => ObsT.bl (H := H') (.inl z)⟩
end DL
namespace DL
open PySem PySem.Spec PyProof.Rows L2

/-! ### dict(..) of a list of pairs, of a dict -/
def pairsD : List D → Option (List (D × D))
  | [] => some []
  | .tuple [k, v] :: r => match pairsD r with
    | some l => some ((k, v) :: l)
    | none => none
  | _ => none
def isTupD : D → Bool
  | .tuple _ => true
  | _ => false
def dDict1 : D → Option D
  | .list ds => match pairsD ds with
    | some [] => some (mkK [])
    | some ((k, v) :: l) => if l.length < 16777216 then (if isTupD k = true then putAll (mkT []) ((k, v) :: l) else putAll (mkK []) ((k, v) :: l)) else none
    | none => none
  | .dict ((.none, _) :: _) => none
  | .dict kvs => some (.dict kvs)
  | _ => none
section
variable {X : Cx} {pins : List (Addr × Obj)} {σ : L2.St} {s : Shared} {G H : Hp}
theorem pair_items (I : L2.Inv X pins σ H s) (g : ∀ a o, G a = some o → H a = some o) : ∀ {ds : List D} {xs : List V} {its : List Value} {prs : List (D × D)}, DqAll X.K G xs ds → Vals xs its → pairsD ds = some prs →
    ∃ (tas : List Addr) (vps : List (V × V)) (ps : List (Value × Value)), its = tas.map Value.ref ∧ VV vps ps ∧ PairT X.prog X.w X.K G vps prs ∧ tas.length = ps.length ∧ ∀ (j : Nat) (T : Addr) (p : Value × Value), tas[j]? = some T → ps[j]? = some p → s.heap.IsTuple T #[p.1, p.2]
  | [], _, _, _, z, rv, h => by
    cases z; cases rv; cases h
    exact ⟨[], [], [], rfl, .nil, .nil, rfl, fun j T p e => by simp at e⟩
  | d :: ds, _, _, _, z, rv, h => by
    cases z with
    | cons z1 z2 =>
      cases rv with
      | cons r1 r2 =>
        unfold pairsD at h
        split at h
        · rename_i heq; cases heq
        · rename_i k v rr heq
          cases heq
          split at h
          case h_2 => cases h
          rename_i l hl
          cases h
          obtain ⟨tas, vps, ps, e, vv, pt, hlen, ht⟩ := pair_items I g z2 r2 hl
          cases z1 with
          | tup hs ha =>
            rename_i a ys
            cases r1
            cases ha with
            | cons k1 k2 =>
              cases k2 with
              | cons k2 k3 =>
                cases k3
                obtain ⟨ti, rvt, p1, hz⟩ := I.tuple (SqT.up g hs.sq)
                obtain ⟨u1, u2, rfl, ru1, ru2⟩ := vals2 rvt
                refine ⟨a :: tas, (_, _) :: vps, (u1, u2) :: ps, by rw [e]; rfl, .cons ⟨ru1, ru2⟩ vv, .cons ⟨.inl k1, .inl k2⟩ pt, by simp [hlen], fun j T p e1 e2 => ?_⟩
                cases j with
                | zero =>
                  simp at e1 e2
                  subst e1 e2
                  exact p1
                | succ j => exact ht j T p (by simpa using e1) (by simpa using e2)
        · cases h
theorem carries_at {P : Program} {w : World} : ∀ {ws : List (Value × Value)} {rs : List (Key × Value)}, Carries (mixKind P w) ws rs → rs.length = ws.length ∧ ∀ (i : Nat) (key v : Value), ws[i]? = some (key, v) → ∃ k, rs[i]? = some (k, v) ∧ (mixKind P w).is k key = true
  | [], [], _ => ⟨rfl, fun i key v e => by simp at e⟩
  | (key, v) :: ws, (k, v') :: rs, c => by
    obtain ⟨h1, rfl, c'⟩ := c
    obtain ⟨h2, h3⟩ := carries_at c'
    refine ⟨by simp [h2], fun i key' v' e => ?_⟩
    cases i with
    | zero => simp at e; obtain ⟨rfl, rfl⟩ := e; exact ⟨k, rfl, h1⟩
    | succ i => simpa using h3 i key' v' (by simpa using e)
  | [], _ :: _, c => c.elim
  | _ :: _, [], c => c.elim
theorem carriesH_at {P : Program} {w : World} {h : Heap} : ∀ {ws : List (Value × Value)} {rs : List (NestedKey × Addr × Value)}, CarriesH (nestedKind P w) h ws rs → rs.length = ws.length ∧ (∀ (i : Nat) (key v : Value), ws[i]? = some (key, v) → ∃ k b, rs[i]? = some (k, b, v) ∧ key = .ref b) ∧ ∀ x ∈ rs, (nestedKind P w).is h x.1 x.2.1
  | [], [], _ => ⟨rfl, fun i key v e => by simp at e, fun x hx => by cases hx⟩
  | (key, v) :: ws, (k, b, v') :: rs, c => by
    obtain ⟨h1, rfl, h4, c'⟩ := c
    obtain ⟨h2, h3, h5⟩ := carriesH_at c'
    refine ⟨by simp [h2], fun i key' v' e => ?_, fun x hx => ?_⟩
    · cases i with
      | zero => simp at e; obtain ⟨rfl, rfl⟩ := e; exact ⟨k, b, rfl, h1⟩
      | succ i => simpa using h3 i key' v' (by simpa using e)
    · rcases List.mem_cons.mp hx with rfl | hx
      · exact h4
      · exact h5 x hx
  | [], _ :: _, c => c.elim
  | _ :: _, [], c => c.elim
theorem dict_made (hc : X.calm = true) (hu : X.A.units + 70 < cLine) {u : Value} {v : V} {d r : D} (I : L2.Inv X pins σ H s) (g : ∀ a o, G a = some o → H a = some o) (o : ObsT X.prog X.w X.K H G v d) (rv : RelV v u) (hF : dDict1 d = some r) {Q : Value → Shared → Prop} {E : Value → Shared → Prop}
    (q : ∀ ob' s', L2.Inv X pins σ (upd H s.heap.objs.size ob') s' → ObjD X.prog X.w X.K G s.heap.objs.size ob' r → Q (.ref s.heap.objs.size) s') : wpAny (model X.prog X.w) X.A (call (.type "dict") [u]) Q E s := by
  have hs := new_sys I
  unfold dDict1 at hF
  split at hF
  · rename_i ds
    obtain ⟨a, xs, rfl, hl, zz⟩ := o.list g
    obtain rfl : u = .ref a := rv
    obtain ⟨its, rv', pl, hz⟩ := I.list hl
    have main : ∀ prs, pairsD ds = some prs → prs.length ≤ 16777216 → (putAll (mkK []) prs = some r ∨ putAll (mkT []) prs = some r) → wpAny (model X.prog X.w) X.A (call (.type "dict") [.ref a]) Q E s := fun prs hp hlen hput => by
      obtain ⟨tas, vps, ps, e, vv, pt, hlt, ht⟩ := pair_items I g zz rv' hp
      subst e
      have hpl : ps.length = prs.length := by rw [← vv_len vv]; exact paired_len pt
      have items : PairItems s.heap (tas.map Value.ref).toArray (fun j => tas.getD j 0) ps := by
        refine ⟨by simp [hlt], fun j k v hj => ?_⟩
        have hjl : j < tas.length := by rw [hlt]; exact (List.getElem?_eq_some_iff.mp hj).1
        have e1 : tas[j]? = some (tas.getD j 0) := by rw [List.getD_eq_getElem?_getD, List.getElem?_eq_getElem hjl]; rfl
        exact ⟨by rw [List.getElem?_toArray, List.getElem?_map, e1]; rfl, .inl (ht j _ (k, v) e1 hj)⟩
      have pls : PlainSeq "list" s.heap a (tas.map Value.ref).toArray := by
        obtain ⟨ob, n, e1, e2, e3, e4⟩ := pl
        exact ⟨ob, n, e1, e2, e3, e4⟩
      rcases hput with hput | hput
      · obtain ⟨rs, kvs', c, e, z, hzz⟩ := carry_K (X := X) vv pt hput .nil
        obtain ⟨c1, c2⟩ := carries_at c
        refine PySem.call_dict_pairs (knd := mixKind X.prog X.w) (kvs := rs) (PairArg.list a _ (fun j => tas.getD j 0) ps) (I.ok.hd hc) ⟨pls, items⟩ ⟨c1, fun i key v e => c2 i key v e⟩ (by rw [sizeLine_eq]; omega) fun h' tk dd hk => ?_
        have hle : (merged [] rs).length ≤ sizeLine := by rw [z.len, sizeLine_eq]; exact hzz (by simp)
        obtain ⟨ob', e', rep'⟩ := repK_of dd hle hs
        subst e
        exact q _ _ (I.laid (t' := tk) (fun b u e => hk b u (by simp) e) (Nat.le_refl _) (kn_ok e')) (objD_mkK rep' z)
      · have hk0 : ∀ b key k, keyTup key = some k → Dq X.K G (.ref b) key → (nestedKind X.prog X.w).is s.heap k b := fun b key k e zb => key_is I e (dp_up zb g)
        obtain ⟨rs, kvs', c, e, z, hzz⟩ := carry_T (X := X) hk0 vv pt hput .nil
        obtain ⟨c1, c2, c3⟩ := carriesH_at c
        have stay : KeysStay (nestedKind X.prog X.w) s.heap s.heap.objs.size [] rs := fun h' hk x hx => (nestedKind_stays (prog := X.prog) (w := X.w)).stays (fun b o vs n e _ => hk b o (Nat.ne_of_lt (Heap.lt_size e)) (by simp) e) (c3 x hx)
        refine call_dict_pairsH (knd := nestedKind X.prog X.w) (ps := rs) (PairArg.list a _ (fun j => tas.getD j 0) ps) (I.ok.hd hc) (show X.A.units + 1 + 1 + 8 < cLine by omega) ⟨pls, items⟩ ⟨c1, fun i key v e => c2 i key v e⟩ stay (by rw [sizeLine_eq]; omega) fun h' tk dd hk => ?_
        have hle : (storedAllH [] rs).length ≤ sizeLine := by rw [z.len, sizeLine_eq]; exact hzz (by simp)
        obtain ⟨ob', e', rep'⟩ := dictRep_of dd hle hs
        subst e
        exact q _ _ (I.laid (t' := tk) (fun b u e => hk b u (by simp) e) (Nat.le_refl _) (kn_ok e')) ⟨ob', _, rfl, rep', z⟩
    split at hF
    · rename_i hp; cases hF; exact main [] hp (by simp) (.inl rfl)
    · rename_i k v l hp
      split at hF
      case isFalse => cases hF
      rename_i hl'
      split at hF
      · exact main _ hp (by simp; omega) (.inr hF)
      · exact main _ hp (by simp; omega) (.inl hF)
    · cases hF
  · cases hF
  · rename_i kvs hne
    cases hF
    obtain ⟨p, o', rfl, hp, hob⟩ := o.dict g
    obtain rfl : u = .ref p := rv
    obtain ⟨ob, vs, rfl, rep, z⟩ := objD_K (fun x r e => hne x r (by rw [e])) hob
    refine kt_call_dict rep.sys (rep.ex _ (kn_get I hp)) rep.len fun h' dd hk => ?_
    obtain ⟨ob', e', rep'⟩ := repK_of dd rep.len hs
    exact q _ _ (I.laid (t' := s.toks) (fun b u e => (hk.2 b (Nat.ne_of_lt (Heap.lt_size e))).trans (Heap.get?_push_of_some _ e)) (Nat.le_refl _) (kn_ok e')) (objD_mkK rep' z)
  · cases hF
variable {O : List Nat} {e : Expr} {fs : Af} {pos p : Pos}
theorem df_dict (hc : X.calm = true) (hu : X.A.units + 70 < cLine) (hg : Gl X "dict") (hm : X.mg "dict" = none) (ha : DPA X O [e] fs) (he : starEach [e] X.env = [(false, eval e X.env)] := by rfl) : DF X O (.Call (.Name "dict" p) [e] [] pos) (eCall (fn1 dDict1) fs) := ⟨fun pins s σ H Q I ⟨B, G0, G, ρ, r, rr, hf, q⟩ => by
  unfold eCall at hf
  split at hf
  · cases hf
  rename_i ds hx
  refine wpAny_Call_Name_kw (ld_blt I hg hm boot_dict ?_ (by decide) (by decide))
  refine PyProof.Rows.callWith_type1 (thn (ha.run pos pins s σ H (fun vs H1 => ∃ G1, Stp H G H1 G1 ∧ ObsAll X.prog X.w X.K H1 G1 vs ds) I ⟨B, G0, G, ρ, ds, rr, hx, fun vs H1 G1 s1 z => ⟨G1, s1, z⟩⟩) fun us s1 ⟨vs, H1, I1, rv, G1, st1, za⟩ => ?_) he rfl
  obtain ⟨v, d, rfl, rfl, ox, hF⟩ := ob1 za hf
  obtain ⟨u, rfl, ru⟩ := vals1 rv
  have hn1 : H1 s1.heap.objs.size = none := I1.hok.fresh (Nat.le_refl _)
  refine dict_made hc hu I1 st1.gh ox ru hF fun ob' s2 I2 hob => ⟨V.ref s1.heap.objs.size, _, I2, rfl, ?_⟩
  have gn : G1 s1.heap.objs.size = none := by
    cases e : G1 s1.heap.objs.size with
    | none => rfl
    | some o => rw [st1.gh _ _ e] at hn1; cases hn1
  have hn : H s1.heap.objs.size = none := by
    cases e : H s1.heap.objs.size with
    | none => rfl
    | some o => rw [st1.hh _ _ e] at hn1; cases hn1
  exact q _ _ _ G1 (st1.trans (Stp.own st1.gh hn1)) hn upd_same gn hob⟩
end
end DL
namespace DL
open PySem PySem.Spec PyProof.Rows L2

/-! ### the first of the highest -/
def row (hs : List Int) (k : Nat) : D := .tuple [.int (-(hs.getD k 0)), .int (k : Int)]
theorem okPair : ∀ ds : List D, (∀ d ∈ ds, ∃ a b, d = .tuple [.int a, .int b]) → PyData.canLayAll0 ds = true ∧ PyData.depthAll ds ≤ 1
  | [], _ => ⟨rfl, by simp [PyData.depthAll]⟩
  | d :: ds, h => by
    obtain ⟨a, b, rfl⟩ := h d List.mem_cons_self
    obtain ⟨h1, h2⟩ := okPair ds fun e he => h e (List.mem_cons_of_mem _ he)
    constructor
    · simp [PyData.canLayAll0, PyData.canLay0, h1]
    · simp [PyData.depthAll, PyData.depth]; omega
theorem okMin_pairs {ds : List D} (h : ∀ d ∈ ds, ∃ a b, d = .tuple [.int a, .int b]) : okMin ds = true := by
  have h2 := (okPair ds h).2
  unfold okMin alikeB
  simp only [Bool.and_eq_true, List.all_eq_true, decide_eq_true_eq]
  refine ⟨⟨fun x hx y hy => ?_, fun x hx => ?_⟩, by omega⟩
  · obtain ⟨a, b, rfl⟩ := h x hx
    obtain ⟨c, d, rfl⟩ := h y hy
    rfl
  · obtain ⟨a, b, rfl⟩ := h x hx
    rfl
theorem okD_pairs {ds : List D} (h : ∀ d ∈ ds, ∃ a b, d = .tuple [.int a, .int b]) : okD (.list ds) = true := by
  obtain ⟨h1, h2⟩ := okPair ds h
  simp [okD, SeqAt.shaped, PyData.canLay0, PyData.depth, h1]; omega
theorem best (hs : List Int) : ∀ m : Nat, ∃ (i : Nat) (M : Int), PySem.W.minD (row hs 0) ((List.range' 1 m).map (row hs)) = .tuple [.int (-M), .int (i : Int)] ∧ i ≤ m ∧ hs.getD i 0 = M ∧ (∀ k, k ≤ m → hs.getD k 0 ≤ M) ∧ ∀ k, k < i → hs.getD k 0 < M
  | 0 => ⟨0, hs.getD 0 0, rfl, Nat.le_refl _, rfl, fun k hk => by rw [Nat.le_zero.mp hk]; exact Int.le_refl _, fun k hk => by omega⟩
  | m + 1 => by
    obtain ⟨i, M, e, h1, h2, h3, h4⟩ := best hs m
    have hr : PySem.W.minD (row hs 0) ((List.range' 1 (m + 1)).map (row hs)) = (if PySem.W.dataLt (row hs (m + 1)) (.tuple [.int (-M), .int (i : Int)]) = true then row hs (m + 1) else .tuple [.int (-M), .int (i : Int)]) := by
      rw [List.range'_1_concat, List.map_append, PySem.W.minD, List.foldl_append]
      rw [PySem.W.minD] at e
      rw [e, Nat.add_comm 1 m]
      rfl
    rw [hr, row, PySem.W.dataLt_ii]
    by_cases hh : M < hs.getD (m + 1) 0
    · refine ⟨m + 1, hs.getD (m + 1) 0, ?_, Nat.le_refl _, rfl, fun k hk => ?_, fun k hk => ?_⟩
      · rw [if_pos (by simp only [decide_eq_true_eq]; omega)]
      · by_cases hk' : k = m + 1
        · rw [hk']; exact Int.le_refl _
        · have := h3 k (by omega); omega
      · have := h3 k (by omega); omega
    · refine ⟨i, M, ?_, by omega, h2, fun k hk => ?_, h4⟩
      · rw [if_neg (by simp only [decide_eq_true_eq]; omega)]
      · by_cases hk' : k = m + 1
        · rw [hk']; omega
        · exact h3 k (by omega)
theorem foldl_max : ∀ (hs : List Int) (h : Int), h ≤ hs.foldl max h ∧ (∀ x ∈ hs, x ≤ hs.foldl max h) ∧ (hs.foldl max h = h ∨ hs.foldl max h ∈ hs)
  | [], h => ⟨Int.le_refl _, fun x hx => (by cases hx), .inl rfl⟩
  | y :: hs, h => by
    obtain ⟨h1, h2, h3⟩ := foldl_max hs (max h y)
    rw [List.foldl_cons]
    have m1 : h ≤ max h y := by omega
    have m2 : y ≤ max h y := by omega
    refine ⟨by omega, fun x hx => ?_, ?_⟩
    · rcases List.mem_cons.mp hx with rfl | hx
      · omega
      · exact h2 x hx
    · rcases h3 with h3 | h3
      · rw [h3]
        rcases Int.le_total h y with q | q
        · right; rw [Int.max_eq_right q]; exact List.mem_cons_self
        · left; rw [Int.max_eq_left q]
      · right; exact List.mem_cons_of_mem _ h3
theorem idx_true : ∀ (l : List Bool) (i : Nat), l[i]? = some true → (∀ k, k < i → l[k]? = some false) → l.idxOf true = i ∧ true ∈ l
  | [], i, h, _ => by simp at h
  | b :: l, 0, h, _ => by
    simp at h
    subst h
    exact ⟨by simp, List.mem_cons_self⟩
  | b :: l, i + 1, h, hk => by
    have hb : b = false := by have := hk 0 (by omega); simpa using this
    subst hb
    obtain ⟨h1, h2⟩ := idx_true l i (by simpa using h) fun k hk' => by have := hk (k + 1) (by omega); simpa using this
    exact ⟨by simp [List.idxOf_cons, h1], List.mem_cons_of_mem _ h2⟩
theorem eqv_int (a b : Int) : PyData.eqv (.int a) (.int b) = decide (a = b) := by
  by_cases h : a = b
  · subst h; rw [SeqAt.eqv_refl _ rfl]; simp
  · simp [PyData.eqv, h]
/-- the least of the rows (-h, k) is the first of the highest -/
theorem best_first (h : Int) (hs0 : List Int) : ∃ (i : Nat) (M : Int), dMin1 (.list ((List.range (h :: hs0).length).map (row (h :: hs0)))) = some (.tuple [.int (-M), .int (i : Int)]) ∧ hs0.foldl max h = M ∧ true ∈ (((h :: hs0).map PyData.int).map fun y => PyData.eqv y (.int M)) ∧ (((h :: hs0).map PyData.int).map fun y => PyData.eqv y (.int M)).idxOf true = i := by
  obtain ⟨i, M, e, h1, h2, h3, h4⟩ := best (h :: hs0) hs0.length
  have hrow : (List.range (h :: hs0).length).map (row (h :: hs0)) = row (h :: hs0) 0 :: (List.range' 1 hs0.length).map (row (h :: hs0)) := by
    rw [List.length_cons, List.range_eq_range', List.range'_succ, List.map_cons]
  have hp : ∀ d ∈ (List.range (h :: hs0).length).map (row (h :: hs0)), ∃ a b, d = .tuple [.int a, .int b] := fun d hd => by
    obtain ⟨k, _, rfl⟩ := List.mem_map.mp hd
    exact ⟨_, _, rfl⟩
  have hmem : (h :: hs0).getD i 0 ∈ h :: hs0 := by
    have hi : i < (h :: hs0).length := by rw [List.length_cons]; omega
    rw [List.getD_eq_getElem?_getD, List.getElem?_eq_getElem hi]
    exact List.getElem_mem hi
  have hge : ∀ x ∈ h :: hs0, x ≤ M := fun x hx => by
    obtain ⟨k, hk, rfl⟩ := List.getElem_of_mem hx
    have := h3 k (by rw [List.length_cons] at hk; omega)
    rw [List.getD_eq_getElem?_getD, List.getElem?_eq_getElem hk] at this
    exact this
  have hidx := idx_true (((h :: hs0).map PyData.int).map fun y => PyData.eqv y (.int M)) i (by
      have hi : i < (h :: hs0).length := by rw [List.length_cons]; omega
      rw [List.getElem?_map, List.getElem?_map, List.getElem?_eq_getElem hi]
      have : (h :: hs0)[i] = M := by
        rw [List.getD_eq_getElem?_getD, List.getElem?_eq_getElem hi] at h2
        exact h2
      simp only [Option.map_some, this, eqv_int, decide_true]) (fun k hk => by
      have hi : k < (h :: hs0).length := by rw [List.length_cons]; omega
      rw [List.getElem?_map, List.getElem?_map, List.getElem?_eq_getElem hi]
      have := h4 k hk
      rw [List.getD_eq_getElem?_getD, List.getElem?_eq_getElem hi] at this
      have hne : (h :: hs0)[k] ≠ M := by simp only [Option.getD_some] at this; omega
      simp only [Option.map_some, eqv_int, decide_eq_false hne])
  refine ⟨i, M, ?_, ?_, hidx.2, hidx.1⟩
  · rw [hrow] at hp ⊢
    show (if okMin (row (h :: hs0) 0 :: (List.range' 1 hs0.length).map (row (h :: hs0))) = true then some (PySem.W.minD (row (h :: hs0) 0) ((List.range' 1 hs0.length).map (row (h :: hs0)))) else none) = _
    rw [if_pos (okMin_pairs hp), e]
  · obtain ⟨f1, f2, f3⟩ := foldl_max hs0 h
    have a1 : hs0.foldl max h ≤ M := by
      rcases f3 with f3 | f3
      · rw [f3]; exact hge _ List.mem_cons_self
      · exact hge _ (List.mem_cons_of_mem _ f3)
    have a2 : M ≤ hs0.foldl max h := by
      rw [h2] at hmem
      rcases List.mem_cons.mp hmem with q | q
      · omega
      · exact f2 _ q
    omega
theorem foldl_min : ∀ (hs : List Int) (h : Int), hs.foldl min h ≤ h ∧ (∀ x ∈ hs, hs.foldl min h ≤ x) ∧ (hs.foldl min h = h ∨ hs.foldl min h ∈ hs)
  | [], h => ⟨Int.le_refl _, fun x hx => (by cases hx), .inl rfl⟩
  | y :: hs, h => by
    obtain ⟨h1, h2, h3⟩ := foldl_min hs (min h y)
    rw [List.foldl_cons]
    have m1 : min h y ≤ h := by omega
    have m2 : min h y ≤ y := by omega
    refine ⟨by omega, fun x hx => ?_, ?_⟩
    · rcases List.mem_cons.mp hx with rfl | hx
      · omega
      · exact h2 x hx
    · rcases h3 with h3 | h3
      · rw [h3]
        rcases Int.le_total h y with q | q
        · left; rw [Int.min_eq_left q]
        · right; rw [Int.min_eq_right q]; exact List.mem_cons_self
      · right; exact List.mem_cons_of_mem _ h3
theorem max2 (a b : Int) : (if (atD (.int a) && atD (.int b)) = true then dMax2 (.int a) (.int b) else none) = some (.int (max a b)) := by
  show (if okMin [.int a, .int b] = true then some (if PySem.W.dataLt (.int a) (.int b) = true then PyData.int b else .int a) else none) = _
  rw [if_pos (okMin_ints fun d hd => by
    rcases List.mem_cons.mp hd with rfl | hd
    · exact ⟨a, rfl⟩
    · exact ⟨b, List.mem_singleton.mp hd⟩), ltInt]
  by_cases h : a < b
  · rw [if_pos (by simpa using h), Int.max_eq_right (by omega)]
  · rw [if_neg (by simpa using h), Int.max_eq_left (by omega)]
theorem min2 (a b : Int) : (if (atD (.int a) && atD (.int b)) = true then dMin2 (.int a) (.int b) else none) = some (.int (min a b)) := by
  show (if okMin [.int a, .int b] = true then some (if PySem.W.dataLt (.int b) (.int a) = true then PyData.int b else .int a) else none) = _
  rw [if_pos (okMin_ints fun d hd => by
    rcases List.mem_cons.mp hd with rfl | hd
    · exact ⟨a, rfl⟩
    · exact ⟨b, List.mem_singleton.mp hd⟩), ltInt]
  by_cases h : b < a
  · rw [if_pos (by simpa using h), Int.min_eq_right (by omega)]
  · rw [if_neg (by simpa using h), Int.min_eq_left (by omega)]
theorem max_lsI (h : Int) (hs : List Int) : dMax1 (lsI (h :: hs)) = some (.int (hs.foldl max h)) := max_tpI h hs
theorem min_lsI (h : Int) (hs : List Int) : dMin1 (lsI (h :: hs)) = some (.int (hs.foldl min h)) := min_tpI h hs
theorem enumD_at : ∀ (ds : List D) (i : Int) (k : Nat), (enumD i ds)[k]? = (ds[k]?).map fun d => PyData.tuple [.int (i + k), d]
  | [], i, k => by simp [enumD]
  | d :: ds, i, 0 => by simp [enumD]
  | d :: ds, i, k + 1 => by
    rw [enumD, List.getElem?_cons_succ, List.getElem?_cons_succ, enumD_at ds (i + 1) k]
    congr 1
    funext d
    rw [show i + 1 + (k : Int) = i + ((k + 1 : Nat) : Int) by push_cast; omega]
theorem enumD_ln : ∀ (ds : List D) (i : Int), (enumD i ds).length = ds.length
  | [], _ => rfl
  | d :: ds, i => by rw [enumD, List.length_cons, List.length_cons, enumD_ln ds]
theorem enumD_mem {ds : List D} {i : Int} {e : D} (h : e ∈ enumD i ds) : ∃ (k : Nat) (d : D), ds[k]? = some d ∧ e = .tuple [.int (i + k), d] := by
  obtain ⟨k, hk, rfl⟩ := List.getElem_of_mem h
  have := enumD_at ds i k
  rw [List.getElem?_eq_getElem hk] at this
  cases q : ds[k]? with
  | none => rw [q] at this; cases this
  | some d => rw [q] at this; exact ⟨k, d, q, Option.some.inj this⟩
/-! ### data that are drawn -/
def DrawsD (el : Xf) (R : D → Prop) : Prop := ∀ (ds : List Int) (n : Int) (τ : Sl), 0 ≤ n → ∃ (d : D) (n' : Int), 0 ≤ n' ∧ R d ∧ flatD d = true ∧ el (some (dW ds n) :: τ) = some (d, some (dW ds n') :: τ)
theorem draws_listD {el : Xf} {R : D → Prop} (h : DrawsD el R) {vs : List Nat} {j : Nat} {τ : Sl} (hw : ∀ w x : D, wipeD ((some w :: τ).set (j + 1) (some x)) vs = some w :: τ) (ds : List Int) : ∀ (es : List D) (n : Int), 0 ≤ n → ∃ (rs : List D) (n' : Int), 0 ≤ n' ∧ (∀ r ∈ rs, R r) ∧ rs.length = es.length ∧ lcGoX vs (j + 1) (xT cYes) el (some (dW ds n) :: τ) es = some (rs, some (dW ds n') :: τ)
  | [], n, hn => ⟨[], n, hn, fun r hr => (by cases hr), rfl, rfl⟩
  | e :: es, n, hn => by
    obtain ⟨r, n1, hn1, hr, hf, e1⟩ := h ds n (τ.set j (some e)) hn
    obtain ⟨rs, n2, hn2, h1, h2, e2⟩ := draws_listD h hw ds es n1 hn1
    refine ⟨r :: rs, n2, hn2, fun x hx => ?_, by simp [h2], ?_⟩
    · rcases List.mem_cons.mp hx with rfl | hx
      · exact hr
      · exact h1 x hx
    · rw [lcGoX]
      show (match el (some (dW ds n) :: τ.set j (some e)) with
        | none => none
        | some (x, ρ3) => if flatD x = true then (match lcGoX vs (j + 1) (xT cYes) el (wipeD ρ3 vs) es with
          | none => none
          | some (r, ρ4) => some (x :: r, ρ4)) else none) = _
      rw [e1]
      have e3 : wipeD (some (dW ds n1) :: τ.set j (some e)) vs = some (dW ds n1) :: τ := hw _ e
      simp only [hf, if_true, e3, e2]
theorem draws_compD {el el0 : Xf} {R : D → Prop} {P0 : Int → Prop} (h : DrawsD el R) (h0 : Draws el0 P0) (hP : ∀ r, P0 r → 0 ≤ r ∧ r ≤ 1000) {vs : List Nat} {j : Nat} {τ : Sl} (hw : ∀ w x : D, wipeD ((some w :: τ).set (j + 1) (some x)) vs = some w :: τ) (hw0 : ∀ w : D, wipeD (some w :: τ) vs = some w :: τ) (hk : ∀ w w' : D, keepD (some w :: τ) (some w' :: τ) vs = some w' :: τ) (ds : List Int) (n : Int) (hn : 0 ≤ n) :
    ∃ (r : Int) (rs : List D) (n' : Int), 0 ≤ n' ∧ P0 r ∧ (∀ x ∈ rs, R x) ∧ (rs.length : Int) = r ∧ xLc vs (xR1 (xCons el0 xNil)) (j + 1) (xT cYes) el (some (dW ds n) :: τ) = some (.list rs, some (dW ds n') :: τ) := by
  obtain ⟨r, hr, e0⟩ := h0 ds n τ hn
  obtain ⟨r0, r1⟩ := hP r hr
  obtain ⟨rs, n', hn', h1, h2, e1⟩ := draws_listD h hw ds (rangeD 0 r.toNat) (n + 1) (by omega)
  rw [rangeD_len] at h2
  refine ⟨r, rs, n', hn', hr, h1, by omega, ?_⟩
  have e2 : xR1 (xCons el0 xNil) (some (dW ds n) :: τ) = some (rangeD 0 r.toNat, some (dW ds (n + 1)) :: τ) := by
    rw [xR1, xOne_eq e0]
    simp only [show r < 4611686018427387904 ∧ -4611686018427387904 ≤ r by omega, and_self, if_true]
  rw [xLc, e2]
  simp only [hw0, e1, hk]
  rw [if_pos (by omega)]
theorem mFrz_eq {O : List Nat} {a : Xf} {r : XAf} {ρ ρ1 ρ2 : Sl} {d : D} {ds : List D} (h : a ρ = some (d, ρ1)) (hk : keepO O ρ ρ1 = true) (h' : r ρ1 = some (ds, ρ2)) : mFrz O a r ρ = some (d :: ds, ρ2) := by rw [mFrz, h]; simp only [hk, if_true, h']
theorem mOwn_eq {a : Ef} {r : XAf} {ρ ρ2 : Sl} {d : D} {ds : List D} (h : a ρ = some d) (h' : r ρ = some (ds, ρ2)) : mOwn a r ρ = some (d :: ds, ρ2) := by rw [mOwn, h]; simp only [h']
theorem sPar_eq {is : List Nat} {f : XAf} {ρ ρ1 : Sl} {ds : List D} (h : f ρ = some (ds, ρ1)) (hl : ds.length = is.length) : sPar is f ρ = some (.nx (setL is ds ρ1)) := by rw [sPar, h]; simp only [hl, if_true]
def headD : List D → D
  | [] => .none
  | d :: _ => d
theorem at0 {α : Type} (x : α) (l : List α) : atI (x :: l) 0 = some x := by
  unfold atI ixN
  rw [if_pos (Int.le_refl 0), if_pos (by rw [List.length_cons]; omega)]
  rfl
theorem ix0_list (d : D) (l : List D) : dIx (.list (d :: l)) (.int 0) = some d := at0 d l
theorem forGo_cons {t : Gf} {b : Sf} {d : D} {ds : List D} {ρ ρ1 ρ2 : Sl} (h : t d ρ = some ρ1) (h' : b ρ1 = some (.nx ρ2)) : forGo t b (d :: ds) ρ = forGo t b ds ρ2 := by
  rw [forGo, h]
  simp only [h']
theorem forGo_ret {t : Gf} {b : Sf} {d r : D} {ds : List D} {ρ ρ1 : Sl} (h : t d ρ = some ρ1) (h' : b ρ1 = some (.rt r)) : forGo t b (d :: ds) ρ = some (.rt r) := by
  rw [forGo, h]
  simp only [h']
end DL
namespace K10
open PySem PySem.Spec PyProof.Rows L2 DL
def topS (i : Nat) : Stmt := PySem.Challenge.pw_roadwalked_k10_whole_known_a_bell_in_a_f.main.body.getD i (.Pass ⟨0, 0, 0, 0⟩)
abbrev s__law_draws : Stmt := topS 10
abbrev s__law_next : Stmt := topS 11
abbrev s_field : Stmt := topS 3
abbrev s_far : Stmt := topS 1
abbrev s_heard_at : Stmt := topS 2
abbrev s_spots_with : Stmt := topS 4
abbrev s_deaf_spots : Stmt := topS 6
abbrev s_louder : Stmt := topS 7
abbrev s_least_louder : Stmt := topS 8
abbrev s_is_told_by : Stmt := topS 5
abbrev s__law_holds : Stmt := topS 12
abbrev s_law : Stmt := topS 13
structure Wd (K : PySem.W.Frag) (mg : Str → Option Value) where
  a__law_draws : Addr
  d__law_draws : FuncData
  F__law_draws : Fun K "_law_draws" "_law_draws" s__law_draws a__law_draws d__law_draws
  B__law_draws : Binds K d__law_draws ["script", "many"] []
  g__law_draws : mg "_law_draws" = some (.ref a__law_draws)
  a__law_next : Addr
  d__law_next : FuncData
  F__law_next : Fun K "_law_next" "_law_next" s__law_next a__law_next d__law_next
  B__law_next : Binds K d__law_next ["w", "many"] []
  g__law_next : mg "_law_next" = some (.ref a__law_next)
  a_field : Addr
  d_field : FuncData
  F_field : Fun K "field" "field" s_field a_field d_field
  B_field : Binds K d_field ["wide", "high"] []
  g_field : mg "field" = some (.ref a_field)
  a_far : Addr
  d_far : FuncData
  F_far : Fun K "far" "far" s_far a_far d_far
  B_far : Binds K d_far ["one", "other"] []
  g_far : mg "far" = some (.ref a_far)
  a_heard_at : Addr
  d_heard_at : FuncData
  F_heard_at : Fun K "heard_at" "heard_at" s_heard_at a_heard_at d_heard_at
  B_heard_at : Binds K d_heard_at ["bells", "spot"] []
  g_heard_at : mg "heard_at" = some (.ref a_heard_at)
  a_spots_with : Addr
  d_spots_with : FuncData
  F_spots_with : Fun K "spots_with" "spots_with" s_spots_with a_spots_with d_spots_with
  B_spots_with : Binds K d_spots_with ["bells", "wide", "high", "heard"] []
  g_spots_with : mg "spots_with" = some (.ref a_spots_with)
  a_deaf_spots : Addr
  d_deaf_spots : FuncData
  F_deaf_spots : Fun K "deaf_spots" "deaf_spots" s_deaf_spots a_deaf_spots d_deaf_spots
  B_deaf_spots : Binds K d_deaf_spots ["bells", "wide", "high"] []
  g_deaf_spots : mg "deaf_spots" = some (.ref a_deaf_spots)
  a_louder : Addr
  d_louder : FuncData
  F_louder : Fun K "louder" "louder" s_louder a_louder d_louder
  B_louder : Binds K d_louder ["bells", "name", "more"] []
  g_louder : mg "louder" = some (.ref a_louder)
  a_least_louder : Addr
  d_least_louder : FuncData
  F_least_louder : Fun K "least_louder" "least_louder" s_least_louder a_least_louder d_least_louder
  B_least_louder : Binds K d_least_louder ["bells", "wide", "high", "name", "most"] []
  g_least_louder : mg "least_louder" = some (.ref a_least_louder)
  a_is_told_by : Addr
  d_is_told_by : FuncData
  F_is_told_by : Fun K "is_told_by" "is_told_by" s_is_told_by a_is_told_by d_is_told_by
  B_is_told_by : Binds K d_is_told_by ["bells", "wide", "high", "spot"] []
  g_is_told_by : mg "is_told_by" = some (.ref a_is_told_by)
  a__law_holds : Addr
  d__law_holds : FuncData
  F__law_holds : Fun K "_law_holds" "_law_holds" s__law_holds a__law_holds d__law_holds
  B__law_holds : Binds K d__law_holds ["w"] []
  g__law_holds : mg "_law_holds" = some (.ref a__law_holds)
  a_law : Addr
  d_law : FuncData
  F_law : Fun K "law" "law" s_law a_law d_law
  B_law : Binds K d_law ["script"] []
  g_law : mg "law" = some (.ref a_law)
  z_abs : mg "abs" = none
  z_dict : mg "dict" = none
  z_int : mg "int" = none
  z_len : mg "len" = none
  z_max : mg "max" = none
  z_range : mg "range" = none
  z_sorted : mg "sorted" = none
  z_tuple : mg "tuple" = none
section
variable {P : Program} {w : World} {K : PySem.W.Frag} {mg : Str → Option Value} {base : Heap} (W : Wd K mg)
/-! _law_draws -/
abbrev N__law_draws : List Str := ["script", "many", "draws", "mixed", "k", "cell", "rest", "turn"]
theorem sc__law_draws : FnScope N__law_draws ["script", "many"] (defScope s__law_draws) := ⟨rfl, rfl, rfl, by decide +kernel, rfl, by decide +kernel, by decide +kernel⟩
def F__law_draws : Sf := (sSeq (sSet 2 (eSeq .list aNil)) (sSeq (sSet 3 (eC (.int 7))) (sSeq (sFor (aR1 (aCons (eCall (fn1 dLen1) (aCons (eVar 0) aNil)) aNil)) (gNm 4) (sSeq (sSet 5 (eCall (fn1 dAbs1) (aCons (eCall (fn1 dInt1) (aCons (e2 dIx (eVar 0) (eVar 4)) aNil)) aNil))) (sSeq (sSet 3 (e2 dMod (eCall (fn1 dInt1) (aCons (e2 dAdd (e2 dAdd (e2 dMul (eVar 3) (eC (.int 48271))) (e2 dMod (eVar 5) (eC (.int 1000003)))) (eVar 4)) aNil)) (eC (.int 65537)))) (sSeq (sSet 6 (eC (.int 0))) (sSeq (sIf (cB (e2 dGe (eVar 5) (e2 dPow (eC (.int 10)) (eC (.int 18))))) (sSet 6 (eVar 5)) (sSeq (sMut 2 fApp (aCons (e2 dMod (eCall (fn1 dInt1) (aCons (eVar 5) aNil)) (eC (.int 997))) aNil)) (sMut 2 fApp (aCons (e2 dMod (e2 dMod (eCall (fn1 dInt1) (aCons (e2 dAdd (e2 dMul (eVar 3) (eC (.int 69621))) (eC (.int 5))) aNil)) (eC (.int 65521))) (eC (.int 997))) aNil)))) (sFor (aR1 (aCons (eC (.int 60)) aNil)) (gNm 7) (sIf (cB (e2 dGt (eVar 6) (eC (.int 0)))) (sSeq (sMut 2 fApp (aCons (e2 dMod (eCall (fn1 dInt1) (aCons (eVar 6) aNil)) (eC (.int 997))) aNil)) (sSet 6 (e2 dFdiv (eVar 6) (eC (.int 997))))) sNil))))))) (sSeq (sFor (aR1 (aCons (eVar 1) aNil)) (gNm 4) (sSeq (sSet 3 (e2 dMod (eCall (fn1 dInt1) (aCons (e2 dAdd (e2 dAdd (e2 dMul (eVar 3) (eC (.int 16807))) (eVar 4)) (eC (.int 1))) aNil)) (eC (.int 65537)))) (sMut 2 fApp (aCons (e2 dMod (eCall (fn1 dInt1) (aCons (eVar 3) aNil)) (eC (.int 997))) aNil)))) (sRet (eSl (eVar 2) pNo (pAt (eVar 1))))))))
def Φ__law_draws : List D → Option D := runB 2 8 F__law_draws
theorem ok__law_draws : FnOk P w K mg base CX0 1 W.a__law_draws W.d__law_draws ["script", "many"] (spD P w K Φ__law_draws) := fn_ok W.F__law_draws sc__law_draws fun cdv A outer s H E hr => by
  have S := sc__law_draws
  have hu64 := hr.units; have hu70 : (A.deeper (envOfC "_law_draws" (defScope s__law_draws) s.heap.objs.size W.a__law_draws cdv)).units + 70 < cLine := by have := hr.un; omega
  exact (dss_cons (ds_own (O' := [2]) 2 S.nd (df_lst da_nil)) (dss_cons (ds_set (O' := [2]) 3 S.nd de_int) (dss_cons (ds_for (vs := [4]) (pi_r1 (dpa_cons (dp (de_bi cLen (by rfl) W.z_len (by decide +kernel) (dpa_cons (dp_var 0) dpa_nil))) dpa_nil) (hm := W.z_range)) (dg_nm 4 S.nd) (dss_cons (ds_set (O' := [2]) 5 S.nd (de_bi cAbs (by rfl) W.z_abs (by decide +kernel) (dpa_cons (dp (de_ty cInt (by rfl) W.z_int (by decide +kernel) (dpa_cons (dp (de_ix (ixD hu70) (dp_var 0) (dp_var 4) (fun _ _ => rfl))) dpa_nil))) dpa_nil))) (dss_cons (ds_set (O' := [2]) 3 S.nd (de_op opMod (dp (de_ty cInt (by rfl) W.z_int (by decide +kernel) (dpa_cons (dp (de_op opAdd (dp (de_op opAdd (dp (de_op opMul (dp_var 3) (dp de_int))) (dp (de_op opMod (dp_var 5) (dp de_int))))) (dp_var 4))) dpa_nil))) (dp de_int))) (dss_cons (ds_set (O' := [2]) 6 S.nd de_int) (dss_cons (ds_if (Oo := [2]) (dt_cmp (opGe hu64) (dp_var 5) (dp (de_op opPow (dp de_int) (dp de_int)))) (dss_one (ds_set (O' := [2]) 6 S.nd (de_var 5))) (dss_cons (ds_mut 2 PySem.F.slot_list_append PySem.F.type_list_append mAppend (dpa_cons (dp (de_op opMod (dp (de_ty cInt (by rfl) W.z_int (by decide +kernel) (dpa_cons (dp_var 5) dpa_nil))) (dp de_int))) dpa_nil)) (dss_one (ds_mut 2 PySem.F.slot_list_append PySem.F.type_list_append mAppend (dpa_cons (dp (de_op opMod (dp (de_op opMod (dp (de_ty cInt (by rfl) W.z_int (by decide +kernel) (dpa_cons (dp (de_op opAdd (dp (de_op opMul (dp_var 3) (dp de_int))) (dp de_int))) dpa_nil))) (dp de_int))) (dp de_int))) dpa_nil))))) (dss_one (ds_for (vs := [7]) (pi_r1 (dpa_cons (dp de_int) dpa_nil) (hm := W.z_range)) (dg_nm 7 S.nd) (dss_one (ds_if (Oo := [2]) (dt_cmp (opGt hu64) (dp_var 6) (dp de_int)) (dss_cons (ds_mut 2 PySem.F.slot_list_append PySem.F.type_list_append mAppend (dpa_cons (dp (de_op opMod (dp (de_ty cInt (by rfl) W.z_int (by decide +kernel) (dpa_cons (dp_var 6) dpa_nil))) (dp de_int))) dpa_nil)) (dss_one (ds_set (O' := [2]) 6 S.nd (de_op opFdiv (dp_var 6) (dp de_int))))) dss_nil))))))))) (dss_cons (ds_for (vs := [4]) (pi_r1 (dpa_cons (dp_var 1) dpa_nil) (hm := W.z_range)) (dg_nm 4 S.nd) (dss_cons (ds_set (O' := [2]) 3 S.nd (de_op opMod (dp (de_ty cInt (by rfl) W.z_int (by decide +kernel) (dpa_cons (dp (de_op opAdd (dp (de_op opAdd (dp (de_op opMul (dp_var 3) (dp de_int))) (dp_var 4))) (dp de_int))) dpa_nil))) (dp de_int))) (dss_one (ds_mut 2 PySem.F.slot_list_append PySem.F.type_list_append mAppend (dpa_cons (dp (de_op opMod (dp (de_ty cInt (by rfl) W.z_int (by decide +kernel) (dpa_cons (dp_var 3) dpa_nil))) (dp de_int))) dpa_nil))))) (dss_one (ds_ret (de_sl (dp_var 2) dpo_no (dpo_at (dp_var 1)))))))))
/-! _law_next -/
abbrev N__law_next : List Str := ["w", "many"]
theorem sc__law_next : FnScope N__law_next ["w", "many"] (defScope s__law_next) := ⟨rfl, rfl, rfl, by decide +kernel, rfl, by decide +kernel, by decide +kernel⟩
def F__law_next : Xf := (zSeq (sPutA (fun i j => i + j) 0 (eC (.str "at")) (eC (.int 1))) (zEnd (sSeq (sIf (cB (e2 dGt (e2 dIx (eVar 0) (eC (.str "at"))) (eCall (fn1 dLen1) (aCons (e2 dIx (eVar 0) (eC (.str "draws"))) aNil)))) (sRet (eC (.int 0))) sNil) (sRet (e2 dMod (eCall (fn1 dInt1) (aCons (e2 dIx (e2 dIx (eVar 0) (eC (.str "draws"))) (e2 dSub (e2 dIx (eVar 0) (eC (.str "at"))) (eC (.int 1)))) aNil)) (eVar 1))))))
def Φ__law_next : D → List D → Option (D × D) := runE 2 2 F__law_next
theorem ok__law_next : FnOk P w K mg base CX0 1 W.a__law_next W.d__law_next ["w", "many"] (spE P w K Φ__law_next) := fnE_ok W.F__law_next sc__law_next fun cdv A outer s H E hr => by
  have S := sc__law_next
  have hu64 := hr.units; have hu70 : (A.deeper (envOfC "_law_next" (defScope s__law_next) s.heap.objs.size W.a__law_next cdv)).units + 70 < cLine := by have := hr.un; omega
  exact (dz_cons (ds_putA 0 aAdd hu64 de_str (dp de_int)) (dz_end (O' := []) (Oo := []) (dss_cons (ds_if (Oo := []) (dt_cmp (opGt hu64) (dp (de_ix (ixD hu70) (dp_var 0) (dp de_str) (fun _ _ => rfl))) (dp (de_bi cLen (by rfl) W.z_len (by decide +kernel) (dpa_cons (dp (de_ix (ixD hu70) (dp_var 0) (dp de_str) (fun _ _ => rfl))) dpa_nil)))) (dss_one (ds_ret de_int)) dss_nil) (dss_one (ds_ret (de_op opMod (dp (de_ty cInt (by rfl) W.z_int (by decide +kernel) (dpa_cons (dp (de_ix (ixD hu70) (dp (de_ix (ixD hu70) (dp_var 0) (dp de_str) (fun _ _ => rfl))) (dp (de_op opSub (dp (de_ix (ixD hu70) (dp_var 0) (dp de_str) (fun _ _ => rfl))) (dp de_int))) (fun _ _ => rfl))) dpa_nil))) (dp_var 1)))))))
/-! field -/
abbrev N_field : List Str := ["wide", "high", "x", "y"]
theorem sc_field : FnScope N_field ["wide", "high"] (defScope s_field) := ⟨rfl, rfl, rfl, by decide +kernel, rfl, by decide +kernel, by decide +kernel⟩
def F_field : Sf := (sRet (eLc2 [2, 3] (aR1 (aCons (eVar 0) aNil)) (gNm 2) cYes [3] (aR1 (aCons (eVar 1) aNil)) (gNm 3) cYes (eSeq .tuple (aCons (eVar 2) (aCons (eVar 3) aNil)))))
def Φ_field : List D → Option D := runB 2 4 F_field
theorem ok_field : FnOk P w K mg base CX0 1 W.a_field W.d_field ["wide", "high"] (spD P w K Φ_field) := fn_ok W.F_field sc_field fun cdv A outer s H E hr => by
  have S := sc_field
  have hu64 := hr.units; have hu70 : (A.deeper (envOfC "field" (defScope s_field) s.heap.objs.size W.a_field cdv)).units + 70 < cLine := by have := hr.un; omega
  exact (dss_one (ds_ret (de_frz (df_lc2 S.nd (own := [("x", 2), ("y", 3)]) (vs1 := [3]) (blkOk_by (by rfl)) (by decide) (pi_peek (pi_r1 (dpa_cons (dp_var 0) dpa_nil) (hm := W.z_range))) (fun _ _ _ _ _ => (dg_nm 2 S.nd)) (fun _ _ _ _ _ => dts_nil) (fun _ _ _ _ _ => (pi_r1 (dpa_cons (dp_var 1) dpa_nil) (hm := W.z_range))) (fun _ _ _ _ _ => (dg_nm 3 S.nd)) (fun _ _ _ _ _ => dts_nil) (fun _ _ _ _ _ => (de_tup (da_cons (de_var 2) (da_cons (de_var 3) da_nil))))))))
/-! far -/
abbrev N_far : List Str := ["one", "other"]
theorem sc_far : FnScope N_far ["one", "other"] (defScope s_far) := ⟨rfl, rfl, rfl, by decide +kernel, rfl, by decide +kernel, by decide +kernel⟩
def F_far : Sf := (sRet (e2 dAdd (eCall (fn1 dAbs1) (aCons (e2 dSub (e2 dIx (eVar 0) (eC (.int 0))) (e2 dIx (eVar 1) (eC (.int 0)))) aNil)) (eCall (fn1 dAbs1) (aCons (e2 dSub (e2 dIx (eVar 0) (eC (.int 1))) (e2 dIx (eVar 1) (eC (.int 1)))) aNil))))
def Φ_far : List D → Option D := runB 2 2 F_far
theorem ok_far : FnOk P w K mg base CX0 1 W.a_far W.d_far ["one", "other"] (spD P w K Φ_far) := fn_ok W.F_far sc_far fun cdv A outer s H E hr => by
  have S := sc_far
  have hu64 := hr.units; have hu70 : (A.deeper (envOfC "far" (defScope s_far) s.heap.objs.size W.a_far cdv)).units + 70 < cLine := by have := hr.un; omega
  exact (dss_one (ds_ret (de_op opAdd (dp (de_bi cAbs (by rfl) W.z_abs (by decide +kernel) (dpa_cons (dp (de_op opSub (dp (de_ix (ixD hu70) (dp_var 0) (dp de_int) (fun _ _ => rfl))) (dp (de_ix (ixD hu70) (dp_var 1) (dp de_int) (fun _ _ => rfl))))) dpa_nil))) (dp (de_bi cAbs (by rfl) W.z_abs (by decide +kernel) (dpa_cons (dp (de_op opSub (dp (de_ix (ixD hu70) (dp_var 0) (dp de_int) (fun _ _ => rfl))) (dp (de_ix (ixD hu70) (dp_var 1) (dp de_int) (fun _ _ => rfl))))) dpa_nil))))))
/-! heard_at -/
abbrev N_heard_at : List Str := ["bells", "spot", "name"]
theorem sc_heard_at : FnScope N_heard_at ["bells", "spot"] (defScope s_heard_at) := ⟨rfl, rfl, rfl, by decide +kernel, rfl, by decide +kernel, by decide +kernel⟩
def F_heard_at : Sf := (sRet (eCall (fn1 dTuple1) (aCons (eLc [2] (aIt (eCall (fn1 dSorted1) (aCons (eVar 0) aNil))) (gNm 2) (cB (e2 dLe (eCall Φ_far (aCons (e2 dIx (e2 dIx (eVar 0) (eVar 2)) (eC (.int 0))) (aCons (eVar 1) aNil))) (e2 dIx (e2 dIx (eVar 0) (eVar 2)) (eC (.int 1))))) (eVar 2)) aNil)))
def Φ_heard_at : List D → Option D := runB 2 3 F_heard_at
theorem ok_heard_at (h_far : FnOk P w K mg base CX0 1 W.a_far W.d_far ["one", "other"] (spD P w K Φ_far)) : FnOk P w K mg base CX0 2 W.a_heard_at W.d_heard_at ["bells", "spot"] (spD P w K Φ_heard_at) := fn_ok W.F_heard_at sc_heard_at fun cdv A outer s H E hr => by
  have S := sc_heard_at
  have hu64 := hr.units; have hu70 : (A.deeper (envOfC "heard_at" (defScope s_heard_at) s.heap.objs.size W.a_heard_at cdv)).units + 70 < cLine := by have := hr.un; omega
  exact (dss_one (ds_ret (de_ty cTuple (by rfl) W.z_tuple (by decide +kernel) (dpa_cons (dp (de_frz (df_lc S.nd (own := [("name", 2)]) (blkOk_by (by rfl)) (pi_dp (dp (de_bi (cSorted rfl hu70) (by rfl) W.z_sorted (by decide +kernel) (dpa_cons (dp_var 0) dpa_nil)))) (fun _ _ _ _ _ => (dg_nm 2 S.nd)) (fun _ _ _ _ _ => (dts_one (dt_cmp (opLe hu64) (dp (de_call (h_far.mono (by decide)) hr (by rfl) W.g_far W.F_far.kp W.B_far (da_cons (de_ix (ixD hu70) (dp (de_ix (ixD hu70) (dp_var 0) (dp_var 2) (fun _ _ => rfl))) (dp de_int) (fun _ _ => rfl)) (da_cons (de_var 1) da_nil)))) (dp (de_ix (ixD hu70) (dp (de_ix (ixD hu70) (dp_var 0) (dp_var 2) (fun _ _ => rfl))) (dp de_int) (fun _ _ => rfl)))))) (fun _ _ _ _ _ => (de_var 2))))) dpa_nil))))
/-! spots_with -/
abbrev N_spots_with : List Str := ["bells", "wide", "high", "heard", "spot"]
theorem sc_spots_with : FnScope N_spots_with ["bells", "wide", "high", "heard"] (defScope s_spots_with) := ⟨rfl, rfl, rfl, by decide +kernel, rfl, by decide +kernel, by decide +kernel⟩
def F_spots_with : Sf := (sRet (eCall (fn1 dTuple1) (aCons (eLc [4] (aIt (eCall Φ_field (aCons (eVar 1) (aCons (eVar 2) aNil)))) (gNm 4) (cB (e2 dEq (eCall Φ_heard_at (aCons (eVar 0) (aCons (eVar 4) aNil))) (eVar 3))) (eVar 4)) aNil)))
def Φ_spots_with : List D → Option D := runB 4 5 F_spots_with
theorem ok_spots_with (h_field : FnOk P w K mg base CX0 1 W.a_field W.d_field ["wide", "high"] (spD P w K Φ_field)) (h_heard_at : FnOk P w K mg base CX0 2 W.a_heard_at W.d_heard_at ["bells", "spot"] (spD P w K Φ_heard_at)) : FnOk P w K mg base CX0 3 W.a_spots_with W.d_spots_with ["bells", "wide", "high", "heard"] (spD P w K Φ_spots_with) := fn_ok W.F_spots_with sc_spots_with fun cdv A outer s H E hr => by
  have S := sc_spots_with
  have hu64 := hr.units; have hu70 : (A.deeper (envOfC "spots_with" (defScope s_spots_with) s.heap.objs.size W.a_spots_with cdv)).units + 70 < cLine := by have := hr.un; omega
  exact (dss_one (ds_ret (de_ty cTuple (by rfl) W.z_tuple (by decide +kernel) (dpa_cons (dp (de_frz (df_lc S.nd (own := [("spot", 4)]) (blkOk_by (by rfl)) (pi_dp (dp (de_call (h_field.mono (by decide)) hr (by rfl) W.g_field W.F_field.kp W.B_field (da_cons (de_var 1) (da_cons (de_var 2) da_nil))))) (fun _ _ _ _ _ => (dg_nm 4 S.nd)) (fun _ _ _ _ _ => (dts_one (dt_cmp (opEq hu64) (dp (de_call (h_heard_at.mono (by decide)) hr (by rfl) W.g_heard_at W.F_heard_at.kp W.B_heard_at (da_cons (de_var 0) (da_cons (de_var 4) da_nil)))) (dp_var 3)))) (fun _ _ _ _ _ => (de_var 4))))) dpa_nil))))
/-! deaf_spots -/
abbrev N_deaf_spots : List Str := ["bells", "wide", "high"]
theorem sc_deaf_spots : FnScope N_deaf_spots ["bells", "wide", "high"] (defScope s_deaf_spots) := ⟨rfl, rfl, rfl, by decide +kernel, rfl, by decide +kernel, by decide +kernel⟩
def F_deaf_spots : Sf := (sRet (eCall Φ_spots_with (aCons (eVar 0) (aCons (eVar 1) (aCons (eVar 2) (aCons (eSeq .tuple aNil) aNil))))))
def Φ_deaf_spots : List D → Option D := runB 3 3 F_deaf_spots
theorem ok_deaf_spots (h_spots_with : FnOk P w K mg base CX0 3 W.a_spots_with W.d_spots_with ["bells", "wide", "high", "heard"] (spD P w K Φ_spots_with)) : FnOk P w K mg base CX0 4 W.a_deaf_spots W.d_deaf_spots ["bells", "wide", "high"] (spD P w K Φ_deaf_spots) := fn_ok W.F_deaf_spots sc_deaf_spots fun cdv A outer s H E hr => by
  have S := sc_deaf_spots
  have hu64 := hr.units; have hu70 : (A.deeper (envOfC "deaf_spots" (defScope s_deaf_spots) s.heap.objs.size W.a_deaf_spots cdv)).units + 70 < cLine := by have := hr.un; omega
  exact (dss_one (ds_ret (de_call (h_spots_with.mono (by decide)) hr (by rfl) W.g_spots_with W.F_spots_with.kp W.B_spots_with (da_cons (de_var 0) (da_cons (de_var 1) (da_cons (de_var 2) (da_cons (de_tup da_nil) da_nil)))))))
/-! louder -/
abbrev N_louder : List Str := ["bells", "name", "more", "found"]
theorem sc_louder : FnScope N_louder ["bells", "name", "more"] (defScope s_louder) := ⟨rfl, rfl, rfl, by decide +kernel, rfl, by decide +kernel, by decide +kernel⟩
def F_louder : Sf := (sSeq (sSet 3 (eCall (fn1 dDict1) (aCons (eVar 0) aNil))) (sSeq (sPut 3 (eVar 1) (eSeq .tuple (aCons (e2 dIx (e2 dIx (eVar 0) (eVar 1)) (eC (.int 0))) (aCons (e2 dAdd (e2 dIx (e2 dIx (eVar 0) (eVar 1)) (eC (.int 1))) (eVar 2)) aNil)))) (sRet (eVar 3))))
def Φ_louder : List D → Option D := runB 3 4 F_louder
theorem ok_louder : FnOk P w K mg base CX0 1 W.a_louder W.d_louder ["bells", "name", "more"] (spD P w K Φ_louder) := fn_ok W.F_louder sc_louder fun cdv A outer s H E hr => by
  have S := sc_louder
  have hu64 := hr.units; have hu70 : (A.deeper (envOfC "louder" (defScope s_louder) s.heap.objs.size W.a_louder cdv)).units + 70 < cLine := by have := hr.un; omega
  exact (dss_cons (ds_own (O' := [3]) 3 S.nd (df_dict rfl hu70 (by rfl) W.z_dict (dpa_cons (dp_var 0) dpa_nil))) (dss_cons (ds_put 3 hu64 (de_tup (da_cons (de_ix (ixD hu70) (dp (de_ix (ixD hu70) (dp_var 0) (dp_var 1) (fun _ _ => rfl))) (dp de_int) (fun _ _ => rfl)) (da_cons (de_op opAdd (dp (de_ix (ixD hu70) (dp (de_ix (ixD hu70) (dp_var 0) (dp_var 1) (fun _ _ => rfl))) (dp de_int) (fun _ _ => rfl))) (dp_var 2)) da_nil))) (dp_var 1)) (dss_frz (O' := []) (dss_one (ds_ret (de_var 3))))))
/-! least_louder -/
abbrev N_least_louder : List Str := ["bells", "wide", "high", "name", "most", "more"]
theorem sc_least_louder : FnScope N_least_louder ["bells", "wide", "high", "name", "most"] (defScope s_least_louder) := ⟨rfl, rfl, rfl, by decide +kernel, rfl, by decide +kernel, by decide +kernel⟩
def F_least_louder : Sf := (sSeq (sFor (aR1 (aCons (e2 dAdd (eVar 4) (eC (.int 1))) aNil)) (gNm 5) (sIf (cB (e2 dEq (eCall Φ_deaf_spots (aCons (eCall Φ_louder (aCons (eVar 0) (aCons (eVar 3) (aCons (eVar 5) aNil)))) (aCons (eVar 1) (aCons (eVar 2) aNil)))) (eSeq .tuple aNil))) (sRet (eVar 5)) sNil)) (sRet (eC .none)))
def Φ_least_louder : List D → Option D := runB 5 6 F_least_louder
theorem ok_least_louder (h_deaf_spots : FnOk P w K mg base CX0 4 W.a_deaf_spots W.d_deaf_spots ["bells", "wide", "high"] (spD P w K Φ_deaf_spots)) (h_louder : FnOk P w K mg base CX0 1 W.a_louder W.d_louder ["bells", "name", "more"] (spD P w K Φ_louder)) : FnOk P w K mg base CX0 5 W.a_least_louder W.d_least_louder ["bells", "wide", "high", "name", "most"] (spD P w K Φ_least_louder) := fn_ok W.F_least_louder sc_least_louder fun cdv A outer s H E hr => by
  have S := sc_least_louder
  have hu64 := hr.units; have hu70 : (A.deeper (envOfC "least_louder" (defScope s_least_louder) s.heap.objs.size W.a_least_louder cdv)).units + 70 < cLine := by have := hr.un; omega
  exact (dss_cons (ds_for (vs := [5]) (pi_r1 (dpa_cons (dp (de_op opAdd (dp_var 4) (dp de_int))) dpa_nil) (hm := W.z_range)) (dg_nm 5 S.nd) (dss_one (ds_if (Oo := []) (dt_cmp (opEq hu64) (dp (de_call (h_deaf_spots.mono (by decide)) hr (by rfl) W.g_deaf_spots W.F_deaf_spots.kp W.B_deaf_spots (da_cons (de_call (h_louder.mono (by decide)) hr (by rfl) W.g_louder W.F_louder.kp W.B_louder (da_cons (de_var 0) (da_cons (de_var 3) (da_cons (de_var 5) da_nil)))) (da_cons (de_var 1) (da_cons (de_var 2) da_nil))))) (dp (de_tup da_nil))) (dss_one (ds_ret (de_var 5))) dss_nil))) (dss_one (ds_ret de_non)))
/-! is_told_by -/
abbrev N_is_told_by : List Str := ["bells", "wide", "high", "spot"]
theorem sc_is_told_by : FnScope N_is_told_by ["bells", "wide", "high", "spot"] (defScope s_is_told_by) := ⟨rfl, rfl, rfl, by decide +kernel, rfl, by decide +kernel, by decide +kernel⟩
def F_is_told_by : Sf := (sRet (e2 dEq (eCall Φ_spots_with (aCons (eVar 0) (aCons (eVar 1) (aCons (eVar 2) (aCons (eCall Φ_heard_at (aCons (eVar 0) (aCons (eVar 3) aNil))) aNil))))) (eSeq .tuple (aCons (eVar 3) aNil))))
def Φ_is_told_by : List D → Option D := runB 4 4 F_is_told_by
theorem ok_is_told_by (h_spots_with : FnOk P w K mg base CX0 3 W.a_spots_with W.d_spots_with ["bells", "wide", "high", "heard"] (spD P w K Φ_spots_with)) (h_heard_at : FnOk P w K mg base CX0 2 W.a_heard_at W.d_heard_at ["bells", "spot"] (spD P w K Φ_heard_at)) : FnOk P w K mg base CX0 4 W.a_is_told_by W.d_is_told_by ["bells", "wide", "high", "spot"] (spD P w K Φ_is_told_by) := fn_ok W.F_is_told_by sc_is_told_by fun cdv A outer s H E hr => by
  have S := sc_is_told_by
  have hu64 := hr.units; have hu70 : (A.deeper (envOfC "is_told_by" (defScope s_is_told_by) s.heap.objs.size W.a_is_told_by cdv)).units + 70 < cLine := by have := hr.un; omega
  exact (dss_one (ds_ret (de_cmp (opEq hu64) (dp (de_call (h_spots_with.mono (by decide)) hr (by rfl) W.g_spots_with W.F_spots_with.kp W.B_spots_with (da_cons (de_var 0) (da_cons (de_var 1) (da_cons (de_var 2) (da_cons (de_call (h_heard_at.mono (by decide)) hr (by rfl) W.g_heard_at W.F_heard_at.kp W.B_heard_at (da_cons (de_var 0) (da_cons (de_var 3) da_nil))) da_nil)))))) (dp (de_tup (da_cons (de_var 3) da_nil))))))
/-! _law_holds -/
abbrev N__law_holds : List Str := ["w", "wide", "high", "x", "y", "loud", "bells", "spots", "i", "j", "near", "spot", "far_v", "most"]
theorem sc__law_holds : FnScope N__law_holds ["w"] (defScope s__law_holds) := ⟨rfl, rfl, rfl, by decide +kernel, rfl, by decide +kernel, by decide +kernel⟩
def F__law_holds : Xf := (zSeq (sPar [1, 2] (mFrz [0] (x2 dAdd (xD (eC (.int 1))) (xCall 0 Φ__law_next (aCons (eC (.int 6)) aNil))) (mFrz [0] (x2 dAdd (xD (eC (.int 1))) (xCall 0 Φ__law_next (aCons (eC (.int 6)) aNil))) mNil))) (zSeq (sPar [3, 4, 5] (mFrz [0] (xCall 0 Φ__law_next (aCons (eVar 1) aNil)) (mFrz [0] (xCall 0 Φ__law_next (aCons (eVar 2) aNil)) (mFrz [0] (xCall 0 Φ__law_next (aCons (eC (.int 6)) aNil)) mNil)))) (zEnd (sSeq (sSet 6 (eDisp (mkK []) (pCons (eC (.str "b")) (eSeq .tuple (aCons (eSeq .tuple (aCons (eVar 3) (aCons (eVar 4) aNil))) (aCons (eVar 5) aNil))) pNil))) (sSeq (sSet 7 (eSeq .list aNil)) (sSeq (sFor (aR1 (aCons (eVar 1) aNil)) (gNm 8) (sSet 7 (e2 dAdd (eVar 7) (eLc [9] (aR1 (aCons (eVar 2) aNil)) (gNm 9) cYes (eSeq .tuple (aCons (eVar 8) (aCons (eVar 9) aNil))))))) (sSeq (sSet 10 (eCall (fn1 dTuple1) (aCons (eLc [11] (aIt (eVar 7)) (gNm 11) (cB (e2 dLe (e2 dAdd (eCall (fn1 dAbs1) (aCons (e2 dSub (e2 dIx (eVar 11) (eC (.int 0))) (eVar 3)) aNil)) (eCall (fn1 dAbs1) (aCons (e2 dSub (e2 dIx (eVar 11) (eC (.int 1))) (eVar 4)) aNil))) (eVar 5))) (eVar 11)) aNil))) (sSeq (sSet 12 (eCall (fn1 dTuple1) (aCons (eLc [11] (aIt (eVar 7)) (gNm 11) (cB (e2 dNotIn (eVar 11) (eVar 10))) (eVar 11)) aNil))) (sSeq (sIf (cOr (cB (e2 dNe (eCall Φ_spots_with (aCons (eVar 6) (aCons (eVar 1) (aCons (eVar 2) (aCons (eSeq .tuple (aCons (eC (.str "b")) aNil)) aNil))))) (eVar 10))) (cOr (cB (e2 dNe (eCall Φ_deaf_spots (aCons (eVar 6) (aCons (eVar 1) (aCons (eVar 2) aNil)))) (eVar 12))) (cB (e2 dNe (eLc [11] (aIt (eVar 7)) (gNm 11) (cB (e2 dNe (eCall Φ_heard_at (aCons (eVar 6) (aCons (eVar 11) aNil))) (eIf (cB (e2 dIn (eVar 11) (eVar 10))) (eSeq .tuple (aCons (eC (.str "b")) aNil)) (eSeq .tuple aNil)))) (eVar 11)) (eSeq .list aNil))))) (sRet (eC (.bool false))) sNil) (sSeq (sSet 13 (eCall (fn1 dMax1) (aCons (eLc [11] (aIt (eVar 7)) (gNm 11) cYes (e2 dAdd (eCall (fn1 dAbs1) (aCons (e2 dSub (e2 dIx (eVar 11) (eC (.int 0))) (eVar 3)) aNil)) (eCall (fn1 dAbs1) (aCons (e2 dSub (e2 dIx (eVar 11) (eC (.int 1))) (eVar 4)) aNil)))) aNil))) (sRet (eAnd (e2 dEq (eCall Φ_least_louder (aCons (eVar 6) (aCons (eVar 1) (aCons (eVar 2) (aCons (eC (.str "b")) (aCons (eC (.int 20)) aNil)))))) (eCall (fn2 fun d e => if (atD d && atD e) = true then dMax2 d e else none) (aCons (eC (.int 0)) (aCons (e2 dSub (eVar 13) (eVar 5)) aNil)))) (e2 dEq (eCall Φ_is_told_by (aCons (eVar 6) (aCons (eVar 1) (aCons (eVar 2) (aCons (eSeq .tuple (aCons (eVar 3) (aCons (eVar 4) aNil))) aNil))))) (e2 dEq (eVar 10) (eSeq .tuple (aCons (eSeq .tuple (aCons (eVar 3) (aCons (eVar 4) aNil))) aNil))))))))))))))))
def Φ__law_holds : D → List D → Option (D × D) := runE 1 14 F__law_holds
theorem ok__law_holds (h__law_next : FnOk P w K mg base CX0 1 W.a__law_next W.d__law_next ["w", "many"] (spE P w K Φ__law_next)) (h_spots_with : FnOk P w K mg base CX0 3 W.a_spots_with W.d_spots_with ["bells", "wide", "high", "heard"] (spD P w K Φ_spots_with)) (h_deaf_spots : FnOk P w K mg base CX0 4 W.a_deaf_spots W.d_deaf_spots ["bells", "wide", "high"] (spD P w K Φ_deaf_spots)) (h_least_louder : FnOk P w K mg base CX0 5 W.a_least_louder W.d_least_louder ["bells", "wide", "high", "name", "most"] (spD P w K Φ_least_louder)) (h_is_told_by : FnOk P w K mg base CX0 4 W.a_is_told_by W.d_is_told_by ["bells", "wide", "high", "spot"] (spD P w K Φ_is_told_by)) (h_heard_at : FnOk P w K mg base CX0 2 W.a_heard_at W.d_heard_at ["bells", "spot"] (spD P w K Φ_heard_at)) : FnOk P w K mg base CX0 6 W.a__law_holds W.d__law_holds ["w"] (spE P w K Φ__law_holds) := fnE_ok W.F__law_holds sc__law_holds fun cdv A outer s H E hr => by
  have S := sc__law_holds
  have hu64 := hr.units; have hu70 : (A.deeper (envOfC "_law_holds" (defScope s__law_holds) s.heap.objs.size W.a__law_holds cdv)).units + 70 < cLine := by have := hr.un; omega
  exact (dz_cons (ds_par 1 2 S.nd (dxm_frz (dx_op opAdd (dx_of de_int) (dx_call 0 (h__law_next.mono (by decide)) hr (by rfl) W.g__law_next W.F__law_next.kp W.B__law_next (da_cons de_int da_nil))) (dxm_frz (dx_op opAdd (dx_of de_int) (dx_call 0 (h__law_next.mono (by decide)) hr (by rfl) W.g__law_next W.F__law_next.kp W.B__law_next (da_cons de_int da_nil))) dxm_nil)) (by rfl)) (dz_cons (ds_parT3 3 4 5 S.nd (dxm_frz (dx_call 0 (h__law_next.mono (by decide)) hr (by rfl) W.g__law_next W.F__law_next.kp W.B__law_next (da_cons (de_var 1) da_nil)) (dxm_frz (dx_call 0 (h__law_next.mono (by decide)) hr (by rfl) W.g__law_next W.F__law_next.kp W.B__law_next (da_cons (de_var 2) da_nil)) (dxm_frz (dx_call 0 (h__law_next.mono (by decide)) hr (by rfl) W.g__law_next W.F__law_next.kp W.B__law_next (da_cons de_int da_nil)) dxm_nil)))) (dz_end (O' := []) (Oo := []) (dss_cons (ds_set (O' := []) 6 S.nd (de_frz (df_dispK (dps_cons de_str (de_tup (da_cons (de_tup (da_cons (de_var 3) (da_cons (de_var 4) da_nil))) (da_cons (de_var 5) da_nil))) dps_nil) rfl rfl (by simp) (by decide)))) (dss_cons (ds_set (O' := []) 7 S.nd (de_lst da_nil)) (dss_cons (ds_for (vs := [8]) (pi_r1 (dpa_cons (dp_var 1) dpa_nil) (hm := W.z_range)) (dg_nm 8 S.nd) (dss_one (ds_set (O' := []) 7 S.nd (de_op opAdd (dp_var 7) (dp (de_frz (df_lc S.nd (own := [("j", 9)]) (blkOk_by (by rfl)) (pi_peek (pi_r1 (dpa_cons (dp_var 2) dpa_nil) (hm := W.z_range))) (fun _ _ _ _ _ => (dg_nm 9 S.nd)) (fun _ _ _ _ _ => dts_nil) (fun _ _ _ _ _ => (de_tup (da_cons (de_var 8) (da_cons (de_var 9) da_nil))))))))))) (dss_cons (ds_set (O' := []) 10 S.nd (de_ty cTuple (by rfl) W.z_tuple (by decide +kernel) (dpa_cons (dp (de_frz (df_lc S.nd (own := [("spot", 11)]) (blkOk_by (by rfl)) (pi_dp (dp_var 7)) (fun _ _ _ _ _ => (dg_nm 11 S.nd)) (fun _ _ _ _ _ => (dts_one (dt_cmp (opLe hu64) (dp (de_op opAdd (dp (de_bi cAbs (by rfl) W.z_abs (by decide +kernel) (dpa_cons (dp (de_op opSub (dp (de_ix (ixD hu70) (dp_var 11) (dp de_int) (fun _ _ => rfl))) (dp_var 3))) dpa_nil))) (dp (de_bi cAbs (by rfl) W.z_abs (by decide +kernel) (dpa_cons (dp (de_op opSub (dp (de_ix (ixD hu70) (dp_var 11) (dp de_int) (fun _ _ => rfl))) (dp_var 4))) dpa_nil))))) (dp_var 5)))) (fun _ _ _ _ _ => (de_var 11))))) dpa_nil))) (dss_cons (ds_set (O' := []) 12 S.nd (de_ty cTuple (by rfl) W.z_tuple (by decide +kernel) (dpa_cons (dp (de_frz (df_lc S.nd (own := [("spot", 11)]) (blkOk_by (by rfl)) (pi_dp (dp_var 7)) (fun _ _ _ _ _ => (dg_nm 11 S.nd)) (fun _ _ _ _ _ => (dts_one (dt_cmp (opNotIn hu70) (dp_var 11) (dp_var 10)))) (fun _ _ _ _ _ => (de_var 11))))) dpa_nil))) (dss_cons (ds_if (Oo := []) (dt_w (dw_or (dt_cmp (opNe hu64) (dp (de_call (h_spots_with.mono (by decide)) hr (by rfl) W.g_spots_with W.F_spots_with.kp W.B_spots_with (da_cons (de_var 6) (da_cons (de_var 1) (da_cons (de_var 2) (da_cons (de_tup (da_cons de_str da_nil)) da_nil)))))) (dp_var 10)) (dw_or (dt_cmp (opNe hu64) (dp (de_call (h_deaf_spots.mono (by decide)) hr (by rfl) W.g_deaf_spots W.F_deaf_spots.kp W.B_deaf_spots (da_cons (de_var 6) (da_cons (de_var 1) (da_cons (de_var 2) da_nil))))) (dp_var 12)) (dw_or1 (dt_cmp (opNe hu64) (dp (de_frz (df_lc S.nd (own := [("spot", 11)]) (blkOk_by (by rfl)) (pi_dp (dp_var 7)) (fun _ _ _ _ _ => (dg_nm 11 S.nd)) (fun _ _ _ _ _ => (dts_one (dt_cmp (opNe hu64) (dp (de_call (h_heard_at.mono (by decide)) hr (by rfl) W.g_heard_at W.F_heard_at.kp W.B_heard_at (da_cons (de_var 6) (da_cons (de_var 11) da_nil)))) (dp (de_if (dt_cmp (opIn hu70) (dp_var 11) (dp_var 10)) (de_tup (da_cons de_str da_nil)) (de_tup da_nil)))))) (fun _ _ _ _ _ => (de_var 11))))) (dp (de_lst da_nil))))))) (dss_one (ds_ret de_bl)) dss_nil) (dss_cons (ds_set (O' := []) 13 S.nd (de_bi (cMax1 rfl hu70) (by rfl) W.z_max (by decide +kernel) (dpa_cons (dp (de_frz (df_lc S.nd (own := [("spot", 11)]) (blkOk_by (by rfl)) (pi_dp (dp_var 7)) (fun _ _ _ _ _ => (dg_nm 11 S.nd)) (fun _ _ _ _ _ => dts_nil) (fun _ _ _ _ _ => (de_op opAdd (dp (de_bi cAbs (by rfl) W.z_abs (by decide +kernel) (dpa_cons (dp (de_op opSub (dp (de_ix (ixD hu70) (dp_var 11) (dp de_int) (fun _ _ => rfl))) (dp_var 3))) dpa_nil))) (dp (de_bi cAbs (by rfl) W.z_abs (by decide +kernel) (dpa_cons (dp (de_op opSub (dp (de_ix (ixD hu70) (dp_var 11) (dp de_int) (fun _ _ => rfl))) (dp_var 4))) dpa_nil)))))))) dpa_nil))) (dss_one (ds_ret (de_and (dp (de_cmp (opEq hu64) (dp (de_call (h_least_louder.mono (by decide)) hr (by rfl) W.g_least_louder W.F_least_louder.kp W.B_least_louder (da_cons (de_var 6) (da_cons (de_var 1) (da_cons (de_var 2) (da_cons de_str (da_cons de_int da_nil))))))) (dp (de_bi (cMax2 rfl hu70) (by rfl) W.z_max (by decide +kernel) (dpa_cons (dp de_int) (dpa_cons (dp (de_op opSub (dp_var 13) (dp_var 5))) dpa_nil)))))) (de_one (de_cmp (opEq hu64) (dp (de_call (h_is_told_by.mono (by decide)) hr (by rfl) W.g_is_told_by W.F_is_told_by.kp W.B_is_told_by (da_cons (de_var 6) (da_cons (de_var 1) (da_cons (de_var 2) (da_cons (de_tup (da_cons (de_var 3) (da_cons (de_var 4) da_nil))) da_nil)))))) (dp (de_cmp (opEq hu64) (dp_var 10) (dp (de_tup (da_cons (de_tup (da_cons (de_var 3) (da_cons (de_var 4) da_nil))) da_nil))))))))))))))))))))
/-! law -/
abbrev N_law : List Str := ["script", "w", "turn"]
theorem sc_law : FnScope N_law ["script"] (defScope s_law) := ⟨rfl, rfl, rfl, by decide +kernel, rfl, by decide +kernel, by decide +kernel⟩
def F_law : Sf := (sSeq (sSet 1 (eDisp (mkK []) (pCons (eC (.str "draws")) (eCall Φ__law_draws (aCons (eVar 0) (aCons (eC (.int 200)) aNil))) (pCons (eC (.str "at")) (eC (.int 0)) pNil)))) (sSeq (sFor (aR1 (aCons (eC (.int 4)) aNil)) (gNm 2) (sIfX (xNot (xB (xCall 1 Φ__law_holds aNil))) (sRet (eC (.bool false))) sNil)) (sRet (eC (.bool true)))))
def Φ_law : List D → Option D := runB 1 3 F_law
theorem ok_law (h__law_draws : FnOk P w K mg base CX0 1 W.a__law_draws W.d__law_draws ["script", "many"] (spD P w K Φ__law_draws)) (h__law_holds : FnOk P w K mg base CX0 6 W.a__law_holds W.d__law_holds ["w"] (spE P w K Φ__law_holds)) : FnOk P w K mg base CX0 7 W.a_law W.d_law ["script"] (spD P w K Φ_law) := fn_ok W.F_law sc_law fun cdv A outer s H E hr => by
  have S := sc_law
  have hu64 := hr.units; have hu70 : (A.deeper (envOfC "law" (defScope s_law) s.heap.objs.size W.a_law cdv)).units + 70 < cLine := by have := hr.un; omega
  exact (dss_cons (ds_own (O' := [1]) 1 S.nd (df_dispK (dps_cons de_str (de_call (h__law_draws.mono (by decide)) hr (by rfl) W.g__law_draws W.F__law_draws.kp W.B__law_draws (da_cons (de_var 0) (da_cons de_int da_nil))) (dps_cons de_str de_int dps_nil)) rfl rfl (by simp) (by decide))) (dss_cons (ds_for (vs := [2]) (pi_r1 (dpa_cons (dp de_int) dpa_nil) (hm := W.z_range)) (dg_nm 2 S.nd) (dss_one (ds_ifX (Oo := [1]) (dxt_not (dxt_val (dx_call 1 (h__law_holds.mono (by decide)) hr (by rfl) W.g__law_holds W.F__law_holds.kp W.B__law_holds da_nil))) (dss_one (ds_ret de_bl)) dss_nil))) (dss_one (ds_ret de_bl))))
end
theorem ok_all {P : Program} {w : World} {K : PySem.W.Frag} {mg : Str → Option Value} {base : Heap} (W : Wd K mg) : FnOk P w K mg base CX0 7 W.a_law W.d_law ["script"] (spD P w K Φ_law) := by
  have h__law_draws := ok__law_draws (P := P) (w := w) (base := base) W 
  have h__law_next := ok__law_next (P := P) (w := w) (base := base) W 
  have h_field := ok_field (P := P) (w := w) (base := base) W 
  have h_far := ok_far (P := P) (w := w) (base := base) W 
  have h_heard_at := ok_heard_at (P := P) (w := w) (base := base) W h_far
  have h_spots_with := ok_spots_with (P := P) (w := w) (base := base) W h_field h_heard_at
  have h_deaf_spots := ok_deaf_spots (P := P) (w := w) (base := base) W h_spots_with
  have h_louder := ok_louder (P := P) (w := w) (base := base) W 
  have h_least_louder := ok_least_louder (P := P) (w := w) (base := base) W h_deaf_spots h_louder
  have h_is_told_by := ok_is_told_by (P := P) (w := w) (base := base) W h_spots_with h_heard_at
  have h__law_holds := ok__law_holds (P := P) (w := w) (base := base) W h__law_next h_spots_with h_deaf_spots h_least_louder h_is_told_by h_heard_at
  exact ok_law W h__law_draws h__law_holds
def spL (P : Program) (w : World) (K : PySem.W.Frag) : Sp := spD P w K Φ_law
theorem all_mk {l : PySem.W.OpenLaw} {w : World} {K : PySem.W.Frag} {h : Heap} {mg : Str → Option Value} {fa : Addr} (X : K.In h) (G : h.Ns mainGlobals mg) (hfa : mg "law" = some (.ref fa)) {od0 an0 : Option Addr} {sl0 : Array (Option Value)} {oc0 kV0 dc0 pm0 cd0 ct0 : Value} {f0 : Addr} {od1 an1 : Option Addr} {sl1 : Array (Option Value)} {oc1 kV1 dc1 pm1 cd1 ct1 : Value} {f1 : Addr} {od2 an2 : Option Addr} {sl2 : Array (Option Value)} {oc2 kV2 dc2 pm2 cd2 ct2 : Value} {f2 : Addr} {od3 an3 : Option Addr} {sl3 : Array (Option Value)} {oc3 kV3 dc3 pm3 cd3 ct3 : Value} {f3 : Addr} {od4 an4 : Option Addr} {sl4 : Array (Option Value)} {oc4 kV4 dc4 pm4 cd4 ct4 : Value} {f4 : Addr} {od5 an5 : Option Addr} {sl5 : Array (Option Value)} {oc5 kV5 dc5 pm5 cd5 ct5 : Value} {f5 : Addr} {od6 an6 : Option Addr} {sl6 : Array (Option Value)} {oc6 kV6 dc6 pm6 cd6 ct6 : Value} {f6 : Addr} {od7 an7 : Option Addr} {sl7 : Array (Option Value)} {oc7 kV7 dc7 pm7 cd7 ct7 : Value} {f7 : Addr} {od8 an8 : Option Addr} {sl8 : Array (Option Value)} {oc8 kV8 dc8 pm8 cd8 ct8 : Value} {f8 : Addr} {od9 an9 : Option Addr} {sl9 : Array (Option Value)} {oc9 kV9 dc9 pm9 cd9 ct9 : Value} {f9 : Addr} {od10 an10 : Option Addr} {sl10 : Array (Option Value)} {oc10 kV10 dc10 pm10 cd10 ct10 : Value} {f10 : Addr} {od11 an11 : Option Addr} {sl11 : Array (Option Value)} {oc11 kV11 dc11 pm11 cd11 ct11 : Value} {f11 : Addr}
    (a0 : PySem.W.nsIn K mainGlobals "_law_draws" = some (some (.ref f0))) (l0 : K.lookup f0 = some ⟨oc0, od0, .func (PySem.W.fnOf "_law_draws" "_law_draws" (defArgs s__law_draws) (defBody s__law_draws) (defScope s__law_draws) .none kV0 dc0 pm0 an0 cd0 ct0), sl0⟩) (c0 : PySem.W.codeIn K cd0 "_law_draws" = true) (k0 : PySem.W.keepIn K (.ref f0) = true)
    (a1 : PySem.W.nsIn K mainGlobals "_law_next" = some (some (.ref f1))) (l1 : K.lookup f1 = some ⟨oc1, od1, .func (PySem.W.fnOf "_law_next" "_law_next" (defArgs s__law_next) (defBody s__law_next) (defScope s__law_next) .none kV1 dc1 pm1 an1 cd1 ct1), sl1⟩) (c1 : PySem.W.codeIn K cd1 "_law_next" = true) (k1 : PySem.W.keepIn K (.ref f1) = true)
    (a2 : PySem.W.nsIn K mainGlobals "field" = some (some (.ref f2))) (l2 : K.lookup f2 = some ⟨oc2, od2, .func (PySem.W.fnOf "field" "field" (defArgs s_field) (defBody s_field) (defScope s_field) .none kV2 dc2 pm2 an2 cd2 ct2), sl2⟩) (c2 : PySem.W.codeIn K cd2 "field" = true) (k2 : PySem.W.keepIn K (.ref f2) = true)
    (a3 : PySem.W.nsIn K mainGlobals "far" = some (some (.ref f3))) (l3 : K.lookup f3 = some ⟨oc3, od3, .func (PySem.W.fnOf "far" "far" (defArgs s_far) (defBody s_far) (defScope s_far) .none kV3 dc3 pm3 an3 cd3 ct3), sl3⟩) (c3 : PySem.W.codeIn K cd3 "far" = true) (k3 : PySem.W.keepIn K (.ref f3) = true)
    (a4 : PySem.W.nsIn K mainGlobals "heard_at" = some (some (.ref f4))) (l4 : K.lookup f4 = some ⟨oc4, od4, .func (PySem.W.fnOf "heard_at" "heard_at" (defArgs s_heard_at) (defBody s_heard_at) (defScope s_heard_at) .none kV4 dc4 pm4 an4 cd4 ct4), sl4⟩) (c4 : PySem.W.codeIn K cd4 "heard_at" = true) (k4 : PySem.W.keepIn K (.ref f4) = true)
    (a5 : PySem.W.nsIn K mainGlobals "spots_with" = some (some (.ref f5))) (l5 : K.lookup f5 = some ⟨oc5, od5, .func (PySem.W.fnOf "spots_with" "spots_with" (defArgs s_spots_with) (defBody s_spots_with) (defScope s_spots_with) .none kV5 dc5 pm5 an5 cd5 ct5), sl5⟩) (c5 : PySem.W.codeIn K cd5 "spots_with" = true) (k5 : PySem.W.keepIn K (.ref f5) = true)
    (a6 : PySem.W.nsIn K mainGlobals "deaf_spots" = some (some (.ref f6))) (l6 : K.lookup f6 = some ⟨oc6, od6, .func (PySem.W.fnOf "deaf_spots" "deaf_spots" (defArgs s_deaf_spots) (defBody s_deaf_spots) (defScope s_deaf_spots) .none kV6 dc6 pm6 an6 cd6 ct6), sl6⟩) (c6 : PySem.W.codeIn K cd6 "deaf_spots" = true) (k6 : PySem.W.keepIn K (.ref f6) = true)
    (a7 : PySem.W.nsIn K mainGlobals "louder" = some (some (.ref f7))) (l7 : K.lookup f7 = some ⟨oc7, od7, .func (PySem.W.fnOf "louder" "louder" (defArgs s_louder) (defBody s_louder) (defScope s_louder) .none kV7 dc7 pm7 an7 cd7 ct7), sl7⟩) (c7 : PySem.W.codeIn K cd7 "louder" = true) (k7 : PySem.W.keepIn K (.ref f7) = true)
    (a8 : PySem.W.nsIn K mainGlobals "least_louder" = some (some (.ref f8))) (l8 : K.lookup f8 = some ⟨oc8, od8, .func (PySem.W.fnOf "least_louder" "least_louder" (defArgs s_least_louder) (defBody s_least_louder) (defScope s_least_louder) .none kV8 dc8 pm8 an8 cd8 ct8), sl8⟩) (c8 : PySem.W.codeIn K cd8 "least_louder" = true) (k8 : PySem.W.keepIn K (.ref f8) = true)
    (a9 : PySem.W.nsIn K mainGlobals "is_told_by" = some (some (.ref f9))) (l9 : K.lookup f9 = some ⟨oc9, od9, .func (PySem.W.fnOf "is_told_by" "is_told_by" (defArgs s_is_told_by) (defBody s_is_told_by) (defScope s_is_told_by) .none kV9 dc9 pm9 an9 cd9 ct9), sl9⟩) (c9 : PySem.W.codeIn K cd9 "is_told_by" = true) (k9 : PySem.W.keepIn K (.ref f9) = true)
    (a10 : PySem.W.nsIn K mainGlobals "_law_holds" = some (some (.ref f10))) (l10 : K.lookup f10 = some ⟨oc10, od10, .func (PySem.W.fnOf "_law_holds" "_law_holds" (defArgs s__law_holds) (defBody s__law_holds) (defScope s__law_holds) .none kV10 dc10 pm10 an10 cd10 ct10), sl10⟩) (c10 : PySem.W.codeIn K cd10 "_law_holds" = true) (k10 : PySem.W.keepIn K (.ref f10) = true)
    (a11 : PySem.W.nsIn K mainGlobals "law" = some (some (.ref f11))) (l11 : K.lookup f11 = some ⟨oc11, od11, .func (PySem.W.fnOf "law" "law" (defArgs s_law) (defBody s_law) (defScope s_law) .none kV11 dc11 pm11 an11 cd11 ct11), sl11⟩) (c11 : PySem.W.codeIn K cd11 "law" = true) (k11 : PySem.W.keepIn K (.ref f11) = true)
    (z_abs : PySem.W.nsIn K mainGlobals "abs" = some none)
    (z_dict : PySem.W.nsIn K mainGlobals "dict" = some none)
    (z_int : PySem.W.nsIn K mainGlobals "int" = some none)
    (z_len : PySem.W.nsIn K mainGlobals "len" = some none)
    (z_max : PySem.W.nsIn K mainGlobals "max" = some none)
    (z_range : PySem.W.nsIn K mainGlobals "range" = some none)
    (z_sorted : PySem.W.nsIn K mainGlobals "sorted" = some none)
    (z_tuple : PySem.W.nsIn K mainGlobals "tuple" = some none) :
    ∃ fd : FuncData, (∀ (s : Shared) (v : Value), BindsTo s fd ⟨[v], []⟩ [("script", v)]) ∧ ∀ base : Heap, K.In base → base.Ns mainGlobals mg → FnOk l.prog w K mg base CX0 7 fa fd ["script"] (spL l.prog w K) := by
  have e := hfa.symm.trans (PySem.W.mg_of X G a11)
  cases e
  have F0 := fun_mk (st := s__law_draws) l0 c0 k0
  have b0 := F0.binds (ps := ["script", "many"]) fun _ _ _ _ _ _ us hl => match us, hl with | [_, _], _ => rfl
  have F1 := fun_mk (st := s__law_next) l1 c1 k1
  have b1 := F1.binds (ps := ["w", "many"]) fun _ _ _ _ _ _ us hl => match us, hl with | [_, _], _ => rfl
  have F2 := fun_mk (st := s_field) l2 c2 k2
  have b2 := F2.binds (ps := ["wide", "high"]) fun _ _ _ _ _ _ us hl => match us, hl with | [_, _], _ => rfl
  have F3 := fun_mk (st := s_far) l3 c3 k3
  have b3 := F3.binds (ps := ["one", "other"]) fun _ _ _ _ _ _ us hl => match us, hl with | [_, _], _ => rfl
  have F4 := fun_mk (st := s_heard_at) l4 c4 k4
  have b4 := F4.binds (ps := ["bells", "spot"]) fun _ _ _ _ _ _ us hl => match us, hl with | [_, _], _ => rfl
  have F5 := fun_mk (st := s_spots_with) l5 c5 k5
  have b5 := F5.binds (ps := ["bells", "wide", "high", "heard"]) fun _ _ _ _ _ _ us hl => match us, hl with | [_, _, _, _], _ => rfl
  have F6 := fun_mk (st := s_deaf_spots) l6 c6 k6
  have b6 := F6.binds (ps := ["bells", "wide", "high"]) fun _ _ _ _ _ _ us hl => match us, hl with | [_, _, _], _ => rfl
  have F7 := fun_mk (st := s_louder) l7 c7 k7
  have b7 := F7.binds (ps := ["bells", "name", "more"]) fun _ _ _ _ _ _ us hl => match us, hl with | [_, _, _], _ => rfl
  have F8 := fun_mk (st := s_least_louder) l8 c8 k8
  have b8 := F8.binds (ps := ["bells", "wide", "high", "name", "most"]) fun _ _ _ _ _ _ us hl => match us, hl with | [_, _, _, _, _], _ => rfl
  have F9 := fun_mk (st := s_is_told_by) l9 c9 k9
  have b9 := F9.binds (ps := ["bells", "wide", "high", "spot"]) fun _ _ _ _ _ _ us hl => match us, hl with | [_, _, _, _], _ => rfl
  have F10 := fun_mk (st := s__law_holds) l10 c10 k10
  have b10 := F10.binds (ps := ["w"]) fun _ _ _ _ _ _ us hl => match us, hl with | [_], _ => rfl
  have F11 := fun_mk (st := s_law) l11 c11 k11
  have b11 := F11.binds (ps := ["script"]) fun _ _ _ _ _ _ us hl => match us, hl with | [_], _ => rfl
  exact ⟨PySem.W.fnOf "law" "law" (defArgs s_law) (defBody s_law) (defScope s_law) .none kV11 dc11 pm11 an11 cd11 ct11, fun s v => .of_eq rfl, fun base _ _ => ok_all (base := base) ⟨_, _, F0, b0, PySem.W.mg_of X G a0, _, _, F1, b1, PySem.W.mg_of X G a1, _, _, F2, b2, PySem.W.mg_of X G a2, _, _, F3, b3, PySem.W.mg_of X G a3, _, _, F4, b4, PySem.W.mg_of X G a4, _, _, F5, b5, PySem.W.mg_of X G a5, _, _, F6, b6, PySem.W.mg_of X G a6, _, _, F7, b7, PySem.W.mg_of X G a7, _, _, F8, b8, PySem.W.mg_of X G a8, _, _, F9, b9, PySem.W.mg_of X G a9, _, _, F10, b10, PySem.W.mg_of X G a10, _, _, F11, b11, PySem.W.mg_of X G a11, PySem.W.mg_none_of X G z_abs, PySem.W.mg_none_of X G z_dict, PySem.W.mg_none_of X G z_int, PySem.W.mg_none_of X G z_len, PySem.W.mg_none_of X G z_max, PySem.W.mg_none_of X G z_range, PySem.W.mg_none_of X G z_sorted, PySem.W.mg_none_of X G z_tuple⟩⟩
end K10
namespace K10
open PySem PySem.Spec PyProof.Rows L2 DL

theorem next_eq : Φ__law_next = Φ_next := rfl
/-- a spot -/
def sp (i j : Int) : D := .tuple [.int i, .int j]
def IsSp (d : D) : Prop := ∃ i j, d = sp i j
/-- the spots of a field, row by row -/
def inner (h : Nat) (i : D) : List D := (rangeD 0 h).map fun j => .tuple [i, j]
def grid (w h : Nat) : List D := (rangeD 0 w).flatMap (inner h)
theorem grid_sp {w h : Nat} {d : D} (hd : d ∈ grid w h) : IsSp d := by
  obtain ⟨i, hi, hj⟩ := List.mem_flatMap.mp hd
  obtain ⟨a, rfl, _⟩ := rangeD_mem hi
  obtain ⟨j, hj', rfl⟩ := List.mem_map.mp hj
  obtain ⟨b, rfl, _⟩ := rangeD_mem hj'
  exact ⟨a, b, rfl⟩
theorem flat_len (h : Nat) : ∀ l : List D, (l.flatMap (inner h)).length = l.length * h
  | [] => by simp
  | d :: l => by
    rw [List.flatMap_cons, List.length_append, flat_len h l, inner, List.length_map, rangeD_len, List.length_cons, Nat.succ_mul]
    omega
theorem grid_len (w h : Nat) : (grid w h).length = w * h := by rw [grid, flat_len, rangeD_len]
theorem grid_small {w h : Nat} (hw : w ≤ 6) (hh : h ≤ 6) : (grid w h).length ≤ 36 := by
  rw [grid_len]
  exact Nat.le_trans (Nat.mul_le_mul hw hh) (Nat.le_refl _)
theorem lcGo_all {t : Gf} {el : Ef} {ρ : Sl} (T : D → Sl) (g : D → D) (ds : List D) (h : ∀ d ∈ ds, t d ρ = some (T d) ∧ el (T d) = some (g d) ∧ flatD (g d) = true) : lcGo t cYes el ρ ds = some (ds.map g) := by
  have := lcGo_eq (c := cYes) T (fun _ => true) g ds fun d hd => ⟨(h d hd).1, rfl, fun _ => (h d hd).2⟩
  rw [this, List.filter_eq_self.mpr (by intros; rfl)]
theorem lc2Go_cons {t : Gf} {c : Tf} {it1 : Af} {vs1 : List Nat} {t1 : Gf} {c1 : Tf} {el : Ef} {ρ ρ1 : Sl} {d : D} {ds es xs r : List D} (h1 : t d ρ = some ρ1) (h2 : c ρ1 = some true) (h3 : it1 ρ1 = some es) (h4 : lcGo t1 c1 el (wipeD ρ1 vs1) es = some xs) (h5 : lc2Go t c it1 vs1 t1 c1 el ρ ds = some r) : lc2Go t c it1 vs1 t1 c1 el ρ (d :: ds) = some (xs ++ r) := by
  rw [lc2Go, h1]
  simp only [h2, h3, h4, h5]
theorem cell_ok {d : D} {k : Int} (hd : flatD d = true) : okSeq [d, .int k] = true := by
  have h : decide ([d, PyData.int k].length ≤ 16777216) = true := rfl
  rw [okSeq, h, List.all_cons, hd]
  rfl
theorem field_in (x0 : Option D) (h : Nat) (hh : h ≤ 6) (d : D) (hd : flatD d = true) : lcGo (gNm 3) cYes (eSeq .tuple (aCons (eVar 2) (aCons (eVar 3) aNil))) (wipeD [x0, some (.int (h : Int)), some d, none] [3]) (rangeD 0 h) = some (inner h d) := by
  refine lcGo_all (fun j => [x0, some (.int (h : Int)), some d, some j]) (fun j => .tuple [d, j]) _ fun j hj => ?_
  obtain ⟨k, rfl, _⟩ := rangeD_mem hj
  exact ⟨rfl, eSeq_eq (aCons_eq rfl (aOne_eq rfl)) (cell_ok hd), rfl⟩
theorem field_go (x0 : Option D) (h : Nat) (hh : h ≤ 6) (ds : List D) (hf : ∀ d ∈ ds, flatD d = true) : lc2Go (gNm 2) cYes (aR1 (aCons (eVar 1) aNil)) [3] (gNm 3) cYes (eSeq .tuple (aCons (eVar 2) (aCons (eVar 3) aNil))) [x0, some (.int (h : Int)), none, none] ds = some (ds.flatMap (inner h)) := by
  induction ds with
  | nil => rfl
  | cons d ds ih =>
    rw [List.flatMap_cons]
    exact lc2Go_cons (ρ1 := [x0, some (.int (h : Int)), some d, none]) (es := rangeD 0 h) rfl rfl (aR1_var rfl (by omega)) (field_in x0 h hh d (hf d List.mem_cons_self)) (ih fun e he => hf e (List.mem_cons_of_mem _ he))
theorem range_flat {n : Nat} {lo : Int} : ∀ d ∈ rangeD lo n, flatD d = true := fun d hd => by
  obtain ⟨k, rfl, _⟩ := rangeD_mem hd
  rfl
theorem eLc2_eq {vs : List Nat} {it : Af} {t : Gf} {c : Tf} {vs1 : List Nat} {it1 : Af} {t1 : Gf} {c1 : Tf} {el : Ef} {ρ : Sl} {ds r : List D} (h : it ρ = some ds) (h' : lc2Go t c it1 vs1 t1 c1 el (wipeD ρ vs) ds = some r) (hl : r.length ≤ 16777216) : eLc2 vs it t c vs1 it1 t1 c1 el ρ = some (.list r) := by
  rw [eLc2, h]
  simp only [h', hl, if_true]
theorem field_val (w h : Nat) (hw : w ≤ 6) (hh : h ≤ 6) : Φ_field [.int w, .int h] = some (.list (grid w h)) := by
  refine runB_rt rfl (ρ := [some (.int w), some (.int h), none, none]) rfl (sRet_eq ?_)
  have e1 : aR1 (aCons (eVar 0) aNil) [some (.int (w : Int)), some (.int (h : Int)), none, none] = some (rangeD 0 w) := aR1_var rfl (by omega)
  exact eLc2_eq e1 (field_go (some (.int (w : Int))) h hh (rangeD 0 w) range_flat) (Nat.le_trans (grid_small hw hh) (by omega))
/-! ### how far -/
def ab (z : Int) : Int := if z < 0 then -z else z
def dist (x y : Int) : D → Int
  | .tuple [.int i, .int j] => ab (i - x) + ab (j - y)
  | _ => 0
def near (x y L : Int) : D → Bool := fun d => decide (dist x y d ≤ L)
def far' (x y L : Int) : D → Bool := fun d => !decide (dist x y d ≤ L)
def bell (x y L : Int) : D := mkK [(.str "b", .tuple [sp x y, .int L])]
theorem ix_0 (a b : D) : dIx (.tuple [a, b]) (.int 0) = some a := rfl
theorem ix_1 (a b : D) : dIx (.tuple [a, b]) (.int 1) = some b := rfl
theorem far_val (a b c d : Int) : Φ_far [sp a b, sp c d] = some (.int (ab (a - c) + ab (b - d))) := rfl
theorem ab_swap (a b : Int) : ab (a - b) = ab (b - a) := by unfold ab; split <;> split <;> omega
def heard (b : Bool) : D := .tuple (if b = true then [.str "b"] else [])
theorem heard_val (x y L : Int) (d : D) (hd : IsSp d) : Φ_heard_at [bell x y L, d] = some (heard (near x y L d)) := by
  obtain ⟨i, j, rfl⟩ := hd
  refine runB_rt rfl (ρ := [some (bell x y L), some (sp i j), none]) rfl ?_
  have e1 : eLc [2] (aIt (eCall (fn1 dSorted1) (aCons (eVar 0) aNil))) (gNm 2) (cB (e2 dLe (eCall Φ_far (aCons (e2 dIx (e2 dIx (eVar 0) (eVar 2)) (eC (.int 0))) (aCons (eVar 1) aNil))) (e2 dIx (e2 dIx (eVar 0) (eVar 2)) (eC (.int 1))))) (eVar 2) [some (bell x y L), some (sp i j), none] = some (.list (([PyData.str "b"].filter fun _ => near x y L (sp i j)).map id)) := by
    refine eLc_eq (ds := [.str "b"]) (fun d => [some (bell x y L), some (sp i j), some d]) (fun _ => near x y L (sp i j)) id rfl (by simp) fun d hd => ?_
    obtain rfl := List.mem_singleton.mp hd
    have h1 : e2 dIx (eVar 0) (eVar 2) [some (bell x y L), some (sp i j), some (.str "b")] = some (.tuple [sp x y, .int L]) := rfl
    refine ⟨rfl, cB_eq (e2_eq (eCall_eq (aCons_eq (e2_eq h1 rfl (ix_0 _ _)) (aOne_eq rfl)) (far_val x y i j)) (e2_eq h1 rfl (ix_1 _ _)) ?_), fun _ => ⟨rfl, rfl⟩⟩
    rw [dLeI, ab_swap x i, ab_swap y j]
    rfl
  refine sRet_eq (eCall_eq (aOne_eq e1) ?_)
  cases near x y L (sp i j) <;> rfl
/-! ### spots with -/
theorem eq_heard (a b : Bool) : dEq (heard a) (heard b) = some (.bool (decide (a = b))) := by
  have h1 : ∀ a, okD (heard a) = true := by decide +kernel
  have h2 : ∀ a b, PyData.eqv (heard a) (heard b) = decide (a = b) := by decide +kernel
  rw [dEq, h1, h1, h2]
  rfl
theorem spots_val (x y L : Int) (w h : Nat) (hw : w ≤ 6) (hh : h ≤ 6) (b : Bool) : Φ_spots_with [bell x y L, .int w, .int h, heard b] = some (.tuple (((grid w h).filter fun d => decide (near x y L d = b)).map id)) := by
  refine runB_rt rfl (ρ := [some (bell x y L), some (.int w), some (.int h), some (heard b), none]) rfl ?_
  have e0 : eCall Φ_field (aCons (eVar 1) (aCons (eVar 2) aNil)) [some (bell x y L), some (.int (w : Int)), some (.int (h : Int)), some (heard b), none] = some (.list (grid w h)) := eCall_eq (aCons_eq rfl (aOne_eq rfl)) (field_val w h hw hh)
  refine sRet_eq (eCall_eq (aOne_eq (eLc_eq (ds := grid w h) (fun d => [some (bell x y L), some (.int (w : Int)), some (.int (h : Int)), some (heard b), some d]) (fun d => decide (near x y L d = b)) id (by rw [aIt, e0]; rfl) (Nat.le_trans (grid_small hw hh) (by omega)) fun d hd => ?_)) rfl)
  obtain hs := grid_sp hd
  refine ⟨rfl, cB_eq (e2_eq (eCall_eq (aCons_eq rfl (aOne_eq rfl)) (heard_val x y L d hs)) rfl (eq_heard _ _)), fun _ => ⟨rfl, ?_⟩⟩
  obtain ⟨i, j, rfl⟩ := hs
  rfl
theorem near_eq (x y L : Int) (l : List D) : (l.filter fun d => decide (near x y L d = true)) = l.filter (near x y L) := List.filter_congr fun d _ => by cases near x y L d <;> rfl
theorem deaf_eq (x y L : Int) (l : List D) : (l.filter fun d => decide (near x y L d = false)) = l.filter (far' x y L) := List.filter_congr fun d _ => by
  show decide (decide (dist x y d ≤ L) = false) = !decide (dist x y d ≤ L)
  cases decide (dist x y d ≤ L) <;> rfl
theorem deaf_val (x y L : Int) (w h : Nat) (hw : w ≤ 6) (hh : h ≤ 6) : Φ_deaf_spots [bell x y L, .int w, .int h] = some (.tuple ((grid w h).filter (far' x y L))) := by
  have := spots_val x y L w h hw hh false
  rw [List.map_id, deaf_eq] at this
  exact runB_rt rfl (ρ := [some (bell x y L), some (.int w), some (.int h)]) rfl (sRet_eq (eCall_eq (aCons_eq rfl (aCons_eq rfl (aCons_eq rfl (aOne_eq (eSeq_eq rfl rfl))))) this))
theorem louder_val (x y L m : Int) : Φ_louder [bell x y L, .str "b", .int m] = some (bell x y (L + m)) := rfl
/-! ### the law's own spots -/
theorem okT {ds : List D} (h : ∀ d ∈ ds, IsSp d) : okD (.tuple ds) = true ∧ okD (.list ds) = true := by
  obtain ⟨h1, h2⟩ := okPair ds h
  constructor <;> (simp [okD, SeqAt.shaped, PyData.canLay0, PyData.depth, h1]; omega)
theorem okS {d : D} (h : IsSp d) : okD d = true := by
  obtain ⟨i, j, rfl⟩ := h
  exact (okD_ints (ds := [.int i, .int j]) fun d hd => by
    rcases List.mem_cons.mp hd with rfl | hd
    · exact ⟨i, rfl⟩
    · exact ⟨j, List.mem_singleton.mp hd⟩).1
theorem eqv_sp (a b c d : Int) : PyData.eqv (sp a b) (sp c d) = decide (a = c ∧ b = d) := by
  by_cases h : a = c ∧ b = d
  · obtain ⟨rfl, rfl⟩ := h
    rw [SeqAt.eqv_refl _ (SeqAt.canLay_of_shaped (okS ⟨a, b, rfl⟩))]
    simp
  · rw [decide_eq_false h]
    simp only [sp, PyData.eqv, PyData.eqvAll]
    by_cases h1 : a = c
    · have h2 : b ≠ d := fun e => h ⟨h1, e⟩
      simp [h1, h2]
    · simp [h1]
theorem in_near {l : List D} (hl : ∀ d ∈ l, IsSp d) {x y L : Int} {d : D} (hd : d ∈ l) : ((l.filter (near x y L)).any fun z => PyData.eqv z d) = near x y L d := by
  cases hn : near x y L d with
  | true =>
    rw [List.any_eq_true]
    exact ⟨d, List.mem_filter.mpr ⟨hd, hn⟩, SeqAt.eqv_refl _ (SeqAt.canLay_of_shaped (okS (hl d hd)))⟩
  | false =>
    rw [List.any_eq_false]
    intro z hz he
    obtain ⟨h1, h2⟩ := List.mem_filter.mp hz
    obtain ⟨a, b, rfl⟩ := hl z h1
    obtain ⟨i, j, rfl⟩ := hl d hd
    rw [eqv_sp, decide_eq_true_eq] at he
    obtain ⟨rfl, rfl⟩ := he
    rw [hn] at h2
    cases h2
theorem dIn_near {l : List D} (hl : ∀ d ∈ l, IsSp d) {x y L : Int} {d : D} (hd : d ∈ l) : dIn d (.tuple (l.filter (near x y L))) = some (.bool (near x y L d)) := by
  have o1 := okS (hl d hd)
  have o2 := (okT (ds := l.filter (near x y L)) fun e he => hl e (List.mem_filter.mp he).1).1
  show (if (okD d && okD (.tuple (l.filter (near x y L)))) = true then some (PyData.bool ((l.filter (near x y L)).any fun z => PyData.eqv z d)) else none) = _
  rw [o1, o2, if_pos (by rfl), in_near hl hd]
theorem spots_loop (x0 x1 x3 x4 x5 x6 x10 x11 x12 x13 : Option D) (h : Nat) (hh : h ≤ 6) : ∀ (ds : List D) (acc : List D) (x8 : Option D), (∀ d ∈ ds, flatD d = true) → acc.length + ds.length * h ≤ 1000 → ∃ y8, forGo (gNm 8) (sSet 7 (e2 dAdd (eVar 7) (eLc [9] (aR1 (aCons (eVar 2) aNil)) (gNm 9) cYes (eSeq .tuple (aCons (eVar 8) (aCons (eVar 9) aNil)))))) ds [x0, x1, some (.int (h : Int)), x3, x4, x5, x6, some (.list acc), x8, none, x10, x11, x12, x13] = some (.nx [x0, x1, some (.int (h : Int)), x3, x4, x5, x6, some (.list (acc ++ ds.flatMap (inner h))), y8, none, x10, x11, x12, x13])
  | [], acc, x8, _, _ => ⟨x8, by rw [List.flatMap_nil, List.append_nil]; rfl⟩
  | d :: ds, acc, x8, hf, hl => by
    have hin : (inner h d).length = h := by rw [inner, List.length_map, rangeD_len]
    rw [List.length_cons, Nat.succ_mul] at hl
    obtain ⟨y8, e⟩ := spots_loop x0 x1 x3 x4 x5 x6 x10 x11 x12 x13 h hh ds (acc ++ inner h d) (some d) (fun e he => hf e (List.mem_cons_of_mem _ he)) (by rw [List.length_append, hin]; omega)
    refine ⟨y8, ?_⟩
    have e1 : eLc [9] (aR1 (aCons (eVar 2) aNil)) (gNm 9) cYes (eSeq .tuple (aCons (eVar 8) (aCons (eVar 9) aNil))) [x0, x1, some (.int (h : Int)), x3, x4, x5, x6, some (.list acc), some d, none, x10, x11, x12, x13] = some (.list (inner h d)) := by
      refine eLc_map (fun j => [x0, x1, some (.int (h : Int)), x3, x4, x5, x6, some (.list acc), some d, some j, x10, x11, x12, x13]) (fun j => .tuple [d, j]) (aR1_var rfl (by omega)) (by rw [rangeD_len]; omega) fun j hj => ?_
      obtain ⟨k, rfl, _⟩ := rangeD_mem hj
      exact ⟨rfl, eSeq_eq (aCons_eq rfl (aOne_eq rfl)) (cell_ok (hf d List.mem_cons_self)), rfl⟩
    have e2' : dAdd (.list acc) (.list (inner h d)) = some (.list (acc ++ inner h d)) := by
      have : acc.length + (inner h d).length ≤ 16777216 := by rw [hin]; omega
      rw [dAdd, if_pos this]
    have e3 : sSet 7 (e2 dAdd (eVar 7) (eLc [9] (aR1 (aCons (eVar 2) aNil)) (gNm 9) cYes (eSeq .tuple (aCons (eVar 8) (aCons (eVar 9) aNil))))) [x0, x1, some (.int (h : Int)), x3, x4, x5, x6, some (.list acc), some d, none, x10, x11, x12, x13] = some (.nx [x0, x1, some (.int (h : Int)), x3, x4, x5, x6, some (.list (acc ++ inner h d)), some d, none, x10, x11, x12, x13]) := sSet_eq (e2_eq rfl e1 e2')
    rw [List.flatMap_cons, ← List.append_assoc]
    exact (forGo_cons rfl e3).trans e
/-! ### the farthest -/
theorem grid_rng {w h : Nat} {d : D} (hd : d ∈ grid w h) : ∃ i j : Int, d = sp i j ∧ 0 ≤ i ∧ i < w ∧ 0 ≤ j ∧ j < h := by
  obtain ⟨i, hi, hj⟩ := List.mem_flatMap.mp hd
  obtain ⟨a, rfl, a0, a1⟩ := rangeD_mem hi
  obtain ⟨j, hj', rfl⟩ := List.mem_map.mp hj
  obtain ⟨b, rfl, b0, b1⟩ := rangeD_mem hj'
  exact ⟨a, b, rfl, by omega, by omega, by omega, by omega⟩
theorem empty_far (x y T M : Int) (l : List D) (h1 : ∀ d ∈ l, dist x y d ≤ M) (h2 : ∃ d ∈ l, dist x y d = M) : dEq (.tuple (l.filter (far' x y T))) (.tuple []) = some (.bool (decide (M ≤ T))) ∨ ¬ ∀ d ∈ l, IsSp d := by
  by_cases hs : ∀ d ∈ l, IsSp d
  · left
    have o := (okT (ds := l.filter (far' x y T)) fun e he => hs e (List.mem_filter.mp he).1).1
    rw [dEq, o]
    by_cases hM : M ≤ T
    · have : l.filter (far' x y T) = [] := by
        rw [List.filter_eq_nil_iff]
        intro d hd hf
        have := h1 d hd
        simp only [far', Bool.not_eq_true', decide_eq_false_iff_not] at hf
        omega
      rw [this, decide_eq_true hM]
      rfl
    · obtain ⟨d, hd, e⟩ := h2
      have hm : d ∈ l.filter (far' x y T) := List.mem_filter.mpr ⟨hd, by simp only [far', Bool.not_eq_true', decide_eq_false_iff_not]; omega⟩
      cases hq : l.filter (far' x y T) with
      | nil => rw [hq] at hm; cases hm
      | cons z zs => rw [decide_eq_false hM]; rfl
  · exact .inr hs
theorem louder_loop (x y L M K : Int) (w h : Nat) (hw : w ≤ 6) (hh : h ≤ 6) (h1 : ∀ d ∈ grid w h, dist x y d ≤ M) (h2 : ∃ d ∈ grid w h, dist x y d = M) (hK : K = max 0 (M - L)) : ∀ (n : Nat) (lo : Int) (x5 : Option D), 0 ≤ lo → lo ≤ K → K < lo + n → forGo (gNm 5) (sIf (cB (e2 dEq (eCall Φ_deaf_spots (aCons (eCall Φ_louder (aCons (eVar 0) (aCons (eVar 3) (aCons (eVar 5) aNil)))) (aCons (eVar 1) (aCons (eVar 2) aNil)))) (eSeq .tuple aNil))) (sRet (eVar 5)) sNil) (rangeD lo n) [some (bell x y L), some (.int (w : Int)), some (.int (h : Int)), some (.str "b"), some (.int 20), x5] = some (.rt (.int K))
  | 0, lo, _, _, _, hc => by omega
  | n + 1, lo, x5, h0, ha, hb => by
    have ht : cB (e2 dEq (eCall Φ_deaf_spots (aCons (eCall Φ_louder (aCons (eVar 0) (aCons (eVar 3) (aCons (eVar 5) aNil)))) (aCons (eVar 1) (aCons (eVar 2) aNil)))) (eSeq .tuple aNil)) [some (bell x y L), some (.int (w : Int)), some (.int (h : Int)), some (.str "b"), some (.int 20), some (.int lo)] = some (decide (M ≤ L + lo)) := by
      refine cB_eq (e2_eq (eCall_eq (aCons_eq (eCall_eq (aCons_eq rfl (aCons_eq rfl (aOne_eq rfl))) (louder_val x y L lo)) (aCons_eq rfl (aOne_eq rfl))) (deaf_val x y (L + lo) w h hw hh)) (eSeq_eq rfl rfl) ?_)
      exact (empty_far x y (L + lo) M (grid w h) h1 h2).resolve_right fun q => q fun d hd => grid_sp hd
    rw [rangeD]
    by_cases hM : M ≤ L + lo
    · have : lo = K := by omega
      subst this
      exact forGo_ret (r := .int lo) rfl (sIf_tt (ht.trans (congrArg some (decide_eq_true hM))) rfl)
    · exact (forGo_cons rfl (sIf_ff (ht.trans (congrArg some (decide_eq_false hM))) rfl)).trans (louder_loop x y L M K w h hw hh h1 h2 hK n (lo + 1) (some (.int lo)) (by omega) (by omega) (by push_cast at hb; omega))
theorem least_louder_val (x y L M : Int) (w h : Nat) (hw : w ≤ 6) (hh : h ≤ 6) (h1 : ∀ d ∈ grid w h, dist x y d ≤ M) (h2 : ∃ d ∈ grid w h, dist x y d = M) (hL : 0 ≤ L) (hM : M ≤ 10) : Φ_least_louder [bell x y L, .int w, .int h, .str "b", .int 20] = some (.int (max 0 (M - L))) := by
  refine runB_rt rfl (ρ := [some (bell x y L), some (.int (w : Int)), some (.int (h : Int)), some (.str "b"), some (.int 20), none]) rfl ?_
  have e := louder_loop x y L M _ w h hw hh h1 h2 rfl 21 0 none (by omega) (by omega) (by omega)
  have e1 : aR1 (aCons (e2 dAdd (eVar 4) (eC (.int 1))) aNil) [some (bell x y L), some (.int (w : Int)), some (.int (h : Int)), some (.str "b"), some (.int 20), none] = some (rangeD 0 21) := rfl
  unfold F_least_louder
  rw [sSeq, sFor_nx e1, e]
theorem told_by_val (x y L : Int) (w h : Nat) (hw : w ≤ 6) (hh : h ≤ 6) (hL : 0 ≤ L) : Φ_is_told_by [bell x y L, .int w, .int h, sp x y] = dEq (.tuple ((grid w h).filter (near x y L))) (.tuple [sp x y]) := by
  have hn : near x y L (sp x y) = true := by
    show decide (ab (x - x) + ab (y - y) ≤ L) = true
    rw [Int.sub_self, Int.sub_self]
    simpa [ab] using hL
  have e1 := spots_val x y L w h hw hh true
  rw [List.map_id, near_eq] at e1
  have e2' := heard_val x y L (sp x y) ⟨x, y, rfl⟩
  rw [hn] at e2'
  have o := (okT (ds := (grid w h).filter (near x y L)) fun e he => grid_sp (List.mem_filter.mp he).1).1
  have o2 : okD (.tuple [sp x y]) = true := (okT fun d hd => by obtain rfl := List.mem_singleton.mp hd; exact ⟨x, y, rfl⟩).1
  have e3 : dEq (.tuple ((grid w h).filter (near x y L))) (.tuple [sp x y]) = some (.bool (PyData.eqv (.tuple ((grid w h).filter (near x y L))) (.tuple [sp x y]))) := by
    rw [dEq, o, o2]; rfl
  rw [e3]
  exact runB_rt rfl (ρ := [some (bell x y L), some (.int (w : Int)), some (.int (h : Int)), some (sp x y)]) rfl (sRet_eq (e2_eq (eCall_eq (aCons_eq rfl (aCons_eq rfl (aCons_eq rfl (aOne_eq (eCall_eq (aCons_eq rfl (aOne_eq rfl)) e2'))))) e1) (eSeq_eq (aOne_eq rfl) rfl) e3))
theorem most_is (x y : Int) (l : List D) (hl : l ≠ []) : ∃ M : Int, dMax1 (.list (l.map fun d => .int (dist x y d))) = some (.int M) ∧ (∀ d ∈ l, dist x y d ≤ M) ∧ ∃ d ∈ l, dist x y d = M := by
  cases l with
  | nil => exact absurd rfl hl
  | cons g gs =>
    obtain ⟨a1, a2, a3⟩ := foldl_max (gs.map (dist x y)) (dist x y g)
    refine ⟨(gs.map (dist x y)).foldl max (dist x y g), ?_, fun d hd => ?_, ?_⟩
    · have : (.list ((g :: gs).map fun d => .int (dist x y d)) : D) = lsI (dist x y g :: gs.map (dist x y)) := by
        rw [lsI, List.map_cons, List.map_cons, List.map_map]; rfl
      rw [this, max_lsI]
    · rcases List.mem_cons.mp hd with rfl | hd
      · exact a1
      · exact a2 _ (List.mem_map.mpr ⟨d, hd, rfl⟩)
    · rcases a3 with a3 | a3
      · exact ⟨g, List.mem_cons_self, a3.symm⟩
      · obtain ⟨d, hd, e⟩ := List.mem_map.mp a3
        exact ⟨d, List.mem_cons_of_mem _ hd, e⟩
theorem dist_le {w h : Nat} (hw : w ≤ 6) (hh : h ≤ 6) {x y : Int} (hx : 0 ≤ x ∧ x < w) (hy : 0 ≤ y ∧ y < h) {d : D} (hd : d ∈ grid w h) : dist x y d ≤ 10 := by
  obtain ⟨i, j, rfl, i0, i1, j0, j1⟩ := grid_rng hd
  show ab (i - x) + ab (j - y) ≤ 10
  unfold ab
  split <;> split <;> omega
theorem holds (ds : List Int) (n : Int) (hn : 0 ≤ n) : ∃ n' : Int, 0 ≤ n' ∧ Φ__law_holds (dW ds n) [] = some (.bool true, dW ds n') := by
  obtain ⟨wi, ⟨w0, w1⟩, eW⟩ := draws_add 1 (draws_next (m := 6) (by decide)) ds n [none, none, none, none, none, none, none, none, none, none, none, none, none] hn
  obtain ⟨hi, ⟨h0, h1⟩, eH⟩ := draws_add 1 (draws_next (m := 6) (by decide)) ds (n + 1) [none, none, none, none, none, none, none, none, none, none, none, none, none] (by omega)
  obtain ⟨w, rfl⟩ := Int.eq_ofNat_of_zero_le (show 0 ≤ wi by omega)
  obtain ⟨h, rfl⟩ := Int.eq_ofNat_of_zero_le (show 0 ≤ hi by omega)
  have hw : w ≤ 6 := by omega
  have hh : h ≤ 6 := by omega
  obtain ⟨x, x0, x1, eX⟩ := next_call (m := (w : Int)) (by omega) (a := aCons (eVar 1) aNil) (ds := ds) (n := n + 1 + 1) (τ := [some (.int (w : Int)), some (.int (h : Int)), none, none, none, none, none, none, none, none, none, none, none]) (by omega) rfl
  obtain ⟨y, y0, y1, eY⟩ := next_call (m := (h : Int)) (by omega) (a := aCons (eVar 2) aNil) (ds := ds) (n := n + 1 + 1 + 1) (τ := [some (.int (w : Int)), some (.int (h : Int)), none, none, none, none, none, none, none, none, none, none, none]) (by omega) rfl
  obtain ⟨L, ⟨l0, l1⟩, eL⟩ := draws_next (m := 6) (by decide) ds (n + 1 + 1 + 1 + 1) [some (.int (w : Int)), some (.int (h : Int)), none, none, none, none, none, none, none, none, none, none, none] (by omega)
  refine ⟨n + 1 + 1 + 1 + 1 + 1, by omega, runE_val rfl rfl ?_⟩
  show F__law_holds [some (dW ds n), none, none, none, none, none, none, none, none, none, none, none, none, none] = _
  unfold F__law_holds
  rw [next_eq]
  refine (zSeq_nx (sPar_eq (mFrz_eq eW rfl (mFrz_eq eH rfl rfl)) rfl)).trans ?_
  show zSeq _ _ [some (dW ds (n + 1 + 1)), some (.int (w : Int)), some (.int (h : Int)), none, none, none, none, none, none, none, none, none, none, none] = _
  refine (zSeq_nx (sPar_eq (mFrz_eq eX rfl (mFrz_eq eY rfl (mFrz_eq eL rfl rfl))) rfl)).trans ?_
  show zEnd _ [some (dW ds (n + 1 + 1 + 1 + 1 + 1)), some (.int (w : Int)), some (.int (h : Int)), some (.int x), some (.int y), some (.int L), none, none, none, none, none, none, none, none] = _
  generalize hW : dW ds (n + 1 + 1 + 1 + 1 + 1) = W
  have hWd : ∃ kvs, W = .dict kvs := ⟨_, hW.symm⟩
  obtain ⟨kvs, hkv⟩ := hWd
  rw [hkv]
  refine zEnd_val rfl ?_ rfl
  rw [← hkv]
  -- bells, spots
  have eB : eDisp (mkK []) (pCons (eC (.str "b")) (eSeq .tuple (aCons (eSeq .tuple (aCons (eVar 3) (aCons (eVar 4) aNil))) (aCons (eVar 5) aNil))) pNil) [some W, some (.int (w : Int)), some (.int (h : Int)), some (.int x), some (.int y), some (.int L), none, none, none, none, none, none, none, none] = some (bell x y L) := rfl
  refine (sSeq_nx (sSet_eq eB)).trans ?_
  refine (sSeq_nx (sSet_eq (d := .list []) (eSeq_eq rfl rfl))).trans ?_
  show sSeq _ _ [some W, some (.int (w : Int)), some (.int (h : Int)), some (.int x), some (.int y), some (.int L), some (bell x y L), some (.list []), none, none, none, none, none, none] = _
  obtain ⟨y8, eS⟩ := spots_loop (some W) (some (.int (w : Int))) (some (.int x)) (some (.int y)) (some (.int L)) (some (bell x y L)) none none none none h hh (rangeD 0 w) [] none range_flat (by rw [rangeD_len, List.length_nil]; have := Nat.mul_le_mul hw hh; omega)
  rw [List.nil_append] at eS
  have eit : aR1 (aCons (eVar 1) aNil) [some W, some (.int (w : Int)), some (.int (h : Int)), some (.int x), some (.int y), some (.int L), some (bell x y L), some (.list []), none, none, none, none, none, none] = some (rangeD 0 w) := aR1_var rfl (by omega)
  refine (sSeq_nx ((sFor_nx eit).trans eS)).trans ?_
  show sSeq _ _ [some W, some (.int (w : Int)), some (.int (h : Int)), some (.int x), some (.int y), some (.int L), some (bell x y L), some (.list (grid w h)), y8, none, none, none, none, none] = _
  have hgl : (grid w h).length ≤ 16777216 := Nat.le_trans (grid_small hw hh) (by omega)
  have hgs : ∀ d ∈ grid w h, IsSp d := fun d hd => grid_sp hd
  -- how far, as the law says it
  have eD : ∀ (ρ : Sl) (d : D), IsSp d → eVar 11 ρ = some d → eVar 3 ρ = some (.int x) → eVar 4 ρ = some (.int y) → e2 dAdd (eCall (fn1 dAbs1) (aCons (e2 dSub (e2 dIx (eVar 11) (eC (.int 0))) (eVar 3)) aNil)) (eCall (fn1 dAbs1) (aCons (e2 dSub (e2 dIx (eVar 11) (eC (.int 1))) (eVar 4)) aNil)) ρ = some (.int (dist x y d)) := fun ρ d hs a1 a2 a3 => by
    obtain ⟨i, j, rfl⟩ := hs
    exact e2_eq (eCall_eq (ds := [.int (i - x)]) (aOne_eq (e2_eq (e2_eq (e := .int 0) (r := some (.int i)) a1 rfl rfl) a2 rfl)) (r := some (.int (ab (i - x)))) rfl) (eCall_eq (ds := [.int (j - y)]) (aOne_eq (e2_eq (e2_eq (e := .int 1) (r := some (.int j)) a1 rfl rfl) a3 rfl)) (r := some (.int (ab (j - y)))) rfl) rfl
  have eN : eLc [11] (aIt (eVar 7)) (gNm 11) (cB (e2 dLe (e2 dAdd (eCall (fn1 dAbs1) (aCons (e2 dSub (e2 dIx (eVar 11) (eC (.int 0))) (eVar 3)) aNil)) (eCall (fn1 dAbs1) (aCons (e2 dSub (e2 dIx (eVar 11) (eC (.int 1))) (eVar 4)) aNil))) (eVar 5))) (eVar 11) [some W, some (.int (w : Int)), some (.int (h : Int)), some (.int x), some (.int y), some (.int L), some (bell x y L), some (.list (grid w h)), y8, none, none, none, none, none] = some (.list (((grid w h).filter (near x y L)).map id)) := by
    refine eLc_eq (ds := grid w h) (fun d => [some W, some (.int (w : Int)), some (.int (h : Int)), some (.int x), some (.int y), some (.int L), some (bell x y L), some (.list (grid w h)), y8, none, none, some d, none, none]) _ id rfl hgl fun d hd => ?_
    refine ⟨rfl, cB_eq (e2_eq (eD _ d (hgs d hd) rfl rfl rfl) rfl (dLeI _ _)), fun _ => ⟨rfl, ?_⟩⟩
    obtain ⟨i, j, rfl⟩ := hgs d hd
    rfl
  rw [List.map_id] at eN
  refine (sSeq_nx (sSet_eq (eCall_eq (r := some (.tuple ((grid w h).filter (near x y L)))) (aOne_eq eN) rfl))).trans ?_
  show sSeq _ _ [some W, some (.int (w : Int)), some (.int (h : Int)), some (.int x), some (.int y), some (.int L), some (bell x y L), some (.list (grid w h)), y8, none, some (.tuple ((grid w h).filter (near x y L))), none, none, none] = _
  have eF : eLc [11] (aIt (eVar 7)) (gNm 11) (cB (e2 dNotIn (eVar 11) (eVar 10))) (eVar 11) [some W, some (.int (w : Int)), some (.int (h : Int)), some (.int x), some (.int y), some (.int L), some (bell x y L), some (.list (grid w h)), y8, none, some (.tuple ((grid w h).filter (near x y L))), none, none, none] = some (.list (((grid w h).filter (far' x y L)).map id)) := by
    refine eLc_eq (ds := grid w h) (fun d => [some W, some (.int (w : Int)), some (.int (h : Int)), some (.int x), some (.int y), some (.int L), some (bell x y L), some (.list (grid w h)), y8, none, some (.tuple ((grid w h).filter (near x y L))), some d, none, none]) _ id rfl hgl fun d hd => ?_
    refine ⟨rfl, cB_eq (e2_eq rfl rfl ?_), fun _ => ⟨rfl, ?_⟩⟩
    · rw [dNotIn, dIn_near hgs hd]; rfl
    · obtain ⟨i, j, rfl⟩ := hgs d hd
      rfl
  rw [List.map_id] at eF
  refine (sSeq_nx (sSet_eq (eCall_eq (r := some (.tuple ((grid w h).filter (far' x y L)))) (aOne_eq eF) rfl))).trans ?_
  show sSeq _ _ [some W, some (.int (w : Int)), some (.int (h : Int)), some (.int x), some (.int y), some (.int L), some (bell x y L), some (.list (grid w h)), y8, none, some (.tuple ((grid w h).filter (near x y L))), none, some (.tuple ((grid w h).filter (far' x y L))), none] = _
  -- the three tests
  have v1 := spots_val x y L w h hw hh true
  rw [List.map_id, near_eq] at v1
  have v2 := deaf_val x y L w h hw hh
  have o1 := (okT (ds := (grid w h).filter (near x y L)) fun e he => hgs e (List.mem_filter.mp he).1).1
  have o2 := (okT (ds := (grid w h).filter (far' x y L)) fun e he => hgs e (List.mem_filter.mp he).1).1
  have e3 : eLc [11] (aIt (eVar 7)) (gNm 11) (cB (e2 dNe (eCall Φ_heard_at (aCons (eVar 6) (aCons (eVar 11) aNil))) (eIf (cB (e2 dIn (eVar 11) (eVar 10))) (eSeq .tuple (aCons (eC (.str "b")) aNil)) (eSeq .tuple aNil)))) (eVar 11) [some W, some (.int (w : Int)), some (.int (h : Int)), some (.int x), some (.int y), some (.int L), some (bell x y L), some (.list (grid w h)), y8, none, some (.tuple ((grid w h).filter (near x y L))), none, some (.tuple ((grid w h).filter (far' x y L))), none] = some (.list (((grid w h).filter fun _ => false).map id)) := by
    refine eLc_eq (ds := grid w h) (fun d => [some W, some (.int (w : Int)), some (.int (h : Int)), some (.int x), some (.int y), some (.int L), some (bell x y L), some (.list (grid w h)), y8, none, some (.tuple ((grid w h).filter (near x y L))), some d, some (.tuple ((grid w h).filter (far' x y L))), none]) _ id rfl hgl fun d hd => ?_
    have hI : cB (e2 dIn (eVar 11) (eVar 10)) [some W, some (.int (w : Int)), some (.int (h : Int)), some (.int x), some (.int y), some (.int L), some (bell x y L), some (.list (grid w h)), y8, none, some (.tuple ((grid w h).filter (near x y L))), some d, some (.tuple ((grid w h).filter (far' x y L))), none] = some (near x y L d) := cB_eq (e2_eq rfl rfl (dIn_near hgs hd))
    have hv : eIf (cB (e2 dIn (eVar 11) (eVar 10))) (eSeq .tuple (aCons (eC (.str "b")) aNil)) (eSeq .tuple aNil) [some W, some (.int (w : Int)), some (.int (h : Int)), some (.int x), some (.int y), some (.int L), some (bell x y L), some (.list (grid w h)), y8, none, some (.tuple ((grid w h).filter (near x y L))), some d, some (.tuple ((grid w h).filter (far' x y L))), none] = some (heard (near x y L d)) := by
      cases hq : near x y L d with
      | true => exact eIf_tt (hI.trans (congrArg some hq)) (eSeq_eq (aOne_eq rfl) rfl)
      | false => exact eIf_ff (hI.trans (congrArg some hq)) (eSeq_eq rfl rfl)
    have hok : ∀ b, okD (heard b) = true := by decide +kernel
    exact ⟨rfl, cB_eq (e2_eq (eCall_eq (aCons_eq rfl (aOne_eq rfl)) (heard_val x y L d (hgs d hd))) hv (dNe_same (hok _))), fun q => by cases q⟩
  have e3' : ((grid w h).filter fun _ => false).map id = ([] : List D) := by rw [List.map_id, List.filter_eq_nil_iff.mpr (by intros; simp)]
  rw [e3'] at e3
  refine (sSeq_nx (sIf_ff (cOr_ff (cB_eq (e2_eq (eCall_eq (aCons_eq rfl (aCons_eq rfl (aCons_eq rfl (aOne_eq (eSeq_eq (aOne_eq rfl) rfl))))) v1) rfl (dNe_same o1))) (cOr_ff (cB_eq (e2_eq (eCall_eq (aCons_eq rfl (aCons_eq rfl (aOne_eq rfl))) v2) rfl (dNe_same o2))) (cB_eq (e2_eq e3 (eSeq_eq rfl rfl) (dNe_same rfl))))) rfl)).trans ?_
  -- the farthest
  have hne : grid w h ≠ [] := fun q => by
    have := grid_len w h
    rw [q, List.length_nil] at this
    have hp : 0 < w * h := Nat.mul_pos (by omega) (by omega)
    omega
  obtain ⟨M, eM, m1, m2⟩ := most_is x y (grid w h) hne
  have eMost : eLc [11] (aIt (eVar 7)) (gNm 11) cYes (e2 dAdd (eCall (fn1 dAbs1) (aCons (e2 dSub (e2 dIx (eVar 11) (eC (.int 0))) (eVar 3)) aNil)) (eCall (fn1 dAbs1) (aCons (e2 dSub (e2 dIx (eVar 11) (eC (.int 1))) (eVar 4)) aNil))) [some W, some (.int (w : Int)), some (.int (h : Int)), some (.int x), some (.int y), some (.int L), some (bell x y L), some (.list (grid w h)), y8, none, some (.tuple ((grid w h).filter (near x y L))), none, some (.tuple ((grid w h).filter (far' x y L))), none] = some (.list ((grid w h).map fun d => .int (dist x y d))) := by
    refine eLc_map (ds := grid w h) (fun d => [some W, some (.int (w : Int)), some (.int (h : Int)), some (.int x), some (.int y), some (.int L), some (bell x y L), some (.list (grid w h)), y8, none, some (.tuple ((grid w h).filter (near x y L))), some d, some (.tuple ((grid w h).filter (far' x y L))), none]) _ rfl hgl fun d hd => ⟨rfl, eD _ d (hgs d hd) rfl rfl rfl, rfl⟩
  refine (sSeq_nx (sSet_eq (eCall_eq (aOne_eq eMost) eM))).trans ?_
  show sRet _ [some W, some (.int (w : Int)), some (.int (h : Int)), some (.int x), some (.int y), some (.int L), some (bell x y L), some (.list (grid w h)), y8, none, some (.tuple ((grid w h).filter (near x y L))), none, some (.tuple ((grid w h).filter (far' x y L))), some (.int M)] = _
  have hM : M ≤ 10 := by
    obtain ⟨d, hd, e⟩ := m2
    rw [← e]
    exact dist_le hw hh ⟨x0, x1⟩ ⟨y0, y1⟩ hd
  have vLL := least_louder_val x y L M w h hw hh m1 m2 l0 hM
  have eMax : eCall (fn2 fun d e => if (atD d && atD e) = true then dMax2 d e else none) (aCons (eC (.int 0)) (aCons (e2 dSub (eVar 13) (eVar 5)) aNil)) [some W, some (.int (w : Int)), some (.int (h : Int)), some (.int x), some (.int y), some (.int L), some (bell x y L), some (.list (grid w h)), y8, none, some (.tuple ((grid w h).filter (near x y L))), none, some (.tuple ((grid w h).filter (far' x y L))), some (.int M)] = some (.int (max 0 (M - L))) := eCall_eq (ds := [.int 0, .int (M - L)]) (aCons_eq rfl (aOne_eq (e2_eq rfl rfl rfl))) (max2 _ _)
  have ot : okD (.tuple [sp x y]) = true := (okT fun d hd => by obtain rfl := List.mem_singleton.mp hd; exact ⟨x, y, rfl⟩).1
  have eEnd : dEq (.tuple ((grid w h).filter (near x y L))) (.tuple [sp x y]) = some (.bool (PyData.eqv (.tuple ((grid w h).filter (near x y L))) (.tuple [sp x y]))) := by
    rw [dEq, o1, ot]; rfl
  have vT := told_by_val x y L w h hw hh l0
  rw [eEnd] at vT
  refine sRet_eq (eAnd_tt (e2_eq (eCall_eq (aCons_eq rfl (aCons_eq rfl (aCons_eq rfl (aCons_eq rfl (aOne_eq rfl))))) vLL) eMax (dEq_same rfl)) (e2_eq (eCall_eq (aCons_eq rfl (aCons_eq rfl (aCons_eq rfl (aOne_eq (d := sp x y) (eSeq_eq (aCons_eq rfl (aOne_eq rfl)) rfl))))) vT) (e2_eq rfl (eSeq_eq (aOne_eq (d := sp x y) (eSeq_eq (aCons_eq rfl (aOne_eq rfl)) rfl)) rfl) eEnd) (dEq_same rfl)))
theorem law_holds (ns : List Int) (h : ns.length ≤ 63) : Φ_law [lsI ns] = some (.bool true) := law_true Φ__law_holds holds ns h
end K10
open PySem PySem.W PyProof.Rows
set_option maxHeartbeats 0 in
theorem PySem.Challenge.cw_roadwalked_k10_whole_known_a_bell_in_a_f_holds : PySem.Challenge.rw_roadwalked_k10_whole_known_a_bell_in_a_f.Holds := by
  w_on; o_law; k_head; (case hw => w_witness2)
  k_fill
  refine L2.walk_of (l := PySem.Challenge.rw_roadwalked_k10_whole_known_a_bell_in_a_f) (n := 63) (k := 7) (x := "script") (CX := fun _ => L2.CX0) (sp := fun w => K10.spL (PySem.W.OpenLaw.prog PySem.Challenge.rw_roadwalked_k10_whole_known_a_bell_in_a_f) w _) rfl (by decide) rfl ⟨rfl, by decide, by decide⟩ (fun w h Y => PySem.W.kIn_of Y) ?F (fun _ H a ns hl _ hS => DL.law_start hS (K10.law_holds ns hl)) (fun _ _ _ _ _ h => h)
  case F =>
    intro w mg fa h KX G hmg
    refine' K10.all_mk KX G hmg ?a0 ?l0 ?c0 ?k0 ?a1 ?l1 ?c1 ?k1 ?a2 ?l2 ?c2 ?k2 ?a3 ?l3 ?c3 ?k3 ?a4 ?l4 ?c4 ?k4 ?a5 ?l5 ?c5 ?k5 ?a6 ?l6 ?c6 ?k6 ?a7 ?l7 ?c7 ?k7 ?a8 ?l8 ?c8 ?k8 ?a9 ?l9 ?c9 ?k9 ?a10 ?l10 ?c10 ?k10 ?a11 ?l11 ?c11 ?k11 ?z_abs ?z_dict ?z_int ?z_len ?z_max ?z_range ?z_sorted ?z_tuple
    (case a0 => k_is); (case l0 => k_is); (case c0 => k_is); (case k0 => k_is); (case a1 => k_is); (case l1 => k_is); (case c1 => k_is); (case k1 => k_is); (case a2 => k_is); (case l2 => k_is); (case c2 => k_is); (case k2 => k_is); (case a3 => k_is); (case l3 => k_is); (case c3 => k_is); (case k3 => k_is); (case a4 => k_is); (case l4 => k_is); (case c4 => k_is); (case k4 => k_is); (case a5 => k_is); (case l5 => k_is); (case c5 => k_is); (case k5 => k_is); (case a6 => k_is); (case l6 => k_is); (case c6 => k_is); (case k6 => k_is); (case a7 => k_is); (case l7 => k_is); (case c7 => k_is); (case k7 => k_is); (case a8 => k_is); (case l8 => k_is); (case c8 => k_is); (case k8 => k_is); (case a9 => k_is); (case l9 => k_is); (case c9 => k_is); (case k9 => k_is); (case a10 => k_is); (case l10 => k_is); (case c10 => k_is); (case k10 => k_is); (case a11 => k_is); (case l11 => k_is); (case c11 => k_is); (case k11 => k_is); (case z_abs => k_is); (case z_dict => k_is); (case z_int => k_is); (case z_len => k_is); (case z_max => k_is); (case z_range => k_is); (case z_sorted => k_is); (case z_tuple => k_is)
