import PyProof.Rows.All
import HandS.Base
import HandS.Call
import HandS.List
import HandS.Comp
import HandS.Ends
import HandS.Dict
import HandS.Iter
import HandS.Exc
import HandS.ExcOwn
import HandS.CallSlots
import HandS.Words
import HandS.WordsExc
import HandS.Conv
import HandS.TupAny
import HandS.TupMul
import HandS.Deep
import HandS.DictTup
import HandS.Flow
import HandS.Walk
import HandS.Small
import HandS.Strs
import HandS.IsInst
import HandS.Style
import HandS.SortInts
import KE.KSortedM
import HandS.SetFor
import HandS.DictComp
import HandS.More
import HandS.TupLen
import KE.KDictSum
import PyProof.SeqIndex
import HandS.NoneIn
import KE.GoesEnum
import HandS.Zip
import HandS.ExcIs
import PySem.Challenge.RW_rowsahead_k30_free_neighbours
set_option Elab.async false
set_option linter.all false
set_option maxRecDepth 100000
namespace MP
open PySem PySem.Spec PyProof.Rows L2

abbrev Fg := PySem.W.Frag
abbrev Sg := L2.St

/-- data: trees; what may change in common (a global cell) is named by its number -/
inductive D where
  | non | bl (b : Bool) | int (i : Int) | str (s : Str)
  | tup (k : Bool) (ds : List D) | lst (ds : List D)
  | dK (ks : List Key) (vs : List D) | dT (ks : List (List Key)) (vs : List D)
  | scr (is : List Int) | glob (n : Nat) | ctp (ds : List D)
  deriving Inhabited

/-- a tuple that is frozen; k: its very object is known (it has no dict of its own) -/
def TupZ (Z : Hp) (a : Addr) (k : Bool) (xs : List V) : Prop :=
  match k with
  | false => Z a = some (.tup xs)
  | true => ∃ (its : Array Value) (n : Nat), Z a = some (.frz { cls := .type "tuple", data := .seq its n } (.tup xs))
theorem TupZ.mono {Z Z' : Hp} {a : Addr} {k : Bool} {xs : List V} (h : TupZ Z a k xs) (hz : ∀ a o, Z a = some o → Z' a = some o) : TupZ Z' a k xs := by
  cases k with
  | false => exact hz _ _ h
  | true => obtain ⟨its, n, z⟩ := h; exact ⟨its, n, hz _ _ z⟩
mutual
/-- the value v is the data d, by the frozen part Z of the heap and the addresses ms of the global cells -/
def Rep (K : Fg) (ms : List Addr) (Z : Hp) : D → V → Prop
  | .non, v => v = .non
  | .bl b, v => v = .bl b
  | .int i, v => v = .int i
  | .str s, v => v = .str s
  | .tup k ds, v => ∃ a xs, v = .ref a ∧ TupZ Z a k xs ∧ Reps K ms Z ds xs
  | .lst ds, v => ∃ a xs, v = .ref a ∧ Z a = some (.lst xs) ∧ Reps K ms Z ds xs
  | .dK ks vs, v => ∃ a xs, v = .ref a ∧ ks.length = xs.length ∧ Z a = some (.dK (ks.zip xs)) ∧ Reps K ms Z vs xs
  | .dT ks vs, v => ∃ a xs, v = .ref a ∧ ks.length = xs.length ∧ Z a = some (.dT (ks.zip xs)) ∧ Reps K ms Z vs xs
  | .scr is, v => ∃ a, v = .ref a ∧ SqL K Z a (is.map V.int)
  | .glob n, v => ∃ a, ms[n]? = some a ∧ v = .ref a
  | .ctp ds, v => ∃ a xs, v = .ref a ∧ SqT K (fun _ => none) a xs ∧ Reps K ms Z ds xs
def Reps (K : Fg) (ms : List Addr) (Z : Hp) : List D → List V → Prop
  | [], xs => xs = []
  | d :: ds, xs => ∃ x r, xs = x :: r ∧ Rep K ms Z d x ∧ Reps K ms Z ds r
end

/-- what stands at a of one's own: a list, a dict -/
def OwnAt (K : Fg) (ms : List Addr) (Z H : Hp) (a : Addr) : D → Prop
  | .lst ds => ∃ xs, H a = some (.lst xs) ∧ Reps K ms Z ds xs
  | .dK ks vs => ∃ xs, ks.length = xs.length ∧ H a = some (.dK (ks.zip xs)) ∧ Reps K ms Z vs xs
  | .dT ks vs => ∃ xs, ks.length = xs.length ∧ H a = some (.dT (ks.zip xs)) ∧ Reps K ms Z vs xs
  | _ => False

/-- a global cell -/
inductive Cell where
  | lst (ds : List D)
  | ins (c : Str) (fs : List (Str × D))
  deriving Inhabited
abbrev Gs := List Cell
mutual
/-- no list, no dict, no cell in it -/
def flat : D → Bool
  | .non => true
  | .bl _ => true
  | .int _ => true
  | .str _ => true
  | .tup _ ds => flats ds
  | _ => false
def flats : List D → Bool
  | [] => true
  | d :: ds => flat d && flats ds
end
def Cell.flat : Cell → Bool
  | .lst ds => flats ds
  | .ins _ fs => flats (fs.map (·.2))

/-- the classes of the program by name -/
abbrev ClsOf := Str → Option Addr

def CellRep (K : Fg) (cl : ClsOf) (ms : List Addr) (Z H : Hp) (a : Addr) : Cell → Prop
  | .lst ds => ∃ xs, H a = some (.lst xs) ∧ Reps K ms Z ds xs
  | .ins c fs => ∃ C dx xs, cl c = some C ∧ fs.length = xs.length ∧ H a = some (.ins C dx ((fs.map (·.1)).zip xs)) ∧ Reps K ms Z (fs.map (·.2)) xs

def isDic : HO → Bool
  | .dK _ => true
  | .dT _ => true
  | _ => false
/-- what is frozen stands in the heap; a dict may be locked (a loop walks it) -/
def Zin (H : Hp) (a : Addr) (o : HO) : Prop := H a = some o ∨ (isDic o = true ∧ ∃ ob, H a = some (.frz ob o))

structure WOk (K : Fg) (cl : ClsOf) (ms : List Addr) (Z H : Hp) (G : Gs) : Prop where
  zs : ∀ a o, Z a = some o → Zin H a o
  mz : ∀ a, a ∈ ms → Z a = none
  nd : ms.Nodup
  ln : ms.length = G.length
  gl : ∀ (i : Nat) a c, ms[i]? = some a → G[i]? = some c → CellRep K cl ms Z H a c
  fl : ∀ c, c ∈ G → c.flat = true

structure Grow (ms : List Addr) (Z H : Hp) (ms' : List Addr) (Z' H' : Hp) : Prop where
  zz : ∀ a o, Z a = some o → Z' a = some o
  zn : ∀ a o, Z a = none → Z' a = some o → H a = none ∨ ∃ xs, H a = some (.tup xs)
  hh : ∀ a o, H a = some o → a ∉ ms → H' a = some o
  hk : ∀ a o, H a = some o → ∃ o', H' a = some o'
  mm : ms <+: ms'
  mn : ∀ a, a ∈ ms' → a ∈ ms ∨ H a = none

/-! ### growth keeps what data say -/
section
variable {K : Fg} {cl : ClsOf} {ms ms' ms'' : List Addr} {Z Z' Z'' H H' H'' : Hp} {G G' : Gs}

theorem SqT.mono {a : Addr} {xs : List V} (h : SqT K Z a xs) (hz : ∀ a o, Z a = some o → Z' a = some o) : SqT K Z' a xs := by
  rcases h with (h | ⟨o, h⟩) | h
  · exact .inl (.inl (hz _ _ h))
  · exact .inl (.inr ⟨o, hz _ _ h⟩)
  · exact .inr h
theorem SqL.mono {a : Addr} {xs : List V} (h : SqL K Z a xs) (hz : ∀ a o, Z a = some o → Z' a = some o) : SqL K Z' a xs := by
  rcases h with (h | ⟨o, h⟩) | h
  · exact .inl (.inl (hz _ _ h))
  · exact .inl (.inr ⟨o, hz _ _ h⟩)
  · exact .inr h
theorem pre_get {l l' : List Addr} (h : l <+: l') {n : Nat} {a : Addr} (e : l[n]? = some a) : l'[n]? = some a := by
  obtain ⟨t, rfl⟩ := h
  rw [List.getElem?_append_left (List.getElem?_eq_some_iff.mp e).1]
  exact e

mutual
theorem Rep.mono (hz : ∀ a o, Z a = some o → Z' a = some o) (hm : ms <+: ms') : ∀ (d : D) (v : V), Rep K ms Z d v → Rep K ms' Z' d v
  | .non, v, h => by simpa only [Rep] using h
  | .bl _, v, h => by simpa only [Rep] using h
  | .int _, v, h => by simpa only [Rep] using h
  | .str _, v, h => by simpa only [Rep] using h
  | .tup k ds, v, h => by
    simp only [Rep] at h ⊢
    obtain ⟨a, xs, e, s, r⟩ := h
    exact ⟨a, xs, e, s.mono hz, Reps.mono hz hm ds xs r⟩
  | .lst ds, v, h => by
    simp only [Rep] at h ⊢
    obtain ⟨a, xs, e, s, r⟩ := h
    exact ⟨a, xs, e, hz _ _ s, Reps.mono hz hm ds xs r⟩
  | .dK ks vs, v, h => by
    simp only [Rep] at h ⊢
    obtain ⟨a, xs, e, l, s, r⟩ := h
    exact ⟨a, xs, e, l, hz _ _ s, Reps.mono hz hm vs xs r⟩
  | .dT ks vs, v, h => by
    simp only [Rep] at h ⊢
    obtain ⟨a, xs, e, l, s, r⟩ := h
    exact ⟨a, xs, e, l, hz _ _ s, Reps.mono hz hm vs xs r⟩
  | .scr is, v, h => by
    simp only [Rep] at h ⊢
    obtain ⟨a, e, s⟩ := h
    exact ⟨a, e, SqL.mono s hz⟩
  | .glob n, v, h => by
    simp only [Rep] at h ⊢
    obtain ⟨a, e, s⟩ := h
    exact ⟨a, pre_get hm e, s⟩
  | .ctp ds, v, h => by
    simp only [Rep] at h ⊢
    obtain ⟨a, xs, e, s, r⟩ := h
    exact ⟨a, xs, e, s, Reps.mono hz hm ds xs r⟩
theorem Reps.mono (hz : ∀ a o, Z a = some o → Z' a = some o) (hm : ms <+: ms') : ∀ (ds : List D) (xs : List V), Reps K ms Z ds xs → Reps K ms' Z' ds xs
  | [], xs, h => by simpa only [Reps] using h
  | d :: ds, xs, h => by
    simp only [Reps] at h ⊢
    obtain ⟨x, r, e, h1, h2⟩ := h
    exact ⟨x, r, e, Rep.mono hz hm d x h1, Reps.mono hz hm ds r h2⟩
end
theorem Rep.grow {d : D} {v : V} (h : Rep K ms Z d v) (g : Grow ms Z H ms' Z' H') : Rep K ms' Z' d v := h.mono g.zz g.mm
theorem Reps.grow {ds : List D} {xs : List V} (h : Reps K ms Z ds xs) (g : Grow ms Z H ms' Z' H') : Reps K ms' Z' ds xs := h.mono g.zz g.mm
theorem Reps.len : ∀ {ds : List D} {xs : List V}, Reps K ms Z ds xs → ds.length = xs.length
  | [], xs, h => by simp only [Reps] at h; subst h; rfl
  | d :: ds, xs, h => by
    simp only [Reps] at h
    obtain ⟨x, r, rfl, _, h2⟩ := h
    simp [h2.len]
theorem Reps.nil : Reps K ms Z [] [] := by simp only [Reps]
theorem Reps.cons {d : D} {ds : List D} {x : V} {xs : List V} (h : Rep K ms Z d x) (t : Reps K ms Z ds xs) : Reps K ms Z (d :: ds) (x :: xs) := by
  simp only [Reps]
  exact ⟨x, xs, rfl, h, t⟩
theorem Reps.cons_inv {d : D} {ds : List D} {xs : List V} (h : Reps K ms Z (d :: ds) xs) : ∃ x r, xs = x :: r ∧ Rep K ms Z d x ∧ Reps K ms Z ds r := by
  simpa only [Reps] using h
theorem Reps.get : ∀ {ds : List D} {xs : List V} {i : Nat} {x : V}, Reps K ms Z ds xs → xs[i]? = some x → ∃ d, ds[i]? = some d ∧ Rep K ms Z d x
  | [], xs, i, x, h, e => by simp only [Reps] at h; subst h; simp at e
  | d :: ds, xs, i, x, h, e => by
    obtain ⟨y, r, rfl, h1, h2⟩ := h.cons_inv
    cases i with
    | zero => simp at e; subst e; exact ⟨d, rfl, h1⟩
    | succ i => simpa using h2.get (i := i) (by simpa using e)
theorem Reps.getD : ∀ {ds : List D} {xs : List V} {i : Nat} {d : D}, Reps K ms Z ds xs → ds[i]? = some d → ∃ x, xs[i]? = some x ∧ Rep K ms Z d x
  | [], xs, i, x, h, e => by simp at e
  | d :: ds, xs, i, d', h, e => by
    obtain ⟨y, r, rfl, h1, h2⟩ := h.cons_inv
    cases i with
    | zero => simp at e; subst e; exact ⟨y, rfl, h1⟩
    | succ i => simpa using h2.getD (i := i) (by simpa using e)
theorem Reps.append : ∀ {ds es : List D} {xs ys : List V}, Reps K ms Z ds xs → Reps K ms Z es ys → Reps K ms Z (ds ++ es) (xs ++ ys)
  | [], es, xs, ys, h, t => by simp only [Reps] at h; subst h; exact t
  | d :: ds, es, xs, ys, h, t => by
    obtain ⟨y, r, rfl, h1, h2⟩ := h.cons_inv
    exact .cons h1 (h2.append t)
theorem Reps.take : ∀ {ds : List D} {xs : List V} (n : Nat), Reps K ms Z ds xs → Reps K ms Z (ds.take n) (xs.take n)
  | [], xs, n, h => by simp only [Reps] at h; subst h; simp [Reps]
  | d :: ds, xs, n, h => by
    obtain ⟨y, r, rfl, h1, h2⟩ := h.cons_inv
    cases n with
    | zero => simp [Reps]
    | succ n => exact .cons h1 (h2.take n)
theorem Reps.drop : ∀ {ds : List D} {xs : List V} (n : Nat), Reps K ms Z ds xs → Reps K ms Z (ds.drop n) (xs.drop n)
  | [], xs, n, h => by simp only [Reps] at h; subst h; simp [Reps]
  | d :: ds, xs, n, h => by
    obtain ⟨y, r, rfl, h1, h2⟩ := h.cons_inv
    cases n with
    | zero => exact .cons h1 h2
    | succ n => exact h2.drop n
theorem Reps.set : ∀ {ds : List D} {xs : List V} {d : D} {x : V} (i : Nat), Reps K ms Z ds xs → Rep K ms Z d x → Reps K ms Z (ds.set i d) (xs.set i x)
  | [], xs, d, x, i, h, t => by simp only [Reps] at h; subst h; simp [Reps]
  | d :: ds, xs, d', x, i, h, t => by
    obtain ⟨y, r, rfl, h1, h2⟩ := h.cons_inv
    cases i with
    | zero => exact .cons t h2
    | succ i => exact .cons h1 (h2.set i t)
theorem Reps.erase : ∀ {ds : List D} {xs : List V} (i : Nat), Reps K ms Z ds xs → Reps K ms Z (ds.eraseIdx i) (xs.eraseIdx i)
  | [], xs, i, h => by simp only [Reps] at h; subst h; simp [Reps]
  | d :: ds, xs, i, h => by
    obtain ⟨y, r, rfl, h1, h2⟩ := h.cons_inv
    cases i with
    | zero => exact h2
    | succ i => exact .cons h1 (h2.erase i)
theorem Reps.reverse : ∀ {ds : List D} {xs : List V}, Reps K ms Z ds xs → Reps K ms Z ds.reverse xs.reverse
  | [], xs, h => by simp only [Reps] at h; subst h; simp [Reps]
  | d :: ds, xs, h => by
    obtain ⟨y, r, rfl, h1, h2⟩ := h.cons_inv
    rw [List.reverse_cons, List.reverse_cons]
    exact h2.reverse.append (.cons h1 .nil)
theorem Reps.ints : ∀ {is : List Int} {xs : List V}, Reps K ms Z (is.map D.int) xs ↔ xs = is.map V.int
  | [], xs => by simp [Reps]
  | i :: is, xs => by
    constructor
    · intro h
      obtain ⟨y, r, rfl, h1, h2⟩ := Reps.cons_inv h
      simp only [Rep] at h1
      rw [h1, Reps.ints.mp h2]; rfl
    · rintro rfl
      exact .cons (by simp only [Rep]) (Reps.ints.mpr rfl)

theorem OwnAt.grow {a : Addr} {d : D} (h : OwnAt K ms Z H a d) (g : Grow ms Z H ms' Z' H') (hm : a ∉ ms) : OwnAt K ms' Z' H' a d := by
  cases d <;> simp only [OwnAt] at h ⊢
  · obtain ⟨xs, e, r⟩ := h; exact ⟨xs, g.hh _ _ e hm, r.grow g⟩
  · obtain ⟨xs, l, e, r⟩ := h; exact ⟨xs, l, g.hh _ _ e hm, r.grow g⟩
  · obtain ⟨xs, l, e, r⟩ := h; exact ⟨xs, l, g.hh _ _ e hm, r.grow g⟩
theorem OwnAt.some_of {a : Addr} {d : D} (h : OwnAt K ms Z H a d) : (∃ xs, H a = some (.lst xs)) ∨ (∃ xs, H a = some (.dK xs)) ∨ ∃ xs, H a = some (.dT xs) := by
  cases d <;> simp only [OwnAt] at h
  · obtain ⟨xs, e, r⟩ := h; exact .inl ⟨xs, e⟩
  · obtain ⟨xs, l, e, r⟩ := h; exact .inr (.inl ⟨_, e⟩)
  · obtain ⟨xs, l, e, r⟩ := h; exact .inr (.inr ⟨_, e⟩)
theorem OwnAt.notup {a : Addr} {d : D} (h : OwnAt K ms Z H a d) : ¬ (H a = none ∨ ∃ xs, H a = some (.tup xs)) := by
  rcases h.some_of with ⟨xs, e⟩ | ⟨xs, e⟩ | ⟨xs, e⟩ <;> rw [e] <;> simp
theorem CellRep.notup {a : Addr} {c : Cell} (h : CellRep K cl ms Z H a c) : ¬ (H a = none ∨ ∃ xs, H a = some (.tup xs)) := by
  cases c <;> simp only [CellRep] at h
  · obtain ⟨xs, e, r⟩ := h; rw [e]; simp
  · obtain ⟨C, dx, xs, _, _, e, r⟩ := h; rw [e]; simp
theorem WOk.cell (w : WOk K cl ms Z H G) {a : Addr} (h : a ∈ ms) : ∃ (i : Nat) (c : Cell), ms[i]? = some a ∧ G[i]? = some c ∧ CellRep K cl ms Z H a c := by
  obtain ⟨i, hi, e⟩ := List.getElem_of_mem h
  have e1 : ms[i]? = some a := by rw [List.getElem?_eq_getElem hi, e]
  have hg : i < G.length := by have := w.ln; omega
  exact ⟨i, G[i], e1, List.getElem?_eq_getElem hg, w.gl i a _ e1 (List.getElem?_eq_getElem hg)⟩
theorem WOk.there (w : WOk K cl ms Z H G) {a : Addr} (h : a ∈ ms) : H a ≠ none := by
  obtain ⟨i, c, _, _, r⟩ := w.cell h
  exact fun e => r.notup (.inl e)
theorem WOk.fresh (w : WOk K cl ms Z H G) {a : Addr} (h : H a = none) : a ∉ ms := fun q => w.there q h
theorem WOk.zfresh (w : WOk K cl ms Z H G) {a : Addr} (h : H a = none) : Z a = none := by
  cases e : Z a with
  | none => rfl
  | some o => rcases w.zs a o e with q | ⟨_, ob, q⟩ <;> rw [h] at q <;> cases q

theorem Grow.refl (w : WOk K cl ms Z H G) : Grow ms Z H ms Z H :=
  ⟨fun _ _ h => h, fun a o h h' => by (rw [h] at h'; cases h'), fun _ _ h _ => h, fun _ o h => ⟨o, h⟩, List.prefix_refl _, fun _ h => .inl h⟩
theorem Grow.trans (g : Grow ms Z H ms' Z' H') (k : Grow ms' Z' H' ms'' Z'' H'') (w : WOk K cl ms' Z' H' G) (w2 : WOk K cl ms'' Z'' H'' G') : Grow ms Z H ms'' Z'' H'' where
  zz := fun a o h => k.zz a o (g.zz a o h)
  zn := fun a o h h2 => by
    cases e : Z' a with
    | some o' => exact g.zn a o' h e
    | none =>
      have nm : a ∉ ms := fun q => by
        have : a ∈ ms'' := k.mm.subset (g.mm.subset q)
        rw [w2.mz a this] at h2; cases h2
      rcases k.zn a o e h2 with q | ⟨xs, q⟩
      · cases e2 : H a with
        | none => exact .inl rfl
        | some o2 => rw [g.hh a o2 e2 nm] at q; cases q
      · cases e2 : H a with
        | none => exact .inl rfl
        | some o2 => rw [g.hh a o2 e2 nm] at q; cases q; exact .inr ⟨xs, rfl⟩
  hh := fun a o h n => by
    refine k.hh a o (g.hh a o h n) fun q => ?_
    rcases g.mn a q with q | q
    · exact n q
    · rw [h] at q; cases q
  hk := fun a o h => by
    obtain ⟨o1, h1⟩ := g.hk a o h
    exact k.hk a o1 h1
  mm := g.mm.trans k.mm
  mn := fun a h => by
    rcases k.mn a h with q | q
    · exact g.mn a q
    · refine .inr ?_
      cases e : H a with
      | none => rfl
      | some o =>
        obtain ⟨o1, h1⟩ := g.hk a o e
        rw [q] at h1; cases h1
end

/-! ### slots -/
inductive Sl where
  | un | val (d : D) | own (d : D)
  deriving Inhabited
abbrev Ev := List Sl

def SlotRep (K : Fg) (ms : List Addr) (Z H : Hp) (o : Option V) : Sl → Prop
  | .un => True
  | .val d => ∃ v, o = some v ∧ Rep K ms Z d v
  | .own d => ∃ a, o = some (.ref a) ∧ Z a = none ∧ a ∉ ms ∧ OwnAt K ms Z H a d

structure SlotsOk (K : Fg) (ms : List Addr) (Z H : Hp) (σ : Sg) (env : Ev) : Prop where
  len : σ.length = env.length
  at_ : ∀ (i : Nat) o s, σ[i]? = some o → env[i]? = some s → SlotRep K ms Z H o s
  sep : ∀ (i j : Nat) a d e, env[i]? = some (.own d) → env[j]? = some (.own e) → σ[i]? = some (some (.ref a)) → σ[j]? = some (some (.ref a)) → i = j

section
variable {K : Fg} {cl : ClsOf} {ms ms' ms'' : List Addr} {Z Z' Z'' H H' H'' : Hp} {G G' : Gs} {σ : Sg} {env : Ev}
theorem SlotRep.grow {o : Option V} {s : Sl} (h : SlotRep K ms Z H o s) (g : Grow ms Z H ms' Z' H') : SlotRep K ms' Z' H' o s := by
  cases s with
  | un => trivial
  | val d => obtain ⟨v, e, r⟩ := h; exact ⟨v, e, r.grow g⟩
  | own d =>
    obtain ⟨a, e, z, m, r⟩ := h
    refine ⟨a, e, ?_, ?_, r.grow g m⟩
    · cases q : Z' a with
      | none => rfl
      | some o => exact absurd (g.zn a o z q) (OwnAt.notup (d := d) r)
    · intro q
      rcases g.mn a q with q | q
      · exact m q
      · exact (OwnAt.notup (d := d) r) (.inl q)
theorem SlotsOk.grow (h : SlotsOk K ms Z H σ env) (g : Grow ms Z H ms' Z' H') : SlotsOk K ms' Z' H' σ env :=
  ⟨h.len, fun i o s e1 e2 => (h.at_ i o s e1 e2).grow g, h.sep⟩
theorem SlotsOk.get (h : SlotsOk K ms Z H σ env) {i : Nat} {s : Sl} (e : env[i]? = some s) : ∃ o, σ[i]? = some o ∧ SlotRep K ms Z H o s := by
  have hi := (List.getElem?_eq_some_iff.mp e).1
  have hs : i < σ.length := by rw [h.len]; exact hi
  exact ⟨σ[i], List.getElem?_eq_getElem hs, h.at_ i _ s (List.getElem?_eq_getElem hs) e⟩
theorem SlotsOk.val (h : SlotsOk K ms Z H σ env) {i : Nat} {d : D} (e : env[i]? = some (.val d)) : ∃ v, σ[i]? = some (some v) ∧ Rep K ms Z d v := by
  obtain ⟨o, e1, v, rfl, r⟩ := h.get e
  exact ⟨v, e1, r⟩
theorem SlotsOk.own (h : SlotsOk K ms Z H σ env) {i : Nat} {d : D} (e : env[i]? = some (.own d)) : ∃ a, σ[i]? = some (some (.ref a)) ∧ Z a = none ∧ a ∉ ms ∧ OwnAt K ms Z H a d := by
  obtain ⟨o, e1, a, rfl, r⟩ := h.get e
  exact ⟨a, e1, r⟩

/-! ### new objects -/
theorem upd_get {H : Hp} {p : Addr} {o : HO} (n : H p = none) : ∀ a x, H a = some x → upd H p o a = some x := fun a x e => by
  rw [upd_ne (ne_of_none e n)]; exact e
theorem CellRep.mono {a : Addr} {c : Cell} (h : CellRep K cl ms Z H a c) (hz : ∀ a o, Z a = some o → Z' a = some o) (hh : ∀ o, H a = some o → H' a = some o) (hm : ms <+: ms') : CellRep K cl ms' Z' H' a c := by
  cases c <;> simp only [CellRep] at h ⊢
  · obtain ⟨xs, e, r⟩ := h; exact ⟨xs, hh _ e, r.mono hz hm⟩
  · obtain ⟨C, dx, xs, e1, l, e, r⟩ := h; exact ⟨C, dx, xs, e1, l, hh _ e, r.mono hz hm⟩
/-- nothing but what is new -/
theorem WOk.ext (w : WOk K cl ms Z H G) (hz : ∀ a o, Z a = some o → Z' a = some o) (hh : ∀ a o, H a = some o → H' a = some o) (zs : ∀ a o, Z' a = some o → Zin H' a o) (mz : ∀ a, a ∈ ms → Z' a = none) : WOk K cl ms Z' H' G :=
  ⟨zs, mz, w.nd, w.ln, fun i a c e1 e2 => (w.gl i a c e1 e2).mono hz (fun o => hh a o) (List.prefix_refl _), w.fl⟩
theorem Zin.mono {a : Addr} {o : HO} (h : Zin H a o) (hh : ∀ a o, H a = some o → H' a = some o) : Zin H' a o := by
  rcases h with h | ⟨d, ob, h⟩
  · exact .inl (hh _ _ h)
  · exact .inr ⟨d, ob, hh _ _ h⟩
/-- a new object of one's own -/
theorem WOk.alloc (w : WOk K cl ms Z H G) {p : Addr} (n : H p = none) (o : HO) : WOk K cl ms Z (upd H p o) G :=
  w.ext (fun _ _ h => h) (upd_get n) (fun a o h => (w.zs a o h).mono (upd_get n)) w.mz
theorem Grow.alloc (w : WOk K cl ms Z H G) {p : Addr} (n : H p = none) (o : HO) : Grow ms Z H ms Z (upd H p o) :=
  ⟨fun _ _ h => h, fun a o h h' => by (rw [h] at h'; cases h'), fun a x h _ => upd_get n a x h, fun a x h => ⟨x, upd_get n a x h⟩, List.prefix_refl _, fun _ h => .inl h⟩
/-- what stands there is frozen from now on -/
theorem WOk.freeze (w : WOk K cl ms Z H G) {p : Addr} {o : HO} (h : H p = some o) (z : Z p = none) (m : p ∉ ms) : WOk K cl ms (upd Z p o) H G := by
  refine w.ext (upd_get z) (fun _ _ h => h) (fun a x e => ?_) (fun a ha => ?_)
  · by_cases q : a = p
    · subst q; rw [upd_same] at e; cases e; exact .inl h
    · rw [upd_ne q] at e; exact w.zs a x e
  · have hne : a ≠ p := fun q => m (by rw [← q]; exact ha)
    rw [upd_ne hne]; exact w.mz a ha
theorem Grow.freeze {H0 : Hp} (g : Grow ms Z H0 ms' Z' H') (w : WOk K cl ms' Z' H' G) {p : Addr} {o : HO} (n : H0 p = none) (z : Z' p = none) : Grow ms Z H0 ms' (upd Z' p o) H' where
  zz := fun a x h => upd_get z a x (g.zz a x h)
  zn := fun a x h e => by
    by_cases q : a = p
    · subst q; exact .inl n
    · rw [upd_ne q] at e; exact g.zn a x h e
  hh := g.hh
  hk := g.hk
  mm := g.mm
  mn := g.mn
/-- a new tuple -/
theorem WOk.tup (w : WOk K cl ms Z H G) {p : Addr} (n : H p = none) (xs : List V) : WOk K cl ms (upd Z p (.tup xs)) (upd H p (.tup xs)) G :=
  (w.alloc n (.tup xs)).freeze upd_same (w.zfresh n) (w.fresh n)
theorem Grow.tup (w : WOk K cl ms Z H G) {p : Addr} (n : H p = none) (xs : List V) : Grow ms Z H ms (upd Z p (.tup xs)) (upd H p (.tup xs)) :=
  (Grow.alloc w n (.tup xs)).freeze (w.alloc n _) n (w.zfresh n)
theorem Rep.tupNew {p : Addr} {ds : List D} {xs : List V} (r : Reps K ms Z ds xs) (n : Z p = none) : Rep K ms (upd Z p (.tup xs)) (.tup false ds) (.ref p) := by
  simp only [Rep]
  exact ⟨p, xs, rfl, upd_same, r.mono (upd_get n) (List.prefix_refl _)⟩

/-! ### borrowed values, fresh values -/
def BRep (K : Fg) (ms : List Addr) (Z H : Hp) (d : D) (v : V) : Prop := Rep K ms Z d v ∨ ∃ a, v = .ref a ∧ Z a = none ∧ a ∉ ms ∧ OwnAt K ms Z H a d
theorem BRep.grow {d : D} {v : V} (h : BRep K ms Z H d v) (g : Grow ms Z H ms' Z' H') : BRep K ms' Z' H' d v := by
  rcases h with h | ⟨a, rfl, z, m, o⟩
  · exact .inl (h.grow g)
  · have s : SlotRep K ms Z H (some (.ref a)) (.own d) := ⟨a, rfl, z, m, o⟩
    obtain ⟨b, e, z', m', o'⟩ := s.grow g
    cases e
    exact .inr ⟨a, rfl, z', m', o'⟩
/-- fr: a new list or dict that nobody else holds -/
def FRep (K : Fg) (ms : List Addr) (Z H H0 : Hp) (fr : Bool) (d : D) (v : V) : Prop :=
  if fr = true then ∃ a, v = .ref a ∧ H0 a = none ∧ Z a = none ∧ a ∉ ms ∧ OwnAt K ms Z H a d else Rep K ms Z d v
end
end MP

namespace MP
open PySem PySem.Spec PyProof.Rows L2

/-! ### the mini-language -/
inductive BOp where
  | add | sub | mul | fdiv | mod | pow
  deriving DecidableEq
inductive COp where
  | eq | ne | lt | le | gt | ge | isin | notin | iss | isnot
  deriving DecidableEq
inductive Prim where
  | len1 | abs1 | int1 | sum1 | all1 | max1 | min1 | max2 | min2 | tuple1 | list1 | sorted1 | dict1
  deriving DecidableEq
inductive Mth where
  | get1 | get2 | count1 | index1 | index2
  deriving DecidableEq
inductive Tg where
  | nm (i : Nat) (x : Str) | tp (l : List (Nat × Str))

mutual
inductive E where
  | var (i : Nat) (x : Str) | own (i : Nat) (x : Str)
  | non | bl (b : Bool) | int (i : Int) | str (s : Str)
  | glb (x : Str) (d : D)
  | tup (k : Bool) (es : Es) | lst (es : Es) | disp (ks vs : Es) | dK0 | dT0
  | bin (o : BOp) (a b : E) | cat (a b : E) | rep (a b : E)
  | neg (a : E) | not (a : E)
  | cmp (o : COp) (a b : E) | chn (o1 o2 : COp) (a b c : E)
  | and (es : Es) | or (es : Es) | ife (c a b : E)
  | idx (a b : E) | slc (a : E) (lo hi : Eo) | rev (a : E)
  | call (fr : Bool) (f : Str) (es : Es)
  | prim (p : Prim) (es : Es) | mth (m : Mth) (a : E) (es : Es)
  | isi (a : E) (t : Str)
  | srtset (a : E) | lrng (es : Es) | dzip (a b : E)
  | comp (elt : E) (t : Tg) (it : Src) (c : Eo) (vs : List (Str × Nat))
  | dcomp (k v : E) (t : Tg) (it : Src) (vs : List (Str × Nat))
  | newc (es : Es)
inductive Es where
  | nil | cons (e : E) (es : Es)
inductive Eo where
  | no | so (e : E)
inductive Src where
  | seq (e : E) | rng (es : Es) | enum (e : E) | zip (a b : E) | items (e : E)
end

/-- what a clause of a try computes -/
inductive HE where
  | non | bl (b : Bool) | int (i : Int) | str (s : Str) | var (i : Nat) (x : Str) | isx (c : Str)
  | and (a b : HE) | int1 (a : HE) | add (a b : HE) | ife (c : Str) (a b : HE)
inductive HS where
  | retN | ret (e : HE) | asg (i : Nat) (x : Str) (e : HE) | pick (ss : List Str) (e : HE)
structure Cl where
  c : Str
  nm : Option (Nat × Str)
  h : HS
mutual
inductive S where
  | pass | doc | cont | brk | retN
  | asg (t : Tg) (e : E) | asgF (i : Nat) (x : Str) (e : E) | frz (i : Nat)
  | app (i : Nat) (x : Str) (e : E) | ext (i : Nat) (x : Str) (e : E) | ins (i : Nat) (x : Str) (k e : E) | pop (i : Nat) (x : Str) (k : E)
  | asgPop (i : Nat) (x : Str) (j : Nat) (y : Str) (k : E)
  | appPop (i : Nat) (x : Str) (j : Nat) (y : Str) (k : E)
  | seti (i : Nat) (x : Str) (k e : E) | setg (a k e : E)
  | aug (i : Nat) (x : Str) (e : E) | augi (i : Nat) (x : Str) (k e : E)
  | ex (e : E) | ret (e : E) | ite (c : E) (a b : Ss) | for_ (t : Tg) (it : Src) (body : Ss) (ws : List Nat) | whl (c : E) (body : Ss) (ws : List Nat)
  | rais (c : Str) (msg : Str) | try_ (b : Ss) (cs : List Cl)
inductive Ss where
  | nil | cons (s : S) (ss : Ss)
end

structure FnDef where
  name : Str
  ps : List Str
  N : List Str
  fr : Bool
  body : Ss
abbrev Prog := Str → Option FnDef

def Es.length : Es → Nat
  | .nil => 0
  | .cons _ es => es.length + 1
def Es.hasOwn : Es → Bool
  | .nil => false
  | .cons (.own _ _) _ => true
  | .cons _ es => es.hasOwn

/-- static: the value is a new list or dict -/
def fresh : E → Bool
  | .lst _ => true
  | .disp _ _ => true
  | .dK0 => true
  | .dT0 => true
  | .cat _ _ => true
  | .rep _ _ => true
  | .call fr _ _ => fr
  | .prim .list1 _ => true
  | .prim .sorted1 _ => true
  | .prim .dict1 _ => true
  | .srtset _ => true
  | .lrng _ => true
  | .dzip _ _ => true
  | .comp _ _ _ _ _ => true
  | .dcomp _ _ _ _ _ => true
  | .ife _ a b => fresh a && fresh b
  | _ => false

/-! ### operations on data -/
def LIM : Nat := 1000000
def kD : Key → D
  | .inl i => .int i
  | .inr x => .str x
mutual
def py : D → PyData
  | .non => .none
  | .bl b => .bool b
  | .int i => .int i
  | .str s => .str s
  | .tup _ ds => .tuple (pys ds)
  | .lst ds => .list (pys ds)
  | _ => .none
def pys : List D → List PyData
  | [] => []
  | d :: ds => py d :: pys ds
end
mutual
/-- plain data, no deeper than n -/
def okD : Nat → D → Bool
  | _, .non => true
  | _, .bl _ => true
  | _, .int _ => true
  | _, .str s => PyData.strOk s
  | 0, _ => false
  | n + 1, .tup _ ds => okDs n ds
  | n + 1, .lst ds => okDs n ds
  | _, _ => false
def okDs : Nat → List D → Bool
  | _, [] => true
  | n, d :: ds => okD n d && okDs n ds
end
def deq (a b : D) : Bool := PyData.eqv (py a) (py b)
def plain (d : D) : Bool := okD 40 d

def keyOf : D → Option Key
  | .int i => some (.inl i)
  | .str s => some (.inr s)
  | _ => none
def keysOf : List D → Option (List Key)
  | [] => some []
  | d :: ds => (keyOf d).bind fun k => (keysOf ds).map (k :: ·)
def tkeyOf : D → Option (List Key)
  | .tup false ds => keysOf ds
  | _ => none
def lookP {κ : Type} [DecidableEq κ] : List κ → List D → κ → Option D
  | k :: ks, v :: vs, j => if k = j then some v else lookP ks vs j
  | _, _, _ => none
def putP {κ : Type} [DecidableEq κ] (ks : List κ) (vs : List D) (k : κ) (v : D) : List κ × List D :=
  if (ks.any fun j => decide (j = k)) = true then (ks, List.zipWith (fun j u => if j = k then v else u) ks vs) else (ks ++ [k], vs ++ [v])

def truth : D → Option Bool
  | .non => some false
  | .bl b => some b
  | .int i => some (i != 0)
  | .tup _ ds => some (!ds.isEmpty)
  | .lst ds => some (!ds.isEmpty)
  | _ => none
def binD : BOp → D → D → Option D
  | .add, .int i, .int j => some (.int (i + j))
  | .add, .tup k xs, .tup l ys => if xs.length + ys.length < LIM then some (if xs = [] then .tup l ys else if ys = [] then .tup k xs else .tup true (xs ++ ys)) else none
  | .add, .lst xs, .lst ys => if xs.length + ys.length < LIM then some (.lst (xs ++ ys)) else none
  | .sub, .int i, .int j => some (.int (i - j))
  | .mul, .int i, .int j => if (-18446744073709551616 < i ∧ i < 18446744073709551616) ∨ (-18446744073709551616 < j ∧ j < 18446744073709551616) then some (.int (i * j)) else none
  | .mul, .tup _ xs, .int k => if xs ≠ [] ∧ 2 ≤ k ∧ k ≤ 1000 ∧ xs.length ≤ 1000 then some (.tup true (List.replicate k.toNat xs).flatten) else none
  | .fdiv, .int i, .int j => if 0 < j ∧ j < 1073741824 then some (.int (i / j)) else none
  | .mod, .int i, .int j => if 0 < j then some (.int (i % j)) else none
  | .pow, .int i, .int j => if 0 ≤ j ∧ j ≤ 1000 ∧ -18446744073709551616 < i ∧ i < 18446744073709551616 then some (.int (i ^ j.toNat)) else none
  | _, _, _ => none
def catD : D → D → Option D
  | .lst xs, .lst ys => if xs.length + ys.length < LIM then some (.lst (xs ++ ys)) else none
  | _, _ => none
def repD : D → D → Option D
  | .lst xs, .int k => if -1000 ≤ k ∧ k ≤ 1000 ∧ xs.length ≤ 1000 then some (.lst (List.replicate k.toNat xs).flatten) else none
  | _, _ => none
def inD (a : D) : D → Option Bool
  | .lst ds => if plain a && okDs 40 ds then some (ds.any fun z => deq z a) else none
  | .tup _ ds => if plain a && okDs 40 ds then some (ds.any fun z => deq z a) else none
  | .dK ks _ => (keyOf a).map fun k => ks.any fun j => decide (j = k)
  | .dT ks _ => (tkeyOf a).map fun k => ks.any fun j => decide (j = k)
  | _ => none
/-- two dicts with the same entries (numbers) -/
def dkSame : D → D → Bool
  | .dK ks vs, .dK ls us => decide (ks.length = ls.length) && decide (ks.length = vs.length) && (ks.zip vs).all fun p => match p.2, lookP ls us p.1 with
    | .int i, some (.int j) => i == j
    | _, _ => false
  | _, _ => false
def cmpD : COp → D → D → Option Bool
  | .eq, a, b => if plain a && plain b then some (deq a b) else if dkSame a b then some true else none
  | .ne, a, b => if plain a && plain b then some (!deq a b) else if dkSame a b then some false else none
  | .lt, .int i, .int j => some (decide (i < j))
  | .le, .int i, .int j => some (decide (i ≤ j))
  | .gt, .int i, .int j => some (decide (j < i))
  | .ge, .int i, .int j => some (decide (j ≤ i))
  | .isin, a, b => inD a b
  | .notin, a, b => (inD a b).map (!·)
  | .iss, .bl a, .bl b => some (decide (a = b))
  | .isnot, .bl a, .bl b => some (!decide (a = b))
  | .iss, a, .non => some (match a with | .non => true | _ => false)
  | .isnot, a, .non => some (match a with | .non => false | _ => true)
  | _, _, _ => none
def idxD (G : Gs) : D → D → Option D
  | .lst ds, .int i => atI ds i
  | .tup _ ds, .int i => atI ds i
  | .scr is, .int i => (atI is i).map .int
  | .ctp ds, .int i => atI ds i
  | .dK ks vs, k => (keyOf k).bind fun k => lookP ks vs k
  | .dT ks vs, k => (tkeyOf k).bind fun k => lookP ks vs k
  | .glob n, .int i => match G[n]? with
    | some (.lst ds) => atI ds i
    | _ => none
  | _, _ => none
def cutD (ds : List D) (lo hi : Option Int) : List D := (ds.drop (HT.sIx ds.length 0 lo)).take (HT.sIx ds.length ds.length hi - HT.sIx ds.length 0 lo)
def slcD (lo hi : Option Int) : D → Option D
  | .lst ds => some (.lst (cutD ds lo hi))
  | .tup k ds => some (.tup (if HT.sIx ds.length 0 lo = 0 ∧ HT.sIx ds.length ds.length hi = ds.length then k else true) (cutD ds lo hi))
  | _ => none
def revD : D → Option D
  | .lst ds => some (.lst ds.reverse)
  | .tup _ ds => some (.tup true ds.reverse)
  | _ => none
def intsOf : List D → Option (List Int)
  | [] => some []
  | .int i :: ds => (intsOf ds).map (i :: ·)
  | _ => none
def blsOf : List D → Option (List Bool)
  | [] => some []
  | .bl i :: ds => (blsOf ds).map (i :: ·)
  | _ => none
def maxI : List Int → Int
  | [] => 0
  | [i] => i
  | i :: is => max i (maxI is)
def minI : List Int → Int
  | [] => 0
  | [i] => i
  | i :: is => min i (minI is)
/-- insertion sort: the one ascending list -/
def insI (i : Int) : List Int → List Int
  | [] => [i]
  | j :: r => if i ≤ j then i :: j :: r else j :: insI i r
def sortI : List Int → List Int
  | [] => []
  | i :: r => insI i (sortI r)
def dedI : List Int → List Int
  | [] => []
  | i :: r => i :: (dedI r).filter (fun j => j != i)
def primD : Prim → List D → Option D
  | .len1, [.lst ds] => some (.int ds.length)
  | .len1, [.tup _ ds] => some (.int ds.length)
  | .len1, [.scr ds] => some (.int ds.length)
  | .len1, [.ctp ds] => some (.int ds.length)
  | .len1, [.dK ks _] => some (.int ks.length)
  | .len1, [.dT ks _] => some (.int ks.length)
  | .abs1, [.int i] => some (.int (if i < 0 then -i else i))
  | .int1, [.int i] => some (.int i)
  | .int1, [.bl b] => some (.int (if b then 1 else 0))
  | .sum1, [.lst ds] => (intsOf ds).map fun is => .int is.sum
  | .all1, [.lst ds] => (blsOf ds).map fun bs => .bl (bs.all id)
  | .max1, [.lst ds] => (intsOf ds).bind fun is => if is = [] then none else some (.int (maxI is))
  | .min1, [.lst ds] => (intsOf ds).bind fun is => if is = [] then none else some (.int (minI is))
  | .max2, [.int i, .int j] => some (.int (if j > i then j else i))
  | .min2, [.int i, .int j] => some (.int (if j < i then j else i))
  | .tuple1, [.lst ds] => some (.tup true ds)
  | .tuple1, [.tup k ds] => some (.tup k ds)
  | .tuple1, [.dT ks vs] => if ks.length = vs.length then some (.tup true (ks.map fun k => .tup false (k.map kD))) else none
  | .list1, [.lst ds] => some (.lst ds)
  | .list1, [.tup _ ds] => some (.lst ds)
  | .list1, [.dT ks vs] => if ks.length = vs.length then some (.lst (ks.map fun k => .tup false (k.map kD))) else none
  | .sorted1, [.lst ds] => (intsOf ds).map fun is => .lst ((sortI is).map .int)
  | .dict1, [.dK ks vs] => some (.dK ks vs)
  | _, _ => none
def isTyD (t : Str) : D → Option Bool
  | .non => some false
  | .bl _ => some (t == "bool" || t == "int")
  | .int _ => some (t == "int")
  | .str _ => some (t == "str")
  | .tup _ _ => some (t == "tuple")
  | .lst _ => some (t == "list")
  | .dK _ _ => some (t == "dict")
  | _ => none
def indexD (d : D) : List D → Option Nat
  | [] => none
  | e :: es => if deq e d then some 0 else (indexD d es).map (· + 1)
def mthD : Mth → D → List D → Option D
  | .get1, .dK ks vs, [k] => (keyOf k).map fun k => (lookP ks vs k).getD .non
  | .get2, .dK ks vs, [k, d] => (keyOf k).map fun k => (lookP ks vs k).getD d
  | .get1, .dT ks vs, [k] => (tkeyOf k).map fun k => (lookP ks vs k).getD .non
  | .get2, .dT ks vs, [k, d] => (tkeyOf k).map fun k => (lookP ks vs k).getD d
  | .count1, .tup true ds, [.int i] => (intsOf ds).map fun is => .int ((is.count i : Nat) : Int)
  | .index1, .tup true ds, [d] => if plain d && okDs 40 ds then (indexD d ds).map fun j => .int (j : Nat) else none
  | .index2, .tup true ds, [d, .int i] => if plain d && okDs 40 ds && decide (0 ≤ i) then (indexD d (ds.drop i.toNat)).map fun j => .int ((i.toNat + j : Nat) : Int) else none
  | .index1, .ctp ds, [.str x] => if ds.all (fun d => match d with | .str _ => true | _ => false) then (indexD (.str x) ds).map fun j => .int (j : Nat) else none
  | .index1, .lst ds, [d] => if plain d && okDs 40 ds then (indexD d ds).map fun j => .int (j : Nat) else none
  | _, _, _ => none
def mthS : Mth → D → Bool
  | .get1, .dK _ _ => true
  | .get1, .dT _ _ => true
  | .get2, .dK _ _ => true
  | .get2, .dT _ _ => true
  | .count1, .tup true _ => true
  | .index1, .tup true _ => true
  | .index2, .tup true _ => true
  | _, _ => false
def flatR (fr : Bool) (d : D) : Bool :=
  if fr then (match d with
    | .lst ds => flats ds
    | .dK _ vs => flats vs
    | .dT _ vs => flats vs
    | d => flat d) else flat d

/-! ### what an evaluation gives -/
inductive Res (α : Type) where
  | ok (a : α) (G : Gs) | ex (c : Str) (G : Gs) | no
def Res.bind {α β : Type} (r : Res α) (f : α → Gs → Res β) : Res β :=
  match r with
  | .ok a G => f a G
  | .ex c G => .ex c G
  | .no => .no
def Res.bindO {α β : Type} (r : Res α) (f : α → Option β) : Res β :=
  match r with
  | .ok a G => (match f a with
    | some b => .ok b G
    | none => .no)
  | .ex c G => .ex c G
  | .no => .no
def Res.lift {α : Type} (o : Option α) (G : Gs) : Res α :=
  match o with
  | some a => .ok a G
  | none => .no

abbrev CallF := Str → List D → Gs → Res D

def wipeE (env : Ev) : List Nat → Ev
  | [] => env
  | v :: vs => (wipeE env vs).set v .un
def setTp : List (Nat × Str) → List D → Ev → Option Ev
  | [], [], env => some env
  | (i, _) :: l, d :: ds, env => setTp l ds (env.set i (.val d))
  | _, _, _ => none
def setTg : Tg → D → Ev → Option Ev
  | .nm i _, d, env => some (env.set i (.val d))
  | .tp l, .tup _ ds, env => setTp l ds env
  | .tp l, .lst ds, env => setTp l ds env
  | _, _, _ => none
/-- the items of a comprehension, one after the other; nothing may be raised -/
def compL (f : D → Gs → Res (Option D)) : List D → Gs → Res (List D)
  | [], G => .ok [] G
  | d :: ds, G => match f d G with
    | .ok o G1 => (match compL f ds G1 with
      | .ok r G2 => .ok (o.toList ++ r) G2
      | _ => .no)
    | _ => .no
def dcompL (f : D → Gs → Res (D × D)) : List D → D → Gs → Res D
  | [], acc, G => .ok acc G
  | d :: ds, acc, G => match f d G with
    | .ok (k, v) G1 => (match acc with
      | .dT ks vs => (match tkeyOf k with
        | some k => if ks.length < LIM then dcompL f ds (.dT (putP ks vs k v).1 (putP ks vs k v).2) G1 else .no
        | none => .no)
      | _ => .no)
    | _ => .no
def seqItems : D → Option (List D)
  | .lst ds => some ds
  | .tup _ ds => some ds
  | _ => none
def rngItems : List D → Option (List D)
  | [.int j] => if -LIM ≤ j ∧ j ≤ LIM then some ((List.range j.toNat).map fun (k : Nat) => .int k) else none
  | [.int i, .int j] => if -LIM ≤ i ∧ i ≤ LIM ∧ -LIM ≤ j ∧ j ≤ LIM then some ((List.range (j - i).toNat).map fun (k : Nat) => .int (i + k)) else none
  | [.int i, .int j, .int c] => if c = -1 ∧ -LIM ≤ i ∧ i ≤ LIM ∧ -LIM ≤ j ∧ j ≤ LIM then some ((List.range (i - j).toNat).map fun (k : Nat) => .int (i - k))
      else if (0 < c ∧ c ≤ LIM) ∧ -LIM ≤ i ∧ i ≤ LIM ∧ -LIM ≤ j ∧ j ≤ LIM then some ((List.range (if i < j then ((j - i - 1) / c + 1).toNat else 0)).map fun (k : Nat) => .int (i + k * c)) else none
  | _ => none
def enumItems (ds : List D) : List D := ds.zipIdx.map fun p => .tup false [.int p.2, p.1]
def enumOf : D → Option (List D)
  | .lst ds => some ds
  | .tup _ ds => some ds
  | _ => none
def zipItems (ds es : List D) : List D := (List.zip ds es).map fun p => .tup false [p.1, p.2]
def listOf : D → Option (List D)
  | .lst ds => some ds
  | .tup _ ds => some ds
  | _ => none
def dicItems : D → Option (List D)
  | .dK ks vs => if ks.length < LIM then some ((ks.zip vs).map fun p => .tup false [kD p.1, p.2]) else none
  | _ => none
def dispD : List D → List D → Option D
  | ks, vs => (keysOf ks).bind fun k => if ks.length = vs.length ∧ k.Nodup then some (.dK k vs) else none

mutual
def ev (cf : CallF) : E → Ev → Gs → Res D
  | .var i _, env, G => match env[i]? with
    | some (.val d) => .ok d G
    | _ => .no
  | .own i _, env, G => match env[i]? with
    | some (.own d) => .ok d G
    | _ => .no
  | .non, _, G => .ok .non G
  | .bl b, _, G => .ok (.bl b) G
  | .int i, _, G => .ok (.int i) G
  | .str s, _, G => .ok (.str s) G
  | .glb _ d, _, G => .ok d G
  | .tup k es, env, G => (evs cf es env G).bind fun ds G => .ok (.tup k ds) G
  | .lst es, env, G => (evs cf es env G).bind fun ds G => .ok (.lst ds) G
  | .disp ks vs, env, G => (evs cf ks env G).bind fun k G => (evs cf vs env G).bind fun v G => .lift (dispD k v) G
  | .dK0, _, G => .ok (.dK [] []) G
  | .dT0, _, G => .ok (.dT [] []) G
  | .bin o a b, env, G => (ev cf a env G).bind fun x G => (ev cf b env G).bind fun y G => .lift (binD o x y) G
  | .cat a b, env, G => (ev cf a env G).bind fun x G => (ev cf b env G).bind fun y G => .lift (catD x y) G
  | .rep a b, env, G => (ev cf a env G).bind fun x G => (ev cf b env G).bind fun y G => .lift (repD x y) G
  | .neg a, env, G => (ev cf a env G).bind fun x G => match x with
    | .int i => .ok (.int (-i)) G
    | _ => .no
  | .not a, env, G => (ev cf a env G).bind fun x G => match truth x with
    | some b => .ok (.bl (!b)) G
    | none => .no
  | .cmp o a b, env, G => (ev cf a env G).bind fun x G => (ev cf b env G).bind fun y G => match cmpD o x y with
    | some c => .ok (.bl c) G
    | none => .no
  | .chn o p a b c, env, G => (ev cf a env G).bind fun x G => (ev cf b env G).bind fun y G => match cmpD o x y with
    | some true => (ev cf c env G).bind fun z G => (match cmpD p y z with
      | some c => .ok (.bl c) G
      | none => .no)
    | some false => .ok (.bl false) G
    | none => .no
  | .and es, env, G => evAnd cf es env G
  | .or es, env, G => evOr cf es env G
  | .ife c a b, env, G => ((ev cf c env G).bindO truth).bind fun x G => if x then ev cf a env G else ev cf b env G
  | .idx a b, env, G => (ev cf a env G).bind fun x G => (ev cf b env G).bind fun y G => .lift (idxD G x y) G
  | .slc a lo hi, env, G => (ev cf a env G).bind fun x G => (evo cf lo env G).bind fun l G => (evo cf hi env G).bind fun h G => .lift (slcD l h x) G
  | .rev a, env, G => (ev cf a env G).bind fun x G => .lift (revD x) G
  | .call fr f es, env, G => (evs cf es env G).bind fun ds G => match cf f ds G with
    | .ok d G1 => if es.hasOwn && !flatR fr d then .no else .ok d G1
    | r => r
  | .prim p es, env, G => (evs cf es env G).bind fun ds G => .lift (primD p ds) G
  | .mth m a es, env, G => (ev cf a env G).bind fun x G => if mthS m x then (evs cf es env G).bind fun ds G => .lift (mthD m x ds) G else .no
  | .isi a t, env, G => (ev cf a env G).bind fun x G => match isTyD t x with
    | some b => .ok (.bl b) G
    | none => .no
  | .srtset a, env, G => (ev cf a env G).bind fun x G => match x with
    | .lst ds => .lift ((intsOf ds).bind fun is => if (dedI is).length < 64 ∧ is.length < 4000 then some (.lst ((sortI (dedI is)).map .int)) else none) G
    | _ => .no
  | .lrng es, env, G => (evs cf es env G).bind fun ds G => .lift ((rngItems ds).map .lst) G
  | .dzip a b, env, G => .no
  | .comp e t it c vs, env, G => (evI cf it env G).bind fun items G =>
      (compL (fun d G => match setTg t d (wipeE env (vs.map (·.2))) with
        | some env1 => (match c with
          | .no => (ev cf e env1 G).bind fun y G => .ok (some y) G
          | .so c => (ev cf c env1 G).bind fun x G => (match truth x with
            | some true => (ev cf e env1 G).bind fun y G => .ok (some y) G
            | some false => .ok none G
            | none => .no))
        | none => .no) items G).bind fun ds G => .ok (.lst ds) G
  | .dcomp k v t it vs, env, G => (evI cf it env G).bind fun items G =>
      dcompL (fun d G => match setTg t d (wipeE env (vs.map (·.2))) with
        | some env1 => (ev cf k env1 G).bind fun x G => (ev cf v env1 G).bind fun y G => .ok (x, y) G
        | none => .no) items (.dT [] []) G
  | .newc es, env, G => (evs cf es env G).bind fun ds G => if flats ds then .ok (.glob G.length) (G ++ [.lst ds]) else .no
def evs (cf : CallF) : Es → Ev → Gs → Res (List D)
  | .nil, _, G => .ok [] G
  | .cons e es, env, G => (ev cf e env G).bind fun d G => (evs cf es env G).bind fun ds G => .ok (d :: ds) G
def evo (cf : CallF) : Eo → Ev → Gs → Res (Option Int)
  | .no, _, G => .ok none G
  | .so e, env, G => (ev cf e env G).bind fun d G => match d with
    | .int i => .ok (some i) G
    | _ => .no
def evAnd (cf : CallF) : Es → Ev → Gs → Res D
  | .nil, _, _ => .no
  | .cons e .nil, env, G => (ev cf e env G).bind fun d G => match d with
    | .bl b => .ok (.bl b) G
    | _ => .no
  | .cons e es, env, G => (ev cf e env G).bind fun d G => match d with
    | .bl true => evAnd cf es env G
    | .bl false => .ok (.bl false) G
    | _ => .no
def evOr (cf : CallF) : Es → Ev → Gs → Res D
  | .nil, _, _ => .no
  | .cons e .nil, env, G => (ev cf e env G).bind fun d G => match d with
    | .bl b => .ok (.bl b) G
    | _ => .no
  | .cons e es, env, G => (ev cf e env G).bind fun d G => match d with
    | .bl false => evOr cf es env G
    | .bl true => .ok (.bl true) G
    | _ => .no
def evI (cf : CallF) : Src → Ev → Gs → Res (List D)
  | .seq e, env, G => (ev cf e env G).bind fun d G => .lift (seqItems d) G
  | .rng es, env, G => (evs cf es env G).bind fun ds G => .lift (rngItems ds) G
  | .enum e, env, G => (ev cf e env G).bind fun d G => .lift ((enumOf d).map enumItems) G
  | .zip a b, env, G => (ev cf a env G).bind fun x G => (ev cf b env G).bind fun y G => .lift (match x, y with
    | .lst xs, .lst ys => some (zipItems xs ys)
    | _, _ => none) G
  | .items e, env, G => (ev cf e env G).bind fun d G => .lift (dicItems d) G
end

mutual
/-- a test -/
def tv (cf : CallF) : E → Ev → Gs → Res Bool
  | .not a, env, G => (tv cf a env G).bind fun b G => .ok (!b) G
  | .and es, env, G => tvAnd cf es env G
  | .or es, env, G => tvOr cf es env G
  | e, env, G => (ev cf e env G).bindO truth
def tvAnd (cf : CallF) : Es → Ev → Gs → Res Bool
  | .nil, _, _ => .no
  | .cons e .nil, env, G => tv cf e env G
  | .cons e es, env, G => (tv cf e env G).bind fun b G => if b then tvAnd cf es env G else .ok false G
def tvOr (cf : CallF) : Es → Ev → Gs → Res Bool
  | .nil, _, _ => .no
  | .cons e .nil, env, G => tv cf e env G
  | .cons e es, env, G => (tv cf e env G).bind fun b G => if b then .ok true G else tvOr cf es env G
end

/-! ### statements -/
inductive Out where
  | nx (env : Ev) (G : Gs) | rt (d : D) (G : Gs) | bk (env : Ev) (G : Gs) | ct (env : Ev) (G : Gs) | ex (c : Str) (env : Ev) (G : Gs) | no
def Out.seq (o : Out) (f : Ev → Gs → Out) : Out :=
  match o with
  | .nx env G => f env G
  | o => o
/-- an expression within a statement -/
def Res.st {α : Type} (r : Res α) (env : Ev) (f : α → Gs → Out) : Out :=
  match r with
  | .ok a G => f a G
  | .ex c G => .ex c env G
  | .no => .no
def nxO (o : Option Ev) (G : Gs) : Out :=
  match o with
  | some env => .nx env G
  | none => .no
def forL (body : D → Ev → Gs → Out) (ws : List Nat) : List D → Ev → Gs → Out
  | [], env, G => .nx env G
  | d :: ds, env, G => match body d env G with
    | .nx env1 G1 => forL body ws ds (wipeE env1 ws) G1
    | .ct env1 G1 => forL body ws ds (wipeE env1 ws) G1
    | .bk env1 G1 => .nx (wipeE env1 ws) G1
    | o => o
def whlL (c : Ev → Gs → Res Bool) (body : Ev → Gs → Out) (ws : List Nat) : Nat → Ev → Gs → Out
  | 0, _, _ => .no
  | n + 1, env, G => (c env G).st env fun b G => if b then (match body env G with
    | .nx env1 G1 => whlL c body ws n (wipeE env1 ws) G1
    | .ct env1 G1 => whlL c body ws n (wipeE env1 ws) G1
    | .bk env1 G1 => .nx (wipeE env1 ws) G1
    | o => o) else .nx env G
def appD (d e : D) : Option D :=
  match d with
  | .lst ds => if ds.length < LIM then some (.lst (ds ++ [e])) else none
  | _ => none
def extD (d e : D) : Option D :=
  match d, e with
  | .lst ds, .lst es => if ds.length + es.length < LIM then some (.lst (ds ++ es)) else none
  | .lst ds, .tup true es => if ds.length + es.length < LIM then some (.lst (ds ++ es)) else none
  | _, _ => none
def ownL (env : Ev) (i : Nat) : Bool :=
  match env[i]? with
  | some (.own (.lst _)) => true
  | _ => false
def ownC (env : Ev) (i : Nat) : Bool :=
  match env[i]? with
  | some (.own _) => true
  | _ => false
def setD (d k v : D) : Option D :=
  match d with
  | .lst ds => (match k with
    | .int i => (ixN ds.length i).map fun j => .lst (ds.set j v)
    | _ => none)
  | .dK ks vs => (keyOf k).bind fun k => if ks.length < LIM then some (.dK (putP ks vs k v).1 (putP ks vs k v).2) else none
  | .dT ks vs => (tkeyOf k).bind fun k => if ks.length < LIM then some (.dT (putP ks vs k v).1 (putP ks vs k v).2) else none
  | _ => none
def insD (d k v : D) : Option D :=
  match d, k with
  | .lst ds, .int i => if ds.length < LIM ∧ 0 ≤ i ∧ i < LIM then some (.lst (ds.take i.toNat ++ [v] ++ ds.drop i.toNat)) else none
  | _, _ => none
/-- l.pop(k): the item, the rest -/
def popD (d k : D) : Option (D × D) :=
  match d, k with
  | .lst ds, .int i => if -LIM ≤ i ∧ i < LIM then (ixN ds.length i).bind fun j => ds[j]?.map fun x => (x, .lst (ds.eraseIdx j)) else none
  | _, _ => none
def ownSet (env : Ev) (i : Nat) (f : D → Option D) : Option Ev :=
  match env[i]? with
  | some (.own d) => (f d).map fun e => env.set i (.own e)
  | _ => none
def WFUEL : Nat := 100000

def hev : HE → Ev → Option D
  | .non, _ => some .non
  | .bl b, _ => some (.bl b)
  | .int i, _ => some (.int i)
  | .str x, _ => some (.str x)
  | .var i _, env => (match env[i]? with
    | some (.val d) => some d
    | _ => none)
  | .isx _, _ => some (.bl true)
  | .and a b, env => (match hev a env with
    | some (.bl true) => hev b env
    | some (.bl false) => some (.bl false)
    | _ => none)
  | .int1 a, env => (match hev a env with
    | some (.bl b) => some (.int (if b then 1 else 0))
    | some (.int i) => some (.int i)
    | _ => none)
  | .add a b, env => (match hev a env, hev b env with
    | some (.int i), some (.int j) => some (.int (i + j))
    | _, _ => none)
  | .ife _ a _, env => hev a env
def offC (env : Ev) : Option (Nat × Str) → Ev
  | none => env
  | some (i, _) => env.set i .un
def okC (env : Ev) : Option (Nat × Str) → Bool
  | none => true
  | some (i, _) => decide (i < env.length)
/-- a clause is run -/
def hx (k : Cl) (env : Ev) (G : Gs) : Out :=
  if okC env k.nm = false then .no else
  match k.h with
  | .retN => .rt .non G
  | .ret e => (match hev e (offC env k.nm) with
    | some d => .rt d G
    | none => .no)
  | .asg j _ e => (match hev e (offC env k.nm) with
    | some d => .nx ((offC env k.nm).set j (.val d)) G
    | none => .no)
  | .pick ss e => (match hev e (offC env k.nm) with
    | some (.int i) => (match atI ss i with
      | some x => .rt (.str x) G
      | none => .no)
    | _ => .no)
def tryR (cs : List Cl) : Out → Out
  | .ex c env G => (match cs.find? fun k => decide (k.c = c) with
    | some k => hx k env G
    | none => .no)
  | o => o
mutual
def exec (cf : CallF) : S → Ev → Gs → Out
  | .pass, env, G => .nx env G
  | .doc, env, G => .nx env G
  | .cont, env, G => .ct env G
  | .brk, env, G => .bk env G
  | .retN, env, G => .rt .non G
  | .asg t e, env, G => (ev cf e env G).st env fun d G => nxO (setTg t d env) G
  | .asgF i _ e, env, G => (ev cf e env G).st env fun d G => .nx (env.set i (.own d)) G
  | .frz i, env, G => match env[i]? with
    | some (.own d) => .nx (env.set i (.val d)) G
    | _ => .no
  | .app i _ e, env, G => if ownL env i then (ev cf e env G).st env fun d G => nxO (ownSet env i (appD · d)) G else .no
  | .ext i _ e, env, G => if ownL env i then (ev cf e env G).st env fun d G => nxO (ownSet env i (extD · d)) G else .no
  | .ins i _ k e, env, G => if ownL env i then (ev cf k env G).st env fun k G => (ev cf e env G).st env fun d G => nxO (ownSet env i (insD · k d)) G else .no
  | .asgPop i _ j _ k, env, G => if ownL env j && !(i == j) then (ev cf k env G).st env fun k G => (match env[j]? with
    | some (.own d) => (match popD d k with
      | some (x, r) => .nx ((env.set j (.own r)).set i (.val x)) G
      | none => .no)
    | _ => .no) else .no
  | .pop i _ k, env, G => (ev cf k env G).st env fun k G => nxO (ownSet env i fun d => (popD d k).map (·.2)) G
  | .appPop i _ j _ k, env, G => if ownL env i && ownL env j && !(i == j) then (ev cf k env G).st env fun k G => (match env[j]? with
    | some (.own d) => (match popD d k with
      | some (x, r) => nxO (ownSet (env.set j (.own r)) i (appD · x)) G
      | none => .no)
    | _ => .no) else .no
  | .seti i _ k e, env, G => if ownC env i then (ev cf e env G).st env fun d G => (ev cf k env G).st env fun k G => nxO (ownSet env i (setD · k d)) G else .no
  | .setg a k e, env, G => (ev cf e env G).st env fun d G => (ev cf a env G).st env fun x G => (ev cf k env G).st env fun k G => match x with
    | .glob n => (match G[n]?, k with
      | some (.lst ds), .int i => (match ixN ds.length i with
        | some j => if flat d then .nx env (G.set n (.lst (ds.set j d))) else .no
        | none => .no)
      | _, _ => .no)
    | _ => .no
  | .aug i _ e, env, G => match env[i]? with
    | some (.val (.int x)) => (ev cf e env G).st env fun y G => (match y with
      | .int y => .nx (env.set i (.val (.int (x + y)))) G
      | _ => .no)
    | _ => .no
  | .augi i _ k e, env, G => if ownL env i then (ev cf k env G).st env fun k G => (match env[i]?, k with
    | some (.own (.lst ds)), .int j => (match atI ds j with
      | some (.int x) => (ev cf e env G).st env fun y G => (match y with
        | .int y => nxO (ownSet env i (setD · (.int j) (.int (x + y)))) G
        | _ => .no)
      | _ => .no)
    | _, _ => .no) else .no
  | .ex e, env, G => (ev cf e env G).st env fun _ G => .nx env G
  | .ret e, env, G => (ev cf e env G).st env fun d G => .rt d G
  | .ite c a b, env, G => (tv cf c env G).st env fun x G => if x then execs cf a env G else execs cf b env G
  | .for_ t it body ws, env, G => (evI cf it env G).st env fun items G =>
      forL (fun d env G => match setTg t d env with
        | some env1 => execs cf body env1 G
        | none => .no) ws items (wipeE env ws) G
  | .whl c body ws, env, G => whlL (tv cf c) (execs cf body) ws WFUEL (wipeE env ws) G
  | .rais c _, env, G => .ex c env G
  | .try_ b cs, env, G => tryR cs (execs cf b env G)
def execs (cf : CallF) : Ss → Ev → Gs → Out
  | .nil, env, G => .nx env G
  | .cons s ss, env, G => (exec cf s env G).seq fun env G => execs cf ss env G
end

def Out.fin : Out → Res D
  | .nx _ G => .ok .non G
  | .rt d G => .ok d G
  | .ex c _ G => .ex c G
  | _ => .no
def startE (n : Nat) (ds : List D) : Ev := ds.map .val ++ List.replicate (n - ds.length) .un
/-- data that are no list and no dict of one's own -/
def notCol : D → Bool
  | .lst _ => false
  | .dK _ _ => false
  | .dT _ _ => false
  | _ => true
def frOk (fr : Bool) (r : Res D) : Res D :=
  match r with
  | .ok d G => if fr && notCol d then .no else .ok d G
  | r => r
def callN (P : Prog) : Nat → CallF
  | 0 => fun _ _ _ => .no
  | n + 1 => fun f ds G => match P f with
    | some fd => if ds.length = fd.ps.length then frOk fd.fr (execs (callN P n) fd.body (startE fd.N.length ds) G).fin else .no
    | none => .no
end MP

namespace MP
open PySem PySem.Spec PyProof.Rows L2

/-! ### the check: the model's tree is the mini-language's -/
structure Tb where
  P : Prog
  cl : ClsOf
  cn : Str → Option D

def visB (sc : Scope) (x : Str) : Bool := match sc.names.lookup x with
  | some .local => true
  | some .cell => true
  | some .free => true
  | _ => false
def glB (sc : Scope) (x : Str) : Bool := match sc.names.lookup x with
  | some .globalImplicit => true
  | _ => false
/-- the name may be stored here -/
def stoB (sc : Scope) (fb : Str → Bool) (x : Str) : Bool := match sc.names.lookup x with
  | some .local => true
  | some .cell => fb x
  | _ => false
def nmB (x : Str) : Bool := !(x == ("__debug__" : Str)) && !(x == ("__classdict__" : Str)) && !(x == ("__name__" : Str))
def noStar : Expr → Bool
  | .Starred _ _ => false
  | _ => true
def noSlice : Expr → Bool
  | .Slice _ _ _ _ => false
  | _ => true
def noSet : Expr → Bool
  | .Set _ _ _ => false
  | _ => true
/-- its test is its value's truth -/
def plainT : Expr → Bool
  | .UnaryOp .Not _ _ => false
  | .BoolOp _ _ _ => false
  | .IfExp _ _ _ _ => false
  | .Compare _ _ _ _ => false
  | _ => true
def noCall0 : Expr → Bool
  | .Call (.Name _ _) [] [] _ => false
  | _ => true
def bopB : BOp → Operator → Bool
  | .add, .Add => true
  | .sub, .Sub => true
  | .mul, .Mult => true
  | .fdiv, .FloorDiv => true
  | .mod, .Mod => true
  | .pow, .Pow => true
  | _, _ => false
def copB : COp → CmpOp → Bool
  | .eq, .Eq => true
  | .ne, .NotEq => true
  | .lt, .Lt => true
  | .le, .LtE => true
  | .gt, .Gt => true
  | .ge, .GtE => true
  | .isin, .In => true
  | .notin, .NotIn => true
  | .iss, .Is => true
  | .isnot, .IsNot => true
  | _, _ => false
def primB : Prim → Str × Nat
  | .len1 => ("len", 1)
  | .abs1 => ("abs", 1)
  | .int1 => ("int", 1)
  | .sum1 => ("sum", 1)
  | .all1 => ("all", 1)
  | .max1 => ("max", 1)
  | .min1 => ("min", 1)
  | .max2 => ("max", 2)
  | .min2 => ("min", 2)
  | .tuple1 => ("tuple", 1)
  | .list1 => ("list", 1)
  | .sorted1 => ("sorted", 1)
  | .dict1 => ("dict", 1)
def mthB : Mth → Str × Nat
  | .get1 => ("get", 1)
  | .get2 => ("get", 2)
  | .count1 => ("count", 1)
  | .index1 => ("index", 1)
  | .index2 => ("index", 2)
def mthOk : Mth → Bool
  | _ => true
mutual
def dbeq : D → D → Bool
  | .int i, .int j => i == j
  | .str a, .str b => a == b
  | .ctp a, .ctp b => dbeqs a b
  | _, _ => false
def dbeqs : List D → List D → Bool
  | [], [] => true
  | a :: r, b :: t => dbeq a b && dbeqs r t
  | _, _ => false
end
def isOwn : E → Bool
  | .own _ _ => true
  | _ => false
def chkTp (N : List Str) (sc : Scope) (fb : Str → Bool) : List (Nat × Str) → List Expr → Bool
  | [], [] => true
  | (i, x) :: l, .Name y _ :: es => decide (x = y) && decide (N[i]? = some x) && stoB sc fb x && chkTp N sc fb l es
  | _, _ => false
def chkTg (N : List Str) (sc : Scope) (fb : Str → Bool) : Tg → Expr → Bool
  | .nm i x, .Name y _ => decide (x = y) && decide (N[i]? = some x) && stoB sc fb x
  | .tp l, .Tuple es _ _ => chkTp N sc fb l es
  | _, _ => false
def tyNames : List Str := ["int", "bool", "tuple", "list", "str"]
def isTup : Expr → Bool
  | .Tuple _ _ _ => true
  | _ => false

def chkTvs : Tg → List (Str × Nat) → Bool
  | .nm i _, vs => (vs.map (·.2)).contains i
  | .tp l, vs => l.all fun p => (vs.map (·.2)).contains p.1

/-- written texts -/
def chkSk : Es → List (Option Expr) → Bool
  | .nil, [] => true
  | .cons (.str s) es, some (.Constant (.str t) _ _) :: l => decide (s = t) && chkSk es l
  | _, _ => false
def chkSv : Es → List Expr → Bool
  | .nil, [] => true
  | .cons (.str s) es, .Constant (.str t) _ _ :: l => decide (s = t) && chkSv es l
  | _, _ => false
section
variable (P : Prog) (cn : Str → Option D) (N : List Str)
mutual
def chkE : E → Bool → Scope → Expr → Bool
  | .var i x => fun _ sc a => match a with
    | .Name y _ => decide (x = y) && decide (N[i]? = some x) && visB sc x && nmB x
    | _ => false
  | .own i x => fun bw sc a => match a with
    | .Name y _ => bw && decide (x = y) && decide (N[i]? = some x) && visB sc x && nmB x
    | _ => false
  | .non => fun _ _ a => match a with
    | .Constant .none _ _ => true
    | _ => false
  | .bl b => fun _ _ a => match a with
    | .Constant (.bool c) _ _ => decide (b = c)
    | _ => false
  | .int i => fun _ _ a => match a with
    | .Constant (.int j) _ _ => decide (i = j)
    | _ => false
  | .str s => fun _ _ a => match a with
    | .Constant (.str t) _ _ => decide (s = t)
    | _ => false
  | .glb x d => fun _ sc a => match a with
    | .Name y _ => decide (x = y) && glB sc x && nmB x && (match cn x with
      | some e => dbeq d e
      | none => false)
    | _ => false
  | .tup _ es => fun _ sc a => match a with
    | .Tuple l _ _ => chkEs es false sc l && decide (l.length ≤ 1000)
    | _ => false
  | .lst es => fun _ sc a => match a with
    | .List l _ => chkEs es false sc l && decide (l.length ≤ 1000)
    | _ => false
  | .disp ks vs => fun _ sc a => match a with
    | .Dict l m _ => chkSk ks l && chkSv vs m && decide (1 ≤ l.length) && decide (l.length ≤ 15) && decide (l.length = m.length)
    | _ => false
  | .dK0 => fun _ _ a => match a with
    | .Dict [] [] _ => true
    | _ => false
  | .dT0 => fun _ _ a => match a with
    | .Dict [] [] _ => true
    | _ => false
  | .bin o x y => fun _ sc a => match a with
    | .BinOp l p r _ => bopB o p && chkE x true sc l && chkE y true sc r
    | _ => false
  | .cat x y => fun _ sc a => match a with
    | .BinOp l .Add r _ => chkE x true sc l && chkE y true sc r
    | _ => false
  | .rep x y => fun _ sc a => match a with
    | .BinOp l .Mult r _ => chkE x true sc l && chkE y true sc r
    | _ => false
  | .neg x => fun _ sc a => match a with
    | .UnaryOp .USub l _ => chkE x true sc l
    | _ => false
  | .not x => fun _ sc a => match a with
    | .UnaryOp .Not l _ => chkE x true sc l
    | _ => false
  | .cmp o x y => fun _ sc a => match a with
    | .Compare l [p] [r] _ => copB o p && chkE x true sc l && chkE y true sc r && !behindInMarks p r
    | _ => false
  | .chn o o' x y z => fun _ sc a => match a with
    | .Compare l [p, p'] [r, r'] _ => copB o p && copB o' p' && chkE x false sc l && chkE y false sc r && chkE z false sc r' && !lastMarks [p, p'] [r, r']
    | _ => false
  | .and es => fun _ sc a => match a with
    | .BoolOp .And l _ => chkEs es true sc l
    | _ => false
  | .or es => fun _ sc a => match a with
    | .BoolOp .Or l _ => chkEs es true sc l
    | _ => false
  | .ife c x y => fun _ sc a => match a with
    | .IfExp t l r _ => chkE c true sc t && chkE x false sc l && chkE y false sc r
    | _ => false
  | .idx x y => fun _ sc a => match a with
    | .Subscript l r _ => chkE x true sc l && chkE y false sc r && noSlice r
    | _ => false
  | .slc x lo hi => fun _ sc a => match a with
    | .Subscript l (.Slice u v none _) _ => chkE x true sc l && chkEo lo sc u && chkEo hi sc v
    | _ => false
  | .rev x => fun _ sc a => match a with
    | .Subscript l (.Slice none none (some (.UnaryOp .USub (.Constant (.int i) _ _) _)) _) _ => decide (i = 1) && chkE x true sc l
    | _ => false
  | .call fr f es => fun _ sc a => match a with
    | .Call (.Name y _) l [] _ => decide (f = y) && glB sc f && nmB f && chkEs es true sc l && (match P f with
      | some fd => decide (fd.fr = fr)
      | none => false)
    | _ => false
  | .prim p es => fun _ sc a => match a with
    | .Call (.Name y _) l [] _ => decide ((primB p).1 = y) && decide (l.length = (primB p).2) && glB sc y && chkEs es true sc l
    | _ => false
  | .mth m x es => fun _ sc a => match a with
    | .Call (.Attribute o y apos) l [] cpos => decide ((mthB m).1 = y) && decide (l.length = (mthB m).2) && chkE x true sc o && chkEs es false sc l && noCall0 o && (apos.endLine == cpos.line) && mthOk m
    | _ => false
  | .isi x t => fun _ sc a => match a with
    | .Call (.Name y _) [l, .Name u _] [] _ => decide (("isinstance" : Str) = y) && glB sc y && decide (t = u) && glB sc t && tyNames.any (fun z => decide (z = t)) && chkE x true sc l && noStar l
    | _ => false
  | .srtset x => fun _ sc a => match a with
    | .Call (.Name y _) [.Call (.Name u _) [l] [] _] [] _ => decide (("sorted" : Str) = y) && glB sc y && decide (("set" : Str) = u) && glB sc u && chkE x true sc l && noStar l
    | _ => false
  | .lrng es => fun _ sc a => match a with
    | .Call (.Name y _) [.Call (.Name u _) l [] _] [] _ => decide (("list" : Str) = y) && glB sc y && decide (("range" : Str) = u) && glB sc u && chkEs es false sc l && decide (l.length ≤ 2) && decide (1 ≤ l.length)
    | _ => false
  | .dzip _ _ => fun _ _ _ => false
  | .comp e t it c vs => fun _ sc a => match a with
    | .ListComp elt [⟨tg, iter, ifs, isA⟩] scope _ => decide (isA = 0) && blkC N sc scope vs && chkTg N (relS scope sc) (fun x => scope.names.lookup x == some .cell) t tg && chkI it true sc iter tg && chkTvs t vs &&
      chkE e false (relS scope sc) elt && chkIf c (relS scope sc) ifs && noSet iter
    | _ => false
  | .dcomp k v t it vs => fun _ sc a => match a with
    | .DictComp kx vx [⟨tg, iter, [], isA⟩] scope _ => decide (isA = 0) && blkC N sc scope vs && chkTg N (relS scope sc) (fun x => scope.names.lookup x == some .cell) t tg && chkI it true sc iter tg && chkTvs t vs &&
      chkE k false (relS scope sc) kx && chkE v false (relS scope sc) vx && noSet iter
    | _ => false
  | .newc es => fun _ sc a => match a with
    | .List l _ => chkEs es false sc l && decide (l.length ≤ 1000)
    | _ => false
def chkEs : Es → Bool → Scope → List Expr → Bool
  | .nil => fun _ _ l => l.isEmpty
  | .cons e es => fun bw sc l => match l with
    | x :: l => chkE e bw sc x && noStar x && chkEs es bw sc l
    | _ => false
def chkEo : Eo → Scope → Option Expr → Bool
  | .no => fun _ x => x.isNone
  | .so e => fun sc x => match x with
    | some x => chkE e false sc x
    | none => false
def chkIf : Eo → Scope → List Expr → Bool
  | .no => fun _ l => l.isEmpty
  | .so e => fun sc l => match l with
    | [x] => chkE e true sc x
    | _ => false
def chkI : Src → Bool → Scope → Expr → Expr → Bool
  | .seq e => fun bw sc x _ => chkE e bw sc x
  | .rng es => fun _ sc x _ => match x with
    | .Call (.Name y _) l [] _ => decide (("range" : Str) = y) && glB sc y && chkEs es false sc l && decide (1 ≤ l.length) && decide (l.length ≤ 3)
    | _ => false
  | .enum e => fun bw sc x tg => match x with
    | .Call (.Name y _) [x] [] _ => decide (("enumerate" : Str) = y) && glB sc y && chkE e bw sc x && noStar x && isTup tg
    | _ => false
  | .zip a b => fun bw sc x tg => match x with
    | .Call (.Name y _) [x, u] [] _ => decide (("zip" : Str) = y) && glB sc y && chkE a bw sc x && chkE b bw sc u && noStar x && noStar u && isTup tg
    | _ => false
  | .items e => fun bw sc x tg => match x with
    | .Call (.Attribute o y apos) [] [] cpos => !bw && decide (("items" : Str) = y) && chkE e false sc o && fresh e && noCall0 o && (apos.endLine == cpos.line) && isTup tg
    | _ => false
end
end
end MP

namespace MP
open PySem PySem.Spec PyProof.Rows L2

theorem LIM_line : LIM < sizeLine := by rw [sizeLine_eq]; decide
section
variable {K : Fg} {cl : ClsOf} {ms ms' : List Addr} {Z Z' H H' : Hp} {G G' : Gs} {v x y : V} {ds es : List D} {d e : D}

/-! ### reading data off the heap -/
theorem Zin.lst {a : Addr} {xs : List V} (h : Zin H a (.lst xs)) : H a = some (.lst xs) := by
  rcases h with h | ⟨d, _⟩
  · exact h
  · exact absurd d (by simp [isDic])
theorem Zin.tup {a : Addr} {xs : List V} (h : Zin H a (.tup xs)) : H a = some (.tup xs) := by
  rcases h with h | ⟨d, _⟩
  · exact h
  · exact absurd d (by simp [isDic])
theorem Zin.frz {a : Addr} {o : Obj} {u : HO} (h : Zin H a (.frz o u)) : H a = some (.frz o u) := by
  rcases h with h | ⟨d, _⟩
  · exact h
  · exact absurd d (by simp [isDic])
theorem Zin.rd {a : Addr} {u : HO} (h : Zin H a u) : Rd H a u := by
  rcases h with h | ⟨_, ob, h⟩
  · exact .inl h
  · exact .inr ⟨ob, h⟩
theorem BRep.lst (w : WOk K cl ms Z H G) (h : BRep K ms Z H (.lst ds) v) : ∃ a xs, v = .ref a ∧ H a = some (.lst xs) ∧ Reps K ms Z ds xs := by
  rcases h with h | ⟨a, rfl, _, _, h⟩
  · simp only [Rep] at h
    obtain ⟨a, xs, rfl, z, r⟩ := h
    exact ⟨a, xs, rfl, (w.zs _ _ z).lst, r⟩
  · simp only [OwnAt] at h
    obtain ⟨xs, h1, h2⟩ := h
    exact ⟨a, xs, rfl, h1, h2⟩
theorem TupZ.sq {a : Addr} {k : Bool} {xs : List V} (w : WOk K cl ms Z H G) (h : TupZ Z a k xs) : SqT K H a xs := by
  cases k with
  | false => exact .of (w.zs _ _ h).tup
  | true => obtain ⟨its, n, z⟩ := h; exact .inl (.inr ⟨_, (w.zs _ _ z).frz⟩)
theorem BRep.tup {k : Bool} (w : WOk K cl ms Z H G) (h : BRep K ms Z H (.tup k ds) v) : ∃ a xs, v = .ref a ∧ SqT K H a xs ∧ Reps K ms Z ds xs ∧ TupZ Z a k xs := by
  rcases h with h | ⟨a, rfl, _, _, h⟩
  · simp only [Rep] at h
    obtain ⟨a, xs, rfl, z, r⟩ := h
    exact ⟨a, xs, rfl, z.sq w, r, z⟩
  · simp only [OwnAt] at h
theorem BRep.dK {ks : List Key} (w : WOk K cl ms Z H G) (h : BRep K ms Z H (.dK ks ds) v) : ∃ a xs, v = .ref a ∧ ks.length = xs.length ∧ Rd H a (.dK (ks.zip xs)) ∧ Reps K ms Z ds xs := by
  rcases h with h | ⟨a, rfl, _, _, h⟩
  · simp only [Rep] at h
    obtain ⟨a, xs, rfl, l, z, r⟩ := h
    exact ⟨a, xs, rfl, l, (w.zs _ _ z).rd, r⟩
  · simp only [OwnAt] at h
    obtain ⟨xs, l, h1, h2⟩ := h
    exact ⟨a, xs, rfl, l, .inl h1, h2⟩
theorem BRep.dT {ks : List (List Key)} (w : WOk K cl ms Z H G) (h : BRep K ms Z H (.dT ks ds) v) : ∃ a xs, v = .ref a ∧ ks.length = xs.length ∧ Rd H a (.dT (ks.zip xs)) ∧ Reps K ms Z ds xs := by
  rcases h with h | ⟨a, rfl, _, _, h⟩
  · simp only [Rep] at h
    obtain ⟨a, xs, rfl, l, z, r⟩ := h
    exact ⟨a, xs, rfl, l, (w.zs _ _ z).rd, r⟩
  · simp only [OwnAt] at h
    obtain ⟨xs, l, h1, h2⟩ := h
    exact ⟨a, xs, rfl, l, .inl h1, h2⟩
theorem BRep.rep (h : BRep K ms Z H d v) (n : notCol d = true) : Rep K ms Z d v := by
  rcases h with h | ⟨a, rfl, _, _, h⟩
  · exact h
  · cases d <;> first
      | exact False.elim h
      | exact absurd (show false = true from n) Bool.false_ne_true
theorem BRep.int {i : Int} (h : BRep K ms Z H (.int i) v) : v = .int i := by
  have := h.rep rfl
  simpa only [Rep] using this
theorem BRep.bl {b : Bool} (h : BRep K ms Z H (.bl b) v) : v = .bl b := by
  have := h.rep rfl
  simpa only [Rep] using this
theorem BRep.str {s : Str} (h : BRep K ms Z H (.str s) v) : v = .str s := by
  have := h.rep rfl
  simpa only [Rep] using this
theorem BRep.non (h : BRep K ms Z H .non v) : v = .non := by
  have := h.rep rfl
  simpa only [Rep] using this
theorem BRep.scr {is : List Int} (w : WOk K cl ms Z H G) (h : BRep K ms Z H (.scr is) v) : ∃ a, v = .ref a ∧ SqL K H a (is.map V.int) := by
  have := h.rep rfl
  simp only [Rep] at this
  obtain ⟨a, e, s⟩ := this
  refine ⟨a, e, ?_⟩
  rcases s with (s | ⟨o, s⟩) | s
  · exact .inl (.inl (w.zs _ _ s).lst)
  · exact .inl (.inr ⟨o, (w.zs _ _ s).frz⟩)
  · exact .inr s
theorem BRep.ctp (w : WOk K cl ms Z H G) (h : BRep K ms Z H (.ctp ds) v) : ∃ a xs, v = .ref a ∧ SqT K H a xs ∧ Reps K ms Z ds xs := by
  have := h.rep rfl
  simp only [Rep] at this
  obtain ⟨a, xs, e, s, r⟩ := this
  refine ⟨a, xs, e, ?_, r⟩
  rcases s with (s | ⟨o, s⟩) | s
  · cases s
  · cases s
  · exact .inr s
theorem BRep.of (h : Rep K ms Z d v) : BRep K ms Z H d v := .inl h

/-! ### plain data, as the library reads them -/
mutual
theorem okD_lay : ∀ (n : Nat) (d : D), okD n d = true → PyData.canLay0 (py d) = true ∧ (py d).depth ≤ n
  | n, .non, _ => by cases n <;> simp [py, PyData.canLay0, PyData.depth]
  | n, .bl _, _ => by cases n <;> simp [py, PyData.canLay0, PyData.depth]
  | n, .int _, _ => by cases n <;> simp [py, PyData.canLay0, PyData.depth]
  | n, .str s, h => by cases n <;> simpa [py, PyData.canLay0, PyData.depth, okD] using h
  | n + 1, .tup _ ds, h => by
    have := okDs_lay n ds (by simpa [okD] using h)
    simp only [py, PyData.canLay0, PyData.depth]
    exact ⟨this.1, by omega⟩
  | n + 1, .lst ds, h => by
    have := okDs_lay n ds (by simpa [okD] using h)
    simp only [py, PyData.canLay0, PyData.depth]
    exact ⟨this.1, by omega⟩
  | 0, .tup _ _, h => by simp [okD] at h
  | 0, .lst _, h => by simp [okD] at h
  | n, .dK _ _, h => by cases n <;> simp [okD] at h
  | n, .dT _ _, h => by cases n <;> simp [okD] at h
  | n, .scr _, h => by cases n <;> simp [okD] at h
  | n, .glob _, h => by cases n <;> simp [okD] at h
  | n, .ctp _, h => by cases n <;> simp [okD] at h
theorem okDs_lay : ∀ (n : Nat) (ds : List D), okDs n ds = true → PyData.canLayAll0 (pys ds) = true ∧ PyData.depthAll (pys ds) ≤ n
  | n, [], _ => by simp [pys, PyData.canLayAll0, PyData.depthAll]
  | n, d :: ds, h => by
    rw [okDs, Bool.and_eq_true] at h
    have h1 := okD_lay n d h.1
    have h2 := okDs_lay n ds h.2
    simp only [pys, PyData.canLayAll0, PyData.depthAll]
    exact ⟨by rw [h1.1, h2.1]; rfl, by omega⟩
end
theorem plain_shaped (h : plain d = true) : SeqAt.shaped (py d) = true := by
  obtain ⟨h1, h2⟩ := okD_lay 40 d h
  show ((py d).canLay0 && decide ((py d).depth ≤ 64)) = true
  rw [h1, decide_eq_true (by omega)]; rfl
theorem okDs_shaped (h : okDs 40 ds = true) : SeqAt.shaped (.list (pys ds)) = true := by
  obtain ⟨h1, h2⟩ := okDs_lay 40 ds h
  have e1 : (PyData.list (pys ds)).canLay0 = true := by simpa only [PyData.canLay0] using h1
  have e2 : (PyData.list (pys ds)).depth ≤ 64 := by simp only [PyData.depth]; omega
  show ((PyData.list (pys ds)).canLay0 && decide ((PyData.list (pys ds)).depth ≤ 64)) = true
  rw [e1, decide_eq_true e2]; rfl
theorem okDs_shapedT (h : okDs 40 ds = true) : SeqAt.shaped (.tuple (pys ds)) = true := by
  obtain ⟨h1, h2⟩ := okDs_lay 40 ds h
  have e1 : (PyData.tuple (pys ds)).canLay0 = true := by simpa only [PyData.canLay0] using h1
  have e2 : (PyData.tuple (pys ds)).depth ≤ 64 := by simp only [PyData.depth]; omega
  show ((PyData.tuple (pys ds)).canLay0 && decide ((PyData.tuple (pys ds)).depth ≤ 64)) = true
  rw [e1, decide_eq_true e2]; rfl
mutual
theorem Rep.dp (w : WOk K cl ms Z H G) : ∀ (n : Nat) (d : D) (v : V), okD n d = true → Rep K ms Z d v → Dp K H v (py d)
  | n, .non, v, _, h => by simp only [Rep] at h; subst h; simpa only [py] using Dp.non
  | n, .bl b, v, _, h => by simp only [Rep] at h; subst h; simpa only [py] using Dp.bl b
  | n, .int b, v, _, h => by simp only [Rep] at h; subst h; simpa only [py] using Dp.int b
  | n, .str b, v, _, h => by simp only [Rep] at h; subst h; simpa only [py] using Dp.str b
  | n + 1, .tup _ ds, v, h, r => by
    simp only [Rep] at r
    obtain ⟨a, xs, rfl, z, r⟩ := r
    simp only [py]
    exact .tup (z.sq w) (Reps.dp w n ds xs (by simpa [okD] using h) r)
  | n + 1, .lst ds, v, h, r => by
    simp only [Rep] at r
    obtain ⟨a, xs, rfl, z, r⟩ := r
    simp only [py]
    exact .lst (.of (w.zs _ _ z).lst) (Reps.dp w n ds xs (by simpa [okD] using h) r)
  | 0, .tup _ _, v, h, _ => by simp [okD] at h
  | 0, .lst _, v, h, _ => by simp [okD] at h
  | n, .dK _ _, v, h, _ => by cases n <;> simp [okD] at h
  | n, .dT _ _, v, h, _ => by cases n <;> simp [okD] at h
  | n, .scr _, v, h, _ => by cases n <;> simp [okD] at h
  | n, .glob _, v, h, _ => by cases n <;> simp [okD] at h
  | n, .ctp _, v, h, _ => by cases n <;> simp [okD] at h
theorem Reps.dp (w : WOk K cl ms Z H G) : ∀ (n : Nat) (ds : List D) (xs : List V), okDs n ds = true → Reps K ms Z ds xs → DpAll K H xs (pys ds)
  | n, [], xs, _, r => by simp only [Reps] at r; subst r; simpa only [pys] using DpAll.nil
  | n, d :: ds, xs, h, r => by
    rw [okDs, Bool.and_eq_true] at h
    obtain ⟨x, t, rfl, r1, r2⟩ := Reps.cons_inv r
    simp only [pys]
    exact .cons (Rep.dp w n d x h.1 r1) (Reps.dp w n ds t h.2 r2)
end
theorem BRep.dp (w : WOk K cl ms Z H G) (h : plain d = true) (r : BRep K ms Z H d v) : Dp K H v (py d) := by
  by_cases q : ∃ ds, d = .lst ds
  · obtain ⟨ds, rfl⟩ := q
    obtain ⟨a, xs, rfl, z, r⟩ := r.lst w
    simp only [py]
    exact .lst (.of z) (Reps.dp w 39 ds xs (by simpa [plain, okD] using h) r)
  · refine Rep.dp w 40 d v h (r.rep ?_)
    cases d <;> first
      | rfl
      | exact absurd ⟨_, rfl⟩ q
      | exact absurd h (by simp [plain, okD])
theorem any_pys (a : D) : ∀ ds : List D, (pys ds).any (fun z => PyData.eqv z (py a)) = ds.any fun z => deq z a
  | [] => rfl
  | d :: ds => by simp only [pys, List.any_cons, any_pys a ds, deq]

/-! ### keys -/
theorem keyOf_v {k : Key} (h : keyOf d = some k) (r : Rep K ms Z d v) : v = kV k := by
  cases d <;> simp only [keyOf] at h <;> first
    | (cases h; done)
    | (cases h; simp only [Rep] at r; exact r)
theorem keysOf_v : ∀ {ds : List D} {ks : List Key} {xs : List V}, keysOf ds = some ks → Reps K ms Z ds xs → xs = ks.map kV
  | [], ks, xs, h, r => by simp only [keysOf] at h; cases h; simp only [Reps] at r; exact r
  | d :: ds, ks, xs, h, r => by
    simp only [keysOf] at h
    obtain ⟨x, t, rfl, r1, r2⟩ := Reps.cons_inv r
    cases e : keyOf d with
    | none => rw [e] at h; cases h
    | some k =>
      rw [e] at h
      cases e2 : keysOf ds with
      | none => rw [e2] at h; cases h
      | some l =>
        rw [e2] at h; cases h
        rw [keyOf_v e r1, keysOf_v e2 r2]; rfl
theorem tkeyOf_v {ks : List Key} (w : WOk K cl ms Z H G) (h : tkeyOf d = some ks) (r : Rep K ms Z d v) : ∃ b, v = .ref b ∧ H b = some (.tup (ks.map kV)) := by
  unfold tkeyOf at h
  split at h
  · simp only [Rep] at r
    obtain ⟨a, xs, rfl, z, r⟩ := r
    rw [keysOf_v h r] at z
    exact ⟨a, rfl, (w.zs _ _ z).tup⟩
  · cases h
/-- both or none -/
def RelOD (K : Fg) (ms : List Addr) (Z : Hp) : Option D → Option V → Prop
  | some d, some v => Rep K ms Z d v
  | none, none => True
  | _, _ => False
theorem lookP_v {κ : Type} [DecidableEq κ] : ∀ {ks : List κ} {vs : List D} {xs : List V} (k : κ), ks.length = xs.length → Reps K ms Z vs xs → RelOD K ms Z (lookP ks vs k) (valV (ks.zip xs) k)
  | [], vs, xs, k, _, _ => by cases vs <;> simp [lookP, valV, RelOD]
  | j :: ks, vs, [], k, h, _ => by simp at h
  | j :: ks, [], x :: xs, k, h, r => by simp [Reps] at r
  | j :: ks, v :: vs, x :: xs, k, h, r => by
    obtain ⟨y, t, e, r1, r2⟩ := Reps.cons_inv r
    cases e
    rw [List.zip_cons_cons]
    by_cases q : j = k
    · rw [valV_pos q, lookP, if_pos q]; exact r1
    · rw [valV_neg q, lookP, if_neg q]; exact lookP_v k (by simpa using h) r2
end
end MP

namespace MP
open PySem PySem.Spec PyProof.Rows L2

/-! ### readings by the evaluator -/
abbrev WK := Str → Sg → Hp → Prop
abbrev RelT (α β : Type) := List Addr → Hp → Hp → Hp → α → β → Prop
inductive Md where
  | gen | frs | bor
def MRep (K : Fg) : Md → RelT D V
  | .gen => fun ms Z _ _ d v => Rep K ms Z d v
  | .frs => fun ms Z H H0 d v => ∃ a, v = .ref a ∧ H0 a = none ∧ Z a = none ∧ a ∉ ms ∧ OwnAt K ms Z H a d
  | .bor => fun ms Z H _ d v => BRep K ms Z H d v
def BReps (K : Fg) (ms : List Addr) (Z H : Hp) : List D → List V → Prop
  | [], xs => xs = []
  | d :: ds, xs => ∃ x r, xs = x :: r ∧ BRep K ms Z H d x ∧ BReps K ms Z H ds r
def LRep (K : Fg) : Bool → RelT (List D) (List V)
  | true => fun ms Z H _ ds xs => BReps K ms Z H ds xs
  | false => fun ms Z _ _ ds xs => Reps K ms Z ds xs
def EqR {α : Type} : RelT α α := fun _ _ _ _ a b => a = b
def Shift {α β : Type} (rel : RelT α β) : Prop := ∀ ms Z H H0 H1 a b, (∀ a o, H0 a = some o → ∃ o', H1 a = some o') → rel ms Z H H1 a b → rel ms Z H H0 a b

def PostR {α β : Type} (K : Fg) (cl : ClsOf) (W : WK) (rel : RelT α β) (σ : Sg) (ms : List Addr) (Z H : Hp) (r : Res α) (Q : β → Hp → Prop) : Prop :=
  match r with
  | .ok a G' => ∀ b ms' Z' H', Grow ms Z H ms' Z' H' → WOk K cl ms' Z' H' G' → rel ms' Z' H' H a b → Q b H'
  | .ex c G' => ∀ ms' Z' H', Grow ms Z H ms' Z' H' → WOk K cl ms' Z' H' G' → W c σ H'
  | .no => False
def tR {α β : Type} (K : Fg) (cl : ClsOf) (W : WK) (rel : RelT α β) (f : Ev → Gs → Res α) : Sg → Hp → (β → Hp → Prop) → Prop :=
  fun σ H Q => ∃ ms Z G env, WOk K cl ms Z H G ∧ SlotsOk K ms Z H σ env ∧ PostR K cl W rel σ ms Z H (f env G) Q
abbrev tE (K : Fg) (cl : ClsOf) (W : WK) (m : Md) (f : Ev → Gs → Res D) : TE := tR K cl W (MRep K m) f

section
variable {K : Fg} {cl : ClsOf} {W : WK} {ms ms1 ms' : List Addr} {Z Z1 Z' H H1 H' H0 : Hp} {G G1 G' : Gs} {σ : Sg} {env : Ev} {α β γ δ : Type} {rel : RelT α β} {rel2 : RelT γ δ}

theorem shift_m (m : Md) : Shift (MRep K m) := by
  intro ms Z H H0 H1 a b h r
  cases m with
  | gen => exact r
  | bor => exact r
  | frs =>
    obtain ⟨p, e, n, z⟩ := r
    refine ⟨p, e, ?_, z⟩
    cases q : H0 p with
    | none => rfl
    | some o =>
      obtain ⟨o', q'⟩ := h p o q
      rw [n] at q'; cases q'
theorem shift_l (bw : Bool) : Shift (LRep K bw) := by
  intro ms Z H H0 H1 a b h r
  cases bw <;> exact r
theorem shift_eq : Shift (EqR (α := α)) := fun _ _ _ _ _ _ _ _ r => r

theorem PostR.mono {r : Res α} {Q Q' : β → Hp → Prop} (p : PostR K cl W rel σ ms Z H r Q) (h : ∀ b H', Q b H' → Q' b H') : PostR K cl W rel σ ms Z H r Q' := by
  cases r with
  | ok a G' => exact fun b ms' Z' H' g w r => h b H' (p b ms' Z' H' g w r)
  | ex c G' => exact p
  | no => exact p
theorem PostR.shift {r : Res α} {Q : β → Hp → Prop} (p : PostR K cl W rel σ ms Z H r Q) (sh : Shift rel) (g : Grow ms Z H ms1 Z1 H1) (w : WOk K cl ms1 Z1 H1 G1) : PostR K cl W rel σ ms1 Z1 H1 r Q := by
  cases r with
  | ok a G' => exact fun b ms' Z' H' g' w' r => p b ms' Z' H' (g.trans g' w w') w' (sh _ _ _ _ _ _ _ g.hk r)
  | ex c G' => exact fun ms' Z' H' g' w' => p ms' Z' H' (g.trans g' w w') w'
  | no => exact p
/-- the first step of an evaluation -/
theorem tR.bind {f : Ev → Gs → Res α} {k : α → Gs → Res γ} {Q2 : δ → Hp → Prop} {Q1 : β → Hp → Prop} (w : WOk K cl ms Z H G) (s : SlotsOk K ms Z H σ env)
    (p : PostR K cl W rel2 σ ms Z H ((f env G).bind k) Q2) (sh : Shift rel2)
    (h : ∀ b ms1 Z1 H1 G1 a, f env G = .ok a G1 → Grow ms Z H ms1 Z1 H1 → WOk K cl ms1 Z1 H1 G1 → SlotsOk K ms1 Z1 H1 σ env → rel ms1 Z1 H1 H a b → PostR K cl W rel2 σ ms1 Z1 H1 (k a G1) Q2 → Q1 b H1) :
    tR K cl W rel f σ H Q1 := by
  refine ⟨ms, Z, G, env, w, s, ?_⟩
  cases e : f env G with
  | ok a G1 =>
    rw [e] at p
    exact fun b ms1 Z1 H1 g1 w1 r1 => h b ms1 Z1 H1 G1 a e g1 w1 (s.grow g1) r1 (PostR.shift p sh g1 w1)
  | ex c G1 => rw [e] at p; exact p
  | no => rw [e] at p; exact p
/-- .. as it is -/
theorem tR.same {f : Ev → Gs → Res α} {Q : β → Hp → Prop} (w : WOk K cl ms Z H G) (s : SlotsOk K ms Z H σ env) (p : PostR K cl W rel σ ms Z H (f env G) Q) : tR K cl W rel f σ H Q := ⟨ms, Z, G, env, w, s, p⟩
theorem tR.imp {f : Ev → Gs → Res α} {Q Q' : β → Hp → Prop} (t : tR K cl W rel f σ H Q) (h : ∀ b H', Q b H' → Q' b H') : tR K cl W rel f σ H Q' := by
  obtain ⟨ms, Z, G, env, w, s, p⟩ := t
  exact ⟨ms, Z, G, env, w, s, p.mono h⟩

theorem BReps.grow : ∀ {ds : List D} {xs : List V}, BReps K ms Z H ds xs → Grow ms Z H ms' Z' H' → BReps K ms' Z' H' ds xs
  | [], xs, h, _ => h
  | d :: ds, xs, h, g => by
    obtain ⟨x, r, e, h1, h2⟩ := h
    exact ⟨x, r, e, h1.grow g, h2.grow g⟩
theorem BReps.of : ∀ {ds : List D} {xs : List V}, Reps K ms Z ds xs → BReps K ms Z H ds xs
  | [], xs, h => by simp only [Reps] at h; exact h
  | d :: ds, xs, h => by
    obtain ⟨x, r, e, h1, h2⟩ := h.cons_inv
    exact ⟨x, r, e, .inl h1, BReps.of h2⟩
theorem BReps.len : ∀ {ds : List D} {xs : List V}, BReps K ms Z H ds xs → ds.length = xs.length
  | [], xs, h => by cases (show xs = [] from h); rfl
  | d :: ds, xs, h => by
    obtain ⟨x, r, rfl, _, h2⟩ := h
    simp [h2.len]

/-! ### the last step: a value as it lies, a new object -/
theorem PostR.val {d : D} {v : V} {Q : VK} (p : PostR K cl W (MRep K .gen) σ ms Z H (.ok d G) Q) (w : WOk K cl ms Z H G) (r : Rep K ms Z d v) : Q v H :=
  p v ms Z H (Grow.refl w) w r
theorem PostR.int {i : Int} {Q : VK} (p : PostR K cl W (MRep K .gen) σ ms Z H (.ok (.int i) G) Q) (w : WOk K cl ms Z H G) : Q (.int i) H := p.val w (by simp only [Rep])
theorem PostR.bl {i : Bool} {Q : VK} (p : PostR K cl W (MRep K .gen) σ ms Z H (.ok (.bl i) G) Q) (w : WOk K cl ms Z H G) : Q (.bl i) H := p.val w (by simp only [Rep])
theorem PostR.tup {ds : List D} {xs : List V} {Q : VK} (p : PostR K cl W (MRep K .gen) σ ms Z H (.ok (.tup false ds) G) Q) (w : WOk K cl ms Z H G) (r : Reps K ms Z ds xs) (q : Addr) (n : H q = none) : Q (.ref q) (upd H q (.tup xs)) :=
  p _ ms (upd Z q (.tup xs)) _ (Grow.tup w n xs) (w.tup n xs) (Rep.tupNew r (w.zfresh n))
theorem PostR.tupF {ds : List D} {xs : List V} {Q : VK} (its : Array Value) (k : Nat) (p : PostR K cl W (MRep K .gen) σ ms Z H (.ok (.tup true ds) G) Q) (w : WOk K cl ms Z H G) (r : Reps K ms Z ds xs) (q : Addr) (n : H q = none) :
    Q (.ref q) (upd H q (.frz { cls := .type "tuple", data := .seq its k } (.tup xs))) := by
  refine p _ ms (upd Z q (.frz { cls := .type "tuple", data := .seq its k } (.tup xs))) _ ((Grow.alloc w n _).freeze (w.alloc n _) n (w.zfresh n)) ((w.alloc n _).freeze upd_same (w.zfresh n) (w.fresh n)) ?_
  show Rep K ms _ (.tup true ds) (.ref q)
  simp only [Rep]
  exact ⟨q, xs, rfl, ⟨its, k, upd_same⟩, r.mono (upd_get (w.zfresh n)) (List.prefix_refl _)⟩
theorem PostR.lst {ds : List D} {xs : List V} {Q : VK} (p : PostR K cl W (MRep K .frs) σ ms Z H (.ok (.lst ds) G) Q) (w : WOk K cl ms Z H G) (r : Reps K ms Z ds xs) (q : Addr) (n : H q = none) : Q (.ref q) (upd H q (.lst xs)) :=
  p _ ms Z _ (Grow.alloc w n _) (w.alloc n _) ⟨q, rfl, n, w.zfresh n, w.fresh n, xs, upd_same, r⟩
theorem PostR.lstG {ds : List D} {xs : List V} {Q : VK} (p : PostR K cl W (MRep K .gen) σ ms Z H (.ok (.lst ds) G) Q) (w : WOk K cl ms Z H G) (r : Reps K ms Z ds xs) (q : Addr) (n : H q = none) : Q (.ref q) (upd H q (.lst xs)) := by
  refine p _ ms (upd Z q (.lst xs)) _ ((Grow.alloc w n (.lst xs)).freeze (w.alloc n _) n (w.zfresh n)) ((w.alloc n (.lst xs)).freeze upd_same (w.zfresh n) (w.fresh n)) ?_
  show Rep K ms _ (.lst ds) (.ref q)
  simp only [Rep]
  exact ⟨q, xs, rfl, upd_same, r.mono (upd_get (w.zfresh n)) (List.prefix_refl _)⟩
theorem PostR.dK0 {Q : VK} (p : PostR K cl W (MRep K .frs) σ ms Z H (.ok (.dK [] []) G) Q) (w : WOk K cl ms Z H G) (q : Addr) (n : H q = none) : Q (.ref q) (upd H q (.dK [])) :=
  p _ ms Z _ (Grow.alloc w n _) (w.alloc n _) ⟨q, rfl, n, w.zfresh n, w.fresh n, [], rfl, upd_same, .nil⟩
theorem PostR.dK {ks : List Key} {vs : List D} {xs : List V} {Q : VK} (p : PostR K cl W (MRep K .frs) σ ms Z H (.ok (.dK ks vs) G) Q) (w : WOk K cl ms Z H G) (l : ks.length = xs.length) (r : Reps K ms Z vs xs) (q : Addr) (n : H q = none) : Q (.ref q) (upd H q (.dK (ks.zip xs))) :=
  p _ ms Z _ (Grow.alloc w n _) (w.alloc n _) ⟨q, rfl, n, w.zfresh n, w.fresh n, xs, l, upd_same, r⟩
theorem PostR.dT0 {Q : VK} (p : PostR K cl W (MRep K .frs) σ ms Z H (.ok (.dT [] []) G) Q) (w : WOk K cl ms Z H G) (q : Addr) (n : H q = none) : Q (.ref q) (upd H q (.dT [])) :=
  p _ ms Z _ (Grow.alloc w n _) (w.alloc n _) ⟨q, rfl, n, w.zfresh n, w.fresh n, [], rfl, upd_same, .nil⟩

/-! ### from one mode to another -/
theorem gen_of_frs {r : Res D} {Q : VK} (p : PostR K cl W (MRep K .gen) σ ms Z H r Q) : PostR K cl W (MRep K .frs) σ ms Z H r Q := by
  cases r with
  | ok d G' =>
    intro v ms' Z' H' g w r
    obtain ⟨a, rfl, n, z, m, o⟩ := r
    cases d <;> first
      | exact False.elim o
      | skip
    · obtain ⟨xs, e, r⟩ := o
      refine p _ ms' (upd Z' a (.lst xs)) H' (g.freeze w n z) (w.freeze e z m) ?_
      show Rep K ms' _ _ _
      simp only [Rep]
      exact ⟨a, xs, rfl, upd_same, r.mono (upd_get z) (List.prefix_refl _)⟩
    · obtain ⟨xs, l, e, r⟩ := o
      refine p _ ms' (upd Z' a _) H' (g.freeze w n z) (w.freeze e z m) ?_
      show Rep K ms' _ _ _
      simp only [Rep]
      exact ⟨a, xs, rfl, l, upd_same, r.mono (upd_get z) (List.prefix_refl _)⟩
    · obtain ⟨xs, l, e, r⟩ := o
      refine p _ ms' (upd Z' a _) H' (g.freeze w n z) (w.freeze e z m) ?_
      show Rep K ms' _ _ _
      simp only [Rep]
      exact ⟨a, xs, rfl, l, upd_same, r.mono (upd_get z) (List.prefix_refl _)⟩
  | ex c G' => exact p
  | no => exact p
theorem bor_of_gen {r : Res D} {Q : VK} (p : PostR K cl W (MRep K .bor) σ ms Z H r Q) : PostR K cl W (MRep K .gen) σ ms Z H r Q := by
  cases r with
  | ok d G' => exact fun v ms' Z' H' g w r => p v ms' Z' H' g w (.inl r)
  | ex c G' => exact p
  | no => exact p
theorem bor_of_frs {r : Res D} {Q : VK} (p : PostR K cl W (MRep K .bor) σ ms Z H r Q) : PostR K cl W (MRep K .frs) σ ms Z H r Q := by
  cases r with
  | ok d G' => exact fun v ms' Z' H' g w ⟨a, e, _, z, m, o⟩ => p v ms' Z' H' g w (.inr ⟨a, e, z, m, o⟩)
  | ex c G' => exact p
  | no => exact p
end

section
variable {X : Cx}
theorem PE.weak {e : Expr} {t t' : TE} (h : PE X e t) (k : ∀ σ H Q, t' σ H Q → t σ H Q) : PE X e t' := ⟨fun pins s σ H Q I q => h.run pins s σ H Q I (k σ H Q q)⟩
theorem PE.or {e : Expr} {t t' : TE} (h : PE X e t) (h' : PE X e t') : PE X e (fun σ H Q => t σ H Q ∨ t' σ H Q) := ⟨fun pins s σ H Q I q => q.elim (h.run pins s σ H Q I) (h'.run pins s σ H Q I)⟩
theorem PT.weak {e : Expr} {t t' : TT} (h : PT X e t) (k : ∀ σ H Q, t' σ H Q → t σ H Q) : PT X e t' := ⟨fun pins s σ H Q I q => h.run pins s σ H Q I (k σ H Q q)⟩
theorem PW.weak {e : Expr} {t t' : TT} (h : PW X e t) (k : ∀ σ H Q, t' σ H Q → t σ H Q) : PW X e t' := ⟨fun wh pins s σ H Q I q => h.run wh pins s σ H Q I (k σ H Q q)⟩
theorem PA.weak {e : List Expr} {t t' : TA} (h : PA X e t) (k : ∀ σ H Q, t' σ H Q → t σ H Q) : PA X e t' := ⟨fun pos pins s σ H Q I q => h.run pos pins s σ H Q I (k σ H Q q)⟩
theorem PS.weak {e : Stmt} {t t' : TS} (h : PS X e t) (k : ∀ D σ H, t' D σ H → t D σ H) : PS X e t' := ⟨fun pins s σ H D I q => h.run pins s σ H D I (k D σ H q)⟩
theorem PSs.weak {e : List Stmt} {t t' : TS} (h : PSs X e t) (k : ∀ D σ H, t' D σ H → t D σ H) : PSs X e t' := ⟨fun pins s σ H D I q => h.run pins s σ H D I (k D σ H q)⟩
theorem PS.or {e : Stmt} {t t' : TS} (h : PS X e t) (h' : PS X e t') : PS X e (fun D σ H => t D σ H ∨ t' D σ H) := ⟨fun pins s σ H D I q => q.elim (h.run pins s σ H D I) (h'.run pins s σ H D I)⟩
theorem PI.or {tg e : Expr} {t t' : TI} (h : PI X tg e t) (h' : PI X tg e t') : PI X tg e (fun σ H R => t σ H R ∨ t' σ H R) := ⟨fun pins s σ H R I q => q.elim (h.run pins s σ H R I) (h'.run pins s σ H R I)⟩
theorem PI.weak {tg e : Expr} {t t' : TI} (h : PI X tg e t) (k : ∀ σ H Q, t' σ H Q → t σ H Q) : PI X tg e t' := ⟨fun pins s σ H Q I q => h.run pins s σ H Q I (k σ H Q q)⟩
theorem PG.weak {e : Expr} {t t' : TG} (h : PG X e t) (k : ∀ v σ H Q, t' v σ H Q → t v σ H Q) : PG X e t' := ⟨fun pins s σ H v u Q I r q => h.run pins s σ H v u Q I r (k v σ H Q q)⟩
theorem CallR.or {f : Value} {r r' : List V → Hp → VK → Prop} (h : CallR X f r) (h' : CallR X f r') : CallR X f (fun xs H Q => r xs H Q ∨ r' xs H Q) := fun pins s σ H xs us Q I rs q => q.elim (h pins s σ H xs us Q I rs) (h' pins s σ H xs us Q I rs)
theorem PC.or {op : CmpOp} {a b : Expr} {t t' : TE} (h : PC X op a b t) (h' : PC X op a b t') : PC X op a b (fun σ H Q => t σ H Q ∨ t' σ H Q) := ⟨fun pins s σ H Q I q => q.elim (h.run pins s σ H Q I) (h'.run pins s σ H Q I)⟩
/-- lists and tuples are no longer than the line -/
def LenOk (H : Hp) : Prop := ∀ a xs, (H a = some (.lst xs) ∨ H a = some (.tup xs) ∨ ∃ o, H a = some (.frz o (.tup xs))) → xs.length ≤ sizeLine
theorem Inv.lenOk {pins : List (Addr × Obj)} {s : Shared} {σ : Sg} {H : Hp} (I : Inv X pins σ H s) : LenOk H := fun a xs h => by
  rcases h with h | h | ⟨o, h⟩
  · exact (show ObjOk X.prog X.w H s.heap a (.lst xs) from I.hok a _ h).1
  · exact (show ObjOk X.prog X.w H s.heap a (.tup xs) from I.hok a _ h).1
  · exact (show ObjOk X.prog X.w H s.heap a (.tup xs) from (show ObjOk X.prog X.w H s.heap a (.frz o (.tup xs)) from I.hok a _ h).2).1
theorem PE.len {e : Expr} {t : TE} (h : PE X e t) : PE X e (fun σ H Q => LenOk H → t σ H Q) := ⟨fun pins s σ H Q I q => h.run pins s σ H Q I (q (Inv.lenOk I))⟩
end
end MP

namespace MP
open PySem PySem.Spec PyProof.Rows L2

/-- a new tuple whose object is known -/
abbrev kTup (its : Array Value) (n : Nat) (xs : List V) : HO := .frz { cls := .type "tuple", data := .seq its n } (.tup xs)
section
variable {X : Cx} {e : Expr} {es : List Expr} {t : TA} {pos : Pos}

/-! ### tuples, their object known -/
theorem kTup_ok {P : Program} {w : World} {H : Hp} {h : Heap} {xs : List V} {its : List Value} (r : Vals xs its) (hz : xs.length ≤ sizeLine) :
    ObjOk P w H (h.push { cls := .type "tuple", data := .seq its.toArray }) h.objs.size (kTup its.toArray 0 xs) :=
  ⟨Heap.get?_push_size _ rfl, hz, its, r, IsTup.new _ _⟩
def tTupF (t : TA) : TE := fun σ H Q => t σ H fun xs H1 => xs.length ≤ sizeLine ∧ ∀ its n p, H1 p = none → Q (.ref p) (upd H1 p (kTup its n xs))
theorem pe_tupF {x1} (h : PA X es t) : PE X (.Tuple es x1 pos) (tTupF t) := by
  refine ⟨fun pins s σ H Q I hq => ?_⟩
  refine wpAny_Tuple_spliced (thn (h.run pos pins s σ H _ I hq) fun us s1 ⟨xs, H1, I1, r, z, q⟩ => ⟨by rw [← r.length]; exact z, ?_⟩)
  have hf : H1 s1.heap.objs.size = none := I1.hok.fresh (Nat.le_refl _)
  exact ⟨.ref s1.heap.objs.size, upd H1 s1.heap.objs.size (kTup us.toArray 0 xs), I1.laid (t' := s1.toks) (fun b u e => Heap.get?_push_of_some _ e) (Nat.le_refl _) (kTup_ok r z), rfl, q _ _ _ hf⟩
theorem call_tupleF : CallR X (.type "tuple") (fun xs H Q => ∃ p ys, xs = [.ref p] ∧ SqL X.K H p ys ∧ ∀ its n l, H l = none → Q (.ref l) (upd H l (kTup its n ys))) := by
  intro pins s σ H xs us Q I r h
  obtain ⟨p, ys, rfl, hq, q⟩ := h
  obtain ⟨u, rfl, rx⟩ := vals1 r
  cases rx
  obtain ⟨its, r', pl, hz⟩ := I.list hq
  have hlen := r'.length
  have hl := line63
  have hs : sizeLine = 16777216 := sizeLine_eq
  refine call_tuple_list pl.isList (fun h' kp => ?_) (by simp only [List.size_toArray] <;> omega)
  have I1 : Inv X pins σ H { s with heap := h' } := I.kept (t' := s.toks) kp
  exact ⟨.ref h'.objs.size, _, I1.laid (t' := s.toks) (fun b o e => Heap.get?_push_of_some _ e) (Nat.le_refl _) (kTup_ok r' hz), rfl, q _ _ _ (I1.hok.fresh (Nat.le_refl _))⟩
/-- t + u -/
def rCatF (K : Fg) : R2 := fun x y H Q => ∃ a b xs ys, x = .ref a ∧ y = .ref b ∧ SqT K H a xs ∧ SqT K H b ys ∧ xs.length + ys.length ≤ sizeLine ∧
  (xs = [] → Q (.ref b) H) ∧ (xs ≠ [] → ys = [] → Q (.ref a) H) ∧ (xs ≠ [] → ys ≠ [] → ∀ its n p, H p = none → Q (.ref p) (upd H p (kTup its n (xs ++ ys))))
theorem op_catF : OpR X (binaryOp .Add) (rCatF X.K) := by
  intro pins s σ H x y v u Q I rx ry h
  obtain ⟨a, b, xs, ys, rfl, rfl, ha, hb, hz, q0, q1, q2⟩ := h
  by_cases hx : xs = []
  · subst hx
    cases rx
    cases ry
    obtain ⟨its, r1, p1, _⟩ := I.tuple ha
    obtain ⟨its2, r2, p2, _⟩ := I.tuple hb
    cases r1
    exact cat_tup0 p1 p2 ⟨.ref b, H, I, rfl, q0 rfl⟩
  · cases rx
    cases ry
    obtain ⟨its, r1, p1, _⟩ := I.tuple ha
    obtain ⟨its2, r2, p2, _⟩ := I.tuple hb
    refine HT.cat_tup p1 p2 (fun z => hx (r1.nil_iff.mp z)) (fun z => ⟨.ref a, H, I, rfl, q1 hx (r2.nil_iff.mp z)⟩) (fun z => ?_) (by rw [← r1.length, ← r2.length]; exact hz)
    exact ⟨.ref s.heap.objs.size, _, I.laid (t' := s.toks) (fun b ob q => Heap.get?_push_of_some _ q) (Nat.le_refl _) (kTup_ok (r1.append r2) (by rw [List.length_append]; exact hz)), rfl, q2 hx (fun w => z (r2.nil_iff.mpr w)) _ _ _ (I.hok.fresh (Nat.le_refl _))⟩
/-- t[lo:hi] -/
def rSlF (K : Fg) : V → Option Int → Option Int → Hp → VK → Prop := fun x lo hi H Q => ∃ a xs, x = .ref a ∧ SqT K H a xs ∧
  (HT.sIx xs.length 0 lo = 0 ∧ HT.sIx xs.length xs.length hi = xs.length → Q (.ref a) H) ∧ (¬ (HT.sIx xs.length 0 lo = 0 ∧ HT.sIx xs.length xs.length hi = xs.length) → ∀ its n p, H p = none → Q (.ref p) (upd H p (kTup its n (cutV xs lo hi))))
theorem sl_tupF : SlR X (rSlF X.K) := by
  intro pins s σ H x v vl vu lo hi sl Q I rx hs pl pu h
  obtain ⟨a, xs, rfl, hx, q1, q2⟩ := h
  cases rx
  obtain ⟨its, r, ht, hz⟩ := I.tuple hx
  have hlen : its.toArray.size = xs.length := by rw [List.size_toArray]; exact r.length.symm
  refine ⟨"tuple", _, PyProof.Rows.slot_tuple_getitem.lookup, ht.typeIs, ?_⟩
  by_cases hw : HT.sIx xs.length 0 lo = 0 ∧ HT.sIx xs.length xs.length hi = xs.length
  · exact getItem_tuple_whole ht hs pl pu (by rw [hlen]; exact hw) ⟨.ref a, H, I, rfl, q1 hw⟩
  · refine HT.getItem_tuple_cut ht hs pl pu (by rw [hlen]; exact hw) ?_ (by rw [hlen]; exact hz)
    rw [hlen]
    exact ⟨.ref s.heap.objs.size, _, I.laid (t' := s.toks) (fun b ob q => Heap.get?_push_of_some _ q) (Nat.le_refl _) (kTup_ok ((r.drop (HT.sIx xs.length 0 lo)).take (HT.sIx xs.length xs.length hi - HT.sIx xs.length 0 lo)) (Nat.le_trans (cutV_length xs lo hi) hz)), rfl, q2 hw _ _ _ (I.hok.fresh (Nat.le_refl _))⟩
/-- t * k -/
def rRepF (K : Fg) : R2 := fun x y H Q => ∃ l k xs, x = .ref l ∧ y = .int k ∧ SqT K H l xs ∧ xs ≠ [] ∧ 2 ≤ k ∧ k ≤ 1000 ∧ xs.length ≤ 1000 ∧ ∀ its n p, H p = none → Q (.ref p) (upd H p (kTup its n (List.replicate k.toNat xs).flatten))
theorem op_repF : OpR X (binaryOp .Mult) (rRepF X.K) := by
  intro pins s σ H x y v u Q I rx ry h
  obtain ⟨l, k, xs, rfl, rfl, hT, hne, h1, h2, hz, q⟩ := h
  cases rx
  obtain ⟨t, rfl⟩ := ry
  obtain ⟨its, r, ⟨⟨cls, dd, data, sl⟩, ho, hc, n, hd⟩, hs⟩ := I.tuple hT
  simp only at hc hd
  subst hc hd
  have hle : its.length = xs.length := r.length.symm
  have hn : its ≠ [] := fun e => hne (by
    rw [e] at hle
    exact List.eq_nil_of_length_eq_zero hle.symm)
  have hi : its.toArray.isEmpty = false := by
    cases its with
    | nil => exact absurd rfl hn
    | cons a b => rfl
  have hsz0 : its.toArray.size = xs.length := by rw [List.size_toArray, hle]
  have hm : ((its.toArray.size : Nat) : Int) * k ≤ 1000000 := by
    rw [hsz0]
    have a1 : ((xs.length : Nat) : Int) * k ≤ 1000 * k := Int.mul_le_mul_of_nonneg_right (by omega) (by omega)
    omega
  have flen : (List.replicate k.toNat its).flatten.length ≤ sizeLine := by
    rw [PyProof.Rows.lm_len_rep_flat, hle, sizeLine_eq]
    have a1 : k.toNat * xs.length ≤ 1000 * 1000 := Nat.mul_le_mul (by omega) hz
    omega
  have flen2 : (List.replicate k.toNat xs).flatten.length ≤ sizeLine := by
    rw [PyProof.Rows.lm_len_rep_flat, sizeLine_eq]
    have a1 : k.toNat * xs.length ≤ 1000 * 1000 := Nat.mul_le_mul (by omega) hz
    omega
  have c0 : (decide (k < -(2 ^ 63)) || decide (k ≥ 2 ^ 63)) = false := by
    rw [decide_eq_false (by omega), decide_eq_false (by omega)] <;> rfl
  have c1 : (its.toArray.isEmpty || k == 1) = false := by
    rw [hi, Bool.false_or]
    exact beq_eq_false_iff_ne.mpr (by omega)
  have c2 : (decide (k ≤ 0) || its.toArray.isEmpty) = false := by
    rw [hi, Bool.or_false]
    exact decide_eq_false (by omega)
  have c4 : Builtin.Tuple.tupleTooMany (((its.toArray.size : Nat) : Int) * k) = false := by
    unfold Builtin.Tuple.tupleTooMany
    rw [sizeLine_eq]
    exact decide_eq_false (by omega)
  refine wpAny_binaryOp_repeat_ref (T := "tuple") (U := "int") (by decide) ⟨_, ho, rfl⟩ (fun s' => typeIs_int s' k t) noFill_tuple_mul F.fills_int_mul F.slot_int_rmul repeat_tuple F.slot_int_index.lookup
    (call_meets F.slot_int_rmul (typeIs_int s k t) F.entry_int_rmul (F.args_int_rmul_2 _ _) (int_rmul_tuple k t l its.toArray n dd sl)
      ⟨ho, rfl, ⟨_, ho, rfl⟩, call_meets F.slot_tuple_mul ⟨_, ho, rfl⟩ F.entry_tuple_mul (F.args_tuple_mul_2 _ _) (tuple_mulW l its.toArray n dd sl k t c0 c1 c2 (by omega) c4 (by rw [size_rep, List.size_toArray]; exact flen)) ⟨ho, ?_⟩⟩)
  rw [size_rep]
  exact ⟨.ref s.heap.objs.size, _, I.laid (t' := s.toks) (fun b ob q => Heap.get?_push_of_some _ q) (Nat.le_refl _) (kTup_ok (r.rep k.toNat) flen2), rfl, q _ _ _ (I.hok.fresh (Nat.le_refl _))⟩

/-! ### dicts by values -/
theorem ix_dict (hu : X.A.units + 1 < cLine) : IxR X (fun x y H Q => ∃ a v, x = .ref a ∧ DGet H a y (some v) ∧ Q v H) := by
  intro value slice pins s σ H x y v u Q I rx ry h hs
  obtain ⟨a, w', rfl, g, q⟩ := h
  cases rx
  exact tail_any (dict_typeIs I g) PySem.F.slot_dict_getitem.lookup (d_getItem hu I g ry fun w2 s3 I3 rw' => ⟨w', H, I3, rw', q⟩) hs
theorem op_inDict (hu : X.A.units + 1 < cLine) : OpR X (compareOp .In) (fun x y H Q => ∃ a o, y = .ref a ∧ DGet H a x o ∧ Q (.bl o.isSome) H) := by
  intro pins s σ H x y v u Q I rx ry h
  obtain ⟨a, o, rfl, g, q⟩ := h
  cases ry
  exact d_in hu I g rx fun s3 I3 => ⟨.bl o.isSome, H, I3, rfl, q⟩
theorem op_notInDict (hu : X.A.units + 1 < cLine) : OpR X (compareOp .NotIn) (fun x y H Q => ∃ a o, y = .ref a ∧ DGet H a x o ∧ Q (.bl (!o.isSome)) H) := by
  intro pins s σ H x y v u Q I rx ry h
  obtain ⟨a, o, rfl, g, q⟩ := h
  cases ry
  exact d_notIn hu I g rx fun s3 I3 => ⟨.bl (!o.isSome), H, I3, rfl, q⟩
/-- in, of a tuple of data -/
theorem op_inDT (hu : X.A.units + 65 < cLine) : OpR X (compareOp .In) (fun x y H Q => ∃ d ds, Dp X.K H x d ∧ Dp X.K H y (.tuple ds) ∧ SeqAt.shaped d = true ∧ SeqAt.shaped (.tuple ds) = true ∧ Q (.bl (ds.any fun z => PyData.eqv z d)) H) := by
  intro pins s σ H x y v u Q I rx ry h
  obtain ⟨d, ds, hd, he, sd, se, q⟩ := h
  obtain ⟨as, r1⟩ := Dp.reads I d x v hd rx
  obtain ⟨bs, r2⟩ := Dp.reads I (.tuple ds) y u he ry
  exact SeqAt.in_tuple_reads r2 r1 (SeqAt.canLay_of_shaped se) (SeqAt.canLay_of_shaped sd) (room_in_shaped sd hu) ⟨.bl _, H, I, rfl, q⟩
theorem op_notInDT (hu : X.A.units + 65 < cLine) : OpR X (compareOp .NotIn) (fun x y H Q => ∃ d ds, Dp X.K H x d ∧ Dp X.K H y (.tuple ds) ∧ SeqAt.shaped d = true ∧ SeqAt.shaped (.tuple ds) = true ∧ Q (.bl (!ds.any fun z => PyData.eqv z d)) H) := by
  intro pins s σ H x y v u Q I rx ry h
  obtain ⟨d, ds, hd, he, sd, se, q⟩ := h
  obtain ⟨as, r1⟩ := Dp.reads I d x v hd rx
  obtain ⟨bs, r2⟩ := Dp.reads I (.tuple ds) y u he ry
  exact SeqAt.notIn_tuple_reads r2 r1 (SeqAt.canLay_of_shaped se) (SeqAt.canLay_of_shaped sd) (room_in_shaped sd hu) ⟨.bl _, H, I, rfl, q⟩

/-! ### methods of a tuple whose object is known -/
def tTM (K : Fg) (r : V → List V → Hp → VK → Prop) (to : TE) (t : TA) : TE := fun σ H Q => to σ H fun x H1 => (∃ a its n xs, x = .ref a ∧ H1 a = some (kTup its n xs)) ∧ t σ H1 fun xs H2 => r x xs H2 Q
theorem pe_tm {o e : Expr} {es : List Expr} {to : TE} {t : TA} {name : Str} {apos cpos : Pos} {id : String} {r : V → List V → Hp → VK → Prop} (pa : PlainAttrs "tuple") (slot : Slot "tuple" name id) (hty : typeOf (.builtin id) = pure (.type "method_descriptor")) (hm : MtR X id r) (ho : PE X o to) (ha : PA X (e :: es) t)
    (hbase : attributeBase o name X.env (eval o X.env) = eval o X.env)
    (hfew : ((backTo cpos (starEach (e :: es) X.env)).all (fun x => !x.1) && (backToKw cpos (keywordEach [] X.env)).all (fun x => x.1.isSome)
      && decide ((e :: es).length + ([] : List Keyword).length + (if ([] : List Keyword).isEmpty then 0 else 1) < 30)) = true)
    (hline : (apos.endLine == cpos.line) = true) (hs : starEach (e :: es) X.env = (false, eval e X.env) :: starEach es X.env) (hplain : (backTo cpos (starEach es X.env)).any (·.1) = false) :
    PE X (.Call (.Attribute o name apos) (e :: es) [] cpos) (tTM X.K r to t) := by
  refine ⟨fun pins s σ H Q I h => ?_⟩
  refine wpAny_Call_method_late hbase hfew hline rfl (thn (ho.run pins s σ H _ I h) fun v s1 ⟨x, H1, I1, r1, ⟨a, its, n, xs, ex, ht⟩, q1⟩ => ?_)
  subst ex
  cases r1
  obtain ⟨ho, _⟩ := I1.hok a _ ht
  refine ⟨"tuple", id, pa, slot, hty, ⟨_, ho, rfl⟩, (fun b e => by cases e; exact ⟨_, ho, rfl⟩), ?_⟩
  have hA := ha.run cpos pins s1 σ H1 _ I1 q1
  rw [hs] at hA ⊢
  refine Calls.callWith_builtin (by show (false || (backTo cpos (starEach es X.env)).any (·.1)) = false; rw [hplain] <;> rfl) (Calls.evalArgs_plain ?_)
  exact thn hA fun us s2 ⟨vs, H2, I2, r2, q2⟩ => hm pins s2 σ H2 (.ref a) vs _ us Q I2 rfl r2 q2
def rCntT (K : Fg) : V → List V → Hp → VK → Prop := fun x xs H Q => ∃ (p : Addr) (ns : List Int) (k : Int), x = .ref p ∧ xs = [.int k] ∧ SqT K H p (ns.map V.int) ∧ Q (.int (ns.count k : Nat)) H
theorem mt_tcount : MtR X "tuple.count" (rCntT X.K) := by
  intro pins s σ H x xs v us Q I rx rxs h
  obtain ⟨p, ns, k, rfl, rfl, hs, q⟩ := h
  cases rx
  obtain ⟨u, rfl, ru⟩ := rxs.one
  obtain ⟨t, rfl⟩ := ru
  obtain ⟨its, rv, ⟨⟨cls, dd, data, sl⟩, ho, hc, n, hd⟩, hlen⟩ := I.tuple hs
  simp only at hc hd
  subst hc hd
  have hi := ints_of_vals rv
  refine call_meets PySem.F.slot_tuple_count ⟨_, ho, rfl⟩ PySem.F.entry_tuple_count (PySem.F.args_tuple_count_2 _ _)
    (SeqAt.tuple_countAt p its.toArray n dd sl (.int k t) (eqk k)) ⟨ho, fun y hy => (eqk_gives hi y (by simpa using hy)).at _ _, ?_⟩
  have ec : its.toArray.toList.countP (eqk k) = ns.count k := eqk_count hi
  refine ⟨.int (ns.count k : Nat), H, I.tok _, ⟨s.toks, ?_⟩, q⟩
  show Value.int ((its.toArray.toList.countP (eqk k) : Nat) : Int) s.toks = Value.int ((ns.count k : Nat) : Int) s.toks
  rw [ec]
end
end MP

namespace HT
open PySem PySem.Spec PyProof.Rows
section
variable {prog : Program} {w : World} {A : Around} {E : Value → Shared → Prop} {s : Shared}
theorem mp_revPlaces (n : Nat) : Builtin.Slice.slicePlaces ((n : Int) - 1) (-1) (-1) = n := by
  unfold Builtin.Slice.slicePlaces
  have h1 : ¬ ((-1 : Int) > 0) := by decide
  simp only [h1, if_false]
  have h2 : (- -1 : Int) = 1 := by decide
  rw [h2, Int.ediv_one]
  split <;> omega
theorem mp_revAdjust (n : Nat) : Builtin.Slice.sliceAdjust none none (-1) (n : Int) = ((n : Int) - 1, -1) := by
  unfold Builtin.Slice.sliceAdjust
  have h1 : ((-1 : Int) < 0) := by decide
  simp only [h1, if_true]
theorem mp_revApplied {sl : Addr} {vl vu vs : Value} {n : Nat} {Q : Int × Int × Nat → Shared → Prop} (hs : s.heap.IsSliceOf sl vl vu vs) (pl : IsPart vl none) (pu : IsPart vu none) (ps : IsPart vs (some (-1)))
    (h : Q ((n : Int) - 1, -1, n) s) : wpAny (model prog w) A (Builtin.Slice.sliceApplied (.ref sl) (pure (n : Int))) Q E s := by
  obtain ⟨os, hos, hcs, hds⟩ := id hs
  unfold Builtin.Slice.sliceApplied Builtin.Slice.sliceFields
  refine wpAny_bind (wpAny_bind (wpAny_field hos hds (x := vl) rfl (wpAny_bind (wpAny_field hos hds (x := vu) rfl (wpAny_bind (wpAny_field hos hds (x := vs) rfl (wpAny_pure ?_)))))))
  refine wpAny_bind (slicePart_ ps ?_)
  show wpAny _ _ (if ((-1 : Int) == 0) = true then _ else _) _ _ s
  rw [if_neg (by decide)]
  refine wpAny_bind (slicePart_ pl (wpAny_bind (slicePart_ pu (wpAny_bind (wpAny_pure ?_)))))
  show wpAny _ _ (match Builtin.Slice.sliceAdjust none none (-1) (n : Int) with | (lo, hi) => pure (lo, (-1 : Int), Builtin.Slice.slicePlaces lo hi (-1))) _ _ s
  rw [mp_revAdjust]
  show wpAny _ _ (pure ((n : Int) - 1, (-1 : Int), Builtin.Slice.slicePlaces ((n : Int) - 1) (-1) (-1))) _ _ s
  rw [mp_revPlaces]
  exact wpAny_pure h
theorem mp_fm {α β : Type} {f g : α → Option β} : ∀ {l : List α}, (∀ a ∈ l, f a = g a) → l.filterMap f = l.filterMap g
  | [], _ => rfl
  | a :: l, h => by rw [List.filterMap_cons, List.filterMap_cons, h a (by simp), mp_fm fun b hb => h b (List.mem_cons_of_mem _ hb)]
theorem mp_revPick (xs : Array Value) : ((List.range xs.size).filterMap fun (k : Nat) => xs[(((xs.size : Int) - 1) + (k : Int) * (-1)).toNat]?).toArray = xs.toList.reverse.toArray := by
  rw [← PySem.W.krv_pick]
  unfold slicePick
  rw [PySem.W.krv_bounds]
  show _ = ((sliceRange ((xs.size : Int) - 1) (-1) (-1)).filterMap (xs[·]?)).toArray
  rw [PySem.W.krv_sliceRange, List.filterMap_map]
  congr 1
  refine mp_fm fun k hk => ?_
  have := List.mem_range.mp hk
  show _ = xs[xs.size - 1 - k]?
  have e : (((xs.size : Int) - 1) + (k : Int) * (-1)).toNat = xs.size - 1 - k := by omega
  rw [e]
theorem mp_getItem_tuple_rev {t sl : Addr} {items : Array Value} {vl vu vs : Value} {Q : Value → Shared → Prop} (ht : IsTup s.heap t items) (hs : s.heap.IsSliceOf sl vl vu vs) (pl : IsPart vl none) (pu : IsPart vu none) (ps : IsPart vs (some (-1)))
    (h : Q (.ref s.heap.objs.size) { s with heap := s.heap.push { cls := .type "tuple", data := .seq items.toList.reverse.toArray } })
    (hsz : items.size ≤ sizeLine) : wpAny (model prog w) A (getItem (.ref t) (.ref sl)) Q E s := by
  have htake : sizeOk (.seq items.toList.reverse.toArray) := by
    show items.toList.reverse.toArray.size ≤ sizeLine
    rw [List.size_toArray, List.length_reverse, Array.length_toList]
    exact hsz
  obtain ⟨os, hos, hcs, hds⟩ := id hs
  have hTs : s.TypeIs (.ref sl) "slice" := ⟨os, hos, hcs⟩
  unfold getItem
  try with_reducible refine wpAny_holding ?_
  first | refine wpAny_bind (wpAny_pure ?_) | skip
  refine wpAny_bind (wpAny_sequenceKey ht.typeIs (by decide) ?_)
  refine wpAny_bind (wpAny_callSpecial?_slot (name := Str.ofString "__getitem__") ht.typeIs PyProof.Rows.slot_tuple_getitem
    (wpAny_call_entry PyProof.Rows.slot_tuple_getitem ht.typeIs entry_tuple_getitem ?_ (args_tuple_getitem _ _)))
  show wpAny _ _ (Builtin.Tuple.tupleItemsOf (.ref t) >>= _) _ _ s
  refine wpAny_bind (tupleItemsOf_ ht ?_)
  refine wpAny_bind (wpAny_typeOf hTs ?_)
  rw [if_pos (by decide)]
  refine wpAny_bind (mp_revApplied hs pl pu ps ?_)
  have hno : ¬ (((items.size : Int) - 1 == 0 && (-1 : Int) == 1 && items.size == items.size) = true) := by
    intro q
    rw [Bool.and_eq_true, Bool.and_eq_true] at q
    exact absurd q.1.2 (by decide)
  show wpAny _ _ (if ((items.size : Int) - 1 == 0 && (-1 : Int) == 1 && items.size == items.size) = true then _ else _) _ _ s
  rw [if_neg hno, mp_revPick]
  first
    | exact wpAny_bind (m := Builtin.Tuple.tupleExact _) (wpAny_newObj_type (wpAny_pure ⟨_, rfl, wpAny_pure h⟩) htake)
    | exact wpAny_bind (m := Builtin.Tuple.tupleExact _) (wpAny_newObj_type (wpAny_bind (wpAny_pure (wpAny_pure ⟨_, rfl, wpAny_pure h⟩))) htake)
    | exact wpAny_bind (wpAny_bind (m := Builtin.Tuple.tupleExact _) (wpAny_newObj_type (wpAny_pure (wpAny_pure ⟨_, rfl, wpAny_pure h⟩)) htake))
    | exact wpAny_bind (wpAny_bind (m := Builtin.Tuple.tupleExact _) (wpAny_newObj_type (wpAny_pure ⟨_, rfl, wpAny_pure h⟩) htake))
end
end HT
namespace MP
open PySem PySem.Spec PyProof.Rows L2
section
variable {X : Cx}
/-- t[::-1], of a list or a tuple -/
def tRevF (K : Fg) (te : TE) : TE := fun σ H Q => te σ H fun x H1 => ∃ a xs, x = .ref a ∧ ((SqL K H1 a xs ∧ ∀ p, H1 p = none → Q (.ref p) (upd H1 p (.lst xs.reverse))) ∨ (SqT K H1 a xs ∧ ∀ its n p, H1 p = none → Q (.ref p) (upd H1 p (kTup its n xs.reverse))))
theorem pe_revF {e : Expr} {te : TE} {k : Nat} {p1 p2 p3 pos : Pos} (he : PE X e te) : PE X (.Subscript e (.Slice none none (some (.UnaryOp .USub (.Constant (.int 1) k p1) p2)) p3) pos) (tRevF X.K te) := by
  refine ⟨fun pins s σ H Q I h => ?_⟩
  refine Subscript_ (thn (he.run pins s σ H _ I h) fun v s1 ⟨x, H1, I1, r1, q1⟩ => ?_)
  obtain ⟨a, xs, ex, q⟩ := q1
  subst ex
  cases r1
  have hst : PO X (some (.UnaryOp .USub (.Constant (.int 1) k p1) p2)) (tPart (tUn (rU fun i => .int (-i)) (tC (.int 1)))) := po_some (pe_un un_neg pe_int)
  refine wpAny_Slice (thn (po_none.run pins s1 σ H1 (fun o H2 => o = none ∧ H2 = H1) I1 ⟨rfl, rfl⟩) fun vl s2 ⟨l, H2, I2, pl, el, e2⟩ => ?_)
  subst el e2
  refine thn (po_none.run pins s2 σ H2 (fun o H3 => o = none ∧ H3 = H2) I2 ⟨rfl, rfl⟩) fun vu s3 ⟨u, H3, I3, pu, eu, e3⟩ => ?_
  subst eu e3
  refine thn (hst.run pins s3 σ H3 (fun o H4 => o = some (-1) ∧ H4 = H3) I3 ⟨1, rfl, -1, rfl, rfl, rfl⟩) fun vs s4 ⟨o, H4, I4, ps, eo, e4⟩ => ?_
  subst eo e4
  have I5 : Inv X pins σ H4 { s4 with heap := s4.heap.push { cls := .type "slice", data := .fields #[vl, vu, vs] } } := I4.kept (t' := s4.toks) fun b ob q => Heap.get?_push_of_some _ q
  rcases q with ⟨hx, q⟩ | ⟨hx, q⟩
  · obtain ⟨its, r, ht, hz⟩ := I5.list hx
    have hlen := r.length
    show wpAny (model X.prog X.w) X.A (subscriptTail e (.Slice none none (some (.UnaryOp .USub (.Constant (.int 1) k p1) p2)) p3) (.ref a) (.ref s4.heap.objs.size)) (EP X pins σ Q) X.xe { s4 with heap := s4.heap.push { cls := .type "slice", data := .fields #[vl, vu, vs] } }
    refine tail_any (ops := [.ref a, .ref s4.heap.objs.size]) ht.isList.typeIs (PySem.slot_list_getitem.lookup) ?_ (by with_unfolding_all rfl)
    refine wpAny_getItem_list_slice ht.isList (Heap.IsSliceOf.new _ vl vu vs) pl pu ps (by decide) ?_ (by rw [List.size_toArray]; omega)
    rw [PySem.W.krv_pick]
    refine ⟨.ref _, _, I5.laid (t' := s4.toks) (o := .lst xs.reverse) (fun b ob q => Heap.get?_push_of_some _ q) (Nat.le_refl _) ?_, rfl, q _ (I5.hok.fresh (Nat.le_refl _))⟩
    exact ⟨by rw [List.length_reverse]; exact hz, _, 0, r.reverse, Heap.get?_push_size _ rfl⟩
  · obtain ⟨its, r, ht, hz⟩ := I5.tuple hx
    have hlen := r.length
    show wpAny (model X.prog X.w) X.A (subscriptTail e (.Slice none none (some (.UnaryOp .USub (.Constant (.int 1) k p1) p2)) p3) (.ref a) (.ref s4.heap.objs.size)) (EP X pins σ Q) X.xe { s4 with heap := s4.heap.push { cls := .type "slice", data := .fields #[vl, vu, vs] } }
    refine tail_any (ops := [.ref a, .ref s4.heap.objs.size]) ht.typeIs (PyProof.Rows.slot_tuple_getitem.lookup) ?_ (by with_unfolding_all rfl)
    refine HT.mp_getItem_tuple_rev ht (Heap.IsSliceOf.new _ vl vu vs) pl pu ps ?_ (by rw [List.size_toArray]; omega)
    have e1 : its.toArray.toList.reverse.toArray = its.reverse.toArray := rfl
    rw [e1]
    refine ⟨.ref _, _, I5.laid (t' := s4.toks) (o := kTup its.reverse.toArray 0 xs.reverse) (fun b ob q => Heap.get?_push_of_some _ q) (Nat.le_refl _) ?_, rfl, q _ _ _ (I5.hok.fresh (Nat.le_refl _))⟩
    exact kTup_ok r.reverse (by rw [List.length_reverse]; exact hz)
/-- dicts compared, locked or not -/
def rDD (b : Bool) : R2 := fun x y H Q => ∃ a c ks ls, x = .ref a ∧ y = .ref c ∧ Rd H a (.dK ks) ∧ Rd H c (.dK ls) ∧ ks.length = ls.length ∧ (∀ p ∈ ks, valV ls p.1 = some p.2 ∧ flatB p.2 = true) ∧ Q (.bl b) H
theorem op_eqDD (hu : X.A.units < cLine) : OpR X (compareOp .Eq) (rDD true) := by
  intro pins s σ H x y v u Q I rx ry h
  obtain ⟨a, b, ks, ls, rfl, rfl, ea, eb, hlen, hp, q⟩ := h
  obtain rfl : v = Value.ref a := rx
  obtain rfl : u = Value.ref b := ry
  obtain ⟨_, ya, va, ra, da⟩ := (show ObjOk X.prog X.w H s.heap a (.dK ks) from ea.ok I.hok)
  obtain ⟨_, yb, vb, rb, db⟩ := (show ObjOk X.prog X.w H s.heap b (.dK ls) from eb.ok I.hok)
  have hl : va.length = vb.length := by rw [← ra.length, ← rb.length]; exact hlen
  exact PySem.W.keq_eq (knd := mixKind X.prog X.w) (r := true) ya yb da db hu (fun _ => hits_all rb ra hp) (fin_bl I q (by simp [hl]))
theorem op_neDD (hu : X.A.units < cLine) : OpR X (compareOp .NotEq) (rDD false) := by
  intro pins s σ H x y v u Q I rx ry h
  obtain ⟨a, b, ks, ls, rfl, rfl, ea, eb, hlen, hp, q⟩ := h
  obtain rfl : v = Value.ref a := rx
  obtain rfl : u = Value.ref b := ry
  obtain ⟨_, ya, va, ra, da⟩ := (show ObjOk X.prog X.w H s.heap a (.dK ks) from ea.ok I.hok)
  obtain ⟨_, yb, vb, rb, db⟩ := (show ObjOk X.prog X.w H s.heap b (.dK ls) from eb.ok I.hok)
  have hl : va.length = vb.length := by rw [← ra.length, ← rb.length]; exact hlen
  exact PySem.W.keq_ne (knd := mixKind X.prog X.w) (r := true) ya yb da db hu (fun _ => hits_all rb ra hp) (fin_bl I q (by simp [hl]))
/-- a new dict is locked for good: it is only walked from here on -/
def tLk (t : TE) : TE := fun σ H Q => t σ H fun v H1 => ∃ d kvs, v = .ref d ∧ H1 d = some (.dK kvs) ∧ ∀ od, Q v (upd H1 d (.frz od (.dK kvs)))
theorem pe_lkEnd {e : Expr} {t : TE} (h : PE X e t) : PE X e (tLk t) := by
  refine ⟨fun pins s σ H Q I hw => ?_⟩
  refine thn (h.run pins s σ _ _ I hw) fun v s1 ⟨x, H1, I1, r, d, kvs, ex, hd, q⟩ => ?_
  obtain ⟨od, I2⟩ := I1.lock hd trivial
  exact ⟨x, _, I2, r, q od⟩
end
end MP

namespace RT
open PySem PySem.Spec PyProof.Rows L2
section
variable {prog : Program} {w : World} {A : Around} {E : Value → Shared → Prop} {s : Shared}
theorem mp_code_tuple_src {T : String} {r d : Addr} {n : Nat} {P : Nat → Value → Prop} {OK : Heap → Prop} {Q₁ : Value → Shared → Prop} (K : PySem.W.KdlSrc prog w T r d n P OK) (hh : A.handled = none) (hok : OK s.heap) (hn : n ≤ sizeLine)
    (h : ∀ (h' : Heap) (tk : Nat) (acc : Array Value), (∀ b o, s.heap.get? b = some o → h'.get? b = some o) → ItemsOf P acc n → Q₁ (.ref h'.objs.size) { s with heap := h'.push { cls := .type "tuple", data := .seq acc }, toks := tk }) :
    codeAny (model prog w) A (.call (.builtin "tuple.__new__") ⟨[.type "tuple", .ref r], []⟩) (wants Q₁ E) s := by
  refine codeAny_of_tree ?_
  show wpAny _ A.in1 (do checkBuiltinCall "tuple.__new__" ⟨[.type "tuple", .ref r], []⟩; again (.builtin "tuple.__new__" ⟨[.type "tuple", .ref r], []⟩)) _ _ s
  refine wpAny_bind (wpAny_of_eq (F.newCall_tuple_1 _) (wpAny_pure ⟨plainId_quiet F.plain_tuple_new _, codeAny_builtin F.entry_tuple_new ?_⟩))
  rw [Around.under_plainId F.plain_tuple_new _]
  have hsub := sub_tuple_self
  have hinit := init_tuple_lookup
  have hmh := madeHere_tuple
  have hTI : s.TypeIs (.ref r) T := K.type s hok
  have hnt := K.notTuple
  have hh1 : A.in1.handled = none := hh
  wp_walk using wpAny_typeOf hTI, PySem.W.kdu_collect (A := A.in1) K hh1 hok hn
  intro h' tk acc hk hacc
  show wpAny _ _ (Builtin.Tuple.tupleExact acc.toList.toArray >>= fun v => ret v) _ _ _
  unfold Builtin.Tuple.tupleExact
  refine wpAny_bind (wpAny_newObj_type ?_ (by show acc.toList.toArray.size ≤ sizeLine; simp only [Array.toArray_toList]; rw [hacc.1]; exact hn))
  refine wpAny_pure ?_
  have e : acc.toList.toArray = acc := by simp
  rw [e]
  exact h h' tk acc hk hacc
theorem mp_call_tuple_src {T : String} {r d : Addr} {n : Nat} {P : Nat → Value → Prop} {OK : Heap → Prop} {Q : Value → Shared → Prop} (K : PySem.W.KdlSrc prog w T r d n P OK) (hh : A.handled = none) (hok : OK s.heap) (hn : n ≤ sizeLine)
    (hQ : ∀ (h' : Heap) (tk : Nat) (acc : Array Value), (∀ b o, s.heap.get? b = some o → h'.get? b = some o) → ItemsOf P acc n → Q (.ref h'.objs.size) { s with heap := h'.push { cls := .type "tuple", data := .seq acc }, toks := tk }) :
    wpAny (model prog w) A (call (.type "tuple") [.ref r]) Q E s := by
  refine callType_codes (Q₁ := fun obj s₁ => s₁.TypeIs obj "tuple" ∧ Q obj s₁) F.called_tuple (F.typeCall_tuple_1 _) F.entry_object_init
    (mp_code_tuple_src (A := A.in1) K hh hok hn fun h' tk acc hk hacc => ⟨⟨_, Heap.get?_push_size _ rfl, rfl⟩, hQ h' tk acc hk hacc⟩) fun obj s₁ h₁ => ?_
  exact ⟨h₁.1, F.args_object_init_2 obj _, object_init_meets F.called_tuple.init.lookup F.called_tuple.made (by decide) prog w A.in1 _ s₁ ⟨h₁.1, rfl, h₁.2⟩⟩
end
end RT
namespace MP
open PySem PySem.Spec PyProof.Rows L2
section
variable {X : Cx}
/-- tuple(d): the keys -/
theorem call_tuple_dT (hc : X.calm = true) : CallR X (.type "tuple") (fun xs H Q => ∃ d kvs, xs = [V.ref d] ∧ Rd H d (.dT kvs) ∧ ∀ its n p bs, H p = none → IsKeys H kvs bs → Q (.ref p) (upd H p (kTup its n (bs.map V.ref)))) := by
  intro pins s σ H xs us Q I r h
  obtain ⟨d, kvs, rfl, hd, q⟩ := h
  obtain ⟨u, rfl, rx⟩ := r.one
  cases rx
  obtain ⟨z, hs, ks, pr, o, es, ep, ho, hx, hdt, he, hn⟩ := (show ObjOk X.prog X.w H s.heap d (.dT kvs) from hd.ok I.hok)
  have l1 : es.size = ks.length := size_of_entries he
  have l2 : kvs.length = ks.length := Paired.length pr
  refine RT.mp_call_tuple_src (kdl_raw hs hx hdt) (I.ok.hd hc) ho (by omega) fun h' tk acc' kp it => ?_
  obtain ⟨al, rfl⟩ : ∃ al : List Value, acc' = al.toArray := ⟨acc'.toList, by simp⟩
  have ea : al = ks.map fun x => Value.ref x.2.1 := by
    have hl : al.length = ks.length := by have := it.1; rw [List.size_toArray] at this; omega
    apply List.ext_getElem?
    intro j
    rw [List.getElem?_map]
    cases hj : al[j]? with
    | none =>
      have h1 := List.getElem?_eq_none_iff.mp hj
      rw [List.getElem?_eq_none (by omega)]
      all_goals rfl
    | some v =>
      obtain ⟨en, hen, hv⟩ := it.2 j v (by rw [List.getElem?_toArray]; exact hj)
      have qe := entry_at he j
      rw [hen] at qe
      cases hb : ks[j]? with
      | none =>
        rw [hb] at qe
        exact nomatch (show some en = none from qe)
      | some b =>
        rw [hb] at qe
        have e2 : en = entryOfKey (tupleKind (mixKind X.prog X.w)) b := Option.some.inj qe
        rw [hv, e2]
        all_goals rfl
  have eb : al = (ks.map fun x => x.2.1).map Value.ref := by rw [ea, List.map_map]; all_goals rfl
  have rv : Vals ((ks.map fun x => x.2.1).map V.ref) al := by rw [eb]; exact vals_refs _
  have hz : ((ks.map fun x => x.2.1).map V.ref).length ≤ sizeLine := by rw [List.length_map, List.length_map]; omega
  have I1 : Inv X pins σ H { s with heap := h', toks := tk } := I.kept (t' := tk) kp
  refine ⟨.ref h'.objs.size, _, I1.laid (t' := tk) (o := kTup al.toArray 0 ((ks.map fun x => x.2.1).map V.ref)) (fun b ob q => Heap.get?_push_of_some _ q) (Nat.le_refl _) ?_, rfl, q _ _ _ _ (I1.hok.fresh (Nat.le_refl _)) (isKeys_of pr)⟩
  exact kTup_ok rv hz
/-- len(d) -/
theorem call_len_dic : CallR X (.builtin "len") (fun xs H Q => (∃ p kvs, xs = [V.ref p] ∧ Rd H p (.dK kvs) ∧ Q (.int kvs.length) H) ∨ ∃ p kvs, xs = [V.ref p] ∧ Rd H p (.dT kvs) ∧ Q (.int kvs.length) H) := by
  intro pins s σ H xs us Q I r h
  rcases h with ⟨p, kvs, rfl, hp, q⟩ | ⟨p, kvs, rfl, hp, q⟩
  · obtain ⟨u, rfl, ru⟩ := vals1 r
    cases ru
    exact d_len I hp fun t s' I' => ⟨.int kvs.length, H, I', ⟨t, rfl⟩, q⟩
  · obtain ⟨u, rfl, rx⟩ := vals1 r
    obtain rfl : u = .ref p := rx
    obtain ⟨z, hd, ys, rel, dd⟩ := dt_rd I.hok hp
    have hl : kvs.length = ys.length := Paired.length rel
    refine call_len_dictH hd dd (by rw [← hl]; rw [sizeLine_eq] at z; omega) ?_
    rw [← hl]
    exact ⟨.int ((kvs.length : Nat) : Int), H, I.tok _, ⟨_, rfl⟩, q⟩
/-- t.index(x), t.index(x, lo): the first place of an equal one -/
def rTIx (K : Fg) : V → List V → Hp → VK → Prop := fun x xs H Q => ∃ (a : Addr) (y : V) (d : PyData) (ds : List PyData) (j : Nat) (z : PyData) (lo : Nat), x = V.ref a ∧ ((xs = [y] ∧ lo = 0) ∨ xs = [y, .int (lo : Int)]) ∧ Dp K H (V.ref a) (.tuple ds) ∧ Dp K H y d ∧
  SeqAt.shaped (.tuple ds) = true ∧ SeqAt.shaped d = true ∧ ds[j]? = some z ∧ PyData.eqv z d = true ∧ lo ≤ j ∧ (∀ (m : Nat) (z' : PyData), lo ≤ m → m < j → ds[m]? = some z' → PyData.eqv z' d = false) ∧ Q (.int (j : Nat)) H
theorem mt_tindex (hu : X.A.units + 65 < cLine) : MtR X "tuple.index" (rTIx X.K) := by
  intro pins s σ H x xs v us Q I rx rxs h
  obtain ⟨a, y, d, ds, j, z, lo, rfl, hxs, hl, hy, sl, sd, hz, hzj, hlo, hno, q⟩ := h
  cases rx
  have hlay : PyData.canLayAll0 ds = true := SeqAt.canLay_of_shaped sl
  have hroom : X.A.units + 1 + min (PyData.depthAll ds) d.depth < cLine := room_in_shaped sd hu
  cases hl with
  | tup hs ha =>
    obtain ⟨its, rv, ⟨⟨cls, dd, data, sls⟩, ho, hc, n, hdt⟩, hlen⟩ := I.tuple hs
    simp only at hc hdt
    subst hc hdt
    obtain ⟨as, h4⟩ := Dp.readsAll I ds _ its ha rv
    have hn : its.length = ds.length := SeqAt.ReadsAll.length ds its as h4
    have hmap : its.map (SeqAt.readOf s.heap) = ds := SeqAt.readsAll_map ds its as hlay h4
    obtain ⟨hjd, _⟩ := List.getElem?_eq_some_iff.mp hz
    have hj : j < its.toArray.size := by rw [List.size_toArray]; omega
    have at_ : ∀ (m : Nat) (hm : m < its.toArray.size) (z' : PyData), ds[m]? = some z' → SeqAt.readOf s.heap its.toArray[m] = z' := by
      intro m hm z' hz'
      have hml : m < its.length := by simpa using hm
      rw [← hmap, List.getElem?_map, List.getElem?_eq_getElem hml] at hz'
      have e1 : SeqAt.readOf s.heap its[m] = z' := Option.some.inj (show some (SeqAt.readOf s.heap its[m]) = some z' from hz')
      simpa using e1
    have hit : ∀ (e : Nat → Bool), e = (fun m => if h : m < its.toArray.size then PyData.eqv (SeqAt.readOf s.heap its.toArray[m]) d else false) → e j = true ∧ (∀ m (hm : m < its.toArray.size), lo ≤ m → m < j → e m = false) := fun e he => by
      subst he
      refine ⟨?_, fun m hm h1 h2 => ?_⟩
      · simp only [hj, dif_pos]
        rw [at_ j hj z hz]
        exact hzj
      · simp only [hm, dif_pos]
        have hmd : m < ds.length := by rw [List.size_toArray] at hm; omega
        have hz' : ds[m]? = some ds[m] := List.getElem?_eq_getElem hmd
        rw [at_ m hm _ hz']
        exact hno m _ h1 h2 hz'
    obtain ⟨h1, h2⟩ := hit _ rfl
    have eqs : ∀ uy, (∃ bs, Reads s.heap uy d bs) → ∀ m (hm : m < its.toArray.size), SeqAt.EqAt X.A.in1 s its.toArray[m] uy (if h : m < its.toArray.size then PyData.eqv (SeqAt.readOf s.heap its.toArray[m]) d else false) := fun uy ⟨bs, r1⟩ m hm => by
      rw [dif_pos hm]
      exact SeqAt.items_eqAt (vs := its.toArray) (show ReadsAll s.heap its.toArray.toList ds as from h4) r1 hlay (SeqAt.canLay_of_shaped sd) hroom its.toArray[m] (Array.getElem_mem hm)
    rcases hxs with ⟨rfl, rfl⟩ | rfl
    · obtain ⟨uy, rfl, ry⟩ := rxs.one
      have r1 := Dp.reads I d y uy hy ry
      exact call_meets PySem.F.slot_tuple_index ⟨_, ho, rfl⟩ PySem.F.entry_tuple_index (PySem.F.args_tuple_index_2 _ _)
        (SeqAt.tuple_index2_found a its.toArray n dd sls uy (fun m => if h : m < its.toArray.size then PyData.eqv (SeqAt.readOf s.heap its.toArray[m]) d else false) j hj (Nat.zero_le _) hj h1 h2) ⟨ho, eqs uy r1, ⟨.int (j : Nat), H, I.tok _, ⟨_, rfl⟩, q⟩⟩
    · obtain ⟨uy, ui, rfl, ry, ri⟩ := rxs.two
      obtain ⟨t, rfl⟩ := ri
      have r1 := Dp.reads I d y uy hy ry
      exact call_meets PySem.F.slot_tuple_index ⟨_, ho, rfl⟩ PySem.F.entry_tuple_index (PySem.F.args_tuple_index_3 _ _ _)
        (SeqAt.tuple_index3_found a its.toArray n dd sls uy (fun m => if h : m < its.toArray.size then PyData.eqv (SeqAt.readOf s.heap its.toArray[m]) d else false) (lo : Int) t j hj (by rw [SeqAt.searchFrom_nat]; exact hlo) hj h1 (by rw [SeqAt.searchFrom_nat]; exact h2)) ⟨ho, eqs uy r1, ⟨.int (j : Nat), H, I.tok _, ⟨_, rfl⟩, q⟩⟩
end
end MP

namespace MP
open PySem PySem.Spec PyProof.Rows L2

/-! ### operators: the rule of each, and its use on data -/
def rBin (K : Fg) : BOp → R2
  | .add => fun x y H Q => rI0 (fun i j => .int (i + j)) x y H Q ∨ rCat x y H Q ∨ rCatF K x y H Q
  | .sub => rI0 fun i j => .int (i - j)
  | .mul => fun x y H Q => rI CMul (fun i j => .int (i * j)) x y H Q ∨ rRepF K x y H Q
  | .fdiv => rI CDiv fun i j => .int (i / j)
  | .mod => rI (fun _ j => 0 < j) fun i j => .int (i % j)
  | .pow => rI CPow fun i j => .int (i ^ j.toNat)
theorem op_bin {X : Cx} {o : BOp} {p : Operator} (h : bopB o p = true) : OpR X (binaryOp p) (rBin X.K o) := by
  cases o <;> cases p <;> first
    | exact absurd (show false = true from h) Bool.false_ne_true
    | skip
  · exact OpR.or op_add (OpR.or op_cat op_catF)
  · exact op_sub
  · exact OpR.or op_mul op_repF
  · exact op_fdiv
  · exact op_mod
  · exact op_pow
section
variable {K : Fg} {cl : ClsOf} {W : WK} {ms : List Addr} {Z H : Hp} {G : Gs} {σ : Sg} {x y : V} {a b d : D} {Q : VK}
theorem Reps.flatten : ∀ (k : Nat) {ds : List D} {xs : List V}, Reps K ms Z ds xs → Reps K ms Z (List.replicate k ds).flatten (List.replicate k xs).flatten
  | 0, _, _, _ => .nil
  | k + 1, ds, xs, r => by
    rw [List.replicate_succ, List.replicate_succ, List.flatten_cons, List.flatten_cons]
    exact r.append (Reps.flatten k r)
theorem Reps.nil_iff {ds : List D} {xs : List V} (r : Reps K ms Z ds xs) : ds = [] ↔ xs = [] := by
  have := r.len
  constructor <;> intro h <;> subst h
  · exact List.eq_nil_of_length_eq_zero (by simpa using this.symm)
  · exact List.eq_nil_of_length_eq_zero (by simpa using this)
theorem bin_use {o : BOp} (e : binD o a b = some d) (w : WOk K cl ms Z H G) (ra : BRep K ms Z H a x) (rb : BRep K ms Z H b y) (p : PostR K cl W (MRep K .gen) σ ms Z H (.ok d G) Q) : rBin K o x y H Q := by
  have hs : sizeLine = 16777216 := sizeLine_eq
  unfold binD at e
  split at e
  · cases e; rw [ra.int, rb.int]; exact .inl ⟨_, _, rfl, rfl, p.int w⟩
  · split at e
    · rename_i k xs l ys hl
      have hl' : xs.length + ys.length < 1000000 := hl
      obtain ⟨a1, us, rfl, h1, r1, z1⟩ := ra.tup w
      obtain ⟨a2, vs, rfl, h2, r2, z2⟩ := rb.tup w
      have l1 := r1.len
      have l2 := r2.len
      refine .inr (.inr ⟨a1, a2, us, vs, rfl, rfl, h1, h2, by omega, fun h => ?_, fun h h' => ?_, fun h h' its n q nq => ?_⟩)
      · rw [← r1.nil_iff] at h
        rw [if_pos h] at e; cases e
        exact p.val w (rb.rep rfl)
      · replace h : xs ≠ [] := fun z => h (r1.nil_iff.mp z)
        rw [← r2.nil_iff] at h'
        rw [if_neg h, if_pos h'] at e; cases e
        exact p.val w (ra.rep rfl)
      · replace h : xs ≠ [] := fun z => h (r1.nil_iff.mp z)
        replace h' : ys ≠ [] := fun z => h' (r2.nil_iff.mp z)
        rw [if_neg h, if_neg h'] at e; cases e
        exact PostR.tupF its n p w (r1.append r2) q nq
    · cases e
  · split at e
    · rename_i xs ys hl
      have hl' : xs.length + ys.length < 1000000 := hl
      cases e
      obtain ⟨a1, us, rfl, h1, r1⟩ := ra.lst w
      obtain ⟨a2, vs, rfl, h2, r2⟩ := rb.lst w
      have l1 := r1.len
      have l2 := r2.len
      exact .inr (.inl ⟨a1, a2, us, vs, rfl, rfl, h1, h2, by omega, fun q n => p.lstG w (r1.append r2) q n⟩)
    · cases e
  · cases e; rw [ra.int, rb.int]; exact ⟨_, _, rfl, rfl, p.int w⟩
  · split at e
    · rename_i h
      cases e; rw [ra.int, rb.int]
      refine .inl ⟨_, _, rfl, rfl, ?_, p.int w⟩
      rcases h with h | h
      · exact .inl ⟨by omega, by omega⟩
      · exact .inr ⟨by omega, by omega⟩
    · cases e
  · split at e
    · rename_i h
      cases e
      obtain ⟨a1, us, rfl, h1, r1, z1⟩ := ra.tup w
      rw [rb.int]
      have l1 := r1.len
      exact .inr ⟨a1, _, us, rfl, rfl, h1, fun z => h.1 (r1.nil_iff.mpr z), h.2.1, h.2.2.1, by omega, fun its n q nq => PostR.tupF its n p w (r1.flatten _) q nq⟩
    · cases e
  · split at e
    · rename_i h
      cases e; rw [ra.int, rb.int]
      exact ⟨_, _, rfl, rfl, h, p.int w⟩
    · cases e
  · split at e
    · rename_i h
      cases e; rw [ra.int, rb.int]
      exact ⟨_, _, rfl, rfl, h, p.int w⟩
    · cases e
  · split at e
    · rename_i h
      cases e; rw [ra.int, rb.int]
      exact ⟨_, _, rfl, rfl, ⟨h.1, by omega, by omega⟩, p.int w⟩
    · cases e
  · cases e
theorem cat_use (e : catD a b = some d) (w : WOk K cl ms Z H G) (ra : BRep K ms Z H a x) (rb : BRep K ms Z H b y) (p : PostR K cl W (MRep K .frs) σ ms Z H (.ok d G) Q) : rCat x y H Q := by
  have hs : sizeLine = 16777216 := sizeLine_eq
  unfold catD at e
  split at e
  · split at e
    · rename_i xs ys hl
      have hl' : xs.length + ys.length < 1000000 := hl
      cases e
      obtain ⟨a1, us, rfl, h1, r1⟩ := ra.lst w
      obtain ⟨a2, vs, rfl, h2, r2⟩ := rb.lst w
      have l1 := r1.len
      have l2 := r2.len
      exact ⟨a1, a2, us, vs, rfl, rfl, h1, h2, by omega, fun q n => p.lst w (r1.append r2) q n⟩
    · cases e
  · cases e
theorem rep_use (e : repD a b = some d) (w : WOk K cl ms Z H G) (ra : BRep K ms Z H a x) (rb : BRep K ms Z H b y) (p : PostR K cl W (MRep K .frs) σ ms Z H (.ok d G) Q) : rRep x y H Q := by
  have hs : sizeLine = 16777216 := sizeLine_eq
  unfold repD at e
  split at e
  · split at e
    · rename_i xs k hl
      cases e
      obtain ⟨a1, us, rfl, h1, r1⟩ := ra.lst w
      rw [rb.int]
      have l1 := r1.len
      refine ⟨a1, _, us, rfl, rfl, h1, by omega, by omega, ?_, fun q n => p.lst w (r1.flatten _) q n⟩
      have a1 : us.length * k.toNat ≤ 1000 * 1000 := Nat.mul_le_mul (by omega) (by omega)
      omega
    · cases e
  · cases e

/-! comparisons -/
def rIs (neg : Bool) : R2 := fun x y H Q => y = .non ∧ Q (.bl (if neg then !decide (x = .non) else decide (x = .non))) H
def rCmp (K : Fg) : COp → R2
  | .eq => fun x y H Q => rEqD K x y H Q ∨ rDD true x y H Q
  | .ne => fun x y H Q => rNeD K x y H Q ∨ rDD false x y H Q
  | .lt => rI0 fun i j => .bl (decide (i < j))
  | .le => rI0 fun i j => .bl (decide (i ≤ j))
  | .gt => rI0 fun i j => .bl (decide (j < i))
  | .ge => rI0 fun i j => .bl (decide (j ≤ i))
  | .isin => fun x y H Q => rInD K x y H Q ∨ (∃ d ds, Dp K H x d ∧ Dp K H y (.tuple ds) ∧ SeqAt.shaped d = true ∧ SeqAt.shaped (.tuple ds) = true ∧ Q (.bl (ds.any fun z => PyData.eqv z d)) H) ∨ ∃ a o, y = .ref a ∧ DGet H a x o ∧ Q (.bl o.isSome) H
  | .notin => fun x y H Q => rNotInD K x y H Q ∨ (∃ d ds, Dp K H x d ∧ Dp K H y (.tuple ds) ∧ SeqAt.shaped d = true ∧ SeqAt.shaped (.tuple ds) = true ∧ Q (.bl (!ds.any fun z => PyData.eqv z d)) H) ∨ ∃ a o, y = .ref a ∧ DGet H a x o ∧ Q (.bl (!o.isSome)) H
  | .iss => fun x y H Q => (y = .non ∧ Q (.bl (decide (x = .non))) H) ∨ rIsB x y H Q
  | .isnot => fun x y H Q => (y = .non ∧ Q (.bl (!decide (x = .non))) H) ∨ rNotB x y H Q
theorem op_cmp {X : Cx} {o : COp} {p : CmpOp} (hu : X.A.units + 65 < cLine) (h : copB o p = true) : OpR X (compareOp p) (rCmp X.K o) := by
  cases o <;> cases p <;> first
    | exact absurd (show false = true from h) Bool.false_ne_true
    | skip
  · exact OpR.or (op_eqD (by omega)) (op_eqDD (by omega))
  · exact OpR.or (op_neD (by omega)) (op_neDD (by omega))
  · exact op_lt
  · exact op_le
  · exact op_gt
  · exact op_ge
  · exact OpR.or (op_inD hu) (OpR.or (op_inDT hu) (op_inDict (by omega)))
  · exact OpR.or (op_notInD hu) (OpR.or (op_notInDT hu) (op_notInDict (by omega)))
  · exact OpR.or op_isN op_isBl
  · exact OpR.or op_notN op_notBl
def isNon : D → Bool
  | .non => true
  | _ => false
theorem nonrep (h : BRep K ms Z H a x) : decide (x = .non) = isNon a := by
  rcases h with h | ⟨p, rfl, _, _, o⟩
  · cases a <;> simp only [Rep] at h <;> first
      | (subst h; rfl)
      | (obtain ⟨p, _, rfl, _⟩ := h; rfl)
      | (obtain ⟨p, rfl, _⟩ := h; rfl)
      | (obtain ⟨p, _, rfl⟩ := h; rfl)
  · cases a <;> first
      | exact False.elim o
      | rfl
theorem lookP_mem {κ : Type} [DecidableEq κ] : ∀ (ks : List κ) (vs : List D) (k : κ), ks.length = vs.length → (lookP ks vs k).isSome = ks.any fun j => decide (j = k)
  | [], vs, k, _ => by cases vs <;> simp [lookP]
  | j :: ks, [], k, h => by simp at h
  | j :: ks, v :: vs, k, h => by
    rw [lookP, List.any_cons]
    by_cases q : j = k
    · rw [if_pos q, decide_eq_true q]; rfl
    · rw [if_neg q, decide_eq_false q, lookP_mem ks vs k (by simpa using h)]; rfl
theorem RelOD.isSome {o : Option D} {v : Option V} (h : RelOD K ms Z o v) : v.isSome = o.isSome := by
  cases o <;> cases v <;> first
    | rfl
    | exact False.elim h
theorem in_dic {c : Bool} (e : inD a b = some c) (w : WOk K cl ms Z H G) (ra : BRep K ms Z H a x) (rb : BRep K ms Z H b y) :
    (∃ ds, Dp K H x (py a) ∧ Dp K H y (.list (pys ds)) ∧ SeqAt.shaped (py a) = true ∧ SeqAt.shaped (.list (pys ds)) = true ∧ c = (pys ds).any fun z => PyData.eqv z (py a)) ∨
    (∃ ds, Dp K H x (py a) ∧ Dp K H y (.tuple (pys ds)) ∧ SeqAt.shaped (py a) = true ∧ SeqAt.shaped (.tuple (pys ds)) = true ∧ c = (pys ds).any fun z => PyData.eqv z (py a)) ∨ ∃ p o, y = .ref p ∧ DGet H p x o ∧ c = o.isSome := by
  unfold inD at e
  split at e
  · split at e
    · rename_i ds h
      rw [Bool.and_eq_true] at h
      cases e
      obtain ⟨p, xs, rfl, h1, r1⟩ := rb.lst w
      exact .inl ⟨ds, ra.dp w h.1, .lst (.of h1) (Reps.dp w 40 ds xs h.2 r1), plain_shaped h.1, okDs_shaped h.2, (any_pys a ds).symm⟩
    · cases e
  · split at e
    · rename_i k ds h
      rw [Bool.and_eq_true] at h
      cases e
      obtain ⟨p, xs, rfl, h1, r1, _⟩ := rb.tup w
      exact .inr (.inl ⟨ds, ra.dp w h.1, .tup h1 (Reps.dp w 40 ds xs h.2 r1), plain_shaped h.1, okDs_shapedT h.2, (any_pys a ds).symm⟩)
    · cases e
  · rename_i ks vs
    cases ek : keyOf a with
    | none => rw [ek] at e; cases e
    | some k =>
      rw [ek] at e; cases e
      obtain ⟨p, xs, rfl, l, h1, r1⟩ := rb.dK w
      have e1 := keyOf_v ek (ra.rep (by cases a <;> first | rfl | cases ek))
      refine .inr (.inr ⟨p, valV (ks.zip xs) k, rfl, .inl ⟨_, k, h1, e1, rfl⟩, ?_⟩)
      rw [(lookP_v k l r1).isSome, lookP_mem ks vs k (by rw [l, r1.len])]
  · rename_i ks vs
    cases ek : tkeyOf a with
    | none => rw [ek] at e; cases e
    | some k =>
      rw [ek] at e; cases e
      obtain ⟨p, xs, rfl, l, h1, r1⟩ := rb.dT w
      obtain ⟨q, e1, e2⟩ := tkeyOf_v w ek (ra.rep (by cases a <;> first | rfl | cases ek))
      refine .inr (.inr ⟨p, valV (ks.zip xs) k, rfl, .inr ⟨_, k, q, h1, e1, e2, rfl⟩, ?_⟩)
      rw [(lookP_v k l r1).isSome, lookP_mem ks vs k (by rw [l, r1.len])]
  · cases e
theorem dkSame_use (e : dkSame a b = true) (w : WOk K cl ms Z H G) (ra : BRep K ms Z H a x) (rb : BRep K ms Z H b y) :
    ∃ p q kvs lvs, x = .ref p ∧ y = .ref q ∧ Rd H p (.dK kvs) ∧ Rd H q (.dK lvs) ∧ kvs.length = lvs.length ∧ ∀ z ∈ kvs, valV lvs z.1 = some z.2 ∧ flatB z.2 = true := by
  cases a <;> first
    | (cases e; done)
    | skip
  cases b <;> first
    | (cases e; done)
    | skip
  rename_i ks vs ls us
  simp only [dkSame, Bool.and_eq_true, decide_eq_true_eq, List.all_eq_true] at e
  obtain ⟨⟨e1, e2⟩, e3⟩ := e
  obtain ⟨p, xs, rfl, l1, h1, r1⟩ := ra.dK w
  obtain ⟨q, ys, rfl, l2, h2, r2⟩ := rb.dK w
  refine ⟨p, q, _, _, rfl, rfl, h1, h2, by rw [List.length_zip, List.length_zip]; omega, fun z hz => ?_⟩
  obtain ⟨i, hi, rfl⟩ := List.getElem_of_mem hz
  rw [List.length_zip] at hi
  rw [List.getElem_zip]
  have hv : i < vs.length := by omega
  obtain ⟨xv, ex, rx⟩ := r1.getD (List.getElem?_eq_getElem hv)
  rw [List.getElem?_eq_getElem (by omega)] at ex
  cases ex
  have e4 := e3 (ks[i], vs[i]) (by
    rw [← List.getElem_zip (l := ks) (l' := vs) (i := i) (h := by rw [List.length_zip]; omega)]
    exact List.getElem_mem _)
  simp only at e4
  have hl := lookP_v (K := K) (ms := ms) (Z := Z) ks[i] l2 r2
  generalize vs[i] = d1 at e4 rx
  generalize lookP ls us ks[i] = d2 at e4 hl
  cases d1 <;> first
    | (cases e4; done)
    | skip
  cases d2 with
  | none => cases e4
  | some d2 =>
    cases d2 <;> first
      | (cases e4; done)
      | skip
    rename_i j1 j2
    have ej : j1 = j2 := by simpa using e4
    subst ej
    simp only [Rep] at rx
    cases hv2 : valV (ls.zip ys) ks[i] with
    | none => rw [hv2] at hl; exact hl.elim
    | some v2 =>
      rw [hv2] at hl
      have hl : Rep K ms Z (.int j1) v2 := hl
      simp only [Rep] at hl
      rw [hl, rx]
      exact ⟨rfl, rfl⟩
theorem cmp_use {o : COp} {c : Bool} (e : cmpD o a b = some c) (w : WOk K cl ms Z H G) (ra : BRep K ms Z H a x) (rb : BRep K ms Z H b y) (q : Q (.bl c) H) : rCmp K o x y H Q := by
  unfold cmpD at e
  split at e
  · split at e
    · rename_i h
      rw [Bool.and_eq_true] at h
      cases e
      exact .inl ⟨_, _, ra.dp w h.1, rb.dp w h.2, plain_shaped h.1, plain_shaped h.2, q⟩
    · split at e
      · rename_i h
        cases e
        obtain ⟨p, r, kvs, lvs, h1, h2, h3, h4, h5, h6⟩ := dkSame_use h w ra rb
        exact .inr ⟨p, r, kvs, lvs, h1, h2, h3, h4, h5, h6, q⟩
      · cases e
  · split at e
    · rename_i h
      rw [Bool.and_eq_true] at h
      cases e
      exact .inl ⟨_, _, ra.dp w h.1, rb.dp w h.2, plain_shaped h.1, plain_shaped h.2, q⟩
    · split at e
      · rename_i h
        cases e
        obtain ⟨p, r, kvs, lvs, h1, h2, h3, h4, h5, h6⟩ := dkSame_use h w ra rb
        exact .inr ⟨p, r, kvs, lvs, h1, h2, h3, h4, h5, h6, q⟩
      · cases e
  · cases e; rw [ra.int, rb.int]; exact ⟨_, _, rfl, rfl, q⟩
  · cases e; rw [ra.int, rb.int]; exact ⟨_, _, rfl, rfl, q⟩
  · cases e; rw [ra.int, rb.int]; exact ⟨_, _, rfl, rfl, q⟩
  · cases e; rw [ra.int, rb.int]; exact ⟨_, _, rfl, rfl, q⟩
  · rcases in_dic e w ra rb with ⟨ds, h1, h2, h3, h4, rfl⟩ | ⟨ds, h1, h2, h3, h4, rfl⟩ | ⟨p, o, h1, h2, rfl⟩
    · exact .inl ⟨_, _, h1, h2, h3, h4, q⟩
    · exact .inr (.inl ⟨_, _, h1, h2, h3, h4, q⟩)
    · exact .inr (.inr ⟨p, o, h1, h2, q⟩)
  · cases e2 : inD a b with
    | none => rw [e2] at e; cases e
    | some c' =>
      rw [e2] at e; cases e
      rcases in_dic e2 w ra rb with ⟨ds, h1, h2, h3, h4, rfl⟩ | ⟨ds, h1, h2, h3, h4, rfl⟩ | ⟨p, o, h1, h2, rfl⟩
      · exact .inl ⟨_, _, h1, h2, h3, h4, q⟩
      · exact .inr (.inl ⟨_, _, h1, h2, h3, h4, q⟩)
      · exact .inr (.inr ⟨p, o, h1, h2, q⟩)
  · cases e; rw [ra.bl, rb.bl]; exact .inr ⟨_, _, rfl, rfl, q⟩
  · cases e; rw [ra.bl, rb.bl]; exact .inr ⟨_, _, rfl, rfl, q⟩
  · cases e
    refine .inl ⟨rb.non, ?_⟩
    rw [nonrep ra]
    cases a <;> exact q
  · cases e
    refine .inl ⟨rb.non, ?_⟩
    rw [nonrep ra]
    cases a <;> exact q
  · cases e
end
end MP

namespace MP
open PySem PySem.Spec PyProof.Rows L2

section
variable {K : Fg} {cl : ClsOf} {W : WK} {ms : List Addr} {Z H : Hp} {G : Gs} {σ : Sg} {x y : V} {a b d : D} {ds : List D} {xs : List V} {Q : VK}

/-! ### subscripts -/
theorem atI_rep {i : Int} (r : Reps K ms Z ds xs) (e : atI ds i = some d) : ∃ v, atI xs i = some v ∧ Rep K ms Z d v := by
  unfold atI at e ⊢
  rw [← r.len]
  cases q : ixN ds.length i with
  | none => rw [q] at e; cases e
  | some j => rw [q] at e; exact r.getD e
def rIdx (K : Fg) : R2 := fun x y H Q => (rIxL K x y H Q ∨ rIxT K x y H Q) ∨ ∃ a v, x = .ref a ∧ DGet H a y (some v) ∧ Q v H
theorem op_idx {X : Cx} (hu : X.A.units + 1 < cLine) : IxR X (rIdx X.K) := IxR.or (IxR.or ix_list ix_tup) (ix_dict hu)
theorem RelOD.of_some {v : Option V} (h : RelOD K ms Z (some d) v) : ∃ u, v = some u ∧ Rep K ms Z d u := by
  cases v with
  | none => exact False.elim h
  | some u => exact ⟨u, rfl, h⟩
theorem idx_use (e : idxD G a b = some d) (w : WOk K cl ms Z H G) (ra : BRep K ms Z H a x) (rb : Rep K ms Z b y) (p : PostR K cl W (MRep K .gen) σ ms Z H (.ok d G) Q) : rIdx K x y H Q := by
  unfold idxD at e
  split at e
  · obtain ⟨q, us, rfl, h1, r1⟩ := ra.lst w
    obtain ⟨v, e1, r2⟩ := atI_rep r1 e
    rw [(BRep.of (H := H) rb).int]
    exact .inl (.inl ⟨q, us, _, v, rfl, rfl, .of h1, e1, p.val w r2⟩)
  · obtain ⟨q, us, rfl, h1, r1, _⟩ := ra.tup w
    obtain ⟨v, e1, r2⟩ := atI_rep r1 e
    rw [(BRep.of (H := H) rb).int]
    exact .inl (.inr ⟨q, us, _, v, rfl, rfl, h1, e1, p.val w r2⟩)
  · rename_i is i
    obtain ⟨q, rfl, h1⟩ := ra.scr w
    rw [(BRep.of (H := H) rb).int]
    cases e2 : atI is i with
    | none => rw [e2] at e; cases e
    | some k =>
      rw [e2] at e; cases e
      refine .inl (.inl ⟨q, _, _, .int k, rfl, rfl, h1, ?_, p.int w⟩)
      unfold atI at e2 ⊢
      rw [List.length_map]
      cases q2 : ixN is.length i with
      | none => rw [q2] at e2; cases e2
      | some j =>
        rw [q2] at e2
        have e3 : is[j]? = some k := e2
        show (is.map V.int)[j]? = some (V.int k)
        rw [List.getElem?_map, e3]; rfl
  · obtain ⟨q, us, rfl, h1, r1⟩ := ra.ctp w
    obtain ⟨v, e1, r2⟩ := atI_rep r1 e
    rw [(BRep.of (H := H) rb).int]
    exact .inl (.inr ⟨q, us, _, v, rfl, rfl, h1, e1, p.val w r2⟩)
  · rename_i ks vs
    cases ek : keyOf b with
    | none => rw [ek] at e; cases e
    | some k =>
      rw [ek] at e
      obtain ⟨q, us, rfl, l, h1, r1⟩ := ra.dK w
      have lr := lookP_v k l r1
      have e' : lookP ks vs k = some d := e
      rw [e'] at lr
      obtain ⟨u, e2, r2⟩ := lr.of_some
      exact .inr ⟨q, u, rfl, .inl ⟨_, k, h1, keyOf_v ek rb, e2.symm⟩, p.val w r2⟩
  · rename_i ks vs
    cases ek : tkeyOf b with
    | none => rw [ek] at e; cases e
    | some k =>
      rw [ek] at e
      obtain ⟨q, us, rfl, l, h1, r1⟩ := ra.dT w
      have lr := lookP_v k l r1
      have e' : lookP ks vs k = some d := e
      rw [e'] at lr
      obtain ⟨u, e2, r2⟩ := lr.of_some
      obtain ⟨c, e3, e4⟩ := tkeyOf_v w ek rb
      exact .inr ⟨q, u, rfl, .inr ⟨_, k, c, h1, e3, e4, e2.symm⟩, p.val w r2⟩
  · rename_i n i
    split at e
    · rename_i dl eg
      have hr := ra.rep rfl
      simp only [Rep] at hr
      obtain ⟨q, em, rfl⟩ := hr
      have c := w.gl n q _ em eg
      simp only [CellRep] at c
      obtain ⟨us, h1, r1⟩ := c
      obtain ⟨v, e1, r2⟩ := atI_rep r1 e
      rw [(BRep.of (H := H) rb).int]
      exact .inl (.inl ⟨q, us, _, v, rfl, rfl, .of h1, e1, p.val w r2⟩)
    · cases e
  · cases e

/-! slices -/
def rSlc (K : Fg) : V → Option Int → Option Int → Hp → VK → Prop := fun x lo hi H Q => rSlL K x lo hi H Q ∨ rSlF K x lo hi H Q
theorem op_slc {X : Cx} : SlR X (rSlc X.K) := SlR.or sl_list sl_tupF
theorem cut_rep {lo hi : Option Int} (r : Reps K ms Z ds xs) : Reps K ms Z (cutD ds lo hi) (cutV xs lo hi) := by
  unfold cutD cutV
  rw [r.len]
  exact (r.drop _).take _
theorem cutD_all {lo hi : Option Int} (h : HT.sIx ds.length 0 lo = 0 ∧ HT.sIx ds.length ds.length hi = ds.length) : cutD ds lo hi = ds := by
  unfold cutD
  rw [h.1, h.2]
  simp
theorem slc_use {lo hi : Option Int} (e : slcD lo hi a = some d) (w : WOk K cl ms Z H G) (ra : BRep K ms Z H a x) (p : PostR K cl W (MRep K .gen) σ ms Z H (.ok d G) Q) : rSlc K x lo hi H Q := by
  unfold slcD at e
  split at e
  · cases e
    obtain ⟨q, us, rfl, h1, r1⟩ := ra.lst w
    exact .inl ⟨q, us, rfl, .of h1, fun c n => p.lstG w (cut_rep r1) c n⟩
  · rename_i k dl
    cases e
    obtain ⟨q, us, rfl, h1, r1, z⟩ := ra.tup w
    refine .inr ⟨q, us, rfl, h1, fun hh => ?_, fun hh its n c nc => ?_⟩
    · rw [← r1.len] at hh
      rw [if_pos hh, cutD_all hh] at p
      exact p.val w (ra.rep rfl)
    · rw [← r1.len] at hh
      rw [if_neg hh] at p
      exact PostR.tupF its n p w (cut_rep r1) c nc
  · cases e

/-! truth -/
theorem truth_use {c : Bool} (e : truth a = some c) (w : WOk K cl ms Z H G) (ra : BRep K ms Z H a x) : TruV K x H c := by
  unfold truth at e
  split at e
  · cases e; rw [ra.non]; rfl
  · cases e; rw [ra.bl]; rfl
  · cases e; rw [ra.int]; rfl
  · cases e
    rename_i dl
    obtain ⟨q, us, rfl, h1, r1, z⟩ := ra.tup w
    have l := r1.len
    exact .inr (.inl ⟨us, h1, by cases dl <;> cases us <;> first | rfl | simp at l⟩)
  · cases e
    rename_i dl
    obtain ⟨q, us, rfl, h1, r1⟩ := ra.lst w
    have l := r1.len
    exact .inl ⟨us, .of h1, by cases dl <;> cases us <;> first | rfl | simp at l⟩
  · cases e

/-! ### built-in functions -/
def primV : Prim → Value
  | .len1 => .builtin "len"
  | .abs1 => .builtin "abs"
  | .int1 => .type "int"
  | .sum1 => .builtin "sum"
  | .all1 => .builtin "all"
  | .max1 => .builtin "max"
  | .min1 => .builtin "min"
  | .max2 => .builtin "max"
  | .min2 => .builtin "min"
  | .tuple1 => .type "tuple"
  | .list1 => .type "list"
  | .sorted1 => .builtin "sorted"
  | .dict1 => .type "dict"
def rPrim (K : Fg) : Prim → List V → Hp → VK → Prop
  | .len1 => fun xs H Q => (∃ p ys, xs = [.ref p] ∧ (SqL K H p ys ∨ SqT K H p ys) ∧ Q (.int ys.length) H) ∨ (∃ p kvs, xs = [V.ref p] ∧ Rd H p (.dK kvs) ∧ Q (.int kvs.length) H) ∨ ∃ p kvs, xs = [V.ref p] ∧ Rd H p (.dT kvs) ∧ Q (.int kvs.length) H
  | .abs1 => fun xs H Q => ∃ i, xs = [.int i] ∧ Q (.int (if i < 0 then -i else i)) H
  | .int1 => fun xs H Q => (∃ i, xs = [.int i] ∧ Q (.int i) H) ∨ ∃ k, xs = [.bl k] ∧ Q (.int (if k then 1 else 0)) H
  | .sum1 => rSum K
  | .all1 => rAll K
  | .max1 => rMax K
  | .min1 => rMin K
  | .max2 => fun xs H Q => ∃ i j, xs = [.int i, .int j] ∧ Q (.int (if j > i then j else i)) H
  | .min2 => fun xs H Q => ∃ i j, xs = [.int i, .int j] ∧ Q (.int (if j < i then j else i)) H
  | .tuple1 => fun xs H Q => (∃ p ys, xs = [.ref p] ∧ SqL K H p ys ∧ ∀ its n l, H l = none → Q (.ref l) (upd H l (kTup its n ys))) ∨ (∃ a ys, xs = [.ref a] ∧ SqT K H a ys ∧ Q (.ref a) H) ∨ ∃ d kvs, xs = [V.ref d] ∧ Rd H d (.dT kvs) ∧ ∀ its n p bs, H p = none → IsKeys H kvs bs → Q (.ref p) (upd H p (kTup its n (bs.map V.ref)))
  | .list1 => fun xs H Q => (∃ p ys, xs = [.ref p] ∧ (SqL K H p ys ∨ SqT K H p ys) ∧ ∀ l, H l = none → Q (.ref l) (upd H l (.lst ys))) ∨ ∃ d kvs, xs = [V.ref d] ∧ Rd H d (.dT kvs) ∧ ∀ p bs, H p = none → IsKeys H kvs bs → Q (.ref p) (upd H p (.lst (bs.map V.ref)))
  | .sorted1 => rSortedI K
  | .dict1 => fun xs H Q => ∃ (a : Addr) (kvs : List (Key × V)), xs = [.ref a] ∧ Rd H a (.dK kvs) ∧ ∀ p, H p = none → Q (.ref p) (upd H p (.dK kvs))
theorem cr_prim {X : Cx} (p : Prim) (hc : X.calm = true) : CallR X (primV p) (rPrim X.K p) := by
  cases p with
  | len1 => exact CallR.or call_len_seq call_len_dic
  | abs1 => exact call_abs
  | int1 => exact call_int1
  | sum1 => exact cr_sum hc
  | all1 => exact cr_all hc
  | max1 => exact cr_max hc
  | min1 => exact cr_min hc
  | max2 => exact call_max2 hc
  | min2 => exact call_min2 hc
  | tuple1 => exact CallR.or call_tupleF (CallR.or call_tupleT (call_tuple_dT hc))
  | list1 => exact CallR.or call_list_of (call_list_dT hc)
  | sorted1 => exact cr_sortedI
  | dict1 => exact call_dictD
theorem boot_prim (p : Prim) : bootBuiltins (primB p).1 = some (primV p) := by cases p <;> decide +kernel
def primFr : Prim → Bool
  | .list1 => true
  | .sorted1 => true
  | .dict1 => true
  | _ => false
theorem intsOf_eq : ∀ {ds : List D} {is : List Int}, intsOf ds = some is → ds = is.map .int
  | [], is, e => by cases e; rfl
  | d :: ds, is, e => by
    cases d <;> simp only [intsOf] at e <;> first
      | (cases e; done)
      | skip
    cases q : intsOf ds with
    | none => rw [q] at e; cases e
    | some l => rw [q] at e; cases e; rw [intsOf_eq q]; rfl
theorem blsOf_eq : ∀ {ds : List D} {is : List Bool}, blsOf ds = some is → ds = is.map .bl
  | [], is, e => by cases e; rfl
  | d :: ds, is, e => by
    cases d <;> simp only [blsOf] at e <;> first
      | (cases e; done)
      | skip
    cases q : blsOf ds with
    | none => rw [q] at e; cases e
    | some l => rw [q] at e; cases e; rw [blsOf_eq q]; rfl
theorem Reps.bls : ∀ {is : List Bool} {xs : List V}, Reps K ms Z (is.map D.bl) xs → xs = is.map V.bl
  | [], xs, h => by simp only [List.map_nil, Reps] at h; exact h
  | i :: is, xs, h => by
    obtain ⟨y, r, rfl, h1, h2⟩ := Reps.cons_inv h
    simp only [Rep] at h1
    rw [h1, Reps.bls h2]; rfl
theorem BReps.one {d : D} (h : BReps K ms Z H [d] xs) : ∃ x, xs = [x] ∧ BRep K ms Z H d x := by
  obtain ⟨x, r, rfl, h1, h2⟩ := h
  cases (show r = [] from h2)
  exact ⟨x, rfl, h1⟩
theorem BReps.two {d e : D} (h : BReps K ms Z H [d, e] xs) : ∃ x y, xs = [x, y] ∧ BRep K ms Z H d x ∧ BRep K ms Z H e y := by
  obtain ⟨x, r, rfl, h1, h2⟩ := h
  obtain ⟨y, rfl, h3⟩ := BReps.one h2
  exact ⟨x, y, rfl, h1, h3⟩
theorem maxI_mem : ∀ (is : List Int), is ≠ [] → maxI is ∈ is ∧ ∀ j ∈ is, j ≤ maxI is
  | [], h => absurd rfl h
  | [i], _ => by simp [maxI]
  | i :: j :: is, _ => by
    obtain ⟨h1, h2⟩ := maxI_mem (j :: is) (by simp)
    have e : maxI (i :: j :: is) = max i (maxI (j :: is)) := rfl
    rw [e]
    constructor
    · by_cases h : i ≤ maxI (j :: is)
      · rw [Int.max_eq_right h]; exact List.mem_cons_of_mem _ h1
      · rw [Int.max_eq_left (by omega)]; simp
    · intro k hk
      rcases List.mem_cons.mp hk with rfl | hk
      · omega
      · have := h2 k hk; omega
theorem minI_mem : ∀ (is : List Int), is ≠ [] → minI is ∈ is ∧ ∀ j ∈ is, minI is ≤ j
  | [], h => absurd rfl h
  | [i], _ => by simp [minI]
  | i :: j :: is, _ => by
    obtain ⟨h1, h2⟩ := minI_mem (j :: is) (by simp)
    have e : minI (i :: j :: is) = min i (minI (j :: is)) := rfl
    rw [e]
    constructor
    · by_cases h : maxI [] ≤ 0 ∧ i ≤ minI (j :: is)
      · rw [Int.min_eq_left h.2]; simp
      · have : ¬ i ≤ minI (j :: is) := fun q => h ⟨by decide, q⟩
        rw [Int.min_eq_right (by omega)]; exact List.mem_cons_of_mem _ h1
    · intro k hk
      rcases List.mem_cons.mp hk with rfl | hk
      · omega
      · have := h2 k hk; omega
theorem insI_perm (i : Int) : ∀ l : List Int, (insI i l).Perm (i :: l)
  | [] => .refl _
  | j :: r => by
    unfold insI
    by_cases h : i ≤ j
    · rw [if_pos h]
    · rw [if_neg h]
      exact ((insI_perm i r).cons j).trans (.swap ..)
theorem sortI_perm : ∀ l : List Int, (sortI l).Perm l
  | [] => .refl _
  | i :: r => (insI_perm i _).trans ((sortI_perm r).cons i)
theorem insI_sorted (i : Int) : ∀ l : List Int, l.Pairwise (· ≤ ·) → (insI i l).Pairwise (· ≤ ·)
  | [], _ => by simp [insI]
  | j :: r, h => by
    rw [List.pairwise_cons] at h
    unfold insI
    by_cases q : i ≤ j
    · rw [if_pos q, List.pairwise_cons, List.pairwise_cons]
      exact ⟨fun a ha => by
        rcases List.mem_cons.mp ha with rfl | ha
        · exact q
        · have := h.1 a ha; omega, h⟩
    · rw [if_neg q, List.pairwise_cons]
      refine ⟨fun a ha => ?_, insI_sorted i r h.2⟩
      rcases List.mem_cons.mp ((insI_perm i r).mem_iff.mp ha) with rfl | ha
      · omega
      · exact h.1 a ha
theorem sortI_sorted : ∀ l : List Int, (sortI l).Pairwise (· ≤ ·)
  | [] => .nil
  | i :: r => insI_sorted i _ (sortI_sorted r)
theorem sortI_only {a l : List Int} (h : a.Perm l) (s : a.Pairwise (· ≤ ·)) : a = sortI l := PySem.W.ksm_same (h.trans (sortI_perm l).symm) s (sortI_sorted l)
theorem le_eq {ns : List Int} {m : Int} (h1 : m ∈ ns) (h2 : ∀ y ∈ ns, y ≤ m) (h0 : ns ≠ []) : m = maxI ns := by
  obtain ⟨h3, h4⟩ := maxI_mem ns h0
  have := h4 m h1
  have := h2 _ h3
  omega
theorem ge_eq {ns : List Int} {m : Int} (h1 : m ∈ ns) (h2 : ∀ y ∈ ns, m ≤ y) (h0 : ns ≠ []) : m = minI ns := by
  obtain ⟨h3, h4⟩ := minI_mem ns h0
  have := h4 m h1
  have := h2 _ h3
  omega
theorem Grow.adopt {ms' : List Addr} {H0 Z' H' : Hp} (g : Grow ms Z H0 ms' Z' H') {p : Addr} {xs : List V} (n : H0 p = some (.tup xs)) (z : Z' p = none) : Grow ms Z H0 ms' (upd Z' p (.tup xs)) H' where
  zz := fun a x h => upd_get z a x (g.zz a x h)
  zn := fun a x h e => by
    by_cases q : a = p
    · subst q; exact .inr ⟨_, n⟩
    · rw [upd_ne q] at e; exact g.zn a x h e
  hh := g.hh
  hk := g.hk
  mm := g.mm
  mn := g.mn
theorem WOk.notms (w : WOk K cl ms Z H G) {b : Addr} {xs : List V} (h : H b = some (.tup xs)) : b ∉ ms := fun hm => by
  obtain ⟨i, c, _, _, r⟩ := w.cell hm
  exact r.notup (.inr ⟨_, h⟩)
theorem keys_reps : ∀ k : List Key, Reps K ms Z (k.map kD) (k.map kV)
  | [] => .nil
  | .inl i :: k => .cons (by simp only [kD, Rep]; rfl) (keys_reps k)
  | .inr x :: k => .cons (by simp only [kD, Rep]; rfl) (keys_reps k)
/-- tuples that stand in the heap are frozen -/
theorem adopt : ∀ {kvs : List (List Key × V)} {bs : List Addr} {Z : Hp} (w : WOk K cl ms Z H G) (_ : True) (hk : IsKeys H kvs bs), ∃ Z1, WOk K cl ms Z1 H G ∧ Grow ms Z H ms Z1 H ∧ Reps K ms Z1 ((kvs.map (·.1)).map fun k => D.tup false (k.map kD)) (bs.map V.ref) := by
  intro kvs bs Z w _ hk
  unfold IsKeys at hk
  induction hk generalizing Z with
  | nil => exact ⟨Z, w, Grow.refl w, .nil⟩
  | @cons p b ps bs h t ih =>
    obtain ⟨Z1, w1, g1, r1⟩ := ih w
    cases e : Z1 b with
    | some o =>
      have : o = .tup (p.1.map kV) := by
        rcases w1.zs b o e with q | ⟨q, ob, q2⟩
        · rw [h] at q; exact (Option.some.inj q).symm
        · rw [h] at q2; cases q2
      subst this
      refine ⟨Z1, w1, g1, .cons ?_ r1⟩
      simp only [Rep]
      exact ⟨b, _, rfl, e, keys_reps p.1⟩
    | none =>
      have w2 := w1.freeze h e (w1.notms h)
      refine ⟨_, w2, g1.adopt h e, .cons ?_ (r1.mono (upd_get e) (List.prefix_refl _))⟩
      simp only [Rep]
      exact ⟨b, _, rfl, upd_same, keys_reps p.1⟩
theorem prim_use {o : Prim} (e : primD o ds = some d) (w : WOk K cl ms Z H G) (r : BReps K ms Z H ds xs) (p : PostR K cl W (MRep K (if primFr o then .frs else .gen)) σ ms Z H (.ok d G) Q) : rPrim K o xs H Q := by
  unfold primD at e
  split at e
  · cases e; obtain ⟨x, rfl, rr⟩ := BReps.one r; obtain ⟨q, us, rfl, h1, r1⟩ := rr.lst w
    refine .inl ⟨q, us, rfl, .inl (.of h1), ?_⟩
    rw [← r1.len]; exact PostR.int p w
  · cases e; obtain ⟨x, rfl, rr⟩ := BReps.one r; obtain ⟨q, us, rfl, h1, r1, _⟩ := rr.tup w
    refine .inl ⟨q, us, rfl, .inr h1, ?_⟩
    rw [← r1.len]; exact PostR.int p w
  · cases e; obtain ⟨x, rfl, rr⟩ := BReps.one r; obtain ⟨q, rfl, h1⟩ := rr.scr w
    refine .inl ⟨q, _, rfl, .inl h1, ?_⟩
    rw [List.length_map]; exact PostR.int p w
  · cases e; obtain ⟨x, rfl, rr⟩ := BReps.one r; obtain ⟨q, us, rfl, h1, r1⟩ := rr.ctp w
    refine .inl ⟨q, us, rfl, .inr h1, ?_⟩
    rw [← r1.len]; exact PostR.int p w
  · cases e; obtain ⟨x, rfl, rr⟩ := BReps.one r; obtain ⟨q, us, rfl, l, h1, r1⟩ := rr.dK w
    refine .inr (.inl ⟨q, _, rfl, h1, ?_⟩)
    rw [List.length_zip, ← l, Nat.min_self]; exact PostR.int p w
  · cases e; obtain ⟨x, rfl, rr⟩ := BReps.one r; obtain ⟨q, us, rfl, l, h1, r1⟩ := rr.dT w
    refine .inr (.inr ⟨q, _, rfl, h1, ?_⟩)
    rw [List.length_zip, ← l, Nat.min_self]; exact PostR.int p w
  · cases e; obtain ⟨x, rfl, rr⟩ := BReps.one r; rw [rr.int]; exact ⟨_, rfl, PostR.int p w⟩
  · cases e; obtain ⟨x, rfl, rr⟩ := BReps.one r; rw [rr.int]; exact .inl ⟨_, rfl, PostR.int p w⟩
  · cases e; obtain ⟨x, rfl, rr⟩ := BReps.one r; rw [rr.bl]; exact .inr ⟨_, rfl, PostR.int p w⟩
  · rename_i dl
    cases q : intsOf dl with
    | none => rw [q] at e; cases e
    | some is =>
      rw [q] at e; cases e
      obtain ⟨x, rfl, rr⟩ := BReps.one r; obtain ⟨c, us, rfl, h1, r1⟩ := rr.lst w
      rw [intsOf_eq q] at r1
      rw [Reps.ints.mp r1] at h1
      exact ⟨c, is, rfl, .of h1, PostR.int p w⟩
  · rename_i dl
    cases q : blsOf dl with
    | none => rw [q] at e; cases e
    | some is =>
      rw [q] at e; cases e
      obtain ⟨x, rfl, rr⟩ := BReps.one r; obtain ⟨c, us, rfl, h1, r1⟩ := rr.lst w
      rw [blsOf_eq q] at r1
      rw [Reps.bls r1] at h1
      exact ⟨c, is, rfl, .of h1, PostR.bl p w⟩
  · rename_i dl
    cases q : intsOf dl with
    | none => rw [q] at e; cases e
    | some is =>
      rw [q] at e
      by_cases q0 : is = []
      · have : (if is = [] then (none : Option D) else some (.int (maxI is))) = some d := e
        rw [if_pos q0] at this; cases this
      · have : (if is = [] then (none : Option D) else some (.int (maxI is))) = some d := e
        rw [if_neg q0] at this; cases this
        obtain ⟨x, rfl, rr⟩ := BReps.one r; obtain ⟨c, us, rfl, h1, r1⟩ := rr.lst w
        rw [intsOf_eq q] at r1
        rw [Reps.ints.mp r1] at h1
        exact ⟨c, is, rfl, .of h1, List.length_pos_iff.mpr q0, fun m h2 h3 => by rw [le_eq h2 h3 q0]; exact PostR.int p w⟩
  · rename_i dl
    cases q : intsOf dl with
    | none => rw [q] at e; cases e
    | some is =>
      rw [q] at e
      by_cases q0 : is = []
      · have : (if is = [] then (none : Option D) else some (.int (minI is))) = some d := e
        rw [if_pos q0] at this; cases this
      · have : (if is = [] then (none : Option D) else some (.int (minI is))) = some d := e
        rw [if_neg q0] at this; cases this
        obtain ⟨x, rfl, rr⟩ := BReps.one r; obtain ⟨c, us, rfl, h1, r1⟩ := rr.lst w
        rw [intsOf_eq q] at r1
        rw [Reps.ints.mp r1] at h1
        exact ⟨c, is, rfl, .of h1, List.length_pos_iff.mpr q0, fun m h2 h3 => by rw [ge_eq h2 h3 q0]; exact PostR.int p w⟩
  · cases e; obtain ⟨x, y, rfl, r1, r2⟩ := BReps.two r; rw [r1.int, r2.int]; exact ⟨_, _, rfl, PostR.int p w⟩
  · cases e; obtain ⟨x, y, rfl, r1, r2⟩ := BReps.two r; rw [r1.int, r2.int]; exact ⟨_, _, rfl, PostR.int p w⟩
  · cases e; obtain ⟨x, rfl, rr⟩ := BReps.one r; obtain ⟨q, us, rfl, h1, r1⟩ := rr.lst w
    exact .inl ⟨q, us, rfl, .of h1, fun its n l hl => PostR.tupF its n p w r1 l hl⟩
  · cases e; obtain ⟨x, rfl, rr⟩ := BReps.one r
    have r' := rr
    obtain ⟨q, us, rfl, h1, r1, _⟩ := rr.tup w
    exact .inr (.inl ⟨q, us, rfl, h1, PostR.val p w (r'.rep rfl)⟩)
  · split at e
    · rename_i hl
      cases e; obtain ⟨x, rfl, rr⟩ := BReps.one r; obtain ⟨q, us, rfl, l, h1, r1⟩ := rr.dT w
      refine .inr (.inr ⟨q, _, rfl, h1, fun its n c bs hc hk => ?_⟩)
      obtain ⟨Z1, w1, g1, rk⟩ := adopt w trivial hk
      rw [List.map_fst_zip (by omega)] at rk
      exact PostR.tupF its n (p.shift (shift_m _) g1 w1) w1 rk c hc
    · cases e
  · cases e; obtain ⟨x, rfl, rr⟩ := BReps.one r; obtain ⟨q, us, rfl, h1, r1⟩ := rr.lst w
    exact .inl ⟨q, us, rfl, .inl (.of h1), fun l hl => PostR.lst p w r1 l hl⟩
  · cases e; obtain ⟨x, rfl, rr⟩ := BReps.one r; obtain ⟨q, us, rfl, h1, r1, _⟩ := rr.tup w
    exact .inl ⟨q, us, rfl, .inr h1, fun l hl => PostR.lst p w r1 l hl⟩
  · split at e
    · rename_i hl
      cases e; obtain ⟨x, rfl, rr⟩ := BReps.one r; obtain ⟨q, us, rfl, l, h1, r1⟩ := rr.dT w
      refine .inr ⟨q, _, rfl, h1, fun c bs hc hk => ?_⟩
      obtain ⟨Z1, w1, g1, rk⟩ := adopt w trivial hk
      rw [List.map_fst_zip (by omega)] at rk
      exact PostR.lst (p.shift (shift_m _) g1 w1) w1 rk c hc
    · cases e
  · rename_i dl
    cases q : intsOf dl with
    | none => rw [q] at e; cases e
    | some is =>
      rw [q] at e; cases e
      obtain ⟨x, rfl, rr⟩ := BReps.one r; obtain ⟨c, us, rfl, h1, r1⟩ := rr.lst w
      rw [intsOf_eq q] at r1
      rw [Reps.ints.mp r1] at h1
      refine ⟨c, is, rfl, .of h1, fun ns' l hp hs hl => ?_⟩
      rw [sortI_only hp hs]
      exact PostR.lst p w (Reps.ints.mpr rfl) l hl
  · cases e; obtain ⟨x, rfl, rr⟩ := BReps.one r; obtain ⟨q, us, rfl, l, h1, r1⟩ := rr.dK w
    exact ⟨q, _, rfl, h1, fun c hc => PostR.dK p w l r1 c hc⟩
  · cases e
end
end MP

namespace MP
open PySem PySem.Spec PyProof.Rows L2

/-! ### what is seen of the text -/
theorem star_cons {e : Expr} {es : List Expr} {env : Env} (h : noStar e = true) : starEach (e :: es) env = (false, eval e env) :: starEach es env := by
  cases e <;> first | rfl | exact absurd (show false = true from h) Bool.false_ne_true
theorem chkEs_star {P : Prog} {cn : Str → Option D} {N : List Str} : ∀ {es : Es} {bw : Bool} {sc : Scope} {l : List Expr}, chkEs P cn N es bw sc l = true → l.all noStar = true ∧ es.length = l.length
  | .nil, bw, sc, l, h => by
    simp only [chkEs, List.isEmpty_iff] at h
    subst h; exact ⟨rfl, rfl⟩
  | .cons e es, bw, sc, l, h => by
    simp only [chkEs] at h
    split at h
    · simp only [Bool.and_eq_true] at h
      obtain ⟨h1, h2⟩ := chkEs_star h.2
      exact ⟨by simp [h.1.2, h1], by simp [Es.length, h2]⟩
    · cases h
theorem star_none {pos : Pos} {env : Env} : ∀ {l : List Expr}, l.all noStar = true → (backTo pos (starEach l env)).any (·.1) = false
  | [], _ => rfl
  | e :: l, h => by
    simp only [List.all_cons, Bool.and_eq_true] at h
    rw [star_cons h.1]
    show (false || (backTo pos (starEach l env)).any (·.1)) = false
    rw [star_none h.2]; rfl
theorem star_all {pos : Pos} {env : Env} : ∀ {l : List Expr}, l.all noStar = true → (backTo pos (starEach l env)).all (fun x => !x.1) = true
  | [], _ => rfl
  | e :: l, h => by
    simp only [List.all_cons, Bool.and_eq_true] at h
    rw [star_cons h.1]
    show (true && (backTo pos (starEach l env)).all (fun x => !x.1)) = true
    rw [star_all h.2]; rfl
theorem fold_no {e : Expr} {env : Env} (h : noSet e = true) : ∀ x, foldedSetIterable e env x = pure x := by
  intro x
  cases e <;> first | rfl | exact absurd (show false = true from h) Bool.false_ne_true
theorem plainIx {b : Expr} (h : noSlice b = true) : PlainIx b := by
  intro o i
  cases b <;> first | rfl | exact absurd (show false = true from h) Bool.false_ne_true
theorem base_no {o : Expr} {name : Str} {env : Env} (h : noCall0 o = true) : attributeBase o name env (eval o env) = eval o env := by
  cases o with
  | Call f args kws pos =>
    cases f <;> first
      | rfl
      | skip
    cases args with
    | cons => rfl
    | nil =>
      cases kws with
      | cons => rfl
      | nil => exact absurd (show false = true from h) Bool.false_ne_true
  | _ => rfl
theorem visB_ok {sc : Scope} {x : Str} (h : visB sc x = true) : Vis sc x := by
  unfold visB at h
  split at h
  · exact .inl (by assumption)
  · exact .inr (.inl (by assumption))
  · exact .inr (.inr (by assumption))
  · cases h
theorem glB_ok {sc : Scope} {x : Str} (h : glB sc x = true) : sc.names.lookup x = some .globalImplicit := by
  unfold glB at h
  split at h
  · assumption
  · cases h
theorem nmB_ok {x : Str} (h : nmB x = true) : (x == ("__debug__" : Str)) = false ∧ (x == ("__classdict__" : Str)) = false ∧ x ≠ "__name__" := by
  unfold nmB at h
  simp only [Bool.and_eq_true, Bool.not_eq_true'] at h
  exact ⟨h.1.1, h.1.2, fun e => by rw [e] at h; simp at h⟩
mutual
theorem dbeq_eq : ∀ (a b : D), dbeq a b = true → a = b
  | .int i, b, h => by cases b <;> simp [dbeq] at h; rw [h]
  | .str i, b, h => by cases b <;> simp [dbeq] at h; rw [h]
  | .ctp i, b, h => by
    cases b <;> simp only [dbeq] at h <;> first
      | (cases h; done)
      | rw [dbeqs_eq _ _ h]
  | .non, b, h => by simp [dbeq] at h
  | .bl _, b, h => by simp [dbeq] at h
  | .tup _ _, b, h => by simp [dbeq] at h
  | .lst _, b, h => by simp [dbeq] at h
  | .dK _ _, b, h => by simp [dbeq] at h
  | .dT _ _, b, h => by simp [dbeq] at h
  | .scr _, b, h => by simp [dbeq] at h
  | .glob _, b, h => by simp [dbeq] at h
theorem dbeqs_eq : ∀ (a b : List D), dbeqs a b = true → a = b
  | [], b, h => by cases b <;> simp [dbeqs] at h; rfl
  | x :: a, b, h => by
    cases b with
    | nil => simp [dbeqs] at h
    | cons y b =>
      simp only [dbeqs, Bool.and_eq_true] at h
      rw [dbeq_eq x y h.1, dbeqs_eq a b h.2]
end

/-! ### the context -/
def wx (cl : ClsOf) (W : WK) : WX := fun cls d σ H => ∃ c C, cls = .ref C ∧ d = none ∧ cl c = some C ∧ W c σ H
def PostC (K : Fg) (cl : ClsOf) (fr : Bool) (ms : List Addr) (Z H : Hp) (r : Res D) (Q : VK) (E : XK) : Prop :=
  match r with
  | .ok d G' => ∀ v ms' Z' H', Grow ms Z H ms' Z' H' → WOk K cl ms' Z' H' G' → MRep K (if fr then .frs else .gen) ms' Z' H' H d v → Q v H'
  | .ex c G' => ∀ ms' Z' H' C, Grow ms Z H ms' Z' H' → WOk K cl ms' Z' H' G' → cl c = some C → E (.ref C) none H'
  | .no => False
/-- what a def promises: what the evaluator says -/
def spI (K : Fg) (cl : ClsOf) (P : Prog) (n : Nat) (f : Str) (fd : FnDef) : Sp := fun vs H Q E =>
  vs.length = fd.ps.length ∧ ∃ ms Z G ds, WOk K cl ms Z H G ∧ Reps K ms Z ds vs ∧ PostC K cl fd.fr ms Z H (callN P n f ds G) Q E
def builtinNames : List Str := ["len", "abs", "int", "sum", "all", "max", "min", "tuple", "list", "sorted", "dict", "isinstance", "set", "range", "enumerate", "zip", "bool", "str", "iter", "ValueError"]
structure GX (P : Prog) (cn : Str → Option D) (cl : ClsOf) (n : Nat) (N : List Str) (sc : Scope) (fb : Str → Bool) (W : WK) (X : Cx) : Prop where
  hN : X.N = N
  nd : N.Nodup
  hs : X.env.scope = sc
  fb : ∀ x, X.fn x = fb x
  calm : X.calm = true
  room : Room n X.A
  tk : Takes X (wx cl W)
  fns : ∀ f fd, P f = some fd → ∃ (a : Addr) (fdd : FuncData), X.mg f = some (.ref a) ∧ PySem.W.keepIn X.K (.ref a) = true ∧ Binds X.K fdd fd.ps [] ∧ FnOk X.prog X.w X.K X.mg X.base (CX X.prog X.w) n a fdd fd.ps (spI X.K cl P n f fd)
  bts : ∀ x ∈ builtinNames, X.mg x = none
  cns : ∀ x d, cn x = some d → ∃ u v, X.mg x = some u ∧ RelV v u ∧ ∀ ms Z, Rep X.K ms Z d v
section
variable {P : Prog} {cn : Str → Option D} {cl : ClsOf} {n : Nat} {N : List Str} {sc : Scope} {fb : Str → Bool} {W : WK} {X : Cx}
theorem GX.gl (g : GX P cn cl n N sc fb W X) {x : Str} (h : glB sc x = true) : Gl X x := by
  show X.env.scope.names.lookup x = _
  rw [g.hs]; exact glB_ok h
theorem GX.vis (g : GX P cn cl n N sc fb W X) {x : Str} (h : visB sc x = true) : Vis X.env.scope x := by
  rw [g.hs]; exact visB_ok h
theorem GX.hu (g : GX P cn cl n N sc fb W X) : X.A.units + 65 < cLine := by
  have := g.room.un; omega
theorem GX.bt (g : GX P cn cl n N sc fb W X) {x : Str} (h : x ∈ builtinNames) : X.mg x = none := g.bts x h
theorem GX.blk (g : GX P cn cl n N sc fb W X) (s : Shared) (H : Hp) (scope : Scope) (cs : List (Str × Addr)) (C : Addr) (fp : List Addr) :
    GX P cn cl n N (relS scope sc) (fun x => scope.names.lookup x == some .cell) (fun _ _ _ => False) (X.blk s H scope (compEnvC scope cs C X.env) fp) where
  hN := g.hN
  nd := g.nd
  hs := by rw [← g.hs]; rfl
  fb := fun _ => rfl
  calm := g.calm
  room := g.room
  tk := fun u s' x => by
    obtain ⟨_, _, _, _, _, _, _, _, _, _, _, _, _, _, _, _, c, C, _, _, _, h⟩ := x
    exact h.elim
  fns := g.fns
  bts := g.bts
  cns := g.cns
end
def md (e : E) : Md := if isOwn e then .bor else if fresh e then .frs else .gen
section
variable {X : Cx} {cl : ClsOf} {W : WK} {e : Expr} {f : Ev → Gs → Res D}
theorem toBor {m : Md} (h : PE X e (tE X.K cl W m f)) : PE X e (tE X.K cl W .bor f) := by
  cases m with
  | bor => exact h
  | gen => exact PE.weak h fun σ H Q ⟨ms, Z, G, env, w, s, p⟩ => ⟨ms, Z, G, env, w, s, bor_of_gen p⟩
  | frs => exact PE.weak h fun σ H Q ⟨ms, Z, G, env, w, s, p⟩ => ⟨ms, Z, G, env, w, s, bor_of_frs p⟩
theorem toGen {m : E} (ho : isOwn m = false) (h : PE X e (tE X.K cl W (md m) f)) : PE X e (tE X.K cl W .gen f) := by
  unfold md at h
  rw [ho] at h
  simp only [Bool.false_eq_true, if_false] at h
  by_cases q : fresh m = true
  · rw [if_pos q] at h
    exact PE.weak h fun σ H Q ⟨ms, Z, G, env, w, s, p⟩ => ⟨ms, Z, G, env, w, s, gen_of_frs p⟩
  · rw [if_neg q] at h
    exact h
end
theorem own_bw {P : Prog} {cn : Str → Option D} {N : List Str} {e : E} {sc : Scope} {a : Expr} (h : chkE P cn N e false sc a = true) : isOwn e = false := by
  cases e <;> first
    | rfl
    | (simp only [chkE] at h; split at h <;> simp at h)
end MP

namespace MP
open PySem PySem.Spec PyProof.Rows L2

section
variable {P : Prog} {cn : Str → Option D} {cl : ClsOf} {n : Nat} {N : List Str} {K : Fg} {W : WK}

theorem evs_len (cf : CallF) : ∀ (es : Es) (env : Ev) (G : Gs) {ds : List D} {G' : Gs}, evs cf es env G = .ok ds G' → ds.length = es.length
  | .nil, env, G, ds, G', h => by simp only [evs] at h; cases h; rfl
  | .cons e es, env, G, ds, G', h => by
    simp only [evs] at h
    cases h1 : ev cf e env G with
    | ok d G1 =>
      rw [h1] at h
      simp only [Res.bind] at h
      cases h2 : evs cf es env G1 with
      | ok r G2 =>
        rw [h2] at h
        simp only [Res.bind] at h
        cases h
        simp [Es.length, evs_len cf es env G1 h2]
      | ex c G2 => rw [h2] at h; simp [Res.bind] at h
      | no => rw [h2] at h; simp [Res.bind] at h
    | ex c G2 => rw [h1] at h; simp [Res.bind] at h
    | no => rw [h1] at h; simp [Res.bind] at h

/-! ### comprehensions: the wiped slots -/
theorem wipe_set {σ : Sg} {i : Nat} {v : Option V} : ∀ {vs : List Nat}, i ∈ vs → wipe (σ.set i v) vs = wipe σ vs
  | [], h => by simp at h
  | j :: vs, h => by
    show (wipe (σ.set i v) vs).set j none = (wipe σ vs).set j none
    by_cases q : i ∈ vs
    · rw [wipe_set q]
    · have e : i = j := by
        rcases List.mem_cons.mp h with h | h
        · exact h
        · exact absurd h q
      subst e
      rw [wipe_set_out q, List.set_set]
where
  wipe_set_out {σ : Sg} {i : Nat} {v : Option V} : ∀ {vs : List Nat}, i ∉ vs → wipe (σ.set i v) vs = (wipe σ vs).set i v
    | [], _ => rfl
    | j :: vs, h => by
      simp only [List.mem_cons, not_or] at h
      show (wipe (σ.set i v) vs).set j none = ((wipe σ vs).set j none).set i v
      rw [wipe_set_out h.2, List.set_comm _ _ h.1]
theorem wipe_wipe {σ : Sg} : ∀ {vs ws : List Nat}, (∀ i ∈ ws, i ∈ vs) → wipe (wipe σ ws) vs = wipe σ vs
  | vs, [], _ => rfl
  | vs, j :: ws, h => by
    show wipe ((wipe σ ws).set j none) vs = _
    rw [wipe_set (h j (by simp)), wipe_wipe fun i hi => h i (by simp [hi])]
theorem wipeE_len {env : Ev} : ∀ {vs : List Nat}, (wipeE env vs).length = env.length
  | [] => rfl
  | j :: vs => by
    show ((wipeE env vs).set j .un).length = _
    rw [List.length_set]; exact wipeE_len
theorem wipeE_get {env : Ev} : ∀ {vs : List Nat} {i : Nat}, (wipeE env vs)[i]? = if i ∈ vs then (env[i]?).map fun _ => .un else env[i]?
  | [], i => by simp [wipeE]
  | j :: vs, i => by
    show ((wipeE env vs).set j .un)[i]? = _
    rw [List.getElem?_set]
    by_cases q : j = i
    · subst q
      have hl : (wipeE env vs).length = env.length := wipeE_len
      simp only [if_pos, List.mem_cons, true_or, hl]
      by_cases hj : j < env.length
      · rw [if_pos hj, List.getElem?_eq_getElem hj]; rfl
      · rw [if_neg hj, List.getElem?_eq_none (by omega)]; rfl
    · rw [if_neg q, wipeE_get]
      simp only [List.mem_cons]
      by_cases q2 : i ∈ vs
      · rw [if_pos q2, if_pos (.inr q2)]
      · rw [if_neg q2, if_neg (fun e => e.elim (fun e => q e.symm) q2)]
theorem wipe_get {σ : Sg} : ∀ {vs : List Nat} {i : Nat}, (wipe σ vs)[i]? = if i ∈ vs then (σ[i]?).map fun _ => none else σ[i]?
  | [], i => by simp [wipe]
  | j :: vs, i => by
    show ((wipe σ vs).set j none)[i]? = _
    rw [List.getElem?_set]
    by_cases q : j = i
    · subst q
      simp only [if_pos, List.mem_cons, true_or, wipe_length]
      by_cases hj : j < σ.length
      · rw [if_pos hj, List.getElem?_eq_getElem hj]; rfl
      · rw [if_neg hj, List.getElem?_eq_none (by omega)]; rfl
    · rw [if_neg q, wipe_get]
      simp only [List.mem_cons]
      by_cases q2 : i ∈ vs
      · rw [if_pos q2, if_pos (.inr q2)]
      · rw [if_neg q2, if_neg (fun e => e.elim (fun e => q e.symm) q2)]

variable {ms : List Addr} {Z H : Hp} {G : Gs} {σ : Sg} {env : Ev}
theorem SlotsOk.wipe (s : SlotsOk K ms Z H σ env) (vs : List Nat) : SlotsOk K ms Z H (L2.wipe σ vs) (wipeE env vs) where
  len := by rw [wipe_length, wipeE_len]; exact s.len
  at_ := fun i o t h1 h2 => by
    rw [wipe_get] at h1
    rw [wipeE_get] at h2
    by_cases q : i ∈ vs
    · rw [if_pos q] at h1 h2
      cases e : env[i]? with
      | none => rw [e] at h2; cases h2
      | some t' => rw [e] at h2; cases h2; trivial
    · rw [if_neg q] at h1 h2
      exact s.at_ i o t h1 h2
  sep := fun i j a d e h1 h2 h3 h4 => by
    rw [wipeE_get] at h1 h2
    rw [wipe_get] at h3 h4
    by_cases q : i ∈ vs
    · rw [if_pos q] at h1
      cases e : env[i]? with
      | none => rw [e] at h1; cases h1
      | some t' => rw [e] at h1; cases h1
    · by_cases q2 : j ∈ vs
      · rw [if_pos q2] at h2
        cases e : env[j]? with
        | none => rw [e] at h2; cases h2
        | some t' => rw [e] at h2; cases h2
      · rw [if_neg q] at h1 h3
        rw [if_neg q2] at h2 h4
        exact s.sep i j a d e h1 h2 h3 h4
/-- a slot gets a value -/
theorem SlotsOk.set (s : SlotsOk K ms Z H σ env) {i : Nat} {d : D} {v : V} (r : Rep K ms Z d v) : SlotsOk K ms Z H (σ.set i (some v)) (env.set i (.val d)) where
  len := by rw [List.length_set, List.length_set]; exact s.len
  at_ := fun j o t h1 h2 => by
    rw [List.getElem?_set] at h1 h2
    by_cases q : i = j
    · subst q
      rw [if_pos rfl] at h1 h2
      split at h1
      · split at h2
        · cases h1; cases h2; exact ⟨v, rfl, r⟩
        · cases h2
      · cases h1
    · rw [if_neg q] at h1 h2
      exact s.at_ j o t h1 h2
  sep := fun j k a d e h1 h2 h3 h4 => by
    rw [List.getElem?_set] at h1 h2 h3 h4
    by_cases q : i = j
    · subst q
      rw [if_pos rfl] at h1
      split at h1 <;> cases h1
    · by_cases q2 : i = k
      · subst q2
        rw [if_pos rfl] at h2
        split at h2 <;> cases h2
      · rw [if_neg q] at h1 h3
        rw [if_neg q2] at h2 h4
        exact s.sep j k a d e h1 h2 h3 h4
end
end MP

namespace MP
open PySem PySem.Spec PyProof.Rows L2

section
variable {P : Prog} {cn : Str → Option D} {cl : ClsOf} {n : Nat} {N : List Str} {sc : Scope} {fb : Str → Bool} {W : WK} {X : Cx}

/-! ### targets -/
def tgIx : Tg → List Nat
  | .nm i _ => [i]
  | .tp l => l.map (·.1)
theorem stoB_ok (g : GX P cn cl n N sc fb W X) {x : Str} (h : stoB sc fb x = true) : Loc X.env.scope x ∧ (X.fn x = true ∨ X.env.scope.names.lookup x = some .local) := by
  rw [g.hs, g.fb]
  unfold stoB at h
  split at h
  · rename_i e; exact ⟨.inl e, .inr e⟩
  · rename_i e; exact ⟨.inr e, .inl h⟩
  · cases h
/-- the reading of a target -/
def gD (K : Fg) (cl : ClsOf) (t : Tg) : TG := fun v σ H Q => ∃ ms Z G env d, WOk K cl ms Z H G ∧ SlotsOk K ms Z H σ env ∧ Rep K ms Z d v ∧
  (match setTg t d env with
    | some env1 => ∀ σ1, SlotsOk K ms Z H σ1 env1 → (∀ vs, (∀ i ∈ tgIx t, i ∈ vs) → wipe σ1 vs = wipe σ vs) → (∀ i, i ∉ tgIx t → σ1[i]? = σ[i]?) → Q σ1 H
    | none => False)
theorem pgs_tp (g : GX P cn cl n N sc fb W X) : ∀ (l : List (Nat × Str)) (es : List Expr), chkTp N sc fb l es = true →
    PGs X es (fun xs σ H Q => ∃ ms Z G env ds, WOk X.K cl ms Z H G ∧ SlotsOk X.K ms Z H σ env ∧ Reps X.K ms Z ds xs ∧
      (match setTp l ds env with
        | some env1 => ∀ σ1, SlotsOk X.K ms Z H σ1 env1 → (∀ vs, (∀ i ∈ l.map (·.1), i ∈ vs) → wipe σ1 vs = wipe σ vs) → (∀ i, i ∉ l.map (·.1) → σ1[i]? = σ[i]?) → Q σ1 H
        | none => False)) ∧ (assignEach es X.env).length = l.length ∧ (assignEach es X.env).findIdx? (·.1) = none
  | [], es, h => by
    cases es with
    | cons e es => exact absurd (show false = true from h) Bool.false_ne_true
    | nil =>
      refine ⟨⟨fun pins s σ H vs us Q I r q => ?_⟩, rfl, rfl⟩
      obtain ⟨ms, Z, G, env, ds, w, so, rr, q⟩ := q
      cases ds with
      | cons d ds => exact q.elim
      | nil =>
        simp only [Reps] at rr
        subst rr
        exact pgs_nil.run pins s σ H [] us Q I r ⟨rfl, q σ so (fun _ _ => rfl) (fun _ _ => rfl)⟩
  | (i, x) :: l, es, h => by
    cases es with
    | nil => exact absurd (show false = true from h) Bool.false_ne_true
    | cons e es =>
      cases e <;> first
        | exact absurd (show false = true from h) Bool.false_ne_true
        | skip
      rename_i y pos
      simp only [chkTp, Bool.and_eq_true, decide_eq_true_eq] at h
      obtain ⟨⟨⟨rfl, h2⟩, h3⟩, h4⟩ := h
      obtain ⟨ih, l1, l2⟩ := pgs_tp g l es h4
      obtain ⟨o1, o2⟩ := stoB_ok g h3
      have g1 : PG X (.Name x pos) (gName i) := pg_name (by rw [g.hN]; exact g.nd) (by rw [g.hN]; exact h2) o1 o2
      have g2 := pgs_cons g1 ih
      refine ⟨⟨fun pins s σ H vs us Q I r q => ?_⟩, ?_, ?_⟩
      · obtain ⟨ms, Z, G, env, ds, w, so, rr, q⟩ := q
        cases ds with
        | nil => exact q.elim
        | cons d ds =>
          obtain ⟨v, rs, rfl, r1, r2⟩ := rr.cons_inv
          refine g2.run pins s σ H _ us Q I r ⟨v, rs, rfl, ms, Z, G, env.set i (.val d), ds, w, so.set r1, r2, ?_⟩
          simp only [setTp] at q
          cases e : setTp l ds (env.set i (.val d)) with
          | none => rw [e] at q; exact q
          | some env1 =>
            rw [e] at q
            refine fun σ1 s1 k1 k2 => q σ1 s1 (fun vs hv => ?_) (fun j hj => ?_)
            · rw [k1 vs (fun j hj => hv j (by simp [hj])), wipe_set (hv i (by simp))]
            · simp only [List.map_cons, List.mem_cons, not_or] at hj
              rw [k2 j hj.2, List.getElem?_set_ne (Ne.symm hj.1)]
      · show (assignEach es X.env).length + 1 = _
        rw [l1]; rfl
      · show List.findIdx? (·.1) ((false, assign (.Name x pos) X.env) :: assignEach es X.env) = none
        rw [List.findIdx?_cons]
        simp only [Bool.false_eq_true, if_false]
        rw [l2]; rfl
theorem setTp_len : ∀ {l : List (Nat × Str)} {ds : List D} {env env1 : Ev}, setTp l ds env = some env1 → ds.length = l.length
  | [], [], _, _, _ => rfl
  | [], d :: ds, _, _, h => by simp [setTp] at h
  | p :: l, [], _, _, h => by simp [setTp] at h
  | (i, x) :: l, d :: ds, env, env1, h => by
    simp only [setTp] at h
    simp [setTp_len h]
theorem PG.or {X : Cx} {e : Expr} {t t' : TG} (h : PG X e t) (h' : PG X e t') : PG X e (fun v σ H Q => t v σ H Q ∨ t' v σ H Q) := ⟨fun pins s σ H v u Q I r q => q.elim (h.run pins s σ H v u Q I r) (h'.run pins s σ H v u Q I r)⟩
theorem sTg (g : GX P cn cl n N sc fb W X) {t : Tg} {e : Expr} (h : chkTg N sc fb t e = true) : PG X e (gD X.K cl t) := by
  cases t with
  | nm i x =>
    cases e <;> first
      | exact absurd (show false = true from h) Bool.false_ne_true
      | skip
    simp only [chkTg, Bool.and_eq_true, decide_eq_true_eq] at h
    obtain ⟨⟨rfl, h2⟩, h3⟩ := h
    obtain ⟨o1, o2⟩ := stoB_ok g h3
    refine PG.weak (pg_name (by rw [g.hN]; exact g.nd) (by rw [g.hN]; exact h2) o1 o2) fun v σ H Q q => ?_
    obtain ⟨ms, Z, G, env, d, w, so, r, q⟩ := q
    refine q _ (so.set r) (fun vs hv => wipe_set (hv i (by simp [tgIx]))) (fun j hj => ?_)
    simp only [tgIx, List.mem_singleton] at hj
    rw [List.getElem?_set_ne (Ne.symm hj)]
  | tp l =>
    cases e <;> first
      | exact absurd (show false = true from h) Bool.false_ne_true
      | skip
    rename_i es k pos
    obtain ⟨h1, h2, h3⟩ := pgs_tp g l es h
    refine PG.weak (PG.or (pg_tup g.calm h1 h2 h3) (pg_unl g.calm h1 h2 h3)) fun v σ H Q q => ?_
    obtain ⟨ms, Z, G, env, d, w, so, r, q⟩ := q
    cases d <;> first
      | exact q.elim
      | skip
    · rename_i kk ds
      simp only [setTg] at q
      obtain ⟨a, xs, rfl, z, rr, _⟩ := (BRep.of (H := H) r).tup w
      refine .inl ⟨a, xs, rfl, z, ?_, ms, Z, G, env, ds, w, so, rr, q⟩
      cases e : setTp l ds env with
      | none => rw [e] at q; exact q.elim
      | some env1 => rw [← rr.len, setTp_len e]
    · rename_i ds
      simp only [setTg] at q
      obtain ⟨a, xs, rfl, z, rr⟩ := (BRep.of (H := H) r).lst w
      refine .inr ⟨a, xs, rfl, .of z, ?_, ms, Z, G, env, ds, w, so, rr, q⟩
      cases e : setTp l ds env with
      | none => rw [e] at q; exact q.elim
      | some env1 => rw [← rr.len, setTp_len e]

/-! ### what is walked -/
/-- J walks the items: as long as the sources stand -/
def WalkD (K : Fg) (cl : ClsOf) (bw : Bool) (J : L2.It) (items : List D) (ms : List Addr) (Z H : Hp) : Prop :=
  items.length ≤ sizeLine ∧ ∃ (Gd : Hp → Prop) (Y : Nat → Hp → V → Hp → Prop), Walk J items.length Gd Y ∧
    (∀ H', (∀ a o, Z a = some o → Zin H' a o) → (bw = true → ∀ a o, H a = some o → a ∉ ms → H' a = some o) → Gd H') ∧
    ∀ (i : Nat) d, items[i]? = some d → ∀ ms1 Z1 H1 G1, (∀ a o, Z a = some o → Z1 a = some o) → ms <+: ms1 → WOk K cl ms1 Z1 H1 G1 → ∀ x H2, Y i H1 x H2 → ∃ Z2, Grow ms1 Z1 H1 ms1 Z2 H2 ∧ WOk K cl ms1 Z2 H2 G1 ∧ Rep K ms1 Z2 d x
def tI (K : Fg) (cl : ClsOf) (W : WK) (bw : Bool) (f : Ev → Gs → Res (List D)) : TI := fun σ H R =>
  ∃ ms Z G env, WOk K cl ms Z H G ∧ SlotsOk K ms Z H σ env ∧ (match f env G with
    | .ok items G1 => ∀ J ms1 Z1 H1, Grow ms Z H ms1 Z1 H1 → WOk K cl ms1 Z1 H1 G1 → WalkD K cl bw J items ms1 Z1 H1 → R J H1
    | .ex c G1 => ∀ ms1 Z1 H1, Grow ms Z H ms1 Z1 H1 → WOk K cl ms1 Z1 H1 G1 → W c σ H1
    | .no => False)
theorem PI.len {tg e : Expr} {wi : TI} (h : PI X tg e wi) : PI X tg e (fun σ H R => wi σ H fun J H1 => LenOk H1 → R J H1) := by
  refine ⟨fun pins s σ H R I q => ?_⟩
  refine thn (h.run pins s σ H _ I q) fun v s1 h1 => thn h1 fun itv s2 h2 => ?_
  obtain ⟨it, fp, tn, J, H2, e, I2, T, st2, f2, q⟩ := h2
  exact ⟨it, fp, tn, J, H2, e, I2, T, st2, f2, q (Inv.lenOk I2)⟩
section
variable {K : Fg} {ms : List Addr} {Z H : Hp} {G : Gs} {items : List D} {xs : List V}
theorem walkD_list {a : Addr} {bw : Bool} (w : WOk K cl ms Z H G) (r : Reps K ms Z items xs) (h : Z a = some (.lst xs) ∨ (bw = true ∧ H a = some (.lst xs) ∧ a ∉ ms)) (hl : items.length ≤ sizeLine) :
    WalkD K cl bw (Itl K a) items ms Z H := by
  refine ⟨hl, fun H => SqL K H a xs, YAt xs, ?_, fun H' h1 h2 => ?_, fun i d e ms1 Z1 H1 G1 hz hm w1 x H2 y => ?_⟩
  · rw [r.len]; exact walk_list
  · rcases h with h | ⟨hb, h, hm⟩
    · exact .of (h1 a _ h).lst
    · exact .of (h2 hb a _ h hm)
  · obtain ⟨rfl, y⟩ := y
    obtain ⟨d', e', r'⟩ := r.get y
    rw [e] at e'; cases e'
    exact ⟨Z1, Grow.refl w1, w1, r'.mono hz hm⟩
theorem walkD_tup {a : Addr} {bw k : Bool} (w : WOk K cl ms Z H G) (r : Reps K ms Z items xs) (h : TupZ Z a k xs) (hl : items.length ≤ sizeLine) :
    WalkD K cl bw (Itt K a) items ms Z H := by
  refine ⟨hl, fun H => SqT K H a xs, YAt xs, ?_, fun H' h1 h2 => ?_, fun i d e ms1 Z1 H1 G1 hz hm w1 x H2 y => ?_⟩
  · rw [r.len]; exact walk_tup
  · cases k with
    | false => exact .of (h1 a _ h).tup
    | true => obtain ⟨its, m, z⟩ := h; exact .inl (.inr ⟨_, (h1 a _ z).frz⟩)
  · obtain ⟨rfl, y⟩ := y
    obtain ⟨d', e', r'⟩ := r.get y
    rw [e] at e'; cases e'
    exact ⟨Z1, Grow.refl w1, w1, r'.mono hz hm⟩
theorem walkD_fn {J : L2.It} {bw : Bool} (f : Nat → Int) (m : Nat) (wk : Walk J m (fun _ => True) (YFn fun i => .int (f i))) (hl : m ≤ sizeLine) :
    WalkD K cl bw J ((List.range m).map fun k => D.int (f k)) ms Z H := by
  refine ⟨by simpa using hl, fun _ => True, _, by simpa using wk, fun _ _ _ => trivial, fun i d e ms1 Z1 H1 G1 hz hm w1 x H2 y => ?_⟩
  obtain ⟨rfl, rfl⟩ := y
  rw [List.getElem?_map] at e
  cases q : (List.range m)[i]? with
  | none => rw [q] at e; cases e
  | some j =>
    rw [q] at e; cases e
    rw [List.getElem?_range (by
      have := (List.getElem?_eq_some_iff.mp q).1
      simpa using this)] at q
    cases q
    exact ⟨Z1, Grow.refl w1, w1, by simp only [Rep]⟩
end

/-! ### a comprehension -/
theorem compL_cons {f : D → Gs → Res (Option D)} {d : D} {ds r : List D} {G G2 : Gs} (h : compL f (d :: ds) G = .ok r G2) : ∃ o G1 r1, f d G = .ok o G1 ∧ compL f ds G1 = .ok r1 G2 ∧ r = o.toList ++ r1 := by
  simp only [compL] at h
  cases e : f d G with
  | ok o G1 =>
    rw [e] at h
    simp only at h
    cases e2 : compL f ds G1 with
    | ok r1 G3 => rw [e2] at h; simp only at h; cases h; exact ⟨o, G1, r1, rfl, e2, rfl⟩
    | ex c G3 => rw [e2] at h; cases h
    | no => rw [e2] at h; cases h
  | ex c G1 => rw [e] at h; cases h
  | no => rw [e] at h; cases h
/-- the turn of a comprehension -/
def compF (cf : CallF) (t : Tg) (e : E) (c : Eo) (vs : List Nat) (env : Ev) : D → Gs → Res (Option D) := fun d G =>
  match setTg t d (wipeE env vs) with
  | some env1 => (match c with
    | .no => (ev cf e env1 G).bind fun y G => .ok (some y) G
    | .so c => (ev cf c env1 G).bind fun x G => (match truth x with
      | some true => (ev cf e env1 G).bind fun y G => .ok (some y) G
      | some false => .ok none G
      | none => .no))
  | none => .no
theorem WOk.app {K : Fg} {ms : List Addr} {Z H : Hp} {G : Gs} (w : WOk K cl ms Z H G) {D : Addr} {xs ys : List V} (h : H D = some (.lst xs)) (z : Z D = none) (m : D ∉ ms) : WOk K cl ms Z (upd H D (.lst ys)) G where
  zs := fun a o e => by
    have ne : a ≠ D := fun q => by subst q; rw [z] at e; cases e
    rcases w.zs a o e with q | ⟨q, ob, q'⟩
    · exact .inl (by rw [upd_ne ne]; exact q)
    · exact .inr ⟨q, ob, by rw [upd_ne ne]; exact q'⟩
  mz := w.mz
  nd := w.nd
  ln := w.ln
  gl := fun i a c e1 e2 => by
    have ne : a ≠ D := fun q => m (q ▸ List.mem_of_getElem? e1)
    have := w.gl i a c e1 e2
    cases c <;> simp only [CellRep] at this ⊢ <;> rw [upd_ne ne] <;> exact this
  fl := w.fl
theorem Grow.app {ms ms' : List Addr} {Z H0 Z' H' : Hp} (g : Grow ms Z H0 ms' Z' H') {D : Addr} {o : HO} (n : H0 D = none) : Grow ms Z H0 ms' Z' (upd H' D o) where
  zz := g.zz
  zn := g.zn
  hh := fun a x h hm => by rw [upd_ne (ne_of_none h n)]; exact g.hh a x h hm
  hk := fun a x h => by rw [upd_ne (ne_of_none h n)]; exact g.hk a x h
  mm := g.mm
  mn := g.mn
/-- the core: the walk of a comprehension -/
theorem comp_core {K : Fg} {W : WK} {cf : CallF} {t : Tg} {e : E} {c : Eo} {vs : List Nat} {env : Ev} {σ : Sg} {ms : List Addr} {Z H : Hp} {G Ge : Gs} {items all : List D} {J : L2.It} {tt : TT} {Q : VK}
    (w : WOk K cl ms Z H G) (s : SlotsOk K ms Z H σ env) (wd : WalkD K cl true J items ms Z H) (ht : ∀ i ∈ tgIx t, i ∈ vs) (hc : compL (compF cf t e c vs env) items G = .ok all Ge)
    (htt : ∀ (σ2 : Sg) (H2 : Hp) (Q2 : Bool → Hp → Prop), (match c with
      | .no => Q2 true H2
      | .so c => tR K cl (fun _ _ _ => False) EqR (fun env G => (ev cf c env G).bindO truth) σ2 H2 Q2) → tt σ2 H2 Q2)
    (q : ∀ D us ms1 Z1 H1, Grow ms Z H ms1 Z1 H1 → WOk K cl ms1 Z1 H1 Ge → H D = none → Z1 D = none → D ∉ ms1 → H1 D = some (.lst us) → Reps K ms1 Z1 all us → Q (.ref D) H1) :
    ∀ D, H D = none → ∃ Wm : Nat → Nat → Hp → Prop, (∃ m, Wm 0 m (upd H D (.lst []))) ∧ ∀ i m H, Wm i m H →
      (J.stop i H ∧ Q (.ref D) H) ∨ (J.go i H ∧ ∃ Nx : Hp → Prop, (∀ H', Nx H' → ∃ m', m' < m ∧ Wm (i + 1) m' H') ∧ ∀ x H', J.yld i H x H' → gD K cl t x (wipe σ vs) H' fun σ2 H2 => wipe σ2 vs = wipe σ vs ∧ tt σ2 H2 fun b H3 =>
        if b = true then tE K cl (fun _ _ _ => False) .gen (ev cf e) σ2 H3 fun y H4 => ∃ acc, H4 D = some (.lst acc) ∧ acc.length < sizeLine ∧ Nx (upd H4 D (.lst (acc ++ [y]))) else Nx H3) := by
  intro D nD
  obtain ⟨hlen, Gd, Y, wk, keep, yl⟩ := wd
  refine lc_it wk (fun i H' => ∃ ms1 Z1 G1 ds us r, Grow ms Z H ms1 Z1 H' ∧ WOk K cl ms1 Z1 H' G1 ∧ Z1 D = none ∧ D ∉ ms1 ∧ H' D = some (.lst us) ∧ Reps K ms1 Z1 ds us ∧ ds.length ≤ i ∧ i ≤ items.length ∧
      compL (compF cf t e c vs env) (items.drop i) G1 = .ok r Ge ∧ all = ds ++ r) ?_ ?_ ?_ ?_
  · exact ⟨ms, Z, G, [], [], all, Grow.alloc w nD _, w.alloc nD _, w.zfresh nD, w.fresh nD, upd_same, .nil, Nat.le_refl _, Nat.zero_le _, hc, rfl⟩
  · rintro i H' hi ⟨ms1, Z1, G1, ds, us, r, g1, w1, _⟩
    exact keep H' (fun a o h => w1.zs a o (g1.zz a o h)) fun _ a o h hm => g1.hh a o h hm
  · rintro i x H1 H2 hi ⟨ms1, Z1, G1, ds, us, r, g1, w1, z1, m1, h1, r1, l1, li, c1, e1⟩ y
    have hd : items[i]? = some items[i] := List.getElem?_eq_getElem hi
    generalize items[i] = d at hd
    have hdrop : items.drop i = d :: items.drop (i + 1) := by
      rw [List.drop_eq_getElem_cons hi]
      have := List.getElem?_eq_getElem hi
      rw [this] at hd; cases hd; rfl
    rw [hdrop] at c1
    obtain ⟨o, G2, r2, f1, c2, e2⟩ := compL_cons c1
    obtain ⟨Z2, g2, w2, rd⟩ := yl i d hd ms1 Z1 H1 G1 g1.zz g1.mm w1 x H2 y
    have gA := g1.trans g2 w1 w2
    have own1 : SlotRep K ms1 Z1 H1 (some (.ref D)) (.own (.lst ds)) := ⟨D, rfl, z1, m1, us, h1, r1⟩
    have own2 := own1.grow g2
    have sw := (s.grow gA).wipe vs
    unfold compF at f1
    refine ⟨ms1, Z2, G1, wipeE env vs, d, w2, sw, rd, ?_⟩
    cases hs : setTg t d (wipeE env vs) with
    | none => rw [hs] at f1; cases f1
    | some env1 =>
      rw [hs] at f1
      simp only at f1
      show ∀ σ1, _ → _ → _ → _
      intro σ1 s1 k1 _
      refine ⟨by rw [k1 vs ht, wipe_wipe fun i hi => hi], ?_⟩
      -- the element, once the test is passed
      have elt : ∀ (ms3 : List Addr) (Z3 H3 : Hp) (G3 : Gs), Grow ms Z H ms3 Z3 H3 → WOk K cl ms3 Z3 H3 G3 → SlotsOk K ms3 Z3 H3 σ1 env1 → SlotRep K ms3 Z3 H3 (some (.ref D)) (.own (.lst ds)) →
          ((ev cf e env1 G3).bind fun y G => Res.ok (some y) G) = .ok o G2 →
          tE K cl (fun _ _ _ => False) .gen (ev cf e) σ1 H3 fun y H4 => ∃ acc, H4 D = some (.lst acc) ∧ acc.length < sizeLine ∧ ∃ ms1 Z1 G1 ds us r, Grow ms Z H ms1 Z1 (upd H4 D (.lst (acc ++ [y]))) ∧ WOk K cl ms1 Z1 (upd H4 D (.lst (acc ++ [y]))) G1 ∧ Z1 D = none ∧ D ∉ ms1 ∧
            (upd H4 D (.lst (acc ++ [y]))) D = some (.lst us) ∧ Reps K ms1 Z1 ds us ∧ ds.length ≤ i + 1 ∧ i + 1 ≤ items.length ∧ compL (compF cf t e c vs env) (items.drop (i + 1)) G1 = .ok r Ge ∧ all = ds ++ r := by
        intro ms3 Z3 H3 G3 g3 w3 s3 own3 f3
        refine ⟨ms3, Z3, G3, env1, w3, s3, ?_⟩
        cases hv : ev cf e env1 G3 with
        | no => rw [hv] at f3; cases f3
        | ex cc GG => rw [hv] at f3; cases f3
        | ok yd G4 =>
          rw [hv] at f3
          simp only [Res.bind] at f3
          cases f3
          intro y ms4 Z4 H4 g4 w4 ry
          obtain ⟨D', eD, z4, m4, us4, h4, r4⟩ := own3.grow g4
          cases eD
          have l4 := r4.len
          refine ⟨us4, h4, by omega, ms4, Z4, G2, ds ++ [yd], us4 ++ [y], r2, Grow.app (g3.trans g4 w3 w4) nD, w4.app h4 z4 m4, z4, m4, upd_same, r4.append (.cons ry .nil), by simp; omega, hi, c2, ?_⟩
          rw [e1, e2]; simp
      cases c with
      | no =>
        refine htt σ1 H2 _ ?_
        simp only [if_true]
        exact elt ms1 Z2 H2 G1 gA w2 s1 own2 f1
      | so ce =>
        refine htt σ1 H2 _ ?_
        refine ⟨ms1, Z2, G1, env1, w2, s1, ?_⟩
        simp only at f1
        cases hv : ev cf ce env1 G1 with
        | no => rw [hv] at f1; cases f1
        | ex cc GG => rw [hv] at f1; cases f1
        | ok xv G3 =>
          rw [hv] at f1
          have f2 : (match truth xv with
            | some true => (ev cf e env1 G3).bind fun y G => Res.ok (some y) G
            | some false => Res.ok none G3
            | none => Res.no) = Res.ok o G2 := f1
          have hb : (ev cf ce env1 G1).bindO truth = (match truth xv with
            | some b => .ok b G3
            | none => .no) := by rw [hv]; cases h : truth xv <;> simp [Res.bindO, h]
          show PostR K cl _ EqR σ1 ms1 Z2 H2 ((ev cf ce env1 G1).bindO truth) _
          rw [hb]
          cases tv : truth xv with
          | none => rw [tv] at f2; cases f2
          | some b =>
            rw [tv] at f2
            intro b' ms3 Z3 H3 g3 w3 eb
            have eb' : b = b' := eb
            subst eb'
            cases b with
            | true =>
              simp only [if_true]
              exact elt ms3 Z3 H3 G3 (gA.trans g3 w2 w3) w3 (s1.grow g3) (own2.grow g3) f2
            | false =>
              cases f2
              simp only [Bool.false_eq_true, if_false]
              obtain ⟨D', eD, z4, m4, us4, h4, r4⟩ := own2.grow g3
              cases eD
              exact ⟨ms3, Z3, G2, ds, us4, r2, gA.trans g3 w2 w3, w3, z4, m4, h4, r4, by omega, hi, c2, by rw [e1, e2]; simp⟩
  · rintro H' ⟨ms1, Z1, G1, ds, us, r, g1, w1, z1, m1, h1, r1, l1, li, c1, e1⟩
    rw [List.drop_length] at c1
    simp only [compL] at c1
    cases c1
    rw [List.append_nil] at e1
    subst e1
    exact q D us ms1 Z1 H' g1 w1 nD z1 m1 h1 r1
end
end MP

namespace MP
open PySem PySem.Spec PyProof.Rows L2

/-! ### results, taken apart -/
theorem bind_ok {α β : Type} {r : Res α} {f : α → Gs → Res β} {K : Fg} {cl : ClsOf} {W : WK} {γ : Type} {rel : RelT β γ} {σ : Sg} {ms : List Addr} {Z H : Hp} {Q : γ → Hp → Prop} {a : α} {G : Gs}
    (e : r = .ok a G) (p : PostR K cl W rel σ ms Z H (r.bind f) Q) : PostR K cl W rel σ ms Z H (f a G) Q := by
  subst e; exact p
section
variable {K : Fg} {cl : ClsOf} {W : WK} {ms : List Addr} {Z H : Hp} {G : Gs} {σ : Sg} {α β : Type} {rel : RelT α β} {Q : β → Hp → Prop}
theorem lift_ok {o : Option α} (p : PostR K cl W rel σ ms Z H (Res.lift o G) Q) : ∃ a, o = some a ∧ PostR K cl W rel σ ms Z H (.ok a G) Q := by
  cases o with
  | none => exact p.elim
  | some a => exact ⟨a, rfl, p⟩
end

theorem chk_inv {a b : Bool} (h : (a && b) = true) : a = true ∧ b = true := by simpa using h

/-- the levels' statements -/
def SE (P : Prog) (cn : Str → Option D) (cl : ClsOf) (n : Nat) (N : List Str) (e : E) : Prop :=
  ∀ (bw : Bool) (sc : Scope) (a : Expr), chkE P cn N e bw sc a = true → ∀ (fb : Str → Bool) (W : WK) (X : Cx), GX P cn cl n N sc fb W X → PE X a (tE X.K cl W (md e) (ev (callN P n) e))
def ST (P : Prog) (cn : Str → Option D) (cl : ClsOf) (n : Nat) (N : List Str) (e : E) : Prop :=
  ∀ (bw : Bool) (sc : Scope) (a : Expr), chkE P cn N e bw sc a = true → ∀ (fb : Str → Bool) (W : WK) (X : Cx), GX P cn cl n N sc fb W X → PT X a (tR X.K cl W EqR (tv (callN P n) e))
def SA (P : Prog) (cn : Str → Option D) (cl : ClsOf) (n : Nat) (N : List Str) (es : Es) : Prop :=
  ∀ (bw : Bool) (sc : Scope) (l : List Expr), chkEs P cn N es bw sc l = true → ∀ (fb : Str → Bool) (W : WK) (X : Cx), GX P cn cl n N sc fb W X → PA X l (tR X.K cl W (LRep X.K bw) (evs (callN P n) es))

section
variable {P : Prog} {cn : Str → Option D} {cl : ClsOf} {n : Nat} {N : List Str}

theorem SE.bor {e : E} (h : SE P cn cl n N e) {bw : Bool} {sc : Scope} {a : Expr} (c : chkE P cn N e bw sc a = true) {fb : Str → Bool} {W : WK} {X : Cx} (g : GX P cn cl n N sc fb W X) : PE X a (tE X.K cl W .bor (ev (callN P n) e)) :=
  toBor (h bw sc a c fb W X g)
theorem SE.gen {e : E} (h : SE P cn cl n N e) {sc : Scope} {a : Expr} (c : chkE P cn N e false sc a = true) {fb : Str → Bool} {W : WK} {X : Cx} (g : GX P cn cl n N sc fb W X) : PE X a (tE X.K cl W .gen (ev (callN P n) e)) :=
  toGen (own_bw c) (h false sc a c fb W X g)

/-! ### leaves -/
theorem se_var (i : Nat) (x : Str) : SE P cn cl n N (.var i x) := by
  intro bw sc a h fb W X g
  simp only [chkE] at h
  split at h
  · simp only [Bool.and_eq_true, decide_eq_true_eq] at h
    obtain ⟨⟨⟨rfl, h2⟩, h3⟩, h4⟩ := h
    obtain ⟨n1, n2, _⟩ := nmB_ok h4
    refine PE.weak (pe_var (i := i) (by rw [g.hN]; exact h2) (g.vis h3) n1 n2) fun σ H Q ⟨ms, Z, G, env, w, s, p⟩ => ?_
    simp only [ev] at p
    cases e : env[i]? with
    | none => rw [e] at p; exact p.elim
    | some t =>
      rw [e] at p
      cases t with
      | un => exact p.elim
      | own d => exact p.elim
      | val d =>
        obtain ⟨v, e1, r⟩ := s.val e
        exact ⟨v, e1, PostR.val p w r⟩
  · cases h
theorem se_own (i : Nat) (x : Str) : SE P cn cl n N (.own i x) := by
  intro bw sc a h fb W X g
  simp only [chkE] at h
  split at h
  · simp only [Bool.and_eq_true, decide_eq_true_eq] at h
    obtain ⟨⟨⟨⟨h0, rfl⟩, h2⟩, h3⟩, h4⟩ := h
    obtain ⟨n1, n2, _⟩ := nmB_ok h4
    refine PE.weak (pe_var (i := i) (by rw [g.hN]; exact h2) (g.vis h3) n1 n2) fun σ H Q ⟨ms, Z, G, env, w, s, p⟩ => ?_
    simp only [ev] at p
    cases e : env[i]? with
    | none => rw [e] at p; exact p.elim
    | some t =>
      rw [e] at p
      cases t with
      | un => exact p.elim
      | val d => exact p.elim
      | own d =>
        obtain ⟨a, e1, z, m, o⟩ := s.own e
        exact ⟨.ref a, e1, p _ ms Z H (Grow.refl w) w (.inr ⟨a, rfl, z, m, o⟩)⟩
  · cases h
theorem se_non : SE P cn cl n N .non := by
  intro bw sc a h fb W X g
  simp only [chkE] at h
  split at h
  · exact PE.weak pe_non fun σ H Q ⟨ms, Z, G, env, w, s, p⟩ => PostR.val p w (by simp only [Rep])
  · cases h
theorem se_bl (b : Bool) : SE P cn cl n N (.bl b) := by
  intro bw sc a h fb W X g
  simp only [chkE] at h
  split at h
  · have e := of_decide_eq_true h
    subst e
    exact PE.weak pe_bl fun σ H Q ⟨ms, Z, G, env, w, s, p⟩ => PostR.bl p w
  · cases h
theorem se_int (b : Int) : SE P cn cl n N (.int b) := by
  intro bw sc a h fb W X g
  simp only [chkE] at h
  split at h
  · have e := of_decide_eq_true h
    subst e
    exact PE.weak pe_int fun σ H Q ⟨ms, Z, G, env, w, s, p⟩ => PostR.int p w
  · cases h
theorem se_str (b : Str) : SE P cn cl n N (.str b) := by
  intro bw sc a h fb W X g
  simp only [chkE] at h
  split at h
  · have e := of_decide_eq_true h
    subst e
    exact PE.weak pe_str fun σ H Q ⟨ms, Z, G, env, w, s, p⟩ => PostR.val p w (by simp only [Rep])
  · cases h
theorem se_glb (x : Str) (d : D) : SE P cn cl n N (.glb x d) := by
  intro bw sc a h fb W X g
  simp only [chkE] at h
  split at h
  · simp only [Bool.and_eq_true, decide_eq_true_eq] at h
    obtain ⟨⟨⟨rfl, h2⟩, h3⟩, h4⟩ := h
    obtain ⟨n1, n2, _⟩ := nmB_ok h3
    split at h4
    · rename_i e ec
      have := dbeq_eq _ _ h4
      subst this
      obtain ⟨u, v, m, r, k⟩ := g.cns _ _ ec
      exact PE.weak (pe_glob (g.gl h2) m r n1) fun σ H Q ⟨ms, Z, G, env, w, s, p⟩ => PostR.val p w (k ms Z)
    · cases h4
  · cases h

/-! ### displays -/
theorem se_tup {es : Es} (ih : SA P cn cl n N es) (k : Bool) : SE P cn cl n N (.tup k es) := by
  intro bw sc a h fb W X g
  simp only [chkE] at h
  split at h
  · rename_i l _ _
    simp only [Bool.and_eq_true, decide_eq_true_eq] at h
    have ha := ih false sc l h.1 fb W X g
    have hl := (chkEs_star h.1).2
    have hs : sizeLine = 16777216 := sizeLine_eq
    cases k with
    | false =>
      refine PE.weak (pe_tup ha) fun σ H Q ⟨ms, Z, G, env, w, s, p⟩ => ?_
      simp only [ev] at p
      refine tR.bind w s p (shift_m _) fun xs ms1 Z1 H1 G1 ds e g1 w1 s1 r1 p1 => ?_
      have r1 : Reps X.K ms1 Z1 ds xs := r1
      have l1 := evs_len _ es env G e
      have l2 := r1.len
      exact ⟨by omega, fun q nq => PostR.tup p1 w1 r1 q nq⟩
    | true =>
      refine PE.weak (pe_tupF ha) fun σ H Q ⟨ms, Z, G, env, w, s, p⟩ => ?_
      simp only [ev] at p
      refine tR.bind w s p (shift_m _) fun xs ms1 Z1 H1 G1 ds e g1 w1 s1 r1 p1 => ?_
      have r1 : Reps X.K ms1 Z1 ds xs := r1
      have l1 := evs_len _ es env G e
      have l2 := r1.len
      exact ⟨by omega, fun its m q nq => PostR.tupF its m p1 w1 r1 q nq⟩
  · cases h
theorem se_lst {es : Es} (ih : SA P cn cl n N es) : SE P cn cl n N (.lst es) := by
  intro bw sc a h fb W X g
  simp only [chkE] at h
  split at h
  · rename_i l _
    simp only [Bool.and_eq_true, decide_eq_true_eq] at h
    have ha := ih false sc l h.1 fb W X g
    have hl := (chkEs_star h.1).2
    have hs : sizeLine = 16777216 := sizeLine_eq
    refine PE.weak (pe_lst ha) fun σ H Q ⟨ms, Z, G, env, w, s, p⟩ => ?_
    simp only [ev] at p
    refine tR.bind w s p (shift_m _) fun xs ms1 Z1 H1 G1 ds e g1 w1 s1 r1 p1 => ?_
    have r1 : Reps X.K ms1 Z1 ds xs := r1
    have l1 := evs_len _ es env G e
    have l2 := r1.len
    exact ⟨by omega, fun q nq => PostR.lst p1 w1 r1 q nq⟩
  · cases h
theorem se_dK0 : SE P cn cl n N .dK0 := by
  intro bw sc a h fb W X g
  simp only [chkE] at h
  split at h
  · exact PE.weak pe_dnewK fun σ H Q ⟨ms, Z, G, env, w, s, p⟩ => fun q nq => PostR.dK0 p w q nq
  · cases h
theorem se_dT0 : SE P cn cl n N .dT0 := by
  intro bw sc a h fb W X g
  simp only [chkE] at h
  split at h
  · exact PE.weak pe_dnewT fun σ H Q ⟨ms, Z, G, env, w, s, p⟩ => fun q nq => PostR.dT0 p w q nq
  · cases h
theorem se_newc {es : Es} (ih : SA P cn cl n N es) : SE P cn cl n N (.newc es) := by
  intro bw sc a h fb W X g
  simp only [chkE] at h
  split at h
  · rename_i l _
    simp only [Bool.and_eq_true, decide_eq_true_eq] at h
    have ha := ih false sc l h.1 fb W X g
    have hl := (chkEs_star h.1).2
    have hs : sizeLine = 16777216 := sizeLine_eq
    refine PE.weak (pe_lst ha) fun σ H Q ⟨ms, Z, G, env, w, s, p⟩ => ?_
    simp only [ev] at p
    refine tR.bind w s p (shift_m _) fun xs ms1 Z1 H1 G1 ds e g1 w1 s1 r1 p1 => ?_
    have r1 : Reps X.K ms1 Z1 ds xs := r1
    have l1 := evs_len _ es env G e
    have l2 := r1.len
    refine ⟨by omega, fun q nq => ?_⟩
    by_cases hf : flats ds = true
    · rw [if_pos hf] at p1
      have nm : q ∉ ms1 := w1.fresh nq
      refine p1 (.ref q) (ms1 ++ [q]) Z1 (upd H1 q (.lst xs)) ?_ ?_ ?_
      · exact ⟨fun _ _ h => h, fun a o h h' => by (rw [h] at h'; cases h'), fun a x h _ => upd_get nq a x h, fun a x h => ⟨x, upd_get nq a x h⟩, List.prefix_append _ _, fun a h => by
          rcases List.mem_append.mp h with h | h
          · exact .inl h
          · rw [List.mem_singleton] at h; rw [h]; exact .inr nq⟩
      · have wa := w1.alloc nq (.lst xs)
        refine ⟨wa.zs, fun a h => ?_, ?_, by simp [w1.ln], fun i a c e1 e2 => ?_, fun c h => ?_⟩
        · rcases List.mem_append.mp h with h | h
          · exact w1.mz a h
          · rw [List.mem_singleton] at h; rw [h]; exact w1.zfresh nq
        · rw [List.nodup_append]
          exact ⟨w1.nd, by simp, fun a ha b hb => by rw [List.mem_singleton] at hb; rw [hb]; exact fun e => nm (e ▸ ha)⟩
        · by_cases hi : i < ms1.length
          · rw [List.getElem?_append_left hi] at e1
            rw [List.getElem?_append_left (by rw [← w1.ln]; exact hi)] at e2
            exact (wa.gl i a c e1 e2).mono (fun _ _ h => h) (fun _ h => h) (List.prefix_append _ _)
          · have hi2 : i = ms1.length := by
              have := (List.getElem?_eq_some_iff.mp e1).1
              simp at this; omega
            subst hi2
            rw [List.getElem?_append_right (Nat.le_refl _)] at e1
            rw [w1.ln, List.getElem?_append_right (Nat.le_refl _)] at e2
            simp at e1 e2
            subst e1 e2
            simp only [CellRep]
            exact ⟨xs, upd_same, r1.mono (fun _ _ h => h) (List.prefix_append _ _)⟩
        · rcases List.mem_append.mp h with h | h
          · exact w1.fl c h
          · rw [List.mem_singleton] at h; rw [h]; exact hf
      · show Rep _ _ _ _ _
        simp only [Rep]
        exact ⟨q, by rw [← w1.ln]; simp, rfl⟩
    · rw [if_neg hf] at p1; exact p1.elim
  · cases h

/-! ### operators -/
theorem se_bin {x y : E} (ihx : SE P cn cl n N x) (ihy : SE P cn cl n N y) (o : BOp) : SE P cn cl n N (.bin o x y) := by
  intro bw sc a h fb W X g
  simp only [chkE] at h
  split at h
  · simp only [Bool.and_eq_true] at h
    refine PE.weak (pe_op (op_bin h.1.1) (ihx.bor h.1.2 g) (ihy.bor h.2 g)) fun σ H Q ⟨ms, Z, G, env, w, s, p⟩ => ?_
    simp only [ev] at p
    refine tR.bind w s p (shift_m _) fun u ms1 Z1 H1 G1 d1 e1 g1 w1 s1 r1 p1 => ?_
    refine tR.bind w1 s1 p1 (shift_m _) fun v ms2 Z2 H2 G2 d2 e2 g2 w2 s2 r2 p2 => ?_
    obtain ⟨d, e, p3⟩ := lift_ok p2
    exact bin_use e w2 (BRep.grow r1 g2) r2 p3
  · cases h
theorem se_cat {x y : E} (ihx : SE P cn cl n N x) (ihy : SE P cn cl n N y) : SE P cn cl n N (.cat x y) := by
  intro bw sc a h fb W X g
  simp only [chkE] at h
  split at h
  · simp only [Bool.and_eq_true] at h
    refine PE.weak (pe_op op_cat (ihx.bor h.1 g) (ihy.bor h.2 g)) fun σ H Q ⟨ms, Z, G, env, w, s, p⟩ => ?_
    simp only [ev] at p
    refine tR.bind w s p (shift_m _) fun u ms1 Z1 H1 G1 d1 e1 g1 w1 s1 r1 p1 => ?_
    refine tR.bind w1 s1 p1 (shift_m _) fun v ms2 Z2 H2 G2 d2 e2 g2 w2 s2 r2 p2 => ?_
    obtain ⟨d, e, p3⟩ := lift_ok p2
    exact cat_use e w2 (BRep.grow r1 g2) r2 p3
  · cases h
theorem se_rep {x y : E} (ihx : SE P cn cl n N x) (ihy : SE P cn cl n N y) : SE P cn cl n N (.rep x y) := by
  intro bw sc a h fb W X g
  simp only [chkE] at h
  split at h
  · simp only [Bool.and_eq_true] at h
    refine PE.weak (pe_op op_rep (ihx.bor h.1 g) (ihy.bor h.2 g)) fun σ H Q ⟨ms, Z, G, env, w, s, p⟩ => ?_
    simp only [ev] at p
    refine tR.bind w s p (shift_m _) fun u ms1 Z1 H1 G1 d1 e1 g1 w1 s1 r1 p1 => ?_
    refine tR.bind w1 s1 p1 (shift_m _) fun v ms2 Z2 H2 G2 d2 e2 g2 w2 s2 r2 p2 => ?_
    obtain ⟨d, e, p3⟩ := lift_ok p2
    exact rep_use e w2 (BRep.grow r1 g2) r2 p3
  · cases h
theorem se_neg {x : E} (ihx : SE P cn cl n N x) : SE P cn cl n N (.neg x) := by
  intro bw sc a h fb W X g
  simp only [chkE] at h
  split at h
  · refine PE.weak (pe_un un_neg (ihx.bor h g)) fun σ H Q ⟨ms, Z, G, env, w, s, p⟩ => ?_
    simp only [ev] at p
    refine tR.bind w s p (shift_m _) fun u ms1 Z1 H1 G1 d1 e1 g1 w1 s1 r1 p1 => ?_
    split at p1
    · rw [BRep.int r1]; exact ⟨_, rfl, PostR.int p1 w1⟩
    · exact p1.elim
  · cases h
theorem se_not {x : E} (ihx : SE P cn cl n N x) : SE P cn cl n N (.not x) := by
  intro bw sc a h fb W X g
  simp only [chkE] at h
  split at h
  · refine PE.weak (pe_notT (ihx.bor h g)) fun σ H Q ⟨ms, Z, G, env, w, s, p⟩ => ?_
    simp only [ev] at p
    refine tR.bind w s p (shift_m _) fun u ms1 Z1 H1 G1 d1 e1 g1 w1 s1 r1 p1 => ?_
    cases e : truth d1 with
    | none => rw [e] at p1; exact p1.elim
    | some b => rw [e] at p1; exact ⟨b, truth_use e w1 r1, PostR.bl p1 w1⟩
  · cases h
theorem se_cmp {x y : E} (ihx : SE P cn cl n N x) (ihy : SE P cn cl n N y) (o : COp) : SE P cn cl n N (.cmp o x y) := by
  intro bw sc a h fb W X g
  simp only [chkE] at h
  split at h
  · simp only [Bool.and_eq_true, Bool.not_eq_true'] at h
    refine PE.weak (pe_cmpR (op_cmp g.hu h.1.1.1) (ihx.bor h.1.1.2 g) (ihy.bor h.1.2 g) h.2) fun σ H Q ⟨ms, Z, G, env, w, s, p⟩ => ?_
    simp only [ev] at p
    refine tR.bind w s p (shift_m _) fun u ms1 Z1 H1 G1 d1 e1 g1 w1 s1 r1 p1 => ?_
    refine tR.bind w1 s1 p1 (shift_m _) fun v ms2 Z2 H2 G2 d2 e2 g2 w2 s2 r2 p2 => ?_
    cases e : cmpD o d1 d2 with
    | none => rw [e] at p2; exact p2.elim
    | some c => rw [e] at p2; exact cmp_use e w2 (BRep.grow r1 g2) r2 (PostR.bl p2 w2)
  · cases h
theorem se_chn {x y z : E} (ihx : SE P cn cl n N x) (ihy : SE P cn cl n N y) (ihz : SE P cn cl n N z) (o o' : COp) : SE P cn cl n N (.chn o o' x y z) := by
  intro bw sc a h fb W X g
  simp only [chkE] at h
  split at h
  · simp only [Bool.and_eq_true, Bool.not_eq_true'] at h
    obtain ⟨⟨⟨⟨⟨h1, h2⟩, h3⟩, h4⟩, h5⟩, h6⟩ := h
    refine PE.weak (pe_chain (op_cmp g.hu h1) (op_cmp g.hu h2) (ihx.gen h3 g) (ihy.gen h4 g) (ihz.gen h5 g) h6) fun σ H Q ⟨ms, Z, G, env, w, s, p⟩ => ?_
    simp only [ev] at p
    refine tR.bind w s p (shift_m _) fun u ms1 Z1 H1 G1 d1 e1 g1 w1 s1 r1 p1 => ?_
    refine tR.bind w1 s1 p1 (shift_m _) fun v ms2 Z2 H2 G2 d2 e2 g2 w2 s2 r2 p2 => ?_
    have r1' := Rep.grow r1 g2
    cases e : cmpD o d1 d2 with
    | none => rw [e] at p2; exact p2.elim
    | some c =>
      rw [e] at p2
      refine cmp_use e w2 (.inl r1') (.inl r2) ⟨c, rfl, ?_⟩
      cases c with
      | false => exact PostR.bl p2 w2
      | true =>
        simp only [if_true]
        refine tR.bind w2 s2 p2 (shift_m _) fun q ms3 Z3 H3 G3 d3 e3 g3 w3 s3 r3 p3 => ?_
        cases e' : cmpD o' d2 d3 with
        | none => rw [e'] at p3; exact p3.elim
        | some c => rw [e'] at p3; exact cmp_use e' w3 (.inl (Rep.grow r2 g3)) (.inl r3) (PostR.bl p3 w3)
  · cases h

/-! ### subscripts -/
theorem se_idx {x y : E} (ihx : SE P cn cl n N x) (ihy : SE P cn cl n N y) : SE P cn cl n N (.idx x y) := by
  intro bw sc a h fb W X g
  simp only [chkE] at h
  split at h
  · simp only [Bool.and_eq_true] at h
    refine PE.weak (pe_ix (op_idx (by have := g.hu; omega)) (ihx.bor h.1.1 g) (ihy.gen h.1.2 g) (plainIx h.2)) fun σ H Q ⟨ms, Z, G, env, w, s, p⟩ => ?_
    simp only [ev] at p
    refine tR.bind w s p (shift_m _) fun u ms1 Z1 H1 G1 d1 e1 g1 w1 s1 r1 p1 => ?_
    refine tR.bind w1 s1 p1 (shift_m _) fun v ms2 Z2 H2 G2 d2 e2 g2 w2 s2 r2 p2 => ?_
    obtain ⟨d, e, p3⟩ := lift_ok p2
    exact idx_use e w2 (BRep.grow r1 g2) r2 p3
  · cases h
theorem po_eo {lo : Eo} (ih : ∀ e, lo = .so e → SE P cn cl n N e) {sc : Scope} {l : Option Expr} (h : chkEo P cn N lo sc l = true) {fb : Str → Bool} {W : WK} {X : Cx} (g : GX P cn cl n N sc fb W X) :
    PO X l (tR X.K cl W EqR (evo (callN P n) lo)) := by
  cases lo with
  | no =>
    simp only [chkEo, Option.isNone_iff_eq_none] at h
    subst h
    refine ⟨fun pins s σ H Q I q => po_none.run pins s σ H Q I ?_⟩
    obtain ⟨ms, Z, G, env, w, so, p⟩ := q
    exact p none ms Z H (Grow.refl w) w rfl
  | so e =>
    cases l with
    | none => simp [chkEo] at h
    | some x =>
      have h' : chkE P cn N e false sc x = true := by simpa only [chkEo] using h
      refine ⟨fun pins s σ H Q I q => (po_some ((ih e rfl).gen h' g)).run pins s σ H Q I ?_⟩
      obtain ⟨ms, Z, G, env, w, so, p⟩ := q
      simp only [evo] at p
      refine tR.bind w so p shift_eq fun u ms1 Z1 H1 G1 d1 e1 g1 w1 s1 r1 p1 => ?_
      split at p1
      · rw [(BRep.of (H := H1) r1).int]
        exact ⟨_, rfl, p1 _ ms1 Z1 H1 (Grow.refl w1) w1 rfl⟩
      · exact p1.elim
theorem se_slc {x : E} {lo hi : Eo} (ihx : SE P cn cl n N x) (ihl : ∀ e, lo = .so e → SE P cn cl n N e) (ihh : ∀ e, hi = .so e → SE P cn cl n N e) : SE P cn cl n N (.slc x lo hi) := by
  intro bw sc a h fb W X g
  simp only [chkE] at h
  split at h
  · simp only [Bool.and_eq_true] at h
    refine PE.weak (pe_slice op_slc (ihx.bor h.1.1 g) (po_eo ihl h.1.2 g) (po_eo ihh h.2 g)) fun σ H Q ⟨ms, Z, G, env, w, s, p⟩ => ?_
    simp only [ev] at p
    refine tR.bind w s p (shift_m _) fun u ms1 Z1 H1 G1 d1 e1 g1 w1 s1 r1 p1 => ?_
    refine tR.bind w1 s1 p1 (shift_m _) fun l ms2 Z2 H2 G2 d2 e2 g2 w2 s2 r2 p2 => ?_
    refine tR.bind w2 s2 p2 (shift_m _) fun l' ms3 Z3 H3 G3 d3 e3 g3 w3 s3 r3 p3 => ?_
    cases (show d2 = l from r2)
    cases (show d3 = l' from r3)
    obtain ⟨d, e, p4⟩ := lift_ok p3
    exact slc_use e w3 ((BRep.grow r1 g2).grow g3) p4
  · cases h
theorem se_rev {x : E} (ihx : SE P cn cl n N x) : SE P cn cl n N (.rev x) := by
  intro bw sc a h fb W X g
  simp only [chkE] at h
  split at h
  · simp only [Bool.and_eq_true, decide_eq_true_eq] at h
    obtain ⟨rfl, h⟩ := h
    refine PE.weak (pe_revF (ihx.bor h g)) fun σ H Q ⟨ms, Z, G, env, w, s, p⟩ => ?_
    simp only [ev] at p
    refine tR.bind w s p (shift_m _) fun u ms1 Z1 H1 G1 d1 e1 g1 w1 s1 r1 p1 => ?_
    obtain ⟨d, e, p2⟩ := lift_ok p1
    unfold revD at e
    split at e
    · cases e
      obtain ⟨q, us, rfl, h1, r2⟩ := BRep.lst w1 r1
      exact ⟨q, us, rfl, .inl ⟨.of h1, fun c nc => PostR.lstG p2 w1 r2.reverse c nc⟩⟩
    · cases e
      obtain ⟨q, us, rfl, h1, r2, _⟩ := BRep.tup w1 r1
      exact ⟨q, us, rfl, .inr ⟨h1, fun its n c nc => PostR.tupF its n p2 w1 r2.reverse c nc⟩⟩
    · cases e
  · cases h

/-! ### built-in functions -/
theorem prim_names (o : Prim) : (primB o).1 ∈ builtinNames ∧ ((primB o).1 == ("__debug__" : Str)) = false ∧ (primB o).1 ≠ "__name__" := by cases o <;> decide +kernel
theorem md_prim (o : Prim) (es : Es) : md (.prim o es) = if primFr o then .frs else .gen := by cases o <;> rfl
theorem pe_prim {X : Cx} {o : Prim} {q pos : Pos} {e : Expr} {es : List Expr} {t : TA} (hc : X.calm = true) (hg : Gl X (primB o).1) (hm : X.mg (primB o).1 = none) (ha : PA X (e :: es) t) (h1 : noStar e = true) (h2 : es.all noStar = true) :
    PE X (.Call (.Name (primB o).1 q) (e :: es) [] pos) (tCB (rPrim X.K o) t) := by
  have c := cr_prim (X := X) o hc
  have b := boot_prim o
  obtain ⟨_, n1, n2⟩ := prim_names o
  cases o <;> first
    | exact pe_callB c hg hm b ha n2 n1 (star_cons h1) (star_none h2)
    | exact pe_callTy c hg hm b ha n2 n1 (star_cons h1) (star_none h2)
theorem se_prim {es : Es} (ih : SA P cn cl n N es) (o : Prim) : SE P cn cl n N (.prim o es) := by
  intro bw sc a h fb W X g
  simp only [chkE] at h
  split at h
  · rename_i y _ l _
    simp only [Bool.and_eq_true, decide_eq_true_eq] at h
    obtain ⟨⟨⟨rfl, h2⟩, h3⟩, h4⟩ := h
    have ha := ih true sc l h4 fb W X g
    have hs := (chkEs_star h4).1
    cases l with
    | nil => cases o <;> simp [primB] at h2
    | cons x l =>
      simp only [List.all_cons, Bool.and_eq_true] at hs
      refine PE.weak (pe_prim g.calm (g.gl h3) (g.bt (prim_names o).1) ha hs.1 hs.2) fun σ H Q ⟨ms, Z, G, env, w, s, p⟩ => ?_
      simp only [ev] at p
      refine tR.bind w s p (shift_m _) fun xs ms1 Z1 H1 G1 ds e g1 w1 s1 r1 p1 => ?_
      obtain ⟨d, e, p2⟩ := lift_ok p1
      rw [md_prim] at p2
      exact prim_use e w1 r1 p2
  · cases h
theorem isi_kit (t : Str) (ht : t ∈ tyNames) : ∃ T : String, bootBuiltins t = some (.type T) ∧ (t == ("__debug__" : Str)) = false ∧ t ≠ "__name__" ∧ t ∈ builtinNames ∧
    kitB "NoneType" T = some false ∧ kitB "bool" T = some (t == "bool" || t == "int") ∧ kitB "int" T = some (t == "int") ∧ kitB "str" T = some (t == "str") ∧ kitB "tuple" T = some (t == "tuple") ∧ kitB "list" T = some (t == "list") ∧ kitB "dict" T = some (t == "dict") := by
  simp only [tyNames, List.mem_cons, List.not_mem_nil, or_false] at ht
  rcases ht with rfl | rfl | rfl | rfl | rfl
  · exact ⟨"int", by decide +kernel⟩
  · exact ⟨"bool", by decide +kernel⟩
  · exact ⟨"tuple", by decide +kernel⟩
  · exact ⟨"list", by decide +kernel⟩
  · exact ⟨"str", by decide +kernel⟩
end
end MP

namespace MP
open PySem PySem.Spec PyProof.Rows L2

/-! ### a value's truth is the test's -/
def Le {α : Type} (r r' : Res α) : Prop := r = .no ∨ r = r'
mutual
theorem tv_ev (cf : CallF) : ∀ (e : E) (env : Ev) (G : Gs), Le ((ev cf e env G).bindO truth) (tv cf e env G)
  | .not a, env, G => by
    rcases tv_ev cf a env G with h | h
    · refine .inl ?_
      simp only [ev]
      cases e : ev cf a env G with
      | ok d G1 =>
        rw [e] at h
        simp only [Res.bindO] at h
        cases ht : truth d with
        | none => simp only [Res.bind, ht]; rfl
        | some b => rw [ht] at h; cases h
      | ex c G1 => rw [e] at h; simp [Res.bindO] at h
      | no => rfl
    · simp only [tv]
      rw [← h]
      simp only [ev]
      cases e : ev cf a env G with
      | ok d G1 =>
        simp only [Res.bind, Res.bindO]
        cases ht : truth d with
        | none => exact .inl rfl
        | some b => exact .inr rfl
      | ex c G1 => exact .inr rfl
      | no => exact .inl rfl
  | .and es, env, G => by simp only [ev, tv]; exact tv_and cf es env G
  | .or es, env, G => by simp only [ev, tv]; exact tv_or cf es env G
  | .var _ _, _, _ => .inr rfl
  | .own _ _, _, _ => .inr rfl
  | .non, _, _ => .inr rfl
  | .bl _, _, _ => .inr rfl
  | .int _, _, _ => .inr rfl
  | .str _, _, _ => .inr rfl
  | .glb _ _, _, _ => .inr rfl
  | .tup _ _, _, _ => .inr rfl
  | .lst _, _, _ => .inr rfl
  | .disp _ _, _, _ => .inr rfl
  | .dK0, _, _ => .inr rfl
  | .dT0, _, _ => .inr rfl
  | .bin _ _ _, _, _ => .inr rfl
  | .cat _ _, _, _ => .inr rfl
  | .rep _ _, _, _ => .inr rfl
  | .neg _, _, _ => .inr rfl
  | .cmp _ _ _, _, _ => .inr rfl
  | .chn _ _ _ _ _, _, _ => .inr rfl
  | .ife _ _ _, _, _ => .inr rfl
  | .idx _ _, _, _ => .inr rfl
  | .slc _ _ _, _, _ => .inr rfl
  | .rev _, _, _ => .inr rfl
  | .call _ _ _, _, _ => .inr rfl
  | .prim _ _, _, _ => .inr rfl
  | .mth _ _ _, _, _ => .inr rfl
  | .isi _ _, _, _ => .inr rfl
  | .srtset _, _, _ => .inr rfl
  | .lrng _, _, _ => .inr rfl
  | .dzip _ _, _, _ => .inr rfl
  | .comp _ _ _ _ _, _, _ => .inr rfl
  | .dcomp _ _ _ _ _, _, _ => .inr rfl
  | .newc _, _, _ => .inr rfl
theorem tv_and (cf : CallF) : ∀ (es : Es) (env : Ev) (G : Gs), Le ((evAnd cf es env G).bindO truth) (tvAnd cf es env G)
  | .nil, _, _ => .inl rfl
  | .cons e .nil, env, G => by
    rcases tv_ev cf e env G with h | h
    · refine .inl ?_
      simp only [evAnd]
      cases q : ev cf e env G with
      | ok d G1 =>
        rw [q] at h
        cases d <;> first
          | rfl
          | (simp [Res.bindO, truth] at h)
      | ex c G1 => rw [q] at h; simp [Res.bindO] at h
      | no => rfl
    · simp only [evAnd, tvAnd]
      rw [← h]
      cases q : ev cf e env G with
      | ok d G1 =>
        cases d <;> first
          | exact .inl rfl
          | exact .inr rfl
      | ex c G1 => exact .inr rfl
      | no => exact .inl rfl
  | .cons e (.cons f es), env, G => by
    have ih := tv_and cf (.cons f es)
    have h := tv_ev cf e env G
    rw [show evAnd cf (.cons e (.cons f es)) env G = (ev cf e env G).bind fun d G => match d with
      | .bl true => evAnd cf (.cons f es) env G
      | .bl false => .ok (.bl false) G
      | _ => .no from rfl]
    rw [show tvAnd cf (.cons e (.cons f es)) env G = (tv cf e env G).bind fun b G => if b then tvAnd cf (.cons f es) env G else .ok false G from rfl]
    cases q : ev cf e env G with
    | ok d G1 =>
      rw [q] at h
      cases d <;> first
        | exact .inl rfl
        | skip
      rename_i b
      rcases h with h | h
      · simp [Res.bindO, truth] at h
      · rw [← h]
        cases b with
        | true => exact ih env G1
        | false => exact .inr rfl
    | ex c G1 =>
      rw [q] at h
      rcases h with h | h
      · simp [Res.bindO] at h
      · rw [← h]; exact .inr rfl
    | no => exact .inl rfl
theorem tv_or (cf : CallF) : ∀ (es : Es) (env : Ev) (G : Gs), Le ((evOr cf es env G).bindO truth) (tvOr cf es env G)
  | .nil, _, _ => .inl rfl
  | .cons e .nil, env, G => by
    rcases tv_ev cf e env G with h | h
    · refine .inl ?_
      simp only [evOr]
      cases q : ev cf e env G with
      | ok d G1 =>
        rw [q] at h
        cases d <;> first
          | rfl
          | (simp [Res.bindO, truth] at h)
      | ex c G1 => rw [q] at h; simp [Res.bindO] at h
      | no => rfl
    · simp only [evOr, tvOr]
      rw [← h]
      cases q : ev cf e env G with
      | ok d G1 =>
        cases d <;> first
          | exact .inl rfl
          | exact .inr rfl
      | ex c G1 => exact .inr rfl
      | no => exact .inl rfl
  | .cons e (.cons f es), env, G => by
    have ih := tv_or cf (.cons f es)
    have h := tv_ev cf e env G
    rw [show evOr cf (.cons e (.cons f es)) env G = (ev cf e env G).bind fun d G => match d with
      | .bl false => evOr cf (.cons f es) env G
      | .bl true => .ok (.bl true) G
      | _ => .no from rfl]
    rw [show tvOr cf (.cons e (.cons f es)) env G = (tv cf e env G).bind fun b G => if b then .ok true G else tvOr cf (.cons f es) env G from rfl]
    cases q : ev cf e env G with
    | ok d G1 =>
      rw [q] at h
      cases d <;> first
        | exact .inl rfl
        | skip
      rename_i b
      rcases h with h | h
      · simp [Res.bindO, truth] at h
      · rw [← h]
        cases b with
        | false => exact ih env G1
        | true => exact .inr rfl
    | ex c G1 =>
      rw [q] at h
      rcases h with h | h
      · simp [Res.bindO] at h
      · rw [← h]; exact .inr rfl
    | no => exact .inl rfl
end

/-! ### lists of expressions -/
def EsAll (p : E → Prop) : Es → Prop
  | .nil => True
  | .cons e es => p e ∧ EsAll p es
section
variable {P : Prog} {cn : Str → Option D} {cl : ClsOf} {n : Nat} {N : List Str}
theorem chkEs_inv {e : E} {es : Es} {bw : Bool} {sc : Scope} {l : List Expr} (h : chkEs P cn N (.cons e es) bw sc l = true) : ∃ x r, l = x :: r ∧ chkE P cn N e bw sc x = true ∧ noStar x = true ∧ chkEs P cn N es bw sc r = true := by
  simp only [chkEs] at h
  split at h
  · rename_i x r
    simp only [Bool.and_eq_true] at h
    exact ⟨x, r, rfl, h.1.1, h.1.2, h.2⟩
  · cases h
theorem chkEs_nil {bw : Bool} {sc : Scope} {l : List Expr} (h : chkEs P cn N .nil bw sc l = true) : l = [] := by
  simpa only [chkEs, List.isEmpty_iff] using h
theorem sa_of : ∀ {es : Es}, EsAll (SE P cn cl n N) es → SA P cn cl n N es
  | .nil, _ => by
    intro bw sc l h fb W X g
    simp only [chkEs, List.isEmpty_iff] at h
    subst h
    refine PA.weak pa_nil fun σ H Q ⟨ms, Z, G, env, w, s, p⟩ => ?_
    refine p [] ms Z H (Grow.refl w) w ?_
    cases bw
    · exact (Reps.nil : Reps X.K ms Z [] [])
    · show BReps X.K ms Z H [] []
      rfl
  | .cons e es, ih => by
    intro bw sc l h fb W X g
    simp only [chkEs] at h
    split at h
    · rename_i x l
      simp only [Bool.and_eq_true] at h
      have hr := sa_of ih.2 bw sc l h.2 fb W X g
      cases bw with
      | true =>
        refine PA.weak (pa_cons (ih.1.bor h.1.1 g) hr (star_cons h.1.2)) fun σ H Q ⟨ms, Z, G, env, w, s, p⟩ => ?_
        simp only [evs] at p
        refine tR.bind w s p (shift_l _) fun u ms1 Z1 H1 G1 d1 e1 g1 w1 s1 r1 p1 => ?_
        refine tR.bind w1 s1 p1 (shift_l _) fun us ms2 Z2 H2 G2 d2 e2 g2 w2 s2 r2 p2 => ?_
        exact p2 _ ms2 Z2 H2 (Grow.refl w2) w2 ⟨u, us, rfl, BRep.grow r1 g2, r2⟩
      | false =>
        refine PA.weak (pa_cons (ih.1.gen h.1.1 g) hr (star_cons h.1.2)) fun σ H Q ⟨ms, Z, G, env, w, s, p⟩ => ?_
        simp only [evs] at p
        refine tR.bind w s p (shift_l _) fun u ms1 Z1 H1 G1 d1 e1 g1 w1 s1 r1 p1 => ?_
        refine tR.bind w1 s1 p1 (shift_l _) fun us ms2 Z2 H2 G2 d2 e2 g2 w2 s2 r2 p2 => ?_
        exact p2 _ ms2 Z2 H2 (Grow.refl w2) w2 (Reps.cons (Rep.grow r1 g2) r2)
    · cases h
theorem and_cons (cf : CallF) (e f : E) (es : Es) (env : Ev) (G : Gs) : evAnd cf (.cons e (.cons f es)) env G = (ev cf e env G).bind fun d G => match d with
      | .bl true => evAnd cf (.cons f es) env G
      | .bl false => .ok (.bl false) G
      | _ => .no := rfl
theorem or_cons (cf : CallF) (e f : E) (es : Es) (env : Ev) (G : Gs) : evOr cf (.cons e (.cons f es)) env G = (ev cf e env G).bind fun d G => match d with
      | .bl false => evOr cf (.cons f es) env G
      | .bl true => .ok (.bl true) G
      | _ => .no := rfl
theorem one_bool {X : Cx} {W : WK} {e : E} {a : Expr} {f : Ev → Gs → Res D} (he : PE X a (tE X.K cl W .bor (ev (callN P n) e)))
    (hf : ∀ env G, f env G = (ev (callN P n) e env G).bind fun d G => match d with
      | .bl b => .ok (.bl b) G
      | _ => .no) : PE X a (tE X.K cl W .gen f) := by
  refine PE.weak he fun σ H Q ⟨ms, Z, G, env, w, s, p⟩ => ?_
  rw [hf] at p
  refine tR.bind w s p (shift_m _) fun u ms1 Z1 H1 G1 d1 e1 g1 w1 s1 r1 p1 => ?_
  cases d1 <;> first
    | exact p1.elim
    | (rw [BRep.bl r1]; exact PostR.bl p1 w1)
theorem se_andL : ∀ {es : Es}, EsAll (SE P cn cl n N) es → ∀ (sc : Scope) (l : List Expr) (pos : Pos), chkEs P cn N es true sc l = true → ∀ (fb : Str → Bool) (W : WK) (X : Cx), GX P cn cl n N sc fb W X → es.length ≠ 0 →
    PE X (.BoolOp .And l pos) (tE X.K cl W .gen (evAnd (callN P n) es))
  | .nil, _, _, _, _, _, _, _, _, _, hl => absurd rfl hl
  | .cons e .nil, ih, sc, l, pos, h, fb, W, X, g, _ => by
    obtain ⟨x, r, rfl, h1, h2, h3⟩ := chkEs_inv h
    cases chkEs_nil h3
    exact pe_one (one_bool (ih.1.bor h1 g) fun env G => rfl)
  | .cons e (.cons f es), ih, sc, l, pos, h, fb, W, X, g, _ => by
    obtain ⟨x, l, rfl, h1, h1', h2⟩ := chkEs_inv h
    · obtain ⟨y, l', rfl, _⟩ := chkEs_inv h2
      · have hr := se_andL ih.2 sc (y :: l') pos h2 fb W X g (by simp [Es.length])
        refine PE.weak (pe_and (ih.1.bor h1 g) hr) fun σ H Q ⟨ms, Z, G, env, w, s, p⟩ => ?_
        rw [and_cons] at p
        refine tR.bind w s p (shift_m _) fun u ms1 Z1 H1 G1 d1 e1 g1 w1 s1 r1 p1 => ?_
        cases d1 <;> first
          | exact p1.elim
          | skip
        rename_i b
        rw [BRep.bl r1]
        refine ⟨b, rfl, ?_⟩
        cases b with
        | true => exact tR.same w1 s1 p1
        | false => exact PostR.bl p1 w1
theorem se_orL : ∀ {es : Es}, EsAll (SE P cn cl n N) es → ∀ (sc : Scope) (l : List Expr) (pos : Pos), chkEs P cn N es true sc l = true → ∀ (fb : Str → Bool) (W : WK) (X : Cx), GX P cn cl n N sc fb W X → es.length ≠ 0 →
    PE X (.BoolOp .Or l pos) (tE X.K cl W .gen (evOr (callN P n) es))
  | .nil, _, _, _, _, _, _, _, _, _, hl => absurd rfl hl
  | .cons e .nil, ih, sc, l, pos, h, fb, W, X, g, _ => by
    obtain ⟨x, r, rfl, h1, h2, h3⟩ := chkEs_inv h
    cases chkEs_nil h3
    exact pe_one (one_bool (ih.1.bor h1 g) fun env G => rfl)
  | .cons e (.cons f es), ih, sc, l, pos, h, fb, W, X, g, _ => by
    obtain ⟨x, l, rfl, h1, h1', h2⟩ := chkEs_inv h
    · obtain ⟨y, l', rfl, _⟩ := chkEs_inv h2
      · have hr := se_orL ih.2 sc (y :: l') pos h2 fb W X g (by simp [Es.length])
        refine PE.weak (pe_or (ih.1.bor h1 g) hr) fun σ H Q ⟨ms, Z, G, env, w, s, p⟩ => ?_
        rw [or_cons] at p
        refine tR.bind w s p (shift_m _) fun u ms1 Z1 H1 G1 d1 e1 g1 w1 s1 r1 p1 => ?_
        cases d1 <;> first
          | exact p1.elim
          | skip
        rename_i b
        rw [BRep.bl r1]
        refine ⟨b, rfl, ?_⟩
        cases b with
        | false => exact tR.same w1 s1 p1
        | true => exact PostR.bl p1 w1
theorem se_and {es : Es} (ih : EsAll (SE P cn cl n N) es) : SE P cn cl n N (.and es) := by
  intro bw sc a h fb W X g
  simp only [chkE] at h
  split at h
  · rename_i l pos
    cases es with
    | nil =>
      refine ⟨fun pins s σ H Q I q => ?_⟩
      obtain ⟨ms, Z, G, env, w, so, p⟩ := q
      exact p.elim
    | cons e es =>
      refine PE.weak (se_andL ih sc l pos h fb W X g (by simp [Es.length])) fun σ H Q q => ?_
      obtain ⟨ms, Z, G, env, w, so, p⟩ := q
      simp only [ev] at p
      exact ⟨ms, Z, G, env, w, so, p⟩
  · cases h
theorem se_or {es : Es} (ih : EsAll (SE P cn cl n N) es) : SE P cn cl n N (.or es) := by
  intro bw sc a h fb W X g
  simp only [chkE] at h
  split at h
  · rename_i l pos
    cases es with
    | nil =>
      refine ⟨fun pins s σ H Q I q => ?_⟩
      obtain ⟨ms, Z, G, env, w, so, p⟩ := q
      exact p.elim
    | cons e es =>
      refine PE.weak (se_orL ih sc l pos h fb W X g (by simp [Es.length])) fun σ H Q q => ?_
      obtain ⟨ms, Z, G, env, w, so, p⟩ := q
      simp only [ev] at p
      exact ⟨ms, Z, G, env, w, so, p⟩
  · cases h

/-! ### isinstance -/
theorem ty_of {K : Fg} {ms : List Addr} {Z H : Hp} {G : Gs} {d : D} {v : V} {t : Str} {b : Bool} (ht : t ∈ tyNames) (e : isTyD t d = some b) (w : WOk K cl ms Z H G) (r : BRep K ms Z H d v) :
    ∃ (T : String) (u : Value), bootBuiltins t = some (.type T) ∧ TyX K H v u ∧ PySem.W.kitOne K u (.type T) = some b := by
  obtain ⟨T, h1, _, _, _, k1, k2, k3, k4, k5, k6, k7⟩ := isi_kit t ht
  refine ⟨T, ?_⟩
  cases d <;> simp only [isTyD] at e <;> first
    | (cases e; done)
    | skip
  · cases e; cases BRep.non r; exact ⟨_, h1, .base .non, kit_ty k1⟩
  · cases e; cases BRep.bl r; exact ⟨_, h1, .base (.bl _), kit_ty k2⟩
  · cases e; cases BRep.int r; exact ⟨_, h1, .base (.int _), kit_ty k3⟩
  · cases e; cases BRep.str r; exact ⟨_, h1, .base (.str _), kit_ty k4⟩
  · cases e
    rename_i k ds
    obtain ⟨a, xs, rfl, z, _, tz⟩ := BRep.tup w r
    cases k with
    | false => exact ⟨_, h1, .base (.tup (w.zs _ _ tz).tup), kit_ty k5⟩
    | true =>
      obtain ⟨its, m, zz⟩ := tz
      exact ⟨_, h1, .fTuple (w.zs _ _ zz).frz, kit_ty k5⟩
  · cases e
    obtain ⟨a, xs, rfl, z, _⟩ := BRep.lst w r
    exact ⟨_, h1, .base (.lst z), kit_ty k6⟩
  · cases e
    obtain ⟨a, xs, rfl, _, z, _⟩ := BRep.dK w r
    rcases z with z | ⟨o, z⟩
    · exact ⟨_, h1, .base (.dK z), kit_ty k7⟩
    · exact ⟨_, h1, .fDict z, kit_ty k7⟩
theorem se_isi {x : E} (ihx : SE P cn cl n N x) (t : Str) : SE P cn cl n N (.isi x t) := by
  intro bw sc a h fb W X g
  simp only [chkE] at h
  split at h
  · rename_i y _ l u _ _ _
    simp only [Bool.and_eq_true, decide_eq_true_eq] at h
    obtain ⟨⟨⟨⟨⟨⟨rfl, h2⟩, rfl⟩, h4⟩, h5⟩, h6⟩, h7⟩ := h
    have ht : t ∈ tyNames := by
      rw [List.any_eq_true] at h5
      obtain ⟨z, hz, e⟩ := h5
      rw [← of_decide_eq_true e]; exact hz
    obtain ⟨T, b1, b2, b3, b4, _⟩ := isi_kit t ht
    have ht2 : ∀ q, PE X (.Name t q) (tC (.ty T)) := fun q => pe_bltn (v := .ty T) (g.gl h4) (g.bt b4) b1 rfl b3 b2
    refine PE.weak (pe_callB call_isi (g.gl h2) (g.bt (by decide +kernel)) (by decide +kernel) (pa_cons (ihx.bor h6 g) (pa_cons (ht2 _) pa_nil (by rfl)) (star_cons h7)) (by decide +kernel) (by decide +kernel) (star_cons h7) (by rfl)) fun σ H Q ⟨ms, Z, G, env, w, s, p⟩ => ?_
    simp only [ev] at p
    refine tR.bind w s p (shift_m _) fun v ms1 Z1 H1 G1 d1 e1 g1 w1 s1 r1 p1 => ?_
    cases e : isTyD t d1 with
    | none => rw [e] at p1; exact p1.elim
    | some b =>
      rw [e] at p1
      obtain ⟨T', u', h1, h2, h3⟩ := ty_of ht e w1 r1
      rw [b1] at h1
      cases h1
      exact ⟨v, .ty T, u', .type T, b, rfl, .ty T, h2, h3, PostR.bl p1 w1⟩
  · cases h
end
end MP

namespace MP
open PySem PySem.Spec PyProof.Rows L2

section
variable {P : Prog} {cn : Str → Option D} {cl : ClsOf} {n : Nat} {N : List Str}
theorem md_gen {e : E} (ho : isOwn e = false) (hf : fresh e = false) : md e = .gen := by unfold md; rw [ho, hf]; rfl
theorem md_frs {e : E} (ho : isOwn e = false) (hf : fresh e = true) : md e = .frs := by unfold md; rw [ho, hf]; rfl
theorem fresh_own {e : E} (h : fresh e = true) : isOwn e = false := by cases e <;> first | rfl | (simp [fresh] at h)
/-- a test by its value -/
theorem test_bind {K : Fg} {W : WK} {ms : List Addr} {Z H : Hp} {G : Gs} {σ : Sg} {env : Ev} {γ δ : Type} {rel2 : RelT γ δ} {c : E} {k : Bool → Gs → Res γ} {Q2 : δ → Hp → Prop} {Q1 : Bool → Hp → Prop} (w : WOk K cl ms Z H G) (s : SlotsOk K ms Z H σ env)
    (p : PostR K cl W rel2 σ ms Z H (((ev (callN P n) c env G).bindO truth).bind k) Q2) (sh : Shift rel2)
    (h : ∀ b ms1 Z1 H1 G1, Grow ms Z H ms1 Z1 H1 → WOk K cl ms1 Z1 H1 G1 → SlotsOk K ms1 Z1 H1 σ env → PostR K cl W rel2 σ ms1 Z1 H1 (k b G1) Q2 → Q1 b H1) :
    tR K cl W EqR (tv (callN P n) c) σ H Q1 := by
  rcases tv_ev (callN P n) c env G with e | e
  · rw [e] at p; exact p.elim
  · rw [e] at p
    refine tR.bind w s p sh fun b ms1 Z1 H1 G1 a e g1 w1 s1 r1 p1 => ?_
    cases (show a = b from r1)
    exact h _ ms1 Z1 H1 G1 g1 w1 s1 p1
theorem se_ife {c x y : E} (ihc : ST P cn cl n N c) (ihx : SE P cn cl n N x) (ihy : SE P cn cl n N y) : SE P cn cl n N (.ife c x y) := by
  intro bw sc a h fb W X g
  simp only [chkE] at h
  split at h
  · rename_i tt ll rr pp
    simp only [Bool.and_eq_true] at h
    obtain ⟨⟨h1, h2⟩, h3⟩ := h
    have hc := ihc true sc _ h1 fb W X g
    have go : ∀ (m : Md), PE X ll (tE X.K cl W m (ev (callN P n) x)) → PE X rr (tE X.K cl W m (ev (callN P n) y)) → PE X (.IfExp tt ll rr pp) (tE X.K cl W m (ev (callN P n) (.ife c x y))) := fun m px py =>
      PE.weak (pe_ifExp hc px py) fun σ H Q ⟨ms, Z, G, env, w, s, p⟩ => by
        simp only [ev] at p
        refine test_bind w s p (shift_m _) fun b ms1 Z1 H1 G1 g1 w1 s1 p1 => ?_
        cases b with
        | true => exact ⟨ms1, Z1, G1, env, w1, s1, p1⟩
        | false => exact ⟨ms1, Z1, G1, env, w1, s1, p1⟩
    by_cases q : (fresh x && fresh y) = true
    · simp only [Bool.and_eq_true] at q
      have px := ihx false sc _ h2 fb W X g
      have py := ihy false sc _ h3 fb W X g
      rw [md_frs (own_bw h2) q.1] at px
      rw [md_frs (own_bw h3) q.2] at py
      rw [md_frs rfl (by simp [fresh, q.1, q.2])]
      exact go _ px py
    · rw [md_gen rfl (by simpa [fresh] using q)]
      exact go _ (ihx.gen h2 g) (ihy.gen h3 g)
  · cases h

/-! ### calls -/
theorem chkE_bw {e : E} (ho : isOwn e = false) {sc : Scope} {a : Expr} (h : chkE P cn N e true sc a = true) : chkE P cn N e false sc a = true := by
  cases e <;> first
    | exact h
    | cases ho
theorem own_cons {e : E} {es : Es} (h : (Es.cons e es).hasOwn = false) : isOwn e = false ∧ es.hasOwn = false := by
  cases e <;> first
    | exact ⟨rfl, h⟩
    | cases h
theorem chkEs_bw : ∀ {es : Es}, es.hasOwn = false → ∀ {sc : Scope} {l : List Expr}, chkEs P cn N es true sc l = true → chkEs P cn N es false sc l = true
  | .nil, _, sc, l, h => by simpa only [chkEs] using h
  | .cons e es, ho, sc, l, h => by
    obtain ⟨x, r, rfl, h1, h2, h3⟩ := chkEs_inv h
    obtain ⟨o1, o2⟩ := own_cons ho
    simp only [chkEs, chkE_bw o1 h1, h2, chkEs_bw o2 h3, Bool.and_true]
def isCol : HO → Bool
  | .lst _ => true
  | .dK _ => true
  | .dT _ => true
  | _ => false
section
variable {K : Fg} {ms : List Addr} {Z Z' H : Hp} {G : Gs}
theorem BRep.more {d : D} {v : V} (h : BRep K ms Z H d v) (hz : ∀ a o, Z a = some o → Z' a = some o) (hn : ∀ a o, Z a = none → Z' a = some o → H a = some o) : BRep K ms Z' H d v := by
  rcases h with h | ⟨a, rfl, z, m, o⟩
  · exact .inl (h.mono hz (List.prefix_refl _))
  · cases e : Z' a with
    | none =>
      refine .inr ⟨a, rfl, e, m, ?_⟩
      cases d <;> simp only [OwnAt] at o ⊢
      · obtain ⟨xs, e, r⟩ := o; exact ⟨xs, e, r.mono hz (List.prefix_refl _)⟩
      · obtain ⟨xs, l, e, r⟩ := o; exact ⟨xs, l, e, r.mono hz (List.prefix_refl _)⟩
      · obtain ⟨xs, l, e, r⟩ := o; exact ⟨xs, l, e, r.mono hz (List.prefix_refl _)⟩
    | some u =>
      have q := hn a u z e
      refine .inl ?_
      cases d <;> simp only [OwnAt] at o <;> simp only [Rep]
      · obtain ⟨xs, e2, r⟩ := o; rw [q] at e2; cases e2; exact ⟨a, xs, rfl, e, r.mono hz (List.prefix_refl _)⟩
      · obtain ⟨xs, l, e2, r⟩ := o; rw [q] at e2; cases e2; exact ⟨a, xs, rfl, l, e, r.mono hz (List.prefix_refl _)⟩
      · obtain ⟨xs, l, e2, r⟩ := o; rw [q] at e2; cases e2; exact ⟨a, xs, rfl, l, e, r.mono hz (List.prefix_refl _)⟩
theorem BReps.more : ∀ {ds : List D} {xs : List V}, BReps K ms Z H ds xs → (∀ a o, Z a = some o → Z' a = some o) → (∀ a o, Z a = none → Z' a = some o → H a = some o) → BReps K ms Z' H ds xs
  | [], xs, h, _, _ => h
  | d :: ds, xs, h, hz, hn => by
    obtain ⟨x, r, rfl, h1, h2⟩ := h
    exact ⟨x, r, rfl, h1.more hz hn, h2.more hz hn⟩
theorem BRep.col {d : D} {a : Addr} (o : OwnAt K ms Z H a d) : ∃ u, H a = some u ∧ isCol u = true ∧ ∀ Z', (∀ b w, Z b = some w → Z' b = some w) → Z' a = some u → Rep K ms Z' d (.ref a) := by
  cases d <;> simp only [OwnAt] at o
  · obtain ⟨xs, e, r⟩ := o
    exact ⟨_, e, rfl, fun Z' hz q => by simp only [Rep]; exact ⟨a, xs, rfl, q, r.mono hz (List.prefix_refl _)⟩⟩
  · obtain ⟨xs, l, e, r⟩ := o
    exact ⟨_, e, rfl, fun Z' hz q => by simp only [Rep]; exact ⟨a, xs, rfl, l, q, r.mono hz (List.prefix_refl _)⟩⟩
  · obtain ⟨xs, l, e, r⟩ := o
    exact ⟨_, e, rfl, fun Z' hz q => by simp only [Rep]; exact ⟨a, xs, rfl, l, q, r.mono hz (List.prefix_refl _)⟩⟩
/-- what is lent to a call is frozen while it lasts -/
theorem lend : ∀ {ds : List D} {xs : List V} {Z : Hp}, WOk K cl ms Z H G → BReps K ms Z H ds xs →
    ∃ Zc, WOk K cl ms Zc H G ∧ Reps K ms Zc ds xs ∧ (∀ a o, Z a = some o → Zc a = some o) ∧ ∀ a o, Z a = none → Zc a = some o → isCol o = true ∧ H a = some o
  | [], xs, Z, w, h => ⟨Z, w, by simp only [Reps]; exact h, fun _ _ h => h, fun a o h h2 => by rw [h] at h2; cases h2⟩
  | d :: ds, xs, Z, w, h => by
    obtain ⟨x, r, rfl, h1, h2⟩ := h
    obtain ⟨Z1, w1, r1, k1, k2⟩ : ∃ Z1, WOk K cl ms Z1 H G ∧ Rep K ms Z1 d x ∧ (∀ a o, Z a = some o → Z1 a = some o) ∧ ∀ a o, Z a = none → Z1 a = some o → isCol o = true ∧ H a = some o := by
      rcases h1 with h1 | ⟨a, rfl, z, m, o⟩
      · exact ⟨Z, w, h1, fun _ _ h => h, fun a o h h2 => by rw [h] at h2; cases h2⟩
      · obtain ⟨u, e, c, rp⟩ := BRep.col o
        refine ⟨upd Z a u, w.freeze e z m, rp _ (upd_get z) upd_same, upd_get z, fun b v q q2 => ?_⟩
        by_cases hb : b = a
        · subst hb; rw [upd_same] at q2; cases q2; exact ⟨c, e⟩
        · rw [upd_ne hb, q] at q2; cases q2
    obtain ⟨Zc, wc, rc, kc1, kc2⟩ := lend w1 (h2.more k1 fun a o q q2 => (k2 a o q q2).2)
    refine ⟨Zc, wc, .cons (r1.mono kc1 (List.prefix_refl _)) rc, fun a o q => kc1 a o (k1 a o q), fun a o q q2 => ?_⟩
    cases e : Z1 a with
    | none => exact kc2 a o e q2
    | some u =>
      have := kc1 a u e
      rw [q2] at this; cases this
      exact k2 a o q e
mutual
theorem Rep.flat (hz : ∀ a o, Z a = some o → isCol o = false → Z' a = some o) : ∀ (d : D) (v : V), flat d = true → Rep K ms Z d v → Rep K ms Z' d v
  | .non, v, _, h => by simpa only [Rep] using h
  | .bl _, v, _, h => by simpa only [Rep] using h
  | .int _, v, _, h => by simpa only [Rep] using h
  | .str _, v, _, h => by simpa only [Rep] using h
  | .tup k ds, v, hf, h => by
    simp only [Rep] at h ⊢
    simp only [MP.flat] at hf
    obtain ⟨a, xs, e, s, r⟩ := h
    refine ⟨a, xs, e, ?_, Reps.flat hz ds xs hf r⟩
    cases k with
    | false => exact hz _ _ s rfl
    | true => obtain ⟨its, m, z⟩ := s; exact ⟨its, m, hz _ _ z rfl⟩
  | .lst _, _, hf, _ => by simp [MP.flat] at hf
  | .dK _ _, _, hf, _ => by simp [MP.flat] at hf
  | .dT _ _, _, hf, _ => by simp [MP.flat] at hf
  | .scr _, _, hf, _ => by simp [MP.flat] at hf
  | .glob _, _, hf, _ => by simp [MP.flat] at hf
  | .ctp _, _, hf, _ => by simp [MP.flat] at hf
theorem Reps.flat (hz : ∀ a o, Z a = some o → isCol o = false → Z' a = some o) : ∀ (ds : List D) (xs : List V), flats ds = true → Reps K ms Z ds xs → Reps K ms Z' ds xs
  | [], xs, _, h => by simpa only [Reps] using h
  | d :: ds, xs, hf, h => by
    simp only [Reps] at h ⊢
    simp only [flats, Bool.and_eq_true] at hf
    obtain ⟨x, r, e, h1, h2⟩ := h
    exact ⟨x, r, e, Rep.flat hz d x hf.1 h1, Reps.flat hz ds r hf.2 h2⟩
end
/-- .. and then given back -/
def back (Z Zc Z' : Hp) : Hp := fun a => if ((Z a).isNone && (Zc a).isSome) = true then none else Z' a
variable {Zc H' : Hp} {ms' : List Addr} {G' : Gs}
theorem back_sub {a : Addr} {o : HO} (h : back Z Zc Z' a = some o) : Z' a = some o ∧ (Z a = none → Zc a = none) := by
  unfold back at h
  split at h
  · cases h
  · rename_i q
    refine ⟨h, fun z => ?_⟩
    cases e : Zc a with
    | none => rfl
    | some u => rw [z, e] at q; exact absurd rfl q
theorem back_col (k2 : ∀ a o, Z a = none → Zc a = some o → isCol o = true ∧ H a = some o) (zz : ∀ a o, Zc a = some o → Z' a = some o) : ∀ a o, Z' a = some o → isCol o = false → back Z Zc Z' a = some o := fun a o h c => by
  unfold back
  split
  · rename_i q
    simp only [Bool.and_eq_true] at q
    cases e : Zc a with
    | none => rw [e] at q; cases q.2
    | some u =>
      have z : Z a = none := by
        cases e2 : Z a with
        | none => rfl
        | some w => rw [e2] at q; cases q.1
      have := zz a u e
      rw [h] at this; cases this
      rw [(k2 a o z e).1] at c; cases c
  · exact h
theorem Grow.back (k1 : ∀ a o, Z a = some o → Zc a = some o) (g : Grow ms Zc H ms' Z' H') : Grow ms Z H ms' (back Z Zc Z') H' where
  zz := fun a o h => by
    unfold MP.back
    rw [if_neg (by rw [h]; simp)]
    exact g.zz a o (k1 a o h)
  zn := fun a o h h2 => by
    obtain ⟨h3, h4⟩ := back_sub h2
    exact g.zn a o (h4 h) h3
  hh := g.hh
  hk := g.hk
  mm := g.mm
  mn := g.mn
theorem cell_flat {a : Addr} {c : Cell} (hf : c.flat = true) (hz : ∀ a o, Z a = some o → isCol o = false → Z' a = some o) (h : CellRep K cl ms Z H a c) : CellRep K cl ms Z' H a c := by
  cases c <;> simp only [CellRep, Cell.flat] at h hf ⊢
  · obtain ⟨xs, e, r⟩ := h; exact ⟨xs, e, Reps.flat hz _ _ hf r⟩
  · obtain ⟨C, dx, xs, e1, l, e, r⟩ := h; exact ⟨C, dx, xs, e1, l, e, Reps.flat hz _ _ hf r⟩
theorem WOk.back (k2 : ∀ a o, Z a = none → Zc a = some o → isCol o = true ∧ H a = some o) (g : Grow ms Zc H ms' Z' H') (w : WOk K cl ms' Z' H' G') : WOk K cl ms' (back Z Zc Z') H' G' where
  zs := fun a o h => w.zs a o (back_sub h).1
  mz := fun a h => by
    unfold MP.back
    split
    · rfl
    · exact w.mz a h
  nd := w.nd
  ln := w.ln
  gl := fun i a c e1 e2 => cell_flat (w.fl c (List.mem_of_getElem? e2)) (back_col k2 g.zz) (w.gl i a c e1 e2)
  fl := w.fl
theorem MRep.back {fr : Bool} {d : D} {v : V} (k2 : ∀ a o, Z a = none → Zc a = some o → isCol o = true ∧ H a = some o) (g : Grow ms Zc H ms' Z' H') (hf : flatR fr d = true) (h : MRep K (if fr then .frs else .gen) ms' Z' H' H d v) : MRep K (if fr then .frs else .gen) ms' (back Z Zc Z') H' H d v := by
  have bc := back_col k2 g.zz
  cases fr with
  | false => exact Rep.flat bc d v (by simpa [flatR] using hf) h
  | true =>
    obtain ⟨a, e, n0, z, m, o⟩ := h
    refine ⟨a, e, n0, ?_, m, ?_⟩
    · unfold MP.back; rw [z]; split <;> rfl
    · cases d <;> simp only [OwnAt] at o ⊢ <;> simp only [flatR, if_true] at hf
      · obtain ⟨xs, e, r⟩ := o; exact ⟨xs, e, Reps.flat bc _ _ hf r⟩
      · obtain ⟨xs, l, e, r⟩ := o; exact ⟨xs, l, e, Reps.flat bc _ _ hf r⟩
      · obtain ⟨xs, l, e, r⟩ := o; exact ⟨xs, l, e, Reps.flat bc _ _ hf r⟩
end
theorem callN_len {f : Str} {fd : FnDef} (hP : P f = some fd) {ds : List D} {G : Gs} (h : callN P n f ds G ≠ .no) : ds.length = fd.ps.length := by
  cases n with
  | zero => exact absurd rfl h
  | succ n =>
    simp only [callN, hP] at h
    by_cases q : ds.length = fd.ps.length
    · exact q
    · rw [if_neg q] at h; exact absurd rfl h
/-- what the call asks of the callee -/
theorem call_use {K : Fg} {W : WK} {ms : List Addr} {Z H : Hp} {G : Gs} {σ : Sg} {f : Str} {fd : FnDef} (hP : P f = some fd) {ds : List D} {xs : List V} {bw : Bool} {Q : VK} (w : WOk K cl ms Z H G) (r : LRep K bw ms Z H H ds xs)
    (p : PostR K cl W (MRep K (if fd.fr then .frs else .gen)) σ ms Z H (match callN P n f ds G with
      | .ok d G1 => if bw && !flatR fd.fr d then .no else .ok d G1
      | r => r) Q) : spI K cl P n f fd xs H Q (fun c d H' => wx cl W c d σ H') := by
  have hne : callN P n f ds G ≠ .no := fun e => by rw [e] at p; exact p
  have hl := callN_len hP hne
  cases bw with
  | false =>
    have r : Reps K ms Z ds xs := r
    refine ⟨by rw [← r.len, hl], ms, Z, G, ds, w, r, ?_⟩
    cases e : callN P n f ds G with
    | no => exact absurd e hne
    | ex c G1 => rw [e] at p; exact fun ms' Z' H' C g' w' hc => ⟨c, C, rfl, rfl, hc, p ms' Z' H' g' w'⟩
    | ok d G1 => rw [e] at p; exact fun v ms' Z' H' g' w' rv => p v ms' Z' H' g' w' rv
  | true =>
    obtain ⟨Zc, wc, rc, k1, k2⟩ := lend w (show BReps K ms Z H ds xs from r)
    refine ⟨by rw [← rc.len, hl], ms, Zc, G, ds, wc, rc, ?_⟩
    cases e : callN P n f ds G with
    | no => exact absurd e hne
    | ex c G1 => rw [e] at p; exact fun ms' Z' H' C g' w' hc => ⟨c, C, rfl, rfl, hc, p ms' _ H' (g'.back k1) (w'.back k2 g')⟩
    | ok d G1 =>
      rw [e] at p
      by_cases hf : flatR fd.fr d = true
      · simp only [hf, Bool.not_true, Bool.and_false, Bool.false_eq_true, if_false] at p
        exact fun v ms' Z' H' g' w' rv => p v ms' _ H' (g'.back k1) (w'.back k2 g') (MRep.back k2 g' hf rv)
      · simp only [Bool.eq_false_iff.mpr hf, Bool.not_false, Bool.and_true, if_true] at p
        exact p.elim
theorem gx_passes {sc : Scope} {fb : Str → Bool} {W : WK} {X : Cx} (g : GX P cn cl n N sc fb W X) : ∀ σ, PassesAt (CX X.prog X.w) X σ (fun c d H' => wx cl W c d σ H') :=
  fun σ pins H s e s' I c => g.tk e s' (XE.of_call I (fun _ _ _ h => h) c)
theorem pe_callZ {X : Cx} {k : Nat} {f : Addr} {fdd : FuncData} {ps : List Str} {sp : Sp} {E : Sg → XK} {x : Str} {p pos : Pos} (F : FnOk X.prog X.w X.K X.mg X.base (CX X.prog X.w) k f fdd ps sp) (hr : Room k X.A) (hg : Gl X x) (hm : X.mg x = some (.ref f)) (hk : PySem.W.keepIn X.K (.ref f) = true) (hb : Binds X.K fdd ps [])
    (hx : ∀ σ, PassesAt (CX X.prog X.w) X σ (E σ)) (hdb : (x == ("__debug__" : Str)) = false) : PE X (.Call (.Name x p) [] [] pos) (fun σ H Q => sp [] H Q (E σ)) := by
  refine ⟨fun pins s σ H Q I h => ?_⟩
  refine wpAny_Call_Name_kw (ld_glob I hg hm ?_ hdb)
  exact PySem.W.callWith_K0 I.kIn hk (run_fnSD (us := []) (vs := []) (dvs := []) F hr hb .nil (hx σ) I .nil h)
theorem se_call {es : Es} (ih : EsAll (SE P cn cl n N) es) (fr : Bool) (f : Str) : SE P cn cl n N (.call fr f es) := by
  intro bw sc a h fb W X g
  simp only [chkE] at h
  split at h
  · rename_i y _ l _
    simp only [Bool.and_eq_true, decide_eq_true_eq] at h
    obtain ⟨⟨⟨⟨rfl, h2⟩, h3⟩, h4⟩, h5⟩ := h
    split at h5
    · rename_i fd hP
      have hfr := of_decide_eq_true h5
      subst hfr
      obtain ⟨n1, n2, n3⟩ := nmB_ok h3
      obtain ⟨fa, fdd, hm, hk, hb, F⟩ := g.fns f fd hP
      have hmd : md (.call fd.fr f es) = if fd.fr then .frs else .gen := by
        cases q : fd.fr <;> rfl
      rw [hmd]
      have hlb : chkEs P cn N es es.hasOwn sc l = true := by
        cases q : es.hasOwn with
        | true => exact h4
        | false => exact chkEs_bw q h4
      have ha := sa_of ih es.hasOwn sc l hlb fb W X g
      have hs := (chkEs_star h4).1
      have fin : ∀ (vs : List V) (ms1 : List Addr) (Z1 H1 : Hp) (G1 : Gs) (ds : List D) (σ : Sg) (Q : VK), WOk X.K cl ms1 Z1 H1 G1 → LRep X.K es.hasOwn ms1 Z1 H1 H1 ds vs →
          PostR X.K cl W (MRep X.K (if fd.fr then .frs else .gen)) σ ms1 Z1 H1 (match callN P n f ds G1 with
            | .ok d G1 => if es.hasOwn && !flatR fd.fr d then .no else .ok d G1
            | r => r) Q → spI X.K cl P n f fd vs H1 Q (fun c d H' => wx cl W c d σ H') := fun vs ms1 Z1 H1 G1 ds σ Q w r p => call_use hP w r p
      cases l with
      | nil =>
        refine PE.weak (pe_callZ (E := fun σ c d H' => wx cl W c d σ H') F g.room (g.gl h2) hm hk hb (gx_passes g) n1) fun σ H Q ⟨ms, Z, G, env, w, s, p⟩ => ?_
        cases es with
        | cons e es => simp [chkEs] at hlb
        | nil =>
          simp only [ev, evs, Res.bind] at p
          exact fin [] ms Z H G [] σ Q w (by show Reps X.K ms Z [] []; exact .nil) p
      | cons x l =>
        simp only [List.all_cons, Bool.and_eq_true] at hs
        refine PE.weak (pe_callSD (dvs := []) (E := fun σ c d H' => wx cl W c d σ H') F g.room (g.gl h2) hm hk hb .nil (gx_passes g) ha n1 (star_cons hs.1) (star_none hs.2)) fun σ H Q ⟨ms, Z, G, env, w, s, p⟩ => ?_
        simp only [ev] at p
        refine tR.bind w s p (by cases fd.fr <;> exact shift_m _) fun vs ms1 Z1 H1 G1 ds e g1 w1 s1 r1 p1 => ?_
        rw [List.append_nil]
        refine fin vs ms1 Z1 H1 G1 ds σ Q w1 (shift_l _ _ _ _ _ _ _ _ (fun a o h => ⟨o, h⟩) (?_ : LRep X.K es.hasOwn ms1 Z1 H1 H1 ds vs)) p1
        cases q : es.hasOwn <;> rw [q] at r1 <;> exact r1
    · cases h5
  · cases h
end
end MP

namespace MP
open PySem PySem.Spec PyProof.Rows L2

section
variable {P : Prog} {cn : Str → Option D} {cl : ClsOf} {n : Nat} {N : List Str}

/-! ### methods of dicts and tuples -/
theorem dget_K {K : Fg} {ms : List Addr} {Z H : Hp} {G : Gs} {ks : List Key} {vs : List D} {d : D} {k : Key} {x y : V} (w : WOk K cl ms Z H G) (r : BRep K ms Z H (.dK ks vs) x) (e : keyOf d = some k) (ry : Rep K ms Z d y) :
    ∃ a o, x = .ref a ∧ DGet H a y o ∧ RelOD K ms Z (lookP ks vs k) o := by
  obtain ⟨a, xs, rfl, l, h1, r1⟩ := BRep.dK w r
  exact ⟨a, _, rfl, .inl ⟨_, k, h1, keyOf_v e ry, rfl⟩, lookP_v k l r1⟩
theorem dget_T {K : Fg} {ms : List Addr} {Z H : Hp} {G : Gs} {ks : List (List Key)} {vs : List D} {d : D} {k : List Key} {x y : V} (w : WOk K cl ms Z H G) (r : BRep K ms Z H (.dT ks vs) x) (e : tkeyOf d = some k) (ry : Rep K ms Z d y) :
    ∃ a o, x = .ref a ∧ DGet H a y o ∧ RelOD K ms Z (lookP ks vs k) o := by
  obtain ⟨a, xs, rfl, l, h1, r1⟩ := BRep.dT w r
  obtain ⟨b, e1, e2⟩ := tkeyOf_v w e ry
  exact ⟨a, _, rfl, .inr ⟨_, k, b, h1, e1, e2, rfl⟩, lookP_v k l r1⟩
theorem RelOD.get {K : Fg} {ms : List Addr} {Z : Hp} {o : Option D} {v : Option V} {d : D} {u : V} (h : RelOD K ms Z o v) (hd : Rep K ms Z d u) : Rep K ms Z (o.getD d) (v.getD u) := by
  cases o <;> cases v <;> first
    | exact hd
    | exact h
    | exact h.elim
theorem few1 {env : Env} {e : Expr} {cpos : Pos} (h : noStar e = true) : ((backTo cpos (starEach [e] env)).all (fun x => !x.1) && (backToKw cpos (keywordEach [] env)).all (fun x => x.1.isSome)
    && decide (([e] : List Expr).length + ([] : List Keyword).length + (if ([] : List Keyword).isEmpty then 0 else 1) < 30)) = true := by
  rw [star_all (l := [e]) (by simp [h])]
  rfl
theorem few2 {env : Env} {e f : Expr} {cpos : Pos} (h : noStar e = true) (h2 : noStar f = true) : ((backTo cpos (starEach [e, f] env)).all (fun x => !x.1) && (backToKw cpos (keywordEach [] env)).all (fun x => x.1.isSome)
    && decide (([e, f] : List Expr).length + ([] : List Keyword).length + (if ([] : List Keyword).isEmpty then 0 else 1) < 30)) = true := by
  rw [star_all (l := [e, f]) (by simp [h, h2])]
  rfl
theorem dic_inv {K : Fg} {ms : List Addr} {Z H : Hp} {G : Gs} {d : D} {x : V} (w : WOk K cl ms Z H G) (r : BRep K ms Z H d x) (h : (∃ ks vs, d = .dK ks vs) ∨ ∃ ks vs, d = .dT ks vs) : ∃ a, x = .ref a ∧ IsD H a := by
  rcases h with ⟨ks, vs, rfl⟩ | ⟨ks, vs, rfl⟩
  · obtain ⟨a, xs, rfl, l, h1, r1⟩ := BRep.dK w r
    exact ⟨a, rfl, .inl ⟨_, h1⟩⟩
  · obtain ⟨a, xs, rfl, l, h1, r1⟩ := BRep.dT w r
    exact ⟨a, rfl, .inr ⟨_, h1⟩⟩
theorem bind_bind {α β γ : Type} (r : Res α) (f : α → Gs → Res β) (k : β → Gs → Res γ) : (r.bind f).bind k = r.bind fun a G => (f a G).bind k := by cases r <;> rfl
theorem evs1 (cf : CallF) (e : E) (env : Ev) (G : Gs) {β : Type} (k : List D → Gs → Res β) : (evs cf (.cons e .nil) env G).bind k = (ev cf e env G).bind fun d G => k [d] G := by
  simp only [evs, bind_bind]
  rfl
theorem evs2 (cf : CallF) (e f : E) (env : Ev) (G : Gs) {β : Type} (k : List D → Gs → Res β) : (evs cf (.cons e (.cons f .nil)) env G).bind k = (ev cf e env G).bind fun d G => (ev cf f env G).bind fun d2 G => k [d, d2] G := by
  simp only [evs, bind_bind]
  rfl
theorem es_one {es : Es} {bw : Bool} {sc : Scope} {l : List Expr} (h : chkEs P cn N es bw sc l = true) (hl : l.length = 1) : ∃ e x, es = .cons e .nil ∧ l = [x] ∧ chkE P cn N e bw sc x = true ∧ noStar x = true := by
  cases es with
  | nil => cases chkEs_nil h; cases hl
  | cons e es =>
    obtain ⟨x, r, rfl, c1, c2, c3⟩ := chkEs_inv h
    cases es with
    | nil => cases chkEs_nil c3; exact ⟨e, x, rfl, rfl, c1, c2⟩
    | cons f es => obtain ⟨y, r', rfl, _⟩ := chkEs_inv c3; simp at hl
theorem es_two {es : Es} {bw : Bool} {sc : Scope} {l : List Expr} (h : chkEs P cn N es bw sc l = true) (hl : l.length = 2) : ∃ e x f y, es = .cons e (.cons f .nil) ∧ l = [x, y] ∧ chkE P cn N e bw sc x = true ∧ noStar x = true ∧ chkE P cn N f bw sc y = true ∧ noStar y = true := by
  cases es with
  | nil => cases chkEs_nil h; cases hl
  | cons e es =>
    obtain ⟨x, r, rfl, c1, c2, c3⟩ := chkEs_inv h
    obtain ⟨f, y, rfl, rfl, c4, c5⟩ := es_one c3 (by simpa using hl)
    exact ⟨e, x, f, y, rfl, rfl, c1, c2, c4, c5⟩
theorem mthS_dic {m : Mth} {d : D} (h : mthS m d = true) (hm : m = .get1 ∨ m = .get2) : (∃ ks vs, d = .dK ks vs) ∨ ∃ ks vs, d = .dT ks vs := by
  rcases hm with rfl | rfl <;> cases d <;> first
    | exact .inl ⟨_, _, rfl⟩
    | exact .inr ⟨_, _, rfl⟩
    | cases h
theorem cnt_inv {ds l : List D} {d : D} (h : mthD .count1 (.tup true ds) l = some d) : ∃ i is, l = [.int i] ∧ intsOf ds = some is ∧ d = .int ((is.count i : Nat) : Int) := by
  rcases l with _ | ⟨x, _ | ⟨y, l⟩⟩
  · simp [mthD] at h
  · cases x <;> simp only [mthD] at h <;> first
      | (cases h; done)
      | skip
    simp only [Option.map_eq_some_iff] at h
    obtain ⟨is, e, rfl⟩ := h
    exact ⟨_, is, rfl, e, rfl⟩
  · simp [mthD] at h
theorem pys_map : ∀ ds : List D, pys ds = ds.map py
  | [] => rfl
  | d :: ds => by rw [pys, pys_map ds]; rfl
theorem indexD_ok {d : D} : ∀ {ds : List D} {j : Nat}, indexD d ds = some j → (∃ z, ds[j]? = some z ∧ PyData.eqv (py z) (py d) = true) ∧ ∀ (m : Nat) (z : D), m < j → ds[m]? = some z → PyData.eqv (py z) (py d) = false
  | [], j, h => by cases h
  | e :: es, j, h => by
    rw [indexD] at h
    by_cases q : deq e d = true
    · rw [if_pos q] at h
      cases h
      exact ⟨⟨e, rfl, q⟩, fun m z hm => by omega⟩
    · rw [if_neg q, Option.map_eq_some_iff] at h
      obtain ⟨i, h1, rfl⟩ := h
      obtain ⟨⟨z, h2, h3⟩, h4⟩ := indexD_ok h1
      refine ⟨⟨z, by simpa using h2, h3⟩, fun m z' hm hz => ?_⟩
      cases m with
      | zero =>
        simp at hz
        subst hz
        simpa [deq] using q
      | succ m => exact h4 m z' (by omega) (by simpa using hz)
theorem ix1_inv {ds l : List D} {d : D} (h : mthD .index1 (.tup true ds) l = some d) : ∃ d0 j, l = [d0] ∧ MP.plain d0 = true ∧ okDs 40 ds = true ∧ indexD d0 ds = some j ∧ d = .int (j : Nat) := by
  rcases l with _ | ⟨x, _ | ⟨y, l⟩⟩
  · simp [mthD] at h
  · simp only [mthD] at h
    split at h
    · rename_i hp
      rw [Bool.and_eq_true] at hp
      rw [Option.map_eq_some_iff] at h
      obtain ⟨j, h1, rfl⟩ := h
      exact ⟨x, j, rfl, hp.1, hp.2, h1, rfl⟩
    · cases h
  · simp [mthD] at h
theorem ix2_inv {ds l : List D} {d : D} (h : mthD .index2 (.tup true ds) l = some d) : ∃ (d0 : D) (lo j : Nat), l = [d0, .int (lo : Int)] ∧ MP.plain d0 = true ∧ okDs 40 ds = true ∧ indexD d0 (ds.drop lo) = some j ∧ d = .int ((lo + j : Nat) : Int) := by
  rcases l with _ | ⟨x, _ | ⟨y, _ | ⟨z, l⟩⟩⟩
  · simp [mthD] at h
  · simp [mthD] at h
  · cases y <;> simp only [mthD] at h <;> first
      | (cases h; done)
      | skip
    rename_i i
    split at h
    · rename_i hp
      rw [Bool.and_eq_true, Bool.and_eq_true, decide_eq_true_eq] at hp
      rw [Option.map_eq_some_iff] at h
      obtain ⟨j, h1, rfl⟩ := h
      refine ⟨x, i.toNat, j, ?_, hp.1.1, hp.1.2, h1, rfl⟩
      rw [Int.toNat_of_nonneg hp.2]
    · cases h
  · simp [mthD] at h
theorem se_mth {x : E} {es : Es} (ihx : SE P cn cl n N x) (ih : EsAll (SE P cn cl n N) es) (m : Mth) : SE P cn cl n N (.mth m x es) := by
  intro bw sc a h fb W X g
  simp only [chkE] at h
  split at h
  · rename_i o y apos l cpos
    simp only [Bool.and_eq_true, decide_eq_true_eq] at h
    obtain ⟨⟨⟨⟨⟨⟨rfl, h2⟩, h3⟩, h4⟩, h5⟩, h6⟩, h7⟩ := h
    have hb := fun (nm : Str) (env : Env) => base_no (name := nm) (env := env) h5
    have hx := ihx.bor h3 g
    have hu : X.A.units + 1 < cLine := by have := g.hu; omega
    cases m with
    | index1 =>
      obtain ⟨e, l1, rfl, rfl, c1, c2⟩ := es_one h4 h2
      refine PE.weak (pe_tm F.plainAttrs_tuple F.slot_tuple_index F.type_tuple_index (mt_tindex g.hu) hx (sa_of ih false sc [l1] h4 fb W X g) (hb _ _) (few1 c2) h6 (star_cons c2) (by rfl)) fun σ H Q ⟨ms, Z, G, env, w, s, p⟩ => ?_
      simp only [ev] at p
      refine tR.bind w s p (shift_m _) fun u ms1 Z1 H1 G1 d1 e1 g1 w1 s1 r1 p1 => ?_
      by_cases hm : mthS .index1 d1 = true
      · rw [if_pos hm] at p1
        cases d1 with
        | tup k ds =>
          cases k with
          | false => cases hm
          | true =>
            obtain ⟨q, us, rfl, h1, r1', its, mm, z⟩ := BRep.tup w1 r1
            refine ⟨⟨q, its, mm, us, rfl, (w1.zs _ _ z).frz⟩, ?_⟩
            refine tR.bind w1 s1 p1 (shift_m _) fun vs ms2 Z2 H2 G2 d2 e2 g2 w2 s2 r2 p2 => ?_
            obtain ⟨d, e3, p3⟩ := lift_ok p2
            have r2 : Reps X.K ms2 Z2 d2 vs := r2
            obtain ⟨d0, j, rfl, a1, a2, a3, rfl⟩ := ix1_inv e3
            obtain ⟨y, t, rfl, v1, v2⟩ := r2.cons_inv
            simp only [Reps] at v2
            subst v2
            obtain ⟨m1, m2⟩ := indexD_ok a3
            obtain ⟨z0, m3, m4⟩ := m1
            refine ⟨q, y, py d0, pys ds, j, py z0, 0, rfl, .inl ⟨rfl, rfl⟩, .tup ((show TupZ Z2 q true _ from ⟨its, mm, g2.zz _ _ z⟩).sq w2) (Reps.dp w2 40 ds us a2 (r1'.grow g2)), BRep.dp w2 a1 (.inl v1), okDs_shapedT a2, plain_shaped a1, by rw [pys_map, List.getElem?_map, m3]; rfl, m4, Nat.zero_le _, fun m z' _ hm2 hz => ?_, PostR.int p3 w2⟩
            rw [pys_map, List.getElem?_map, Option.map_eq_some_iff] at hz
            obtain ⟨z1, hz1, rfl⟩ := hz
            exact m2 m z1 hm2 hz1
        | _ => cases hm
      · rw [if_neg hm] at p1; exact p1.elim
    | index2 =>
      obtain ⟨e, l1, f, l2, rfl, rfl, c1, c2, c3, c4⟩ := es_two h4 h2
      refine PE.weak (pe_tm F.plainAttrs_tuple F.slot_tuple_index F.type_tuple_index (mt_tindex g.hu) hx (sa_of ih false sc [l1, l2] h4 fb W X g) (hb _ _) (few2 c2 c4) h6 (star_cons c2) (star_none (l := [l2]) (by simp [c4]))) fun σ H Q ⟨ms, Z, G, env, w, s, p⟩ => ?_
      simp only [ev] at p
      refine tR.bind w s p (shift_m _) fun u ms1 Z1 H1 G1 d1 e1 g1 w1 s1 r1 p1 => ?_
      by_cases hm : mthS .index2 d1 = true
      · rw [if_pos hm] at p1
        cases d1 with
        | tup k ds =>
          cases k with
          | false => cases hm
          | true =>
            obtain ⟨q, us, rfl, h1, r1', its, mm, z⟩ := BRep.tup w1 r1
            refine ⟨⟨q, its, mm, us, rfl, (w1.zs _ _ z).frz⟩, ?_⟩
            refine tR.bind w1 s1 p1 (shift_m _) fun vs ms2 Z2 H2 G2 d2 e2 g2 w2 s2 r2 p2 => ?_
            obtain ⟨d, e3, p3⟩ := lift_ok p2
            have r2 : Reps X.K ms2 Z2 d2 vs := r2
            obtain ⟨d0, lo, j, rfl, a1, a2, a3, rfl⟩ := ix2_inv e3
            obtain ⟨y, t, rfl, v1, v2⟩ := r2.cons_inv
            obtain ⟨y2, t2, rfl, v3, v4⟩ := v2.cons_inv
            simp only [Reps] at v4
            subst v4
            simp only [Rep] at v3
            subst v3
            obtain ⟨m1, m2⟩ := indexD_ok a3
            obtain ⟨z0, m3, m4⟩ := m1
            rw [List.getElem?_drop] at m3
            refine ⟨q, y, py d0, pys ds, lo + j, py z0, lo, rfl, .inr rfl, .tup ((show TupZ Z2 q true _ from ⟨its, mm, g2.zz _ _ z⟩).sq w2) (Reps.dp w2 40 ds us a2 (r1'.grow g2)), BRep.dp w2 a1 (.inl v1), okDs_shapedT a2, plain_shaped a1, by rw [pys_map, List.getElem?_map, m3]; rfl, m4, by omega, fun m z' hm1 hm2 hz => ?_, PostR.int p3 w2⟩
            rw [pys_map, List.getElem?_map, Option.map_eq_some_iff] at hz
            obtain ⟨z1, hz1, rfl⟩ := hz
            refine m2 (m - lo) z1 (by omega) ?_
            rw [List.getElem?_drop, show lo + (m - lo) = m by omega]
            exact hz1
        | _ => cases hm
      · rw [if_neg hm] at p1; exact p1.elim
    | get1 =>
      obtain ⟨e, l1, rfl, rfl, c1, c2⟩ := es_one h4 h2
      refine PE.weak (pe_dget1 hu hx (ih.1.gen c1 g) ⟨hb _ _, few1 c2, h6, by rw [star_cons c2]; rfl⟩) fun σ H Q ⟨ms, Z, G, env, w, s, p⟩ => ?_
      simp only [ev] at p
      refine tR.bind w s p (shift_m _) fun u ms1 Z1 H1 G1 d1 e1 g1 w1 s1 r1 p1 => ?_
      by_cases hm : mthS .get1 d1 = true
      · rw [if_pos hm] at p1
        have isd := mthS_dic hm (.inl rfl)
        obtain ⟨a, rfl, id⟩ := dic_inv w1 r1 isd
        refine ⟨a, rfl, id, ?_⟩
        rw [evs1] at p1
        refine tR.bind w1 s1 p1 (shift_m _) fun v ms2 Z2 H2 G2 d2 e2 g2 w2 s2 r2 p2 => ?_
        obtain ⟨d, e3, p3⟩ := lift_ok p2
        have r1' := BRep.grow r1 g2
        rcases isd with ⟨ks, vs, rfl⟩ | ⟨ks, vs, rfl⟩
        · simp only [mthD, Option.map_eq_some_iff] at e3
          obtain ⟨k, e4, rfl⟩ := e3
          obtain ⟨b, o, e5, q, rl⟩ := dget_K w2 r1' e4 r2
          cases e5
          exact ⟨o, q, PostR.val p3 w2 (rl.get (by simp only [Rep]))⟩
        · simp only [mthD, Option.map_eq_some_iff] at e3
          obtain ⟨k, e4, rfl⟩ := e3
          obtain ⟨b, o, e5, q, rl⟩ := dget_T w2 r1' e4 r2
          cases e5
          exact ⟨o, q, PostR.val p3 w2 (rl.get (by simp only [Rep]))⟩
      · rw [if_neg hm] at p1; exact p1.elim
    | get2 =>
      obtain ⟨e, l1, f, l2, rfl, rfl, c1, c2, c3, c4⟩ := es_two h4 h2
      refine PE.weak (pe_dget2 hu hx (ih.1.gen c1 g) (ih.2.1.gen c3 g) ⟨hb _ _, few2 c2 c4, h6, by rw [star_cons c2, star_cons c4]; rfl⟩) fun σ H Q ⟨ms, Z, G, env, w, s, p⟩ => ?_
      simp only [ev] at p
      refine tR.bind w s p (shift_m _) fun u ms1 Z1 H1 G1 d1 e1 g1 w1 s1 r1 p1 => ?_
      by_cases hm : mthS .get2 d1 = true
      · rw [if_pos hm] at p1
        have isd := mthS_dic hm (.inr rfl)
        obtain ⟨a, rfl, id⟩ := dic_inv w1 r1 isd
        refine ⟨a, rfl, id, ?_⟩
        rw [evs2] at p1
        refine tR.bind w1 s1 p1 (shift_m _) fun v ms2 Z2 H2 G2 d2 e2 g2 w2 s2 r2 p2 => ?_
        refine tR.bind w2 s2 p2 (shift_m _) fun z ms3 Z3 H3 G3 d3 e3 g3 w3 s3 r3 p3 => ?_
        obtain ⟨d, e3, p3⟩ := lift_ok p3
        have r1' := (BRep.grow r1 g2).grow g3
        have r2' := Rep.grow r2 g3
        rcases isd with ⟨ks, vs, rfl⟩ | ⟨ks, vs, rfl⟩
        · simp only [mthD, Option.map_eq_some_iff] at e3
          obtain ⟨k, e4, rfl⟩ := e3
          obtain ⟨b, o, e5, q, rl⟩ := dget_K w3 r1' e4 r2'
          cases e5
          exact ⟨o, q, PostR.val p3 w3 (rl.get r3)⟩
        · simp only [mthD, Option.map_eq_some_iff] at e3
          obtain ⟨k, e4, rfl⟩ := e3
          obtain ⟨b, o, e5, q, rl⟩ := dget_T w3 r1' e4 r2'
          cases e5
          exact ⟨o, q, PostR.val p3 w3 (rl.get r3)⟩
      · rw [if_neg hm] at p1; exact p1.elim
    | count1 =>
      obtain ⟨e, l1, rfl, rfl, c1, c2⟩ := es_one h4 h2
      refine PE.weak (pe_tm F.plainAttrs_tuple F.slot_tuple_count F.type_tuple_count mt_tcount hx (sa_of ih false sc [l1] h4 fb W X g) (hb _ _) (few1 c2) h6 (star_cons c2) (by rfl)) fun σ H Q ⟨ms, Z, G, env, w, s, p⟩ => ?_
      simp only [ev] at p
      refine tR.bind w s p (shift_m _) fun u ms1 Z1 H1 G1 d1 e1 g1 w1 s1 r1 p1 => ?_
      by_cases hm : mthS .count1 d1 = true
      · rw [if_pos hm] at p1
        cases d1 with
        | tup k ds =>
          cases k with
          | false => cases hm
          | true =>
            obtain ⟨q, us, rfl, h1, r1', its, mm, z⟩ := BRep.tup w1 r1
            refine ⟨⟨q, its, mm, us, rfl, (w1.zs _ _ z).frz⟩, ?_⟩
            refine tR.bind w1 s1 p1 (shift_m _) fun vs ms2 Z2 H2 G2 d2 e2 g2 w2 s2 r2 p2 => ?_
            obtain ⟨d, e3, p3⟩ := lift_ok p2
            have r2 : Reps X.K ms2 Z2 d2 vs := r2
            obtain ⟨i0, is, rfl, e4, rfl⟩ := cnt_inv e3
            cases intsOf_eq e4
            have eu := Reps.ints.mp (r1'.grow g2)
            subst eu
            obtain ⟨v, t, rfl, v1, v2⟩ := r2.cons_inv
            simp only [Reps] at v2
            subst v2
            simp only [Rep] at v1
            subst v1
            exact ⟨q, is, _, rfl, rfl, (show TupZ Z2 q true _ from ⟨its, mm, g2.zz _ _ z⟩).sq w2, PostR.int p3 w2⟩
        | _ => cases hm
      · rw [if_neg hm] at p1; exact p1.elim
  · cases h
end
end MP

namespace MP
open PySem PySem.Spec PyProof.Rows L2

section
variable {P : Prog} {cn : Str → Option D} {cl : ClsOf} {n : Nat} {N : List Str}

/-! ### list(range(..)) -/
theorem rng_ints {ds : List D} {items : List D} (h : rngItems ds = some items) : (∃ j : Int, ds = [.int j] ∧ -1000000 ≤ j ∧ j ≤ 1000000 ∧ items = ((List.range j.toNat).map fun (k : Nat) => D.int k)) ∨
    (∃ i j : Int, ds = [.int i, .int j] ∧ -1000000 ≤ i ∧ i ≤ 1000000 ∧ -1000000 ≤ j ∧ j ≤ 1000000 ∧ items = ((List.range (j - i).toNat).map fun (k : Nat) => D.int (i + k))) ∨
    (∃ i j : Int, ds = [.int i, .int j, .int (-1)] ∧ -1000000 ≤ i ∧ i ≤ 1000000 ∧ -1000000 ≤ j ∧ j ≤ 1000000 ∧ items = ((List.range (i - j).toNat).map fun (k : Nat) => D.int (i - k))) ∨
    ∃ i j c : Int, ds = [.int i, .int j, .int c] ∧ (0 < c ∧ c ≤ 1000000) ∧ -1000000 ≤ i ∧ i ≤ 1000000 ∧ -1000000 ≤ j ∧ j ≤ 1000000 ∧ items = ((List.range (if i < j then ((j - i - 1) / c + 1).toNat else 0)).map fun (k : Nat) => D.int (i + k * c)) := by
  have hl : (LIM : Int) = 1000000 := rfl
  unfold rngItems at h
  rw [hl] at h
  split at h
  · split at h
    · cases h; rename_i q; exact .inl ⟨_, rfl, q.1, q.2, rfl⟩
    · cases h
  · split at h
    · cases h; rename_i q; exact .inr (.inl ⟨_, _, rfl, q.1, q.2.1, q.2.2.1, q.2.2.2, rfl⟩)
    · cases h
  · split at h
    · rename_i q
      obtain ⟨rfl, q⟩ := q
      cases h; exact .inr (.inr (.inl ⟨_, _, rfl, q.1, q.2.1, q.2.2.1, q.2.2.2, rfl⟩))
    · split at h
      · rename_i q
        cases h; exact .inr (.inr (.inr ⟨_, _, _, rfl, q.1, q.2.1, q.2.2.1, q.2.2.2.1, q.2.2.2.2, rfl⟩))
      · cases h
  · cases h
theorem rgc_pos {i j c : Int} (h0 : 0 < c) (h1 : c ≤ 1000000) (q1 : -1000000 ≤ i) (q2 : i ≤ 1000000) (q3 : -1000000 ≤ j) (q4 : j ≤ 1000000) : RgC i j c (if i < j then ((j - i - 1) / c + 1).toNat else 0) := by
  have e : Builtin.Range.rangeSize i j c = ((if i < j then ((j - i - 1) / c + 1).toNat else 0 : Nat) : Int) := by
    unfold Builtin.Range.rangeSize
    rw [if_pos h0]
    split
    · have : 0 ≤ (j - i - 1) / c := Int.ediv_nonneg (by omega) (by omega)
      omega
    · rfl
  refine ⟨by omega, by omega, ?_, e⟩
  have hm : Builtin.Range.rangeSize i j c ≤ 2000001 := by
    unfold Builtin.Range.rangeSize
    rw [if_pos h0]
    split
    · have : (j - i - 1) / c ≤ j - i - 1 := Int.ediv_le_self _ (by omega)
      omega
    · omega
  have hp : 0 ≤ Builtin.Range.rangeSize i j c := by rw [e]; omega
  unfold Builtin.Range.small
  generalize Builtin.Range.rangeSize i j c = r at hm hp
  simp only [Builtin.Range.rangeFitsLong, Bool.and_eq_true, Bool.or_eq_true, decide_eq_true_eq, beq_iff_eq, if_pos h0, gt_iff_lt]
  omega
theorem rep_int {K : Fg} {ms : List Addr} {Z : Hp} {i : Int} {v : V} (r : Rep K ms Z (.int i) v) : v = .int i := by simpa only [Rep] using r
theorem rgV_reps {K : Fg} {ms : List Addr} {Z : Hp} {i j : Int} : Reps K ms Z ((List.range (j - i).toNat).map fun (k : Nat) => D.int (i + k)) (rgV i j) := by
  have e1 : ((List.range (j - i).toNat).map fun (k : Nat) => D.int (i + k)) = ((List.range (j - i).toNat).map fun (k : Nat) => i + (k : Int)).map D.int := by rw [List.map_map]; rfl
  rw [e1]
  refine Reps.ints.mpr ?_
  unfold rgV
  rw [List.map_map]; rfl
theorem se_lrng {es : Es} (ih : EsAll (SE P cn cl n N) es) : SE P cn cl n N (.lrng es) := by
  intro bw sc a h fb W X g
  simp only [chkE] at h
  split at h
  · rename_i y _ u _ l _ _
    simp only [Bool.and_eq_true, decide_eq_true_eq] at h
    obtain ⟨⟨⟨⟨⟨⟨rfl, h2⟩, rfl⟩, h4⟩, h5⟩, h6⟩, h7⟩ := h
    have b1 : X.mg "list" = none := g.bt (by decide +kernel)
    have b2 : X.mg "range" = none := g.bt (by decide +kernel)
    have hlen : l.length = 1 ∨ l.length = 2 := by omega
    rcases hlen with hl | hl
    · obtain ⟨e, x, rfl, rfl, c1, c2⟩ := es_one h5 hl
      refine PE.weak (pe_listRg g.calm (g.gl h2) b1 (prg_1 (g.gl h4) b2 (ih.1.gen c1 g) (star_cons c2)) (by rfl)) fun σ H Q ⟨ms, Z, G, env, w, s, p⟩ => ?_
      simp only [ev] at p
      rw [evs1] at p
      refine tR.bind w s p (shift_m _) fun u ms1 Z1 H1 G1 d1 e1 g1 w1 s1 r1 p1 => ?_
      obtain ⟨d, e2, p2⟩ := lift_ok p1
      simp only [Option.map_eq_some_iff] at e2
      obtain ⟨items, e3, rfl⟩ := e2
      rcases rng_ints e3 with ⟨j, e4, q1, q2, rfl⟩ | ⟨i, j, e4, _⟩ | ⟨i, j, e4, _⟩ | ⟨i, j, c, e4, _⟩
      · cases e4
        refine ⟨j, rep_int (K := X.K) (ms := ms1) (Z := Z1) r1, ⟨by omega, by omega, by omega, by omega, by omega⟩, fun q nq => PostR.lst p2 w1 ?_ q nq⟩
        have : ((List.range j.toNat).map fun (k : Nat) => D.int k) = (List.range (j - 0).toNat).map fun (k : Nat) => D.int (0 + k) := by simp
        rw [this]; exact rgV_reps
      · simp at e4
      · simp at e4
      · simp at e4
    · obtain ⟨e, x, f, y, rfl, rfl, c1, c2, c3, c4⟩ := es_two h5 hl
      refine PE.weak (pe_listRg g.calm (g.gl h2) b1 (prg_2 (g.gl h4) b2 (ih.1.gen c1 g) (ih.2.1.gen c3 g) (star_cons c2) (star_cons c4) (by rw [star_cons c4]; rfl)) (by rfl)) fun σ H Q ⟨ms, Z, G, env, w, s, p⟩ => ?_
      simp only [ev] at p
      rw [evs2] at p
      refine tR.bind w s p (shift_m _) fun u ms1 Z1 H1 G1 d1 e1 g1 w1 s1 r1 p1 => ?_
      refine tR.bind w1 s1 p1 (shift_m _) fun v ms2 Z2 H2 G2 d2 e2 g2 w2 s2 r2 p2 => ?_
      obtain ⟨d, e2, p3⟩ := lift_ok p2
      simp only [Option.map_eq_some_iff] at e2
      obtain ⟨items, e3, rfl⟩ := e2
      rcases rng_ints e3 with ⟨j, e4, _⟩ | ⟨i, j, e4, q1, q2, q3, q4, rfl⟩ | ⟨i, j, e4, _⟩ | ⟨i, j, c, e4, _⟩
      · simp at e4
      · cases e4
        exact ⟨i, j, rep_int (K := X.K) (ms := ms1) (Z := Z1) r1, rep_int (K := X.K) (ms := ms2) (Z := Z2) r2, ⟨by omega, by omega, by omega, by omega, by omega⟩, fun q nq => PostR.lst p3 w2 rgV_reps q nq⟩
      · simp at e4
      · simp at e4
  · cases h

/-! ### what is walked -/
abbrev mb (bw : Bool) : Md := if bw then .bor else .gen
theorem SE.mode {e : E} (h : SE P cn cl n N e) {bw : Bool} {sc : Scope} {a : Expr} (c : chkE P cn N e bw sc a = true) {fb : Str → Bool} {W : WK} {X : Cx} (g : GX P cn cl n N sc fb W X) : PE X a (tE X.K cl W (mb bw) (ev (callN P n) e)) := by
  cases bw with
  | true => exact h.bor c g
  | false => exact h.gen c g
theorem shift_b (K : Fg) (bw : Bool) : Shift (MRep K (mb bw)) := shift_m _
section
variable {K : Fg} {ms : List Addr} {Z H H0 : Hp} {G : Gs} {ds items : List D} {v : V} {bw : Bool}
theorem src_lst (w : WOk K cl ms Z H G) (r : MRep K (mb bw) ms Z H H0 (.lst ds) v) : ∃ a xs, v = .ref a ∧ Reps K ms Z ds xs ∧ (Z a = some (.lst xs) ∨ (bw = true ∧ H a = some (.lst xs) ∧ a ∉ ms)) ∧ H a = some (.lst xs) := by
  cases bw with
  | false =>
    have r : Rep K ms Z (.lst ds) v := r
    simp only [Rep] at r
    obtain ⟨a, xs, rfl, z, r⟩ := r
    exact ⟨a, xs, rfl, r, .inl z, (w.zs _ _ z).lst⟩
  | true =>
    rcases (show BRep K ms Z H (.lst ds) v from r) with r | ⟨a, rfl, z, m, o⟩
    · simp only [Rep] at r
      obtain ⟨a, xs, rfl, z, r⟩ := r
      exact ⟨a, xs, rfl, r, .inl z, (w.zs _ _ z).lst⟩
    · simp only [OwnAt] at o
      obtain ⟨xs, e, r⟩ := o
      exact ⟨a, xs, rfl, r, .inr ⟨rfl, e, m⟩, e⟩
theorem src_tup {k : Bool} (w : WOk K cl ms Z H G) (r : MRep K (mb bw) ms Z H H0 (.tup k ds) v) : ∃ a xs, v = .ref a ∧ SqT K H a xs ∧ Reps K ms Z ds xs ∧ TupZ Z a k xs := by
  cases bw with
  | false => exact BRep.tup w (.inl r)
  | true => exact BRep.tup w r
theorem keep_lst {a : Addr} {xs : List V} (h : Z a = some (.lst xs) ∨ (bw = true ∧ H a = some (.lst xs) ∧ a ∉ ms)) : ∀ H', (∀ a o, Z a = some o → Zin H' a o) → (bw = true → ∀ a o, H a = some o → a ∉ ms → H' a = some o) → SqL K H' a xs := fun H' h1 h2 => by
  rcases h with h | ⟨hb, h, hm⟩
  · exact .of (h1 a _ h).lst
  · exact .of (h2 hb a _ h hm)
theorem walkD_pair {J : L2.It} {Gd : Hp → Prop} {xs ys : Nat → Option V} (wk : Walk J items.length Gd (YPair xs ys)) (hl : items.length ≤ sizeLine)
    (kp : ∀ H', (∀ a o, Z a = some o → Zin H' a o) → (bw = true → ∀ a o, H a = some o → a ∉ ms → H' a = some o) → Gd H')
    (hr : ∀ (i : Nat) d, items[i]? = some d → ∃ d1 d2, d = .tup false [d1, d2] ∧ ∀ x y, xs i = some x → ys i = some y → Rep K ms Z d1 x ∧ Rep K ms Z d2 y) : WalkD K cl bw J items ms Z H := by
  refine ⟨hl, Gd, _, wk, kp, fun i d e ms1 Z1 H1 G1 hz hm w1 v H2 y => ?_⟩
  obtain ⟨T, x, z, rfl, nT, rfl, e1, e2⟩ := y
  obtain ⟨d1, d2, rfl, q⟩ := hr i d e
  obtain ⟨q1, q2⟩ := q x z e1 e2
  exact ⟨_, Grow.tup w1 nT _, w1.tup nT _, Rep.tupNew (.cons (q1.mono hz hm) (.cons (q2.mono hz hm) .nil)) (w1.zfresh nT)⟩
end
def SI (P : Prog) (cn : Str → Option D) (cl : ClsOf) (n : Nat) (N : List Str) (it : Src) : Prop :=
  ∀ (bw : Bool) (sc : Scope) (a tg : Expr), chkI P cn N it bw sc a tg = true → ∀ (fb : Str → Bool) (W : WK) (X : Cx), GX P cn cl n N sc fb W X → PI X tg a (tI X.K cl W bw (evI (callN P n) it))
theorem seqItems_inv {d : D} {items : List D} (h : seqItems d = some items) : d = .lst items ∨ ∃ k, d = .tup k items := by
  cases d <;> simp only [seqItems] at h <;> first
    | (cases h; done)
    | skip
  · cases h; exact .inr ⟨_, rfl⟩
  · cases h; exact .inl rfl
theorem si_seq {e : E} (ih : SE P cn cl n N e) : SI P cn cl n N (.seq e) := by
  intro bw sc a tg h fb W X g
  simp only [chkI] at h
  have pe := ih.mode h g
  refine PI.weak (PI.len (PI.or (pi_list pe) (pi_tup pe))) fun σ H R ⟨ms, Z, G, env, w, s, p⟩ => ?_
  simp only [evI] at p
  cases e1 : ev (callN P n) e env G with
  | no => rw [e1] at p; exact p.elim
  | ex c G1 =>
    rw [e1] at p
    refine .inl ⟨ms, Z, G, env, w, s, ?_⟩
    rw [e1]; exact p
  | ok d G1 =>
    rw [e1] at p
    simp only [Res.bind] at p
    cases e2 : seqItems d with
    | none => rw [e2] at p; exact p.elim
    | some items =>
      rw [e2] at p
      rcases seqItems_inv e2 with rfl | ⟨k, rfl⟩
      · refine .inl ⟨ms, Z, G, env, w, s, ?_⟩
        rw [e1]
        intro v ms1 Z1 H1 g1 w1 r1
        obtain ⟨q, xs, rfl, r, z, hq⟩ := src_lst w1 r1
        exact ⟨q, rfl, ⟨xs, .of hq⟩, fun lk => p _ ms1 Z1 H1 g1 w1 (walkD_list w1 r z (by rw [r.len]; exact lk q xs (.inl hq)))⟩
      · refine .inr ⟨ms, Z, G, env, w, s, ?_⟩
        rw [e1]
        intro v ms1 Z1 H1 g1 w1 r1
        obtain ⟨q, xs, rfl, sq, r, z⟩ := src_tup w1 r1
        refine ⟨q, rfl, ⟨xs, sq⟩, fun lk => p _ ms1 Z1 H1 g1 w1 (walkD_tup w1 r z (by
          rw [r.len]
          cases k with
          | false => exact lk q xs (.inr (.inl (w1.zs _ _ z).tup))
          | true => obtain ⟨its, m, zz⟩ := z; exact lk q xs (.inr (.inr ⟨_, (w1.zs _ _ zz).frz⟩))))⟩
theorem es_three {es : Es} {bw : Bool} {sc : Scope} {l : List Expr} (h : chkEs P cn N es bw sc l = true) (hl : l.length = 3) : ∃ x y z, l = [x, y, z] ∧ noStar x = true ∧ noStar y = true ∧ noStar z = true := by
  have hs := (chkEs_star h).1
  rcases l with _ | ⟨x, _ | ⟨y, _ | ⟨z, _ | ⟨_, _⟩⟩⟩⟩ <;> first
    | (simp at hl; done)
    | skip
  simp only [List.all_cons, List.all_nil, Bool.and_true, Bool.and_eq_true] at hs
  exact ⟨x, y, z, rfl, hs.1, hs.2.1, hs.2.2⟩
theorem reps_one {K : Fg} {ms : List Addr} {Z : Hp} {i : Int} {vs : List V} (r : Reps K ms Z [.int i] vs) : vs = [.int i] := by
  obtain ⟨x, t, rfl, a, b⟩ := r.cons_inv
  simp only [Reps] at b
  simp only [Rep] at a
  subst a b; rfl
theorem reps_two {K : Fg} {ms : List Addr} {Z : Hp} {i j : Int} {vs : List V} (r : Reps K ms Z [.int i, .int j] vs) : vs = [.int i, .int j] := by
  obtain ⟨x, t, rfl, a, b⟩ := r.cons_inv
  simp only [Rep] at a
  subst a
  rw [reps_one b]
theorem si_rng {es : Es} (ih : EsAll (SE P cn cl n N) es) : SI P cn cl n N (.rng es) := by
  intro bw sc a tg h fb W X g
  simp only [chkI] at h
  split at h
  · rename_i y _ l _
    simp only [Bool.and_eq_true, decide_eq_true_eq] at h
    obtain ⟨⟨⟨⟨rfl, h2⟩, h3⟩, h4⟩, h5⟩ := h
    have b2 : X.mg "range" = none := g.bt (by decide +kernel)
    have ha := sa_of ih false sc l h3 fb W X g
    have hs := (chkEs_star h3).1
    have hlen := (chkEs_star h3).2
    have hev := fun (env : Ev) (G : Gs) => @evs_len (callN P n) es env G
    -- the items by the number of arguments
    have main : ∀ (σ : Sg) (H : Hp) (R : L2.It → Hp → Prop), tI X.K cl W bw (evI (callN P n) (.rng es)) σ H R → tR X.K cl W (LRep X.K false) (evs (callN P n) es) σ H fun vs H1 =>
        (∃ j : Int, vs = [.int j] ∧ l.length = 1 ∧ -(2 ^ 62) ≤ j ∧ j < 2 ^ 62 ∧ R (Itr 0 j.toNat) H1) ∨
        (∃ i j : Int, vs = [.int i, .int j] ∧ l.length = 2 ∧ (-(2 ^ 62) ≤ i ∧ i < 2 ^ 62 ∧ -(2 ^ 62) ≤ j ∧ j < 2 ^ 62) ∧ R (Itr i (j - i).toNat) H1) ∨
        ∃ (i j c : Int) (m : Nat), vs = [.int i, .int j, .int c] ∧ l.length = 3 ∧ RgC i j c m ∧ R (Itc i c m) H1 := by
      rintro σ H R ⟨ms, Z, G, env, w, s, p⟩
      refine ⟨ms, Z, G, env, w, s, ?_⟩
      simp only [evI] at p
      cases e1 : evs (callN P n) es env G with
      | no => rw [e1] at p; exact p.elim
      | ex c G1 => rw [e1] at p; exact p
      | ok ds G1 =>
        rw [e1] at p
        simp only [Res.bind] at p
        have hds := hev env G e1
        cases e2 : rngItems ds with
        | none => rw [e2] at p; exact p.elim
        | some items =>
          rw [e2] at p
          intro vs ms1 Z1 H1 g1 w1 r1
          have r1 : Reps X.K ms1 Z1 ds vs := r1
          have hsz := sizeLine_eq
          rcases rng_ints e2 with ⟨j, rfl, q1, q2, rfl⟩ | ⟨i, j, rfl, q1, q2, q3, q4, rfl⟩ | ⟨i, j, rfl, q1, q2, q3, q4, rfl⟩ | ⟨i, j, c, rfl, q0, q1, q2, q3, q4, rfl⟩
          · refine .inl ⟨j, reps_one r1, by simp at hds; omega, by omega, by omega, p _ ms1 Z1 H1 g1 w1 (walkD_fn (fun k => (k : Int)) _ ?_ (by omega))⟩
            have := walk_range (lo := 0) (n := j.toNat)
            simpa using this
          · exact .inr (.inl ⟨i, j, reps_two r1, by simp at hds; omega, ⟨by omega, by omega, by omega, by omega⟩, p _ ms1 Z1 H1 g1 w1 (walkD_fn (fun k => i + (k : Int)) _ walk_range (by omega))⟩)
          · refine .inr (.inr ⟨i, j, -1, (i - j).toNat, ?_, by simp at hds; omega, RgC.neg (by omega) (by omega) (by omega) (by omega), p _ ms1 Z1 H1 g1 w1 (walkD_fn (fun k => i - (k : Int)) _ ?_ (by omega))⟩)
            · obtain ⟨x, t, rfl, a, b⟩ := r1.cons_inv
              simp only [Rep] at a
              subst a
              rw [reps_two b]
            · have := walk_rangeC (lo := i) (c := -1) (n := (i - j).toNat)
              have e3 : (fun k : Nat => V.int (i + (k : Int) * -1)) = fun k : Nat => V.int (i - (k : Int)) := by funext k; congr 1; omega
              rw [e3] at this
              exact this
          · have hm : (if i < j then ((j - i - 1) / c + 1).toNat else 0) ≤ 2000001 := by
              split
              · have : (j - i - 1) / c ≤ j - i - 1 := Int.ediv_le_self _ (by omega)
                omega
              · omega
            refine .inr (.inr ⟨i, j, c, _, ?_, by simp at hds; omega, rgc_pos q0.1 q0.2 q1 q2 q3 q4, p _ ms1 Z1 H1 g1 w1 (walkD_fn (fun k => i + (k : Int) * c) _ (walk_rangeC (lo := i) (c := c)) (by omega))⟩)
            obtain ⟨x, t, rfl, a, b⟩ := r1.cons_inv
            simp only [Rep] at a
            subst a
            rw [reps_two b]
    have hl3 : l.length = 1 ∨ l.length = 2 ∨ l.length = 3 := by omega
    rcases hl3 with hl | hl | hl
    · obtain ⟨e, x, _, rfl, c1, c2⟩ := es_one h3 hl
      refine PI.weak (pi_range1 (g.gl h2) b2 ha (by rw [star_cons c2]; rfl)) fun σ H R q => ?_
      refine tR.imp (main σ H R q) fun vs H1 q => ?_
      rcases q with ⟨j, q1, q2, q3, q4, q5⟩ | ⟨i, j, q1, q2, _⟩ | ⟨i, j, c, m, q1, q2, _⟩
      · exact ⟨j, q1, q3, q4, q5⟩
      · rw [hl] at q2; omega
      · rw [hl] at q2; omega
    · obtain ⟨e, x, f, y, _, rfl, c1, c2, c3, c4⟩ := es_two h3 hl
      refine PI.weak (pi_range2 (g.gl h2) b2 ha (by rw [star_cons c2, star_cons c4]; rfl) (by rw [star_cons c4]; rfl)) fun σ H R q => ?_
      refine tR.imp (main σ H R q) fun vs H1 q => ?_
      rcases q with ⟨j, q1, q2, _⟩ | ⟨i, j, q1, q2, q3, q4⟩ | ⟨i, j, c, m, q1, q2, _⟩
      · rw [hl] at q2; omega
      · exact ⟨i, j, q1, q3, q4⟩
      · rw [hl] at q2; omega
    · obtain ⟨x, y, z, rfl, c1, c2, c3⟩ := es_three h3 hl
      refine PI.weak (pi_range3 (g.gl h2) b2 ha (star_cons c1) (by rw [star_cons c2, star_cons c3]; rfl)) fun σ H R q => ?_
      refine tR.imp (main σ H R q) fun vs H1 q => ?_
      rcases q with ⟨j, q1, q2, _⟩ | ⟨i, j, q1, q2, _⟩ | ⟨i, j, c, m, q1, q2, q3, q7⟩
      · rw [hl] at q2; omega
      · rw [hl] at q2; omega
      · exact ⟨i, j, c, m, q1, q3, q7⟩
  · cases h
end
end MP

namespace MP
open PySem PySem.Spec PyProof.Rows L2

/-! ### enumerate of a tuple -/
section
set_option maxHeartbeats 1000000
theorem enum_new1 {v : Value} {ob : Obj} {Hs : Heap → Prop} (bg : Begins v ob Hs) :
    Meets (Builtin.«enumerate.__new__» ⟨[.type "enumerate", v], []⟩) (fun _ R s => Hs s.heap ∧ R (.ok (.ret (.ref (s.heap.push ob).objs.size)))
      { s with heap := (s.heap.push ob).push { cls := .type "enumerate", data := .fields #[.none, .bool false, .ref s.heap.objs.size, rawInt 0, .none, .none] } }) :=
  .of_wp fun pr wo A R sh hh => by
    obtain ⟨hp, gs, dr, tk, os⟩ := sh
    obtain ⟨hs, hr⟩ := hh
    have hsub := sub_enumerate
    have it1 : ∀ {A' : Around} {E' : Value → Shared → Prop} {Q' : Value → Shared → Prop}, Q' (.ref hp.objs.size) ⟨hp.push ob, gs, dr, tk, os⟩ → wpAny (model pr wo) A' (pyIter v) Q' E' ⟨hp, gs, dr, tk, os⟩ :=
      fun q => bg.iter pr wo _ _ ⟨hp, gs, dr, tk, os⟩ _ hs q
    wp_walk using it1
    refine wpAny_stack_any fun st => wpAny_pure ?_
    split
    · rename_i c _ _ _ _ _
      by_cases hc : (c == Value.type "enumerate") = true
      · rw [hc]; wp_walk using it1; exact ⟨_, rfl, hr⟩
      · rw [Bool.eq_false_iff.mpr hc]; wp_walk using it1; exact ⟨_, rfl, hr⟩
    · wp_walk using it1; exact ⟨_, rfl, hr⟩
end
section
variable {prog : Program} {w : World} {A : Around} {E : Value → Shared → Prop} {s : Shared}
theorem enum_call1 {v : Value} {ob : Obj} {Hs : Heap → Prop} {Q : Value → Shared → Prop} (bg : Begins v ob Hs) (hs : Hs s.heap)
    (hq : ∀ h', IsEnum h' (s.heap.objs.size + 1) s.heap.objs.size 0 .none → h'.get? s.heap.objs.size = some ob → (∀ b o, s.heap.get? b = some o → h'.get? b = some o) → Q (.ref (s.heap.objs.size + 1)) { s with heap := h' }) :
    wpAny (model prog w) A (call (.type "enumerate") [v]) Q E s := by
  refine callType_new PySem.F.called_enumerate (by decide) (PySem.F.typeCall_enumerate_1 _) (PySem.F.newCall_enumerate_1 _) (fun obj => PySem.F.args_object_init_2 obj _) PySem.F.entry_enumerate_new (enum_new1 bg) ⟨hs, ?_⟩
  have sz : (s.heap.push ob).objs.size = s.heap.objs.size + 1 := Heap.size_push ..
  have en : IsEnum ((s.heap.push ob).push { cls := .type "enumerate", data := .fields #[.none, .bool false, .ref s.heap.objs.size, rawInt 0, .none, .none] }) (s.heap.objs.size + 1) s.heap.objs.size 0 .none := by
    have g := Heap.get?_push_size (s.heap.push ob) (o := { cls := .type "enumerate", data := .fields #[.none, .bool false, .ref s.heap.objs.size, rawInt 0, .none, .none] }) rfl
    rw [sz] at g
    exact g
  show _ ∧ _
  rw [sz]
  exact ⟨⟨_, en, rfl⟩, hq _ en (Heap.get?_push_of_some _ (Heap.get?_push_size _ bg.free)) fun b o x => Heap.get?_push_of_some _ (Heap.get?_push_of_some _ x)⟩
end
/-- the tuple at a, the items in new pairs with their numbers -/
def IteT (K : Fg) (a : Addr) : L2.It where
  go := fun i H => ∃ (xs : List V) (x : V), SqT K H a xs ∧ xs[i]? = some x
  yld := fun i H v H' => ∃ T x, v = .ref T ∧ H T = none ∧ H' = upd H T (.tup [.int (i : Nat), x]) ∧ ∀ xs, SqT K H a xs → xs[i]? = some x
  stop := fun i H => ∃ xs : List V, SqT K H a xs ∧ xs.length = i
theorem tup_unique {X : Cx} {pins : List (Addr × Obj)} {σ : Sg} {H : Hp} {s : Shared} (I : Inv X pins σ H s) {a : Addr} {xs ys : List V} (h1 : SqT X.K H a xs) (h2 : SqT X.K H a ys) : xs = ys := by
  obtain ⟨us, r1, ⟨o1, g1, _, n1, d1⟩, _⟩ := I.tuple h1
  obtain ⟨vs, r2, ⟨o2, g2, _, n2, d2⟩, _⟩ := I.tuple h2
  rw [g1] at g2
  cases g2
  rw [d1] at d2
  have e : us.toArray = vs.toArray := by injection d2
  have e' : us = vs := by simpa using congrArg Array.toList e
  subst e'
  exact r1.inj r2
theorem turn_enumT {P : Program} {w : World} {K : Fg} {elts : List Expr} {kk : Nat} {tp : Pos} (a e it : Addr) (hat : a ≠ it) (hei : e ≠ it) (hea : e ≠ a) :
    Turn P w K (.Tuple elts kk tp) (IteT K a) [e, it] e (fun i h => (∃ old, IsEnum h e it ((i : Nat) : Int) old) ∧ h.IsTupleIter it a i) where
  mem := by simp
  obj := fun i h st b hb => by
    obtain ⟨⟨old, he⟩, o, ho, hc, hd⟩ := st
    simp only [List.mem_cons, List.not_mem_nil, or_false] at hb
    rcases hb with rfl | rfl
    · exact ⟨_, he, fun v q => nomatch q⟩
    · exact ⟨o, ho, fun v q => by rw [hd] at q; cases q⟩
  keep := fun i h h' st k => by
    obtain ⟨⟨old, he⟩, hi⟩ := st
    exact ⟨⟨old, k e (by simp) _ he⟩, hi.at fun o q => k it (by simp) o q⟩
  item := by
    intro X hP hw hK hc i pins s σ H E I hf st hg
    subst hP hw hK
    obtain ⟨⟨old, he⟩, hit⟩ := st
    obtain ⟨xs, x, hq, hx⟩ := hg
    obtain ⟨its, rv, pt, hz⟩ := I.tuple hq
    obtain ⟨u, hu, ru⟩ := rv.get hx
    have lt1 : e < s.heap.objs.size := Heap.lt_size he
    have lt2 : it < s.heap.objs.size := by obtain ⟨_, q, _⟩ := hit; exact Heap.lt_size q
    have hl : i < its.toArray.size := by
      have := (List.getElem?_eq_some_iff.mp hu).1
      simpa using this
    have dr := Draws.tuple (prog := X.prog) (w := X.w) (A := X.A.in1) (by simpa using I.ok.hd hc) it a hat its.toArray
    refine wpAny_pyNext_enum_itemD dr he ⟨hit, (show s.heap.IsTuple a its.toArray from pt)⟩ hl hei (by simp [hei, hea]) fun y h' tk py eo hs' hT hsz hk => ?_
    have ey : y = u := by
      have e1 : its.toArray[i]? = some y := py
      have e2 : its.toArray[i]? = some u := by simpa using hu
      rw [e2] at e1; cases e1; rfl
    subst ey
    refine ⟨_, rfl, wpAny_letOwnedTupleGo_enum (s := { s with heap := h', toks := tk + 1 }) eo fun h2 he2 sb => ?_⟩
    have hT2 : h2.get? s.heap.objs.size = some { cls := .type "tuple", data := .seq #[.int i tk, y] } := (sb.2 _ (Nat.ne_of_gt lt1)).trans hT
    have new : ObjOk X.prog X.w (upd H s.heap.objs.size (.tup [.int (i : Nat), x])) h2 s.heap.objs.size (.tup [.int (i : Nat), x]) :=
      ⟨by show 2 ≤ sizeLine; decide, [.int i tk, y], .cons ⟨_, rfl⟩ (.cons ru .nil), ⟨_, hT2, rfl, _, rfl⟩⟩
    have J : Inv X pins σ (upd H s.heap.objs.size (.tup [.int (i : Nat), x])) { s with heap := h2, toks := tk + 1 } :=
      I.turnedNew (ch := [e, it]) (fun b ob hb q => (sb.2 b (fun z => hb (by simp [z]))).trans (hk b ob (fun z => hb (by simp [z])) (fun z => hb (by simp [z])) q)) hf (Nat.le_refl _) new
    refine ⟨.ref s.heap.objs.size, _, J, rfl, ⟨_, x, rfl, I.hok.fresh (Nat.le_refl _), rfl, fun ys hy => by rw [tup_unique I hy hq]; exact hx⟩, ⟨⟨y, ?_⟩, hs'.1.at fun o q => (sb.2 it (Ne.symm hei)).trans q⟩, fun b hb => ?_⟩
    · have e1 : ((i + 1 : Nat) : Int) = (i : Int) + 1 := by omega
      rw [e1]; exact he2
    · have hb' : b < s.heap.objs.size := by
        simp only [List.mem_cons, List.not_mem_nil, or_false] at hb
        rcases hb with rfl | rfl
        · exact lt1
        · exact lt2
      rw [upd_ne (Nat.ne_of_lt hb')]
      exact (hf b hb).1
  done := by
    intro X hP hw hK hc i pins s σ H E I hf st hg
    subst hP hw hK
    obtain ⟨⟨old, he⟩, hit⟩ := st
    obtain ⟨xs, hq, hx⟩ := hg
    obtain ⟨its, rv, pt, hz⟩ := I.tuple hq
    have ll := rv.length
    have dr := Draws.tuple (prog := X.prog) (w := X.w) (A := X.A.in1) (by simpa using I.ok.hd hc) it a hat its.toArray
    have ei : i = its.toArray.size := by rw [List.size_toArray]; omega
    obtain ⟨f0, f1, f2, f3, f4, f5⟩ := hf it (by simp)
    have hit' : s.heap.IsTupleIter it a its.toArray.size := by rw [← ei]; exact hit
    exact wpAny_pyNext_enum_endD dr he ⟨hit', (show s.heap.IsTuple a its.toArray from pt)⟩ fun h' eb => ⟨rfl, I.turned (t' := s.toks) (fun b o hb q => eb b o hb q) f0 f1 f3 f4 f5⟩
  self := fun A i s Q E st h => by
    obtain ⟨⟨_, he⟩, _⟩ := st
    exact wpAny_pyIter_enum he h
theorem walk_enumT {K : Fg} {a : Addr} {xs : List V} : Walk (IteT K a) xs.length (fun H => SqT K H a xs) (YPair (fun i => some (.int (i : Nat))) (fun i => xs[i]?)) where
  goes := fun i H hi q => ⟨xs, xs[i], q, by simp [hi]⟩
  stops := fun H q => ⟨xs, q, rfl⟩
  yields := fun i H v H' _ q y => by
    obtain ⟨T, x, e1, e2, e3, e4⟩ := y
    exact ⟨T, .int (i : Nat), x, e1, e2, e3, rfl, e4 xs q⟩
theorem pi_enumT {X : Cx} {e : Expr} {ta : TA} {p pos tp : Pos} {elts : List Expr} {kk : Nat} (hg : Gl X "enumerate") (hm : X.mg "enumerate" = none) (ha : PA X [e] ta) (hs : starEach [e] X.env = [(false, eval e X.env)]) :
    PI X (.Tuple elts kk tp) (.Call (.Name "enumerate" p) [e] [] pos) (fun σ H R => ta σ H fun vs H1 => ∃ a xs, vs = [.ref a] ∧ SqT X.K H1 a xs ∧ R (IteT X.K a) H1) := by
  refine ⟨fun pins s σ H R I h => ?_⟩
  have bt : bootBuiltins "enumerate" = some (.type "enumerate") := by decide +kernel
  refine Call_ (ld_blt I hg hm bt (PyProof.Rows.callWith_type1 (thn (ha.run pos pins s σ H _ I h) fun us s1 ⟨vs, H1, I1, r1, a, xs, ev, hq, q⟩ => ?_) hs rfl))
  subst ev
  obtain ⟨u, rfl, ru⟩ := r1.one
  cases ru
  obtain ⟨its, rv, pt, hz⟩ := I1.tuple hq
  have al : a < s1.heap.objs.size := by obtain ⟨o, ho, _⟩ := pt; exact Heap.lt_size ho
  refine enum_call1 (begins_tuple a its.toArray) (show s1.heap.IsTuple a its.toArray from pt) fun h' he hit hk => wpAny_pyIter_enum he ?_
  have I2 : Inv X pins σ H1 { s1 with heap := h' } := I1.kept (t' := s1.toks) hk
  have b1 : ∀ b, b ∈ [s1.heap.objs.size + 1, s1.heap.objs.size] → s1.heap.objs.size ≤ b := fun b hb => by
    simp only [List.mem_cons, List.not_mem_nil, or_false] at hb
    rcases hb with rfl | rfl
    · exact Nat.le_add_right _ _
    · exact Nat.le_refl _
  exact ⟨s1.heap.objs.size + 1, [s1.heap.objs.size + 1, s1.heap.objs.size], _, _, H1, rfl, I2, turn_enumT a (s1.heap.objs.size + 1) s1.heap.objs.size (Nat.ne_of_lt al) (Nat.succ_ne_self _) (Nat.ne_of_gt (Nat.lt_succ_of_lt al)), ⟨⟨.none, he⟩, _, hit, rfl, rfl⟩,
    fun b hb => I1.fpOk (b1 b hb) (I1.hok.fresh (b1 b hb)), q⟩
end MP

namespace MP
open PySem PySem.Spec PyProof.Rows L2

/-! ### sorted(set(l)) of a list of ints -/
abbrev noSetO (w : World) : Obj := { cls := .type "set", dict := none, data := .set #[] 0 (.fresh 0 0 (!w.params.followText "set-order")) }
section
variable {P : Program} {w : World} {A : Around} {E : Value → Shared → Prop} {s : Shared}
set_option maxHeartbeats 6400000
theorem set_lst {l : Addr} {vals : Array Value} (is : List Int) {Q : Value → Shared → Prop} (hh : A.handled = none) (hl : s.heap.IsList l vals) (hi : IntsAre vals.toList is) (room : is.length + 1 < scanBound)
    (hq : ∀ (h2 : Heap) (tk c : Nat), SetR w h2 s.heap.objs.size (fun j => decide (j ∈ is)) c → (∀ b o, s.heap.get? b = some o → h2.get? b = some o) → Q (.ref s.heap.objs.size) { s with heap := h2, toks := tk }) :
    wpAny (model P w) A (call (.type "set") [.ref l]) Q E s := by
  have vsz : vals.size = is.length := by
    have q := hi.length
    rwa [Array.length_toList] at q
  obtain ⟨c0, t0, hmro⟩ := PySem.F.called_set.mro
  have hmade := PySem.F.called_set.made
  have hsub := PySem.F.called_set.sub
  refine wpAny_call (codeAny_of_tree (show wpAny _ _ (callAny (.type "set") _) _ _ _ from wpAny_pure ⟨Code.quiet_builtin _ (by decide +kernel), codeAny_builtin PySem.F.entry_type_call ?_⟩))
  rw [Around.under_plain (weight_type_call_type "set" [.ref l] []) rfl]
  have k1 := PySem.F.called_set.notType
  have k2 := PySem.F.called_set.canCreate
  have k3 := PySem.F.typeCall_set_1 (.ref l)
  repeat (any_goals (first | assumption | wp_step))
  refine codeAny_mono (code_set_led1 (.ref l) (E := E) (Q₁ := fun ob s1 => ob = .ref s.heap.objs.size ∧ s1 = { s with heap := s.heap.push (noSetO w) }) ⟨rfl, rfl⟩) fun r s1 hr => ?_
  cases r with
  | error e => exact hr
  | ok fl =>
    cases fl with
    | next => exact hr.elim
    | brk => exact hr.elim
    | cont => exact hr.elim
    | ret ob =>
      obtain ⟨rfl, rfl⟩ := hr
      have gS : (s.heap.push (noSetO w)).get? s.heap.objs.size = some (noSetO w) := Heap.get?_push_size _ rfl
      have tS : Shared.TypeIs { s with heap := s.heap.push (noSetO w) } (.ref s.heap.objs.size) "set" := ⟨_, gS, rfl⟩
      have k4 := PySem.F.called_set.init.lookup
      have k5 := PySem.F.called_set.init.bind (.ref s.heap.objs.size)
      repeat (any_goals (first | assumption | wp_step))
      refine codeAny_mono (codeAny_call_builtin (R := wants (fun r s2 => r = .none ∧ ∃ h2 tk c, s2 = { s with heap := h2, toks := tk } ∧ SetR w h2 s.heap.objs.size (fun j => decide (j ∈ is)) c ∧ (∀ b o, s.heap.get? b = some o → h2.get? b = some o)) E)
        PySem.F.called_set.init.plain PySem.F.entry_set_init (check_set_init_1 tS ?_)) fun r2 s2 hr2 => ?_
      · obtain ⟨⟨lc, ld, lt, ls⟩, g0, e1, nn, e2⟩ := hl
        simp only at e1 e2
        subst e1 e2
        have g1 : (s.heap.push (noSetO w)).get? l = some { cls := .type "list", dict := ld, data := .seq vals nn, slots := ls } := Heap.get?_push_of_some _ g0
        have hsls := PySem.F.sub_list_set
        have hslf := PySem.F.sub_list_frozenset
        have hne : (Value.type "list" == Value.type "dict") = false := by decide
        have L1 : (s.heap.push (noSetO w)).IsList l vals := ⟨_, g1, rfl, nn, rfl⟩
        unfold Builtin.«set.__init__» noKeywords Builtin.Frozenset.updateFrom
        generalize hPI : pyIter = PI
        wp_walk
        subst hPI
        refine wpAny_pyIter_list L1 (wpAny_bind (wpAny_runValue ?_))
        have llt : l < s.heap.objs.size := Heap.lt_size g0
        have hh3 : A.in1.in1.in1.handled = none := by simp [hh]
        have psz : (s.heap.push (noSetO w)).objs.size = s.heap.objs.size + 1 := Heap.size_push ..
        have apart : l ≠ (s.heap.push (noSetO w)).objs.size := by rw [psz]; exact Nat.ne_of_lt (Nat.lt_succ_of_lt llt)
        have out1 : s.heap.objs.size ∉ [(s.heap.push (noSetO w)).objs.size, l] := by
          rw [psz]
          simp only [List.mem_cons, List.not_mem_nil, or_false, not_or]
          exact ⟨Nat.ne_of_lt (Nat.lt_succ_self _), Nat.ne_of_gt llt⟩
        have gives : ∀ (i : Nat) (v : Value), vals[i]? = some v → ∃ k t, is[i]? = some k ∧ v = .int k t := fun i v hv => by
          have il : i < is.length := by rw [← vsz]; exact (Array.getElem?_eq_some_iff.mp hv).1
          obtain ⟨t, e⟩ := PyProof.Rows.IntsAre.int_at hi i v (by rw [Array.getElem?_toList]; exact hv)
          refine ⟨is[i], t, List.getElem?_eq_getElem il, ?_⟩
          rw [e, List.getD_eq_getElem?_getD, List.getElem?_eq_getElem il] <;> rfl
        refine set_update_ints ((Walks.list hh3 _ l apart vals).toS) s.heap.objs.size out1 is vsz room gives (vals.size - 0) 0 _ (by omega) (Nat.zero_le _) ⟨⟨_, Heap.get?_push_size _ rfl, rfl, rfl⟩, L1.push _⟩ ?g0 ?g1
        case g0 => exact ⟨0, Nat.le_refl 0, setR_new_at (Heap.get?_push_of_some _ gS)⟩
        case g1 =>
          intro s3 c3 mv le3 R3
          obtain ⟨h3, g3, d3, t3, o3⟩ := s3
          have eg : g3 = s.gens := mv.gens
          have ed : d3 = s.drawn := mv.drawn
          have eo : o3 = s.os := mv.os
          subst eg ed eo
          refine wpAny_pure (show wpAny _ _ (ret Value.none) _ _ _ from wpAny_pure ⟨rfl, h3, t3, c3, rfl, R3, fun b o e => ?_⟩)
          have bl : b < s.heap.objs.size := Heap.lt_size e
          refine mv.heap b o ?_ (Heap.get?_push_of_some _ (Heap.get?_push_of_some _ e))
          simp only [List.mem_cons, List.not_mem_nil, or_false, not_or]
          exact ⟨Nat.ne_of_lt bl, by rw [psz]; exact Nat.ne_of_lt (Nat.lt_succ_of_lt bl)⟩
      · cases r2 with
        | error e => exact hr2
        | ok fl2 =>
          cases fl2 with
          | next => exact hr2.elim
          | brk => exact hr2.elim
          | cont => exact hr2.elim
          | ret r =>
            obtain ⟨rfl, h2, tk, c, rfl, R2, kk⟩ := hr2
            repeat (any_goals (first | assumption | wp_step))
            exact hq _ _ _ R2 kk
end
theorem SetR.list {w : World} {h : Heap} {a : Addr} {S : Int → Bool} {n : Nat} (R : SetR w h a S n) : ∃ l : List Int, l.Nodup ∧ l.length = n ∧ ∀ k, S k = true ↔ k ∈ l := by
  obtain ⟨o, es, ep, t, _, _, _, _, nd, hm, _, _, hn, _⟩ := R
  exact ⟨_, nd, by rw [List.length_map, Array.length_toList]; exact hn, hm⟩
def tSetL (K : Fg) (w : World) (ta : TA) : TE := fun σ H Q => ta σ H fun vs H1 => ∃ (a : Addr) (is : List Int), vs = [.ref a] ∧ SqL K H1 a (is.map V.int) ∧ is.length < 4000 ∧
  ∀ p c, H1 p = none → (∃ l : List Int, l.Nodup ∧ l.length = c ∧ ∀ k, k ∈ is ↔ k ∈ l) → Q (.ref p) (upd H1 p (SetO w p (fun j => decide (j ∈ is)) c))
theorem pe_setL {X : Cx} {e : Expr} {ta : TA} {p pos : Pos} (hc : X.calm = true) (hg : Gl X "set") (hm : X.mg "set" = none) (ha : PA X [e] ta) (hs : noStar e = true) : PE X (.Call (.Name "set" p) [e] [] pos) (tSetL X.K X.w ta) := by
  refine ⟨fun pins s σ H Q I h => ?_⟩
  have s1 : starEach [e] X.env = [(false, eval e X.env)] := by rw [star_cons hs]; rfl
  refine Call_ (ld_blt I hg hm PyProof.Rows.boot_set (PyProof.Rows.callWith_type1 (thn (ha.run pos pins s σ H _ I h) fun us s2 ⟨vs, H1, I1, r1, a, is, ev, hq, hl, q⟩ => ?_) s1 rfl))
  subst ev
  obtain ⟨u, rfl, ru⟩ := r1.one
  cases ru
  obtain ⟨its, rv, pl, hz⟩ := I1.list hq
  refine set_lst is (I1.ok.hd hc) pl.isList (ints_of_vals rv) (by unfold scanBound; omega) fun h2 tk c R kk => ?_
  have nn : H1 s2.heap.objs.size = none := I1.hok.fresh (Nat.le_refl _)
  obtain ⟨l, n1, n2, n3⟩ := SetR.list R
  refine ⟨.ref s2.heap.objs.size, _, I1.laid (t' := tk) kk (Nat.le_refl _) (setO_new R), rfl, q _ c nn ⟨l, n1, n2, fun k => by rw [← n3 k, decide_eq_true_eq]⟩⟩

/-! ### the one ascending list -/
theorem dedI_mem : ∀ {l : List Int} {k : Int}, k ∈ dedI l ↔ k ∈ l
  | [], k => by simp [dedI]
  | i :: r, k => by
    simp only [dedI, List.mem_cons, List.mem_filter, bne_iff_ne, ne_eq, dedI_mem]
    by_cases q : k = i
    · simp [q]
    · simp [q]
theorem dedI_nodup : ∀ {l : List Int}, (dedI l).Nodup
  | [] => by simp [dedI]
  | i :: r => by
    rw [dedI, List.nodup_cons]
    exact ⟨by simp, (dedI_nodup (l := r)).filter _⟩
theorem count_nodup {l : List Int} (h : l.Nodup) (k : Int) : l.count k = if k ∈ l then 1 else 0 := by
  by_cases q : k ∈ l
  · rw [if_pos q]
    have h1 := List.nodup_iff_count.mp h k
    have h2 := List.count_pos_iff.mpr q
    omega
  · rw [if_neg q]; exact List.count_eq_zero.mpr q
theorem perm_nodup {a l : List Int} (h : a.Nodup) (n : l.Nodup) (e : ∀ k, k ∈ a ↔ k ∈ l) : a.Perm l := by
  rw [List.perm_iff_count]
  intro k
  rw [count_nodup h, count_nodup n]
  simp only [e k]
theorem asc_sortI {a l : List Int} (h : a.Pairwise (· < ·)) (n : l.Nodup) (e : ∀ k, k ∈ a ↔ k ∈ l) : a = sortI l := by
  refine sortI_only (perm_nodup (h.imp fun h => by omega) n e) (h.imp fun h => by omega)
end MP

namespace MP
open PySem PySem.Spec PyProof.Rows L2
section
variable {P : Prog} {cn : Str → Option D} {cl : ClsOf} {n : Nat} {N : List Str}
theorem se_srtset {x : E} (ih : SE P cn cl n N x) : SE P cn cl n N (.srtset x) := by
  intro bw sc a h fb W X g
  simp only [chkE] at h
  split at h
  · rename_i y _ u _ l _ _
    simp only [Bool.and_eq_true, decide_eq_true_eq] at h
    obtain ⟨⟨⟨⟨⟨rfl, h2⟩, rfl⟩, h4⟩, h5⟩, h6⟩ := h
    have b1 : X.mg "sorted" = none := g.bt (by decide +kernel)
    have b2 : X.mg "set" = none := g.bt (by decide +kernel)
    have ps := fun p q => pe_setL (p := p) (pos := q) g.calm (g.gl h4) b2 (pa_cons (ih.bor h5 g) pa_nil (star_cons h6)) h6
    refine PE.weak (pe_callB (cr_sortedSet g.calm) (g.gl h2) b1 (by decide +kernel) (pa_cons (ps _ _) pa_nil (star_cons (by rfl))) (by decide +kernel) (by decide +kernel) (star_cons (by rfl)) (by rfl)) fun σ H Q ⟨ms, Z, G, env, w, s, p⟩ => ?_
    simp only [ev] at p
    refine tR.bind w s p (shift_m _) fun v ms1 Z1 H1 G1 d1 e1 g1 w1 s1 r1 p1 => ?_
    cases d1 <;> first
      | exact p1.elim
      | skip
    rename_i ds
    obtain ⟨d, e2, p2⟩ := lift_ok p1
    rw [Option.bind_eq_some_iff] at e2
    obtain ⟨is, e3, e4⟩ := e2
    split at e4
    · rename_i hl
      cases e4
      cases intsOf_eq e3
      obtain ⟨a, xs, rfl, hx, rx⟩ := BRep.lst w1 r1
      cases Reps.ints.mp rx
      refine ⟨a, is, rfl, .of hx, hl.2, fun q c nq hc => ?_⟩
      obtain ⟨l, n1, n2, n3⟩ := hc
      have pl : l.Perm (dedI is) := perm_nodup n1 dedI_nodup fun k => by rw [← n3 k, dedI_mem]
      refine ⟨q, _, c, rfl, upd_same, by rw [← n2, pl.length_eq]; exact hl.1, fun ns r hs hm hn nr => ?_⟩
      have en : ns = sortI (dedI is) := asc_sortI hs dedI_nodup fun k => by rw [hm k, decide_eq_true_eq, dedI_mem]
      subst en
      have p3 := PostR.shift p2 (shift_m _) (Grow.alloc w1 nq (SetO X.w q (fun j => decide (j ∈ is)) c)) (w1.alloc nq _)
      exact PostR.lst p3 (w1.alloc nq _) (Reps.ints.mpr rfl) r nr
    · cases e4
  · cases h
end
end MP

namespace MP
open PySem PySem.Spec PyProof.Rows L2

section
variable {P : Prog} {cn : Str → Option D} {cl : ClsOf} {n : Nat} {N : List Str}
theorem isTup_inv {tg : Expr} (h : isTup tg = true) : ∃ es k p, tg = .Tuple es k p := by
  cases tg <;> first
    | exact ⟨_, _, _, rfl⟩
    | cases h
theorem enumItems_len (ds : List D) : (enumItems ds).length = ds.length := by unfold enumItems; rw [List.length_map, List.length_zipIdx]
theorem enumItems_rep {K : Fg} {ms : List Addr} {Z : Hp} {ds : List D} {xs : List V} (r : Reps K ms Z ds xs) : ∀ (i : Nat) d, (enumItems ds)[i]? = some d → ∃ d1 d2, d = .tup false [d1, d2] ∧ ∀ x y, some (V.int (i : Nat)) = some x → xs[i]? = some y → Rep K ms Z d1 x ∧ Rep K ms Z d2 y := fun i d ed => by
  unfold enumItems at ed
  rw [List.getElem?_map, List.getElem?_zipIdx] at ed
  cases ei : ds[i]? with
  | none => rw [ei] at ed; cases ed
  | some d0 =>
    rw [ei] at ed
    cases ed
    refine ⟨.int (i : Nat), d0, by simp, fun x y ex ey => ?_⟩
    cases ex
    obtain ⟨d', e', r'⟩ := r.get ey
    rw [ei] at e'; cases e'
    exact ⟨by simp only [Rep], r'⟩
theorem tup_len {K : Fg} {ms : List Addr} {Z H : Hp} {G : Gs} {a : Addr} {k : Bool} {xs : List V} (w : WOk K cl ms Z H G) (z : TupZ Z a k xs) (lk : LenOk H) : xs.length ≤ sizeLine := by
  cases k with
  | false => exact lk a xs (.inr (.inl (w.zs _ _ z).tup))
  | true => obtain ⟨its, m, zz⟩ := z; exact lk a xs (.inr (.inr ⟨_, (w.zs _ _ zz).frz⟩))
theorem keep_tup {K : Fg} {ms : List Addr} {Z H : Hp} {a : Addr} {k : Bool} {xs : List V} {bw : Bool} (z : TupZ Z a k xs) : ∀ H', (∀ a o, Z a = some o → Zin H' a o) → (bw = true → ∀ a o, H a = some o → a ∉ ms → H' a = some o) → SqT K H' a xs := fun H' h1 _ => by
  cases k with
  | false => exact .of (h1 a _ z).tup
  | true => obtain ⟨its, m, zz⟩ := z; exact .inl (.inr ⟨_, (h1 a _ zz).frz⟩)
theorem si_enum {e : E} (ih : SE P cn cl n N e) : SI P cn cl n N (.enum e) := by
  intro bw sc a tg h fb W X g
  simp only [chkI] at h
  split at h
  · rename_i y _ x _
    simp only [Bool.and_eq_true, decide_eq_true_eq] at h
    obtain ⟨⟨⟨⟨rfl, h2⟩, h3⟩, h4⟩, h5⟩ := h
    obtain ⟨es, k, tp, rfl⟩ := isTup_inv h5
    have b2 : X.mg "enumerate" = none := g.bt (by decide +kernel)
    have pe := ih.mode h3 g
    have s1 : starEach [x] X.env = [(false, eval x X.env)] := by rw [star_cons h4]; rfl
    have pa := pa_cons pe pa_nil (star_cons h4)
    refine PI.weak (PI.len (PI.or (pi_enum (g.gl h2) b2 pa s1) (pi_enumT (g.gl h2) b2 pa s1))) fun σ H R ⟨ms, Z, G, env, w, s, p⟩ => ?_
    simp only [evI] at p
    cases e1 : ev (callN P n) e env G with
    | no => rw [e1] at p; exact p.elim
    | ex c G1 =>
      rw [e1] at p
      refine .inl ⟨ms, Z, G, env, w, s, ?_⟩
      rw [e1]; exact p
    | ok d G1 =>
      rw [e1] at p
      simp only [Res.bind] at p
      cases d with
      | lst ds =>
        refine .inl ⟨ms, Z, G, env, w, s, ?_⟩
        rw [e1]
        intro v ms1 Z1 H1 g1 w1 r1
        obtain ⟨q, xs, rfl, r, z, hq⟩ := src_lst w1 r1
        refine ⟨q, xs, rfl, .of hq, fun lk => p _ ms1 Z1 H1 g1 w1 ?_⟩
        have hl : (enumItems ds).length = xs.length := by rw [enumItems_len, r.len]
        exact walkD_pair (Gd := fun H => SqL X.K H q xs) (xs := fun i => some (.int (i : Nat))) (ys := fun i => xs[i]?) (by rw [hl]; exact walk_enum) (by rw [hl]; exact lk q xs (.inl hq)) (keep_lst z) (enumItems_rep r)
      | tup k ds =>
        refine .inr ⟨ms, Z, G, env, w, s, ?_⟩
        rw [e1]
        intro v ms1 Z1 H1 g1 w1 r1
        obtain ⟨q, xs, rfl, sq, r, z⟩ := src_tup w1 r1
        refine ⟨q, xs, rfl, sq, fun lk => p _ ms1 Z1 H1 g1 w1 ?_⟩
        have hl : (enumItems ds).length = xs.length := by rw [enumItems_len, r.len]
        exact walkD_pair (Gd := fun H => SqT X.K H q xs) (xs := fun i => some (.int (i : Nat))) (ys := fun i => xs[i]?) (by rw [hl]; exact walk_enumT) (by rw [hl]; exact tup_len w1 z lk) (keep_tup z) (enumItems_rep r)
      | _ => exact p.elim
  · cases h
/-- what is new and of one's own is put in another state, and frozen -/
theorem WOk.lock {K : Fg} {ms : List Addr} {Z H : Hp} {G : Gs} (w : WOk K cl ms Z H G) {q : Addr} {o2 : HO} (z : Z q = none) (m : q ∉ ms) : WOk K cl ms (upd Z q o2) (upd H q o2) G where
  zs := fun a o e => by
    by_cases e0 : a = q
    · subst e0
      rw [upd_same] at e
      cases e
      exact .inl upd_same
    · rw [upd_ne e0] at e
      rcases w.zs a o e with h | ⟨d, ob, h⟩
      · exact .inl (by rw [upd_ne e0]; exact h)
      · exact .inr ⟨d, ob, by rw [upd_ne e0]; exact h⟩
  mz := fun a ha => by
    have ne : a ≠ q := fun e => m (by rw [← e]; exact ha)
    rw [upd_ne ne]; exact w.mz a ha
  nd := w.nd
  ln := w.ln
  gl := fun i a c e1 e2 => by
    have ne : a ≠ q := fun e => m (by rw [← e]; exact List.mem_of_getElem? e1)
    exact (w.gl i a c e1 e2).mono (upd_get z) (fun o h => by rw [upd_ne ne]; exact h) (List.prefix_refl _)
  fl := w.fl
theorem Grow.lock {ms ms' : List Addr} {Z H0 Z' H' : Hp} (g : Grow ms Z H0 ms' Z' H') {q : Addr} {o2 : HO} (n : H0 q = none) (z : Z' q = none) : Grow ms Z H0 ms' (upd Z' q o2) (upd H' q o2) where
  zz := fun a x h => upd_get z a x (g.zz a x h)
  zn := fun a x h e => by
    by_cases e0 : a = q
    · subst e0; exact .inl n
    · rw [upd_ne e0] at e; exact g.zn a x h e
  hh := fun a x h hm => by rw [upd_ne (ne_of_none h n)]; exact g.hh a x h hm
  hk := fun a x h => by rw [upd_ne (ne_of_none h n)]; exact g.hk a x h
  mm := g.mm
  mn := g.mn
theorem dicItems_rep {K : Fg} {ms : List Addr} {Z : Hp} {ks : List Key} {vs : List D} {xs : List V} (l : ks.length = xs.length) (r : Reps K ms Z vs xs) : ∀ (i : Nat) d, ((ks.zip vs).map fun p => D.tup false [kD p.1, p.2])[i]? = some d → ∃ d1 d2, d = .tup false [d1, d2] ∧
    ∀ x y, ((ks.zip xs)[i]?.map fun kv => kV kv.1) = some x → (ks.zip xs)[i]?.map Prod.snd = some y → Rep K ms Z d1 x ∧ Rep K ms Z d2 y := fun i d ed => by
  rw [List.getElem?_map] at ed
  cases e1 : (ks.zip vs)[i]? with
  | none => rw [e1] at ed; cases ed
  | some p =>
    rw [e1] at ed
    cases ed
    rw [List.getElem?_zip_eq_some] at e1
    refine ⟨_, _, rfl, fun x y ex ey => ?_⟩
    obtain ⟨v, e2, r2⟩ := r.getD e1.2
    have e3 : (ks.zip xs)[i]? = some (p.1, v) := List.getElem?_zip_eq_some.mpr ⟨e1.1, e2⟩
    rw [e3] at ex ey
    cases ex
    cases ey
    refine ⟨?_, r2⟩
    obtain ⟨k, _⟩ := p
    cases k <;> simp only [kD, kV, Rep]
theorem si_items {e : E} (ih : SE P cn cl n N e) : SI P cn cl n N (.items e) := by
  intro bw sc a tg h fb W X g
  simp only [chkI] at h
  split at h
  · rename_i o y apos cpos
    simp only [Bool.and_eq_true, decide_eq_true_eq, Bool.not_eq_true'] at h
    obtain ⟨⟨⟨⟨⟨⟨hb, rfl⟩, h3⟩, h4⟩, h5⟩, h6⟩, h7⟩ := h
    subst hb
    obtain ⟨es, k, tp, rfl⟩ := isTup_inv h7
    have ho : isOwn e = false := own_bw h3
    have pe : PE X o (tE X.K cl W .frs (ev (callN P n) e)) := by
      have := ih false sc o h3 fb W X g
      have em : md e = .frs := by unfold md; rw [ho, h4]; rfl
      rwa [em] at this
    refine PI.weak (PI.len (pi_items (pe_lkEnd pe) (base_no h5) h6)) fun σ H R ⟨ms, Z, G, env, w, s, p⟩ => ?_
    simp only [evI] at p
    refine ⟨ms, Z, G, env, w, s, ?_⟩
    cases e1 : ev (callN P n) e env G with
    | no => rw [e1] at p; exact p.elim
    | ex c G1 => rw [e1] at p; exact p
    | ok d G1 =>
      rw [e1] at p
      simp only [Res.bind] at p
      intro v ms1 Z1 H1 g1 w1 r1
      obtain ⟨q, rfl, n0, z, m, own⟩ := r1
      cases d with
      | dK ks vs =>
        simp only [OwnAt] at own
        obtain ⟨xs, l, hq, r⟩ := own
        refine ⟨q, _, rfl, hq, fun od => ⟨q, od, _, rfl, upd_same, fun lk => ?_⟩⟩
        simp only [dicItems] at p
        by_cases hl : ks.length < LIM
        · rw [if_pos hl] at p
          refine p _ ms1 _ _ (g1.lock n0 z) (w1.lock z m) ?_
          have hz := LIM_line
          refine walkD_pair (Gd := fun H => H q = some (.frz od (.dK (ks.zip xs)))) (xs := fun i => (ks.zip xs)[i]?.map fun kv => kV kv.1) (ys := fun i => (ks.zip xs)[i]?.map Prod.snd) ?_ ?_ ?_ ?_
          · have e : ((ks.zip vs).map fun p => D.tup false [kD p.1, p.2]).length = (ks.zip xs).length := by rw [List.length_map, List.length_zip, List.length_zip, r.len]
            rw [e]
            exact walk_items
          · rw [List.length_map, List.length_zip]; omega
          · exact fun H' h1 _ => (h1 q _ upd_same).frz
          · exact dicItems_rep l (r.mono (upd_get z) (List.prefix_refl _))
        · rw [if_neg hl] at p; exact p.elim
      | _ => exact (show False from p).elim
  · cases h
theorem si_zip {e f : E} (ihe : SE P cn cl n N e) (ihf : SE P cn cl n N f) : SI P cn cl n N (.zip e f) := by
  intro bw sc a tg h fb W X g
  simp only [chkI] at h
  split at h
  · rename_i y _ x u _
    simp only [Bool.and_eq_true, decide_eq_true_eq] at h
    obtain ⟨⟨⟨⟨⟨⟨rfl, h2⟩, h3⟩, h4⟩, h5⟩, h6⟩, h7⟩ := h
    obtain ⟨es, k, tp, rfl⟩ := isTup_inv h7
    have b2 : X.mg "zip" = none := g.bt (by decide +kernel)
    refine PI.weak (PI.len (RZ.pi_zipA (g.gl h2) b2 (pa_cons (ihe.mode h3 g) (pa_cons (ihf.mode h4 g) pa_nil (star_cons h6)) (star_cons h5)) (star_cons h5) (by rw [star_cons h6]; rfl))) fun σ H R ⟨ms, Z, G, env, w, s, p⟩ => ?_
    simp only [evI] at p
    refine ⟨ms, Z, G, env, w, s, ?_⟩
    cases e1 : ev (callN P n) e env G with
    | no => rw [e1] at p; exact p.elim
    | ex c G1 => rw [e1] at p; exact p
    | ok d1 G1 =>
      rw [e1] at p
      simp only [Res.bind] at p
      intro v ms1 Z1 H1 g1 w1 r1
      refine ⟨ms1, Z1, G1, env, w1, s.grow g1, ?_⟩
      cases e2 : ev (callN P n) f env G1 with
      | no => rw [e2] at p; exact p.elim
      | ex c G2 => rw [e2] at p; exact fun ms2 Z2 H2 g2 w2 => p ms2 Z2 H2 (g1.trans g2 w1 w2) w2
      | ok d2 G2 =>
        rw [e2] at p
        intro v2 ms2 Z2 H2 g2 w2 r2
        simp only [Res.bind] at p
        have r1' : MRep X.K (mb bw) ms2 Z2 H2 H d1 v := by
          cases bw with
          | true => exact BRep.grow r1 g2
          | false => exact Rep.grow r1 g2
        cases d1 <;> cases d2 <;> first
          | exact p.elim
          | skip
        rename_i ds es
        obtain ⟨q, xs, rfl, r, z, hq⟩ := src_lst w2 r1'
        obtain ⟨q2, ys, rfl, r', z', hq2⟩ := src_lst w2 r2
        refine ⟨q, q2, xs, ys, rfl, .inl ⟨.of hq, .of hq2, fun lk => p _ ms2 Z2 H2 (g1.trans g2 w1 w2) w2 ?_⟩⟩
        have hl : (zipItems ds es).length = min xs.length ys.length := by unfold zipItems; rw [List.length_map, List.length_zip, r.len, r'.len]
        refine walkD_pair (Gd := fun H => SqL X.K H q xs ∧ SqL X.K H q2 ys) (xs := fun i => xs[i]?) (ys := fun i => ys[i]?) (walk_zip hl) (by
          have := lk q xs (.inl hq)
          rw [hl]; omega) (fun H' k1 k2 => ⟨keep_lst z H' k1 k2, keep_lst z' H' k1 k2⟩) fun i d ed => ?_
        unfold zipItems at ed
        rw [List.getElem?_map] at ed
        cases ei : (List.zip ds es)[i]? with
        | none => rw [ei] at ed; cases ed
        | some d0 =>
          rw [ei] at ed
          cases ed
          obtain ⟨z1, z2⟩ := List.getElem?_zip_eq_some.mp ei
          refine ⟨d0.1, d0.2, rfl, fun x y ex ey => ?_⟩
          obtain ⟨d', e', r3⟩ := r.get ex
          obtain ⟨d'', e'', r4⟩ := r'.get ey
          rw [z1] at e'; cases e'
          rw [z2] at e''; cases e''
          exact ⟨r3, r4⟩
  · cases h

/-! ### comprehensions -/
theorem compL_noex {f : D → Gs → Res (Option D)} : ∀ (ds : List D) (G : Gs) {c : Str} {G' : Gs}, compL f ds G ≠ .ex c G'
  | [], G, c, G' => fun h => by simp [compL] at h
  | d :: ds, G, c, G' => fun h => by
    simp only [compL] at h
    split at h
    · split at h <;> cases h
    · cases h
def ttC (K : Fg) (cl : ClsOf) (P : Prog) (n : Nat) : Eo → TT
  | .no => tYes
  | .so c => tR K cl (fun _ _ _ => False) EqR (tv (callN P n) c)
theorem chkTvs_ok {t : Tg} {vs : List (Str × Nat)} (h : chkTvs t vs = true) : ∀ i ∈ tgIx t, i ∈ vs.map (·.2) := by
  cases t with
  | nm i x =>
    intro j hj
    simp only [tgIx, List.mem_singleton] at hj
    subst hj
    simpa [chkTvs] using h
  | tp l =>
    intro j hj
    simp only [tgIx, List.mem_map] at hj
    obtain ⟨p, hp, rfl⟩ := hj
    simp only [chkTvs, List.all_eq_true] at h
    simpa using h p hp
/-- the reading of a comprehension -/
theorem comp_read {K : Fg} {W : WK} {e : E} {it : Src} {c : Eo} {t : Tg} {vs : List (Str × Nat)} (h5 : chkTvs t vs = true) {σ : Sg} {H : Hp} {Q : VK} (q : tE K cl W .frs (ev (callN P n) (.comp e t it c vs)) σ H Q) :
    tLc (tI K cl W true (evI (callN P n) it)) (gD K cl t) (ttC K cl P n c) (tE K cl (fun _ _ _ => False) .gen (ev (callN P n) e)) (vs.map (·.2)) σ H Q := by
  obtain ⟨ms, Z, G, env, w, s, p⟩ := q
  simp only [ev] at p
  refine ⟨ms, Z, G, env, w, s, ?_⟩
  cases e1 : evI (callN P n) it env G with
  | no => rw [e1] at p; exact p.elim
  | ex cc G1 => rw [e1] at p; exact fun ms1 Z1 H1 g1 w1 => p ms1 Z1 H1 g1 w1
  | ok items G1 =>
    rw [e1] at p
    intro J ms1 Z1 H1 g1 w1 wd
    have p1 : PostR K cl W (MRep K .frs) σ ms1 Z1 H1 ((compL (compF (callN P n) t e c (vs.map (·.2)) env) items G1).bind fun ds G => .ok (.lst ds) G) Q := PostR.shift p (shift_m .frs) g1 w1
    cases e2 : compL (compF (callN P n) t e c (vs.map (·.2)) env) items G1 with
    | no => rw [e2] at p1; exact p1.elim
    | ex cc G2 => exact absurd e2 (compL_noex _ _)
    | ok all Ge =>
      rw [e2] at p1
      refine comp_core (W := W) w1 (s.grow g1) wd (chkTvs_ok h5) e2 (fun σ2 H2 Q2 q => ?_) fun D us ms2 Z2 H2 g2 w2 nD zD mD hD rD => p1 _ ms2 Z2 H2 g2 w2 ⟨D, rfl, nD, zD, mD, us, hD, rD⟩
      cases c with
      | no => exact q
      | so c' =>
        obtain ⟨ms3, Z3, G3, env3, w3, s3, p3⟩ := q
        refine ⟨ms3, Z3, G3, env3, w3, s3, ?_⟩
        rcases tv_ev (callN P n) c' env3 G3 with e | e
        · have p4 : PostR K cl (fun _ _ _ => False) EqR σ2 ms3 Z3 H2 ((ev (callN P n) c' env3 G3).bindO truth) Q2 := p3
          rw [e] at p4; exact p4.elim
        · rw [← e]; exact p3
theorem se_comp {e : E} {it : Src} {c : Eo} (ihe : SE P cn cl n N e) (ihi : SI P cn cl n N it) (ihc : ∀ c', c = .so c' → ST P cn cl n N c') (t : Tg) (vs : List (Str × Nat)) : SE P cn cl n N (.comp e t it c vs) := by
  intro bw sc a h fb W X g
  simp only [chkE] at h
  split at h
  · rename_i elt tg iter ifs isA scope pos
    simp only [Bool.and_eq_true, decide_eq_true_eq] at h
    obtain ⟨⟨⟨⟨⟨⟨⟨rfl, h2⟩, h3⟩, h4⟩, h5⟩, h6⟩, h7⟩, h8⟩ := h
    have ok : BlkOk X.N X.env.scope scope vs := by
      rw [g.hN, g.hs]; exact blkOk_by h2
    have hpt : ∀ (s : Shared) (H : Hp) (C : Addr) (cs : List (Str × Addr)) (fp : List Addr), PTs (X.blk s H scope (compEnvC scope cs C X.env) fp) ifs (ttC X.K cl P n c) := fun s H C cs fp => by
      have gb := g.blk s H scope cs C fp
      cases c with
      | no =>
        simp only [chkIf, List.isEmpty_iff] at h7
        subst h7
        exact pts_nil
      | so c' =>
        simp only [chkIf] at h7
        split at h7
        · exact pts_one (ihc c' rfl true _ _ h7 _ _ _ gb)
        · cases h7
    have hpe : ∀ (s : Shared) (H : Hp) (C : Addr) (cs : List (Str × Addr)) (fp : List Addr), PE (X.blk s H scope (compEnvC scope cs C X.env) fp) elt (tE X.K cl (fun _ _ _ => False) .gen (ev (callN P n) e)) := fun s H C cs fp => ihe.gen h6 (g.blk s H scope cs C fp)
    have hpg : ∀ (s : Shared) (H : Hp) (C : Addr) (cs : List (Str × Addr)) (fp : List Addr), PG (X.blk s H scope (compEnvC scope cs C X.env) fp) tg (gD X.K cl t) := fun s H C cs fp => sTg (g.blk s H scope cs C fp) h3
    rw [md_frs rfl rfl]
    exact PE.weak (pe_lc g.calm (by rw [g.hN]; exact g.nd) (ihi true sc iter tg h4 fb W X g) ok hpg hpt hpe (fold_no h8)) fun σ H Q => comp_read h5
  · cases h

/-! ### tests -/
theorem plain_isTrue {a : Expr} (h : plainT a = true) (env : Env) : ∀ whole, isTrue a env whole = (do let v ← whole; standAt a.pos; holding [v] (truthy v)) := by
  intro whole
  cases a <;> first
    | rfl
    | skip
  all_goals (rename_i op x p; cases op <;> first | rfl | cases h)
theorem st_plain {e : E} (ih : SE P cn cl n N e) (hp : ∀ bw sc a, chkE P cn N e bw sc a = true → plainT a = true) (ht : ∀ env G, tv (callN P n) e env G = (ev (callN P n) e env G).bindO truth) : ST P cn cl n N e := by
  intro bw sc a h fb W X g
  have pe : PE X a (tE X.K cl W .bor (ev (callN P n) e)) := ih.bor h g
  refine PT.weak (pt_truth pe (plain_isTrue (hp _ _ _ h) _)) fun σ H Q ⟨ms, Z, G, env, w, s, p⟩ => ?_
  rw [ht] at p
  refine ⟨ms, Z, G, env, w, s, ?_⟩
  cases e1 : ev (callN P n) e env G with
  | no => rw [e1] at p; exact p.elim
  | ex c G1 => rw [e1] at p; exact p
  | ok d G1 =>
    rw [e1] at p
    simp only [Res.bindO] at p
    intro v ms1 Z1 H1 g1 w1 r1
    cases e2 : truth d with
    | none => rw [e2] at p; exact p.elim
    | some b => rw [e2] at p; exact ⟨b, truth_use e2 w1 r1, p b ms1 Z1 H1 g1 w1 rfl⟩
end
end MP

namespace MP
open PySem PySem.Spec PyProof.Rows L2

/-! ### dicts of written texts -/
def strE : Es → List Str
  | .nil => []
  | .cons (.str s) es => s :: strE es
  | .cons _ es => strE es
theorem chkSk_inv {e : E} {es : Es} {l : List (Option Expr)} (h : chkSk (.cons e es) l = true) : ∃ s j p l1, e = .str s ∧ l = some (.Constant (.str s) j p) :: l1 ∧ chkSk es l1 = true := by
  unfold chkSk at h
  split at h
  · rename_i heq; cases heq
  · rename_i h1
    cases h1
    simp only [Bool.and_eq_true, decide_eq_true_eq] at h
    obtain ⟨rfl, h⟩ := h
    exact ⟨_, _, _, _, rfl, rfl, h⟩
  · cases h
theorem chkSv_inv {e : E} {es : Es} {l : List Expr} (h : chkSv (.cons e es) l = true) : ∃ s j p l1, e = .str s ∧ l = .Constant (.str s) j p :: l1 ∧ chkSv es l1 = true := by
  unfold chkSv at h
  split at h
  · rename_i heq; cases heq
  · rename_i h1
    cases h1
    simp only [Bool.and_eq_true, decide_eq_true_eq] at h
    obtain ⟨rfl, h⟩ := h
    exact ⟨_, _, _, _, rfl, rfl, h⟩
  · cases h
theorem evs_sk (cf : CallF) (env : Ev) (G : Gs) : ∀ {ks : Es} {l : List (Option Expr)}, chkSk ks l = true → evs cf ks env G = .ok ((strE ks).map .str) G
  | .nil, l, _ => by simp only [evs]; rfl
  | .cons e ks, l, h => by
    obtain ⟨s, j, p, l1, rfl, rfl, h'⟩ := chkSk_inv h
    simp only [evs, ev, Res.bind, evs_sk cf env G h']
    rfl
theorem evs_sv (cf : CallF) (env : Ev) (G : Gs) : ∀ {ks : Es} {l : List Expr}, chkSv ks l = true → evs cf ks env G = .ok ((strE ks).map .str) G
  | .nil, l, _ => by simp only [evs]; rfl
  | .cons e ks, l, h => by
    obtain ⟨s, j, p, l1, rfl, rfl, h'⟩ := chkSv_inv h
    simp only [evs, ev, Res.bind, evs_sv cf env G h']
    rfl
theorem pps_strs {X : Cx} {pos : Pos} : ∀ {ks vs : Es} {l : List (Option Expr)} {m : List Expr}, chkSk ks l = true → chkSv vs m = true → l.length = m.length → ∃ trs, PPs X pos l m trs ∧ (∀ σ H Q, Q (((strE ks).zip (strE vs)).map fun p => (V.str p.1, V.str p.2)) H → tPairs trs σ H Q) ∧ (strE ks).length = l.length ∧ (strE vs).length = l.length ∧ l.all (·.isSome) = true
  | .nil, vs, l, m, h, h2, h3 => by
    cases l with
    | cons x l => simp [chkSk] at h
    | nil =>
      cases m with
      | cons x m => simp at h3
      | nil =>
        cases vs with
        | cons e vs => obtain ⟨s, j, p, l1, _, e, _⟩ := chkSv_inv h2; cases e
        | nil => exact ⟨[], pps_nil, fun σ H Q q => q, rfl, rfl, rfl⟩
  | .cons e ks, vs, l, m, h, h2, h3 => by
    obtain ⟨s, j, p, l, rfl, rfl, h'⟩ := chkSk_inv h
    cases vs with
    | nil =>
      cases m with
      | nil => simp at h3
      | cons x m => simp [chkSv] at h2
    | cons e2 vs =>
      obtain ⟨s2, j2, p2, m, rfl, rfl, h2'⟩ := chkSv_inv h2
      obtain ⟨trs, pp, q, e1, e2, e3⟩ := pps_strs (X := X) (pos := pos) h' h2' (by simpa using h3)
      refine ⟨_, pps_cons pe_str pe_str pp, fun σ H Q r => ?_, by simp [strE, e1], by simp [strE, e2], by simpa using e3⟩
      exact q σ H _ r
theorem putK_new {κ : Type} [DecidableEq κ] {kvs : List (κ × V)} {k : κ} {v : V} (h : k ∉ kvs.map (·.1)) : putK kvs k v = kvs ++ [(k, v)] := by
  unfold putK
  rw [if_neg]
  intro q
  obtain ⟨p, hp, e⟩ := List.any_eq_true.mp q
  exact h (List.mem_map.mpr ⟨p, hp, by simpa using e⟩)
theorem mergeK_new : ∀ (more kvs : List (Key × V)), (kvs.map (·.1) ++ more.map (·.1)).Nodup → mergeK kvs more = kvs ++ more
  | [], kvs, _ => by simp [mergeK]
  | (k, v) :: more, kvs, h => by
    have hk : k ∉ kvs.map (·.1) := fun q => by
      rw [List.nodup_append] at h
      exact h.2.2 k q k (by simp) rfl
    show mergeK (putK kvs k v) more = _
    rw [putK_new hk, mergeK_new more (kvs ++ [(k, v)]) (by simpa using h)]
    simp
theorem keysOf_strs : ∀ l : List Str, keysOf (l.map .str) = some (l.map Sum.inr)
  | [] => rfl
  | s :: l => by simp [keysOf, keyOf, keysOf_strs l]
theorem reps_strs {K : Fg} {ms : List Addr} {Z : Hp} : ∀ l : List Str, Reps K ms Z (l.map D.str) (l.map V.str)
  | [] => .nil
  | s :: l => .cons (by simp only [Rep]) (reps_strs l)
section
variable {P : Prog} {cn : Str → Option D} {cl : ClsOf} {n : Nat} {N : List Str}
theorem se_disp (ks vs : Es) : SE P cn cl n N (.disp ks vs) := by
  intro bw sc a h fb W X g
  simp only [chkE] at h
  split at h
  · rename_i l m pos
    simp only [Bool.and_eq_true, decide_eq_true_eq] at h
    obtain ⟨⟨⟨⟨h1, h2⟩, h3⟩, h4⟩, hl⟩ := h
    · obtain ⟨trs, p, q, e1, e2, e3⟩ := pps_strs (X := X) (pos := pos) h1 h2 hl
      refine PE.weak (pe_disp p e3 hl (fun e => by rw [e] at h3; simp at h3) h4) fun σ H Q ⟨ms, Z, G, env, w, s, pp⟩ => ?_
      simp only [ev, evs_sk _ env G h1, evs_sv _ env G h2, Res.bind] at pp
      obtain ⟨d, ed, p1⟩ := lift_ok pp
      simp only [dispD, keysOf_strs, Option.bind] at ed
      split at ed
      · rename_i hn
        cases ed
        intro c hc
        refine q _ _ _ ⟨upd_same, ((strE ks).zip (strE vs)).map fun p => (Sum.inr p.1, V.str p.2), by rw [List.map_map]; rfl, by rw [List.length_map, List.length_zip]; omega, ?_⟩
        rw [mergeK_new]
        · rw [upd_upd]
          have ez : [] ++ ((strE ks).zip (strE vs)).map (fun p => ((Sum.inr p.1 : Key), V.str p.2)) = ((strE ks).map Sum.inr).zip ((strE vs).map V.str) := by
            rw [List.zip_map]; rfl
          rw [ez]
          refine p1 _ ms Z _ (Grow.alloc w hc _) (w.alloc hc _) ⟨c, rfl, hc, w.zfresh hc, w.fresh hc, (strE vs).map V.str, by simp [e1, e2], upd_same, reps_strs _⟩
        · rw [List.map_nil, List.nil_append, List.map_map]
          have : ((fun p : Key × V => p.1) ∘ fun p : Str × Str => ((Sum.inr p.1 : Key), V.str p.2)) = fun p => Sum.inr p.1 := rfl
          rw [this]
          have e4 : ((strE ks).zip (strE vs)).map (fun p => (Sum.inr p.1 : Key)) = (strE ks).map Sum.inr := by
            rw [show (fun p : Str × Str => (Sum.inr p.1 : Key)) = Sum.inr ∘ Prod.fst from rfl, ← List.map_map, List.map_fst_zip (by omega)]
          rw [e4]
          exact hn.2
      · cases ed
  · cases h
end
end MP

namespace MP
open PySem PySem.Spec PyProof.Rows L2

section
variable {K : Fg} {cl : ClsOf} {ms : List Addr} {Z H : Hp} {G : Gs}
theorem WOk.upd (w : WOk K cl ms Z H G) {p : Addr} {o : HO} (z : Z p = none) (m : p ∉ ms) : WOk K cl ms Z (L2.upd H p o) G where
  zs := fun a u e => by
    have ne : a ≠ p := fun q => by subst q; rw [z] at e; cases e
    rcases w.zs a u e with q | ⟨q, ob, q'⟩
    · exact .inl (by rw [upd_ne ne]; exact q)
    · exact .inr ⟨q, ob, by rw [upd_ne ne]; exact q'⟩
  mz := w.mz
  nd := w.nd
  ln := w.ln
  gl := fun i a c e1 e2 => by
    have ne : a ≠ p := fun q => m (q ▸ List.mem_of_getElem? e1)
    have := w.gl i a c e1 e2
    cases c <;> simp only [CellRep] at this ⊢ <;> rw [upd_ne ne] <;> exact this
  fl := w.fl
end
/-! ### keys put -/
section
variable {κ : Type} [DecidableEq κ] {K : Fg} {ms : List Addr} {Z : Hp}
theorem any_zip {k : κ} : ∀ {ks : List κ} {xs : List V}, ks.length = xs.length → ((ks.zip xs).any fun kv => decide (kv.1 = k)) = ks.any fun j => decide (j = k)
  | [], xs, _ => by simp
  | j :: ks, [], h => by simp at h
  | j :: ks, x :: xs, h => by
    rw [List.zip_cons_cons, List.any_cons, List.any_cons, any_zip (by simpa using h)]
theorem map_zip {k : κ} {v : V} : ∀ {ks : List κ} {xs : List V}, ks.length = xs.length → ((ks.zip xs).map fun kv => if kv.1 = k then (kv.1, v) else kv) = ks.zip (List.zipWith (fun j u => if j = k then v else u) ks xs)
  | [], xs, _ => by simp
  | j :: ks, [], h => by simp at h
  | j :: ks, x :: xs, h => by
    rw [List.zip_cons_cons, List.map_cons, List.zipWith_cons_cons, List.zip_cons_cons, map_zip (by simpa using h)]
    by_cases q : j = k
    · simp [q]
    · simp [q]
theorem zipWith_len {k : κ} {v : V} : ∀ {ks : List κ} {xs : List V}, ks.length = xs.length → ks.length = (List.zipWith (fun j u => if j = k then v else u) ks xs).length := fun {ks xs} h => by rw [List.length_zipWith, h]; simp
theorem reps_zipWith {k : κ} {d : D} {v : V} (r : Rep K ms Z d v) : ∀ {ks : List κ} {vs : List D} {xs : List V}, Reps K ms Z vs xs → Reps K ms Z (List.zipWith (fun j u => if j = k then d else u) ks vs) (List.zipWith (fun j u => if j = k then v else u) ks xs)
  | [], vs, xs, h => by simp [Reps]
  | j :: ks, [], xs, h => by simp only [Reps] at h; subst h; simp [Reps]
  | j :: ks, w :: vs, xs, h => by
    obtain ⟨x, t, rfl, r1, r2⟩ := h.cons_inv
    rw [List.zipWith_cons_cons, List.zipWith_cons_cons]
    by_cases q : j = k
    · rw [if_pos q, if_pos q]; exact .cons r (reps_zipWith r r2)
    · rw [if_neg q, if_neg q]; exact .cons r1 (reps_zipWith r r2)
theorem put_zip {ks : List κ} {vs : List D} {xs : List V} {k : κ} {d : D} {v : V} (l : ks.length = xs.length) (h : Reps K ms Z vs xs) (r : Rep K ms Z d v) : ∃ ys, (putP ks vs k d).1.length = ys.length ∧ putK (ks.zip xs) k v = (putP ks vs k d).1.zip ys ∧ Reps K ms Z (putP ks vs k d).2 ys := by
  unfold putP putK
  rw [any_zip l]
  by_cases q : (ks.any fun j => decide (j = k)) = true
  · rw [if_pos q, if_pos q]
    exact ⟨_, zipWith_len l, map_zip l, reps_zipWith r h⟩
  · rw [if_neg q, if_neg q]
    refine ⟨xs ++ [v], by simp [l], ?_, h.append (.cons r .nil)⟩
    simp only
    rw [List.zip_append l]; rfl
end
end MP

namespace MP
open PySem PySem.Spec PyProof.Rows L2

/-! ### dict comprehensions whose keys are tuples -/
section
variable {X : Cx}
/-- what such a comprehension asks: the new dict stands at d -/
def tDT (wi : TI) (g : TG) (tk tv : TE) (ix : List Nat) : TE := fun σ H Q => wi σ H fun J Ha => ∀ d, Ha d = none → ∃ V0 : Nat → Nat → Hp → Prop, (∃ m, V0 0 m (upd Ha d (.dT []))) ∧
  ∀ i m Hb, V0 i m Hb → (J.stop i Hb ∧ Q (.ref d) Hb) ∨ (J.go i Hb ∧ ∃ Nn : Hp → Prop, (∀ Hc, Nn Hc → ∃ m', m' < m ∧ V0 (i + 1) m' Hc) ∧
    ∀ x Hc, J.yld i Hb x Hc → g x (wipe σ ix) Hc fun τ Hd => wipe τ ix = wipe σ ix ∧
      tk τ Hd fun y He => tv τ He fun z Hf => ∃ kvs k b, y = .ref b ∧ Hf b = some (.tup (k.map kV)) ∧ Hf d = some (.dT kvs) ∧ kvs.length < sizeLine ∧ Nn (upd Hf d (.dT (putK kvs k z))))
theorem put_tkey {pins : List (Addr × Obj)} {σ : L2.St} {H : Hp} {s : Shared} {E : Value → Shared → Prop} {d b : Addr} {kvs : List (List Key × V)} {k : List Key} {v : V} {u r : Value} {Q : Unit → Shared → Prop} (hu : X.A.units + 1 < cLine) (I : Inv X pins σ H s)
    (hd : H d = some (.dT kvs)) (hb : H b = some (.tup (k.map kV))) (hz : kvs.length < sizeLine) (ru : RelV (.ref b) u) (rv : RelV v r) (h : ∀ s', Inv X pins σ (upd H d (.dT (putK kvs k v))) s' → Q () s') :
    wpAny (model X.prog X.w) X.A (dictSet d u r) Q E s := by
  cases (show u = Value.ref b from ru)
  obtain ⟨z0, hsys, ents, rel, at_d⟩ := dt_of I.hok hd
  have few : ents.length ≤ sizeLine := by rw [← Paired.length rel]; exact z0
  have few' : (putK kvs k v).length ≤ sizeLine := by
    have := length_putK kvs k v
    omega
  refine wpAny_dictSet_heap (hsz := few) (by show X.A.units < cLine; omega) (key_of I.hok hb) at_d fun g at_g same => h _ ?_
  obtain ⟨o, es, ep, ho, c2, c3, c4, _, c5⟩ := at_g
  refine d_write I (by rw [hd]; exact True.intro) same ⟨o, ho⟩ ⟨few', hsys, _, (rel.put k hb rv).keeps fun c ys ec => ?_, o, es, ep, ho, c2, c3, c4, c5⟩
  rw [upd_ne (ne_of ec hd (fun z => nomatch z))]
  exact ec
theorem dT_core {kx vx tg iter : Expr} {sc2 : Scope} {vs : List (Str × Nat)} {p p' : Pos} {wi : TI} {g : TG} {tk tv : TE} {pins : List (Addr × Obj)} {s0 : Shared} {σ : L2.St} {H0 : Hp} {Q : VK} {use : Option (Value → Sem Unit)} {Qf : Value → Shared → Prop} (hu : X.A.units + 1 < cLine) (hcalm : X.calm = true) (nd : X.N.Nodup)
    (I0 : Inv X pins σ H0 s0) (pi : PI X tg iter wi) (blk : BlkOk X.N X.env.scope sc2 vs)
    (fg : ∀ (s0 : Shared) (H0 : Hp) (C : Addr) (cs : List (Str × Addr)) (ps : List Addr), PG (X.blk s0 H0 sc2 (compEnvC sc2 cs C X.env) ps) tg g)
    (fk : ∀ (s0 : Shared) (H0 : Hp) (C : Addr) (cs : List (Str × Addr)) (ps : List Addr), PE (X.blk s0 H0 sc2 (compEnvC sc2 cs C X.env) ps) kx tk)
    (fv : ∀ (s0 : Shared) (H0 : Hp) (C : Addr) (cs : List (Str × Addr)) (ps : List Addr), PE (X.blk s0 H0 sc2 (compEnvC sc2 cs C X.env) ps) vx tv)
    (nofold : ∀ x, foldedSetIterable iter X.env x = pure x) (h : tDT wi g tk tv (vs.map (·.2)) σ H0 Q)
    (after : ∀ d A sx mm Hx, Inv X pins σ Hx sx → Q (.ref d) Hx → sx.heap.Ns A mm → FpOk X pins Hx A → compPost (model X.prog X.w) X.A X.xe use Qf (.ref d) A (.ok .next) sx) :
    wpAny (model X.prog X.w) X.A (comprehension (.DictComp kx vx [⟨tg, iter, [], 0⟩] sc2 p) sc2 X.env p' newDict false (eval iter X.env) use) Qf X.xe s0 := by
  have free_in : ∀ y ∈ sc2.names, y.2 = .free → ∃ c, X.env.cells.lookup y.1 = some c := fun y hy e => (blk.free y hy e).elim (fun q => I0.ok.has _ (.inl q)) fun q => I0.ok.has _ (.inr q)
  refine wpAny_comprehension_free (use := use) rfl nofold (closure_ok free_in) blk.kind (fun y hy e => by rw [blk.uniq y hy, e]) (thn (pi.run pins s0 σ H0 _ I0 h) fun _ s1 k1 => thn k1 fun _ s2 k2 => ?_)
  obtain ⟨it, ps, tn, J, Ha, rfl, Ia, T, t0, okp, ask⟩ := k2
  refine wpAny_newObj_type (newEnv_comp ?_)
  -- the dict, where the heap ends
  generalize ed : s2.heap.objs.size = d
  have nd0 : Ha d = none := Ia.hok.fresh (Nat.le_of_eq ed)
  obtain ⟨V0, ⟨m0, v0⟩, turn⟩ := ask d nd0
  generalize es3 : ({ s2 with heap := s2.heap.push { cls := .type "dict", data := .dict #[] } } : Shared) = s3
  have hs3 : s3.heap = s2.heap.push { cls := .type "dict", data := .dict #[] } := by rw [← es3]
  have Ib : Inv X pins σ (upd Ha d (.dT [])) s3 := by
    rw [← es3]
    exact Ia.laid (t' := s2.toks) (fun _ _ e => Heap.get?_push_of_some _ e) (Nat.le_of_eq ed) (by rw [← ed]; exact dt_empty s2.heap Ia.big)
  have below : ∀ b ∈ ps, b < s2.heap.objs.size := fun b hb => by
    obtain ⟨_, e, _⟩ := T.obj _ _ t0 b hb
    exact Heap.lt_size e
  have okb : ∀ b ∈ ps, FpOk X pins (upd Ha d (.dT [])) b ∧ b < s3.heap.objs.size := fun b hb => by
    have hlt := below b hb
    refine ⟨⟨?_, (okp b hb).2⟩, by rw [hs3, Heap.size_push]; exact Nat.lt_succ_of_lt hlt⟩
    rw [upd_ne (fun e => Nat.lt_irrefl _ (by rw [ed, ← e] at hlt; exact hlt))]
    exact (okp b hb).1
  have t1 : tn 0 s3.heap := T.keep _ _ _ t0 fun _ _ _ e => by rw [hs3]; exact Heap.get?_push_of_some _ e
  have Ic := block_start Ib blk nd okb
  have none_b : ∀ b ∈ ps, (upd Ha d (.dT [])) b = none := fun b hb => (okb b hb).1.1
  show codeAny _ _ (.compStart (.DictComp kx vx [⟨tg, iter, [], 0⟩] sc2 p) 0 (.ref it) (.ref d) (compEnvC sc2 (cellsFrom (s3.heap.objs.size + 1) sc2.names (cloFrom X.env.cells sc2.names [])) s3.heap.objs.size X.env)) _ { s3 with heap := pushCells (s3.heap.push { cls := .type "dict", data := .dict #[] }) sc2.names }
  have qg := fg s3 (upd Ha d (.dT [])) s3.heap.objs.size (cellsFrom (s3.heap.objs.size + 1) sc2.names (cloFrom X.env.cells sc2.names [])) ps
  have qk := fk s3 (upd Ha d (.dT [])) s3.heap.objs.size (cellsFrom (s3.heap.objs.size + 1) sc2.names (cloFrom X.env.cells sc2.names [])) ps
  have qv := fv s3 (upd Ha d (.dT [])) s3.heap.objs.size (cellsFrom (s3.heap.objs.size + 1) sc2.names (cloFrom X.env.cells sc2.names [])) ps
  have hA : (compEnvC sc2 (cellsFrom (s3.heap.objs.size + 1) sc2.names (cloFrom X.env.cells sc2.names [])) s3.heap.objs.size X.env).locals = s3.heap.objs.size := rfl
  generalize compEnvC sc2 (cellsFrom (s3.heap.objs.size + 1) sc2.names (cloFrom X.env.cells sc2.names [])) s3.heap.objs.size X.env = en at Ic qg qk qv hA ⊢
  generalize upd Ha d (.dT []) = Hn at Ib Ic qg qk qv v0 none_b okb
  generalize es4 : ({ s3 with heap := pushCells (s3.heap.push { cls := .type "dict", data := .dict #[] }) sc2.names } : Shared) = s4 at Ic ⊢
  have t2 : tn 0 s4.heap := T.keep _ _ _ t1 fun _ _ _ e => by rw [← es4]; exact pushCells_keeps _ _ _ _ (Heap.get?_push_of_some _ e)
  have huB : (X.blk s3 Hn sc2 en ps).A.units + 1 < cLine := hu
  have still : ∀ {τ : L2.St} {Hx : Hp} {sx : Shared}, Inv (X.blk s3 Hn sc2 en ps) [] τ Hx sx → (∀ b ∈ ps, Hx b = none) → ∀ b ∈ ps, FpOk (X.blk s3 Hn sc2 en ps) [] Hx b := fun {τ Hx sx} Ix hx b hb =>
    ⟨hx b hb, (Ix.ok.exf b hb).1, Ix.ok.exfs b hb, .inl hb, fun x c e => (Ix.ok.exf b hb).2 x c e, fun q hq => absurd (show q ∈ ([] : List (Addr × Obj)) ++ [] from hq) (by simp)⟩
  have loop : codeAny (model X.prog X.w) X.A (.compLoop (.DictComp kx vx [⟨tg, iter, [], 0⟩] sc2 p) 0 (.ref it) (.ref d) en) (compPost (model X.prog X.w) X.A X.xe use Qf (.ref d) s3.heap.objs.size) s4 := by
    refine compLoop_anyD (fun m sx => ∃ i Hx, Inv (X.blk s3 Hn sc2 en ps) [] (wipe σ (vs.map (·.2))) Hx sx ∧ tn i sx.heap ∧ (∀ b ∈ ps, Hx b = none) ∧ V0 i m Hx) ?_ m0 ⟨0, Hn, Ic, t2, none_b, v0⟩
    rintro m s5 ⟨i, H5, I5, t5, n5, v5⟩
    rcases turn i m H5 v5 with ⟨stop, fin⟩ | ⟨go, Nn, hN, step⟩
    · refine thnF (T.done (X.blk s3 Hn sc2 en ps) rfl rfl rfl hcalm i [] s5 _ H5 (fun _ _ => False) I5 (still I5 n5) t5 stop) fun r s6 ⟨er, I6⟩ => ?_
      subst er
      have I7 : Inv X pins σ H5 s6 := Ib.call' (ch := ps) I6.os I6.base I6.hok I6.bare fun b hb => ⟨(okb b hb).1.2.2.2.1, (okb b hb).1.2.1, (okb b hb).1.2.2.2.2.1, (okb b hb).1.2.2.2.2.2⟩
      have nA : H5 s3.heap.objs.size = none := by
        rw [← hA]
        exact I6.free
      obtain ⟨mm, hn, _⟩ := I6.loc
      have hn : s6.heap.Ns en.locals mm := hn
      rw [hA] at hn
      exact after d s3.heap.objs.size s6 mm H5 I7 fin hn (Ib.fpOk (Nat.le_refl _) nA)
    · refine thnF (T.item (X.blk s3 Hn sc2 en ps) rfl rfl rfl hcalm i [] s5 _ H5 (fun _ _ => False) I5 (still I5 n5) t5 go) fun r s6 ⟨u, er, k6⟩ => ?_
      subst er
      refine thnF k6 fun _ s7 ⟨x, H7, I7, r7, y7, t7, n7⟩ => ?_
      refine thnF (qg.run _ s7 _ H7 x u _ (I7.pinned (still I7 n7) (T.obj _ _ t7)) r7 (step x H7 y7)) fun _ s8 ⟨τ, H8, I8, hw, q8⟩ => ?_
      refine thnF ((pts_nil (X := X.blk s3 Hn sc2 en ps)).run _ s8 τ H8 (fun b H9 => b = true ∧ H9 = H8) I8 ⟨rfl, rfl⟩) fun b s9 ⟨H9, I9, q9⟩ => ?_
      obtain ⟨rfl, rfl⟩ := q9
      simp only [if_true]
      refine thnF (qk.run _ s9 τ H9 _ I9 q8) fun kv s10 ⟨yk, H10, I10, r10, q10⟩ => ?_
      refine thnF (qv.run _ s10 τ H10 _ I10 q10) fun vv s11 ⟨yv, H11, I11, r11, kvs, k, b, ey, hb, hd, hz, nx⟩ => ?_
      subst ey
      refine put_tkey (X := X.blk s3 Hn sc2 en ps) huB I11 hd hb hz r10 r11 fun s12 I12 => ?_
      obtain ⟨m', hm, v'⟩ := hN _ nx
      have pinned : ∀ c ∈ ps, ∀ o, s7.heap.get? c = some o → s12.heap.get? c = some o ∧ (upd H11 d (.dT (putK kvs k yv))) c = none := fun c hc o e =>
        let z := I12.pin (c, o) (List.mem_append_right _ (List.mem_append_right _ (mem_pinsAt hc e)))
        ⟨z.1, z.2.1⟩
      refine ⟨m', hm, i + 1, _, (I12.unpinned (pins := [])).weak (by rw [← hw, wipe_length]) (fun j v e => ?_), T.keep _ _ _ t7 fun c hc o e => (pinned c hc o e).1, fun c hc => ?_, v'⟩
      · rw [← hw] at e
        exact (wipe_some e).1
      · obtain ⟨o, e, _⟩ := T.obj _ _ t7 c hc
        exact (pinned c hc o e).2
  exact codeAny_compStart_dict loop (T.self X.A 0 _ _ _ t2 loop)
theorem pe_dT {kx vx tg iter : Expr} {sc2 : Scope} {vs : List (Str × Nat)} {p : Pos} {wi : TI} {g : TG} {tk tv : TE} (hu : X.A.units + 1 < cLine) (hcalm : X.calm = true) (nd : X.N.Nodup) (pi : PI X tg iter wi) (blk : BlkOk X.N X.env.scope sc2 vs)
    (fg : ∀ (s0 : Shared) (H0 : Hp) (C : Addr) (cs : List (Str × Addr)) (ps : List Addr), PG (X.blk s0 H0 sc2 (compEnvC sc2 cs C X.env) ps) tg g)
    (fk : ∀ (s0 : Shared) (H0 : Hp) (C : Addr) (cs : List (Str × Addr)) (ps : List Addr), PE (X.blk s0 H0 sc2 (compEnvC sc2 cs C X.env) ps) kx tk)
    (fv : ∀ (s0 : Shared) (H0 : Hp) (C : Addr) (cs : List (Str × Addr)) (ps : List Addr), PE (X.blk s0 H0 sc2 (compEnvC sc2 cs C X.env) ps) vx tv)
    (nofold : ∀ x, foldedSetIterable iter X.env x = pure x) : PE X (.DictComp kx vx [⟨tg, iter, [], 0⟩] sc2 p) (tDT wi g tk tv (vs.map (·.2))) := by
  refine ⟨fun pins s0 σ H0 Q I0 h => ?_⟩
  rw [arm_eval_DictComp]
  refine dT_core hu hcalm nd I0 pi blk fg fk fv nofold h fun d A sx mm Hx Ix fin hn ok => ⟨mm, hn, fun h'' same => ?_⟩
  obtain ⟨z0, z1, z2, z3, z4, z5⟩ := ok
  exact ⟨.ref d, Hx, Ix.turned (t' := sx.toks) (fun b o hb e => (same.2 b hb).trans e) z0 z1 z3 z4 z5, rfl, fin⟩
/-- y = {..} : the dict is stored while the block still stands -/
theorem ps_setDT {i : Nat} {y : Str} {py spos : Pos} {kx vx tg iter : Expr} {sc2 : Scope} {vs : List (Str × Nat)} {p : Pos} {wi : TI} {g : TG} {tk tv : TE} (hu : X.A.units + 1 < cLine) (hcalm : X.calm = true) (nd : X.N.Nodup) (hy : X.N[i]? = some y) (loc : X.env.scope.names.lookup y = some .local)
    (sw : swapsWith (.DictComp kx vx [⟨tg, iter, [], 0⟩] sc2 p) (some (.Name y py)) spos.line X.env = pure true) (pi : PI X tg iter wi) (blk : BlkOk X.N X.env.scope sc2 vs)
    (fg : ∀ (s0 : Shared) (H0 : Hp) (C : Addr) (cs : List (Str × Addr)) (ps : List Addr), PG (X.blk s0 H0 sc2 (compEnvC sc2 cs C X.env) ps) tg g)
    (fk : ∀ (s0 : Shared) (H0 : Hp) (C : Addr) (cs : List (Str × Addr)) (ps : List Addr), PE (X.blk s0 H0 sc2 (compEnvC sc2 cs C X.env) ps) kx tk)
    (fv : ∀ (s0 : Shared) (H0 : Hp) (C : Addr) (cs : List (Str × Addr)) (ps : List Addr), PE (X.blk s0 H0 sc2 (compEnvC sc2 cs C X.env) ps) vx tv)
    (nofold : ∀ x, foldedSetIterable iter X.env x = pure x) : PS X (.Assign [.Name y py] (.DictComp kx vx [⟨tg, iter, [], 0⟩] sc2 p) spos) (tAsg (tDT wi g tk tv (vs.map (·.2))) (gName i)) := by
  refine ⟨fun pins s0 σ H0 D I0 h => ?_⟩
  rw [exec_Assign_Name_used _ _ _ _ sw]
  have h : tDT wi g tk tv (vs.map (·.2)) σ H0 (fun x Hx => gName i x σ Hx D.nx) := h
  refine wpAny_bind (wpAny_standAt (wpAny_bind ?_))
  show wpAny _ X.A (do let _ ← comprehension (.DictComp kx vx [⟨tg, iter, [], 0⟩] sc2 p) sc2 X.env (firstIterPos [⟨tg, iter, [], 0⟩] p) newDict false (eval iter X.env) (some (assign (.Name y py) X.env))) _ _ s0
  refine wpAny_bind (thn (dT_core (Qf := fun _ sx => SP X pins D .next sx) hu hcalm nd I0 pi blk fg fk fv nofold h fun d A sx mm Hx Ix fin hn ok => ?_) fun _ _ q => wpAny_pure (wpAny_pure q))
  show wpAny _ _ (assign (.Name y py) X.env (.ref d)) _ _ _
  obtain ⟨z0, z1, z2, z3, z4, z5⟩ := ok
  refine wpAny_assign_Name (store_ok2 (v := V.ref d) Ix nd hy (.inl loc) rfl (fun sy Iy ⟨a, sb, ha⟩ => ?_) (.inr loc))
  have other : A ≠ a := ha.elim (fun q => by rw [q]; exact z1) fun q e => z4 y a q e.symm
  exact ⟨mm, hn.sameBut sb other, fun _ sb3 => ⟨_, Hx, Iy.turned (t' := sy.toks) (fun b o hb e => (sb3.2 b hb).trans e) z0 z1 z3 z4 z5, fin⟩⟩
theorem sw_dict {kx vx : Expr} {gs : List Comprehension} {sc2 : Scope} {p py : Pos} {y : Str} {l : Nat} {env : Env} (fn : env.scope.kind = .function) (loc : env.scope.names.lookup y = some .local) (row : (py.line == p.line) = true) (off : (sc2.names.any fun (n, k) => n == y && (k == .local || k == .cell)) = false) :
    swapsWith (.DictComp kx vx gs sc2 p) (some (.Name y py)) l env = pure true := by
  have kb : env.blockKind = .function := by
    unfold Env.blockKind
    rw [fn]; rfl
  have ky : env.kindOf y = some .local := loc
  unfold swapsWith
  simp only [kb, ky, off, Expr.pos, row]
  rfl
end
section
variable {P : Prog} {cn : Str → Option D} {cl : ClsOf} {n : Nat} {N : List Str}
/-- the items of a dict comprehension -/
def dcF (cf : CallF) (t : Tg) (k v : E) (vs : List Nat) (env : Ev) : D → Gs → Res (D × D) := fun d G => match setTg t d (wipeE env vs) with
  | some env1 => (ev cf k env1 G).bind fun x G => (ev cf v env1 G).bind fun y G => .ok (x, y) G
  | none => .no
theorem dcompL_cons {f : D → Gs → Res (D × D)} {d : D} {ds : List D} {acc r : D} {G Ge : Gs} (h : dcompL f (d :: ds) acc G = .ok r Ge) :
    ∃ kd vd G1 ks vs key, f d G = .ok (kd, vd) G1 ∧ acc = .dT ks vs ∧ tkeyOf kd = some key ∧ ks.length < LIM ∧ dcompL f ds (.dT (putP ks vs key vd).1 (putP ks vs key vd).2) G1 = .ok r Ge := by
  simp only [dcompL] at h
  cases e : f d G with
  | no => rw [e] at h; cases h
  | ex c G1 => rw [e] at h; cases h
  | ok a G1 =>
    obtain ⟨kd, vd⟩ := a
    rw [e] at h
    simp only at h
    cases acc <;> first
      | (cases h; done)
      | skip
    rename_i ks vs
    simp only at h
    cases e2 : tkeyOf kd with
    | none => rw [e2] at h; cases h
    | some key =>
      rw [e2] at h
      simp only at h
      split at h
      · rename_i hl; exact ⟨kd, vd, G1, ks, vs, key, rfl, rfl, e2, hl, h⟩
      · cases h
theorem dcompL_noex {f : D → Gs → Res (D × D)} : ∀ (l : List D) (acc : D) (G : Gs) (c : Str) (G1 : Gs), dcompL f l acc G ≠ .ex c G1
  | [], acc, G, c, G1, h => by cases h
  | d :: l, acc, G, c, G1, h => by
    simp only [dcompL] at h
    cases e : f d G with
    | no => rw [e] at h; cases h
    | ex c G1 => rw [e] at h; cases h
    | ok a G2 =>
      obtain ⟨kd, vd⟩ := a
      rw [e] at h
      simp only at h
      cases acc <;> first
        | (cases h; done)
        | skip
      simp only at h
      split at h
      · split at h
        · exact dcompL_noex l _ _ _ _ h
        · cases h
      · cases h
/-- what the evaluator says of a dict comprehension is what the rule asks -/
theorem dcomp_read {K : Fg} {W : WK} {k v : E} {it : Src} {t : Tg} {vs : List (Str × Nat)} (h5 : chkTvs t vs = true) {σ : Sg} {H : Hp} {Q : VK} (q : tE K cl W .frs (ev (callN P n) (.dcomp k v t it vs)) σ H Q) :
    tDT (tI K cl W true (evI (callN P n) it)) (gD K cl t) (tE K cl (fun _ _ _ => False) .gen (ev (callN P n) k)) (tE K cl (fun _ _ _ => False) .gen (ev (callN P n) v)) (vs.map (·.2)) σ H Q := by
  obtain ⟨ms, Z, G, env, w, s, p⟩ := q
  simp only [ev] at p
  refine ⟨ms, Z, G, env, w, s, ?_⟩
  cases e1 : evI (callN P n) it env G with
  | no => rw [e1] at p; exact p.elim
  | ex cc G1 => rw [e1] at p; exact fun ms1 Z1 H1 g1 w1 => p ms1 Z1 H1 g1 w1
  | ok items G1 =>
    rw [e1] at p
    intro J ms1 Z1 H1 g1 w1 wd D nD
    have p1 : PostR K cl W (MRep K .frs) σ ms1 Z1 H1 (dcompL (dcF (callN P n) t k v (vs.map (·.2)) env) items (.dT [] []) G1) Q := PostR.shift p (shift_m .frs) g1 w1
    have s1 := s.grow g1
    obtain ⟨hlen, Gd, Y, wk, keep, yl⟩ := wd
    cases e2 : dcompL (dcF (callN P n) t k v (vs.map (·.2)) env) items (.dT [] []) G1 with
    | no => rw [e2] at p1; exact p1.elim
    | ex cc G2 => exact absurd e2 (dcompL_noex _ _ _ _ _)
    | ok all Ge =>
      rw [e2] at p1
      let Pv : Nat → Hp → Prop := fun i H' => ∃ ms2 Z2 G2 ks xs vd, Grow ms1 Z1 H1 ms2 Z2 H' ∧ WOk K cl ms2 Z2 H' G2 ∧ Z2 D = none ∧ D ∉ ms2 ∧ ks.length = xs.length ∧ H' D = some (.dT (ks.zip xs)) ∧ Reps K ms2 Z2 vd xs ∧ i ≤ items.length ∧
        dcompL (dcF (callN P n) t k v (vs.map (·.2)) env) (items.drop i) (.dT ks vd) G2 = .ok all Ge
      refine ⟨fun i m H' => m = items.length - i ∧ Pv i H', ⟨items.length, by simp, ms1, Z1, G1, [], [], [], Grow.alloc w1 nD _, w1.alloc nD _, w1.zfresh nD, w1.fresh nD, rfl, upd_same, .nil, Nat.zero_le _, e2⟩, ?_⟩
      rintro i m H2 ⟨rfl, ms2, Z2, G2, ks, xs, vd, g2, w2, z2, m2, l2, h2, r2, li, c2⟩
      have src := keep H2 (fun a o h => w2.zs a o (g2.zz a o h)) fun _ a o h hm => g2.hh a o h hm
      by_cases hi : i < items.length
      · refine .inr ⟨wk.goes i H2 hi src, Pv (i + 1), fun H' p' => ⟨items.length - (i + 1), by omega, rfl, p'⟩, fun x H3 y => ?_⟩
        have hd : items[i]? = some items[i] := List.getElem?_eq_getElem hi
        have hdrop : items.drop i = items[i] :: items.drop (i + 1) := List.drop_eq_getElem_cons hi
        rw [hdrop] at c2
        generalize items[i] = d at hd c2
        obtain ⟨kd, vd1, G3, ks', vs', key, f1, ea, ek, hlim, c3⟩ := dcompL_cons c2
        cases ea
        obtain ⟨Z3, g3, w3, rd⟩ := yl i d hd ms2 Z2 H2 G2 g2.zz g2.mm w2 x H3 (wk.yields i H2 x H3 hi src y)
        have gA := g2.trans g3 w2 w3
        have own1 : SlotRep K ms2 Z2 H2 (some (.ref D)) (.own (.dT ks vd)) := ⟨D, rfl, z2, m2, xs, l2, h2, r2⟩
        have own3 := own1.grow g3
        have sw := (s1.grow gA).wipe (vs.map (·.2))
        refine ⟨ms2, Z3, G2, wipeE env (vs.map (·.2)), d, w3, sw, rd, ?_⟩
        unfold dcF at f1
        cases hs : setTg t d (wipeE env (vs.map (·.2))) with
        | none => rw [hs] at f1; cases f1
        | some env1 =>
          rw [hs] at f1
          simp only at f1
          show ∀ σ1, _ → _ → _ → _
          intro σ1 so k1 _
          refine ⟨by rw [k1 _ (chkTvs_ok h5), wipe_wipe fun i hi => hi], ms2, Z3, G2, env1, w3, so, ?_⟩
          cases hk : ev (callN P n) k env1 G2 with
          | no => rw [hk] at f1; cases f1
          | ex cc GG => rw [hk] at f1; cases f1
          | ok kd' G4 =>
            rw [hk] at f1
            simp only [Res.bind] at f1
            intro yk ms4 Z4 H4 g4 w4 rk
            refine ⟨ms4, Z4, G4, env1, w4, so.grow g4, ?_⟩
            cases hv : ev (callN P n) v env1 G4 with
            | no => rw [hv] at f1; cases f1
            | ex cc GG => rw [hv] at f1; cases f1
            | ok vd' G5 =>
              rw [hv] at f1
              simp only at f1
              cases f1
              intro yv ms5 Z5 H5 g5 w5 rv
              have rk5 := Rep.grow rk g5
              obtain ⟨b, rfl, hb⟩ := tkeyOf_v w5 ek rk5
              obtain ⟨D', eD, z5, m5, us5, l5, h5', r5⟩ := (own3.grow g4).grow g5
              cases eD
              obtain ⟨ys, l6, pe, rp⟩ := put_zip (k := key) l5 r5 rv
              have hz : (ks.zip us5).length < sizeLine := by
                rw [List.length_zip]
                have := LIM_line
                omega
              refine ⟨ks.zip us5, key, b, rfl, hb, h5', hz, ms5, Z5, G3, (putP ks vd key vd1).1, ys, (putP ks vd key vd1).2, Grow.app ((gA.trans g4 w3 w4).trans g5 w4 w5) nD, w5.upd z5 m5, z5, m5, l6, ?_, rp, hi, c3⟩
              rw [upd_same, pe]
      · have hi' : i = items.length := by omega
        subst hi'
        refine .inl ⟨wk.stops H2 src, ?_⟩
        rw [List.drop_length] at c2
        simp only [dcompL] at c2
        cases c2
        exact p1 _ ms2 Z2 H2 g2 w2 ⟨D, rfl, nD, z2, m2, xs, l2, h2, r2⟩
theorem dc_parts {k v : E} {it : Src} {t : Tg} {vs : List (Str × Nat)} {bw : Bool} {sc : Scope} {a : Expr} (h : chkE P cn N (.dcomp k v t it vs) bw sc a = true) : ∃ kx vx tg iter scope pos, a = .DictComp kx vx [⟨tg, iter, [], 0⟩] scope pos ∧ blkC N sc scope vs = true ∧ chkTg N (relS scope sc) (fun x => scope.names.lookup x == some .cell) t tg = true ∧
    chkI P cn N it true sc iter tg = true ∧ chkTvs t vs = true ∧ chkE P cn N k false (relS scope sc) kx = true ∧ chkE P cn N v false (relS scope sc) vx = true ∧ noSet iter = true := by
  simp only [chkE] at h
  split at h
  · simp only [Bool.and_eq_true, decide_eq_true_eq] at h
    obtain ⟨⟨⟨⟨⟨⟨⟨rfl, h2⟩, h3⟩, h4⟩, h5⟩, h6⟩, h7⟩, h8⟩ := h
    exact ⟨_, _, _, _, _, _, rfl, h2, h3, h4, h5, h6, h7, h8⟩
  · cases h
theorem se_dcomp {k v : E} {it : Src} (ihk : SE P cn cl n N k) (ihv : SE P cn cl n N v) (ihi : SI P cn cl n N it) (t : Tg) (vs : List (Str × Nat)) : SE P cn cl n N (.dcomp k v t it vs) := by
  intro bw sc a h fb W X g
  obtain ⟨kx, vx, tg, iter, scope, pos, rfl, h2, h3, h4, h5, h6, h7, h8⟩ := dc_parts h
  have ok : BlkOk X.N X.env.scope scope vs := by
    rw [g.hN, g.hs]; exact blkOk_by h2
  rw [md_frs rfl rfl]
  exact PE.weak (pe_dT (by have := g.hu; omega) g.calm (by rw [g.hN]; exact g.nd) (ihi true sc iter tg h4 fb W X g) ok (fun s H C cs fp => sTg (g.blk s H scope cs C fp) h3) (fun s H C cs fp => ihk.gen h6 (g.blk s H scope cs C fp)) (fun s H C cs fp => ihv.gen h7 (g.blk s H scope cs C fp)) (fold_no h8)) fun σ H Q => dcomp_read h5
end
end MP

namespace MP
open PySem PySem.Spec PyProof.Rows L2

section
variable {P : Prog} {cn : Str → Option D} {cl : ClsOf} {n : Nat} {N : List Str}
theorem st_not {x : E} (ih : ST P cn cl n N x) : ST P cn cl n N (.not x) := by
  intro bw sc a h fb W X g
  simp only [chkE] at h
  split at h
  · refine PT.weak (pt_not (ih true sc _ h fb W X g)) fun σ H Q ⟨ms, Z, G, env, w, s, p⟩ => ?_
    simp only [tv] at p
    refine tR.bind w s p shift_eq fun b ms1 Z1 H1 G1 a1 e g1 w1 s1 r1 p1 => ?_
    cases (show a1 = b from r1)
    exact p1 _ ms1 Z1 H1 (Grow.refl w1) w1 rfl
  · cases h
theorem pw_andL : ∀ {es : Es}, EsAll (ST P cn cl n N) es → ∀ (sc : Scope) (l : List Expr) (pos : Pos), chkEs P cn N es true sc l = true → ∀ (fb : Str → Bool) (W : WK) (X : Cx), GX P cn cl n N sc fb W X → es.length ≠ 0 →
    PW X (.BoolOp .And l pos) (tR X.K cl W EqR (tvAnd (callN P n) es))
  | .nil, _, _, _, _, _, _, _, _, _, hl => absurd rfl hl
  | .cons e .nil, ih, sc, l, pos, h, fb, W, X, g, _ => by
    obtain ⟨x, r, rfl, h1, h2, h3⟩ := chkEs_inv h
    cases chkEs_nil h3
    refine PW.weak (pw_and1 (ih.1 true sc x h1 fb W X g)) fun σ H Q q => ?_
    simp only [tvAnd] at q
    exact q
  | .cons e (.cons f es), ih, sc, l, pos, h, fb, W, X, g, _ => by
    obtain ⟨x, l, rfl, h1, h1', h2⟩ := chkEs_inv h
    obtain ⟨y, l', rfl, _⟩ := chkEs_inv h2
    have hr := pw_andL ih.2 sc (y :: l') pos h2 fb W X g (by simp [Es.length])
    refine PW.weak (pw_and (ih.1 true sc x h1 fb W X g) hr) fun σ H Q ⟨ms, Z, G, env, w, s, p⟩ => ?_
    rw [show tvAnd (callN P n) (.cons e (.cons f es)) env G = (tv (callN P n) e env G).bind fun b G => if b then tvAnd (callN P n) (.cons f es) env G else .ok false G from rfl] at p
    refine tR.bind w s p shift_eq fun b ms1 Z1 H1 G1 a1 e g1 w1 s1 r1 p1 => ?_
    have ab : a1 = b := r1
    subst ab
    cases a1 with
    | true => exact tR.same w1 s1 p1
    | false => exact p1 _ ms1 Z1 H1 (Grow.refl w1) w1 rfl
theorem pw_orL : ∀ {es : Es}, EsAll (ST P cn cl n N) es → ∀ (sc : Scope) (l : List Expr) (pos : Pos), chkEs P cn N es true sc l = true → ∀ (fb : Str → Bool) (W : WK) (X : Cx), GX P cn cl n N sc fb W X → es.length ≠ 0 →
    PW X (.BoolOp .Or l pos) (tR X.K cl W EqR (tvOr (callN P n) es))
  | .nil, _, _, _, _, _, _, _, _, _, hl => absurd rfl hl
  | .cons e .nil, ih, sc, l, pos, h, fb, W, X, g, _ => by
    obtain ⟨x, r, rfl, h1, h2, h3⟩ := chkEs_inv h
    cases chkEs_nil h3
    refine PW.weak (pw_or1 (ih.1 true sc x h1 fb W X g)) fun σ H Q q => ?_
    simp only [tvOr] at q
    exact q
  | .cons e (.cons f es), ih, sc, l, pos, h, fb, W, X, g, _ => by
    obtain ⟨x, l, rfl, h1, h1', h2⟩ := chkEs_inv h
    obtain ⟨y, l', rfl, _⟩ := chkEs_inv h2
    have hr := pw_orL ih.2 sc (y :: l') pos h2 fb W X g (by simp [Es.length])
    refine PW.weak (pw_or (ih.1 true sc x h1 fb W X g) hr) fun σ H Q ⟨ms, Z, G, env, w, s, p⟩ => ?_
    rw [show tvOr (callN P n) (.cons e (.cons f es)) env G = (tv (callN P n) e env G).bind fun b G => if b then .ok true G else tvOr (callN P n) (.cons f es) env G from rfl] at p
    refine tR.bind w s p shift_eq fun b ms1 Z1 H1 G1 a1 e g1 w1 s1 r1 p1 => ?_
    have ab : a1 = b := r1
    subst ab
    cases a1 with
    | false => exact tR.same w1 s1 p1
    | true => exact p1 _ ms1 Z1 H1 (Grow.refl w1) w1 rfl
theorem PW.pt {X : Cx} {e : Expr} {t : TT} (h : PW X e t) : PT X e t := ⟨fun pins s σ H Q I q => h.run _ pins s σ H Q I q⟩
theorem st_and {es : Es} (ih : EsAll (ST P cn cl n N) es) : ST P cn cl n N (.and es) := by
  intro bw sc a h fb W X g
  simp only [chkE] at h
  split at h
  · rename_i l pos
    cases es with
    | nil => exact ⟨fun pins s σ H Q I q => by obtain ⟨ms, Z, G, env, w, so, p⟩ := q; exact p.elim⟩
    | cons e es =>
      refine PT.weak (pw_andL ih sc l pos h fb W X g (by simp [Es.length])).pt fun σ H Q q => ?_
      obtain ⟨ms, Z, G, env, w, so, p⟩ := q
      simp only [tv] at p
      exact ⟨ms, Z, G, env, w, so, p⟩
  · cases h
theorem st_or {es : Es} (ih : EsAll (ST P cn cl n N) es) : ST P cn cl n N (.or es) := by
  intro bw sc a h fb W X g
  simp only [chkE] at h
  split at h
  · rename_i l pos
    cases es with
    | nil => exact ⟨fun pins s σ H Q I q => by obtain ⟨ms, Z, G, env, w, so, p⟩ := q; exact p.elim⟩
    | cons e es =>
      refine PT.weak (pw_orL ih sc l pos h fb W X g (by simp [Es.length])).pt fun σ H Q q => ?_
      obtain ⟨ms, Z, G, env, w, so, p⟩ := q
      simp only [tv] at p
      exact ⟨ms, Z, G, env, w, so, p⟩
  · cases h
/-- the value's reading, the test's -/
theorem bl_of {K : Fg} {W : WK} {ms : List Addr} {Z H : Hp} {G : Gs} {σ : Sg} {c : Bool} {Q : Bool → Hp → Prop} (p : PostR K cl W EqR σ ms Z H ((Res.ok (D.bl c) G).bindO truth) Q) (w : WOk K cl ms Z H G) : Q c H :=
  p c ms Z H (Grow.refl w) w rfl
theorem bindO_bind {α β γ : Type} (r : Res α) (k : α → Gs → Res β) (f : β → Option γ) : (r.bind k).bindO f = r.bind fun a G => (k a G).bindO f := by cases r <;> rfl
theorem st_cmp {x y : E} (ihx : SE P cn cl n N x) (ihy : SE P cn cl n N y) (o : COp) : ST P cn cl n N (.cmp o x y) := by
  intro bw sc a h fb W X g
  simp only [chkE] at h
  split at h
  · simp only [Bool.and_eq_true, Bool.not_eq_true'] at h
    refine PT.weak (pt_cmpR (op_cmp g.hu h.1.1.1) (ihx.bor h.1.1.2 g) (ihy.bor h.1.2 g) h.2) fun σ H Q ⟨ms, Z, G, env, w, s, p⟩ => ?_
    have p : PostR X.K cl W EqR σ ms Z H ((ev (callN P n) (.cmp o x y) env G).bindO truth) Q := p
    simp only [ev, bindO_bind] at p
    refine tR.bind w s p shift_eq fun u ms1 Z1 H1 G1 d1 e1 g1 w1 s1 r1 p1 => ?_
    refine tR.bind w1 s1 p1 shift_eq fun v ms2 Z2 H2 G2 d2 e2 g2 w2 s2 r2 p2 => ?_
    cases e : cmpD o d1 d2 with
    | none => rw [e] at p2; exact p2.elim
    | some c => rw [e] at p2; exact cmp_use e w2 (BRep.grow r1 g2) r2 ⟨c, rfl, bl_of p2 w2⟩
  · cases h
theorem st_chn {x y z : E} (ihx : SE P cn cl n N x) (ihy : SE P cn cl n N y) (ihz : SE P cn cl n N z) (o o' : COp) : ST P cn cl n N (.chn o o' x y z) := by
  intro bw sc a h fb W X g
  simp only [chkE] at h
  split at h
  · simp only [Bool.and_eq_true, Bool.not_eq_true'] at h
    obtain ⟨⟨⟨⟨⟨h1, h2⟩, h3⟩, h4⟩, h5⟩, h6⟩ := h
    refine PT.weak (pt_chain (op_cmp g.hu h1) (op_cmp g.hu h2) (ihx.gen h3 g) (ihy.gen h4 g) (ihz.gen h5 g) h6) fun σ H Q ⟨ms, Z, G, env, w, s, p⟩ => ?_
    have p : PostR X.K cl W EqR σ ms Z H ((ev (callN P n) (.chn o o' x y z) env G).bindO truth) Q := p
    simp only [ev, bindO_bind] at p
    refine tR.bind w s p shift_eq fun u ms1 Z1 H1 G1 d1 e1 g1 w1 s1 r1 p1 => ?_
    refine tR.bind w1 s1 p1 shift_eq fun v ms2 Z2 H2 G2 d2 e2 g2 w2 s2 r2 p2 => ?_
    have r1' := Rep.grow r1 g2
    cases e : cmpD o d1 d2 with
    | none => rw [e] at p2; exact p2.elim
    | some c =>
      rw [e] at p2
      refine cmp_use e w2 (.inl r1') (.inl r2) ⟨c, rfl, ?_⟩
      cases c with
      | false => exact ⟨false, rfl, bl_of p2 w2⟩
      | true =>
        simp only [if_true]
        simp only [bindO_bind] at p2
        refine tR.bind w2 s2 p2 shift_eq fun q ms3 Z3 H3 G3 d3 e3 g3 w3 s3 r3 p3 => ?_
        cases e' : cmpD o' d2 d3 with
        | none => rw [e'] at p3; exact p3.elim
        | some c => rw [e'] at p3; exact cmp_use e' w3 (.inl (Rep.grow r2 g3)) (.inl r3) ⟨c, rfl, bl_of p3 w3⟩
  · cases h
theorem pt_ifE {X : Cx} {c a b : Expr} {pos : Pos} {tc ta tb : TT} (hc : PT X c tc) (ha : PT X a ta) (hb : PT X b tb) : PT X (.IfExp c a b pos) (fun σ H Q => tc σ H fun d H1 => if d = true then ta σ H1 Q else tb σ H1 Q) := by
  refine ⟨fun pins s σ H Q I h => ?_⟩
  refine isTrue_IfExp (thn (hc.run pins s σ H _ I h) fun d s1 ⟨H1, I1, q1⟩ => ?_)
  cases d with
  | true => exact ha.run pins s1 σ H1 Q I1 q1
  | false => exact hb.run pins s1 σ H1 Q I1 q1
theorem st_val {K : Fg} {W : WK} {e : E} {σ : Sg} {ms : List Addr} {Z H : Hp} {G : Gs} {env : Ev} {Q : Bool → Hp → Prop} (w : WOk K cl ms Z H G) (s : SlotsOk K ms Z H σ env) (p : PostR K cl W EqR σ ms Z H ((ev (callN P n) e env G).bindO truth) Q) : tR K cl W EqR (tv (callN P n) e) σ H Q := by
  refine ⟨ms, Z, G, env, w, s, ?_⟩
  rcases tv_ev (callN P n) e env G with q | q
  · rw [q] at p; exact p.elim
  · rw [← q]; exact p
theorem st_ife {c x y : E} (ihc : ST P cn cl n N c) (ihx : ST P cn cl n N x) (ihy : ST P cn cl n N y) : ST P cn cl n N (.ife c x y) := by
  intro bw sc a h fb W X g
  simp only [chkE] at h
  split at h
  · simp only [Bool.and_eq_true] at h
    obtain ⟨⟨h1, h2⟩, h3⟩ := h
    refine PT.weak (pt_ifE (ihc true sc _ h1 fb W X g) (ihx false sc _ h2 fb W X g) (ihy false sc _ h3 fb W X g)) fun σ H Q ⟨ms, Z, G, env, w, s, p⟩ => ?_
    have p : PostR X.K cl W EqR σ ms Z H ((ev (callN P n) (.ife c x y) env G).bindO truth) Q := p
    simp only [ev, bindO_bind] at p
    refine test_bind w s p shift_eq fun b ms1 Z1 H1 G1 g1 w1 s1 p1 => ?_
    cases b with
    | true => exact st_val w1 s1 p1
    | false => exact st_val w1 s1 p1
  · cases h

/-! ### all expressions -/
def SAll (P : Prog) (cn : Str → Option D) (cl : ClsOf) (n : Nat) (N : List Str) (e : E) : Prop := SE P cn cl n N e ∧ ST P cn cl n N e
theorem se_off {e : E} (h : ∀ bw sc a, chkE P cn N e bw sc a = false) : SAll P cn cl n N e := by
  constructor
  · intro bw sc a q; rw [h] at q; cases q
  · intro bw sc a q; rw [h] at q; cases q
theorem st_bor {e : E} (ih : SE P cn cl n N e) (hp : ∀ bw sc a, chkE P cn N e bw sc a = true → plainT a = true) (ht : ∀ env G, tv (callN P n) e env G = (ev (callN P n) e env G).bindO truth) : SAll P cn cl n N e := ⟨ih, st_plain ih hp ht⟩
theorem EsAll.imp {p q : E → Prop} (h : ∀ e, p e → q e) : ∀ {es : Es}, EsAll p es → EsAll q es
  | .nil, _ => trivial
  | .cons e es, ih => ⟨h e ih.1, EsAll.imp h ih.2⟩
mutual
theorem all_E : ∀ e : E, SAll P cn cl n N e
  | .var i x => st_bor (se_var i x) (by intro bw sc a h; simp only [chkE] at h; split at h <;> first | rfl | cases h) (fun _ _ => rfl)
  | .own i x => st_bor (se_own i x) (by intro bw sc a h; simp only [chkE] at h; split at h <;> first | rfl | cases h) (fun _ _ => rfl)
  | .non => st_bor se_non (by intro bw sc a h; simp only [chkE] at h; split at h <;> first | rfl | cases h) (fun _ _ => rfl)
  | .bl b => st_bor (se_bl b) (by intro bw sc a h; simp only [chkE] at h; split at h <;> first | rfl | cases h) (fun _ _ => rfl)
  | .int b => st_bor (se_int b) (by intro bw sc a h; simp only [chkE] at h; split at h <;> first | rfl | cases h) (fun _ _ => rfl)
  | .str b => st_bor (se_str b) (by intro bw sc a h; simp only [chkE] at h; split at h <;> first | rfl | cases h) (fun _ _ => rfl)
  | .glb x d => st_bor (se_glb x d) (by intro bw sc a h; simp only [chkE] at h; split at h <;> first | rfl | cases h) (fun _ _ => rfl)
  | .tup k es => st_bor (se_tup (sa_of ((all_Es es).imp fun _ h => h.1)) k) (by intro bw sc a h; simp only [chkE] at h; split at h <;> first | rfl | cases h) (fun _ _ => rfl)
  | .lst es => st_bor (se_lst (sa_of ((all_Es es).imp fun _ h => h.1))) (by intro bw sc a h; simp only [chkE] at h; split at h <;> first | rfl | cases h) (fun _ _ => rfl)
  | .disp ks vs => st_bor (se_disp ks vs) (by intro bw sc a h; simp only [chkE] at h; split at h <;> first | rfl | cases h) (fun _ _ => rfl)
  | .dK0 => st_bor se_dK0 (by intro bw sc a h; simp only [chkE] at h; split at h <;> first | rfl | cases h) (fun _ _ => rfl)
  | .dT0 => st_bor se_dT0 (by intro bw sc a h; simp only [chkE] at h; split at h <;> first | rfl | cases h) (fun _ _ => rfl)
  | .bin o a b => st_bor (se_bin (all_E a).1 (all_E b).1 o) (by intro bw sc a h; simp only [chkE] at h; split at h <;> first | rfl | cases h) (fun _ _ => rfl)
  | .cat a b => st_bor (se_cat (all_E a).1 (all_E b).1) (by intro bw sc a h; simp only [chkE] at h; split at h <;> first | rfl | cases h) (fun _ _ => rfl)
  | .rep a b => st_bor (se_rep (all_E a).1 (all_E b).1) (by intro bw sc a h; simp only [chkE] at h; split at h <;> first | rfl | cases h) (fun _ _ => rfl)
  | .neg a => st_bor (se_neg (all_E a).1) (by intro bw sc a h; simp only [chkE] at h; split at h <;> first | rfl | cases h) (fun _ _ => rfl)
  | .not a => ⟨se_not (all_E a).1, st_not (all_E a).2⟩
  | .cmp o a b => ⟨se_cmp (all_E a).1 (all_E b).1 o, st_cmp (all_E a).1 (all_E b).1 o⟩
  | .chn o o' a b c => ⟨se_chn (all_E a).1 (all_E b).1 (all_E c).1 o o', st_chn (all_E a).1 (all_E b).1 (all_E c).1 o o'⟩
  | .and es => ⟨se_and ((all_Es es).imp fun _ h => h.1), st_and ((all_Es es).imp fun _ h => h.2)⟩
  | .or es => ⟨se_or ((all_Es es).imp fun _ h => h.1), st_or ((all_Es es).imp fun _ h => h.2)⟩
  | .ife c a b => ⟨se_ife (all_E c).2 (all_E a).1 (all_E b).1, st_ife (all_E c).2 (all_E a).2 (all_E b).2⟩
  | .idx a b => st_bor (se_idx (all_E a).1 (all_E b).1) (by intro bw sc a h; simp only [chkE] at h; split at h <;> first | rfl | cases h) (fun _ _ => rfl)
  | .slc a lo hi => st_bor (se_slc (all_E a).1 (fun e h => (all_Eo lo e h).1) (fun e h => (all_Eo hi e h).1)) (by intro bw sc a h; simp only [chkE] at h; split at h <;> first | rfl | cases h) (fun _ _ => rfl)
  | .rev a => st_bor (se_rev (all_E a).1) (by intro bw sc a h; simp only [chkE] at h; split at h <;> first | rfl | cases h) (fun _ _ => rfl)
  | .call fr f es => st_bor (se_call ((all_Es es).imp fun _ h => h.1) fr f) (by intro bw sc a h; simp only [chkE] at h; split at h <;> first | rfl | cases h) (fun _ _ => rfl)
  | .prim p es => st_bor (se_prim (sa_of ((all_Es es).imp fun _ h => h.1)) p) (by intro bw sc a h; simp only [chkE] at h; split at h <;> first | rfl | cases h) (fun _ _ => rfl)
  | .mth m a es => st_bor (se_mth (all_E a).1 ((all_Es es).imp fun _ h => h.1) m) (by intro bw sc a h; simp only [chkE] at h; split at h <;> first | rfl | cases h) (fun _ _ => rfl)
  | .isi a t => st_bor (se_isi (all_E a).1 t) (by intro bw sc a h; simp only [chkE] at h; split at h <;> first | rfl | cases h) (fun _ _ => rfl)
  | .srtset a => st_bor (se_srtset (all_E a).1) (by intro bw sc a h; simp only [chkE] at h; split at h <;> first | rfl | cases h) (fun _ _ => rfl)
  | .lrng es => st_bor (se_lrng ((all_Es es).imp fun _ h => h.1)) (by intro bw sc a h; simp only [chkE] at h; split at h <;> first | rfl | cases h) (fun _ _ => rfl)
  | .dzip a b => se_off fun _ _ _ => by simp only [chkE]
  | .comp e t it c vs => st_bor (se_comp (all_E e).1 (all_I it) (fun c' h => (all_Eo c c' h).2) t vs) (by intro bw sc a h; simp only [chkE] at h; split at h <;> first | rfl | cases h) (fun _ _ => rfl)
  | .dcomp k v t it vs => st_bor (se_dcomp (all_E k).1 (all_E v).1 (all_I it) t vs) (by intro bw sc a h; obtain ⟨_, _, _, _, _, _, rfl, _⟩ := dc_parts h; rfl) (fun _ _ => rfl)
  | .newc es => st_bor (se_newc (sa_of ((all_Es es).imp fun _ h => h.1))) (by intro bw sc a h; simp only [chkE] at h; split at h <;> first | rfl | cases h) (fun _ _ => rfl)
theorem all_Es : ∀ es : Es, EsAll (SAll P cn cl n N) es
  | .nil => trivial
  | .cons e es => ⟨all_E e, all_Es es⟩
theorem all_Eo : ∀ (o : Eo) (e : E), o = .so e → SAll P cn cl n N e
  | .no, _, h => by cases h
  | .so e, _, rfl => all_E e
theorem all_I : ∀ it : Src, SI P cn cl n N it
  | .seq e => si_seq (all_E e).1
  | .rng es => si_rng ((all_Es es).imp fun _ h => h.1)
  | .enum e => si_enum (all_E e).1
  | .zip a b => si_zip (all_E a).1 (all_E b).1
  | .items e => si_items (all_E e).1
end
end
end MP

namespace MP
open PySem PySem.Spec PyProof.Rows L2

/-! ### a try with clauses, named or not -/
abbrev ClTs := Addr → Value → Option Addr → TS
/-- the ends of a clause: its name goes -/
def offE (D : Ends) : Option Nat → Ends
  | none => D
  | some i => { nx := fun u h => D.nx (u.set i none) h, rt := D.rt, bk := fun u h => D.bk (u.set i none) h, ct := fun u h => D.ct (u.set i none) h }
def onS (σ : Sg) (a : Addr) : Option Nat → Sg
  | none => σ
  | some i => σ.set i (some (.ref a))
/-- what the clauses ask of an exception -/
def wCl (K : PySem.W.Frag) (Wo : WX) (D : Ends) : List (Value × Option Nat × ClTs) → WX
  | [] => Wo
  | (c, k, ts) :: more => fun cls d σ H => ∃ b, PySem.W.exmOne K cls c = some b ∧ (b = true → ∀ a, H a = none → ts a cls d (offE D k) (onS σ a k) H) ∧ (b = false → wCl K Wo D more cls d σ H)
def SuOk (X : Cx) (l : List Stmt) (ts : ClTs) : Prop := ∀ (a : Addr) (oe : Obj) (cls : Value) (d : Option Addr) (pn : List (Addr × Obj)), Zc cls d oe → (∃ vs, oe.data = .fields vs) → PSs (X.suite a ((a, oe) :: pn)) l (ts a cls d)
inductive ClOk (X : Cx) : List ExceptHandler → List (Value × Option Nat × ClTs) → Prop
  | nil : ClOk X [] []
  | bare {x : Str} {c : Value} {ts : ClTs} {b0 : Stmt} {l : List Stmt} {p q : Pos} {hds : List ExceptHandler} {cs : List (Value × Option Nat × ClTs)} (nm : Names X x c) (su : SuOk X (b0 :: l) ts) (r : ClOk X hds cs) :
      ClOk X (.ExceptHandler (some (.Name x p)) none (b0 :: l) q :: hds) ((c, none, ts) :: cs)
  | named {x y : Str} {i : Nat} {c : Value} {ts : ClTs} {b0 : Stmt} {l : List Stmt} {p q : Pos} {hds : List ExceptHandler} {cs : List (Value × Option Nat × ClTs)} (nm : Names X x c) (hi : X.N[i]? = some y) (hy : X.env.kindOf y = some .local) (su : SuOk X (b0 :: l) ts) (r : ClOk X hds cs) :
      ClOk X (.ExceptHandler (some (.Name x p)) (some y) (b0 :: l) q :: hds) ((c, some i, ts) :: cs)
section
variable {X : Cx} {body : List Stmt} {hd1 : ExceptHandler} {hds : List ExceptHandler} {cs : List (Value × Option Nat × ClTs)} {pos : Pos} {tb : WX → TS} {Wo : WX}
theorem ps_tryC (hs : X.stack = X.env :: X.outer) (hf : X.env.frame = some X.env.locals) (nd : X.N.Nodup) (tk : Takes X Wo)
    (hb : ∀ (W : WX) (pn : List (Addr × Obj)) (xe : Value → Shared → Prop), Takes (X.tr pn xe) W → PassesOwn (model X.prog X.w) X.A X.env xe → PSs (X.tr pn xe) body (tb W))
    (hc : ClOk X (hd1 :: hds) cs) : PS X (.Try body (hd1 :: hds) [] [] pos) (fun D σ H => tb (wCl X.K Wo D cs) D σ H) := by
  refine ⟨fun pins s σ H D I hyp => ?_⟩
  have k := I.ok
  have hfr : X.A.frames = some (X.env :: X.outer) := by rw [k.frames, hs]
  refine wpAny_Try_except ?_
  have inner := hb (wCl X.K Wo D cs) (X.pn ++ pins) (fun e t1 => wpAny (model X.prog X.w) X.A (noteFrame e X.env) (fun _ t2 => wpAny (model X.prog X.w) X.A (setFlight e none) (fun _ t3 =>
    wpAny (model X.prog X.w) X.A (handleBy e X.env (hd1 :: hds)) (SP X pins D) X.xe t3) X.xe t2) X.xe t1) (fun u t1 xx => ?_) PassesOwn.looking
  · refine wpAny_mono (inner.run [] s σ H D (I.toTry _) hyp) (fun fl t1 sp => ?_) (fun e t1 z => z)
    cases fl with
    | next =>
      obtain ⟨u, h, J, z⟩ := sp
      exact wpAny_execs_nil ⟨u, h, J.ofTry k, z⟩
    | brk =>
      obtain ⟨u, h, J, z⟩ := sp
      exact ⟨u, h, J.ofTry k, z⟩
    | cont =>
      obtain ⟨u, h, J, z⟩ := sp
      exact ⟨u, h, J.ofTry k, z⟩
    | ret v =>
      obtain ⟨w, u, h, J, r, z⟩ := sp
      exact ⟨w, u, h, J.ofTry k, r, z⟩
  · obtain ⟨a, B, sI, pins1, u, h, cls, d, rfl, J0, nb, up, sky, na, os, ag, w⟩ := xx
    have J : Inv X pins u h sI := J0.ofTry k
    have sky1 : Sky B (X.env :: X.outer) a (Zc cls d) X.env.locals t1.heap := by rw [← hs]; exact sky
    show wpAny (model X.prog X.w) X.A (noteFrame (.ref a) X.env) _ _ _
    refine Sky.land Zc.steady hfr hf sky1 fun h3 fl3 up3 => ?_
    have J3 : Inv X pins u h { t1 with heap := h3 } := J.landed nb fl3.1 (up.trans up3) os ag
    obtain ⟨o3, vs3, g3, z3, d3⟩ := fl3.there
    have nfr : a ∉ frs (X.env :: X.outer) := fun hm => by
      obtain ⟨_, o', e', hnf⟩ := fl3.2.2.1.mem hm
      rw [g3] at e'; cases e'
      exact hnf _ d3
    have nL : a ≠ X.env.locals := fun z => nfr (List.mem_filterMap.mpr ⟨X.env, List.mem_cons_self, by rw [hf, z]⟩)
    have nF : a ∉ X.fs := fun hm => by
      obtain ⟨e, he, q⟩ := List.mem_filterMap.mp hm
      exact nfr (List.mem_filterMap.mpr ⟨e, List.mem_cons_of_mem _ he, q⟩)
    have S3 := J3.suite g3 d3 na nL nF
    have typ : PySem.W.Looks (model X.prog X.w) h3 (typeOf (.ref a)) cls := fun A Q E s k q => wpAny_typeOf_ref (k _ _ g3) (by rw [z3.1]; exact q)
    -- the test of a clause
    have tst : ∀ {x : Str} {c : Value} {p : Pos} {Q : Value → Shared → Prop} {E : Value → Shared → Prop}, Names X x c → Q c { t1 with heap := h3 } →
        wpAny (model X.prog X.w) (X.A.mark (some (.ref a))) (eval (.Name x p) X.env) Q E { t1 with heap := h3 } := fun {x c p Q E} nm q => by
      rcases nm with ⟨n1, n2, n3 | ⟨n3, n4, n5⟩⟩
      · exact ld_glob (X := X.suite a ((a, o3) :: (X.pn ++ pins))) S3 n1 n3 q n2
      · exact ld_blt (X := X.suite a ((a, o3) :: (X.pn ++ pins))) S3 n1 n3 n4 q n5 n2
    have go : ∀ {l : List ExceptHandler} {cl : List (Value × Option Nat × ClTs)}, ClOk X l cl → wCl X.K Wo D cl cls d u h →
        wpAny (model X.prog X.w) X.A (handleBy (.ref a) X.env l) (SP X pins D) X.xe { t1 with heap := h3 } := by
      intro l cl hk
      induction hk with
      | nil =>
        intro w
        refine wpAny_handleBy_nil ?_
        obtain ⟨_, _, _, oe, vs, T, oT, ts', he, hz, hd, h1, _⟩ := id fl3
        unfold PySem.passOn
        refine wpAny_bind (wpAny_field he hd h1 ?_)
        rw [if_neg (by simp : ¬ ((Value.ref T == Value.none) = true))]
        have out : wpAny (model X.prog X.w) X.A (setFlight (.ref a) X.env.frame) (fun _ t4 => wpAny (model X.prog X.w) X.A (throw (.ref a) : Sem Flow) (SP X pins D) X.xe t4) X.xe { t1 with heap := h3 } := by
          rw [hf]
          exact HandSPX.setFlight_upZ fl3 fun h4 hh4 up4 => wpAny_throw (tk _ _ ⟨a, B, sI, pins, u, h, cls, d, rfl, J, nb, (up.trans up3).trans up4, .inr (.inr (by rw [hs]; exact hh4)), na, os, ag, w⟩)
        first
          | exact wpAny_bind (wpAny_pure (wpAny_bind out))
          | exact wpAny_bind out
      | @bare x c ts b0 l p q hds2 cs2 nm su r ih =>
        intro w
        obtain ⟨b, hb1, yes, no⟩ := w
        refine wpAny_handleBy_cons (codeAny_handlers_test ?_) (by intro q; cases q)
        refine tst nm ((PySem.W.exm_one (M := model X.prog X.w) (J3.kIn) typ hb1).here ?_)
        cases b with
        | false => exact ih (no rfl)
        | true =>
          refine codeAny_handlers_suite ?_
          refine HandSPX.lands_againZ fl3 fun h4 fl4 up4 => ?_
          obtain ⟨o4, vs4, g4, z4, d4⟩ := fl4.there
          have S4 := (J.landed nb fl4.1 ((up.trans up3).trans up4) os ag : Inv X pins u h { t1 with heap := h4 }).suite g4 d4 na nL nF
          refine wpAny_mono ((su a o4 cls d (X.pn ++ pins) z4 ⟨_, d4⟩).run [] _ _ h _ S4 (yes rfl a na)) (fun fl t6 sp => ?_) (fun _ _ z => False.elim z)
          cases fl with
          | ret v => obtain ⟨v6, u6, h6, S6, r6, q6⟩ := sp; exact ⟨v6, u6, h6, S6.unsuite k, r6, q6⟩
          | next => obtain ⟨u6, h6, S6, q6⟩ := sp; exact ⟨u6, h6, S6.unsuite k, q6⟩
          | brk => obtain ⟨u6, h6, S6, q6⟩ := sp; exact ⟨u6, h6, S6.unsuite k, q6⟩
          | cont => obtain ⟨u6, h6, S6, q6⟩ := sp; exact ⟨u6, h6, S6.unsuite k, q6⟩
      | @named x y i c ts b0 l p q hds2 cs2 nm hi hy su r ih =>
        intro w
        obtain ⟨b, hb1, yes, no⟩ := w
        refine wpAny_handleBy_cons (codeAny_handlers_test ?_) (by intro q; cases q)
        refine tst nm ((PySem.W.exm_one (M := model X.prog X.w) (J3.kIn) typ hb1).here ?_)
        cases b with
        | false => exact ih (no rfl)
        | true =>
          refine codeAny_handlers_suite_as ?_
          refine HandSPX.lands_againZ fl3 fun h4 fl4 up4 => ?_
          obtain ⟨o4, vs4, g4, z4, d4⟩ := fl4.there
          have S4 := (J.landed nb fl4.1 ((up.trans up3).trans up4) os ag : Inv X pins u h { t1 with heap := h4 }).suite g4 d4 na nL nF
          refine store_ok (X := X.suite a ((a, o4) :: (X.pn ++ pins))) (v := .ref a) S4 nd hi (.inl hy) rfl (fun s5 S5 => ?_) (.inr hy)
          refine wpAny_mono ((su a o4 cls d (X.pn ++ pins) z4 ⟨_, d4⟩).run [] s5 _ h _ S5 (yes rfl a na)) (fun fl t6 sp => ?_) (fun _ _ z => False.elim z)
          have off : ∀ {u6 : Sg} {h6 : Hp} {Q : Shared → Prop}, Inv (X.suite a ((a, o4) :: (X.pn ++ pins))) [] u6 h6 t6 → (∀ t7, Inv X pins (u6.set i none) h6 t7 → Q t7) →
              wpAny (model X.prog X.w) X.A (do bindName X.env y .none; unbindBehindTheSuite X.env y q) (fun _ t7 => Q t7) X.xe t6 := fun S6 hq => gone_ok (S6.unsuite k) nd hi hy hq
          cases fl with
          | ret v => obtain ⟨v6, u6, h6, S6, r6, q6⟩ := sp; exact off S6 fun t7 J7 => ⟨v6, _, h6, J7, r6, q6⟩
          | next => obtain ⟨u6, h6, S6, q6⟩ := sp; exact off S6 fun t7 J7 => ⟨_, h6, J7, q6⟩
          | brk => obtain ⟨u6, h6, S6, q6⟩ := sp; exact off S6 fun t7 J7 => ⟨_, h6, J7, q6⟩
          | cont => obtain ⟨u6, h6, S6, q6⟩ := sp; exact off S6 fun t7 J7 => ⟨_, h6, J7, q6⟩
    exact go hc w
end
end MP

namespace MP
open PySem PySem.Spec PyProof.Rows L2

/-! ### what the clauses of a try compute: the check -/
def locB (sc : Scope) (x : Str) : Bool := match sc.names.lookup x with
  | some .local => true
  | _ => false
theorem locB_ok {sc : Scope} {x : Str} (h : locB sc x = true) : sc.names.lookup x = some .local := by
  unfold locB at h
  split at h
  · assumption
  · cases h
section
variable (N : List Str) (sc : Scope) (ce : Option (Nat × Str))
def varB (i : Nat) (x y : Str) : Bool := decide (x = y) && decide (N[i]? = some x) && visB sc x && nmB x
def isxB (c : Str) : Expr → Bool
  | .Call (.Name f _) [.Name y _, .Name z _] [] _ => decide (("isinstance" : Str) = f) && glB sc f && decide (c = z) && (decide (z = ("AheadError" : Str)) || decide (z = ("ValueError" : Str))) && glB sc z &&
        (match ce with
        | some (i, w) => varB N sc i w y
        | none => false)
  | _ => false
def chkH : HE → Expr → Bool
  | .non => fun a => match a with
    | .Constant .none _ _ => true
    | _ => false
  | .bl b => fun a => match a with
    | .Constant (.bool c) _ _ => decide (b = c)
    | _ => false
  | .int i => fun a => match a with
    | .Constant (.int j) _ _ => decide (i = j)
    | _ => false
  | .str s => fun a => match a with
    | .Constant (.str t) _ _ => decide (s = t)
    | _ => false
  | .var i x => fun a => match a with
    | .Name y _ => varB N sc i x y
    | _ => false
  | .isx c => fun a => isxB N sc ce c a
  | .and u v => fun a => match a with
    | .BoolOp .And [x, y] _ => chkH u x && chkH v y
    | _ => false
  | .int1 u => fun a => match a with
    | .Call (.Name f _) [x] [] _ => decide (("int" : Str) = f) && glB sc f && chkH u x && noStar x
    | _ => false
  | .add u v => fun a => match a with
    | .BinOp x .Add y _ => chkH u x && chkH v y
    | _ => false
  | .ife c u v => fun a => match a with
    | .IfExp t x y _ => isxB N sc ce c t && chkH u x
    | _ => false
def strB (s : Str) : Expr → Bool
  | .Constant (.str t) _ _ => decide (s = t)
  | _ => false
def chkStrs : List Str → List Expr → Bool
  | [], [] => true
  | s :: ss, e :: l => strB s e && chkStrs ss l
  | _, _ => false
variable (ex : List Str) (fr : Bool) (fb : Str → Bool)
def isIfe : HE → Bool
  | .ife _ _ _ => true
  | _ => false
def chkHS (k : Cl) : Stmt → Bool :=
  match k.h with
  | .retN => fun a => match a with
    | .Return none _ => !fr
    | _ => false
  | .ret e => fun a => match a with
    | .Return (some v) _ => !fr && chkH N sc k.nm e v
    | _ => false
  | .asg j x e => fun a => match a with
    | .Assign [.Name y _] v _ => decide (x = y) && decide (N[j]? = some y) && stoB sc fb y && (chkH N sc k.nm e v && !isIfe e) && (match k.nm with
      | some (i, _) => !(i == j)
      | none => true)
    | _ => false
  | .pick ss e => fun a => match a with
    | .Return (some (.Subscript (.List es _) ix _)) _ => !fr && chkStrs ss es && chkH N sc k.nm e ix && noSlice ix && decide (ss.length ≤ 100)
    | _ => false
def nmC : Option (Nat × Str) → Option Str → Bool
  | none, none => true
  | some (i, z), some y => decide (z = y) && decide (N[i]? = some y) && locB sc y
  | _, _ => false
def chkCl : List Cl → List ExceptHandler → Bool
  | [], [] => true
  | k :: cs, .ExceptHandler (some (.Name x _)) y [s] _ :: hs => decide (k.c = x) && glB sc x && nmB x && ex.contains x && nmC N sc k.nm y && chkHS N sc fr fb k s && chkCl cs hs
  | _, _ => false
end
/-- .. over the machine's values -/
def hv : HE → Sg → Option V
  | .non, _ => some .non
  | .bl b, _ => some (.bl b)
  | .int i, _ => some (.int i)
  | .str s, _ => some (.str s)
  | .var i _, σ => (match σ[i]? with
    | some (some v) => some v
    | _ => none)
  | .isx _, _ => some (.bl true)
  | .and a b, σ => (match hv a σ with
    | some (.bl true) => hv b σ
    | some (.bl false) => some (.bl false)
    | _ => none)
  | .int1 a, σ => (match hv a σ with
    | some (.bl b) => some (.int (if b then 1 else 0))
    | some (.int i) => some (.int i)
    | _ => none)
  | .add a b, σ => (match hv a σ, hv b σ with
    | some (.int i), some (.int j) => some (.int (i + j))
    | _, _ => none)
  | .ife _ a _, σ => hv a σ
/-- what stands of a class whose instances are caught -/
structure XcOk (K : Fg) (mg : Str → Option Value) (C : Addr) : Prop where
  e : ExcC K C
  a : ∃ A, mg "AheadError" = some (.ref A) ∧ PySem.W.kitOne K (.ref C) (.ref A) = some true
  v : PySem.W.kitOne K (.ref C) (.type "ValueError") = some true
def held (a : Addr) (ce : Option (Nat × Str)) (σ : Sg) : Prop := ∀ i x, ce = some (i, x) → σ[i]? = some (some (.ref a))
def tH (a : Addr) (ce : Option (Nat × Str)) (h : HE) : TE := fun σ H Q => held a ce σ ∧ ∃ v, hv h σ = some v ∧ Q v H
section
variable {N : List Str} {sc : Scope} {ce : Option (Nat × Str)} {X : Cx} {a C : Addr} {oe : Obj} {pn : List (Addr × Obj)}
theorem pe_H (hN : X.N = N) (hsc : X.env.scope = sc) (hb : ∀ x ∈ builtinNames, X.mg x = none) (xc : XcOk X.K X.mg C) (hz : Zc (.ref C) none oe) (hf : ∃ vs, oe.data = .fields vs) :
    ∀ (h : HE) (e : Expr), chkH N sc ce h e = true → PE (X.suite a ((a, oe) :: pn)) e (tH a ce h) := by
  have gl : ∀ {x : Str}, glB sc x = true → Gl (X.suite a ((a, oe) :: pn)) x := fun {x} h => by
    show X.env.scope.names.lookup x = _
    rw [hsc]; exact glB_ok h
  have vr : ∀ {i : Nat} {x : Str} {p : Pos}, N[i]? = some x → visB sc x = true → nmB x = true → PE (X.suite a ((a, oe) :: pn)) (.Name x p) (tVar i) := fun {i x p} h1 h2 h3 =>
    pe_var (X := X.suite a ((a, oe) :: pn)) (by show X.N[i]? = _; rw [hN]; exact h1) (by show Vis X.env.scope x; rw [hsc]; exact visB_ok h2) (nmB_ok h3).1 (nmB_ok h3).2.1
  have isx : ∀ (cs : Str) (e : Expr), isxB N sc ce cs e = true → PE (X.suite a ((a, oe) :: pn)) e (fun σ H Q => held a ce σ ∧ Q (.bl true) H) := by
    intro cs e c
    unfold isxB at c
    split at c
    · rename_i f p1 y p2 z p3 p4
      simp only [Bool.and_eq_true, Bool.or_eq_true, decide_eq_true_eq] at c
      obtain ⟨⟨⟨⟨⟨rfl, c2⟩, rfl⟩, c4⟩, c5⟩, c6⟩ := c
      cases hce : ce with
      | none => rw [hce] at c6; cases c6
      | some iw =>
        obtain ⟨i, w⟩ := iw
        rw [hce] at c6
        simp only [varB, Bool.and_eq_true, decide_eq_true_eq] at c6
        obtain ⟨⟨⟨rfl, d2⟩, d3⟩, d4⟩ := c6
        have hzv : ∃ (cv : V) (u : Value), PE (X.suite a ((a, oe) :: pn)) (.Name cs p3) (tC cv) ∧ (∀ u', RelV cv u' → u' = u) ∧ PySem.W.kitOne X.K (.ref C) u = some true := by
          rcases c4 with rfl | rfl
          · obtain ⟨A, h1, h2⟩ := xc.a
            exact ⟨.ref A, .ref A, pe_glob (X := X.suite a ((a, oe) :: pn)) (gl c5) h1 rfl (by decide +kernel), fun u' r => r, h2⟩
          · exact ⟨.ty "ValueError", .type "ValueError", pe_bltn (X := X.suite a ((a, oe) :: pn)) (u := .type "ValueError") (gl c5) (hb _ (by decide +kernel)) (by decide +kernel) rfl (by decide +kernel) (by decide +kernel), fun u' r => r, xc.v⟩
        obtain ⟨cv, u, pz, ru, kt⟩ := hzv
        refine PE.weak (pe_callB (call_isE xc.e hz hf) (gl c2) (hb _ (by decide +kernel)) (by decide +kernel) (pa_cons (vr d2 d3 d4) (pa_cons pz pa_nil (by rfl)) (by rfl)) (by decide +kernel) (by decide +kernel) (by rfl) (by rfl)) fun σ H Q ⟨hh, p⟩ => ?_
        exact ⟨.ref a, hh i w rfl, cv, u, true, rfl, ru, kt, p⟩
    · cases c
  intro h
  induction h with
  | non =>
    intro e c
    simp only [chkH] at c
    split at c
    · exact PE.weak pe_non fun σ H Q ⟨_, v, q, p⟩ => by cases q; exact p
    · cases c
  | bl b =>
    intro e c
    simp only [chkH] at c
    split at c
    · have c := of_decide_eq_true c
      subst c
      exact PE.weak pe_bl fun σ H Q ⟨_, v, q, p⟩ => by cases q; exact p
    · cases c
  | int i =>
    intro e c
    simp only [chkH] at c
    split at c
    · have c := of_decide_eq_true c
      subst c
      exact PE.weak pe_int fun σ H Q ⟨_, v, q, p⟩ => by cases q; exact p
    · cases c
  | str s =>
    intro e c
    simp only [chkH] at c
    split at c
    · have c := of_decide_eq_true c
      subst c
      exact PE.weak pe_str fun σ H Q ⟨_, v, q, p⟩ => by cases q; exact p
    · cases c
  | var i x =>
    intro e c
    simp only [chkH] at c
    split at c
    · simp only [varB, Bool.and_eq_true, decide_eq_true_eq] at c
      obtain ⟨⟨⟨rfl, c2⟩, c3⟩, c4⟩ := c
      refine PE.weak (vr c2 c3 c4) fun σ H Q ⟨_, v, q, p⟩ => ?_
      simp only [hv] at q
      split at q
      · rename_i w hw
        cases q
        exact ⟨v, hw, p⟩
      · cases q
    · cases c
  | isx cs =>
    intro e c
    simp only [chkH] at c
    exact PE.weak (isx cs e c) fun σ H Q ⟨hh, v, q, p⟩ => ⟨hh, by simp only [hv] at q; cases q; exact p⟩
  | and u v ihu ihv =>
    intro e c
    simp only [chkH] at c
    split at c
    · rename_i x y p
      simp only [Bool.and_eq_true] at c
      refine PE.weak (pe_and (ihu x c.1) (pe_one (ihv y c.2))) fun σ H Q ⟨hh, w, q, p⟩ => ?_
      simp only [hv] at q
      split at q
      · rename_i e1
        exact ⟨hh, _, e1, true, rfl, hh, w, q, p⟩
      · rename_i e1
        cases q
        exact ⟨hh, _, e1, false, rfl, p⟩
      · cases q
    · cases c
  | int1 u ihu =>
    intro e c
    simp only [chkH] at c
    split at c
    · rename_i f p1 x p2
      simp only [Bool.and_eq_true, decide_eq_true_eq] at c
      obtain ⟨⟨⟨rfl, c2⟩, c3⟩, c4⟩ := c
      refine PE.weak (pe_callTy call_int1 (gl c2) (hb _ (by decide +kernel)) (by decide +kernel) (pa_cons (ihu x c3) pa_nil (star_cons c4)) (by decide +kernel) (by decide +kernel) (star_cons c4) (by rfl)) fun σ H Q ⟨hh, w, q, p⟩ => ?_
      simp only [hv] at q
      split at q
      · rename_i e1
        cases q
        exact ⟨hh, _, e1, .inr ⟨_, rfl, p⟩⟩
      · rename_i e1
        cases q
        exact ⟨hh, _, e1, .inl ⟨_, rfl, p⟩⟩
      · cases q
    · cases c
  | add u v ihu ihv =>
    intro e c
    simp only [chkH] at c
    split at c
    · rename_i x y p
      simp only [Bool.and_eq_true] at c
      refine PE.weak (pe_add (ihu x c.1) (ihv y c.2)) fun σ H Q ⟨hh, w, q, p⟩ => ?_
      simp only [hv] at q
      split at q
      · rename_i i j e1 e2
        cases q
        exact ⟨hh, _, e1, hh, _, e2, i, j, rfl, rfl, p⟩
      · cases q
    · cases c
  | ife cs u v ihu ihv =>
    intro e c
    simp only [chkH] at c
    split at c
    · rename_i t x y p
      simp only [Bool.and_eq_true] at c
      have tst : PT (X.suite a ((a, oe) :: pn)) t (tB fun σ H Q => held a ce σ ∧ Q (.bl true) H) := by
        have c1 := c.1
        have pe := isx cs t c1
        unfold isxB at c1
        split at c1
        · exact pt_val pe
        · cases c1
      have never : PE (X.suite a ((a, oe) :: pn)) y (fun _ _ _ => False) := ⟨fun _ _ _ _ _ _ h => h.elim⟩
      exact PE.weak (pe_ifExp tst (ihu x c.2) never) fun σ H Q ⟨hh, w, q, p⟩ => ⟨hh, true, rfl, hh, w, by simpa only [hv] using q, p⟩
    · cases c
theorem pa_strs {X : Cx} : ∀ (ss : List Str) (es : List Expr), chkStrs ss es = true → PA X es (fun σ H Q => Q (ss.map V.str) H)
  | [], [], _ => PA.weak pa_nil fun σ H Q p => p
  | s :: ss, e :: es, c => by
    simp only [chkStrs, Bool.and_eq_true] at c
    obtain ⟨c1, c2⟩ := c
    unfold strB at c1
    split at c1
    · have c1 := of_decide_eq_true c1
      subst c1
      exact PA.weak (pa_cons pe_str (pa_strs ss es c2) (by rfl)) fun σ H Q p => p
    · cases c1
  | [], _ :: _, c => by simp [chkStrs] at c
  | _ :: _, [], c => by simp [chkStrs] at c
theorem atI_mapV {α β : Type} (f : α → β) (xs : List α) (i : Int) : atI (xs.map f) i = (atI xs i).map f := by
  unfold atI
  rw [List.length_map]
  cases ixN xs.length i with
  | none => rfl
  | some k => simp
def tPick (a : Addr) (ce : Option (Nat × Str)) (ss : List Str) (h : HE) : TE := fun σ H Q => held a ce σ ∧ ∃ i s, hv h σ = some (.int i) ∧ atI ss i = some s ∧ ∀ p o, H p = none → Q (.str s) (L2.upd H p o)
theorem pe_pick {ss : List Str} {h : HE} {es : List Expr} {ix : Expr} {p1 p2 : Pos} (pi : PE (X.suite a ((a, oe) :: pn)) ix (tH a ce h)) (c : chkStrs ss es = true) (ns : noSlice ix = true) (hl : ss.length ≤ 100) : PE (X.suite a ((a, oe) :: pn)) (.Subscript (.List es p1) ix p2) (tPick a ce ss h) := by
  refine PE.weak (pe_ix ix_list (pe_lst (pa_strs ss es c)) pi (plainIx ns)) fun σ H Q ⟨hh, i, s, e1, e2, q⟩ => ?_
  have hs : sizeLine = 16777216 := sizeLine_eq
  refine ⟨by rw [List.length_map]; omega, fun p hp => ⟨hh, _, e1, p, ss.map V.str, i, .str s, rfl, rfl, .of upd_same, by rw [atI_mapV, e2]; rfl, q p _ hp⟩⟩
end
end MP

namespace MP
open PySem PySem.Spec PyProof.Rows L2

/-! ### the check of statements -/
def isLc : Expr → Bool
  | .ListComp _ _ _ _ => true
  | .SetComp _ _ _ _ => true
  | .DictComp _ _ _ _ _ => true
  | _ => false
/-- as swapsWith reads it for a name -/
def lcSwap (sc : Scope) (y : Str) (py : Pos) : Expr → Bool
  | .ListComp _ _ s p => (sc.names.lookup y == some .local) && (py.line == p.line) && !(s.names.any fun (n, k) => n == y && (k == .local || k == .cell))
  | .DictComp _ _ _ s p => (sc.names.lookup y == some .local) && (py.line == p.line) && !(s.names.any fun (n, k) => n == y && (k == .local || k == .cell))
  | _ => false
/-- a name, and what is stored there: no store that the machine swaps in another way -/
def swB (sc : Scope) (y : Str) (py : Pos) (v : Expr) : Bool := lcSwap sc y py v || !isLc v || !(sc.names.lookup y == some .local)
def isFrz : S → Bool
  | .frz _ => true
  | _ => false
def callOk (o : Expr) (apos cpos : Pos) : Bool := noCall0 o && (apos.endLine == cpos.line)
section
variable (P : Prog) (cn : Str → Option D) (N : List Str) (ex : List Str) (fr : Bool) (sc : Scope) (fb : Str → Bool)
def nmS (i : Nat) (x y : Str) : Bool := decide (x = y) && decide (N[i]? = some x) && stoB sc fb x
def nmV (i : Nat) (x y : Str) : Bool := decide (x = y) && decide (N[i]? = some x) && visB sc x && nmB x
mutual
def chkS : S → Stmt → Bool
  | .pass => fun a => match a with
    | .Pass _ => true
    | _ => false
  | .doc => fun a => match a with
    | .Expr (.Constant (.str _) _ _) _ => true
    | _ => false
  | .cont => fun a => match a with
    | .Continue _ => true
    | _ => false
  | .brk => fun a => match a with
    | .Break _ => true
    | _ => false
  | .retN => fun a => match a with
    | .Return none _ => !fr
    | _ => false
  | .asg t e => fun a => match a with
    | .Assign [.Name y p] v q => chkTg N sc fb t (.Name y p) && chkE P cn N e false sc v && swB sc y p v
    | .Assign [.Tuple es k p] v q => chkTg N sc fb t (.Tuple es k p) && chkE P cn N e false sc v && !isTup v && !isLc v
    | _ => false
  | .asgF i x e => fun a => match a with
    | .Assign [.Name y p] v q => nmS N sc fb i x y && chkE P cn N e false sc v && fresh e && swB sc y p v
    | _ => false
  | .frz _ => fun _ => false
  | .app i x e => fun a => match a with
    | .Expr (.Call (.Attribute (.Name y _) m apos) [v] [] cpos) _ => decide (("append" : Str) = m) && nmV N sc i x y && chkE P cn N e false sc v && noStar v && (apos.endLine == cpos.line)
    | _ => false
  | .ext i x e => fun a => match a with
    | .Expr (.Call (.Attribute (.Name y _) m apos) [v] [] cpos) _ => decide (("extend" : Str) = m) && nmV N sc i x y && chkE P cn N e true sc v && noStar v && (apos.endLine == cpos.line)
    | _ => false
  | .ins i x k e => fun a => match a with
    | .Expr (.Call (.Attribute (.Name y _) m apos) [u, v] [] cpos) _ => decide (("insert" : Str) = m) && nmV N sc i x y && chkE P cn N k false sc u && chkE P cn N e false sc v && noStar u && noStar v && (apos.endLine == cpos.line)
    | _ => false
  | .asgPop i x j z k => fun a => match a with
    | .Assign [.Name y _] (.Call (.Attribute (.Name u _) m apos) [v] [] cpos) _ => decide (("pop" : Str) = m) && nmS N sc fb i x y && nmV N sc j z u && chkE P cn N k false sc v && noStar v && (apos.endLine == cpos.line)
    | _ => false
  | .pop _ _ _ => fun _ => false
  | .appPop i x j z k => fun a => match a with
    | .Expr (.Call (.Attribute (.Name y _) m apos) [.Call (.Attribute (.Name u _) m2 apos2) [v] [] cpos2] [] cpos) _ => decide (("append" : Str) = m) && decide (("pop" : Str) = m2) && nmV N sc i x y && nmV N sc j z u && chkE P cn N k false sc v && noStar v &&
        (apos.endLine == cpos.line) && (apos2.endLine == cpos2.line)
    | _ => false
  | .seti i x k e => fun a => match a with
    | .Assign [.Subscript (.Name y _) ix _] v _ => nmV N sc i x y && chkE P cn N k false sc ix && chkE P cn N e false sc v && noSlice ix
    | _ => false
  | .setg o k e => fun a => match a with
    | .Assign [.Subscript w ix _] v _ => chkE P cn N o false sc w && chkE P cn N k false sc ix && chkE P cn N e false sc v && noSlice ix
    | _ => false
  | .aug i x e => fun a => match a with
    | .AugAssign (.Name y _) .Add v _ => nmS N sc fb i x y && chkE P cn N e false sc v
    | _ => false
  | .augi i x k e => fun a => match a with
    | .AugAssign (.Subscript (.Name y _) ix _) .Add v _ => nmV N sc i x y && chkE P cn N k false sc ix && chkE P cn N e false sc v && noSlice ix
    | _ => false
  | .ex e => fun a => match a with
    | .Expr v _ => chkE P cn N e true sc v && !isLc v
    | _ => false
  | .ret e => fun a => match a with
    | .Return (some v) _ => chkE P cn N e true sc v && (!fr || isOwn e || fresh e)
    | _ => false
  | .ite c b d => fun a => match a with
    | .If v l r _ => chkE P cn N c true sc v && chkSs b l && chkSs d r
    | _ => false
  | .for_ t it b _ => fun a => match a with
    | .For tg v l [] _ => chkTg N sc fb t tg && chkI P cn N it false sc v tg && chkSs b l && noSet v
    | _ => false
  | .whl c b _ => fun a => match a with
    | .While v l [] _ => chkE P cn N c true sc v && chkSs b l
    | _ => false
  | .rais c _ => fun a => match a with
    | .Raise (some (.Call (.Name y _) [.Constant (.str _) _ _] [] _)) none _ => decide (c = y) && glB sc c && nmB c && ex.contains c
    | _ => false
  | .try_ b cs => fun a => match a with
    | .Try l (h :: hs) [] [] _ => chkSs b l && chkCl N sc ex fr fb cs (h :: hs)
    | _ => false
def chkSs : Ss → List Stmt → Bool
  | .nil => fun l => l.isEmpty
  | .cons s ss => fun l => if isFrz s then chkSs ss l else match l with
    | x :: l => chkS s x && chkSs ss l
    | _ => false
end
end

/-! ### a frame -/
structure Fr where
  ms0 : List Addr
  Z0 : Hp
  H0 : Hp
  fr : Bool
  mf : List Addr
  zf : Hp
structure FR (K : Fg) (cl : ClsOf) (F : Fr) (ms : List Addr) (Z H : Hp) (G : Gs) (σ : Sg) (env : Ev) : Prop where
  w : WOk K cl ms Z H G
  s : SlotsOk K ms Z H σ env
  g : Grow F.ms0 F.Z0 F.H0 ms Z H
  fz : ∀ a o, F.zf a = some o → Z a = some o
  fm : F.mf <+: ms
  ow : ∀ (i : Nat) d a, env[i]? = some (.own d) → σ[i]? = some (some (.ref a)) → F.H0 a = none
def OutR (K : Fg) (cl : ClsOf) (W : WK) (F : Fr) (o : Out) (D : Ends) : Prop :=
  match o with
  | .nx env G => ∀ σ ms Z H, FR K cl F ms Z H G σ env → D.nx σ H
  | .bk env G => ∀ σ ms Z H, FR K cl F ms Z H G σ env → D.bk σ H
  | .ct env G => ∀ σ ms Z H, FR K cl F ms Z H G σ env → D.ct σ H
  | .rt d G => ∀ v ms Z H, Grow F.ms0 F.Z0 F.H0 ms Z H → WOk K cl ms Z H G → MRep K (if F.fr then .frs else .gen) ms Z H F.H0 d v → D.rt v H
  | .ex c env G => ∀ σ ms Z H, FR K cl F ms Z H G σ env → W c σ H
  | .no => False
def tS (K : Fg) (cl : ClsOf) (W : WK) (F : Fr) (f : Ev → Gs → Out) : TS := fun D σ H => ∃ ms Z G env, FR K cl F ms Z H G σ env ∧ OutR K cl W F (f env G) D

section
variable {K : Fg} {cl : ClsOf} {W : WK} {F : Fr} {ms ms1 : List Addr} {Z Z1 H H1 : Hp} {G G1 : Gs} {σ : Sg} {env : Ev} {D : Ends} {α β : Type} {rel : RelT α β}
theorem FR.grow (f : FR K cl F ms Z H G σ env) (g : Grow ms Z H ms1 Z1 H1) (w : WOk K cl ms1 Z1 H1 G1) : FR K cl F ms1 Z1 H1 G1 σ env :=
  ⟨w, f.s.grow g, f.g.trans g f.w w, fun a o h => g.zz a o (f.fz a o h), f.fm.trans g.mm, f.ow⟩
/-- an expression within a statement -/
theorem FR.use {f : Ev → Gs → Res α} {k : α → Gs → Out} {Q1 : β → Hp → Prop} (fr : FR K cl F ms Z H G σ env) (p : OutR K cl W F ((f env G).st env k) D)
    (h : ∀ b ms1 Z1 H1 G1 a, f env G = .ok a G1 → Grow ms Z H ms1 Z1 H1 → FR K cl F ms1 Z1 H1 G1 σ env → rel ms1 Z1 H1 H a b → OutR K cl W F (k a G1) D → Q1 b H1) : tR K cl W rel f σ H Q1 := by
  refine ⟨ms, Z, G, env, fr.w, fr.s, ?_⟩
  cases e : f env G with
  | ok a G1 =>
    rw [e] at p
    exact fun b ms1 Z1 H1 g w r => h b ms1 Z1 H1 G1 a e g (fr.grow g w) r p
  | ex c G1 => rw [e] at p; exact fun ms1 Z1 H1 g w => p σ ms1 Z1 H1 (fr.grow g w)
  | no => rw [e] at p; exact p.elim
theorem OutR.nxO {o : Option Ev} (p : OutR K cl W F (MP.nxO o G) D) : ∃ env1, o = some env1 ∧ OutR K cl W F (.nx env1 G) D := by
  cases o with
  | none => exact p.elim
  | some e => exact ⟨e, rfl, p⟩
/-- a list or dict of one's own is changed in its place -/
theorem FR.put (f : FR K cl F ms Z H G σ env) {i : Nat} {d d' : MP.D} {a : Addr} {o : HO} (e : env[i]? = some (.own d)) (es : σ[i]? = some (some (.ref a))) (ho : OwnAt K ms Z (L2.upd H a o) a d') : FR K cl F ms Z (L2.upd H a o) G σ (env.set i (.own d')) := by
  obtain ⟨b, e1, z, m, o1⟩ := f.s.own e
  rw [es] at e1; cases e1
  have n0 := f.ow i d a e es
  refine ⟨f.w.upd z m, ⟨?_, ?_, ?_⟩, f.g.app n0, f.fz, f.fm, ?_⟩
  · rw [List.length_set]; exact f.s.len
  · intro j u t h1 h2
    rw [List.getElem?_set] at h2
    by_cases q : i = j
    · subst q
      rw [if_pos rfl] at h2
      split at h2
      · cases h2
        rw [es] at h1; cases h1
        exact ⟨a, rfl, z, m, ho⟩
      · cases h2
    · rw [if_neg q] at h2
      have := f.s.at_ j u t h1 h2
      cases t with
      | un => trivial
      | val d => exact this
      | own d2 =>
        obtain ⟨b, rfl, z2, m2, o2⟩ := this
        have ne : b ≠ a := fun q2 => q (f.s.sep i j a d d2 e h2 es (by rw [h1, q2]))
        refine ⟨b, rfl, z2, m2, ?_⟩
        cases d2 <;> simp only [OwnAt] at o2 ⊢ <;> rw [upd_ne ne] <;> exact o2
  · intro j k b d2 d3 h1 h2 h3 h4
    have own_of : ∀ (j : Nat) (d2 : MP.D), (env.set i (.own d'))[j]? = some (.own d2) → ∃ d3, env[j]? = some (.own d3) := fun j d2 h => by
      rw [List.getElem?_set] at h
      by_cases q : i = j
      · subst q; exact ⟨d, e⟩
      · rw [if_neg q] at h; exact ⟨d2, h⟩
    obtain ⟨d4, h5⟩ := own_of j d2 h1
    obtain ⟨d5, h6⟩ := own_of k d3 h2
    exact f.s.sep j k b d4 d5 h5 h6 h3 h4
  · intro j d2 b h1 h2
    rw [List.getElem?_set] at h1
    by_cases q : i = j
    · subst q
      rw [es] at h2; cases h2
      exact n0
    · rw [if_neg q] at h1; exact f.ow j d2 b h1 h2
theorem FR.wipe (f : FR K cl F ms Z H G σ env) (vs : List Nat) : FR K cl F ms Z H G σ (wipeE env vs) := by
  have sub : ∀ (i : Nat) t, (wipeE env vs)[i]? = some t → t = .un ∨ env[i]? = some t := fun i t h => by
    rw [wipeE_get] at h
    split at h
    · cases e : env[i]? with
      | none => rw [e] at h; cases h
      | some u => rw [e] at h; cases h; exact .inl rfl
    · exact .inr h
  refine ⟨f.w, ⟨by rw [wipeE_len]; exact f.s.len, fun i o t h1 h2 => ?_, fun i j a d e h1 h2 h3 h4 => ?_⟩, f.g, f.fz, f.fm, fun i d a h1 h2 => ?_⟩
  · rcases sub i t h2 with rfl | h
    · trivial
    · exact f.s.at_ i o t h1 h
  · rcases sub i _ h1 with h | h
    · cases h
    · rcases sub j _ h2 with h' | h'
      · cases h'
      · exact f.s.sep i j a d e h h' h3 h4
  · rcases sub i _ h1 with h | h
    · cases h
    · exact f.ow i d a h h2
/-- a slot gets a value -/
theorem FR.set (f : FR K cl F ms Z H G σ env) {i : Nat} {d : MP.D} {v : V} (r : Rep K ms Z d v) : FR K cl F ms Z H G (σ.set i (some v)) (env.set i (.val d)) :=
  ⟨f.w, f.s.set r, f.g, f.fz, f.fm, fun j e a h1 h2 => by
    rw [List.getElem?_set] at h1 h2
    by_cases q : i = j
    · subst q
      rw [if_pos rfl] at h1
      split at h1 <;> cases h1
    · rw [if_neg q] at h1 h2
      exact f.ow j e a h1 h2⟩
/-- a slot is emptied -/
theorem FR.off (f : FR K cl F ms Z H G σ env) (i : Nat) : FR K cl F ms Z H G (σ.set i none) (env.set i .un) := by
  have sub : ∀ (j : Nat) t, (env.set i .un)[j]? = some t → t = .un ∨ (i ≠ j ∧ env[j]? = some t) := fun j t h => by
    rw [List.getElem?_set] at h
    by_cases q : i = j
    · rw [if_pos q] at h
      split at h
      · cases h; exact .inl rfl
      · cases h
    · rw [if_neg q] at h; exact .inr ⟨q, h⟩
  have sg : ∀ (j : Nat), i ≠ j → (σ.set i none)[j]? = σ[j]? := fun j q => by rw [List.getElem?_set, if_neg q]
  refine ⟨f.w, ⟨by rw [List.length_set, List.length_set]; exact f.s.len, fun j o t h1 h2 => ?_, fun j k a d e h1 h2 h3 h4 => ?_⟩, f.g, f.fz, f.fm, fun j d a h1 h2 => ?_⟩
  · rcases sub j t h2 with rfl | ⟨q, h⟩
    · trivial
    · rw [sg j q] at h1
      exact f.s.at_ j o t h1 h
  · rcases sub j _ h1 with h | ⟨q, h⟩
    · cases h
    · rcases sub k _ h2 with h' | ⟨q', h'⟩
      · cases h'
      · rw [sg j q] at h3
        rw [sg k q'] at h4
        exact f.s.sep j k a d e h h' h3 h4
  · rcases sub j _ h1 with h | ⟨q, h⟩
    · cases h
    · rw [sg j q] at h2
      exact f.ow j d a h h2
/-- .. a new list or dict -/
theorem FR.setOwn {Hb : Hp} (f : FR K cl F ms Z H G σ env) {i : Nat} {d : MP.D} {a : Addr} (nb : Hb a = none) (hb : ∀ (j : Nat) e b, env[j]? = some (.own e) → σ[j]? = some (some (.ref b)) → Hb b ≠ none) (h0 : F.H0 a = none) (z : Z a = none) (m : a ∉ ms) (o : OwnAt K ms Z H a d) :
    FR K cl F ms Z H G (σ.set i (some (.ref a))) (env.set i (.own d)) := by
  have hi : i < env.length ∨ env.length ≤ i := by omega
  refine ⟨f.w, ⟨by rw [List.length_set, List.length_set]; exact f.s.len, fun j u t h1 h2 => ?_, fun j k b d2 d3 h1 h2 h3 h4 => ?_⟩, f.g, f.fz, f.fm, fun j e b h1 h2 => ?_⟩
  · rw [List.getElem?_set] at h1 h2
    by_cases q : i = j
    · subst q
      rw [if_pos rfl] at h1 h2
      split at h1
      · split at h2
        · cases h1; cases h2; exact ⟨a, rfl, z, m, o⟩
        · cases h2
      · cases h1
    · rw [if_neg q] at h1 h2
      exact f.s.at_ j u t h1 h2
  · rw [List.getElem?_set] at h1 h2 h3 h4
    by_cases q : i = j
    · subst q
      by_cases q2 : i = k
      · exact q2
      · rw [if_pos rfl] at h1 h3
        rw [if_neg q2] at h2 h4
        split at h3
        · cases h3
          exact absurd nb (hb k d3 _ h2 h4)
        · cases h3
    · by_cases q2 : i = k
      · subst q2
        rw [if_pos rfl] at h2 h4
        rw [if_neg q] at h1 h3
        split at h4
        · cases h4
          exact absurd nb (hb j d2 _ h1 h3)
        · cases h4
      · rw [if_neg q] at h1 h3
        rw [if_neg q2] at h2 h4
        exact f.s.sep j k b d2 d3 h1 h2 h3 h4
  · rw [List.getElem?_set] at h1 h2
    by_cases q : i = j
    · subst q
      rw [if_pos rfl] at h2
      split at h2
      · cases h2; exact h0
      · cases h2
    · rw [if_neg q] at h1 h2
      exact f.ow j e b h1 h2
/-- an own list or dict is frozen -/
theorem FR.freeze (f : FR K cl F ms Z H G σ env) {i : Nat} {d : MP.D} (e : env[i]? = some (.own d)) : ∃ Z1, FR K cl F ms Z1 H G σ (env.set i (.val d)) := by
  obtain ⟨a, e1, z, m, o⟩ := f.s.own e
  obtain ⟨u, hu, hc, rp⟩ := BRep.col o
  have n0 := f.ow i d a e e1
  have wz := f.w.freeze hu z m
  have zz := upd_get (o := u) z
  have r : Rep K ms (L2.upd Z a u) d (.ref a) := rp _ zz upd_same
  refine ⟨L2.upd Z a u, wz, ⟨?_, ?_, ?_⟩, f.g.freeze f.w n0 z, fun b w h => zz b w (f.fz b w h), f.fm, ?_⟩
  · rw [List.length_set]; exact f.s.len
  · intro j w t h1 h2
    rw [List.getElem?_set] at h2
    by_cases q : i = j
    · subst q
      rw [if_pos rfl] at h2
      split at h2
      · cases h2
        rw [e1] at h1; cases h1
        exact ⟨.ref a, rfl, r⟩
      · cases h2
    · rw [if_neg q] at h2
      have := f.s.at_ j w t h1 h2
      cases t with
      | un => trivial
      | val d => obtain ⟨v, e2, r2⟩ := this; exact ⟨v, e2, r2.mono zz (List.prefix_refl _)⟩
      | own d2 =>
        obtain ⟨b, rfl, z2, m2, o2⟩ := this
        have ne : b ≠ a := fun q2 => q (f.s.sep i j a d d2 e h2 e1 (by rw [h1, q2]))
        refine ⟨b, rfl, by rw [upd_ne ne]; exact z2, m2, ?_⟩
        cases d2 <;> simp only [OwnAt] at o2 ⊢
        · obtain ⟨xs, e, r⟩ := o2; exact ⟨xs, e, r.mono zz (List.prefix_refl _)⟩
        · obtain ⟨xs, l, e, r⟩ := o2; exact ⟨xs, l, e, r.mono zz (List.prefix_refl _)⟩
        · obtain ⟨xs, l, e, r⟩ := o2; exact ⟨xs, l, e, r.mono zz (List.prefix_refl _)⟩
  · intro j k b d2 d3 h1 h2 h3 h4
    have own_of : ∀ (j : Nat) (d2 : MP.D), (env.set i (.val d))[j]? = some (.own d2) → env[j]? = some (.own d2) := fun j d2 h => by
      rw [List.getElem?_set] at h
      by_cases q : i = j
      · subst q; rw [if_pos rfl] at h; split at h <;> cases h
      · rw [if_neg q] at h; exact h
    exact f.s.sep j k b d2 d3 (own_of j d2 h1) (own_of k d3 h2) h3 h4
  · intro j d2 b h1 h2
    rw [List.getElem?_set] at h1
    by_cases q : i = j
    · subst q; rw [if_pos rfl] at h1; split at h1 <;> cases h1
    · rw [if_neg q] at h1; exact f.ow j d2 b h1 h2
end
end MP

namespace MP
open PySem PySem.Spec PyProof.Rows L2

structure GS (P : Prog) (cn : Str → Option D) (cl : ClsOf) (n : Nat) (N : List Str) (ex : List Str) (sc : Scope) (fb : Str → Bool) (W : WK) (X : Cx) : Prop where
  gx : GX P cn cl n N sc fb W X
  po : PassesOwn (model X.prog X.w) X.A X.env X.xe
  kd : X.env.scope.kind = .function
  stk : X.stack = X.env :: X.outer
  frm : X.env.frame = some X.env.locals
  xi : ∀ c, c ∈ ex → ∀ C, cl c = some C → XcOk X.K X.mg C
  xm : ∀ c d, c ∈ ex → d ∈ ex → ∀ C D, cl c = some C → cl d = some D → PySem.W.exmOne X.K (.ref C) (.ref D) = some (decide (c = d))
  xc : ∀ c, c ∈ ex → ∃ (C : Addr) (B newId initId : String) (bmB : List Value), ExcBaseFacts B newId initId bmB ∧ PySem.W.excIn X.K C bmB newId = true ∧ X.mg c = some (.ref C) ∧ PySem.W.keepIn X.K (.ref C) = true ∧ Raises X (.ref C) ∧ cl c = some C
def SSt (P : Prog) (cn : Str → Option D) (cl : ClsOf) (n : Nat) (N : List Str) (ex : List Str) (s : S) : Prop :=
  ∀ (fr : Bool) (sc : Scope) (fb : Str → Bool) (a : Stmt), chkS P cn N ex fr sc fb s a = true → ∀ (W : WK) (X : Cx), GS P cn cl n N ex sc fb W X → ∀ F : Fr, F.fr = fr → PS X a (tS X.K cl W F (exec (callN P n) s))
def SSs (P : Prog) (cn : Str → Option D) (cl : ClsOf) (n : Nat) (N : List Str) (ex : List Str) (ss : Ss) : Prop :=
  ∀ (fr : Bool) (sc : Scope) (fb : Str → Bool) (l : List Stmt), chkSs P cn N ex fr sc fb ss l = true → ∀ (W : WK) (X : Cx), GS P cn cl n N ex sc fb W X → ∀ F : Fr, F.fr = fr → PSs X l (tS X.K cl W F (execs (callN P n) ss))
section
variable {P : Prog} {cn : Str → Option D} {cl : ClsOf} {n : Nat} {N : List Str} {ex : List Str}

/-! ### small statements -/
theorem ss_pass : SSt P cn cl n N ex .pass := by
  intro fr sc fb a h W X g F hF
  simp only [chkS] at h
  split at h
  · exact PS.weak ps_pass fun D σ H ⟨ms, Z, G, env, f, p⟩ => p σ ms Z H f
  · cases h
theorem ss_doc : SSt P cn cl n N ex .doc := by
  intro fr sc fb a h W X g F hF
  simp only [chkS] at h
  split at h
  · exact PS.weak ps_doc fun D σ H ⟨ms, Z, G, env, f, p⟩ => p σ ms Z H f
  · cases h
theorem ss_cont : SSt P cn cl n N ex .cont := by
  intro fr sc fb a h W X g F hF
  simp only [chkS] at h
  split at h
  · exact PS.weak ps_continue fun D σ H ⟨ms, Z, G, env, f, p⟩ => p σ ms Z H f
  · cases h
theorem ss_brk : SSt P cn cl n N ex .brk := by
  intro fr sc fb a h W X g F hF
  simp only [chkS] at h
  split at h
  · exact PS.weak ps_break fun D σ H ⟨ms, Z, G, env, f, p⟩ => p σ ms Z H f
  · cases h
theorem ss_retN : SSt P cn cl n N ex .retN := by
  intro fr sc fb a h W X g F hF
  simp only [chkS] at h
  split at h
  · refine PS.weak ps_retN fun D σ H ⟨ms, Z, G, env, f, p⟩ => p .non ms Z H f.g f.w ?_
    have : F.fr = false := by rw [hF]; simpa using h
    rw [this]
    show Rep _ _ _ _ _
    simp only [Rep]
  · cases h
theorem noLc_swap {e : Expr} (h : isLc e = false) (t : Option Expr) (l : Nat) (env : Env) : swapsWith e t l env = pure false := by
  cases e <;> first
    | rfl
    | cases h
theorem sw_nloc {v : Expr} {y : Str} {p : Pos} {l : Nat} {env : Env} (h : env.scope.names.lookup y ≠ some .local) : swapsWith v (some (.Name y p)) l env = pure false := by
  have ky : (env.kindOf y == some .local) = false := by
    rw [beq_eq_false_iff_ne]; exact h
  cases v <;> first
    | rfl
    | (unfold swapsWith; simp only [ky, Bool.and_false, Bool.false_and]; try rfl)
theorem isLc_chk {e : E} {bw : Bool} {sc : Scope} {v : Expr} (h : chkE P cn N e bw sc v = true) (hl : isLc v = true) : (∃ e' t it c vs, e = .comp e' t it c vs) ∨ ∃ k w t it vs, e = .dcomp k w t it vs := by
  cases e <;> first
    | exact .inl ⟨_, _, _, _, _, rfl⟩
    | exact .inr ⟨_, _, _, _, _, rfl⟩
    | skip
  all_goals (cases v <;> first | (cases hl; done) | (simp [chkE] at h; done))
theorem asg_dc {i : Nat} {y : Str} {p q : Pos} {k w' : E} {t : Tg} {it : Src} {vs : List (Str × Nat)} {v : Expr} {sc : Scope} {fb : Str → Bool} {W : WK} {X : Cx} (g : GS P cn cl n N ex sc fb W X) (hn : N[i]? = some y) (h1 : chkE P cn N (.dcomp k w' t it vs) false sc v = true) (h2 : lcSwap sc y p v = true) :
    PS X (.Assign [.Name y p] v q) (tAsg (tE X.K cl W (md (.dcomp k w' t it vs)) (ev (callN P n) (.dcomp k w' t it vs))) (gName i)) := by
  have gx := g.gx
  obtain ⟨kx, vx, tg, iter, scope, pos, rfl, k2, k3, k4, k5, k6, k7, k8⟩ := dc_parts h1
  simp only [lcSwap, Bool.and_eq_true, Bool.not_eq_true', beq_iff_eq] at h2
  obtain ⟨⟨m1, m2⟩, m3⟩ := h2
  have hy : X.env.scope.names.lookup y = some .local := by rw [gx.hs]; exact m1
  have ok : BlkOk X.N X.env.scope scope vs := by
    rw [gx.hN, gx.hs]; exact blkOk_by k2
  refine PS.weak (ps_setDT (i := i) (g := gD X.K cl t) (tk := tE X.K cl (fun _ _ _ => False) .gen (ev (callN P n) k)) (tv := tE X.K cl (fun _ _ _ => False) .gen (ev (callN P n) w')) (by have := gx.hu; omega) gx.calm (by rw [gx.hN]; exact gx.nd) (by rw [gx.hN]; exact hn) hy (sw_dict g.kd hy (by simpa using m2) m3) (all_I it true sc iter tg k4 fb W X gx) ok (fun s H C cs fp => sTg (gx.blk s H scope cs C fp) k3)
    (fun s H C cs fp => (all_E k).1.gen k6 (gx.blk s H scope cs C fp)) (fun s H C cs fp => (all_E w').1.gen k7 (gx.blk s H scope cs C fp)) (fold_no k8)) fun D σ H qq => ?_
  rw [md_frs rfl rfl] at qq
  exact dcomp_read k5 qq
/-- name = value, as the value comes -/
theorem asg_name {i : Nat} {y : Str} {p q : Pos} {e : E} {v : Expr} {fr : Bool} {sc : Scope} {fb : Str → Bool} {W : WK} {X : Cx} (g : GS P cn cl n N ex sc fb W X) (hn : N[i]? = some y) (hs : stoB sc fb y = true) (h1 : chkE P cn N e false sc v = true) (h2 : swB sc y p v = true) :
    PS X (.Assign [.Name y p] v q) (tAsg (tE X.K cl W (md e) (ev (callN P n) e)) (gName i)) := by
  have gx := g.gx
  obtain ⟨o1, o2⟩ := stoB_ok gx hs
  by_cases hloc : sc.names.lookup y = some .local
  rotate_left
  · exact ps_set (by rw [gx.hN]; exact gx.nd) (by rw [gx.hN]; exact hn) o1 ((all_E e).1 false sc v h1 fb W X gx) (sw_nloc (by rw [gx.hs]; exact hloc)) o2
  replace h2 : (lcSwap sc y p v || !isLc v) = true := by
    unfold swB at h2
    rw [hloc] at h2
    simpa using h2
  cases hl : isLc v with
  | false =>
    exact ps_set (by rw [gx.hN]; exact gx.nd) (by rw [gx.hN]; exact hn) o1 ((all_E e).1 false sc v h1 fb W X gx) (noLc_swap hl _ _ _) o2
  | true =>
    rw [hl] at h2
    simp only [Bool.not_true, Bool.or_false] at h2
    rcases isLc_chk h1 hl with ⟨e', t, it, c, vs, rfl⟩ | ⟨k, w', t, it, vs, rfl⟩
    rotate_left
    · exact asg_dc g hn h1 h2
    simp only [chkE] at h1
    split at h1
    · rename_i elt tg iter ifs isA scope pos
      simp only [Bool.and_eq_true, decide_eq_true_eq] at h1
      obtain ⟨⟨⟨⟨⟨⟨⟨rfl, k2⟩, k3⟩, k4⟩, k5⟩, k6⟩, k7⟩, k8⟩ := h1
      simp only [lcSwap, Bool.and_eq_true, Bool.not_eq_true', beq_iff_eq] at h2
      obtain ⟨⟨m1, m2⟩, m3⟩ := h2
      have ok : BlkOk X.N X.env.scope scope vs := by
        rw [gx.hN, gx.hs]; exact blkOk_by k2
      have hy : X.env.scope.names.lookup y = some .local := by rw [gx.hs]; exact m1
      have hpt : ∀ (s : Shared) (H : Hp) (C : Addr) (cs : List (Str × Addr)) (fp : List Addr), PTs (X.blk s H scope (compEnvC scope cs C X.env) fp) ifs (ttC X.K cl P n c) := fun s H C cs fp => by
        have gb := gx.blk s H scope cs C fp
        cases c with
        | no =>
          simp only [chkIf, List.isEmpty_iff] at k7
          subst k7
          exact pts_nil
        | so c' =>
          simp only [chkIf] at k7
          split at k7
          · exact pts_one ((all_E c').2 true _ _ k7 _ _ _ gb)
          · cases k7
      have hpe : ∀ (s : Shared) (H : Hp) (C : Addr) (cs : List (Str × Addr)) (fp : List Addr), PE (X.blk s H scope (compEnvC scope cs C X.env) fp) elt (tE X.K cl (fun _ _ _ => False) .gen (ev (callN P n) e')) := fun s H C cs fp => (all_E e').1.gen k6 (gx.blk s H scope cs C fp)
      have hpg : ∀ (s : Shared) (H : Hp) (C : Addr) (cs : List (Str × Addr)) (fp : List Addr), PG (X.blk s H scope (compEnvC scope cs C X.env) fp) tg (gD X.K cl t) := fun s H C cs fp => sTg (gx.blk s H scope cs C fp) k3
      refine PS.weak (ps_setLc (i := i) gx.calm (by rw [gx.hN]; exact gx.nd) (by rw [gx.hN]; exact hn) hy (sw_true g.kd hy (by simpa using m2) m3) (all_I it true sc iter tg k4 fb W X gx) ok hpg hpt hpe (fold_no k8)) fun D σ H qq => ?_
      rw [md_frs rfl rfl] at qq
      exact comp_read k5 qq
    · cases h1
theorem asg_nameG {i : Nat} {y : Str} {p q : Pos} {e : E} {v : Expr} {fr : Bool} {sc : Scope} {fb : Str → Bool} {W : WK} {X : Cx} (g : GS P cn cl n N ex sc fb W X) (hn : N[i]? = some y) (hs : stoB sc fb y = true) (h1 : chkE P cn N e false sc v = true) (h2 : swB sc y p v = true) :
    PS X (.Assign [.Name y p] v q) (tAsg (tE X.K cl W .gen (ev (callN P n) e)) (gName i)) := by
  refine PS.weak (asg_name (fr := fr) g hn hs h1 h2) fun D σ H ⟨ms, Z, G, env, w, s, pp⟩ => ?_
  have ho := own_bw h1
  by_cases hf : fresh e = true
  · rw [md_frs ho hf]; exact ⟨ms, Z, G, env, w, s, gen_of_frs pp⟩
  · rw [md_gen ho (by simpa using hf)]; exact ⟨ms, Z, G, env, w, s, pp⟩
theorem setTp_get : ∀ {l : List (Nat × Str)} {ds : List D} {env env1 : Ev}, setTp l ds env = some env1 → (∀ i, i ∉ l.map (·.1) → env1[i]? = env[i]?) ∧ (∀ i ∈ l.map (·.1), ∀ d, env1[i]? ≠ some (.own d))
  | [], [], env, env1, h => by simp only [setTp] at h; cases h; exact ⟨fun _ _ => rfl, fun i hi => by simp at hi⟩
  | [], d :: ds, _, _, h => by simp [setTp] at h
  | p :: l, [], _, _, h => by simp [setTp] at h
  | (i, x) :: l, d :: ds, env, env1, h => by
    simp only [setTp] at h
    obtain ⟨k1, k2⟩ := setTp_get h
    refine ⟨fun j hj => ?_, fun j hj d' => ?_⟩
    · simp only [List.map_cons, List.mem_cons, not_or] at hj
      rw [k1 j hj.2, List.getElem?_set_ne (Ne.symm hj.1)]
    · by_cases q : j ∈ l.map (·.1)
      · exact k2 j q d'
      · rw [k1 j q]
        simp only [List.map_cons, List.mem_cons] at hj
        rcases hj with rfl | hj
        · rw [List.getElem?_set]
          simp only [if_true]
          split <;> simp
        · exact absurd hj q
theorem setTg_get {t : Tg} {d : D} {env env1 : Ev} (h : setTg t d env = some env1) : (∀ i, i ∉ tgIx t → env1[i]? = env[i]?) ∧ (∀ i ∈ tgIx t, ∀ d, env1[i]? ≠ some (.own d)) := by
  cases t with
  | nm i x =>
    simp only [setTg] at h
    cases h
    refine ⟨fun j hj => ?_, fun j hj d' => ?_⟩
    · simp only [tgIx, List.mem_singleton] at hj
      rw [List.getElem?_set_ne (Ne.symm hj)]
    · simp only [tgIx, List.mem_singleton] at hj
      subst hj
      rw [List.getElem?_set]
      simp only [if_true]
      split <;> simp
  | tp l =>
    cases d <;> simp only [setTg] at h <;> first
      | (cases h; done)
      | exact setTp_get h
/-- a target is stored -/
theorem FR.tgt {K : Fg} {F : Fr} {ms : List Addr} {Z H : Hp} {G : Gs} {σ σ1 : Sg} {env env1 : Ev} {t : Tg} {d : D} (f : FR K cl F ms Z H G σ env) (h : setTg t d env = some env1) (s1 : SlotsOk K ms Z H σ1 env1) (k : ∀ i, i ∉ tgIx t → σ1[i]? = σ[i]?) : FR K cl F ms Z H G σ1 env1 := by
  obtain ⟨k1, k2⟩ := setTg_get h
  refine ⟨f.w, s1, f.g, f.fz, f.fm, fun i d a h1 h2 => ?_⟩
  by_cases q : i ∈ tgIx t
  · exact absurd h1 (k2 i q d)
  · rw [k1 i q] at h1
    rw [k i q] at h2
    exact f.ow i d a h1 h2
theorem ss_asg (t : Tg) (e : E) : SSt P cn cl n N ex (.asg t e) := by
  intro fr sc fb a h W X g F hF
  simp only [chkS] at h
  have gx := g.gx
  split at h
  · rename_i y p v q
    simp only [Bool.and_eq_true] at h
    obtain ⟨⟨h1, h2⟩, h3⟩ := h
    cases t with
    | tp l => simp [chkTg] at h1
    | nm i x =>
      simp only [chkTg, Bool.and_eq_true, decide_eq_true_eq] at h1
      obtain ⟨⟨rfl, h4⟩, h5⟩ := h1
      refine PS.weak (asg_nameG (fr := fr) g h4 h5 h2 h3) fun D σ H ⟨ms, Z, G, env, f, pp⟩ => ?_
      simp only [exec] at pp
      refine FR.use f pp fun b ms1 Z1 H1 G1 d e1 g1 f1 r1 p1 => ?_
      obtain ⟨env1, e2, p2⟩ := OutR.nxO p1
      simp only [setTg] at e2
      cases e2
      exact p2 _ ms1 Z1 H1 (f1.set r1)
  · rename_i es k p v q
    simp only [Bool.and_eq_true, Bool.not_eq_true'] at h
    obtain ⟨⟨⟨h1, h2⟩, h3⟩, h4⟩ := h
    have pe := (all_E (cl := cl) (n := n) e).1.gen h2 gx
    have hsw : swapsWithSole [.Tuple es k p] v q.line X.env = pure false := (show swapsWith v (some (.Tuple es k p)) q.line X.env = pure false from noLc_swap h4 _ _ _)
    have hst : swappedStores [.Tuple es k p] v X.env = pure none := by
      cases v <;> first
        | rfl
        | cases h3
    refine PS.weak (ps_asg pe (sTg gx h1) hsw hst (by rfl)) fun D σ H ⟨ms, Z, G, env, f, pp⟩ => ?_
    simp only [exec] at pp
    refine FR.use f pp fun b ms1 Z1 H1 G1 d e1 g1 f1 r1 p1 => ?_
    obtain ⟨env1, e2, p2⟩ := OutR.nxO p1
    refine ⟨ms1, Z1, G1, env, d, f1.w, f1.s, r1, ?_⟩
    rw [e2]
    exact fun σ1 s1 k1 k2 => p2 σ1 ms1 Z1 H1 (f1.tgt e2 s1 k2)
  · cases h
theorem own_there {K : Fg} {F : Fr} {ms : List Addr} {Z H : Hp} {G : Gs} {σ : Sg} {env : Ev} (f : FR K cl F ms Z H G σ env) : ∀ (j : Nat) e b, env[j]? = some (.own e) → σ[j]? = some (some (.ref b)) → H b ≠ none := fun j e b h1 h2 hn => by
  obtain ⟨a, e1, z, m, o⟩ := f.s.own h1
  rw [h2] at e1; cases e1
  exact OwnAt.notup (d := e) o (.inl hn)
theorem fresh_ent {K : Fg} {F : Fr} {ms : List Addr} {Z H : Hp} {G : Gs} {σ : Sg} {env : Ev} (f : FR K cl F ms Z H G σ env) {a : Addr} (h : H a = none) : F.H0 a = none := by
  cases e : F.H0 a with
  | none => rfl
  | some o =>
    obtain ⟨o', e'⟩ := f.g.hk a o e
    rw [h] at e'; cases e'
theorem ss_asgF (i : Nat) (x : Str) (e : E) : SSt P cn cl n N ex (.asgF i x e) := by
  intro fr sc fb a h W X g F hF
  simp only [chkS] at h
  split at h
  · rename_i y p v q
    simp only [nmS, Bool.and_eq_true, decide_eq_true_eq] at h
    obtain ⟨⟨⟨⟨⟨rfl, h4⟩, h5⟩, h2⟩, hf⟩, h3⟩ := h
    refine PS.weak (asg_name (fr := fr) g h4 h5 h2 h3) fun D σ H ⟨ms, Z, G, env, f, pp⟩ => ?_
    simp only [exec] at pp
    rw [md_frs (own_bw h2) hf]
    refine FR.use f pp fun b ms1 Z1 H1 G1 d e1 g1 f1 r1 p1 => ?_
    obtain ⟨a, rfl, nn, z, m, o⟩ := r1
    exact p1 _ ms1 Z1 H1 (f1.setOwn nn (own_there f) (fresh_ent f nn) z m o)
  · cases h
theorem ss_ex (e : E) : SSt P cn cl n N ex (.ex e) := by
  intro fr sc fb a h W X g F hF
  simp only [chkS] at h
  split at h
  · rename_i v q
    simp only [Bool.and_eq_true, Bool.not_eq_true'] at h
    refine PS.weak (ps_expr ((all_E (cl := cl) (n := n) e).1.bor h.1 g.gx) (noLc_swap h.2 _ _ _)) fun D σ H ⟨ms, Z, G, env, f, pp⟩ => ?_
    simp only [exec] at pp
    refine FR.use f pp fun b ms1 Z1 H1 G1 d e1 g1 f1 r1 p1 => ?_
    exact p1 _ ms1 Z1 H1 f1
  · cases h
theorem ss_retOwn (i : Nat) (x : Str) : SSt P cn cl n N ex (.ret (.own i x)) := by
  intro fr sc fb a h W X g F hF
  subst hF
  simp only [chkS] at h
  split at h
  · simp only [Bool.and_eq_true] at h
    have h1 := h.1
    simp only [chkE] at h1
    split at h1
    · simp only [Bool.and_eq_true, decide_eq_true_eq] at h1
      obtain ⟨⟨⟨⟨h0, rfl⟩, h2⟩, h3⟩, h4⟩ := h1
      obtain ⟨n1, n2, _⟩ := nmB_ok h4
      refine PS.weak (ps_ret (pe_var (i := i) (by rw [g.gx.hN]; exact h2) (g.gx.vis h3) n1 n2)) fun D σ H ⟨ms, Z, G, env, f, pp⟩ => ?_
      simp only [exec, ev] at pp
      cases e : env[i]? with
      | none => rw [e] at pp; exact pp.elim
      | some t =>
        rw [e] at pp
        cases t with
        | un => exact pp.elim
        | val d => exact pp.elim
        | own d =>
          obtain ⟨a, e1, z, m, o⟩ := f.s.own e
          refine ⟨.ref a, e1, ?_⟩
          have n0 := f.ow i d a e e1
          cases hb : F.fr with
          | true =>
            refine pp _ ms Z H f.g f.w ?_
            rw [hb]
            exact ⟨a, rfl, n0, z, m, o⟩
          | false =>
            obtain ⟨u, hu, hc, rp⟩ := BRep.col o
            refine pp _ ms (L2.upd Z a u) H (f.g.freeze f.w n0 z) (f.w.freeze hu z m) ?_
            rw [hb]
            exact rp _ (upd_get z) upd_same
    · cases h1
  · cases h
theorem ss_ret (e : E) : SSt P cn cl n N ex (.ret e) := by
  by_cases ho : isOwn e = true
  · cases e <;> first
      | exact ss_retOwn _ _
      | cases ho
  intro fr sc fb a h W X g F hF
  subst hF
  simp only [chkS] at h
  split at h
  · rename_i v q
    simp only [Bool.and_eq_true, Bool.or_eq_true, Bool.not_eq_true'] at h
    obtain ⟨h1, h2⟩ := h
    have pe := (all_E (cl := cl) (n := n) e).1 true sc v h1 fb W X g.gx
    refine PS.weak (ps_ret pe) fun D σ H ⟨ms, Z, G, env, f, pp⟩ => ?_
    simp only [exec] at pp
    refine FR.use f pp fun b ms1 Z1 H1 G1 d e1 g1 f1 r1 p1 => ?_
    have ho : isOwn e = false := by simpa using ho
    by_cases hf : fresh e = true
    · rw [md_frs ho hf] at r1
      obtain ⟨a, rfl, nn, z, m, o⟩ := r1
      cases hb : F.fr with
      | true =>
        refine p1 _ ms1 Z1 H1 f1.g f1.w ?_
        rw [hb]
        exact ⟨a, rfl, fresh_ent f nn, z, m, o⟩
      | false =>
        obtain ⟨u, hu, hc, rp⟩ := BRep.col o
        refine p1 _ ms1 (L2.upd Z1 a u) H1 (f1.g.freeze f1.w (fresh_ent f nn) z) (f1.w.freeze hu z m) ?_
        rw [hb]
        exact rp _ (upd_get z) upd_same
    · rw [md_gen ho (by simpa using hf)] at r1
      refine p1 _ ms1 Z1 H1 f1.g f1.w ?_
      have : F.fr = false := by
        rcases h2 with (h2 | h2) | h2
        · exact h2
        · rw [ho] at h2; cases h2
        · exact absurd h2 hf
      rw [this]
      exact r1
  · cases h

/-! ### blocks, if, loops -/
theorem seq_nx {K : Fg} {W : WK} {F : Fr} {o : Out} {f : Ev → Gs → Out} {D : Ends} {nx : Sg → Hp → Prop} (p : OutR K cl W F (o.seq f) D) (h : ∀ env G, o = .nx env G → ∀ σ ms Z H, FR K cl F ms Z H G σ env → OutR K cl W F (f env G) D → nx σ H) : OutR K cl W F o { D with nx := nx } := by
  cases o with
  | nx env G => exact fun σ ms Z H fr => h env G rfl σ ms Z H fr p
  | bk env G => exact p
  | ct env G => exact p
  | rt d G => exact p
  | ex c env G => exact p
  | no => exact p
theorem sss_cons {s : S} {ss : Ss} (hs : isFrz s = true ∨ SSt P cn cl n N ex s) (hss : SSs P cn cl n N ex ss) : SSs P cn cl n N ex (.cons s ss) := by
  intro fr sc fb l h W X g F hF
  simp only [chkSs] at h
  by_cases q : isFrz s = true
  · rw [if_pos q] at h
    cases s <;> first
      | (cases q; done)
      | skip
    rename_i i
    refine PSs.weak (hss fr sc fb l h W X g F hF) fun D σ H ⟨ms, Z, G, env, f, pp⟩ => ?_
    simp only [execs, exec] at pp
    cases e : env[i]? with
    | none => rw [e] at pp; exact pp.elim
    | some t =>
      rw [e] at pp
      cases t with
      | un => exact pp.elim
      | val d => exact pp.elim
      | own d =>
        obtain ⟨Z1, f1⟩ := f.freeze e
        exact ⟨ms, Z1, G, _, f1, pp⟩
  · rw [if_neg q] at h
    split at h
    · rename_i x l
      simp only [Bool.and_eq_true] at h
      have h1 := (hs.resolve_left q) fr sc fb x h.1 W X g F hF
      have h2 := hss fr sc fb l h.2 W X g F hF
      refine PSs.weak (pss_cons h1 h2) fun D σ H ⟨ms, Z, G, env, f, pp⟩ => ?_
      simp only [execs] at pp
      exact ⟨ms, Z, G, env, f, seq_nx pp fun env1 G1 _ σ1 ms1 Z1 H1 f1 p1 => ⟨ms1, Z1, G1, env1, f1, p1⟩⟩
    · cases h
theorem sss_nil : SSs P cn cl n N ex .nil := by
  intro fr sc fb l h W X g F hF
  simp only [chkSs, List.isEmpty_iff] at h
  subst h
  exact PSs.weak pss_nil fun D σ H ⟨ms, Z, G, env, f, pp⟩ => pp σ ms Z H f
theorem ss_ite {c : E} {a b : Ss} (ha : SSs P cn cl n N ex a) (hb : SSs P cn cl n N ex b) : SSt P cn cl n N ex (.ite c a b) := by
  intro fr sc fb s h W X g F hF
  simp only [chkS] at h
  split at h
  · simp only [Bool.and_eq_true] at h
    obtain ⟨⟨h1, h2⟩, h3⟩ := h
    refine PS.weak (ps_if ((all_E (cl := cl) (n := n) c).2 true sc _ h1 fb W X g.gx) (ha fr sc fb _ h2 W X g F hF) (hb fr sc fb _ h3 W X g F hF)) fun D σ H ⟨ms, Z, G, env, f, pp⟩ => ?_
    simp only [exec] at pp
    refine FR.use f pp fun b ms1 Z1 H1 G1 d e1 g1 f1 r1 p1 => ?_
    have r1 : d = b := r1
    subst r1
    cases d with
    | true => exact ⟨ms1, Z1, G1, env, f1, p1⟩
    | false => exact ⟨ms1, Z1, G1, env, f1, p1⟩
  · cases h
theorem OutR.no_ne {K : Fg} {W : WK} {F : Fr} {o : Out} {D : Ends} (p : OutR K cl W F o D) : o ≠ .no := fun e => by subst e; exact p
theorem ss_whl {c : E} {b : Ss} (hb : SSs P cn cl n N ex b) (ws : List Nat) : SSt P cn cl n N ex (.whl c b ws) := by
  intro fr sc fb s h W X g F hF
  simp only [chkS] at h
  split at h
  · simp only [Bool.and_eq_true] at h
    obtain ⟨h1, h2⟩ := h
    refine PS.weak (ps_while g.po ((all_E (cl := cl) (n := n) c).2 true sc _ h1 fb W X g.gx) (hb fr sc fb _ h2 W X g F hF)) fun D σ H ⟨ms, Z, G, env, f, pp⟩ => ?_
    simp only [exec] at pp
    refine ⟨fun m σ H => ∃ ms Z G env, FR X.K cl F ms Z H G σ env ∧ OutR X.K cl W F (whlL (tv (callN P n) c) (execs (callN P n) b) ws m env G) D, ⟨WFUEL, ms, Z, G, _, f.wipe ws, pp⟩, ?_⟩
    rintro m σ1 H1 ⟨ms1, Z1, G1, env1, f1, p1⟩
    cases m with
    | zero => exact p1.elim
    | succ m =>
      simp only [whlL] at p1
      refine FR.use f1 p1 fun t ms2 Z2 H2 G2 d e1 g1 f2 r1 p2 => ?_
      have r1 : d = t := r1
      subst r1
      cases d with
      | false =>
        simp only [Bool.false_eq_true, if_false] at p2 ⊢
        exact p2 _ ms2 Z2 H2 f2
      | true =>
        simp only [if_true] at p2 ⊢
        refine ⟨fun σ' H' => ∃ ms Z G env, FR X.K cl F ms Z H' G σ' env ∧ OutR X.K cl W F (whlL (tv (callN P n) c) (execs (callN P n) b) ws m env G) D, fun σ' H' q => ⟨m, by omega, q⟩, ms2, Z2, G2, env1, f2, ?_⟩
        cases e : execs (callN P n) b env1 G2 with
        | nx env3 G3 => rw [e] at p2; exact fun σ ms Z H fr => ⟨ms, Z, G3, _, fr.wipe ws, p2⟩
        | ct env3 G3 => rw [e] at p2; exact fun σ ms Z H fr => ⟨ms, Z, G3, _, fr.wipe ws, p2⟩
        | bk env3 G3 => rw [e] at p2; exact fun σ ms Z H fr => p2 σ ms Z H (fr.wipe ws)
        | rt d G3 => rw [e] at p2; exact p2
        | ex c env3 G3 => rw [e] at p2; exact p2
        | no => rw [e] at p2; exact p2.elim
  · cases h
theorem FR.floor {K : Fg} {F : Fr} {ms : List Addr} {Z H : Hp} {G : Gs} {σ : Sg} {env : Ev} {mf : List Addr} {zf : Hp} (f : FR K cl F ms Z H G σ env) (hz : ∀ a o, zf a = some o → Z a = some o) (hm : mf <+: ms) : FR K cl { F with mf := mf, zf := zf } ms Z H G σ env :=
  ⟨f.w, f.s, f.g, hz, hm, f.ow⟩
theorem FR.unfloor {K : Fg} {F : Fr} {ms : List Addr} {Z H : Hp} {G : Gs} {σ : Sg} {env : Ev} {mf : List Addr} {zf : Hp} (f : FR K cl { F with mf := mf, zf := zf } ms Z H G σ env) (hz : ∀ a o, F.zf a = some o → zf a = some o) (hm : F.mf <+: mf) : FR K cl F ms Z H G σ env :=
  ⟨f.w, f.s, f.g, fun a o h => f.fz a o (hz a o h), hm.trans f.fm, f.ow⟩
end
end MP

namespace MP
open PySem PySem.Spec PyProof.Rows L2

section
variable {P : Prog} {cn : Str → Option D} {cl : ClsOf} {n : Nat} {N : List Str} {ex : List Str}

/-! ### for -/
theorem PSs.anyF {X : Cx} {l : List Stmt} {W : WK} {f : Ev → Gs → Out} {fr : Bool} (h : ∀ F : Fr, F.fr = fr → PSs X l (tS X.K cl W F f)) : PSs X l (fun D σ H => ∃ F : Fr, F.fr = fr ∧ tS X.K cl W F f D σ H) :=
  ⟨fun pins s σ H D I ⟨F, e, q⟩ => (h F e).run pins s σ H D I q⟩
theorem ss_for {t : Tg} {it : Src} {b : Ss} (hb : SSs P cn cl n N ex b) (ws : List Nat) : SSt P cn cl n N ex (.for_ t it b ws) := by
  intro fr sc fb s h W X g F hF
  simp only [chkS] at h
  split at h
  · rename_i tg v l q
    simp only [Bool.and_eq_true] at h
    obtain ⟨⟨⟨h1, h2⟩, h3⟩, h4⟩ := h
    have gx := g.gx
    refine PS.weak (ps_for g.po gx.calm (all_I it false sc v tg h2 fb W X gx) (sTg gx h1) (PSs.anyF (hb fr sc fb l h3 W X g)) (fold_no h4)) fun D σ H ⟨ms, Z, G, env, f, pp⟩ => ?_
    simp only [exec] at pp
    refine ⟨ms, Z, G, env, f.w, f.s, ?_⟩
    cases e1 : evI (callN P n) it env G with
    | no => rw [e1] at pp; exact pp.elim
    | ex c G1 => rw [e1] at pp; exact fun ms1 Z1 H1 g1 w1 => pp σ ms1 Z1 H1 (f.grow g1 w1)
    | ok items G1 =>
      rw [e1] at pp
      intro J mw Zw Hw gw ww wd
      obtain ⟨hl, Gd, Y, wk, keep, yl⟩ := wd
      have fw := (f.grow gw ww).wipe ws
      have pz : ∀ a o, F.zf a = some o → Zw a = some o := fun a o h => fw.fz a o h
      have pm : F.mf <+: mw := fw.fm
      refine for_it wk (g := gD X.K cl t) (tb := fun D σ H => ∃ F : Fr, F.fr = fr ∧ tS X.K cl W F (execs (callN P n) b) D σ H) (D := D) (σ := σ) (H := Hw) (fun i σ H => ∃ ms Z G env, FR X.K cl { F with mf := mw, zf := Zw } ms Z H G σ env ∧ OutR X.K cl W F (forL (fun d env G => match setTg t d env with
        | some env1 => execs (callN P n) b env1 G
        | none => .no) ws (items.drop i) env G) D) ?_ ?_ ?_ ?_
      · exact ⟨mw, Zw, G1, _, fw.floor (fun _ _ h => h) (List.prefix_refl _), pp⟩
      · rintro i σ1 H1 hi ⟨ms1, Z1, G2, env1, f1, _⟩
        exact keep H1 (fun a o h => f1.w.zs a o (f1.fz a o h)) (fun h => by cases h)
      · rintro i x σ1 H1 H2 hi ⟨ms1, Z1, G2, env1, f1, p1⟩ y
        have hd : items[i]? = some items[i] := List.getElem?_eq_getElem hi
        have hdrop : items.drop i = items[i] :: items.drop (i + 1) := List.drop_eq_getElem_cons hi
        rw [hdrop] at p1
        generalize items[i] = d at hd p1
        obtain ⟨Z2, g2, w2, rd⟩ := yl i d hd ms1 Z1 H1 G2 f1.fz f1.fm f1.w x H2 y
        have f2 := f1.grow g2 w2
        simp only [forL] at p1
        refine ⟨ms1, Z2, G2, env1, d, f2.w, f2.s, rd, ?_⟩
        cases es : setTg t d env1 with
        | none => rw [es] at p1; exact p1.elim
        | some env2 =>
          rw [es] at p1
          simp only at p1
          show ∀ σ1, _ → _ → _ → _
          intro σ2 s2 _ k2
          have f3 := f2.tgt es s2 k2
          refine ⟨{ F with mf := mw, zf := Zw }, hF, ms1, Z2, G2, env2, f3, ?_⟩
          cases e : execs (callN P n) b env2 G2 with
          | nx env3 G3 => rw [e] at p1; exact fun σ ms Z H fr => ⟨ms, Z, G3, _, fr.wipe ws, p1⟩
          | ct env3 G3 => rw [e] at p1; exact fun σ ms Z H fr => ⟨ms, Z, G3, _, fr.wipe ws, p1⟩
          | bk env3 G3 => rw [e] at p1; exact fun σ ms Z H fr => p1 σ ms Z H ((fr.wipe ws).unfloor pz pm)
          | rt d G3 => rw [e] at p1; exact p1
          | ex c env3 G3 => rw [e] at p1; exact fun σ ms Z H fr => p1 σ ms Z H (fr.unfloor pz pm)
          | no => rw [e] at p1; exact p1.elim
      · rintro σ1 H1 ⟨ms1, Z1, G2, env1, f1, p1⟩
        rw [List.drop_length] at p1
        simp only [forL] at p1
        exact p1 σ1 ms1 Z1 H1 (f1.unfloor pz pm)
  · cases h

/-! ### lists of one's own, changed -/
theorem ownSet_inv {env env1 : Ev} {i : Nat} {f : D → Option D} (h : ownSet env i f = some env1) : ∃ d d', env[i]? = some (.own d) ∧ f d = some d' ∧ env1 = env.set i (.own d') := by
  unfold ownSet at h
  split at h
  · rename_i d e
    rw [Option.map_eq_some_iff] at h
    obtain ⟨d', h1, rfl⟩ := h
    exact ⟨d, d', e, h1, rfl⟩
  · cases h
theorem nmV_ok {sc : Scope} {fb : Str → Bool} {W : WK} {X : Cx} (g : GX P cn cl n N sc fb W X) {i : Nat} {x y : Str} (h : nmV N sc i x y = true) {pos : Pos} : PE X (.Name y pos) (tVar i) := by
  simp only [nmV, Bool.and_eq_true, decide_eq_true_eq] at h
  obtain ⟨⟨⟨rfl, h2⟩, h3⟩, h4⟩ := h
  obtain ⟨n1, n2, _⟩ := nmB_ok h4
  exact pe_var (i := i) (by rw [g.hN]; exact h2) (g.vis h3) n1 n2

theorem ownL_inv {K : Fg} {F : Fr} {ms : List Addr} {Z H : Hp} {G : Gs} {σ : Sg} {env : Ev} {i : Nat} (f : FR K cl F ms Z H G σ env) (h : ownL env i = true) : ∃ ds a xs, env[i]? = some (.own (.lst ds)) ∧ σ[i]? = some (some (.ref a)) ∧ H a = some (.lst xs) ∧ Reps K ms Z ds xs := by
  unfold ownL at h
  split at h
  · rename_i ds e
    obtain ⟨a, e1, z, m, o⟩ := f.s.own e
    simp only [OwnAt] at o
    obtain ⟨xs, e2, r⟩ := o
    exact ⟨ds, a, xs, e, e1, e2, r⟩
  · cases h
theorem ty_lst {K : Fg} {a : Addr} {xs : List V} {H : Hp} (h : H a = some (.lst xs)) : tyV K "list" (.ref a) H := .inl ⟨rfl, xs, .of h⟩
theorem mt_extT {X : Cx} : MtR X "list.extend" (fun x vs H Q => ∃ (l b : Addr) (xs zs : List V) (its : Array Value) (m : Nat), x = .ref l ∧ vs = [.ref b] ∧ H l = some (.lst xs) ∧ H b = some (.frz { cls := .type "tuple", data := .seq its m } (.tup zs)) ∧ xs.length + zs.length ≤ sizeLine ∧ Q .non (upd H l (.lst (xs ++ zs)))) := by
  intro pins s σ H x vs v us Q I rx rv h
  obtain ⟨l, b, xs, zs, jts, m, rfl, rfl, hl, hb, room, q⟩ := h
  cases rx
  obtain ⟨u, rfl, ru⟩ := rv.one
  cases ru
  obtain ⟨z1, its, k, r1, n1, o1⟩ := I.lstM hl
  have ob := I.hok b _ hb
  obtain ⟨o2, z2, kts, r2, o3⟩ := (show s.heap.get? b = some { cls := .type "tuple", data := .seq jts m } ∧ zs.length ≤ sizeLine ∧ ∃ its : List Value, Vals zs its ∧ IsTup s.heap b its.toArray from ob)
  have ej : jts = kts.toArray := by
    obtain ⟨o, e, _, k2, e2⟩ := o3
    rw [o2] at e
    cases e
    cases e2
    rfl
  subst ej
  have n2 := r2.length
  have tot : its.toArray.size + kts.toArray.size ≤ sizeLine := by simp only [List.size_toArray]; omega
  have fits : ¬ (!its.toArray.isEmpty && Builtin.List.listTooLong (its.toArray.size + kts.toArray.size)) = true := by
    rw [notLongL tot]; simp
  refine call_meets PySem.F.slot_list_extend ⟨_, o1, rfl⟩ PySem.F.entry_list_extend (PySem.F.args_list_extend_2 _ _) (AutoSeq1.list_extend_list_tuple_0 l its.toArray k b kts.toArray m fits (by simp only [List.size_toArray]; omega) (by omega)) ⟨o1, o2, ?_⟩
  exact ⟨.non, _, I.lset (its' := its ++ kts) hl o1 (by simp) (r1.append r2) (by rw [List.length_append]; omega), rfl, q⟩
theorem ss_app (i : Nat) (x : Str) (e : E) : SSt P cn cl n N ex (.app i x e) := by
  intro fr sc fb s h W X g F hF
  simp only [chkS] at h
  have gx := g.gx
  split at h
  · simp only [Bool.and_eq_true, decide_eq_true_eq] at h
    obtain ⟨⟨⟨⟨rfl, h2⟩, h3⟩, h4⟩, h5⟩ := h
    have pe := (all_E (cl := cl) (n := n) e).1.gen h3 gx
    refine PS.weak (ps_expr (pe_bm PySem.F.plainAttrs_list PySem.F.slot_list_append PySem.F.type_list_append mt_append (nmV_ok gx h2) (pa_cons pe pa_nil (star_cons h4)) (base_no (by rfl)) (few1 h4) h5 (star_cons h4) (by rfl)) (noLc_swap rfl _ _ _)) fun D σ H ⟨ms, Z, G, env, f, pp⟩ => ?_
    simp only [exec] at pp
    by_cases ho : ownL env i = true
    · rw [if_pos ho] at pp
      obtain ⟨ds, a, xs, e1, e2, e3, r⟩ := ownL_inv f ho
      refine ⟨.ref a, e2, ty_lst e3, ?_⟩
      refine FR.use f pp fun b ms1 Z1 H1 G1 d ee g1 f1 r1 p1 => ?_
      obtain ⟨env1, e4, p2⟩ := OutR.nxO p1
      obtain ⟨d0, d', e5, e6, rfl⟩ := ownSet_inv e4
      rw [e1] at e5; cases e5
      simp only [appD] at e6
      split at e6
      · rename_i hlim
        cases e6
        obtain ⟨ds', a', xs', e1', e2', e3', r'⟩ := ownL_inv f1 ho
        rw [e1] at e1'; cases e1'
        rw [e2] at e2'; cases e2'
        have := r'.len
        have := LIM_line
        refine ⟨a, xs', b, rfl, rfl, e3', by omega, p2 _ ms1 Z1 _ (f1.put e1 e2 ?_)⟩
        exact ⟨_, upd_same, r'.append (.cons r1 .nil)⟩
      · cases e6
    · rw [if_neg ho] at pp; exact pp.elim
  · cases h
theorem ss_ext (i : Nat) (x : Str) (e : E) : SSt P cn cl n N ex (.ext i x e) := by
  intro fr sc fb s h W X g F hF
  simp only [chkS] at h
  have gx := g.gx
  split at h
  · simp only [Bool.and_eq_true, decide_eq_true_eq] at h
    obtain ⟨⟨⟨⟨rfl, h2⟩, h3⟩, h4⟩, h5⟩ := h
    have pe := (all_E (cl := cl) (n := n) e).1.bor h3 gx
    have mt : MtR X "list.extend" (fun x vs H Q => rExtend x vs H Q ∨ _) := fun pins s σ H x xs v us Q I rx rv q => q.elim (mt_extend pins s σ H x xs v us Q I rx rv) (mt_extT pins s σ H x xs v us Q I rx rv)
    refine PS.weak (ps_expr (pe_bm PySem.F.plainAttrs_list PySem.F.slot_list_extend PySem.F.type_list_extend mt (nmV_ok gx h2) (pa_cons pe pa_nil (star_cons h4)) (base_no (by rfl)) (few1 h4) h5 (star_cons h4) (by rfl)) (noLc_swap rfl _ _ _)) fun D σ H ⟨ms, Z, G, env, f, pp⟩ => ?_
    simp only [exec] at pp
    by_cases ho : ownL env i = true
    · rw [if_pos ho] at pp
      obtain ⟨ds, a, xs, e1, e2, e3, r⟩ := ownL_inv f ho
      refine ⟨.ref a, e2, ty_lst e3, ?_⟩
      refine FR.use f pp fun b ms1 Z1 H1 G1 d ee g1 f1 r1 p1 => ?_
      obtain ⟨env1, e4, p2⟩ := OutR.nxO p1
      obtain ⟨d0, d', e5, e6, rfl⟩ := ownSet_inv e4
      rw [e1] at e5; cases e5
      obtain ⟨ds', a', xs', e1', e2', e3', r'⟩ := ownL_inv f1 ho
      rw [e1] at e1'; cases e1'
      rw [e2] at e2'; cases e2'
      have l1 := r'.len
      have := LIM_line
      unfold extD at e6
      split at e6
      · rename_i es ed
        cases ed
        split at e6
        · rename_i hlim
          cases e6
          obtain ⟨c, zs, rfl, hc, rc⟩ := BRep.lst f1.w r1
          have := rc.len
          refine .inl ⟨a, c, xs', zs, rfl, rfl, e3', hc, by omega, p2 _ ms1 Z1 _ (f1.put e1 e2 ?_)⟩
          exact ⟨_, upd_same, r'.append rc⟩
        · cases e6
      · rename_i es ed
        cases ed
        split at e6
        · rename_i hlim
          cases e6
          obtain ⟨c, zs, rfl, hc, rc, its, m, tz⟩ := BRep.tup f1.w r1
          have := rc.len
          refine .inr ⟨a, c, xs', zs, its, m, rfl, rfl, e3', (f1.w.zs _ _ tz).frz, by omega, p2 _ ms1 Z1 _ (f1.put e1 e2 ?_)⟩
          exact ⟨_, upd_same, r'.append rc⟩
        · cases e6
      · cases e6
    · rw [if_neg ho] at pp; exact pp.elim
  · cases h
end
end MP

namespace MP
open PySem PySem.Spec PyProof.Rows L2

/-! ### try -/
theorem chkH_sw {N : List Str} {sc : Scope} {ce : Option (Nat × Str)} {h : HE} {e : Expr} (c : chkH N sc ce h e = true) (hi : isIfe h = false) (t : Option Expr) (l : Nat) (env : Env) : swapsWith e t l env = pure false := by
  cases h <;> first
    | (cases hi; done)
    | (simp only [chkH, isxB] at c
       split at c <;> first
         | rfl
         | cases c)
section
variable {K : Fg} {cl : ClsOf} {ms : List Addr} {Z H : Hp} {σ : Sg} {env : Ev}
def ciOf (nm : Option (Nat × Str)) : Option Nat := nm.map (·.1)
theorem hv_ok (s : SlotsOk K ms Z H σ env) (a : Addr) (nm : Option (Nat × Str)) : ∀ (h : HE) (d : D), hev h (offC env nm) = some d → ∃ v, hv h (onS σ a (ciOf nm)) = some v ∧ Rep K ms Z d v := by
  intro h
  induction h with
  | non => intro d e; cases e; exact ⟨_, rfl, by simp only [Rep]⟩
  | bl b => intro d e; cases e; exact ⟨_, rfl, by simp only [Rep]⟩
  | int i => intro d e; cases e; exact ⟨_, rfl, by simp only [Rep]⟩
  | str x => intro d e; cases e; exact ⟨_, rfl, by simp only [Rep]⟩
  | isx c => intro d e; cases e; exact ⟨_, rfl, by simp only [Rep]⟩
  | var i x =>
    intro d e
    simp only [hev] at e
    split at e
    · rename_i d' h1
      cases e
      have key : env[i]? = some (.val d) ∧ (onS σ a (ciOf nm))[i]? = σ[i]? := by
        cases nm with
        | none => exact ⟨h1, rfl⟩
        | some p =>
          obtain ⟨j, y⟩ := p
          simp only [offC, List.getElem?_set] at h1
          by_cases q : j = i
          · rw [if_pos q] at h1
            split at h1 <;> cases h1
          · rw [if_neg q] at h1
            refine ⟨h1, ?_⟩
            show (σ.set j (some (.ref a)))[i]? = _
            rw [List.getElem?_set, if_neg q]
      have hl : i < σ.length := by
        rw [s.len]
        exact (List.getElem?_eq_some_iff.mp key.1).1
      have := s.at_ i σ[i] _ (List.getElem?_eq_getElem hl) key.1
      obtain ⟨v, hv1, r⟩ := this
      refine ⟨v, ?_, r⟩
      simp only [hv, key.2, List.getElem?_eq_getElem hl, hv1]
    · cases e
  | and u v ihu ihv =>
    intro d e
    simp only [hev] at e
    split at e
    · rename_i h1
      obtain ⟨x, hx, r⟩ := ihu _ h1
      simp only [Rep] at r
      subst r
      obtain ⟨y, hy, r2⟩ := ihv _ e
      exact ⟨y, by simp only [hv, hx, hy], r2⟩
    · rename_i h1
      cases e
      obtain ⟨x, hx, r⟩ := ihu _ h1
      simp only [Rep] at r
      subst r
      exact ⟨.bl false, by simp only [hv, hx], by simp only [Rep]⟩
    · cases e
  | int1 u ihu =>
    intro d e
    simp only [hev] at e
    split at e
    · rename_i h1
      cases e
      obtain ⟨x, hx, r⟩ := ihu _ h1
      simp only [Rep] at r
      subst r
      exact ⟨_, by simp only [hv, hx]; rfl, by simp only [Rep]⟩
    · rename_i h1
      cases e
      obtain ⟨x, hx, r⟩ := ihu _ h1
      simp only [Rep] at r
      subst r
      exact ⟨_, by simp only [hv, hx]; rfl, by simp only [Rep]⟩
    · cases e
  | add u v ihu ihv =>
    intro d e
    simp only [hev] at e
    split at e
    · rename_i h1 h2
      cases e
      obtain ⟨x, hx, r⟩ := ihu _ h1
      obtain ⟨y, hy, r2⟩ := ihv _ h2
      simp only [Rep] at r r2
      subst r r2
      exact ⟨_, by simp only [hv, hx, hy]; rfl, by simp only [Rep]⟩
    · cases e
  | ife c u v ihu ihv =>
    intro d e
    simp only [hev] at e
    obtain ⟨x, hx, r⟩ := ihu _ e
    exact ⟨x, by simp only [hv, hx], r⟩
end
section
variable {P : Prog} {cn : Str → Option D} {cl : ClsOf} {n : Nat} {N : List Str} {ex : List Str}
/-- what a clause's suite wishes -/
def tK (k : Cl) (a : Addr) : TS := match k.h with
  | .retN => tRetN
  | .ret e => tRet (tH a k.nm e)
  | .asg j _ e => tAsg (tH a k.nm e) (gName j)
  | .pick ss e => tRet (tPick a k.nm ss e)
def tsK (K : Fg) (mg : Str → Option Value) (k : Cl) : ClTs := fun a cls d D σ H => (∃ C, cls = .ref C ∧ d = none ∧ XcOk K mg C) ∧ tK k a D σ H
variable {fr : Bool} {sc : Scope} {fb : Str → Bool} {W : WK} {X : Cx}
theorem suite_ok (g : GS P cn cl n N ex sc fb W X) {k : Cl} {s : Stmt} (h : chkHS N sc fr fb k s = true) : SuOk X [s] (tsK X.K X.mg k) := by
  intro a oe cls d pn hz hf
  refine ⟨fun pins t σ H D I ⟨⟨C, e1, e2, xc⟩, p⟩ => ?_⟩
  subst e1 e2
  have gx := g.gx
  have pe := fun e v (c : chkH N sc k.nm e v = true) => pe_H (ce := k.nm) (pn := pn) (a := a) gx.hN gx.hs gx.bts xc hz hf e v c
  have ps : PS (X.suite a ((a, oe) :: pn)) s (tK k a) := by
    cases hkh : k.h with
    | retN =>
      simp only [chkHS, hkh] at h
      simp only [tK, hkh]
      split at h
      · exact ps_retN
      · cases h
    | ret e =>
      simp only [chkHS, hkh] at h
      simp only [tK, hkh]
      split at h
      · rename_i v p
        simp only [Bool.and_eq_true] at h
        exact ps_ret (pe e v h.2)
      · cases h
    | asg j x e =>
      simp only [chkHS, hkh] at h
      simp only [tK, hkh]
      split at h
      · rename_i y p v q
        simp only [Bool.and_eq_true, decide_eq_true_eq] at h
        obtain ⟨⟨⟨⟨rfl, h2⟩, h3⟩, h4⟩, h5⟩ := h
        obtain ⟨o1, o2⟩ := stoB_ok gx h3
        exact ps_set (X := X.suite a ((a, oe) :: pn)) (by show X.N.Nodup; rw [gx.hN]; exact gx.nd) (by show X.N[j]? = _; rw [gx.hN]; exact h2) o1 (pe e v h4.1) (chkH_sw h4.1 (by simpa using h4.2) _ _ _) o2
      · cases h
    | pick ss e =>
      simp only [chkHS, hkh] at h
      simp only [tK, hkh]
      split at h
      · simp only [Bool.and_eq_true, decide_eq_true_eq] at h
        obtain ⟨⟨⟨⟨h1, h2⟩, h3⟩, h4⟩, h5⟩ := h
        exact ps_ret (pe_pick (pe _ _ h3) h2 h4 h5)
      · cases h
  exact (pss_one ps).run pins t σ H D I p
theorem cls_ok (g : GS P cn cl n N ex sc fb W X) : ∀ (cs : List Cl) (hs : List ExceptHandler), chkCl N sc ex fr fb cs hs = true → ∃ l, ClOk X hs l ∧
    ∀ (Wo : WX) (D : Ends) (c : Str) (C : Addr) (σ : Sg) (H : Hp), c ∈ ex → cl c = some C → (∀ k, cs.find? (fun k => decide (k.c = c)) = some k → ∀ a, H a = none → tsK X.K X.mg k a (.ref C) none (offE D (ciOf k.nm)) (onS σ a (ciOf k.nm)) H) → (cs.find? (fun k => decide (k.c = c))).isSome = true →
      wCl X.K Wo D l (.ref C) none σ H
  | [], [], _ => ⟨[], .nil, fun _ _ _ _ _ _ _ _ _ h => by cases h⟩
  | k :: cs, hd :: hs, h => by
    unfold chkCl at h
    split at h
    · rename_i heq1 heq2
      cases heq1
    · rename_i k' cs' x p y s q hs' heq1 heq2
      cases heq1
      cases heq2
      simp only [Bool.and_eq_true, decide_eq_true_eq] at h
      obtain ⟨⟨⟨⟨⟨⟨rfl, h2⟩, h3⟩, h4⟩, h5⟩, h6⟩, h7⟩ := h
      obtain ⟨l, ok, w⟩ := cls_ok g cs hs h7
      have hx : k.c ∈ ex := by simpa using h4
      obtain ⟨C', _, _, _, _, _, _, k3, _, _, k6⟩ := g.xc k.c hx
      have nm : Names X k.c (.ref C') := ⟨g.gx.gl h2, (nmB_ok h3).1, .inl k3⟩
      have su := suite_ok g h6
      refine ⟨(.ref C', ciOf k.nm, tsK X.K X.mg k) :: l, ?_, ?_⟩
      · cases hn : k.nm with
        | none =>
          rw [hn] at h5
          cases y with
          | none => exact .bare nm su ok
          | some y => cases h5
        | some iz =>
          obtain ⟨i, z⟩ := iz
          rw [hn] at h5
          cases y with
          | none => cases h5
          | some y =>
            simp only [nmC, Bool.and_eq_true, decide_eq_true_eq] at h5
            obtain ⟨⟨rfl, m2⟩, m3⟩ := h5
            exact .named nm (by rw [g.gx.hN]; exact m2) (by show X.env.scope.names.lookup z = _; rw [g.gx.hs]; exact locB_ok m3) su ok
      · intro Wo D c C σ H hc hC yes some
        have e := g.xm c k.c hc hx C C' hC k6
        refine ⟨_, e, fun hb a ha => ?_, fun hb => ?_⟩
        · have := of_decide_eq_true hb
          exact yes k (by rw [List.find?_cons]; simp [this]) a ha
        · have hne : ¬ c = k.c := of_decide_eq_false hb
          have hf : (k :: cs).find? (fun k => decide (k.c = c)) = cs.find? (fun k => decide (k.c = c)) := by
            rw [List.find?_cons]
            have : decide (k.c = c) = false := by simp; exact fun q => hne q.symm
            rw [this]
          rw [hf] at yes some
          exact w Wo D c C σ H hc hC yes some
    · cases h
  | [], _ :: _, h => by simp [chkCl] at h
  | _ :: _, [], h => by simp [chkCl] at h
theorem chkCl_ex : ∀ (cs : List Cl) (hs : List ExceptHandler), chkCl N sc ex fr fb cs hs = true → ∀ k ∈ cs, k.c ∈ ex ∧ ∃ s, chkHS N sc fr fb k s = true
  | [], _, _ => by simp
  | k :: cs, hd :: hs, h => by
    unfold chkCl at h
    split at h
    · rename_i heq1 heq2
      cases heq1
    · rename_i k' cs' x p y s q hs' heq1 heq2
      cases heq1
      cases heq2
      simp only [Bool.and_eq_true, decide_eq_true_eq] at h
      obtain ⟨⟨⟨⟨⟨⟨rfl, h2⟩, h3⟩, h4⟩, h5⟩, h6⟩, h7⟩ := h
      intro j hj
      rcases List.mem_cons.mp hj with rfl | hj
      · exact ⟨by simpa using h4, s, h6⟩
      · exact chkCl_ex cs hs h7 j hj
    · cases h
  | _ :: _, [], h => by simp [chkCl] at h
theorem ss_try {b : Ss} (hb : SSs P cn cl n N ex b) (cs : List Cl) : SSt P cn cl n N ex (.try_ b cs) := by
  intro fr sc fb a h W X g F hF
  simp only [chkS] at h
  split at h
  · rename_i l h0 hs p
    simp only [Bool.and_eq_true] at h
    have gx := g.gx
    obtain ⟨lc, ok, w⟩ := cls_ok g cs (h0 :: hs) h.2
    have hex := chkCl_ex cs (h0 :: hs) h.2
    refine PS.weak (ps_tryC (tb := fun Wx => tS X.K cl (fun c σ H => ∀ C, cl c = some C → Wx (.ref C) none σ H) F (execs (callN P n) b)) g.stk g.frm (by rw [gx.hN]; exact gx.nd) gx.tk (fun Wx pn xe tk po => ?_) ok) fun D σ H ⟨ms, Z, G, env, f, pp⟩ => ?_
    · refine hb fr sc fb l h.1 (fun c σ H => ∀ C, cl c = some C → Wx (.ref C) none σ H) (X.tr pn xe) ⟨⟨gx.hN, gx.nd, gx.hs, gx.fb, gx.calm, gx.room, ?_, gx.fns, gx.bts, gx.cns⟩, po, g.kd, g.stk, g.frm, g.xi, g.xm, g.xc⟩ F hF
      exact Takes.imp tk fun cls d σ H ⟨c, C, e1, e2, e3, e4⟩ => by subst e1 e2; exact e4 C e3
    · simp only [exec] at pp
      refine ⟨ms, Z, G, env, f, ?_⟩
      cases er : execs (callN P n) b env G with
      | nx env1 G1 => rw [er] at pp; exact pp
      | bk env1 G1 => rw [er] at pp; exact pp
      | ct env1 G1 => rw [er] at pp; exact pp
      | rt d G1 => rw [er] at pp; exact pp
      | no => rw [er] at pp; exact pp
      | ex c env1 G1 =>
        rw [er] at pp
        simp only [tryR] at pp
        cases ek : cs.find? (fun k => decide (k.c = c)) with
        | none => rw [ek] at pp; exact pp.elim
        | some k =>
          rw [ek] at pp
          have hkm := List.mem_of_find?_eq_some ek
          have hkc : k.c = c := by simpa using List.find?_some ek
          obtain ⟨hce, s0, hcs⟩ := hex k hkm
          rw [hkc] at hce
          intro σ1 ms1 Z1 H1 f1 C hC
          refine w _ D c C σ1 H1 hce hC (fun k' hk' a ha => ?_) (by rw [ek]; rfl)
          rw [ek] at hk'
          cases hk'
          refine ⟨⟨C, rfl, rfl, g.xi c hce C hC⟩, ?_⟩
          simp only [hx] at pp
          split at pp
          · exact pp.elim
          rename_i hok
          have hok : okC env1 k.nm = true := by simpa using hok
          have hheld : held a k.nm (onS σ1 a (ciOf k.nm)) := by
            intro i x e
            rw [e] at hok ⊢
            simp only [okC, decide_eq_true_eq] at hok
            show (σ1.set i (some (.ref a)))[i]? = _
            rw [List.getElem?_set_self (by rw [f1.s.len]; exact hok)]
          have rtE : (offE D (ciOf k.nm)).rt = D.rt := by cases k.nm <;> rfl
          cases hkh : k.h with
          | retN =>
            simp only [chkHS, hkh] at hcs
            simp only [hkh] at pp
            simp only [tK, hkh]
            split at hcs
            · have hF2 : F.fr = false := by rw [hF]; simpa using hcs
              show (offE D (ciOf k.nm)).rt .non H1
              rw [rtE]
              refine pp .non ms1 Z1 H1 f1.g f1.w ?_
              rw [hF2]
              show Rep _ _ _ _ _
              simp only [Rep]
            · cases hcs
          | ret e =>
            simp only [chkHS, hkh] at hcs
            simp only [hkh] at pp
            simp only [tK, hkh]
            split at hcs
            · simp only [Bool.and_eq_true] at hcs
              have hF2 : F.fr = false := by rw [hF]; simpa using hcs.1
              cases eh : hev e (offC env1 k.nm) with
              | none => rw [eh] at pp; exact pp.elim
              | some d =>
                rw [eh] at pp
                obtain ⟨v, hv1, r⟩ := hv_ok f1.s a k.nm e d eh
                refine ⟨hheld, v, hv1, ?_⟩
                rw [rtE]
                refine pp v ms1 Z1 H1 f1.g f1.w ?_
                rw [hF2]
                exact r
            · cases hcs
          | asg j x e =>
            simp only [chkHS, hkh] at hcs
            simp only [hkh] at pp
            simp only [tK, hkh]
            split at hcs
            · rename_i y p1 v1 q1
              simp only [Bool.and_eq_true, decide_eq_true_eq] at hcs
              cases eh : hev e (offC env1 k.nm) with
              | none => rw [eh] at pp; exact pp.elim
              | some d =>
                rw [eh] at pp
                obtain ⟨v, hv1, r⟩ := hv_ok f1.s a k.nm e d eh
                refine ⟨hheld, v, hv1, ?_⟩
                show (offE D (ciOf k.nm)).nx ((onS σ1 a (ciOf k.nm)).set j (some v)) H1
                cases hn : k.nm with
                | none =>
                  rw [hn] at pp
                  exact pp _ ms1 Z1 H1 (f1.set r)
                | some iz =>
                  obtain ⟨i, z⟩ := iz
                  rw [hn] at pp hcs
                  have hij : i ≠ j := by simpa using hcs.2
                  show D.nx (((σ1.set i (some (.ref a))).set j (some v)).set i none) H1
                  have e1 : ((σ1.set i (some (.ref a))).set j (some v)).set i none = (σ1.set i none).set j (some v) := by
                    rw [List.set_comm _ _ hij, List.set_set]
                    exact (List.set_comm _ _ hij).symm
                  rw [e1]
                  exact pp _ ms1 Z1 H1 ((f1.off i).set r)
            · cases hcs
          | pick ss e =>
            simp only [chkHS, hkh] at hcs
            simp only [hkh] at pp
            simp only [tK, hkh]
            split at hcs
            · simp only [Bool.and_eq_true] at hcs
              have hF2 : F.fr = false := by rw [hF]; simpa using hcs.1.1.1.1
              split at pp
              · rename_i i eh
                split at pp
                · rename_i x ex1
                  obtain ⟨v, hv1, r⟩ := hv_ok f1.s a k.nm e _ eh
                  simp only [Rep] at r
                  subst r
                  refine ⟨hheld, i, x, hv1, ex1, fun p o hp => ?_⟩
                  rw [rtE]
                  refine pp _ ms1 Z1 _ (f1.g.app (fresh_ent f1 hp)) (f1.w.upd (f1.w.zfresh hp) (f1.w.fresh hp)) ?_
                  rw [hF2]
                  show Rep _ _ _ _ _
                  simp only [Rep]
                · exact pp.elim
              · exact pp.elim
            · cases hcs
  · cases h
end
end MP

namespace MP
open PySem PySem.Spec PyProof.Rows L2

section
variable {P : Prog} {cn : Str → Option D} {cl : ClsOf} {n : Nat} {N : List Str} {ex : List Str}

theorem ass_sub {o i : Expr} {pos : Pos} {env : Env} (h : noSlice i = true) : ∀ v, assign (.Subscript o i pos) env v = (do
      let ov ← holding [v] (eval o env)
      let iv ← holding [v, ov] (eval i env)
      standAt pos
      holding [v, ov, iv] (setItem ov iv v)
      release [v, ov, iv] []) := by
  intro v
  cases i <;> first
    | rfl
    | cases h
theorem swp_sub1 {o i v : Expr} {p q : Pos} {env : Env} : swapsWithSole [.Subscript o i p] v q.line env = pure false := by
  show swapsWith v (some (.Subscript o i p)) q.line env = pure false
  cases v <;> rfl
theorem swp_sub2 {o i v : Expr} {p : Pos} {env : Env} : swappedStores [.Subscript o i p] v env = pure none := by cases v <;> rfl
theorem LIM_size : LIM < sizeLine := LIM_line
theorem ss_seti (i : Nat) (x : Str) (k e : E) : SSt P cn cl n N ex (.seti i x k e) := by
  intro fr sc fb s h W X g F hF
  simp only [chkS] at h
  have gx := g.gx
  split at h
  · simp only [Bool.and_eq_true] at h
    obtain ⟨⟨⟨h1, h2⟩, h3⟩, h4⟩ := h
    have hu : X.A.units + 1 < cLine := by have := gx.hu; omega
    have hset : PSet X (fun o i v H Q => rSetL o i v H Q ∨ rSetD o i v H Q) := fun pins s σ H o i v ov iv u Q I ro ri rv q => q.elim (set_list pins s σ H o i v ov iv u Q I ro ri rv) (set_dict hu pins s σ H o i v ov iv u Q I ro ri rv)
    refine PS.weak (ps_asg ((all_E (cl := cl) (n := n) e).1.gen h3 gx) (pg_sub (nmV_ok gx h1) ((all_E (cl := cl) (n := n) k).1.gen h2 gx) hset (ass_sub h4)) swp_sub1 swp_sub2 (by rfl)) fun D σ H ⟨ms, Z, G, env, f, pp⟩ => ?_
    simp only [exec] at pp
    by_cases ho : ownC env i = true
    · rw [if_pos ho] at pp
      refine FR.use f pp fun v ms1 Z1 H1 G1 d e1 g1 f1 r1 p1 => ?_
      obtain ⟨d0, ed⟩ : ∃ d0, env[i]? = some (.own d0) := by
        unfold ownC at ho
        split at ho
        · exact ⟨_, by assumption⟩
        · cases ho
      obtain ⟨a, ea, _⟩ := f1.s.own ed
      refine ⟨.ref a, ea, ?_⟩
      refine FR.use f1 p1 fun kv ms2 Z2 H2 G2 kd e2 g2 f2 r2 p2 => ?_
      obtain ⟨env1, e4, p3⟩ := OutR.nxO p2
      obtain ⟨d1, d', e5, e6, rfl⟩ := ownSet_inv e4
      rw [ed] at e5; cases e5
      obtain ⟨b, eb, z, m, o⟩ := f2.s.own ed
      rw [ea] at eb; cases eb
      have rv := Rep.grow r1 g2
      have := LIM_line
      cases d0 <;> simp only [setD] at e6 <;> simp only [OwnAt] at o <;> first
        | (cases e6; done)
        | skip
      · rename_i ds
        obtain ⟨us, hu2, ru⟩ := o
        split at e6
        · rename_i ki
          rw [Option.map_eq_some_iff] at e6
          obtain ⟨j, e7, rfl⟩ := e6
          rw [show kv = .int ki from rep_int (K := X.K) (ms := ms2) (Z := Z2) r2]
          refine .inl ⟨a, us, ki, j, rfl, rfl, hu2, by rw [← ru.len]; exact e7, p3 _ ms2 Z2 _ (f2.put ed ea ?_)⟩
          exact ⟨_, upd_same, ru.set j rv⟩
        · cases e6
      · rename_i ks vs
        obtain ⟨us, l, hu2, ru⟩ := o
        cases ek : keyOf kd with
        | none => rw [ek] at e6; cases e6
        | some key =>
          rw [ek] at e6
          simp only [Option.bind] at e6
          split at e6
          · rename_i hl
            cases e6
            obtain ⟨ys, l2, pe, rp⟩ := put_zip (k := key) l ru rv
            refine .inr ⟨a, _, rfl, .inl ⟨_, key, hu2, keyOf_v ek r2, by rw [List.length_zip, ← l]; omega, rfl⟩, ?_⟩
            rw [pe]
            refine p3 _ ms2 Z2 _ (f2.put ed ea ?_)
            exact ⟨_, l2, upd_same, rp⟩
          · cases e6
      · rename_i ks vs
        obtain ⟨us, l, hu2, ru⟩ := o
        cases ek : tkeyOf kd with
        | none => rw [ek] at e6; cases e6
        | some key =>
          rw [ek] at e6
          simp only [Option.bind] at e6
          split at e6
          · rename_i hl
            cases e6
            obtain ⟨ys, l2, pe, rp⟩ := put_zip (k := key) l ru rv
            obtain ⟨b, e8, e9⟩ := tkeyOf_v f2.w ek r2
            refine .inr ⟨a, _, rfl, .inr ⟨_, key, b, hu2, e8, e9, by rw [List.length_zip, ← l]; omega, rfl⟩, ?_⟩
            rw [pe]
            refine p3 _ ms2 Z2 _ (f2.put ed ea ?_)
            exact ⟨_, l2, upd_same, rp⟩
          · cases e6
    · rw [if_neg ho] at pp; exact pp.elim
  · cases h
theorem ss_aug (i : Nat) (x : Str) (e : E) : SSt P cn cl n N ex (.aug i x e) := by
  intro fr sc fb s h W X g F hF
  simp only [chkS] at h
  have gx := g.gx
  split at h
  · simp only [nmS, Bool.and_eq_true, decide_eq_true_eq] at h
    obtain ⟨⟨⟨rfl, h1⟩, h2⟩, h3⟩ := h
    obtain ⟨o1, o2⟩ := stoB_ok gx h2
    refine PS.weak (ps_aug (i := i) (by rw [gx.hN]; exact gx.nd) (by rw [gx.hN]; exact h1) o1 ((all_E (cl := cl) (n := n) e).1.gen h3 gx) ip_add o2) fun D σ H ⟨ms, Z, G, env, f, pp⟩ => ?_
    simp only [exec] at pp
    split at pp
    · rename_i j ej
      obtain ⟨v, ev1, r⟩ := f.s.val ej
      have ev2 : v = .int j := rep_int r
      subst ev2
      refine ⟨.int j, ev1, ?_⟩
      refine FR.use f pp fun v ms1 Z1 H1 G1 d e1 g1 f1 r1 p1 => ?_
      split at p1
      · rename_i m
        rw [show v = .int m from rep_int (K := X.K) (ms := ms1) (Z := Z1) r1]
        exact ⟨j, m, rfl, rfl, p1 _ ms1 Z1 H1 (f1.set (by simp only [Rep]))⟩
      · exact p1.elim
    · exact pp.elim
  · cases h
theorem get_listP {X : Cx} : PGet X (rIxL X.K) := by
  intro pins s σ H x y v u Q I rx ry h
  obtain ⟨p, xs, i, z, rfl, rfl, hq, he, q⟩ := h
  cases rx
  obtain ⟨t, rfl⟩ := ry
  obtain ⟨its, r, pl, hz⟩ := I.list hq
  obtain ⟨j, h1, h2, h3, h4, h5⟩ := atI_get he
  obtain ⟨w, ew, rw'⟩ := r.get h2
  have hl := r.length
  have hn := line63
  have fin : EP X pins σ Q w s := ⟨z, H, I, rw', q⟩
  by_cases h0 : 0 ≤ i
  · have hj : i.toNat = j := by
      rw [seqIndex_of h0 h5] at h1
      exact Option.some.inj h1
    exact wpAny_getItem_list pl.isList h0 (by omega) (by rw [hj]; simpa using ew) fin
  · have hj : (i + (its.toArray.size : Int)).toNat = j := by
      rw [seqIndex_neg (by omega) h4] at h1
      rw [List.size_toArray, ← hl]
      exact Option.some.inj h1
    exact wpAny_getItem_list_neg pl.isList (by omega) (by rw [List.size_toArray] <;> omega) (by omega) (by rw [hj]; simpa using ew) fin
theorem aug_sub {i : Expr} (h : noSlice i = true) (ov iv new : Value) : augStore i ov iv new = (do holding [new, ov, iv] (setItem ov iv new); release [new, ov, iv] []; pure .next) := by
  cases i <;> first
    | rfl
    | cases h
theorem ss_augi (i : Nat) (x : Str) (k e : E) : SSt P cn cl n N ex (.augi i x k e) := by
  intro fr sc fb s h W X g F hF
  simp only [chkS] at h
  have gx := g.gx
  split at h
  · simp only [Bool.and_eq_true] at h
    obtain ⟨⟨⟨h1, h2⟩, h3⟩, h4⟩ := h
    refine PS.weak (ps_augS (nmV_ok gx h1) ((all_E (cl := cl) (n := n) k).1.gen h2 gx) get_listP ((all_E (cl := cl) (n := n) e).1.gen h3 gx) ip_add set_list (aug_sub h4)) fun D σ H ⟨ms, Z, G, env, f, pp⟩ => ?_
    simp only [exec] at pp
    by_cases ho : ownL env i = true
    · rw [if_pos ho] at pp
      obtain ⟨ds, ed⟩ : ∃ ds, env[i]? = some (.own (.lst ds)) := by
        unfold ownL at ho
        split at ho
        · exact ⟨_, by assumption⟩
        · cases ho
      obtain ⟨a, ea, _⟩ := f.s.own ed
      refine ⟨.ref a, ea, ?_⟩
      refine FR.use f pp fun kv ms1 Z1 H1 G1 kd e1 g1 f1 r1 p1 => ?_
      rw [ed] at p1
      split at p1
      · rename_i ds' j e5 
        cases e5
        rw [show kv = .int j from rep_int (K := X.K) (ms := ms1) (Z := Z1) r1]
        split at p1
        · rename_i x0 e6
          obtain ⟨b, eb, z, m, o⟩ := f1.s.own ed
          rw [ea] at eb; cases eb
          simp only [OwnAt] at o
          obtain ⟨us, hu, ru⟩ := o
          obtain ⟨v0, e7, r7⟩ := atI_rep ru e6
          rw [show v0 = .int x0 from rep_int (K := X.K) (ms := ms1) (Z := Z1) r7] at e7
          refine ⟨a, us, j, _, rfl, rfl, .of hu, e7, ?_⟩
          refine FR.use f1 p1 fun v ms2 Z2 H2 G2 d e8 g2 f2 r2 p2 => ?_
          split at p2
          · rename_i y0
            rw [show v = .int y0 from rep_int (K := X.K) (ms := ms2) (Z := Z2) r2]
            refine ⟨x0, y0, rfl, rfl, ?_⟩
            obtain ⟨env1, e9, p3⟩ := OutR.nxO p2
            obtain ⟨d1, d', e10, e11, rfl⟩ := ownSet_inv e9
            rw [ed] at e10; cases e10
            obtain ⟨b, eb, z2, m2, o2⟩ := f2.s.own ed
            rw [ea] at eb; cases eb
            simp only [OwnAt] at o2
            obtain ⟨us2, hu2, ru2⟩ := o2
            simp only [setD, Option.map_eq_some_iff] at e11
            obtain ⟨t, e12, rfl⟩ := e11
            refine ⟨a, us2, j, t, rfl, rfl, hu2, by rw [← ru2.len]; exact e12, p3 _ ms2 Z2 _ (f2.put ed ea ?_)⟩
            exact ⟨_, upd_same, ru2.set t (by simp only [Rep])⟩
          · exact p2.elim
        · exact p1.elim
      · exact p1.elim
    · rw [if_neg ho] at pp; exact pp.elim
  · cases h
theorem ss_rais (c m : Str) : SSt P cn cl n N ex (.rais c m) := by
  intro fr sc fb s h W X g F hF
  simp only [chkS] at h
  have gx := g.gx
  split at h
  · simp only [Bool.and_eq_true, decide_eq_true_eq] at h
    obtain ⟨⟨⟨rfl, h1⟩, h2⟩, h3⟩ := h
    obtain ⟨C, B, nI, iI, bm, k1, k2, k3, k4, k5, k6⟩ := g.xc c (by simpa using h3)
    obtain ⟨n1, _, _⟩ := nmB_ok h2
    refine PS.weak (ps_raise gx.calm gx.tk (pmk_own k1 k2 k3 k4 k5 (gx.gl h1) n1)) fun D σ H ⟨ms, Z, G, env, f, pp⟩ => ?_
    simp only [exec] at pp
    exact ⟨c, C, rfl, rfl, k6, pp σ ms Z H f⟩
  · cases h

theorem ss_appPop (i : Nat) (x : Str) (j : Nat) (y : Str) (k : E) : SSt P cn cl n N ex (.appPop i x j y k) := by
  intro fr sc fb s h W X g F hF
  simp only [chkS] at h
  have gx := g.gx
  split at h
  · simp only [Bool.and_eq_true, decide_eq_true_eq] at h
    obtain ⟨⟨⟨⟨⟨⟨⟨rfl, rfl⟩, h2⟩, h3⟩, h4⟩, h5⟩, h6⟩, h7⟩ := h
    have pk := (all_E (cl := cl) (n := n) k).1.gen h4 gx
    have inner := fun p => pe_bm PySem.F.plainAttrs_list PySem.F.slot_list_pop PySem.F.type_list_pop mt_popAt (nmV_ok gx h3 (pos := p)) (pa_cons pk pa_nil (star_cons h5)) (base_no (by rfl)) (few1 h5) h7 (star_cons h5) (by rfl)
    refine PS.weak (ps_expr (pe_bm PySem.F.plainAttrs_list PySem.F.slot_list_append PySem.F.type_list_append mt_append (nmV_ok gx h2) (pa_cons (inner _) pa_nil (star_cons (by rfl))) (base_no (by rfl)) (few1 (by rfl)) h6 (star_cons (by rfl)) (by rfl)) (noLc_swap rfl _ _ _)) fun D σ H ⟨ms, Z, G, env, f, pp⟩ => ?_
    simp only [exec] at pp
    by_cases ho : (ownL env i && ownL env j && !(i == j)) = true
    · rw [if_pos ho] at pp
      simp only [Bool.and_eq_true, Bool.not_eq_true', beq_eq_false_iff_ne, ne_eq] at ho
      obtain ⟨⟨oi, oj⟩, ne⟩ := ho
      obtain ⟨ds, a, xs, e1, e2, e3, r⟩ := ownL_inv f oi
      obtain ⟨es, b, ys, f1', f2', f3', rb⟩ := ownL_inv f oj
      refine ⟨.ref a, e2, ty_lst e3, .ref b, f2', ty_lst f3', ?_⟩
      refine FR.use f pp fun kv ms1 Z1 H1 G1 d ee g1 f1 r1 p1 => ?_
      rw [f1'] at p1
      simp only at p1
      cases ep : popD (.lst es) d with
      | none => rw [ep] at p1; exact p1.elim
      | some q =>
        obtain ⟨x0, r0⟩ := q
        rw [ep] at p1
        simp only at p1
        obtain ⟨es', b', ys', g1', g2', g3', rb'⟩ := ownL_inv f1 oj
        rw [f1'] at g1'; cases g1'
        rw [f2'] at g2'; cases g2'
        cases d <;> simp only [popD] at ep <;> first
          | (cases ep; done)
          | skip
        rename_i ki
        split at ep
        · rename_i hlim
          cases e4 : ixN es.length ki with
          | none => rw [e4] at ep; cases ep
          | some jj =>
            rw [e4] at ep
            simp only [Option.bind] at ep
            rw [Option.map_eq_some_iff] at ep
            obtain ⟨x1, e5, e6⟩ := ep
            cases e6
            obtain ⟨u, hu, ru⟩ := rb'.getD e5
            have hL : (LIM : Int) = 1000000 := rfl
            rw [show kv = .int ki from rep_int (K := X.K) (ms := ms1) (Z := Z1) r1]
            have f2 := f1.put (o := .lst (ys'.eraseIdx jj)) (d' := .lst (es.eraseIdx jj)) f1' f2' ⟨_, upd_same, rb'.erase jj⟩
            obtain ⟨env1, e7, p2⟩ := OutR.nxO p1
            obtain ⟨d0, d', e8, e9, rfl⟩ := ownSet_inv e7
            rw [List.getElem?_set_ne (Ne.symm ne), e1] at e8
            cases e8
            simp only [appD] at e9
            split at e9
            · rename_i hl2
              cases e9
              have e1' : (env.set j (.own (.lst (es.eraseIdx jj))))[i]? = some (.own (.lst ds)) := by rw [List.getElem?_set_ne (Ne.symm ne)]; exact e1
              obtain ⟨a', ea, z, m, o⟩ := f2.s.own e1'
              rw [e2] at ea; cases ea
              simp only [OwnAt] at o
              obtain ⟨xs', hx, rx⟩ := o
              have lx := rx.len
              have := LIM_line
              refine ⟨b, ys', ki, jj, u, rfl, rfl, g3', by omega, by omega, by rw [← rb'.len]; exact (ixN_seq e4).1, hu, ?_⟩
              refine ⟨a, xs', u, rfl, rfl, hx, by omega, p2 _ ms1 Z1 _ (f2.put e1' e2 ?_)⟩
              exact ⟨_, upd_same, rx.append (.cons ru .nil)⟩
            · cases e9
        · cases ep
    · rw [if_neg ho] at pp; exact pp.elim
  · cases h
theorem ss_ins (i : Nat) (x : Str) (k e : E) : SSt P cn cl n N ex (.ins i x k e) := by
  intro fr sc fb s h W X g F hF
  simp only [chkS] at h
  have gx := g.gx
  split at h
  · simp only [Bool.and_eq_true, decide_eq_true_eq] at h
    obtain ⟨⟨⟨⟨⟨⟨rfl, h2⟩, h3⟩, h3'⟩, h4⟩, h4'⟩, h5⟩ := h
    have pk := (all_E (cl := cl) (n := n) k).1.gen h3 gx
    have pe := (all_E (cl := cl) (n := n) e).1.gen h3' gx
    refine PS.weak (ps_expr (pe_bm PySem.F.plainAttrs_list PySem.F.slot_list_insert PySem.F.type_list_insert mt_insert (nmV_ok gx h2) (pa_cons pk (pa_cons pe pa_nil (star_cons h4')) (star_cons h4)) (base_no (by rfl)) (few2 h4 h4') h5 (star_cons h4) (star_none (l := [_]) (by simp [h4']))) (noLc_swap rfl _ _ _)) fun D σ H ⟨ms, Z, G, env, f, pp⟩ => ?_
    simp only [exec] at pp
    by_cases ho : ownL env i = true
    · rw [if_pos ho] at pp
      obtain ⟨ds, a, xs, e1, e2, e3, r⟩ := ownL_inv f ho
      refine ⟨.ref a, e2, ty_lst e3, ?_⟩
      refine FR.use f pp fun kv ms1 Z1 H1 G1 kd ee g1 f1 r1 p1 => ?_
      refine FR.use f1 p1 fun b ms2 Z2 H2 G2 d ee2 g2 f2 r2 p2 => ?_
      obtain ⟨env1, e4, p3⟩ := OutR.nxO p2
      obtain ⟨d0, d', e5, e6, rfl⟩ := ownSet_inv e4
      rw [e1] at e5; cases e5
      cases kd <;> simp only [insD] at e6 <;> first
        | (cases e6; done)
        | skip
      rename_i ki
      split at e6
      · rename_i hlim
        cases e6
        obtain ⟨ds', a', xs', e1', e2', e3', r'⟩ := ownL_inv f2 ho
        rw [e1] at e1'; cases e1'
        rw [e2] at e2'; cases e2'
        have := r'.len
        have := LIM_line
        have hL : (LIM : Int) = 1000000 := rfl
        rw [show kv = .int ki from rep_int (K := X.K) (ms := ms1) (Z := Z1) r1]
        refine ⟨a, xs', ki, b, rfl, rfl, e3', by omega, hlim.2.1, by omega, p3 _ ms2 Z2 _ (f2.put e1 e2 ?_)⟩
        exact ⟨_, upd_same, ((r'.take ki.toNat).append (.cons r2 .nil)).append (r'.drop ki.toNat)⟩
      · cases e6
    · rw [if_neg ho] at pp; exact pp.elim
  · cases h
theorem ss_asgPop (i : Nat) (x : Str) (j : Nat) (y : Str) (k : E) : SSt P cn cl n N ex (.asgPop i x j y k) := by
  intro fr sc fb s h W X g F hF
  simp only [chkS] at h
  have gx := g.gx
  split at h
  · simp only [Bool.and_eq_true, decide_eq_true_eq] at h
    obtain ⟨⟨⟨⟨⟨rfl, h2⟩, h3⟩, h4⟩, h5⟩, h7⟩ := h
    simp only [nmS, Bool.and_eq_true, decide_eq_true_eq] at h2
    obtain ⟨⟨rfl, hn⟩, hst⟩ := h2
    obtain ⟨o1, o2⟩ := stoB_ok gx hst
    have pk := (all_E (cl := cl) (n := n) k).1.gen h4 gx
    have inner := fun p => pe_bm PySem.F.plainAttrs_list PySem.F.slot_list_pop PySem.F.type_list_pop mt_popAt (nmV_ok gx h3 (pos := p)) (pa_cons pk pa_nil (star_cons h5)) (base_no (by rfl)) (few1 h5) h7 (star_cons h5) (by rfl)
    refine PS.weak (ps_set (i := i) (by rw [gx.hN]; exact gx.nd) (by rw [gx.hN]; exact hn) o1 (inner _) (noLc_swap rfl _ _ _) o2) fun D σ H ⟨ms, Z, G, env, f, pp⟩ => ?_
    simp only [exec] at pp
    by_cases ho : (ownL env j && !(i == j)) = true
    · rw [if_pos ho] at pp
      simp only [Bool.and_eq_true, Bool.not_eq_true', beq_eq_false_iff_ne, ne_eq] at ho
      obtain ⟨oj, ne⟩ := ho
      obtain ⟨es, b, ys, f1', f2', f3', rb⟩ := ownL_inv f oj
      refine ⟨.ref b, f2', ty_lst f3', ?_⟩
      refine FR.use f pp fun kv ms1 Z1 H1 G1 d ee g1 f1 r1 p1 => ?_
      rw [f1'] at p1
      simp only at p1
      cases ep : popD (.lst es) d with
      | none => rw [ep] at p1; exact p1.elim
      | some q =>
        obtain ⟨x0, r0⟩ := q
        rw [ep] at p1
        simp only at p1
        obtain ⟨es', b', ys', g1', g2', g3', rb'⟩ := ownL_inv f1 oj
        rw [f1'] at g1'; cases g1'
        rw [f2'] at g2'; cases g2'
        cases d <;> simp only [popD] at ep <;> first
          | (cases ep; done)
          | skip
        rename_i ki
        split at ep
        · rename_i hlim
          cases e4 : ixN es.length ki with
          | none => rw [e4] at ep; cases ep
          | some jj =>
            rw [e4] at ep
            simp only [Option.bind] at ep
            rw [Option.map_eq_some_iff] at ep
            obtain ⟨x1, e5, e6⟩ := ep
            cases e6
            obtain ⟨u, hu, ru⟩ := rb'.getD e5
            have hL : (LIM : Int) = 1000000 := rfl
            rw [show kv = .int ki from rep_int (K := X.K) (ms := ms1) (Z := Z1) r1]
            have f2 := f1.put (o := .lst (ys'.eraseIdx jj)) (d' := .lst (es.eraseIdx jj)) f1' f2' ⟨_, upd_same, rb'.erase jj⟩
            refine ⟨b, ys', ki, jj, u, rfl, rfl, g3', by omega, by omega, by rw [← rb'.len]; exact (ixN_seq e4).1, hu, p1 _ ms1 Z1 _ (f2.set ru)⟩
        · cases ep
    · rw [if_neg ho] at pp; exact pp.elim
  · cases h
theorem nodup_ix : ∀ {l : List Addr} {i j : Nat} {a : Addr}, l.Nodup → l[i]? = some a → l[j]? = some a → i = j
  | [], i, j, a, _, h, _ => by simp at h
  | b :: l, 0, 0, a, _, _, _ => rfl
  | b :: l, 0, j + 1, a, n, h1, h2 => by
    simp at h1 h2
    subst h1
    exact absurd (List.mem_of_getElem? h2) (List.nodup_cons.mp n).1
  | b :: l, i + 1, 0, a, n, h1, h2 => by
    simp at h1 h2
    subst h2
    exact absurd (List.mem_of_getElem? h1) (List.nodup_cons.mp n).1
  | b :: l, i + 1, j + 1, a, n, h1, h2 => by
    simp at h1 h2
    rw [nodup_ix (List.nodup_cons.mp n).2 h1 h2]
/-- a cell is changed -/
theorem FR.cell {K : Fg} {F : Fr} {ms : List Addr} {Z H : Hp} {G : Gs} {σ : Sg} {env : Ev} {m : Nat} {a : Addr} {ds : List D} {xs : List V} (f : FR K cl F ms Z H G σ env) (ea : ms[m]? = some a) (r : Reps K ms Z ds xs) (hf : flats ds = true) : FR K cl F ms Z (L2.upd H a (.lst xs)) (G.set m (.lst ds)) σ env := by
  have am : a ∈ ms := List.mem_of_getElem? ea
  have za := f.w.mz a am
  refine ⟨⟨fun b u e => ?_, f.w.mz, f.w.nd, by rw [List.length_set]; exact f.w.ln, fun i b c e1 e2 => ?_, fun c h => ?_⟩, ⟨f.s.len, fun i o t h1 h2 => ?_, f.s.sep⟩, ⟨f.g.zz, f.g.zn, fun b u h hm => ?_, fun b u h => ?_, f.g.mm, f.g.mn⟩, f.fz, f.fm, f.ow⟩
  · have ne : b ≠ a := fun q => by subst q; rw [za] at e; cases e
    rcases f.w.zs b u e with q | ⟨q, ob, q'⟩
    · exact .inl (by rw [upd_ne ne]; exact q)
    · exact .inr ⟨q, ob, by rw [upd_ne ne]; exact q'⟩
  · rw [List.getElem?_set] at e2
    by_cases q : m = i
    · subst q
      rw [ea] at e1; cases e1
      rw [if_pos rfl] at e2
      split at e2
      · cases e2
        simp only [CellRep]
        exact ⟨xs, upd_same, r⟩
      · cases e2
    · rw [if_neg q] at e2
      have ne : b ≠ a := fun q2 => q (by
        subst q2
        exact nodup_ix f.w.nd ea e1)
      have := f.w.gl i b c e1 e2
      cases c <;> simp only [CellRep] at this ⊢ <;> rw [upd_ne ne] <;> exact this
  · rcases List.mem_or_eq_of_mem_set h with h | h
    · exact f.w.fl c h
    · rw [h]; exact hf
  · have := f.s.at_ i o t h1 h2
    cases t with
    | un => trivial
    | val d => exact this
    | own d2 =>
      obtain ⟨b, rfl, z2, m2, o2⟩ := this
      have ne : b ≠ a := fun q => m2 (q ▸ am)
      refine ⟨b, rfl, z2, m2, ?_⟩
      cases d2 <;> simp only [OwnAt] at o2 ⊢ <;> rw [upd_ne ne] <;> exact o2
  · have ne : b ≠ a := fun q => by
      subst q
      rcases f.g.mn b am with q | q
      · exact hm q
      · rw [h] at q; cases q
    rw [upd_ne ne]; exact f.g.hh b u h hm
  · by_cases q : b = a
    · subst q; exact ⟨_, upd_same⟩
    · rw [upd_ne q]; exact f.g.hk b u h
theorem flats_set : ∀ {ds : List D} {i : Nat} {d : D}, flats ds = true → flat d = true → flats (ds.set i d) = true
  | [], i, d, _, _ => by simp [flats]
  | a :: ds, 0, d, h, h2 => by
    simp only [List.set_cons_zero, flats, Bool.and_eq_true] at h ⊢
    exact ⟨h2, h.2⟩
  | a :: ds, i + 1, d, h, h2 => by
    simp only [List.set_cons_succ, flats, Bool.and_eq_true] at h ⊢
    exact ⟨h.1, flats_set h.2 h2⟩
theorem ss_setg (o k e : E) : SSt P cn cl n N ex (.setg o k e) := by
  intro fr sc fb s h W X g F hF
  simp only [chkS] at h
  have gx := g.gx
  split at h
  · simp only [Bool.and_eq_true] at h
    obtain ⟨⟨⟨h1, h2⟩, h3⟩, h4⟩ := h
    refine PS.weak (ps_asg ((all_E (cl := cl) (n := n) e).1.gen h3 gx) (pg_sub ((all_E (cl := cl) (n := n) o).1.gen h1 gx) ((all_E (cl := cl) (n := n) k).1.gen h2 gx) set_list (ass_sub h4)) swp_sub1 swp_sub2 (by rfl)) fun D σ H ⟨ms, Z, G, env, f, pp⟩ => ?_
    simp only [exec] at pp
    refine FR.use f pp fun v ms1 Z1 H1 G1 d e1 g1 f1 r1 p1 => ?_
    refine FR.use f1 p1 fun ov ms2 Z2 H2 G2 od e2 g2 f2 r2 p2 => ?_
    refine FR.use f2 p2 fun kv ms3 Z3 H3 G3 kd e3 g3 f3 r3 p3 => ?_
    have r1' := (Rep.grow r1 g2).grow g3
    have r2' : Rep X.K ms3 Z3 od ov := Rep.grow r2 g3
    split at p3
    · rename_i m
      split at p3
      · rename_i ds ki em
        simp only [Rep] at r2'
        obtain ⟨a, ea, rfl⟩ := r2'
        rw [show kv = .int ki from rep_int (K := X.K) (ms := ms3) (Z := Z3) r3]
        have cr := f3.w.gl m a _ ea em
        simp only [CellRep] at cr
        obtain ⟨xs, hx, rx⟩ := cr
        have hfl := f3.w.fl _ (List.mem_of_getElem? em)
        split at p3
        · rename_i jj ej
          split at p3
          · rename_i hfd
            exact ⟨a, xs, ki, jj, rfl, rfl, hx, by rw [← rx.len]; exact ej, p3 _ ms3 Z3 _ (f3.cell ea (rx.set jj r1') (flats_set hfl hfd))⟩
          · exact p3.elim
        · exact p3.elim
      · exact p3.elim
    · exact p3.elim
  · cases h
mutual
theorem all_S : ∀ s : S, isFrz s = true ∨ SSt P cn cl n N ex s
  | .pass => .inr ss_pass
  | .doc => .inr ss_doc
  | .cont => .inr ss_cont
  | .brk => .inr ss_brk
  | .retN => .inr ss_retN
  | .asg t e => .inr (ss_asg t e)
  | .asgF i x e => .inr (ss_asgF i x e)
  | .frz i => .inl rfl
  | .app i x e => .inr (ss_app i x e)
  | .ext i x e => .inr (ss_ext i x e)
  | .ins i x k e => .inr (ss_ins i x k e)
  | .asgPop i x j y k => .inr (ss_asgPop i x j y k)
  | .pop _ _ _ => .inr fun fr sc fb a h => by simp [chkS] at h
  | .appPop i x j y k => .inr (ss_appPop i x j y k)
  | .seti i x k e => .inr (ss_seti i x k e)
  | .setg a k e => .inr (ss_setg a k e)
  | .aug i x e => .inr (ss_aug i x e)
  | .augi i x k e => .inr (ss_augi i x k e)
  | .ex e => .inr (ss_ex e)
  | .ret e => .inr (ss_ret e)
  | .ite c a b => .inr (ss_ite (all_Ss a) (all_Ss b))
  | .for_ t it b ws => .inr (ss_for (all_Ss b) ws)
  | .whl c b ws => .inr (ss_whl (all_Ss b) ws)
  | .rais c m => .inr (ss_rais c m)
  | .try_ b cs => .inr (ss_try (all_Ss b) cs)
theorem all_Ss : ∀ ss : Ss, SSs P cn cl n N ex ss
  | .nil => sss_nil
  | .cons s ss => sss_cons (all_S s) (all_Ss ss)
end
end
end MP

namespace MP
open PySem PySem.Spec PyProof.Rows L2

/-! ### defs -/
theorem slots_start {K : Fg} {ms : List Addr} {Z H : Hp} {N : List Str} {ds : List D} {vs : List V} (r : Reps K ms Z ds vs) : SlotsOk K ms Z H (L2.start N vs) (startE N.length ds) where
  len := by unfold L2.start startE; simp [r.len]
  at_ := fun i o s h1 h2 => by
    unfold L2.start at h1
    unfold startE at h2
    have l := r.len
    by_cases hi : i < vs.length
    · rw [List.getElem?_append_left (by simpa using hi), List.getElem?_map] at h1
      rw [List.getElem?_append_left (by simpa [l] using hi), List.getElem?_map] at h2
      cases e : ds[i]? with
      | none => rw [e] at h2; cases h2
      | some d =>
        rw [e] at h2
        cases h2
        obtain ⟨x, e2, rr⟩ := r.getD e
        rw [e2] at h1
        cases h1
        exact ⟨x, rfl, rr⟩
    · rw [List.getElem?_append_right (by simp [l]; omega), List.getElem?_replicate] at h2
      split at h2
      · cases h2; trivial
      · cases h2
  sep := fun i j a d e h1 _ _ _ => by
    unfold startE at h1
    by_cases hi : i < ds.length
    · rw [List.getElem?_append_left (by simpa using hi), List.getElem?_map] at h1
      cases q : ds[i]? with
      | none => rw [q] at h1; cases h1
      | some d => rw [q] at h1; cases h1
    · rw [List.getElem?_append_right (by simp; omega), List.getElem?_replicate] at h1
      split at h1 <;> cases h1
theorem start_noown {n : Nat} {ds : List D} {i : Nat} {d : D} : (startE n ds)[i]? ≠ some (.own d) := fun h1 => by
  unfold startE at h1
  by_cases hi : i < ds.length
  · rw [List.getElem?_append_left (by simpa using hi), List.getElem?_map] at h1
    cases q : ds[i]? with
    | none => rw [q] at h1; cases h1
    | some d => rw [q] at h1; cases h1
  · rw [List.getElem?_append_right (by simp; omega), List.getElem?_replicate] at h1
    split at h1 <;> cases h1

/-- what stands of the text behind the top -/
structure Top (P : Program) (w : World) (K : Fg) (mg : Str → Option Value) (Pr : Prog) (cn : Str → Option D) (cl : ClsOf) (ex : List Str) : Prop where
  defs : ∀ f fd, Pr f = some fd → ∃ (st : Stmt) (a : Addr) (fdd : FuncData), Fun K f f st a fdd ∧ mg f = some (.ref a) ∧ FnScope fd.N fd.ps (defScope st) ∧ Binds K fdd fd.ps [] ∧ chkSs Pr cn fd.N ex fd.fr (defScope st) (fun _ => true) fd.body (defBody st) = true
  bts : ∀ x ∈ builtinNames, mg x = none
  cns : ∀ x d, cn x = some d → ∃ u v, mg x = some u ∧ RelV v u ∧ ∀ ms Z, Rep K ms Z d v
  exs : ∀ c, c ∈ ex → ∃ (C : Addr) (B newId initId : String) (bmB : List Value), ExcBaseFacts B newId initId bmB ∧ PySem.W.excIn K C bmB newId = true ∧ mg c = some (.ref C) ∧ PySem.W.keepIn K (.ref C) = true ∧
    PySem.W.subIn K (.ref C) (.type "BaseException") = some true ∧ PySem.W.typeIn K (.ref C) = some (.type "type") ∧ cl c = some C
  xi : ∀ c, c ∈ ex → ∀ C, cl c = some C → XcOk K mg C
  xm : ∀ c d, c ∈ ex → d ∈ ex → ∀ C D, cl c = some C → cl d = some D → PySem.W.exmOne K (.ref C) (.ref D) = some (decide (c = d))
section
variable {P : Program} {w : World} {K : Fg} {mg : Str → Option Value} {base : Heap} {Pr : Prog} {cn : Str → Option D} {cl : ClsOf} {ex : List Str}
theorem spI_len {n : Nat} {f : Str} {fd : FnDef} : ∀ vs H Q E, spI K cl Pr n f fd vs H Q E → vs.length = fd.ps.length := fun _ _ _ _ h => h.1
/-- the exceptions that leave a def -/
def Wd (cl : ClsOf) (E : XK) : WK := fun c _ H => ∀ C, cl c = some C → E (.ref C) none H
theorem body_use {n : Nat} {f : Str} {fd : FnDef} (hP : Pr f = some fd) {vs : List V} {H : Hp} {Q : VK} {E : XK} (h : spI K cl Pr (n + 1) f fd vs H Q E) :
    ∃ F : Fr, F.fr = fd.fr ∧ tS K cl (Wd cl E) F (execs (callN Pr n) fd.body) { nx := fun _ H' => Q .non H', rt := Q } (L2.start fd.N vs) H := by
  obtain ⟨hl, ms, Z, G, ds, w, r, p⟩ := h
  have hl2 : ds.length = fd.ps.length := by rw [r.len, hl]
  refine ⟨⟨ms, Z, H, fd.fr, [], fun _ => none⟩, rfl, ms, Z, G, startE fd.N.length ds, ⟨w, slots_start r, Grow.refl w, fun a o h => (by cases h), List.nil_prefix, fun i d a h _ => absurd h start_noown⟩, ?_⟩
  simp only [callN, hP, if_pos hl2] at p
  cases e : execs (callN Pr n) fd.body (startE fd.N.length ds) G with
  | no => rw [e] at p; exact p.elim
  | bk env G1 => rw [e] at p; exact p.elim
  | ct env G1 => rw [e] at p; exact p.elim
  | ex c env G1 => rw [e] at p; exact fun σ ms1 Z1 H1 fr C hC => p ms1 Z1 H1 C fr.g fr.w hC
  | nx env G1 =>
    rw [e] at p
    simp only [Out.fin, frOk, notCol, Bool.and_true] at p
    intro σ ms1 Z1 H1 fr
    cases q : fd.fr with
    | true => rw [q] at p; exact p.elim
    | false =>
      rw [q] at p
      exact p .non ms1 Z1 H1 fr.g fr.w (by show Rep _ _ _ _ _; simp only [Rep])
  | rt d G1 =>
    rw [e] at p
    simp only [Out.fin, frOk] at p
    intro v ms1 Z1 H1 g1 w1 r1
    by_cases q : (fd.fr && notCol d) = true
    · rw [if_pos q] at p; exact p.elim
    · rw [if_neg q] at p; exact p v ms1 Z1 H1 g1 w1 r1
theorem all_fns (T : Top P w K mg Pr cn cl ex) : ∀ (n : Nat) f fd, Pr f = some fd → ∃ (a : Addr) (fdd : FuncData), (∃ st : Stmt, Fun K f f st a fdd) ∧ mg f = some (.ref a) ∧ PySem.W.keepIn K (.ref a) = true ∧ Binds K fdd fd.ps [] ∧ FnOk P w K mg base (L2.CX P w) n a fdd fd.ps (spI K cl Pr n f fd)
  | 0, f, fd, hP => by
    obtain ⟨st, a, fdd, F, hm, S, hb, hc⟩ := T.defs f fd hP
    refine ⟨a, fdd, ⟨st, F⟩, hm, F.kp, hb, spI_len, fun A outer s H args us vs Q E hr e0 bt r h => ?_⟩
    obtain ⟨_, ms, Z, G, ds, _, _, p⟩ := h
    exact p.elim
  | n + 1, f, fd, hP => by
    obtain ⟨st, a, fdd, F, hm, S, hb, hc⟩ := T.defs f fd hP
    refine ⟨a, fdd, ⟨st, F⟩, hm, F.kp, hb, F.okX S spI_len fun cdv A outer s H vs Q E hr h => ?_⟩
    obtain ⟨Fm, hF, hq⟩ := body_use hP h
    refine ⟨_, all_Ss fd.body fd.fr (defScope st) (fun _ => true) (defBody st) hc (Wd cl E) _ ⟨⟨rfl, S.nd, rfl, fun _ => rfl, rfl, hr, ?_, fun f' fd' h' => (by obtain ⟨a, fdd, _, r⟩ := all_fns T n f' fd' h'; exact ⟨a, fdd, r⟩), T.bts, T.cns⟩, passes_of rfl, S.kind, rfl, rfl, T.xi, T.xm, fun c hc' => ?_⟩ Fm hF, hq⟩
    · exact Takes.imp (takes_of rfl rfl rfl rfl) fun c d σ H' ⟨c', C, e1, e2, e3, e4⟩ => by subst e1 e2; exact e4 C e3
    · obtain ⟨C, B, nI, iI, bm, k1, k2, k3, k4, k5, k6, k7⟩ := T.exs c hc'
      exact ⟨C, B, nI, iI, bm, k1, k2, k3, k4, raises_own k5 k6, k7⟩
end
/-- the law's def, at the script -/
def spScr (K : Fg) (n : Nat) : Sp := fun vs H Q _ => ∃ (a : Addr) (ns : List Int), vs = [.ref a] ∧ SqL K H a (ns.map V.int) ∧ ns.length ≤ n ∧ ∀ H', Q (.bl true) H'
theorem law_fn {P : Program} {w : World} {K : Fg} {mg : Str → Option Value} {base : Heap} {Pr : Prog} {cn : Str → Option D} {cl : ClsOf} {ex : List Str} (T : Top P w K mg Pr cn cl ex) {k n : Nat} {f : Str} {fd : FnDef} (hP : Pr f = some fd) (hps : fd.ps.length = 1) (hfr : fd.fr = false) {fa : Addr}
    (hm : mg f = some (.ref fa)) (holds : ∀ ns : List Int, ns.length ≤ n → ∃ G, callN Pr k f [.scr ns] [] = .ok (.bl true) G) :
    ∃ fdd : FuncData, (∃ st : Stmt, Fun K f f st fa fdd) ∧ FnOk P w K mg base (L2.CX P w) k fa fdd fd.ps (spScr K n) := by
  obtain ⟨a, fdd, h0, h1, _, h2, F⟩ := all_fns (base := base) T k f fd hP
  rw [hm] at h1
  cases h1
  refine ⟨fdd, h0, F.imp fun vs H Q E ⟨a, ns, e, s, hl, q⟩ => ?_⟩
  subst e
  obtain ⟨G, hG⟩ := holds ns hl
  refine ⟨by rw [hps]; rfl, [], H, [], [.scr ns], ⟨fun a o h => .inl h, fun a h => by simp at h, List.nodup_nil, rfl, fun i a c h => by simp at h, fun c h => by simp at h⟩, ?_, ?_⟩
  · refine .cons ?_ .nil
    simp only [Rep]
    exact ⟨a, rfl, s⟩
  · rw [hG]
    intro v ms' Z' H' g' w' r
    rw [hfr] at r
    have r : Rep K ms' Z' (.bl true) v := r
    simp only [Rep] at r
    rw [r]; exact q H'
end MP

namespace CM
open PySem hiding exec execs start
open PySem.Spec PyProof.Rows L2 MP

/-! ### the evaluator, by equations -/
section
variable {cf : CallF} {env : Ev} {G : Gs} {s : Sl} {d x y : D}
def gv (env : Ev) (i : Nat) (G : Gs) : Res D := match env[i]? with
  | some (.val d) => .ok d G
  | _ => .no
def go (env : Ev) (i : Nat) (G : Gs) : Res D := match env[i]? with
  | some (.own d) => .ok d G
  | _ => .no
theorem gv0 : gv (.val d :: env) 0 G = .ok d G := rfl
theorem gvS {i : Nat} : gv (s :: env) (i + 1) G = gv env i G := rfl
theorem go0 : go (.own d :: env) 0 G = .ok d G := rfl
theorem goS {i : Nat} : go (s :: env) (i + 1) G = go env i G := rfl
theorem ev_var {i : Nat} {x : Str} : ev cf (.var i x) env G = gv env i G := by simp only [ev]; try rfl
theorem ev_own {i : Nat} {x : Str} : ev cf (.own i x) env G = go env i G := by simp only [ev]; try rfl
theorem ev_non : ev cf .non env G = .ok .non G := by simp only [ev]
theorem ev_bl {b : Bool} : ev cf (.bl b) env G = .ok (.bl b) G := by simp only [ev]
theorem ev_int {b : Int} : ev cf (.int b) env G = .ok (.int b) G := by simp only [ev]
theorem ev_str {b : Str} : ev cf (.str b) env G = .ok (.str b) G := by simp only [ev]
theorem ev_glb {b : Str} : ev cf (.glb b d) env G = .ok d G := by simp only [ev]
theorem ev_tup {k : Bool} {es : Es} : ev cf (.tup k es) env G = (evs cf es env G).bind fun ds G => .ok (.tup k ds) G := by simp only [ev]
theorem ev_lst {es : Es} : ev cf (.lst es) env G = (evs cf es env G).bind fun ds G => .ok (.lst ds) G := by simp only [ev]
theorem ev_dK0 : ev cf .dK0 env G = .ok (.dK [] []) G := by simp only [ev]
theorem ev_dT0 : ev cf .dT0 env G = .ok (.dT [] []) G := by simp only [ev]
theorem ev_bin {o : BOp} {a b : E} : ev cf (.bin o a b) env G = (ev cf a env G).bind fun x G => (ev cf b env G).bind fun y G => .lift (binD o x y) G := by simp only [ev]
theorem ev_cat {a b : E} : ev cf (.cat a b) env G = (ev cf a env G).bind fun x G => (ev cf b env G).bind fun y G => .lift (catD x y) G := by simp only [ev]
theorem ev_rep {a b : E} : ev cf (.rep a b) env G = (ev cf a env G).bind fun x G => (ev cf b env G).bind fun y G => .lift (repD x y) G := by simp only [ev]
def negR (x : D) (G : Gs) : Res D := match x with
  | .int i => .ok (.int (-i)) G
  | _ => .no
theorem negR_int {i : Int} : negR (.int i) G = .ok (.int (-i)) G := rfl
theorem ev_neg {a : E} : ev cf (.neg a) env G = (ev cf a env G).bind negR := by simp only [ev]; try rfl
def notR (x : D) (G : Gs) : Res D := match truth x with
  | some b => .ok (.bl (!b)) G
  | none => .no
theorem notR_of {b : Bool} (h : truth x = some b) : notR x G = .ok (.bl (!b)) G := by unfold notR; rw [h]
theorem notR_bl {b : Bool} : notR (.bl b) G = .ok (.bl (!b)) G := rfl
theorem ev_not {a : E} : ev cf (.not a) env G = (ev cf a env G).bind notR := by simp only [ev]; try rfl
def blR (o : Option Bool) (G : Gs) : Res D := match o with
  | some c => .ok (.bl c) G
  | none => .no
theorem blR_some {b : Bool} : blR (some b) G = .ok (.bl b) G := rfl
theorem ev_cmp {o : COp} {a b : E} : ev cf (.cmp o a b) env G = (ev cf a env G).bind fun x G => (ev cf b env G).bind fun y G => blR (cmpD o x y) G := by simp only [ev]; try rfl
def chR (o : Option Bool) (r : Gs → Res D) (G : Gs) : Res D := match o with
  | some true => r G
  | some false => .ok (.bl false) G
  | none => .no
theorem chR_t {r : Gs → Res D} : chR (some true) r G = r G := rfl
theorem chR_f {r : Gs → Res D} : chR (some false) r G = .ok (.bl false) G := rfl
theorem ev_chn {o p : COp} {a b c : E} : ev cf (.chn o p a b c) env G = (ev cf a env G).bind fun x G => (ev cf b env G).bind fun y G => chR (cmpD o x y) (fun G => (ev cf c env G).bind fun z G => blR (cmpD p y z) G) G := by simp only [ev]; try rfl
theorem ev_and {es : Es} : ev cf (.and es) env G = evAnd cf es env G := by simp only [ev]
theorem ev_or {es : Es} : ev cf (.or es) env G = evOr cf es env G := by simp only [ev]
def bR (x : D) (G : Gs) : Res D := match x with
  | .bl b => .ok (.bl b) G
  | _ => .no
theorem bR_bl {b : Bool} : bR (.bl b) G = .ok (.bl b) G := rfl
def anR (r : Gs → Res D) (x : D) (G : Gs) : Res D := match x with
  | .bl true => r G
  | .bl false => .ok (.bl false) G
  | _ => .no
def orR (r : Gs → Res D) (x : D) (G : Gs) : Res D := match x with
  | .bl false => r G
  | .bl true => .ok (.bl true) G
  | _ => .no
theorem anR_t {r : Gs → Res D} : anR r (.bl true) G = r G := rfl
theorem anR_f {r : Gs → Res D} : anR r (.bl false) G = .ok (.bl false) G := rfl
theorem anR_b {r : Gs → Res D} {b : Bool} : anR r (.bl b) G = if b = true then r G else .ok (.bl false) G := by cases b <;> rfl
theorem orR_t {r : Gs → Res D} : orR r (.bl true) G = .ok (.bl true) G := rfl
theorem orR_f {r : Gs → Res D} : orR r (.bl false) G = r G := rfl
theorem orR_b {r : Gs → Res D} {b : Bool} : orR r (.bl b) G = if b = true then .ok (.bl true) G else r G := by cases b <;> rfl
theorem and_one {e : E} : evAnd cf (.cons e .nil) env G = (ev cf e env G).bind bR := by simp only [evAnd]; try rfl
theorem and_more {e f : E} {es : Es} : evAnd cf (.cons e (.cons f es)) env G = (ev cf e env G).bind (anR fun G => evAnd cf (.cons f es) env G) := rfl
theorem or_one {e : E} : evOr cf (.cons e .nil) env G = (ev cf e env G).bind bR := by simp only [evOr]; try rfl
theorem or_more {e f : E} {es : Es} : evOr cf (.cons e (.cons f es)) env G = (ev cf e env G).bind (orR fun G => evOr cf (.cons f es) env G) := rfl
theorem ev_ife {c a b : E} : ev cf (.ife c a b) env G = ((ev cf c env G).bindO truth).bind fun x G => if x then ev cf a env G else ev cf b env G := by simp only [ev]
theorem ev_idx {a b : E} : ev cf (.idx a b) env G = (ev cf a env G).bind fun x G => (ev cf b env G).bind fun y G => .lift (idxD G x y) G := by simp only [ev]
theorem ev_slc {a : E} {lo hi : Eo} : ev cf (.slc a lo hi) env G = (ev cf a env G).bind fun x G => (evo cf lo env G).bind fun l G => (evo cf hi env G).bind fun h G => .lift (slcD l h x) G := by simp only [ev]
theorem ev_rev {a : E} : ev cf (.rev a) env G = (ev cf a env G).bind fun x G => .lift (revD x) G := by simp only [ev]
def calR (h fr : Bool) (r : Res D) : Res D := match r with
  | .ok d G1 => if h && !flatR fr d then .no else .ok d G1
  | r => r
theorem calR_f {fr : Bool} {r : Res D} : calR false fr r = r := by cases r <;> rfl
theorem calR_ok {h fr : Bool} (hf : flatR fr d = true) : calR h fr (.ok d G) = .ok d G := by simp only [calR, hf, Bool.not_true, Bool.and_false, Bool.false_eq_true, if_false]
theorem calR_ex {h fr : Bool} {c : Str} : calR h fr (.ex c G) = .ex c G := rfl
theorem ev_call {fr : Bool} {f : Str} {es : Es} : ev cf (.call fr f es) env G = (evs cf es env G).bind fun ds G => calR es.hasOwn fr (cf f ds G) := by simp only [ev]; try rfl
theorem ev_prim {p : Prim} {es : Es} : ev cf (.prim p es) env G = (evs cf es env G).bind fun ds G => .lift (primD p ds) G := by simp only [ev]
theorem ev_mth {m : Mth} {a : E} {es : Es} : ev cf (.mth m a es) env G = (ev cf a env G).bind fun x G => if mthS m x then (evs cf es env G).bind fun ds G => .lift (mthD m x ds) G else .no := by simp only [ev]
theorem ev_isi {a : E} {t : Str} : ev cf (.isi a t) env G = (ev cf a env G).bind fun x G => blR (isTyD t x) G := by simp only [ev]; try rfl
def ssR (x : D) (G : Gs) : Res D := match x with
  | .lst ds => .lift ((intsOf ds).bind fun is => if (dedI is).length < 64 ∧ is.length < 4000 then some (.lst ((sortI (dedI is)).map .int)) else none) G
  | _ => .no
theorem ev_srtset {a : E} : ev cf (.srtset a) env G = (ev cf a env G).bind ssR := by simp only [ev]; try rfl
theorem ev_lrng {es : Es} : ev cf (.lrng es) env G = (evs cf es env G).bind fun ds G => .lift ((rngItems ds).map .lst) G := by simp only [ev]
theorem ev_comp {e : E} {t : Tg} {it : Src} {c : Eo} {vs : List (Str × Nat)} : ev cf (.comp e t it c vs) env G = (evI cf it env G).bind fun items G => (compL (compF cf t e c (vs.map (·.2)) env) items G).bind fun ds G => .ok (.lst ds) G := by simp only [ev]; try rfl
theorem ev_dcomp {k v : E} {t : Tg} {it : Src} {vs : List (Str × Nat)} : ev cf (.dcomp k v t it vs) env G = (evI cf it env G).bind fun items G => dcompL (dcF cf t k v (vs.map (·.2)) env) items (.dT [] []) G := by simp only [ev]; try rfl
theorem dcF_nm {i : Nat} {x : Str} {k v : E} {vs : List Nat} : dcF cf (.nm i x) k v vs env d G = (ev cf k ((wipeE env vs).set i (.val d)) G).bind fun x G => (ev cf v ((wipeE env vs).set i (.val d)) G).bind fun y G => .ok (x, y) G := rfl
theorem ev_newc {es : Es} : ev cf (.newc es) env G = (evs cf es env G).bind fun ds G => if flats ds then .ok (.glob G.length) (G ++ [.lst ds]) else .no := by simp only [ev]
theorem evs_nil : evs cf .nil env G = .ok [] G := by simp only [evs]
theorem evs_cons {e : E} {es : Es} : evs cf (.cons e es) env G = (ev cf e env G).bind fun d G => (evs cf es env G).bind fun ds G => .ok (d :: ds) G := by simp only [evs]
def inR (x : D) (G : Gs) : Res (Option Int) := match x with
  | .int i => .ok (some i) G
  | _ => .no
theorem inR_int {i : Int} : inR (.int i) G = .ok (some i) G := rfl
theorem evo_no : evo cf .no env G = .ok none G := by simp only [evo]
theorem evo_so {e : E} : evo cf (.so e) env G = (ev cf e env G).bind inR := by simp only [evo]; try rfl
theorem evI_seq {e : E} : evI cf (.seq e) env G = (ev cf e env G).bind fun d G => .lift (seqItems d) G := by simp only [evI]
theorem evI_rng {es : Es} : evI cf (.rng es) env G = (evs cf es env G).bind fun ds G => .lift (rngItems ds) G := by simp only [evI]
theorem evI_enum {e : E} : evI cf (.enum e) env G = (ev cf e env G).bind fun d G => .lift ((enumOf d).map enumItems) G := by simp only [evI]
theorem tv_not {a : E} : tv cf (.not a) env G = (tv cf a env G).bind fun b G => .ok (!b) G := by simp only [tv]
theorem tv_and {es : Es} : tv cf (.and es) env G = tvAnd cf es env G := by simp only [tv]
theorem tv_or {es : Es} : tv cf (.or es) env G = tvOr cf es env G := by simp only [tv]
theorem tv_var {i : Nat} {x : Str} : tv cf (.var i x) env G = (ev cf (.var i x) env G).bindO truth := rfl
theorem tv_own {i : Nat} {x : Str} : tv cf (.own i x) env G = (ev cf (.own i x) env G).bindO truth := rfl
theorem tv_non  : tv cf (.non) env G = (ev cf (.non) env G).bindO truth := rfl
theorem tv_bl {b : Bool} : tv cf (.bl b) env G = (ev cf (.bl b) env G).bindO truth := rfl
theorem tv_int {b : Int} : tv cf (.int b) env G = (ev cf (.int b) env G).bindO truth := rfl
theorem tv_cmp {o : COp} {a b : E} : tv cf (.cmp o a b) env G = (ev cf (.cmp o a b) env G).bindO truth := rfl
theorem tv_chn {o p : COp} {a b c : E} : tv cf (.chn o p a b c) env G = (ev cf (.chn o p a b c) env G).bindO truth := rfl
theorem tv_call {fr : Bool} {f : Str} {es : Es} : tv cf (.call fr f es) env G = (ev cf (.call fr f es) env G).bindO truth := rfl
theorem tv_prim {p : Prim} {es : Es} : tv cf (.prim p es) env G = (ev cf (.prim p es) env G).bindO truth := rfl
theorem tv_isi {a : E} {t : Str} : tv cf (.isi a t) env G = (ev cf (.isi a t) env G).bindO truth := rfl
theorem tv_idx {a b : E} : tv cf (.idx a b) env G = (ev cf (.idx a b) env G).bindO truth := rfl
theorem tv_mth {m : Mth} {a : E} {es : Es} : tv cf (.mth m a es) env G = (ev cf (.mth m a es) env G).bindO truth := rfl
theorem tv_ife {a b c : E} : tv cf (.ife a b c) env G = (ev cf (.ife a b c) env G).bindO truth := rfl
theorem tv_comp {e : E} {t : Tg} {it : Src} {c : Eo} {vs : List (Str × Nat)} : tv cf (.comp e t it c vs) env G = (ev cf (.comp e t it c vs) env G).bindO truth := rfl
theorem tv_slc {a : E} {lo hi : Eo} : tv cf (.slc a lo hi) env G = (ev cf (.slc a lo hi) env G).bindO truth := rfl
theorem tv_bin {o : BOp} {a b : E} : tv cf (.bin o a b) env G = (ev cf (.bin o a b) env G).bindO truth := rfl
/-- not, and, or: their tests are their own -/
def isBo : E → Bool
  | .not _ => true
  | .and _ => true
  | .or _ => true
  | _ => false
theorem tv_val {e : E} (h : isBo e = false) : tv cf e env G = (ev cf e env G).bindO truth := by cases e <;> first | rfl | cases h
theorem tand_one {e : E} : tvAnd cf (.cons e .nil) env G = tv cf e env G := by simp only [tvAnd]
theorem tand_more {e f : E} {es : Es} : tvAnd cf (.cons e (.cons f es)) env G = (tv cf e env G).bind fun b G => if b then tvAnd cf (.cons f es) env G else .ok false G := rfl
theorem tor_one {e : E} : tvOr cf (.cons e .nil) env G = tv cf e env G := by simp only [tvOr]
theorem tor_more {e f : E} {es : Es} : tvOr cf (.cons e (.cons f es)) env G = (tv cf e env G).bind fun b G => if b then .ok true G else tvOr cf (.cons f es) env G := rfl

/-! ### results -/
variable {α β : Type}
theorem b_ok {a : α} {f : α → Gs → Res β} : (Res.ok a G).bind f = f a G := rfl
theorem b_ex {c : Str} {f : α → Gs → Res β} : (Res.ex c G : Res α).bind f = .ex c G := rfl
theorem bo_ok {a : α} {f : α → Option β} {b : β} (h : f a = some b) : (Res.ok a G).bindO f = .ok b G := by simp only [Res.bindO, h]
theorem l_some {a : α} : Res.lift (some a) G = .ok a G := rfl
theorem s_ok {a : α} {f : α → Gs → Out} : (Res.ok a G).st env f = f a G := rfl
theorem s_ex {c : Str} {f : α → Gs → Out} : (Res.ex c G : Res α).st env f = .ex c env G := rfl
theorem q_nx {f : Ev → Gs → Out} : (Out.nx env G).seq f = f env G := rfl
theorem q_rt {f : Ev → Gs → Out} : (Out.rt d G).seq f = .rt d G := rfl
theorem q_bk {f : Ev → Gs → Out} : (Out.bk env G).seq f = .bk env G := rfl
theorem q_ct {f : Ev → Gs → Out} : (Out.ct env G).seq f = .ct env G := rfl
theorem q_nil {o : Out} : (o.seq fun env G => .nx env G) = o := by cases o <;> rfl
theorem q_nil2 {o : Out} : o.seq Out.nx = o := by cases o <;> rfl
theorem q_ex {f : Ev → Gs → Out} {c : Str} : (Out.ex c env G).seq f = .ex c env G := rfl
theorem n_some : nxO (some env) G = .nx env G := rfl
theorem f_nx : (Out.nx env G).fin = .ok .non G := rfl
theorem f_rt : (Out.rt d G).fin = .ok d G := rfl
theorem f_ex {c : Str} : (Out.ex c env G).fin = .ex c G := rfl
theorem fr_f {r : Res D} : frOk false r = r := by cases r <;> rfl
theorem fr_t {ds : List D} : frOk true (.ok (.lst ds) G) = .ok (.lst ds) G := rfl
theorem fr_k {ks : List Key} {ds : List D} : frOk true (.ok (.dK ks ds) G) = .ok (.dK ks ds) G := rfl

/-! ### statements -/
theorem x_asg {t : Tg} {e : E} : MP.exec cf (.asg t e) env G = (ev cf e env G).st env fun d G => nxO (setTg t d env) G := by simp only [MP.exec]
theorem x_asgF {i : Nat} {x : Str} {e : E} : MP.exec cf (.asgF i x e) env G = (ev cf e env G).st env fun d G => .nx (env.set i (.own d)) G := by simp only [MP.exec]
def frzO (env : Ev) (i : Nat) (G : Gs) : Out := match env[i]? with
  | some (.own d) => .nx (env.set i (.val d)) G
  | _ => .no
theorem x_frz {i : Nat} : MP.exec cf (.frz i) env G = frzO env i G := by simp only [MP.exec]; try rfl
def onL (env : Ev) (i : Nat) (f : Out) : Out := if ownL env i then f else .no
theorem onL0 {ds : List D} {f : Out} : onL (.own (.lst ds) :: env) 0 f = f := rfl
theorem onLS {i : Nat} {f : Out} : onL (s :: env) (i + 1) f = onL env i f := rfl
theorem x_app {i : Nat} {x : Str} {e : E} : MP.exec cf (.app i x e) env G = onL env i ((ev cf e env G).st env fun d G => nxO (ownSet env i (appD · d)) G) := by simp only [MP.exec]; try rfl
theorem x_ext {i : Nat} {x : Str} {e : E} : MP.exec cf (.ext i x e) env G = onL env i ((ev cf e env G).st env fun d G => nxO (ownSet env i (extD · d)) G) := by simp only [MP.exec]; try rfl
theorem x_ex {e : E} : MP.exec cf (.ex e) env G = (ev cf e env G).st env fun _ G => .nx env G := by simp only [MP.exec]
theorem x_ret {e : E} : MP.exec cf (.ret e) env G = (ev cf e env G).st env fun d G => .rt d G := by simp only [MP.exec]
theorem x_retN : MP.exec cf .retN env G = .rt .non G := by simp only [MP.exec]
theorem x_cont : MP.exec cf .cont env G = .ct env G := by simp only [MP.exec]
theorem x_brk : MP.exec cf .brk env G = .bk env G := by simp only [MP.exec]
theorem x_rais {c m : Str} : MP.exec cf (.rais c m) env G = .ex c env G := by simp only [MP.exec]
theorem x_ite {c : E} {a b : Ss} : MP.exec cf (.ite c a b) env G = (tv cf c env G).st env fun x G => if x then MP.execs cf a env G else MP.execs cf b env G := by simp only [MP.exec]
/-- a turn of a for -/
def forB (cf : CallF) (t : Tg) (body : Ss) : D → Ev → Gs → Out := fun d env G => match setTg t d env with
  | some env1 => MP.execs cf body env1 G
  | none => .no
theorem x_for {t : Tg} {it : Src} {body : Ss} {ws : List Nat} : MP.exec cf (.for_ t it body ws) env G = (evI cf it env G).st env fun items G => forL (forB cf t body) ws items (wipeE env ws) G := by simp only [MP.exec]; try rfl
theorem x_whl {c : E} {body : Ss} {ws : List Nat} : MP.exec cf (.whl c body ws) env G = whlL (tv cf c) (MP.execs cf body) ws WFUEL (wipeE env ws) G := by simp only [MP.exec]
theorem xs_nil : MP.execs cf .nil env G = .nx env G := by simp only [MP.execs]
theorem xs_cons {s : S} {ss : Ss} : MP.execs cf (.cons s ss) env G = (MP.exec cf s env G).seq fun env G => MP.execs cf ss env G := by simp only [MP.execs]
theorem forB_nm {i : Nat} {x : Str} {body : Ss} : forB cf (.nm i x) body d env G = MP.execs cf body (env.set i (.val d)) G := rfl
theorem setTg_nm {i : Nat} {x : Str} : setTg (.nm i x) d env = some (env.set i (.val d)) := rfl
theorem setTg_tp {l : List (Nat × Str)} {k : Bool} {ds : List D} : setTg (.tp l) (.tup k ds) env = setTp l ds env := rfl
theorem setTp_nil : setTp [] [] env = some env := rfl
theorem setTp_cons {i : Nat} {x : Str} {l : List (Nat × Str)} {ds : List D} : setTp ((i, x) :: l) (d :: ds) env = setTp l ds (env.set i (.val d)) := rfl
/-! ### slots -/
theorem sl0 {t : Sl} : List.set (s :: env) 0 t = t :: env := rfl
theorem slS {t : Sl} {i : Nat} : List.set (s :: env) (i + 1) t = s :: List.set env i t := rfl
theorem w_nil : wipeE env [] = env := rfl
theorem w_cons {v : Nat} {vs : List Nat} : wipeE env (v :: vs) = (wipeE env vs).set v .un := rfl
def ow (env : Ev) (i : Nat) : Option D := match env[i]? with
  | some (.own d) => some d
  | _ => none
theorem ow0 : ow (.own d :: env) 0 = some d := rfl
theorem owS {i : Nat} : ow (s :: env) (i + 1) = ow env i := rfl
theorem os_eq {i : Nat} {f : D → Option D} : ownSet env i f = (ow env i).bind fun d => (f d).map fun e => env.set i (.own e) := by
  unfold ownSet ow
  split <;> simp_all
theorem os_of {i : Nat} {f : D → Option D} {e : D} (h : ow env i = some d) (h2 : f d = some e) : ownSet env i f = some (env.set i (.own e)) := by rw [os_eq, h]; simp [h2]
theorem ob {γ δ : Type} {a : γ} {f : γ → Option δ} : (some a).bind f = f a := rfl
theorem om {γ δ : Type} {a : γ} {f : γ → δ} : (some a).map f = some (f a) := rfl
theorem call_eq {P : Prog} {n : Nat} {f : Str} {fd : FnDef} (hP : P f = some fd) {ds : List D} (hl : ds.length = fd.ps.length) : callN P (n + 1) f ds G = frOk fd.fr (MP.execs (callN P n) fd.body (startE fd.N.length ds) G).fin := by
  simp only [callN, hP, if_pos hl]
theorem st_e {n : Nat} {ds : List D} : startE n ds = ds.map .val ++ List.replicate (n - ds.length) .un := rfl

def frR (o : Option D) (env : Ev) (i : Nat) (G : Gs) : Out := match o with
  | some d => .nx (env.set i (.val d)) G
  | none => .no
theorem frR_some {i : Nat} : frR (some d) env i G = .nx (env.set i (.val d)) G := rfl
theorem frz_eq {i : Nat} : frzO env i G = frR (ow env i) env i G := by
  unfold frzO frR ow
  split <;> simp_all
def sgR (d x k : D) (env : Ev) (G : Gs) : Out := match x with
  | .glob n => (match G[n]?, k with
    | some (.lst ds), .int i => (match ixN ds.length i with
      | some j => if flat d then .nx env (G.set n (.lst (ds.set j d))) else .no
      | none => .no)
    | _, _ => .no)
  | _ => .no
theorem x_setg {a k e : E} : MP.exec cf (.setg a k e) env G = (ev cf e env G).st env fun d G => (ev cf a env G).st env fun x G => (ev cf k env G).st env fun k G => sgR d x k env G := by simp only [MP.exec]; try rfl
theorem x_seti {i : Nat} {x : Str} {k e : E} : MP.exec cf (.seti i x k e) env G = if ownC env i then (ev cf e env G).st env fun d G => (ev cf k env G).st env fun k G => nxO (ownSet env i (setD · k d)) G else .no := by simp only [MP.exec]
theorem oc0 : ownC (.own d :: env) 0 = true := rfl
theorem ocS {i : Nat} : ownC (s :: env) (i + 1) = ownC env i := rfl
def apR (o : Option D) (i j : Nat) (k : D) (env : Ev) (G : Gs) : Out := match o with
  | some d => (match popD d k with
    | some (x, r) => nxO (ownSet (env.set j (.own r)) i (appD · x)) G
    | none => .no)
  | none => .no
theorem apR_of {i j : Nat} {k r : D} (h : popD d k = some (x, r)) : apR (some d) i j k env G = nxO (ownSet (env.set j (.own r)) i (appD · x)) G := by simp only [apR, h]
theorem x_appPop {i j : Nat} {x y : Str} {k : E} : MP.exec cf (.appPop i x j y k) env G = if ownL env i && ownL env j && !(i == j) then (ev cf k env G).st env fun k G => apR (ow env j) i j k env G else .no := by
  simp only [MP.exec]
  congr 1
  congr 1
  funext k G
  unfold apR ow
  cases e : env[j]? with
  | none => rfl
  | some t => cases t <;> rfl
theorem ol0 {ds : List D} : ownL (.own (.lst ds) :: env) 0 = true := rfl
theorem olS {i : Nat} : ownL (s :: env) (i + 1) = ownL env i := rfl
theorem x_aug {i : Nat} {x : Str} {e : E} : MP.exec cf (.aug i x e) env G = match env[i]? with
    | some (.val (.int x)) => (ev cf e env G).st env fun y G => (match y with
      | .int y => .nx (env.set i (.val (.int (x + y)))) G
      | _ => .no)
    | _ => .no := by simp only [MP.exec]; try rfl
theorem evI_items {e : E} : evI cf (.items e) env G = (ev cf e env G).bind fun d G => .lift (dicItems d) G := by simp only [evI]
def agS (env : Ev) (i : Nat) (j x : Int) (y : D) (G : Gs) : Out := match y with
  | .int y => nxO (ownSet env i (setD · (.int j) (.int (x + y)))) G
  | _ => .no
theorem agS_int {i : Nat} {j x y : Int} : agS env i j x (.int y) G = nxO (ownSet env i (setD · (.int j) (.int (x + y)))) G := rfl
def agR (cf : CallF) (o : Option D) (i : Nat) (k : D) (e : E) (env : Ev) (G : Gs) : Out := match o, k with
  | some (.lst ds), .int j => (match atI ds j with
    | some (.int x) => (ev cf e env G).st env fun y G => agS env i j x y G
    | _ => .no)
  | _, _ => .no
theorem agR_of {ds : List D} {i : Nat} {j x : Int} {e : E} (h : atI ds j = some (.int x)) : agR cf (some (.lst ds)) i (.int j) e env G = (ev cf e env G).st env fun y G => agS env i j x y G := by
  simp only [agR, h]
theorem x_augi {i : Nat} {x : Str} {k e : E} : MP.exec cf (.augi i x k e) env G = if ownL env i then (ev cf k env G).st env fun k G => agR cf (ow env i) i k e env G else .no := by
  simp only [MP.exec]
  congr 1
  congr 1
  funext k G
  unfold agR ow agS
  cases q : env[i]? with
  | none => rfl
  | some t => cases t <;> first
      | rfl
      | (rename_i d; cases d <;> cases k <;> rfl)
theorem x_ins {i : Nat} {x : Str} {k e : E} : MP.exec cf (.ins i x k e) env G = if ownL env i then (ev cf k env G).st env fun k G => (ev cf e env G).st env fun d G => nxO (ownSet env i (insD · k d)) G else .no := by simp only [MP.exec]
def asP (o : Option D) (i j : Nat) (k : D) (env : Ev) (G : Gs) : Out := match o with
  | some d => (match popD d k with
    | some (x, r) => .nx ((env.set j (.own r)).set i (.val x)) G
    | none => .no)
  | none => .no
theorem asP_of {i j : Nat} {k r : D} (h : popD d k = some (x, r)) : asP (some d) i j k env G = .nx ((env.set j (.own r)).set i (.val x)) G := by simp only [asP, h]
theorem x_asgPop {i j : Nat} {x y : Str} {k : E} : MP.exec cf (.asgPop i x j y k) env G = if ownL env j && !(i == j) then (ev cf k env G).st env fun k G => asP (ow env j) i j k env G else .no := by
  simp only [MP.exec]
  congr 1
  congr 1
  funext k G
  unfold asP ow
  cases e : env[j]? with
  | none => rfl
  | some t => cases t <;> rfl
theorem setTg_tpl {l : List (Nat × Str)} {ds : List D} : setTg (.tp l) (.lst ds) env = setTp l ds env := rfl
theorem forB_tp2l {i j : Nat} {x y : Str} {body : Ss} {a b : D} : forB cf (.tp [(i, x), (j, y)]) body (.lst [a, b]) env G = MP.execs cf body ((env.set i (.val a)).set j (.val b)) G := rfl
theorem forB_tp3l {i j l : Nat} {x y z : Str} {body : Ss} {a b c : D} : forB cf (.tp [(i, x), (j, y), (l, z)]) body (.lst [a, b, c]) env G = MP.execs cf body (((env.set i (.val a)).set j (.val b)).set l (.val c)) G := rfl
theorem fl_int {i : Int} : flat (.int i) = true := rfl
theorem fls_nil : flats [] = true := rfl
theorem fls_cons {ds : List D} : flats (d :: ds) = (flat d && flats ds) := rfl

/-! ### data -/
theorem t_bl {b : Bool} : truth (.bl b) = some b := rfl
theorem t_int {i : Int} : truth (.int i) = some (i != 0) := rfl
theorem t_non : truth .non = some false := rfl
theorem t_lst {ds : List D} : truth (.lst ds) = some (!ds.isEmpty) := rfl
theorem d_add {i j : Int} : binD .add (.int i) (.int j) = some (.int (i + j)) := rfl
theorem d_sub {i j : Int} : binD .sub (.int i) (.int j) = some (.int (i - j)) := rfl
theorem d_mul {i j : Int} (h : (-18446744073709551616 < i ∧ i < 18446744073709551616) ∨ (-18446744073709551616 < j ∧ j < 18446744073709551616)) : binD .mul (.int i) (.int j) = some (.int (i * j)) := if_pos h
theorem d_fdiv {i j : Int} (h : 0 < j ∧ j < 1073741824) : binD .fdiv (.int i) (.int j) = some (.int (i / j)) := if_pos h
theorem d_mod {i j : Int} (h : 0 < j) : binD .mod (.int i) (.int j) = some (.int (i % j)) := if_pos h
theorem d_lt {i j : Int} : cmpD .lt (.int i) (.int j) = some (decide (i < j)) := rfl
theorem d_le {i j : Int} : cmpD .le (.int i) (.int j) = some (decide (i ≤ j)) := rfl
theorem d_gt {i j : Int} : cmpD .gt (.int i) (.int j) = some (decide (j < i)) := rfl
theorem d_ge {i j : Int} : cmpD .ge (.int i) (.int j) = some (decide (j ≤ i)) := rfl
theorem d_eqi {i j : Int} : cmpD .eq (.int i) (.int j) = some (i == j) := rfl
theorem d_nei {i j : Int} : cmpD .ne (.int i) (.int j) = some (!(i == j)) := rfl
theorem d_is : cmpD .iss d .non = some (match d with | .non => true | _ => false) := by cases d <;> rfl
theorem p_len {ds : List D} : primD .len1 [.lst ds] = some (.int ds.length) := rfl
theorem p_lent {k : Bool} {ds : List D} : primD .len1 [.tup k ds] = some (.int ds.length) := rfl
theorem p_lens {is : List Int} : primD .len1 [.scr is] = some (.int is.length) := rfl
theorem p_int {i : Int} : primD .int1 [.int i] = some (.int i) := rfl
theorem p_abs {i : Int} : primD .abs1 [.int i] = some (.int (if i < 0 then -i else i)) := rfl
theorem p_tup {ds : List D} : primD .tuple1 [.lst ds] = some (.tup true ds) := rfl
theorem p_tupt {k : Bool} {ds : List D} : primD .tuple1 [.tup k ds] = some (.tup k ds) := rfl
theorem p_list {ds : List D} : primD .list1 [.lst ds] = some (.lst ds) := rfl
theorem p_listt {k : Bool} {ds : List D} : primD .list1 [.tup k ds] = some (.lst ds) := rfl
theorem p_min2 {i j : Int} : primD .min2 [.int i, .int j] = some (.int (if j < i then j else i)) := rfl
theorem p_max2 {i j : Int} : primD .max2 [.int i, .int j] = some (.int (if j > i then j else i)) := rfl
theorem ix_l {ds : List D} {i : Int} : idxD G (.lst ds) (.int i) = atI ds i := rfl
theorem ix_t {k : Bool} {ds : List D} {i : Int} : idxD G (.tup k ds) (.int i) = atI ds i := rfl
theorem ix_s {is : List Int} {i : Int} : idxD G (.scr is) (.int i) = (atI is i).map .int := rfl
theorem app_d {ds : List D} (h : ds.length < 1000000) : appD (.lst ds) d = some (.lst (ds ++ [d])) := if_pos h
theorem ext_l {ds es : List D} (h : ds.length + es.length < 1000000) : extD (.lst ds) (.lst es) = some (.lst (ds ++ es)) := if_pos h
theorem ext_t {ds es : List D} (h : ds.length + es.length < 1000000) : extD (.lst ds) (.tup true es) = some (.lst (ds ++ es)) := if_pos h
/-! ### comprehensions -/
def cR (o : Option Bool) (r : Gs → Res D) (G : Gs) : Res (Option D) := match o with
  | some true => (r G).bind fun y G => .ok (some y) G
  | some false => .ok none G
  | none => .no
theorem cR_b {b : Bool} {r : Gs → Res D} : cR (some b) r G = if b = true then (r G).bind (fun y G => .ok (some y) G) else .ok none G := by cases b <;> rfl
theorem cF_no {i : Nat} {x : Str} {e : E} {vs : List Nat} : compF cf (.nm i x) e .no vs env d G = (ev cf e ((wipeE env vs).set i (.val d)) G).bind fun y G => .ok (some y) G := rfl
theorem cF_so {i : Nat} {x : Str} {e c : E} {vs : List Nat} : compF cf (.nm i x) e (.so c) vs env d G = (ev cf c ((wipeE env vs).set i (.val d)) G).bind fun x G => cR (truth x) (fun G => ev cf e ((wipeE env vs).set i (.val d)) G) G := rfl
theorem cF2_no {i j : Nat} {x y : Str} {e : E} {vs : List Nat} {k : Bool} {a b : D} : compF cf (.tp [(i, x), (j, y)]) e .no vs env (.tup k [a, b]) G = (ev cf e (((wipeE env vs).set i (.val a)).set j (.val b)) G).bind fun y G => .ok (some y) G := rfl
theorem cF2_so {i j : Nat} {x y : Str} {e c : E} {vs : List Nat} {k : Bool} {a b : D} : compF cf (.tp [(i, x), (j, y)]) e (.so c) vs env (.tup k [a, b]) G = (ev cf c (((wipeE env vs).set i (.val a)).set j (.val b)) G).bind fun x G => cR (truth x) (fun G => ev cf e (((wipeE env vs).set i (.val a)).set j (.val b)) G) G := rfl
theorem cF3_no {i j l : Nat} {x y z : Str} {e : E} {vs : List Nat} {k : Bool} {a b c : D} : compF cf (.tp [(i, x), (j, y), (l, z)]) e .no vs env (.tup k [a, b, c]) G = (ev cf e ((((wipeE env vs).set i (.val a)).set j (.val b)).set l (.val c)) G).bind fun y G => .ok (some y) G := rfl
theorem cF3_so {i j l : Nat} {x y z : Str} {e c : E} {vs : List Nat} {k : Bool} {a b h : D} : compF cf (.tp [(i, x), (j, y), (l, z)]) e (.so c) vs env (.tup k [a, b, h]) G = (ev cf c ((((wipeE env vs).set i (.val a)).set j (.val b)).set l (.val h)) G).bind fun x G => cR (truth x) (fun G => ev cf e ((((wipeE env vs).set i (.val a)).set j (.val b)).set l (.val h)) G) G := rfl
theorem forB_tp2 {i j : Nat} {x y : Str} {body : Ss} {k : Bool} {a b : D} : forB cf (.tp [(i, x), (j, y)]) body (.tup k [a, b]) env G = MP.execs cf body ((env.set i (.val a)).set j (.val b)) G := rfl
theorem forB_tp3 {i j l : Nat} {x y z : Str} {body : Ss} {k : Bool} {a b c : D} : forB cf (.tp [(i, x), (j, y), (l, z)]) body (.tup k [a, b, c]) env G = MP.execs cf body (((env.set i (.val a)).set j (.val b)).set l (.val c)) G := rfl
end
section
variable {b : Bool} {i : Int} {z : Str} {k : Bool} {l : List D} {ks : List Key} {kt : List (List Key)}
theorem ty_bool_non : isTyD "bool" .non = some false := by rfl
theorem ty_bool_bl : isTyD "bool" (.bl b) = some true := by rfl
theorem ty_bool_int : isTyD "bool" (.int i) = some false := by rfl
theorem ty_bool_str : isTyD "bool" (.str z) = some false := by rfl
theorem ty_bool_tup : isTyD "bool" (.tup k l) = some false := by rfl
theorem ty_bool_lst : isTyD "bool" (.lst l) = some false := by rfl
theorem ty_int_non : isTyD "int" .non = some false := by rfl
theorem ty_int_bl : isTyD "int" (.bl b) = some true := by rfl
theorem ty_int_int : isTyD "int" (.int i) = some true := by rfl
theorem ty_int_str : isTyD "int" (.str z) = some false := by rfl
theorem ty_int_tup : isTyD "int" (.tup k l) = some false := by rfl
theorem ty_int_lst : isTyD "int" (.lst l) = some false := by rfl
theorem ty_str_non : isTyD "str" .non = some false := by rfl
theorem ty_str_bl : isTyD "str" (.bl b) = some false := by rfl
theorem ty_str_int : isTyD "str" (.int i) = some false := by rfl
theorem ty_str_str : isTyD "str" (.str z) = some true := by rfl
theorem ty_str_tup : isTyD "str" (.tup k l) = some false := by rfl
theorem ty_str_lst : isTyD "str" (.lst l) = some false := by rfl
theorem ty_tuple_non : isTyD "tuple" .non = some false := by rfl
theorem ty_tuple_bl : isTyD "tuple" (.bl b) = some false := by rfl
theorem ty_tuple_int : isTyD "tuple" (.int i) = some false := by rfl
theorem ty_tuple_str : isTyD "tuple" (.str z) = some false := by rfl
theorem ty_tuple_tup : isTyD "tuple" (.tup k l) = some true := by rfl
theorem ty_tuple_lst : isTyD "tuple" (.lst l) = some false := by rfl
theorem ty_list_non : isTyD "list" .non = some false := by rfl
theorem ty_list_bl : isTyD "list" (.bl b) = some false := by rfl
theorem ty_list_int : isTyD "list" (.int i) = some false := by rfl
theorem ty_list_str : isTyD "list" (.str z) = some false := by rfl
theorem ty_list_tup : isTyD "list" (.tup k l) = some false := by rfl
theorem ty_list_lst : isTyD "list" (.lst l) = some true := by rfl
theorem d_eqb {b c : Bool} : cmpD .eq (.bl b) (.bl c) = some (b == c) := by cases b <;> cases c <;> rfl
theorem d_isn : cmpD .iss .non .non = some true := rfl
theorem d_isi : cmpD .iss (.int i) .non = some false := rfl
theorem d_isb : cmpD .iss (.bl b) .non = some false := rfl
theorem d_iss : cmpD .iss (.str z) .non = some false := rfl
theorem d_ist : cmpD .iss (.tup k l) .non = some false := rfl
theorem d_isl : cmpD .iss (.lst l) .non = some false := rfl
theorem d_isbb {b c : Bool} : cmpD .iss (.bl b) (.bl c) = some (b == c) := by cases b <;> cases c <;> rfl
theorem d_insbb {b c : Bool} : cmpD .isnot (.bl b) (.bl c) = some (!(b == c)) := by cases b <;> cases c <;> rfl
theorem d_isdK {vs : List D} : cmpD .iss (.dK ks vs) .non = some false := rfl
theorem p_lendK {vs : List D} : primD .len1 [.dK ks vs] = some (.int ks.length) := rfl
theorem p_lendT {vs : List D} : primD .len1 [.dT kt vs] = some (.int kt.length) := rfl
theorem ty_bool_dK {vs : List D} : isTyD "bool" (.dK ks vs) = some false := by rfl
theorem ty_int_dK {vs : List D} : isTyD "int" (.dK ks vs) = some false := by rfl
theorem ty_str_dK {vs : List D} : isTyD "str" (.dK ks vs) = some false := by rfl
theorem ty_tuple_dK {vs : List D} : isTyD "tuple" (.dK ks vs) = some false := by rfl
theorem ty_list_dK {vs : List D} : isTyD "list" (.dK ks vs) = some false := by rfl
theorem ms_i1 {ds : List D} : mthS .index1 (.tup true ds) = true := rfl
theorem ms_i2 {ds : List D} : mthS .index2 (.tup true ds) = true := rfl
theorem ms_g2 {vs : List D} : mthS .get2 (.dT kt vs) = true := rfl
theorem ms_g1 {vs : List D} : mthS .get1 (.dT kt vs) = true := rfl
theorem d_insn : cmpD .isnot .non .non = some false := rfl
theorem d_insi : cmpD .isnot (.int i) .non = some true := rfl
theorem d_inst : cmpD .isnot (.tup k l) .non = some true := rfl
theorem d_insl : cmpD .isnot (.lst l) .non = some true := rfl
theorem p_int_b : primD .int1 [.bl b] = some (.int (if b then 1 else 0)) := rfl
theorem t_tup : truth (.tup k l) = some (!l.isEmpty) := rfl
end
/-! ### written lists -/
section
variable {f : D → Gs → Res (Option D)} {body : D → Ev → Gs → Out} {ws : List Nat} {env : Ev} {G : Gs} {d : D} {ds : List D}
def cC (r : Res (Option D)) (k : Gs → Res (List D)) : Res (List D) := match r with
  | .ok o G1 => (match k G1 with
    | .ok r G2 => .ok (o.toList ++ r) G2
    | _ => .no)
  | _ => .no
def cK (y : D) (r : Res (List D)) : Res (List D) := match r with
  | .ok r G => .ok (y :: r) G
  | _ => .no
def cN (r : Res (List D)) : Res (List D) := match r with
  | .ok r G => .ok r G
  | _ => .no
theorem compL_nil : compL f [] G = .ok [] G := rfl
theorem compL_cons : compL f (d :: ds) G = cC (f d G) (compL f ds) := rfl
theorem cC_some {k : Gs → Res (List D)} : cC (.ok (some d) G) k = cK d (k G) := by simp only [cC, cK] <;> (cases k G <;> rfl)
theorem cC_none {k : Gs → Res (List D)} : cC (.ok none G) k = cN (k G) := by simp only [cC, cN] <;> (cases k G <;> rfl)
theorem cK_ok : cK d (.ok ds G) = .ok (d :: ds) G := rfl
theorem cN_ok : cN (.ok ds G) = .ok ds G := rfl
def foR (o : Out) (ws : List Nat) (k : Ev → Gs → Out) : Out := match o with
  | .nx env1 G1 => k (wipeE env1 ws) G1
  | .ct env1 G1 => k (wipeE env1 ws) G1
  | .bk env1 G1 => .nx (wipeE env1 ws) G1
  | o => o
theorem forL_nil : forL body ws [] env G = .nx env G := rfl
theorem forL_cons : forL body ws (d :: ds) env G = foR (body d env G) ws (forL body ws ds) := by simp only [forL, foR] <;> (cases body d env G <;> rfl)
theorem foR_nx {k : Ev → Gs → Out} : foR (.nx env G) ws k = k (wipeE env ws) G := rfl
theorem foR_ct {k : Ev → Gs → Out} : foR (.ct env G) ws k = k (wipeE env ws) G := rfl
theorem foR_bk {k : Ev → Gs → Out} : foR (.bk env G) ws k = .nx (wipeE env ws) G := rfl
theorem foR_rt {k : Ev → Gs → Out} : foR (.rt d G) ws k = .rt d G := rfl
theorem foR_ex {k : Ev → Gs → Out} {c : Str} : foR (.ex c env G) ws k = .ex c env G := rfl
theorem seq_l (l : List D) : seqItems (.lst l) = some l := rfl
theorem seq_t (k : Bool) (l : List D) : seqItems (.tup k l) = some l := rfl
theorem enu_l (l : List D) : enumOf (.lst l) = some l := rfl
theorem enu_t (k : Bool) (l : List D) : enumOf (.tup k l) = some l := rfl
end
end CM

namespace CM
open PySem hiding exec execs start
open PySem.Spec PyProof.Rows L2 MP
local macro_rules
  | `(tactic| simp_arith [$xs,*]) => `(tactic| simp -implicitDefEqProofs (disch := first | omega | (simp only [List.length_append, List.length_map, List.length_range, List.length_range', List.length_nil, List.length_cons, List.length_singleton, List.length_zipIdx] <;> omega)) only [gv0, gvS, go0, goS, ev_var, ev_own, ev_non, ev_bl, ev_int, ev_str, ev_glb, ev_tup, ev_lst, ev_dK0, ev_dT0, ev_bin, ev_cat, ev_rep, negR_int, ev_neg, notR_bl, ev_not, blR_some, ev_cmp, chR_t, chR_f, ev_chn, ev_and, ev_or, bR_bl, anR_t, anR_f, anR_b, orR_t, orR_f, orR_b, and_one, and_more, or_one, or_more, ev_ife, ev_idx, ev_slc, ev_rev, calR_f, calR_ok, calR_ex, ev_call, ev_prim, ev_mth, ev_isi, ev_srtset, ev_lrng, ev_comp, ev_newc, evs_nil, evs_cons, inR_int, evo_no, evo_so, evI_seq, evI_rng, evI_enum, tv_not, tv_and, tv_or, tv_var, tv_own, tv_non, tv_bl, tv_int, tv_cmp, tv_chn, tv_call, tv_prim, tv_isi, tv_idx, tv_mth, tv_ife, tv_comp, tv_slc, tv_bin, tand_one, tand_more, tor_one, tor_more, b_ok, b_ex, l_some, s_ok, s_ex, q_nx, q_rt, q_bk, q_ct, q_ex, n_some, f_nx, f_rt, f_ex, fr_f, fr_t, fr_k, x_asg, x_asgF, x_frz, onL0, onLS, x_app, x_ext, x_ex, x_ret, x_retN, x_cont, x_brk, x_rais, x_ite, x_for, x_whl, xs_nil, xs_cons, forB_nm, setTg_nm, setTg_tp, setTp_nil, setTp_cons, sl0, slS, w_nil, w_cons, ow0, owS, ob, om, st_e, frR_some, frz_eq, x_setg, x_seti, oc0, ocS, x_appPop, ol0, olS, fl_int, fls_nil, fls_cons, t_bl, t_int, t_non, t_lst, d_add, d_sub, d_mul, d_fdiv, d_mod, d_lt, d_le, d_gt, d_ge, d_eqi, d_nei, p_len, p_lent, p_lens, p_int, p_abs, p_tup, p_tupt, p_list, p_listt, p_min2, p_max2, ix_l, ix_t, ix_s, app_d, ext_l, ext_t, bo_ok (t_bl), bo_ok (t_int), bo_ok (t_lst), notR_of (t_lst), os_eq, Es.hasOwn, List.map_cons, List.map_nil, List.length_cons, List.length_nil, List.replicate_succ, List.replicate_zero, List.cons_append, List.nil_append, Nat.reduceSub, Nat.reduceAdd, Nat.sub_self, reduceIte, Bool.not_true, Bool.not_false, Bool.false_eq_true, Bool.and_self, Bool.and_true, Bool.true_and, Nat.reduceBEq, Nat.reduceEqDiff, cF_no, cF_so, cF2_no, cF2_so, cF3_no, cF3_so, cR_b, q_nil, q_nil2, forB_tp2, forB_tp3, ty_bool_non, ty_bool_bl, ty_bool_int, ty_bool_str, ty_bool_tup, ty_bool_lst, ty_int_non, ty_int_bl, ty_int_int, ty_int_str, ty_int_tup, ty_int_lst, ty_str_non, ty_str_bl, ty_str_int, ty_str_str, ty_str_tup, ty_str_lst, ty_tuple_non, ty_tuple_bl, ty_tuple_int, ty_tuple_str, ty_tuple_tup, ty_tuple_lst, ty_list_non, ty_list_bl, ty_list_int, ty_list_str, ty_list_tup, ty_list_lst, d_eqb, d_isn, d_isi, d_isb, d_iss, d_ist, d_isl, d_insn, d_insi, d_inst, d_insl, p_int_b, t_tup, compL_nil, compL_cons, cC_some, cC_none, cK_ok, cN_ok, forL_nil, forL_cons, foR_nx, foR_ct, foR_bk, foR_rt, foR_ex, seq_l, seq_t, enu_l, enu_t, ev_dcomp, dcF_nm, evI_items, agS_int, x_augi, x_ins, x_asgPop, setTg_tpl, forB_tp2l, forB_tp3l, d_isbb, d_insbb, d_isdK, p_lendK, p_lendT, ty_bool_dK, ty_int_dK, ty_str_dK, ty_tuple_dK, ty_list_dK, ms_i1, ms_i2, ms_g2, ms_g1, $xs,*])
local macro_rules
  | `(tactic| simp_arith [$xs,*] at $h:ident) => `(tactic| simp -implicitDefEqProofs (disch := first | omega | (simp only [List.length_append, List.length_map, List.length_range, List.length_range', List.length_nil, List.length_cons, List.length_singleton, List.length_zipIdx] <;> omega)) only [gv0, gvS, go0, goS, ev_var, ev_own, ev_non, ev_bl, ev_int, ev_str, ev_glb, ev_tup, ev_lst, ev_dK0, ev_dT0, ev_bin, ev_cat, ev_rep, negR_int, ev_neg, notR_bl, ev_not, blR_some, ev_cmp, chR_t, chR_f, ev_chn, ev_and, ev_or, bR_bl, anR_t, anR_f, anR_b, orR_t, orR_f, orR_b, and_one, and_more, or_one, or_more, ev_ife, ev_idx, ev_slc, ev_rev, calR_f, calR_ok, calR_ex, ev_call, ev_prim, ev_mth, ev_isi, ev_srtset, ev_lrng, ev_comp, ev_newc, evs_nil, evs_cons, inR_int, evo_no, evo_so, evI_seq, evI_rng, evI_enum, tv_not, tv_and, tv_or, tv_var, tv_own, tv_non, tv_bl, tv_int, tv_cmp, tv_chn, tv_call, tv_prim, tv_isi, tv_idx, tv_mth, tv_ife, tv_comp, tv_slc, tv_bin, tand_one, tand_more, tor_one, tor_more, b_ok, b_ex, l_some, s_ok, s_ex, q_nx, q_rt, q_bk, q_ct, q_ex, n_some, f_nx, f_rt, f_ex, fr_f, fr_t, fr_k, x_asg, x_asgF, x_frz, onL0, onLS, x_app, x_ext, x_ex, x_ret, x_retN, x_cont, x_brk, x_rais, x_ite, x_for, x_whl, xs_nil, xs_cons, forB_nm, setTg_nm, setTg_tp, setTp_nil, setTp_cons, sl0, slS, w_nil, w_cons, ow0, owS, ob, om, st_e, frR_some, frz_eq, x_setg, x_seti, oc0, ocS, x_appPop, ol0, olS, fl_int, fls_nil, fls_cons, t_bl, t_int, t_non, t_lst, d_add, d_sub, d_mul, d_fdiv, d_mod, d_lt, d_le, d_gt, d_ge, d_eqi, d_nei, p_len, p_lent, p_lens, p_int, p_abs, p_tup, p_tupt, p_list, p_listt, p_min2, p_max2, ix_l, ix_t, ix_s, app_d, ext_l, ext_t, bo_ok (t_bl), bo_ok (t_int), bo_ok (t_lst), notR_of (t_lst), os_eq, Es.hasOwn, List.map_cons, List.map_nil, List.length_cons, List.length_nil, List.replicate_succ, List.replicate_zero, List.cons_append, List.nil_append, Nat.reduceSub, Nat.reduceAdd, Nat.sub_self, reduceIte, Bool.not_true, Bool.not_false, Bool.false_eq_true, Bool.and_self, Bool.and_true, Bool.true_and, Nat.reduceBEq, Nat.reduceEqDiff, cF_no, cF_so, cF2_no, cF2_so, cF3_no, cF3_so, cR_b, q_nil, q_nil2, forB_tp2, forB_tp3, ty_bool_non, ty_bool_bl, ty_bool_int, ty_bool_str, ty_bool_tup, ty_bool_lst, ty_int_non, ty_int_bl, ty_int_int, ty_int_str, ty_int_tup, ty_int_lst, ty_str_non, ty_str_bl, ty_str_int, ty_str_str, ty_str_tup, ty_str_lst, ty_tuple_non, ty_tuple_bl, ty_tuple_int, ty_tuple_str, ty_tuple_tup, ty_tuple_lst, ty_list_non, ty_list_bl, ty_list_int, ty_list_str, ty_list_tup, ty_list_lst, d_eqb, d_isn, d_isi, d_isb, d_iss, d_ist, d_isl, d_insn, d_insi, d_inst, d_insl, p_int_b, t_tup, compL_nil, compL_cons, cC_some, cC_none, cK_ok, cN_ok, forL_nil, forL_cons, foR_nx, foR_ct, foR_bk, foR_rt, foR_ex, seq_l, seq_t, enu_l, enu_t, ev_dcomp, dcF_nm, evI_items, agS_int, x_augi, x_ins, x_asgPop, setTg_tpl, forB_tp2l, forB_tp3l, d_isbb, d_insbb, d_isdK, p_lendK, p_lendT, ty_bool_dK, ty_int_dK, ty_str_dK, ty_tuple_dK, ty_list_dK, ms_i1, ms_i2, ms_g2, ms_g1, $xs,*] at $h:ident)
/-! ### loops -/
def nx (o : Out) (p : Ev → Gs → Prop) : Prop := match o with
  | .nx env G => p env G
  | _ => False
theorem nx_inv {o : Out} {p : Ev → Gs → Prop} (h : nx o p) : ∃ env G, o = .nx env G ∧ p env G := by
  cases o <;> first
    | exact ⟨_, _, rfl, h⟩
    | exact h.elim
theorem nx_nx {env : Ev} {G : Gs} {p : Ev → Gs → Prop} (h : p env G) : nx (.nx env G) p := h
section
variable {α σ : Type} {body : D → Ev → Gs → Out} {ws : List Nat} {G : Gs} {enc : α → D}
/-- a for by an invariant over turns, slots, cells -/
theorem for_ind (I : Nat → Ev → Gs → Prop) : ∀ (xs : List α) (i : Nat) (env : Ev) (G : Gs), I i env G →
    (∀ j x env G, xs[j]? = some x → I (i + j) env G → nx (body (enc x) env G) fun env1 G1 => I (i + j + 1) (wipeE env1 ws) G1) →
    ∃ env1 G1, forL body ws (xs.map enc) env G = .nx env1 G1 ∧ I (i + xs.length) env1 G1
  | [], i, env, G, h, _ => ⟨env, G, rfl, h⟩
  | d :: ds, i, env, G, h, step => by
    obtain ⟨env1, G1, e1, h1⟩ := nx_inv (step 0 d env G rfl h)
    obtain ⟨env2, G2, e2, h2⟩ := for_ind I ds (i + 1) _ _ h1 fun j d' env' G' hj hI => by
      have := step (j + 1) d' env' G' (by simpa using hj) (by rw [show i + (j + 1) = i + 1 + j by omega]; exact hI)
      rw [show i + (j + 1) + 1 = i + 1 + j + 1 by omega] at this
      exact this
    refine ⟨env2, G2, ?_, by rw [show i + (d :: ds).length = i + 1 + ds.length by simp; omega]; exact h2⟩
    simp only [List.map_cons, forL, e1]
    exact e2
theorem for_all (I : Nat → Ev → Gs → Prop) (xs : List α) {env : Ev} {G : Gs} (h : I 0 env G)
    (step : ∀ j x env G, xs[j]? = some x → I j env G → nx (body (enc x) env G) fun env1 G1 => I (j + 1) (wipeE env1 ws) G1) : ∃ env1 G1, forL body ws (xs.map enc) env G = .nx env1 G1 ∧ I xs.length env1 G1 := by
  have := for_ind (body := body) (ws := ws) (enc := enc) I xs 0 env G h fun j x env G hj hI => by
    rw [Nat.zero_add] at hI ⊢
    exact step j x env G hj hI
  simpa using this
/-- .. with a state of one's own -/
theorem for_st (env0 : Ev) (F : Ev → σ → Ev) (f : σ → α → σ) (s0 : σ) (xs : List α) (I : Nat → σ → Prop) (h0 : F env0 s0 = env0) (hI : I 0 s0)
    (step : ∀ j x s, xs[j]? = some x → I j s → nx (body (enc x) (F env0 s) G) fun env1 G1 => G1 = G ∧ wipeE env1 ws = F env0 (f s x) ∧ I (j + 1) (f s x)) :
    forL body ws (xs.map enc) env0 G = .nx (F env0 (xs.foldl f s0)) G := by
  obtain ⟨env1, G1, e, hG, he, _⟩ := for_all (body := body) (ws := ws) (enc := enc) (fun i env G' => G' = G ∧ env = F env0 ((xs.take i).foldl f s0) ∧ I i ((xs.take i).foldl f s0)) xs (env := env0) (G := G) ⟨rfl, by simpa using h0.symm, by simpa using hI⟩ fun j x env G' hj ⟨h1, h2, h3⟩ => by
    subst h1 h2
    obtain ⟨env1, G1, e, k1, k2, k3⟩ := nx_inv (step j x _ hj h3)
    rw [e]
    have ht : (xs.take (j + 1)).foldl f s0 = f ((xs.take j).foldl f s0) x := by rw [List.take_add_one, hj, List.foldl_append]; rfl
    rw [ht]
    exact nx_nx ⟨k1, k2, k3⟩
  rw [e, hG, he, List.take_length]
theorem flat_len {β : Type} (g : α → List β) (B : Nat) : ∀ (l : List α), (∀ x ∈ l, (g x).length ≤ B) → (l.flatMap g).length ≤ l.length * B
  | [], _ => by simp
  | x :: l, h => by
    have h1 := h x (by simp)
    have h2 := flat_len g B l fun y hy => h y (List.mem_cons_of_mem _ hy)
    rw [List.flatMap_cons, List.length_append, List.length_cons, Nat.add_mul]
    omega
theorem foldl_app (g : α → List D) : ∀ (xs : List α) (acc0 : List D), xs.foldl (fun acc x => acc ++ g x) acc0 = acc0 ++ xs.flatMap g
  | [], acc0 => by simp
  | x :: xs, acc0 => by rw [List.foldl_cons, foldl_app g xs, List.flatMap_cons, List.append_assoc]
/-- .. whose state is what the invariant says -/
theorem for_ex (env0 : Ev) (F : Ev → σ → Ev) (s0 : σ) (xs : List α) (I : Nat → σ → Prop) (h0 : F env0 s0 = env0) (hI : I 0 s0)
    (step : ∀ j x s, xs[j]? = some x → I j s → nx (body (enc x) (F env0 s) G) fun env1 G1 => G1 = G ∧ ∃ s', wipeE env1 ws = F env0 s' ∧ I (j + 1) s') :
    ∃ s, forL body ws (xs.map enc) env0 G = .nx (F env0 s) G ∧ I xs.length s := by
  obtain ⟨env1, G1, e, hG, s, he, hs⟩ := for_all (body := body) (ws := ws) (enc := enc) (fun i env G' => G' = G ∧ ∃ s, env = F env0 s ∧ I i s) xs (env := env0) (G := G) ⟨rfl, s0, h0.symm, hI⟩ fun j x env G' hj ⟨h1, s, h2, h3⟩ => by
    subst h1 h2
    obtain ⟨env1, G1, e, k1, k2⟩ := nx_inv (step j x s hj h3)
    rw [e]
    exact nx_nx ⟨k1, k2⟩
  exact ⟨s, by rw [e, hG, he], hs⟩
theorem for_kn {p : Ev → Gs → Prop} (env0 : Ev) (F : Ev → σ → Ev) (s0 : σ) (xs : List α) (I : Nat → σ → Prop) (h0 : F env0 s0 = env0) (hI : I 0 s0)
    (step : ∀ j x s, xs[j]? = some x → I j s → nx (body (enc x) (F env0 s) G) fun env1 G1 => G1 = G ∧ ∃ s', wipeE env1 ws = F env0 s' ∧ I (j + 1) s')
    (k : ∀ s, I xs.length s → nx (.nx (F env0 s) G) p) : nx (forL body ws (xs.map enc) env0 G) p := by
  obtain ⟨s, e, h⟩ := for_ex (body := body) (ws := ws) (enc := enc) env0 F s0 xs I h0 hI step
  rw [e]
  exact k s h
theorem for_kq {p : Ev → Gs → Prop} {K : Ev → Gs → Out} (env0 : Ev) (F : Ev → σ → Ev) (s0 : σ) (xs : List α) (I : Nat → σ → Prop) (h0 : F env0 s0 = env0) (hI : I 0 s0)
    (step : ∀ j x s, xs[j]? = some x → I j s → nx (body (enc x) (F env0 s) G) fun env1 G1 => G1 = G ∧ ∃ s', wipeE env1 ws = F env0 s' ∧ I (j + 1) s')
    (k : ∀ s, I xs.length s → nx (K (F env0 s) G) p) : nx ((forL body ws (xs.map enc) env0 G).seq K) p := by
  obtain ⟨s, e, h⟩ := for_ex (body := body) (ws := ws) (enc := enc) env0 F s0 xs I h0 hI step
  rw [e]
  exact k s h
theorem for_kt {r : Res D} {K : Ev → Gs → Out} (env0 : Ev) (F : Ev → σ → Ev) (s0 : σ) (xs : List α) (I : Nat → σ → Prop) (h0 : F env0 s0 = env0) (hI : I 0 s0)
    (step : ∀ j x s, xs[j]? = some x → I j s → nx (body (enc x) (F env0 s) G) fun env1 G1 => G1 = G ∧ ∃ s', wipeE env1 ws = F env0 s' ∧ I (j + 1) s')
    (k : ∀ s, I xs.length s → (K (F env0 s) G).fin = r) : ((forL body ws (xs.map enc) env0 G).seq K).fin = r := by
  obtain ⟨s, e, h⟩ := for_ex (body := body) (ws := ws) (enc := enc) env0 F s0 xs I h0 hI step
  rw [e]
  exact k s h
theorem for_ktf {fr : Bool} {r : Res D} {K : Ev → Gs → Out} (env0 : Ev) (F : Ev → σ → Ev) (s0 : σ) (xs : List α) (I : Nat → σ → Prop) (h0 : F env0 s0 = env0) (hI : I 0 s0)
    (step : ∀ j x s, xs[j]? = some x → I j s → nx (body (enc x) (F env0 s) G) fun env1 G1 => G1 = G ∧ ∃ s', wipeE env1 ws = F env0 s' ∧ I (j + 1) s')
    (k : ∀ s, I xs.length s → frOk fr (K (F env0 s) G).fin = r) : frOk fr ((forL body ws (xs.map enc) env0 G).seq K).fin = r := by
  obtain ⟨s, e, h⟩ := for_ex (body := body) (ws := ws) (enc := enc) env0 F s0 xs I h0 hI step
  rw [e]
  exact k s h
/-- .. cells too -/
theorem for_exg (env0 : Ev) (F : Ev → σ → Ev) (g : σ → Gs) (s0 : σ) (xs : List α) (I : Nat → σ → Prop) (h0 : F env0 s0 = env0) (hI : I 0 s0)
    (step : ∀ j x s, xs[j]? = some x → I j s → nx (body (enc x) (F env0 s) (g s)) fun env1 G1 => ∃ s', G1 = g s' ∧ wipeE env1 ws = F env0 s' ∧ I (j + 1) s') :
    ∃ s, forL body ws (xs.map enc) env0 (g s0) = .nx (F env0 s) (g s) ∧ I xs.length s := by
  obtain ⟨env1, G1, e, s, hG, he, hs⟩ := for_all (body := body) (ws := ws) (enc := enc) (fun i env G' => ∃ s, G' = g s ∧ env = F env0 s ∧ I i s) xs (env := env0) (G := g s0) ⟨s0, rfl, h0.symm, hI⟩ fun j x env G' hj ⟨s, h1, h2, h3⟩ => by
    subst h1 h2
    exact step j x s hj h3
  exact ⟨s, by rw [e, hG, he], hs⟩
def okR {β : Type} (r : Res β) (Q : β → Gs → Prop) : Prop := match r with
  | .ok d G => Q d G
  | _ => False
theorem okR_inv {β : Type} {r : Res β} {Q : β → Gs → Prop} (h : okR r Q) : ∃ d G, r = .ok d G ∧ Q d G := by
  cases r <;> first
    | exact ⟨_, _, rfl, h⟩
    | exact h.elim
theorem okR_ok {β : Type} {d : β} {Q : β → Gs → Prop} (h : Q d G) : okR (.ok d G) Q := h
theorem for_gn {p : Ev → Gs → Prop} (env0 : Ev) (F : Ev → σ → Ev) (g : σ → Gs) (s0 : σ) (xs : List α) (I : Nat → σ → Prop) (h0 : F env0 s0 = env0) (hI : I 0 s0)
    (step : ∀ j x s, xs[j]? = some x → I j s → nx (body (enc x) (F env0 s) (g s)) fun env1 G1 => ∃ s', G1 = g s' ∧ wipeE env1 ws = F env0 s' ∧ I (j + 1) s')
    (k : ∀ s, I xs.length s → nx (.nx (F env0 s) (g s)) p) : nx (forL body ws (xs.map enc) env0 (g s0)) p := by
  obtain ⟨s, e, h⟩ := for_exg (body := body) (ws := ws) (enc := enc) env0 F g s0 xs I h0 hI step
  rw [e]
  exact k s h
theorem for_gq {p : Ev → Gs → Prop} {K : Ev → Gs → Out} (env0 : Ev) (F : Ev → σ → Ev) (g : σ → Gs) (s0 : σ) (xs : List α) (I : Nat → σ → Prop) (h0 : F env0 s0 = env0) (hI : I 0 s0)
    (step : ∀ j x s, xs[j]? = some x → I j s → nx (body (enc x) (F env0 s) (g s)) fun env1 G1 => ∃ s', G1 = g s' ∧ wipeE env1 ws = F env0 s' ∧ I (j + 1) s')
    (k : ∀ s, I xs.length s → nx (K (F env0 s) (g s)) p) : nx ((forL body ws (xs.map enc) env0 (g s0)).seq K) p := by
  obtain ⟨s, e, h⟩ := for_exg (body := body) (ws := ws) (enc := enc) env0 F g s0 xs I h0 hI step
  rw [e]
  exact k s h
theorem for_gt {Q : D → Gs → Prop} {K : Ev → Gs → Out} (env0 : Ev) (F : Ev → σ → Ev) (g : σ → Gs) (s0 : σ) (xs : List α) (I : Nat → σ → Prop) (h0 : F env0 s0 = env0) (hI : I 0 s0)
    (step : ∀ j x s, xs[j]? = some x → I j s → nx (body (enc x) (F env0 s) (g s)) fun env1 G1 => ∃ s', G1 = g s' ∧ wipeE env1 ws = F env0 s' ∧ I (j + 1) s')
    (k : ∀ s, I xs.length s → okR (K (F env0 s) (g s)).fin Q) : okR ((forL body ws (xs.map enc) env0 (g s0)).seq K).fin Q := by
  obtain ⟨s, e, h⟩ := for_exg (body := body) (ws := ws) (enc := enc) env0 F g s0 xs I h0 hI step
  rw [e]
  exact k s h
theorem for_gtf {fr : Bool} {Q : D → Gs → Prop} {K : Ev → Gs → Out} (env0 : Ev) (F : Ev → σ → Ev) (g : σ → Gs) (s0 : σ) (xs : List α) (I : Nat → σ → Prop) (h0 : F env0 s0 = env0) (hI : I 0 s0)
    (step : ∀ j x s, xs[j]? = some x → I j s → nx (body (enc x) (F env0 s) (g s)) fun env1 G1 => ∃ s', G1 = g s' ∧ wipeE env1 ws = F env0 s' ∧ I (j + 1) s')
    (k : ∀ s, I xs.length s → okR (frOk fr (K (F env0 s) (g s)).fin) Q) : okR (frOk fr ((forL body ws (xs.map enc) env0 (g s0)).seq K).fin) Q := by
  obtain ⟨s, e, h⟩ := for_exg (body := body) (ws := ws) (enc := enc) env0 F g s0 xs I h0 hI step
  rw [e]
  exact k s h
/-- a for that adds to a list at slot k -/
theorem for_acc (env0 : Ev) (k : Nat) (acc0 : List D) (g : α → List D) (xs : List α) (B : Nat) (h0 : env0[k]? = some (.own (.lst acc0))) (hB : ∀ x ∈ xs, (g x).length ≤ B) (hl : acc0.length + xs.length * B < 1000000)
    (step : ∀ x ∈ xs, ∀ acc : List D, acc.length + (g x).length < 1000000 → nx (body (enc x) (env0.set k (.own (.lst acc))) G) fun env1 G1 => G1 = G ∧ wipeE env1 ws = env0.set k (.own (.lst (acc ++ g x)))) :
    forL body ws (xs.map enc) env0 G = .nx (env0.set k (.own (.lst (acc0 ++ xs.flatMap g)))) G := by
  have hs : env0.set k (.own (.lst acc0)) = env0 := by
    have hk : k < env0.length := by
      rcases Nat.lt_or_ge k env0.length with h | h
      · exact h
      · rw [List.getElem?_eq_none h] at h0; cases h0
    rw [List.getElem?_eq_getElem hk] at h0
    rw [← Option.some.inj h0, List.set_getElem_self]
  have := for_st (body := body) (ws := ws) (G := G) (enc := enc) env0 (fun e (acc : List D) => e.set k (.own (.lst acc))) (fun acc x => acc ++ g x) acc0 xs (fun i acc => acc.length ≤ acc0.length + i * B) hs (by simp) fun j x acc hj hI => by
    have hx := List.mem_of_getElem? hj
    have hj2 : j < xs.length := (List.getElem?_eq_some_iff.mp hj).1
    have h1 := hB x hx
    have h2 : (j + 1) * B ≤ xs.length * B := Nat.mul_le_mul_right _ hj2
    have h3 : (j + 1) * B = j * B + B := by rw [Nat.add_mul, Nat.one_mul]
    obtain ⟨env1, G1, e, k1, k2⟩ := nx_inv (step x hx acc (by omega))
    rw [e]
    exact nx_nx ⟨k1, k2, by rw [List.length_append]; omega⟩
  rw [this, foldl_app]
theorem flat_fm (p : α → Bool) (g : α → D) : ∀ xs : List α, (xs.flatMap fun x => if p x = true then [g x] else []) = (xs.filter p).map g
  | [] => rfl
  | x :: xs => by
    rw [List.flatMap_cons, flat_fm p g xs, List.filter_cons]
    split <;> rfl
/-- .. one item where a test holds -/
theorem for_fm (env0 : Ev) (k : Nat) (acc0 : List D) (p : α → Bool) (g : α → D) (xs : List α) (h0 : env0[k]? = some (.own (.lst acc0))) (hl : acc0.length + xs.length < 1000000)
    (step : ∀ x ∈ xs, ∀ acc : List D, acc.length < 1000000 → nx (body (enc x) (env0.set k (.own (.lst acc))) G) fun env1 G1 => G1 = G ∧ wipeE env1 ws = env0.set k (.own (.lst (if p x = true then acc ++ [g x] else acc)))) :
    forL body ws (xs.map enc) env0 G = .nx (env0.set k (.own (.lst (acc0 ++ (xs.filter p).map g)))) G := by
  rw [← flat_fm p g, ← for_acc env0 k acc0 (fun x => if p x = true then [g x] else []) xs 1 h0 (fun x _ => by split <;> simp) (by omega)]
  intro x hx acc hl
  have := step x hx acc (by omega)
  have e : (acc ++ if p x = true then [g x] else []) = if p x = true then acc ++ [g x] else acc := by split <;> simp
  rw [e]
  exact this
/-- a for whose turns leave all as it was -/
theorem for_same (env0 : Ev) (xs : List α) (step : ∀ x ∈ xs, nx (body (enc x) env0 G) fun env1 G1 => G1 = G ∧ wipeE env1 ws = env0) : forL body ws (xs.map enc) env0 G = .nx env0 G := by
  have := for_st (body := body) (ws := ws) (G := G) (enc := enc) env0 (fun e (_ : Unit) => e) (fun u _ => u) () xs (fun _ _ => True) rfl trivial fun j x s hj _ => by
    obtain ⟨env1, G1, e, k1, k2⟩ := nx_inv (step x (List.mem_of_getElem? hj))
    rw [e]
    exact nx_nx ⟨k1, k2, trivial⟩
  exact this
/-- a for that returns at the first item that is not as it should be -/
theorem for_ret (env0 : Ev) (xs : List α) (p : α → Bool) (r : α → D) (step : ∀ x ∈ xs, (p x = true → nx (body (enc x) env0 G) fun env1 G1 => G1 = G ∧ wipeE env1 ws = env0) ∧ (p x = false → body (enc x) env0 G = .rt (r x) G)) :
    forL body ws (xs.map enc) env0 G = match xs.find? (fun x => !p x) with
      | none => .nx env0 G
      | some x => .rt (r x) G := by
  induction xs with
  | nil => rfl
  | cons x xs ih =>
    have ih := ih fun y hy => step y (List.mem_cons_of_mem _ hy)
    obtain ⟨s1, s2⟩ := step x (by simp)
    rw [List.find?_cons]
    cases hp : p x with
    | true =>
      obtain ⟨env1, G1, e, k1, k2⟩ := nx_inv (s1 hp)
      simp only [List.map_cons, forL, e, k1, k2]
      simpa using ih
    | false =>
      simp only [List.map_cons, forL, s2 hp]
      rfl
/-! ### comprehensions -/
variable {f : D → Gs → Res (Option D)}
theorem compL_fm (p : α → Bool) (g : α → D) : ∀ (xs : List α), (∀ x ∈ xs, f (enc x) G = .ok (if p x = true then some (g x) else none) G) → compL f (xs.map enc) G = .ok ((xs.filter p).map g) G
  | [], _ => rfl
  | d :: items, h => by
    have h1 := h d (by simp)
    have h2 := compL_fm p g items fun x hx => h x (List.mem_cons_of_mem _ hx)
    simp only [List.map_cons, compL, h1, h2]
    by_cases q : p d = true
    · simp [q]
    · simp [q]
theorem compL_map (g : α → D) (xs : List α) (h : ∀ x ∈ xs, f (enc x) G = .ok (some (g x)) G) : compL f (xs.map enc) G = .ok (xs.map g) G := by
  have := compL_fm (f := f) (G := G) (enc := enc) (fun _ => true) g xs fun x hx => by rw [h x hx]; rfl
  rw [this, List.filter_eq_self.mpr fun _ _ => rfl]
theorem cif {b : Bool} {y : D} : (if b = true then Res.ok (some y) G else Res.ok none G) = Res.ok (if b = true then some y else none) G := by cases b <;> rfl
/-- items drawn one after the other -/
theorem comp_ind (I : Gs → Prop) (Q : D → Prop) : ∀ (items : List D) (G : Gs), I G → (∀ d G, I G → ∃ y G1, f d G = .ok (some y) G1 ∧ I G1 ∧ Q y) → ∃ ys G1, compL f items G = .ok ys G1 ∧ ys.length = items.length ∧ I G1 ∧ ∀ y ∈ ys, Q y
  | [], G, h, _ => ⟨[], G, rfl, rfl, h, by simp⟩
  | d :: items, G, h, step => by
    obtain ⟨y, G1, e1, h1, q1⟩ := step d G h
    obtain ⟨ys, G2, e2, l2, h2, q2⟩ := comp_ind I Q items G1 h1 step
    refine ⟨y :: ys, G2, ?_, by simp [l2], h2, fun z hz => ?_⟩
    · simp only [compL, e1, e2]; rfl
    · rcases List.mem_cons.mp hz with rfl | hz
      · exact q1
      · exact q2 z hz
end
/-! ### numbers -/
abbrev nD (k : Nat) : D := .int (k : Int)
theorem atI_nat {α : Type} (xs : List α) (k : Nat) : atI xs (k : Int) = xs[k]? := by
  unfold atI ixN
  by_cases h : k < xs.length
  · rw [if_pos (by omega), if_pos (by omega)]; simp
  · rw [if_pos (by omega), if_neg (by omega)]; simp; omega
theorem atI_map {α : Type} (f : α → D) (l : List α) (i : Nat) (h : i < l.length) : atI (l.map f) (i : Int) = some (f l[i]) := by
  rw [atI_nat]; simp [h]
theorem rng1 {j : Int} (h0 : -1000000 ≤ j) (h1 : j ≤ 1000000) : rngItems [.int j] = some ((List.range j.toNat).map nD) := by
  show (if _ then _ else _) = _
  rw [if_pos ⟨h0, h1⟩]
theorem rngN (j : Nat) (h : j ≤ 1000000) : rngItems [.int (j : Int)] = some ((List.range j).map nD) := by
  have := rng1 (j := (j : Int)) (by omega) (by omega)
  simpa using this
theorem rng2N (i j : Nat) (h : i ≤ 1000000) (h2 : j ≤ 1000000) : rngItems [.int (i : Int), .int (j : Int)] = some ((List.range' i (j - i)).map nD) := by
  have hL : (LIM : Int) = 1000000 := rfl
  show (if _ then _ else _) = _
  rw [if_pos ⟨by omega, by omega, by omega, by omega⟩]
  have e : ((j : Int) - (i : Int)).toNat = j - i := by omega
  rw [e, List.range'_eq_map_range, List.map_map]
  rfl
theorem range_get {n j : Nat} {d : Nat} (h : (List.range n)[j]? = some d) : j < n ∧ d = j := by
  by_cases q : j < n
  · rw [List.getElem?_range q] at h
    cases h
    exact ⟨q, rfl⟩
  · rw [List.getElem?_eq_none (by simpa using q)] at h; cases h
theorem nmod (a b : Nat) : ((a : Int) % (b : Int)) = ((a % b : Nat) : Int) := by norm_cast
theorem nbeq (a b : Nat) : ((a : Int) == (b : Int)) = (a == b) := by
  rw [Bool.eq_iff_iff, beq_iff_eq, beq_iff_eq]
  omega
theorem nle (a b : Nat) : decide ((a : Int) ≤ (b : Int)) = decide (a ≤ b) := by
  rw [decide_eq_decide]; omega
theorem nlt (a b : Nat) : decide ((a : Int) < (b : Int)) = decide (a < b) := by
  rw [decide_eq_decide]; omega
theorem nadd (a b : Nat) : ((a : Int) + (b : Int)) = ((a + b : Nat) : Int) := by omega
theorem nadd1 (a : Nat) : ((a : Int) + 1) = ((a + 1 : Nat) : Int) := by omega
theorem n1add (a : Nat) : (1 + (a : Int)) = ((1 + a : Nat) : Int) := by omega
theorem intsOf_map : ∀ l : List Int, intsOf (l.map .int) = some l
  | [] => rfl
  | i :: r => by simp [intsOf, intsOf_map r]
theorem intsOf_nat (l : List Nat) : intsOf (l.map nD) = some (l.map fun (k : Nat) => (k : Int)) := by
  rw [← intsOf_map, List.map_map]; rfl
theorem okDs_int : ∀ l : List Int, okDs 40 (l.map .int) = true
  | [] => rfl
  | i :: r => by simp [okDs, okD, okDs_int r]
theorem okDs_nat : ∀ l : List Nat, okDs 40 (l.map nD) = true
  | [] => rfl
  | i :: r => by simp [okDs, okD, okDs_nat r]
theorem deq_int (i j : Int) : deq (.int i) (.int j) = (i == j) := rfl
theorem any_deq (r : Nat) : ∀ l : List Nat, ((l.map nD).any fun z => deq z (.int (r : Int))) = l.contains r
  | [] => rfl
  | i :: l => by
    rw [List.map_cons, List.any_cons, any_deq r l, deq_int, nbeq, List.contains_cons]
    congr 1
    exact Bool.beq_comm
theorem d_in (r : Nat) (l : List Nat) : cmpD .isin (.int (r : Int)) (.lst (l.map nD)) = some (l.contains r) := by
  simp only [cmpD, inD, MP.plain, okD, okDs_nat, Bool.and_self, if_true, any_deq]
theorem d_nin (r : Nat) (l : List Nat) : cmpD .notin (.int (r : Int)) (.lst (l.map nD)) = some (!l.contains r) := by
  simp only [cmpD, inD, MP.plain, okD, okDs_nat, Bool.and_self, if_true, any_deq, Option.map]
theorem d_int (r : Nat) (k : Bool) (l : List Nat) : cmpD .isin (.int (r : Int)) (.tup k (l.map nD)) = some (l.contains r) := by
  simp only [cmpD, inD, MP.plain, okD, okDs_nat, Bool.and_self, if_true, any_deq]
theorem enum_map {α : Type} (enc : α → D) (l : List α) : enumItems (l.map enc) = l.zipIdx.map fun p => .tup false [nD p.2, enc p.1] := by
  unfold enumItems
  rw [List.zipIdx_map, List.map_map]; rfl
/-! ### written data compared -/
theorem ne_l {a b : List D} (h : (MP.plain (.lst a) && MP.plain (.lst b) && deq (.lst a) (.lst b)) = true) : cmpD .ne (.lst a) (.lst b) = some false := by
  simp only [Bool.and_eq_true] at h
  simp only [cmpD, h.1.1, h.1.2, h.2, Bool.and_self, if_true, Bool.not_true]
theorem ne_t {k l : Bool} {a b : List D} (h : (MP.plain (.tup k a) && MP.plain (.tup l b) && deq (.tup k a) (.tup l b)) = true) : cmpD .ne (.tup k a) (.tup l b) = some false := by
  simp only [Bool.and_eq_true] at h
  simp only [cmpD, h.1.1, h.1.2, h.2, Bool.and_self, if_true, Bool.not_true]
theorem eq_t {k l : Bool} {a b : List D} (h : (MP.plain (.tup k a) && MP.plain (.tup l b) && deq (.tup k a) (.tup l b)) = true) : cmpD .eq (.tup k a) (.tup l b) = some true := by
  simp only [Bool.and_eq_true] at h
  simp only [cmpD, h.1.1, h.1.2, h.2, Bool.and_self, if_true]
theorem eq_l {a b : List D} (h : (MP.plain (.lst a) && MP.plain (.lst b) && deq (.lst a) (.lst b)) = true) : cmpD .eq (.lst a) (.lst b) = some true := by
  simp only [Bool.and_eq_true] at h
  simp only [cmpD, h.1.1, h.1.2, h.2, Bool.and_self, if_true]
theorem deq_self {d : D} (h : MP.plain d = true) : deq d d = true := by
  unfold deq
  exact PySem.SeqAt.eqv_refl _ (okD_lay 40 d h).1
theorem ne_self {d : D} (h : MP.plain d = true) : cmpD .ne d d = some false := by
  simp only [cmpD, h, Bool.and_self, if_true, deq_self h, Bool.not_true]
theorem eq_self {d : D} (h : MP.plain d = true) : cmpD .eq d d = some true := by
  simp only [cmpD, h, Bool.and_self, if_true, deq_self h]
theorem okDs_ints (n : Nat) : ∀ l : List Int, okDs n (l.map .int) = true
  | [] => by cases n <;> rfl
  | i :: r => by
    have := okDs_ints n r
    cases n <;> (rw [List.map_cons, okDs, this]; rfl)
theorem plain_ints (k : Bool) (l : List Int) : MP.plain (.tup k (l.map .int)) = true := by
  show okDs 39 (l.map .int) = true
  exact okDs_ints 39 l
end CM

namespace CM
open PySem hiding exec execs start
open PySem.Spec PyProof.Rows L2 MP
def d_samples_of_c1 : E := (.cmp .eq (.bin .mod (.var 4 "index") (.idx (.var 1 "setup") (.int 0))) (.var 2 "trainer"))
def d_samples_of_e0 : E := (.var 5 "sample")
def d_samples_of : FnDef := { name := "samples_of", ps := ["problem", "setup", "trainer", "batch"], N := ["problem", "setup", "trainer", "batch", "index", "sample"], fr := true, body := (.cons (.ret (.comp d_samples_of_e0 (.tp [(4, "index"), (5, "sample")]) (.enum (.idx (.idx (.var 0 "problem") (.int 1)) (.var 3 "batch"))) (.so d_samples_of_c1) [("index", 4), ("sample", 5)])) .nil) }
def d_rows_of_b0 : Ss := (.cons (.ext 1 "found" (.var 2 "rows")) .nil)
def d_rows_of : FnDef := { name := "rows_of", ps := ["samples"], N := ["samples", "found", "rows", "_"], fr := true, body := (.cons (.asgF 1 "found" (.lst .nil)) (.cons (.for_ (.tp [(2, "rows"), (3, "_")]) (.seq (.var 0 "samples")) d_rows_of_b0 [2, 3]) (.cons (.ret (.srtset (.own 1 "found"))) .nil))) }
def d_users_b0 : Ss := (.cons (.ite (.cmp .isin (.var 2 "row") (.call true "rows_of" (.cons (.call true "samples_of" (.cons (.var 0 "problem") (.cons (.var 1 "setup") (.cons (.var 5 "trainer") (.cons (.var 3 "batch") .nil))))) .nil))) (.cons (.app 4 "found" (.var 5 "trainer")) .nil) .nil) .nil)
def d_users : FnDef := { name := "users", ps := ["problem", "setup", "row", "batch"], N := ["problem", "setup", "row", "batch", "found", "trainer"], fr := false, body := (.cons (.asgF 4 "found" (.lst .nil)) (.cons (.for_ (.nm 5 "trainer") (.rng (.cons (.idx (.var 1 "setup") (.int 0)) .nil)) d_users_b0 [5]) (.cons (.ret (.prim .tuple1 (.cons (.own 4 "found") .nil))) .nil))) }
def d_uses_c1 : E := (.cmp .isin (.var 2 "row") (.call true "rows_of" (.cons (.idx (.idx (.var 0 "problem") (.int 1)) (.var 3 "batch")) .nil)))
def d_uses_e0 : E := (.var 3 "batch")
def d_uses : FnDef := { name := "uses", ps := ["problem", "first", "row"], N := ["problem", "first", "row", "batch"], fr := false, body := (.cons (.ret (.prim .tuple1 (.cons (.comp d_uses_e0 (.nm 3 "batch") (.rng (.cons (.var 1 "first") (.cons (.prim .len1 (.cons (.idx (.var 0 "problem") (.int 1)) .nil)) .nil))) (.so d_uses_c1) [("batch", 3)]) .nil))) .nil) }
def d_stays_of_b0 : Ss := (.cons (.ite (.and (.cons (.own 4 "found") (.cons (.cmp .le (.bin .sub (.var 5 "batch") (.idx (.idx (.own 4 "found") (.neg (.int 1))) (.int 1))) (.idx (.var 1 "setup") (.int 1))) .nil))) (.cons (.seti 4 "found" (.neg (.int 1)) (.tup true (.cons (.idx (.idx (.own 4 "found") (.neg (.int 1))) (.int 0)) (.cons (.var 5 "batch") .nil)))) .nil) (.cons (.app 4 "found" (.tup true (.cons (.var 5 "batch") (.cons (.var 5 "batch") .nil)))) .nil)) .nil)
def d_stays_of : FnDef := { name := "stays_of", ps := ["problem", "setup", "first", "row"], N := ["problem", "setup", "first", "row", "found", "batch"], fr := true, body := (.cons (.asgF 4 "found" (.lst .nil)) (.cons (.for_ (.nm 5 "batch") (.seq (.call false "uses" (.cons (.var 0 "problem") (.cons (.var 2 "first") (.cons (.var 3 "row") .nil))))) d_stays_of_b0 [5]) (.cons (.ret (.own 4 "found")) .nil))) }
def d_stays_e1 : E := (.tup true (.cons (.var 4 "row") (.cons (.var 5 "opens") (.cons (.var 6 "closes") .nil))))
def d_stays_b0 : Ss := (.cons (.ext 3 "found" (.comp d_stays_e1 (.tp [(5, "opens"), (6, "closes")]) (.seq (.call true "stays_of" (.cons (.var 0 "problem") (.cons (.var 1 "setup") (.cons (.var 2 "first") (.cons (.var 4 "row") .nil)))))) .no [("opens", 5), ("closes", 6)])) .nil)
def d_stays : FnDef := { name := "stays", ps := ["problem", "setup", "first"], N := ["problem", "setup", "first", "found", "row", "opens", "closes"], fr := false, body := (.cons (.asgF 3 "found" (.lst .nil)) (.cons (.for_ (.nm 4 "row") (.rng (.cons (.prim .len1 (.cons (.idx (.var 0 "problem") (.int 0)) .nil)) .nil)) d_stays_b0 [4]) (.cons (.ret (.prim .tuple1 (.cons (.own 3 "found") .nil))) .nil))) }
def d_handovers_e1 : E := (.tup true (.cons (.var 4 "row") (.cons (.var 5 "trainer") .nil)))
def d_handovers_b0 : Ss := (.cons (.ext 3 "found" (.comp d_handovers_e1 (.nm 5 "trainer") (.seq (.call false "users" (.cons (.var 0 "problem") (.cons (.var 1 "setup") (.cons (.var 4 "row") (.cons (.var 2 "batch") .nil)))))) .no [("trainer", 5)])) .nil)
def d_handovers : FnDef := { name := "handovers", ps := ["problem", "setup", "batch"], N := ["problem", "setup", "batch", "found", "row", "trainer"], fr := true, body := (.cons (.asgF 3 "found" (.lst .nil)) (.cons (.for_ (.nm 4 "row") (.rng (.cons (.prim .len1 (.cons (.idx (.var 0 "problem") (.int 0)) .nil)) .nil)) d_handovers_b0 [4]) (.cons (.ret (.own 3 "found")) .nil))) }
def d_events_of_e6 : E := (.tup false (.cons (.var 6 "kind") (.cons (.var 8 "row") (.cons (.var 2 "batch") .nil))))
def d_events_of_b5 : Ss := (.cons (.ext 5 "found" (.comp d_events_of_e6 (.nm 8 "row") (.seq (.var 4 "closed")) .no [("row", 8)])) .nil)
def d_events_of_e4 : E := (.tup false (.cons (.str "update") (.cons (.var 8 "row") (.cons (.var 2 "batch") (.cons (.var 9 "trainer") .nil)))))
def d_events_of_e3 : E := (.tup false (.cons (.str "compute") (.cons (.var 9 "trainer") (.cons (.var 2 "batch") .nil))))
def d_events_of_e2 : E := (.tup false (.cons (.str "value") (.cons (.var 8 "row") (.cons (.var 2 "batch") (.cons (.var 9 "trainer") .nil)))))
def d_events_of_e1 : E := (.tup false (.cons (.var 6 "kind") (.cons (.var 8 "row") (.cons (.var 2 "batch") .nil))))
def d_events_of_b0 : Ss := (.cons (.ext 5 "found" (.comp d_events_of_e1 (.nm 8 "row") (.seq (.var 3 "opened")) .no [("row", 8)])) .nil)
def d_events_of : FnDef := { name := "events_of", ps := ["problem", "setup", "batch", "opened", "closed"], N := ["problem", "setup", "batch", "opened", "closed", "found", "kind", "pairs", "row", "trainer"], fr := true, body := (.cons (.asgF 5 "found" (.lst .nil)) (.cons (.for_ (.nm 6 "kind") (.seq (.tup false (.cons (.str "request") (.cons (.str "read") (.cons (.str "reply") .nil))))) d_events_of_b0 [6]) (.cons (.asg (.nm 7 "pairs") (.call true "handovers" (.cons (.var 0 "problem") (.cons (.var 1 "setup") (.cons (.var 2 "batch") .nil))))) (.cons (.ext 5 "found" (.comp d_events_of_e2 (.tp [(8, "row"), (9, "trainer")]) (.seq (.var 7 "pairs")) .no [("row", 8), ("trainer", 9)])) (.cons (.ext 5 "found" (.comp d_events_of_e3 (.nm 9 "trainer") (.rng (.cons (.idx (.var 1 "setup") (.int 0)) .nil)) .no [("trainer", 9)])) (.cons (.ext 5 "found" (.comp d_events_of_e4 (.tp [(8, "row"), (9, "trainer")]) (.seq (.var 7 "pairs")) .no [("row", 8), ("trainer", 9)])) (.cons (.for_ (.nm 6 "kind") (.seq (.tup false (.cons (.str "write") (.cons (.str "ack") .nil)))) d_events_of_b5 [6]) (.cons (.ret (.own 5 "found")) .nil)))))))) }
def d_events_c4 : E := (.cmp .eq (.var 11 "closes") (.var 5 "batch"))
def d_events_e3 : E := (.var 8 "row")
def d_events_c2 : E := (.cmp .eq (.var 9 "opens") (.var 5 "batch"))
def d_events_e1 : E := (.var 8 "row")
def d_events_b0 : Ss := (.cons (.asg (.nm 6 "opened") (.comp d_events_e1 (.tp [(8, "row"), (9, "opens"), (10, "_")]) (.seq (.var 4 "rows")) (.so d_events_c2) [("row", 8), ("opens", 9), ("_", 10)])) (.cons (.asg (.nm 7 "closed") (.comp d_events_e3 (.tp [(8, "row"), (10, "_"), (11, "closes")]) (.seq (.var 4 "rows")) (.so d_events_c4) [("row", 8), ("_", 10), ("closes", 11)])) (.cons (.ext 3 "found" (.call true "events_of" (.cons (.var 0 "problem") (.cons (.var 1 "setup") (.cons (.var 5 "batch") (.cons (.var 6 "opened") (.cons (.var 7 "closed") .nil))))))) .nil)))
def d_events : FnDef := { name := "events", ps := ["problem", "setup", "first"], N := ["problem", "setup", "first", "found", "rows", "batch", "opened", "closed", "row", "opens", "_", "closes"], fr := false, body := (.cons (.asgF 3 "found" (.lst .nil)) (.cons (.asg (.nm 4 "rows") (.call false "stays" (.cons (.var 0 "problem") (.cons (.var 1 "setup") (.cons (.var 2 "first") .nil))))) (.cons (.for_ (.nm 5 "batch") (.rng (.cons (.var 2 "first") (.cons (.prim .len1 (.cons (.idx (.var 0 "problem") (.int 1)) .nil)) .nil))) d_events_b0 [5, 6, 7]) (.cons (.ret (.prim .tuple1 (.cons (.own 3 "found") .nil))) .nil)))) }
def d_updates_until_e1 : E := (.tup false (.cons (.str "update") (.cons (.var 6 "row") (.cons (.var 5 "earlier") (.cons (.var 7 "trainer") .nil)))))
def d_updates_until_b0 : Ss := (.cons (.ext 4 "found" (.comp d_updates_until_e1 (.tp [(6, "row"), (7, "trainer")]) (.seq (.call true "handovers" (.cons (.var 0 "problem") (.cons (.var 1 "setup") (.cons (.var 5 "earlier") .nil))))) .no [("row", 6), ("trainer", 7)])) .nil)
def d_updates_until : FnDef := { name := "updates_until", ps := ["problem", "setup", "first", "batch"], N := ["problem", "setup", "first", "batch", "found", "earlier", "row", "trainer"], fr := true, body := (.cons (.asgF 4 "found" (.lst .nil)) (.cons (.for_ (.nm 5 "earlier") (.rng (.cons (.var 2 "first") (.cons (.bin .add (.var 3 "batch") (.int 1)) .nil))) d_updates_until_b0 [5]) (.cons (.ret (.own 4 "found")) .nil))) }
def d_use_before_c1 : E := (.cmp .lt (.var 5 "earlier") (.var 3 "batch"))
def d_use_before_e0 : E := (.var 5 "earlier")
def d_use_before : FnDef := { name := "use_before", ps := ["problem", "first", "row", "batch"], N := ["problem", "first", "row", "batch", "found", "earlier"], fr := false, body := (.cons (.asg (.nm 4 "found") (.comp d_use_before_e0 (.nm 5 "earlier") (.seq (.call false "uses" (.cons (.var 0 "problem") (.cons (.var 1 "first") (.cons (.var 2 "row") .nil))))) (.so d_use_before_c1) [("earlier", 5)])) (.cons (.ret (.ife (.var 4 "found") (.idx (.var 4 "found") (.neg (.int 1))) .non)) .nil)) }
def d_request_causes : FnDef := { name := "request_causes", ps := ["problem", "setup", "first", "row", "batch"], N := ["problem", "setup", "first", "row", "batch", "earlier", "found"], fr := true, body := (.cons (.asg (.nm 5 "earlier") (.call false "use_before" (.cons (.var 0 "problem") (.cons (.var 2 "first") (.cons (.var 3 "row") (.cons (.var 4 "batch") .nil)))))) (.cons (.asg (.nm 6 "found") (.ife (.cmp .iss (.var 5 "earlier") .non) (.lst .nil) (.lst (.cons (.tup false (.cons (.str "ack") (.cons (.var 3 "row") (.cons (.var 5 "earlier") .nil)))) .nil)))) (.cons (.ret (.cat (.var 6 "found") (.call true "updates_until" (.cons (.var 0 "problem") (.cons (.var 1 "setup") (.cons (.var 2 "first") (.cons (.bin .sub (.var 4 "batch") (.idx (.var 1 "setup") (.int 1))) .nil))))))) .nil))) }
def d_value_causes_e0 : E := (.tup false (.cons (.str "update") (.cons (.var 3 "row") (.cons (.var 5 "earlier") (.cons (.var 6 "trainer") .nil)))))
def d_value_causes : FnDef := { name := "value_causes", ps := ["problem", "setup", "first", "row", "batch"], N := ["problem", "setup", "first", "row", "batch", "earlier", "trainer"], fr := true, body := (.cons (.asg (.nm 5 "earlier") (.call false "use_before" (.cons (.var 0 "problem") (.cons (.var 2 "first") (.cons (.var 3 "row") (.cons (.var 4 "batch") .nil)))))) (.cons (.ite (.or (.cons (.cmp .iss (.var 5 "earlier") .non) (.cons (.cmp .gt (.bin .sub (.var 4 "batch") (.var 5 "earlier")) (.idx (.var 1 "setup") (.int 1))) .nil))) (.cons (.ret (.lst (.cons (.tup false (.cons (.str "reply") (.cons (.var 3 "row") (.cons (.var 4 "batch") .nil)))) .nil))) .nil) .nil) (.cons (.ret (.comp d_value_causes_e0 (.nm 6 "trainer") (.seq (.call false "users" (.cons (.var 0 "problem") (.cons (.var 1 "setup") (.cons (.var 3 "row") (.cons (.var 5 "earlier") .nil)))))) .no [("trainer", 6)])) .nil))) }
def d_compute_causes_b0 : Ss := (.cons (.ite (.cmp .eq (.var 7 "other") (.var 3 "trainer")) (.cons (.app 5 "found" (.tup false (.cons (.str "value") (.cons (.var 6 "row") (.cons (.var 4 "batch") (.cons (.var 3 "trainer") .nil)))))) .nil) .nil) .nil)
def d_compute_causes : FnDef := { name := "compute_causes", ps := ["problem", "setup", "first", "trainer", "batch"], N := ["problem", "setup", "first", "trainer", "batch", "found", "row", "other"], fr := true, body := (.cons (.asgF 5 "found" (.ife (.cmp .gt (.var 4 "batch") (.var 2 "first")) (.lst (.cons (.tup false (.cons (.str "compute") (.cons (.var 3 "trainer") (.cons (.bin .sub (.var 4 "batch") (.int 1)) .nil)))) .nil)) (.lst .nil))) (.cons (.for_ (.tp [(6, "row"), (7, "other")]) (.seq (.call true "handovers" (.cons (.var 0 "problem") (.cons (.var 1 "setup") (.cons (.var 4 "batch") .nil))))) d_compute_causes_b0 [6, 7]) (.cons (.ret (.cat (.own 5 "found") (.call true "updates_until" (.cons (.var 0 "problem") (.cons (.var 1 "setup") (.cons (.var 2 "first") (.cons (.bin .sub (.var 4 "batch") (.idx (.var 1 "setup") (.int 2))) .nil))))))) .nil))) }
def d_causes_of_e0 : E := (.tup false (.cons (.str "update") (.cons (.var 5 "one") (.cons (.var 6 "batch") (.cons (.var 7 "trainer") .nil)))))
def d_causes_of : FnDef := { name := "causes_of", ps := ["problem", "setup", "first", "event"], N := ["problem", "setup", "first", "event", "kind", "one", "batch", "trainer"], fr := true, body := (.cons (.asg (.tp [(4, "kind"), (5, "one"), (6, "batch")]) (.slc (.var 3 "event") .no (.so (.int 3)))) (.cons (.ite (.cmp .eq (.var 4 "kind") (.str "request")) (.cons (.ret (.call true "request_causes" (.cons (.var 0 "problem") (.cons (.var 1 "setup") (.cons (.var 2 "first") (.cons (.var 5 "one") (.cons (.var 6 "batch") .nil))))))) .nil) .nil) (.cons (.ite (.cmp .eq (.var 4 "kind") (.str "value")) (.cons (.ret (.call true "value_causes" (.cons (.var 0 "problem") (.cons (.var 1 "setup") (.cons (.var 2 "first") (.cons (.var 5 "one") (.cons (.var 6 "batch") .nil))))))) .nil) .nil) (.cons (.ite (.cmp .eq (.var 4 "kind") (.str "compute")) (.cons (.ret (.call true "compute_causes" (.cons (.var 0 "problem") (.cons (.var 1 "setup") (.cons (.var 2 "first") (.cons (.var 5 "one") (.cons (.var 6 "batch") .nil))))))) .nil) .nil) (.cons (.ite (.cmp .eq (.var 4 "kind") (.str "update")) (.cons (.ret (.lst (.cons (.tup false (.cons (.str "compute") (.cons (.idx (.var 3 "event") (.int 3)) (.cons (.var 6 "batch") .nil)))) .nil))) .nil) .nil) (.cons (.ite (.cmp .eq (.var 4 "kind") (.str "write")) (.cons (.ret (.comp d_causes_of_e0 (.nm 7 "trainer") (.seq (.call false "users" (.cons (.var 0 "problem") (.cons (.var 1 "setup") (.cons (.var 5 "one") (.cons (.var 6 "batch") .nil)))))) .no [("trainer", 7)])) .nil) .nil) (.cons (.ret (.lst (.cons (.tup false (.cons (.idx (.disp (.cons (.str "read") (.cons (.str "reply") (.cons (.str "ack") .nil))) (.cons (.str "request") (.cons (.str "read") (.cons (.str "write") .nil)))) (.var 4 "kind")) (.cons (.var 5 "one") (.cons (.var 6 "batch") .nil)))) .nil))) .nil))))))) }
def d_is_told_e0 : E := (.and (.cons (.isi (.var 2 "part") "int") (.cons (.not (.isi (.var 2 "part") "bool")) .nil)))
def d_is_told : FnDef := { name := "is_told", ps := ["events_there", "event"], N := ["events_there", "event", "part"], fr := false, body := (.cons (.ite (.or (.cons (.not (.isi (.var 1 "event") "tuple")) (.cons (.not (.var 1 "event")) (.cons (.not (.isi (.idx (.var 1 "event") (.int 0)) "str")) .nil)))) (.cons (.ret (.bl false)) .nil) .nil) (.cons (.ite (.not (.prim .all1 (.cons (.comp d_is_told_e0 (.nm 2 "part") (.seq (.slc (.var 1 "event") (.so (.int 1)) .no)) .no [("part", 2)]) .nil))) (.cons (.ret (.bl false)) .nil) .nil) (.cons (.ret (.cmp .isin (.var 1 "event") (.var 0 "events_there"))) .nil))) }
def d_is_number : FnDef := { name := "is_number", ps := ["value", "least", "most"], N := ["value", "least", "most"], fr := false, body := (.cons (.ret (.and (.cons (.isi (.var 0 "value") "int") (.cons (.not (.isi (.var 0 "value") "bool")) (.cons (.chn .le .le (.var 1 "least") (.var 0 "value") (.var 2 "most")) .nil))))) .nil) }
def d_are_free : FnDef := { name := "are_free", ps := ["problem", "setup", "first", "one", "other"], N := ["problem", "setup", "first", "one", "other"], fr := false, body := (.cons (.ite (.or (.cons (.cmp .eq (.var 3 "one") (.var 4 "other")) (.cons (.cmp .isin (.var 3 "one") (.call true "causes_of" (.cons (.var 0 "problem") (.cons (.var 1 "setup") (.cons (.var 2 "first") (.cons (.var 4 "other") .nil)))))) .nil))) (.cons (.ret (.bl false)) .nil) .nil) (.cons (.ret (.cmp .notin (.var 4 "other") (.call true "causes_of" (.cons (.var 0 "problem") (.cons (.var 1 "setup") (.cons (.var 2 "first") (.cons (.var 3 "one") .nil))))))) .nil)) }
def d_exchanged_e0 : E := (.call false "is_told" (.cons (.var 1 "order") (.cons (.var 7 "event") .nil)))
def d_exchanged : FnDef := { name := "exchanged", ps := ["run", "order", "log", "place"], N := ["run", "order", "log", "place", "problem", "setup", "first", "event"], fr := false, body := (.cons (.asg (.tp [(4, "problem"), (5, "setup"), (6, "first")]) (.var 0 "run")) (.cons (.ite (.or (.cons (.not (.call false "is_number" (.cons (.var 3 "place") (.cons (.int 0) (.cons (.bin .sub (.prim .len1 (.cons (.var 2 "log") .nil)) (.int 2)) .nil))))) (.cons (.not (.prim .all1 (.cons (.comp d_exchanged_e0 (.nm 7 "event") (.seq (.slc (.var 2 "log") (.so (.var 3 "place")) (.so (.bin .add (.var 3 "place") (.int 2))))) .no [("event", 7)]) .nil))) .nil))) (.cons (.ret .non) .nil) .nil) (.cons (.ite (.not (.call false "are_free" (.cons (.var 4 "problem") (.cons (.var 5 "setup") (.cons (.var 6 "first") (.cons (.idx (.var 2 "log") (.var 3 "place")) (.cons (.idx (.var 2 "log") (.bin .add (.var 3 "place") (.int 1))) .nil))))))) (.cons (.ret .non) .nil) .nil) (.cons (.ret (.bin .add (.bin .add (.slc (.var 2 "log") .no (.so (.var 3 "place"))) (.tup true (.cons (.idx (.var 2 "log") (.bin .add (.var 3 "place") (.int 1))) (.cons (.idx (.var 2 "log") (.var 3 "place")) .nil)))) (.slc (.var 2 "log") (.so (.bin .add (.var 3 "place") (.int 2))) .no))) .nil)))) }
def d_judge_exchanges_b0 : Ss := (.cons (.asg (.nm 7 "present") (.call false "exchanged" (.cons (.tup true (.cons (.var 0 "problem") (.cons (.var 1 "setup") (.cons (.var 2 "first") .nil)))) (.cons (.var 6 "order") (.cons (.var 7 "present") (.cons (.var 8 "place") .nil)))))) (.cons (.ite (.cmp .iss (.var 7 "present") .non) (.cons (.ret (.bl false)) .nil) .nil) .nil))
def d_judge_exchanges : FnDef := { name := "judge_exchanges", ps := ["problem", "setup", "first", "log", "other", "places"], N := ["problem", "setup", "first", "log", "other", "places", "order", "present", "place"], fr := false, body := (.cons (.ite (.not (.isi (.var 5 "places") "tuple")) (.cons (.ret (.bl false)) .nil) .nil) (.cons (.asg (.nm 6 "order") (.call false "events" (.cons (.var 0 "problem") (.cons (.var 1 "setup") (.cons (.var 2 "first") .nil))))) (.cons (.asg (.nm 7 "present") (.var 3 "log")) (.cons (.for_ (.nm 8 "place") (.seq (.var 5 "places")) d_judge_exchanges_b0 [8]) (.cons (.ret (.cmp .eq (.var 7 "present") (.var 4 "other"))) .nil))))) }
def d_exchanges_b1 : Ss := (.cons (.asg (.nm 6 "present") (.call false "exchanged" (.cons (.tup true (.cons (.var 0 "problem") (.cons (.var 1 "setup") (.cons (.var 2 "first") .nil)))) (.cons (.var 5 "order") (.cons (.var 6 "present") (.cons (.var 10 "place") .nil)))))) (.cons (.ite (.cmp .iss (.var 6 "present") .non) (.cons (.ret .non) .nil) .nil) (.cons (.app 7 "found" (.var 10 "place")) .nil)))
def d_exchanges_b0 : Ss := (.cons (.ite (.cmp .notin (.var 9 "event") (.slc (.var 6 "present") (.so (.var 8 "target")) .no)) (.cons (.ret .non) .nil) .nil) (.cons (.for_ (.nm 10 "place") (.rng (.cons (.bin .sub (.mth .index2 (.var 6 "present") (.cons (.var 9 "event") (.cons (.var 8 "target") .nil))) (.int 1)) (.cons (.bin .sub (.var 8 "target") (.int 1)) (.cons (.neg (.int 1)) .nil)))) d_exchanges_b1 [10]) .nil))
def d_exchanges : FnDef := { name := "exchanges", ps := ["problem", "setup", "first", "log", "other"], N := ["problem", "setup", "first", "log", "other", "order", "present", "found", "target", "event", "place"], fr := false, body := (.cons (.ite (.cmp .ne (.prim .len1 (.cons (.var 3 "log") .nil)) (.prim .len1 (.cons (.var 4 "other") .nil))) (.cons (.ret .non) .nil) .nil) (.cons (.asg (.nm 5 "order") (.call false "events" (.cons (.var 0 "problem") (.cons (.var 1 "setup") (.cons (.var 2 "first") .nil))))) (.cons (.asg (.nm 6 "present") (.var 3 "log")) (.cons (.asgF 7 "found" (.lst .nil)) (.cons (.for_ (.tp [(8, "target"), (9, "event")]) (.enum (.var 4 "other")) d_exchanges_b0 [8, 9, 10]) (.cons (.ret (.prim .tuple1 (.cons (.own 7 "found") .nil))) .nil)))))) }
def d_law_cell : FnDef := { name := "_law_cell", ps := ["_law_script", "_law_k"], N := ["_law_script", "_law_k"], fr := false, body := (.cons (.ite (.cmp .lt (.var 1 "_law_k") (.prim .len1 (.cons (.var 0 "_law_script") .nil))) (.cons (.ret (.prim .int1 (.cons (.idx (.var 0 "_law_script") (.var 1 "_law_k")) .nil))) .nil) .nil) (.cons (.ret (.int 0)) .nil)) }
def d_law_draws_b0 : Ss := (.cons (.ite (.and (.cons (.cmp .lt (.var 5 "_law_k") (.var 1 "_law_count")) (.cons (.var 3 "_law_great") .nil))) (.cons (.app 4 "_law_found" (.bin .mod (.var 2 "_law_number") (.int 60))) (.cons (.asg (.nm 2 "_law_number") (.bin .fdiv (.var 2 "_law_number") (.int 60))) .nil)) (.cons (.ite (.cmp .lt (.var 5 "_law_k") (.var 1 "_law_count")) (.cons (.asg (.nm 6 "_law_mixed") (.bin .mod (.bin .add (.bin .add (.bin .mul (.prim .int1 (.cons (.var 2 "_law_number") .nil)) (.int 48271)) (.bin .mul (.var 5 "_law_k") (.int 69621))) (.int 11)) (.int 2147483647))) (.cons (.asg (.nm 6 "_law_mixed") (.bin .mod (.bin .add (.bin .add (.bin .mul (.prim .int1 (.cons (.var 6 "_law_mixed") .nil)) (.prim .int1 (.cons (.var 6 "_law_mixed") .nil))) (.bin .mul (.var 5 "_law_k") (.int 7919))) (.int 5)) (.int 998244353))) (.cons (.app 4 "_law_found" (.bin .mod (.prim .int1 (.cons (.var 6 "_law_mixed") .nil)) (.int 60))) .nil))) .nil) .nil)) .nil)
def d_law_draws : FnDef := { name := "_law_draws", ps := ["_law_cell_here", "_law_count"], N := ["_law_cell_here", "_law_count", "_law_number", "_law_great", "_law_found", "_law_k", "_law_mixed"], fr := true, body := (.cons (.asg (.nm 2 "_law_number") (.prim .abs1 (.cons (.prim .int1 (.cons (.var 0 "_law_cell_here") .nil)) .nil))) (.cons (.asg (.nm 3 "_law_great") (.cmp .ge (.var 2 "_law_number") (.bin .pow (.int 10) (.int 18)))) (.cons (.asgF 4 "_law_found" (.lst .nil)) (.cons (.for_ (.nm 5 "_law_k") (.rng (.cons (.int 60) .nil)) d_law_draws_b0 [5, 6]) (.cons (.ret (.own 4 "_law_found")) .nil))))) }
def d_law_stream_b0 : Ss := (.cons (.ext 3 "_law_found" (.call true "_law_draws" (.cons (.call false "_law_cell" (.cons (.var 0 "_law_script") (.cons (.bin .add (.var 1 "_law_first") (.var 4 "_law_k")) .nil))) (.cons (.int 12) .nil)))) .nil)
def d_law_stream : FnDef := { name := "_law_stream", ps := ["_law_script", "_law_first", "_law_count"], N := ["_law_script", "_law_first", "_law_count", "_law_found", "_law_k"], fr := true, body := (.cons (.asgF 3 "_law_found" (.lst .nil)) (.cons (.for_ (.nm 4 "_law_k") (.rng (.cons (.var 2 "_law_count") .nil)) d_law_stream_b0 [4]) (.cons (.frz 3) (.cons (.ret (.lst (.cons (.var 3 "_law_found") (.cons (.newc (.cons (.int 0) .nil)) .nil)))) .nil)))) }
def d_law_next : FnDef := { name := "_law_next", ps := ["_law_stream_here", "_law_many"], N := ["_law_stream_here", "_law_many", "_law_digits", "_law_place", "_law_value"], fr := false, body := (.cons (.asg (.nm 2 "_law_digits") (.idx (.var 0 "_law_stream_here") (.int 0))) (.cons (.asg (.nm 3 "_law_place") (.idx (.var 0 "_law_stream_here") (.int 1))) (.cons (.asg (.nm 4 "_law_value") (.bin .mod (.prim .int1 (.cons (.idx (.var 2 "_law_digits") (.bin .mod (.prim .int1 (.cons (.idx (.var 3 "_law_place") (.int 0)) .nil)) (.prim .len1 (.cons (.var 2 "_law_digits") .nil)))) .nil)) (.var 1 "_law_many"))) (.cons (.setg (.var 3 "_law_place") (.int 0) (.bin .add (.idx (.var 3 "_law_place") (.int 0)) (.int 1))) (.cons (.ret (.var 4 "_law_value")) .nil))))) }
def d_law_same_b0 : Ss := (.cons (.ite (.not (.call false "_law_same" (.cons (.idx (.var 0 "_law_actual") (.var 2 "_law_k")) (.cons (.idx (.var 1 "_law_expected") (.var 2 "_law_k")) .nil)))) (.cons (.ret (.bl false)) .nil) .nil) .nil)
def d_law_same : FnDef := { name := "_law_same", ps := ["_law_actual", "_law_expected"], N := ["_law_actual", "_law_expected", "_law_k"], fr := false, body := (.cons (.ite (.cmp .iss (.var 1 "_law_expected") .non) (.cons (.ret (.cmp .iss (.var 0 "_law_actual") .non)) .nil) .nil) (.cons (.ite (.isi (.var 1 "_law_expected") "bool") (.cons (.ret (.and (.cons (.isi (.var 0 "_law_actual") "bool") (.cons (.cmp .eq (.var 0 "_law_actual") (.var 1 "_law_expected")) .nil)))) .nil) .nil) (.cons (.ite (.isi (.var 1 "_law_expected") "int") (.cons (.ret (.and (.cons (.isi (.var 0 "_law_actual") "int") (.cons (.not (.isi (.var 0 "_law_actual") "bool")) (.cons (.cmp .eq (.var 0 "_law_actual") (.var 1 "_law_expected")) .nil))))) .nil) .nil) (.cons (.ite (.isi (.var 1 "_law_expected") "str") (.cons (.ret (.and (.cons (.isi (.var 0 "_law_actual") "str") (.cons (.cmp .eq (.var 0 "_law_actual") (.var 1 "_law_expected")) .nil)))) .nil) .nil) (.cons (.ite (.and (.cons (.isi (.var 1 "_law_expected") "tuple") (.cons (.not (.isi (.var 0 "_law_actual") "tuple")) .nil))) (.cons (.ret (.bl false)) .nil) .nil) (.cons (.ite (.and (.cons (.isi (.var 1 "_law_expected") "list") (.cons (.not (.isi (.var 0 "_law_actual") "list")) .nil))) (.cons (.ret (.bl false)) .nil) .nil) (.cons (.ite (.cmp .ne (.prim .len1 (.cons (.var 0 "_law_actual") .nil)) (.prim .len1 (.cons (.var 1 "_law_expected") .nil))) (.cons (.ret (.bl false)) .nil) .nil) (.cons (.for_ (.nm 2 "_law_k") (.rng (.cons (.prim .len1 (.cons (.var 1 "_law_expected") .nil)) .nil)) d_law_same_b0 [2]) (.cons (.ret (.bl true)) .nil))))))))) }
def d_law_part_c1 : E := (.cmp .eq (.bin .mod (.var 5 "_law_k") (.idx (.var 1 "_law_setup") (.int 0))) (.var 2 "_law_trainer"))
def d_law_part_e0 : E := (.idx (.var 4 "_law_samples") (.var 5 "_law_k"))
def d_law_part : FnDef := { name := "_law_part", ps := ["_law_problem", "_law_setup", "_law_trainer", "_law_batch"], N := ["_law_problem", "_law_setup", "_law_trainer", "_law_batch", "_law_samples", "_law_k"], fr := true, body := (.cons (.asg (.nm 4 "_law_samples") (.idx (.idx (.var 0 "_law_problem") (.int 1)) (.var 3 "_law_batch"))) (.cons (.ret (.comp d_law_part_e0 (.nm 5 "_law_k") (.rng (.cons (.prim .len1 (.cons (.var 4 "_law_samples") .nil)) .nil)) (.so d_law_part_c1) [("_law_k", 5)])) .nil)) }
def d_law_looked_c2 : E := (.cmp .notin (.var 4 "_law_row") (.own 1 "_law_found"))
def d_law_looked_e1 : E := (.var 4 "_law_row")
def d_law_looked_b0 : Ss := (.cons (.ext 1 "_law_found" (.comp d_law_looked_e1 (.nm 4 "_law_row") (.seq (.var 2 "_law_rows")) (.so d_law_looked_c2) [("_law_row", 4)])) .nil)
def d_law_looked : FnDef := { name := "_law_looked", ps := ["_law_samples"], N := ["_law_samples", "_law_found", "_law_rows", "_law_target", "_law_row"], fr := true, body := (.cons (.asgF 1 "_law_found" (.lst .nil)) (.cons (.for_ (.tp [(2, "_law_rows"), (3, "_law_target")]) (.seq (.var 0 "_law_samples")) d_law_looked_b0 [2, 3]) (.cons (.ret (.prim .sorted1 (.cons (.own 1 "_law_found") .nil))) .nil))) }
def d_law_users_c1 : E := (.cmp .isin (.var 2 "_law_row") (.call true "_law_looked" (.cons (.call true "_law_part" (.cons (.var 0 "_law_problem") (.cons (.var 1 "_law_setup") (.cons (.var 4 "_law_trainer") (.cons (.var 3 "_law_batch") .nil))))) .nil)))
def d_law_users_e0 : E := (.var 4 "_law_trainer")
def d_law_users : FnDef := { name := "_law_users", ps := ["_law_problem", "_law_setup", "_law_row", "_law_batch"], N := ["_law_problem", "_law_setup", "_law_row", "_law_batch", "_law_trainer"], fr := true, body := (.cons (.ret (.comp d_law_users_e0 (.nm 4 "_law_trainer") (.rng (.cons (.idx (.var 1 "_law_setup") (.int 0)) .nil)) (.so d_law_users_c1) [("_law_trainer", 4)])) .nil) }
def d_law_uses_c1 : E := (.cmp .isin (.var 2 "_law_row") (.call true "_law_looked" (.cons (.idx (.idx (.var 0 "_law_problem") (.int 1)) (.var 3 "_law_batch")) .nil)))
def d_law_uses_e0 : E := (.var 3 "_law_batch")
def d_law_uses : FnDef := { name := "_law_uses", ps := ["_law_problem", "_law_first", "_law_row"], N := ["_law_problem", "_law_first", "_law_row", "_law_batch"], fr := true, body := (.cons (.ret (.comp d_law_uses_e0 (.nm 3 "_law_batch") (.rng (.cons (.var 1 "_law_first") (.cons (.prim .len1 (.cons (.idx (.var 0 "_law_problem") (.int 1)) .nil)) .nil))) (.so d_law_uses_c1) [("_law_batch", 3)])) .nil) }
def d_law_stays_b1 : Ss := (.cons (.ite (.cmp .iss (.var 6 "_law_opens") .non) (.cons (.asg (.nm 6 "_law_opens") (.idx (.var 5 "_law_used") (.var 7 "_law_k"))) .nil) .nil) (.cons (.ite (.or (.cons (.cmp .eq (.bin .add (.var 7 "_law_k") (.int 1)) (.prim .len1 (.cons (.var 5 "_law_used") .nil))) (.cons (.cmp .gt (.idx (.var 5 "_law_used") (.bin .add (.var 7 "_law_k") (.int 1))) (.bin .add (.idx (.var 5 "_law_used") (.var 7 "_law_k")) (.idx (.var 1 "_law_setup") (.int 1)))) .nil))) (.cons (.app 3 "_law_found" (.tup true (.cons (.var 4 "_law_row") (.cons (.var 6 "_law_opens") (.cons (.idx (.var 5 "_law_used") (.var 7 "_law_k")) .nil))))) (.cons (.asg (.nm 6 "_law_opens") .non) .nil)) .nil) .nil))
def d_law_stays_b0 : Ss := (.cons (.asg (.nm 5 "_law_used") (.call true "_law_uses" (.cons (.var 0 "_law_problem") (.cons (.var 2 "_law_first") (.cons (.var 4 "_law_row") .nil))))) (.cons (.asg (.nm 6 "_law_opens") .non) (.cons (.for_ (.nm 7 "_law_k") (.rng (.cons (.prim .len1 (.cons (.var 5 "_law_used") .nil)) .nil)) d_law_stays_b1 [7]) .nil)))
def d_law_stays : FnDef := { name := "_law_stays", ps := ["_law_problem", "_law_setup", "_law_first"], N := ["_law_problem", "_law_setup", "_law_first", "_law_found", "_law_row", "_law_used", "_law_opens", "_law_k"], fr := false, body := (.cons (.asgF 3 "_law_found" (.lst .nil)) (.cons (.for_ (.nm 4 "_law_row") (.rng (.cons (.prim .len1 (.cons (.idx (.var 0 "_law_problem") (.int 0)) .nil)) .nil)) d_law_stays_b0 [4, 5, 6, 7]) (.cons (.ret (.prim .tuple1 (.cons (.own 3 "_law_found") .nil))) .nil))) }
def d_law_events_e13 : E := (.tup false (.cons (.var 10 "_law_kind") (.cons (.var 9 "_law_row") (.cons (.var 5 "_law_batch") .nil))))
def d_law_events_b12 : Ss := (.cons (.ext 4 "_law_found" (.comp d_law_events_e13 (.nm 9 "_law_row") (.seq (.var 7 "_law_closed")) .no [("_law_row", 9)])) .nil)
def d_law_events_e11 : E := (.tup false (.cons (.str "update") (.cons (.var 9 "_law_row") (.cons (.var 5 "_law_batch") (.cons (.var 13 "_law_trainer") .nil)))))
def d_law_events_e10 : E := (.tup false (.cons (.str "compute") (.cons (.var 13 "_law_trainer") (.cons (.var 5 "_law_batch") .nil))))
def d_law_events_e9 : E := (.tup false (.cons (.str "value") (.cons (.var 9 "_law_row") (.cons (.var 5 "_law_batch") (.cons (.var 13 "_law_trainer") .nil)))))
def d_law_events_e8 : E := (.tup false (.cons (.var 10 "_law_kind") (.cons (.var 9 "_law_row") (.cons (.var 5 "_law_batch") .nil))))
def d_law_events_b7 : Ss := (.cons (.ext 4 "_law_found" (.comp d_law_events_e8 (.nm 9 "_law_row") (.seq (.var 6 "_law_opened")) .no [("_law_row", 9)])) .nil)
def d_law_events_e6 : E := (.tup true (.cons (.var 9 "_law_row") (.cons (.var 13 "_law_trainer") .nil)))
def d_law_events_b5 : Ss := (.cons (.ext 8 "_law_pairs" (.comp d_law_events_e6 (.nm 13 "_law_trainer") (.seq (.call true "_law_users" (.cons (.var 0 "_law_problem") (.cons (.var 1 "_law_setup") (.cons (.var 9 "_law_row") (.cons (.var 5 "_law_batch") .nil)))))) .no [("_law_trainer", 13)])) .nil)
def d_law_events_c4 : E := (.cmp .eq (.var 12 "_law_closes") (.var 5 "_law_batch"))
def d_law_events_e3 : E := (.var 9 "_law_row")
def d_law_events_c2 : E := (.cmp .eq (.var 11 "_law_opens") (.var 5 "_law_batch"))
def d_law_events_e1 : E := (.var 9 "_law_row")
def d_law_events_b0 : Ss := (.cons (.asg (.nm 6 "_law_opened") (.comp d_law_events_e1 (.tp [(9, "_law_row"), (11, "_law_opens"), (12, "_law_closes")]) (.seq (.var 3 "_law_rows")) (.so d_law_events_c2) [("_law_row", 9), ("_law_opens", 11), ("_law_closes", 12)])) (.cons (.asg (.nm 7 "_law_closed") (.comp d_law_events_e3 (.tp [(9, "_law_row"), (11, "_law_opens"), (12, "_law_closes")]) (.seq (.var 3 "_law_rows")) (.so d_law_events_c4) [("_law_row", 9), ("_law_opens", 11), ("_law_closes", 12)])) (.cons (.asgF 8 "_law_pairs" (.lst .nil)) (.cons (.for_ (.nm 9 "_law_row") (.rng (.cons (.prim .len1 (.cons (.idx (.var 0 "_law_problem") (.int 0)) .nil)) .nil)) d_law_events_b5 [9]) (.cons (.for_ (.nm 10 "_law_kind") (.seq (.lst (.cons (.str "request") (.cons (.str "read") (.cons (.str "reply") .nil))))) d_law_events_b7 [10]) (.cons (.ext 4 "_law_found" (.comp d_law_events_e9 (.tp [(9, "_law_row"), (13, "_law_trainer")]) (.seq (.own 8 "_law_pairs")) .no [("_law_row", 9), ("_law_trainer", 13)])) (.cons (.ext 4 "_law_found" (.comp d_law_events_e10 (.nm 13 "_law_trainer") (.rng (.cons (.idx (.var 1 "_law_setup") (.int 0)) .nil)) .no [("_law_trainer", 13)])) (.cons (.ext 4 "_law_found" (.comp d_law_events_e11 (.tp [(9, "_law_row"), (13, "_law_trainer")]) (.seq (.own 8 "_law_pairs")) .no [("_law_row", 9), ("_law_trainer", 13)])) (.cons (.for_ (.nm 10 "_law_kind") (.seq (.lst (.cons (.str "write") (.cons (.str "ack") .nil)))) d_law_events_b12 [10]) .nil)))))))))
def d_law_events : FnDef := { name := "_law_events", ps := ["_law_problem", "_law_setup", "_law_first"], N := ["_law_problem", "_law_setup", "_law_first", "_law_rows", "_law_found", "_law_batch", "_law_opened", "_law_closed", "_law_pairs", "_law_row", "_law_kind", "_law_opens", "_law_closes", "_law_trainer"], fr := false, body := (.cons (.asg (.nm 3 "_law_rows") (.call false "_law_stays" (.cons (.var 0 "_law_problem") (.cons (.var 1 "_law_setup") (.cons (.var 2 "_law_first") .nil))))) (.cons (.asgF 4 "_law_found" (.lst .nil)) (.cons (.for_ (.nm 5 "_law_batch") (.rng (.cons (.var 2 "_law_first") (.cons (.prim .len1 (.cons (.idx (.var 0 "_law_problem") (.int 1)) .nil)) .nil))) d_law_events_b0 [5, 6, 7, 8, 9, 10]) (.cons (.ret (.prim .tuple1 (.cons (.own 4 "_law_found") .nil))) .nil)))) }
def d_law_is_cause_c1 : E := (.cmp .gt (.var 13 "_law_t") (.var 10 "_law_earlier"))
def d_law_is_cause_e0 : E := (.var 13 "_law_t")
def d_law_is_cause : FnDef := { name := "_law_is_cause", ps := ["_law_problem", "_law_setup", "_law_first", "_law_other", "_law_event"], N := ["_law_problem", "_law_setup", "_law_first", "_law_other", "_law_event", "_law_kind", "_law_one", "_law_batch", "_law_ahead", "_law_row", "_law_earlier", "_law_used", "_law_follows", "_law_t"], fr := false, body := (.cons (.asg (.tp [(5, "_law_kind"), (6, "_law_one"), (7, "_law_batch")]) (.slc (.var 4 "_law_event") .no (.so (.int 3)))) (.cons (.asg (.tp [(8, "_law_ahead"), (9, "_law_row"), (10, "_law_earlier")]) (.slc (.var 3 "_law_other") .no (.so (.int 3)))) (.cons (.asg (.nm 11 "_law_used") (.call true "_law_uses" (.cons (.var 0 "_law_problem") (.cons (.var 2 "_law_first") (.cons (.var 6 "_law_one") .nil))))) (.cons (.asg (.nm 12 "_law_follows") (.and (.cons (.cmp .ne (.var 8 "_law_ahead") (.str "compute")) (.cons (.cmp .eq (.var 9 "_law_row") (.var 6 "_law_one")) (.cons (.cmp .isin (.var 10 "_law_earlier") (.var 11 "_law_used")) (.cons (.cmp .eq (.slc (.comp d_law_is_cause_e0 (.nm 13 "_law_t") (.seq (.var 11 "_law_used")) (.so d_law_is_cause_c1) [("_law_t", 13)]) .no (.so (.int 1))) (.lst (.cons (.var 7 "_law_batch") .nil))) .nil)))))) (.cons (.ite (.cmp .eq (.var 5 "_law_kind") (.str "request")) (.cons (.ret (.or (.cons (.and (.cons (.cmp .eq (.var 8 "_law_ahead") (.str "ack")) (.cons (.var 12 "_law_follows") .nil))) (.cons (.and (.cons (.cmp .eq (.var 8 "_law_ahead") (.str "update")) (.cons (.cmp .le (.bin .add (.var 10 "_law_earlier") (.idx (.var 1 "_law_setup") (.int 1))) (.var 7 "_law_batch")) .nil))) .nil)))) .nil) .nil) (.cons (.ite (.cmp .eq (.var 5 "_law_kind") (.str "value")) (.cons (.ite (.cmp .eq (.var 8 "_law_ahead") (.str "reply")) (.cons (.ret (.and (.cons (.cmp .eq (.var 9 "_law_row") (.var 6 "_law_one")) (.cons (.cmp .eq (.var 10 "_law_earlier") (.var 7 "_law_batch")) .nil)))) .nil) .nil) (.cons (.ret (.and (.cons (.cmp .eq (.var 8 "_law_ahead") (.str "update")) (.cons (.var 12 "_law_follows") (.cons (.cmp .le (.var 7 "_law_batch") (.bin .add (.var 10 "_law_earlier") (.idx (.var 1 "_law_setup") (.int 1)))) .nil))))) .nil)) .nil) (.cons (.ite (.cmp .eq (.var 5 "_law_kind") (.str "compute")) (.cons (.ite (.cmp .eq (.var 8 "_law_ahead") (.str "compute")) (.cons (.ret (.and (.cons (.cmp .eq (.var 9 "_law_row") (.var 6 "_law_one")) (.cons (.cmp .eq (.var 10 "_law_earlier") (.bin .sub (.var 7 "_law_batch") (.int 1))) .nil)))) .nil) .nil) (.cons (.ite (.cmp .eq (.var 8 "_law_ahead") (.str "value")) (.cons (.ret (.and (.cons (.cmp .eq (.var 10 "_law_earlier") (.var 7 "_law_batch")) (.cons (.cmp .eq (.idx (.var 3 "_law_other") (.int 3)) (.var 6 "_law_one")) .nil)))) .nil) .nil) (.cons (.ret (.and (.cons (.cmp .eq (.var 8 "_law_ahead") (.str "update")) (.cons (.cmp .le (.bin .add (.var 10 "_law_earlier") (.idx (.var 1 "_law_setup") (.int 2))) (.var 7 "_law_batch")) .nil)))) .nil))) .nil) (.cons (.ite (.cmp .eq (.var 5 "_law_kind") (.str "update")) (.cons (.ret (.cmp .eq (.var 3 "_law_other") (.tup false (.cons (.str "compute") (.cons (.idx (.var 4 "_law_event") (.int 3)) (.cons (.var 7 "_law_batch") .nil)))))) .nil) .nil) (.cons (.ite (.cmp .eq (.var 5 "_law_kind") (.str "write")) (.cons (.ret (.and (.cons (.cmp .eq (.var 8 "_law_ahead") (.str "update")) (.cons (.cmp .eq (.var 9 "_law_row") (.var 6 "_law_one")) (.cons (.cmp .eq (.var 10 "_law_earlier") (.var 7 "_law_batch")) .nil))))) .nil) .nil) (.cons (.ret (.cmp .eq (.var 3 "_law_other") (.tup false (.cons (.idx (.disp (.cons (.str "read") (.cons (.str "reply") (.cons (.str "ack") .nil))) (.cons (.str "request") (.cons (.str "read") (.cons (.str "write") .nil)))) (.var 5 "_law_kind")) (.cons (.var 6 "_law_one") (.cons (.var 7 "_law_batch") .nil)))))) .nil)))))))))) }
def d_law_known : FnDef := { name := "_law_known", ps := [], N := ["_law_problem"], fr := true, body := (.cons (.asg (.nm 0 "_law_problem") (.tup true (.cons (.tup true (.cons (.int 5) (.cons (.int 0) (.cons (.int 2) .nil)))) (.cons (.tup true (.cons (.tup true (.cons (.tup true (.cons (.tup true (.cons (.int 0) (.cons (.int 1) .nil))) (.cons (.int 9) .nil))) .nil)) (.cons (.tup true (.cons (.tup true (.cons (.tup true (.cons (.int 1) .nil)) (.cons (.int 5) .nil))) (.cons (.tup true (.cons (.tup true (.cons (.int 0) .nil)) (.cons (.int 0) .nil))) .nil))) (.cons (.tup true (.cons (.tup true (.cons (.tup true (.cons (.int 0) (.cons (.int 2) .nil))) (.cons (.int 4) .nil))) .nil)) .nil)))) (.cons (.int 2) (.cons (.int 3) .nil)))))) (.cons (.ret (.lst (.cons (.var 0 "_law_problem") (.cons (.tup true (.cons (.int 2) (.cons (.int 1) (.cons (.int 1) .nil)))) (.cons (.int 0) .nil))))) .nil)) }
def d_law_run_b2 : Ss := (.cons (.asg (.nm 6 "_law_one") (.call false "_law_next" (.cons (.var 0 "_law_stream_here") (.cons (.prim .len1 (.cons (.var 1 "_law_rows") .nil)) .nil)))) (.cons (.asg (.nm 7 "_law_two") (.call false "_law_next" (.cons (.var 0 "_law_stream_here") (.cons (.prim .len1 (.cons (.var 1 "_law_rows") .nil)) .nil)))) (.cons (.app 4 "_law_samples" (.tup true (.cons (.slc (.tup true (.cons (.var 6 "_law_one") (.cons (.var 7 "_law_two") .nil))) .no (.so (.bin .add (.int 1) (.prim .int1 (.cons (.cmp .ne (.var 6 "_law_one") (.var 7 "_law_two")) .nil))))) (.cons (.bin .sub (.call false "_law_next" (.cons (.var 0 "_law_stream_here") (.cons (.int 11) .nil))) (.int 5)) .nil)))) .nil)))
def d_law_run_b1 : Ss := (.cons (.asgF 4 "_law_samples" (.lst .nil)) (.cons (.for_ (.nm 5 "_law_k") (.rng (.cons (.call false "_law_next" (.cons (.var 0 "_law_stream_here") (.cons (.int 3) .nil))) .nil)) d_law_run_b2 [5, 6, 7]) (.cons (.app 2 "_law_batches" (.prim .tuple1 (.cons (.own 4 "_law_samples") .nil))) .nil)))
def d_law_run_e0 : E := (.bin .sub (.call false "_law_next" (.cons (.var 0 "_law_stream_here") (.cons (.int 7) .nil))) (.int 3))
def d_law_run : FnDef := { name := "_law_run", ps := ["_law_stream_here"], N := ["_law_stream_here", "_law_rows", "_law_batches", "_law_t", "_law_samples", "_law_k", "_law_one", "_law_two", "_law_problem"], fr := true, body := (.cons (.asg (.nm 1 "_law_rows") (.prim .tuple1 (.cons (.comp d_law_run_e0 (.nm 5 "_law_k") (.rng (.cons (.bin .add (.int 1) (.call false "_law_next" (.cons (.var 0 "_law_stream_here") (.cons (.int 3) .nil)))) .nil)) .no [("_law_k", 5)]) .nil))) (.cons (.asgF 2 "_law_batches" (.lst .nil)) (.cons (.for_ (.nm 3 "_law_t") (.rng (.cons (.bin .add (.int 1) (.call false "_law_next" (.cons (.var 0 "_law_stream_here") (.cons (.int 3) .nil)))) .nil)) d_law_run_b1 [3, 4, 5, 6, 7]) (.cons (.asg (.nm 8 "_law_problem") (.tup true (.cons (.var 1 "_law_rows") (.cons (.prim .tuple1 (.cons (.own 2 "_law_batches") .nil)) (.cons (.bin .add (.int 1) (.call false "_law_next" (.cons (.var 0 "_law_stream_here") (.cons (.int 3) .nil)))) (.cons (.bin .add (.int 1) (.call false "_law_next" (.cons (.var 0 "_law_stream_here") (.cons (.int 4) .nil)))) .nil)))))) (.cons (.ret (.lst (.cons (.var 8 "_law_problem") (.cons (.tup true (.cons (.bin .add (.int 1) (.call false "_law_next" (.cons (.var 0 "_law_stream_here") (.cons (.int 2) .nil)))) (.cons (.bin .add (.int 1) (.call false "_law_next" (.cons (.var 0 "_law_stream_here") (.cons (.int 2) .nil)))) (.cons (.bin .add (.int 1) (.call false "_law_next" (.cons (.var 0 "_law_stream_here") (.cons (.int 2) .nil)))) .nil)))) (.cons (.prim .int1 (.cons (.cmp .eq (.call false "_law_next" (.cons (.var 0 "_law_stream_here") (.cons (.int 5) .nil))) (.int 0)) .nil)) .nil))))) .nil))))) }
def d_law_graph_c2 : E := (.call false "_law_is_cause" (.cons (.idx (.var 0 "_law_run_here") (.int 0)) (.cons (.idx (.var 0 "_law_run_here") (.int 1)) (.cons (.idx (.var 0 "_law_run_here") (.int 2)) (.cons (.var 4 "_law_other") (.cons (.idx (.var 1 "_law_rows") (.var 3 "_law_k")) .nil))))))
def d_law_graph_e1 : E := (.var 4 "_law_other")
def d_law_graph_b0 : Ss := (.cons (.seti 2 "_law_found" (.idx (.var 1 "_law_rows") (.var 3 "_law_k")) (.comp d_law_graph_e1 (.nm 4 "_law_other") (.seq (.slc (.var 1 "_law_rows") .no (.so (.var 3 "_law_k")))) (.so d_law_graph_c2) [("_law_other", 4)])) .nil)
def d_law_graph : FnDef := { name := "_law_graph", ps := ["_law_run_here"], N := ["_law_run_here", "_law_rows", "_law_found", "_law_k", "_law_other"], fr := true, body := (.cons (.asg (.nm 1 "_law_rows") (.call false "_law_events" (.cons (.idx (.var 0 "_law_run_here") (.int 0)) (.cons (.idx (.var 0 "_law_run_here") (.int 1)) (.cons (.idx (.var 0 "_law_run_here") (.int 2)) .nil))))) (.cons (.asgF 2 "_law_found" .dT0) (.cons (.for_ (.nm 3 "_law_k") (.rng (.cons (.prim .len1 (.cons (.var 1 "_law_rows") .nil)) .nil)) d_law_graph_b0 [3]) (.cons (.ret (.own 2 "_law_found")) .nil)))) }
def d_law_free : FnDef := { name := "_law_free", ps := ["_law_graph_here", "_law_one", "_law_other"], N := ["_law_graph_here", "_law_one", "_law_other"], fr := false, body := (.cons (.ret (.and (.cons (.cmp .ne (.var 1 "_law_one") (.var 2 "_law_other")) (.cons (.cmp .notin (.var 1 "_law_one") (.idx (.var 0 "_law_graph_here") (.var 2 "_law_other"))) (.cons (.cmp .notin (.var 2 "_law_other") (.idx (.var 0 "_law_graph_here") (.var 1 "_law_one"))) .nil))))) .nil) }
def d_law_pair_holds_b0 : Ss := (.cons (.asg (.nm 8 "_law_turned") (.bin .add (.bin .add (.slc (.var 6 "_law_log") .no (.so (.var 7 "_law_place"))) (.tup true (.cons (.idx (.var 6 "_law_log") (.bin .add (.var 7 "_law_place") (.int 1))) (.cons (.idx (.var 6 "_law_log") (.var 7 "_law_place")) .nil)))) (.slc (.var 6 "_law_log") (.so (.bin .add (.var 7 "_law_place") (.int 2))) .no))) (.cons (.ite (.not (.call false "_law_same" (.cons (.call false "judge_exchanges" (.cons (.idx (.var 0 "_law_run_here") (.int 0)) (.cons (.idx (.var 0 "_law_run_here") (.int 1)) (.cons (.idx (.var 0 "_law_run_here") (.int 2)) (.cons (.var 6 "_law_log") (.cons (.var 8 "_law_turned") (.cons (.tup true (.cons (.var 7 "_law_place") .nil)) .nil))))))) (.cons (.var 5 "_law_due") .nil)))) (.cons (.ret (.bl false)) .nil) .nil) (.cons (.ite (.not (.call false "_law_same" (.cons (.call false "judge_exchanges" (.cons (.idx (.var 0 "_law_run_here") (.int 0)) (.cons (.idx (.var 0 "_law_run_here") (.int 1)) (.cons (.idx (.var 0 "_law_run_here") (.int 2)) (.cons (.var 8 "_law_turned") (.cons (.var 6 "_law_log") (.cons (.tup true (.cons (.var 7 "_law_place") .nil)) .nil))))))) (.cons (.var 5 "_law_due") .nil)))) (.cons (.ret (.bl false)) .nil) .nil) .nil)))
def d_law_pair_holds : FnDef := { name := "_law_pair_holds", ps := ["_law_run_here", "_law_graph_here", "_law_one", "_law_other", "_law_around"], N := ["_law_run_here", "_law_graph_here", "_law_one", "_law_other", "_law_around", "_law_due", "_law_log", "_law_place", "_law_turned", "_law_told"], fr := false, body := (.cons (.asg (.nm 5 "_law_due") (.call false "_law_free" (.cons (.var 1 "_law_graph_here") (.cons (.var 2 "_law_one") (.cons (.var 3 "_law_other") .nil))))) (.cons (.for_ (.tp [(6, "_law_log"), (7, "_law_place")]) (.seq (.lst (.cons (.tup true (.cons (.tup true (.cons (.var 2 "_law_one") (.cons (.var 3 "_law_other") .nil))) (.cons (.int 0) .nil))) (.cons (.tup true (.cons (.bin .add (.var 4 "_law_around") (.tup true (.cons (.var 2 "_law_one") (.cons (.var 3 "_law_other") .nil)))) (.cons (.prim .len1 (.cons (.var 4 "_law_around") .nil)) .nil))) (.cons (.tup true (.cons (.bin .add (.tup true (.cons (.var 2 "_law_one") (.cons (.var 3 "_law_other") .nil))) (.var 4 "_law_around")) (.cons (.int 0) .nil))) .nil))))) d_law_pair_holds_b0 [6, 7, 8]) (.cons (.ite (.cmp .eq (.var 2 "_law_one") (.var 3 "_law_other")) (.cons (.ret (.bl true)) .nil) .nil) (.cons (.asg (.nm 9 "_law_told") (.call false "exchanges" (.cons (.idx (.var 0 "_law_run_here") (.int 0)) (.cons (.idx (.var 0 "_law_run_here") (.int 1)) (.cons (.idx (.var 0 "_law_run_here") (.int 2)) (.cons (.tup true (.cons (.var 2 "_law_one") (.cons (.var 3 "_law_other") .nil))) (.cons (.tup true (.cons (.var 3 "_law_other") (.cons (.var 2 "_law_one") .nil))) .nil))))))) (.cons (.ret (.call false "_law_same" (.cons (.var 9 "_law_told") (.cons (.idx (.lst (.cons .non (.cons (.tup true (.cons (.int 0) .nil)) .nil))) (.prim .int1 (.cons (.var 5 "_law_due") .nil))) .nil)))) .nil))))) }
def d_law_holds_c5 : E := (.cmp .notin (.var 12 "_law_event") (.lst (.cons (.var 8 "_law_one") (.cons (.var 9 "_law_other") .nil))))
def d_law_holds_e4 : E := (.var 12 "_law_event")
def d_law_holds_b3 : Ss := (.cons (.ite (.not (.call false "_law_pair_holds" (.cons (.var 1 "_law_run_here") (.cons (.var 3 "_law_graph_here") (.cons (.var 8 "_law_one") (.cons (.var 9 "_law_other") (.cons (.prim .tuple1 (.cons (.comp d_law_holds_e4 (.nm 12 "_law_event") (.seq (.var 5 "_law_around")) (.so d_law_holds_c5) [("_law_event", 12)]) .nil)) .nil))))))) (.cons (.ret (.bl false)) .nil) .nil) .nil)
def d_law_holds_e2 : E := (.tup true (.cons (.var 8 "_law_one") (.cons (.var 11 "_law_cause") .nil)))
def d_law_holds_b1 : Ss := (.cons (.asg (.nm 8 "_law_one") (.idx (.var 4 "_law_rows") (.bin .mod (.bin .add (.call false "_law_next" (.cons (.var 0 "_law_stream_here") (.cons (.int 60) .nil))) (.bin .mul (.int 60) (.call false "_law_next" (.cons (.var 0 "_law_stream_here") (.cons (.int 2) .nil))))) (.prim .len1 (.cons (.var 4 "_law_rows") .nil))))) (.cons (.asg (.nm 9 "_law_other") (.idx (.var 4 "_law_rows") (.bin .mod (.bin .add (.call false "_law_next" (.cons (.var 0 "_law_stream_here") (.cons (.int 60) .nil))) (.bin .mul (.int 60) (.call false "_law_next" (.cons (.var 0 "_law_stream_here") (.cons (.int 2) .nil))))) (.prim .len1 (.cons (.var 4 "_law_rows") .nil))))) (.cons (.asgF 6 "_law_pairs" (.cat (.own 6 "_law_pairs") (.lst (.cons (.tup true (.cons (.var 8 "_law_one") (.cons (.var 9 "_law_other") .nil))) (.cons (.tup true (.cons (.var 8 "_law_one") (.cons (.var 8 "_law_one") .nil))) .nil))))) (.cons (.ext 6 "_law_pairs" (.comp d_law_holds_e2 (.nm 11 "_law_cause") (.seq (.slc (.idx (.var 3 "_law_graph_here") (.var 8 "_law_one")) .no (.so (.int 2)))) .no [("_law_cause", 11)])) .nil))))
def d_law_holds_e0 : E := (.tup true (.cons (.idx (.var 4 "_law_rows") (.var 10 "_law_k")) (.cons (.idx (.var 4 "_law_rows") (.bin .add (.var 10 "_law_k") (.int 1))) .nil)))
def d_law_holds : FnDef := { name := "_law_holds", ps := ["_law_stream_here", "_law_run_here", "_law_many"], N := ["_law_stream_here", "_law_run_here", "_law_many", "_law_graph_here", "_law_rows", "_law_around", "_law_pairs", "_law_turn", "_law_one", "_law_other", "_law_k", "_law_cause", "_law_event"], fr := false, body := (.cons (.asg (.nm 3 "_law_graph_here") (.call true "_law_graph" (.cons (.var 1 "_law_run_here") .nil))) (.cons (.asg (.nm 4 "_law_rows") (.prim .list1 (.cons (.var 3 "_law_graph_here") .nil))) (.cons (.ite (.cmp .lt (.prim .len1 (.cons (.var 4 "_law_rows") .nil)) (.int 2)) (.cons (.ret (.bl true)) .nil) .nil) (.cons (.asg (.nm 5 "_law_around") (.prim .tuple1 (.cons (.slc (.var 4 "_law_rows") (.so (.neg (.int 2))) .no) .nil))) (.cons (.asgF 6 "_law_pairs" (.comp d_law_holds_e0 (.nm 10 "_law_k") (.rng (.cons (.bin .sub (.prim .len1 (.cons (.var 4 "_law_rows") .nil)) (.int 1)) .nil)) .no [("_law_k", 10)])) (.cons (.for_ (.nm 7 "_law_turn") (.rng (.cons (.var 2 "_law_many") .nil)) d_law_holds_b1 [7, 8, 9]) (.cons (.frz 6) (.cons (.for_ (.tp [(8, "_law_one"), (9, "_law_other")]) (.seq (.var 6 "_law_pairs")) d_law_holds_b3 []) (.cons (.ret (.bl true)) .nil))))))))) }
def d_law : FnDef := { name := "law", ps := ["_law_script"], N := ["_law_script", "_law_stream_here"], fr := false, body := (.cons (.asg (.nm 1 "_law_stream_here") (.call true "_law_stream" (.cons (.var 0 "_law_script") (.cons (.int 0) (.cons (.int 16) .nil))))) (.cons (.ret (.and (.cons (.call false "_law_holds" (.cons (.var 1 "_law_stream_here") (.cons (.call true "_law_known" .nil) (.cons (.int 6) .nil)))) (.cons (.call false "_law_holds" (.cons (.var 1 "_law_stream_here") (.cons (.call true "_law_run" (.cons (.var 1 "_law_stream_here") .nil)) (.cons (.int 12) .nil)))) .nil)))) .nil)) }
def defs : List FnDef := [d_samples_of, d_rows_of, d_users, d_uses, d_stays_of, d_stays, d_handovers, d_events_of, d_events, d_updates_until, d_use_before, d_request_causes, d_value_causes, d_compute_causes, d_causes_of, d_is_told, d_is_number, d_are_free, d_exchanged, d_judge_exchanges, d_exchanges, d_law_cell, d_law_draws, d_law_stream, d_law_next, d_law_same, d_law_part, d_law_looked, d_law_users, d_law_uses, d_law_stays, d_law_events, d_law_is_cause, d_law_known, d_law_run, d_law_graph, d_law_free, d_law_pair_holds, d_law_holds, d_law]
def Pr : Prog := fun f => defs.find? fun d => d.name == f
theorem P_samples_of : Pr "samples_of" = some d_samples_of := by rfl
theorem P_rows_of : Pr "rows_of" = some d_rows_of := by rfl
theorem P_users : Pr "users" = some d_users := by rfl
theorem P_uses : Pr "uses" = some d_uses := by rfl
theorem P_stays_of : Pr "stays_of" = some d_stays_of := by rfl
theorem P_stays : Pr "stays" = some d_stays := by rfl
theorem P_handovers : Pr "handovers" = some d_handovers := by rfl
theorem P_events_of : Pr "events_of" = some d_events_of := by rfl
theorem P_events : Pr "events" = some d_events := by rfl
theorem P_updates_until : Pr "updates_until" = some d_updates_until := by rfl
theorem P_use_before : Pr "use_before" = some d_use_before := by rfl
theorem P_request_causes : Pr "request_causes" = some d_request_causes := by rfl
theorem P_value_causes : Pr "value_causes" = some d_value_causes := by rfl
theorem P_compute_causes : Pr "compute_causes" = some d_compute_causes := by rfl
theorem P_causes_of : Pr "causes_of" = some d_causes_of := by rfl
theorem P_is_told : Pr "is_told" = some d_is_told := by rfl
theorem P_is_number : Pr "is_number" = some d_is_number := by rfl
theorem P_are_free : Pr "are_free" = some d_are_free := by rfl
theorem P_exchanged : Pr "exchanged" = some d_exchanged := by rfl
theorem P_judge_exchanges : Pr "judge_exchanges" = some d_judge_exchanges := by rfl
theorem P_exchanges : Pr "exchanges" = some d_exchanges := by rfl
theorem P_law_cell : Pr "_law_cell" = some d_law_cell := by rfl
theorem P_law_draws : Pr "_law_draws" = some d_law_draws := by rfl
theorem P_law_stream : Pr "_law_stream" = some d_law_stream := by rfl
theorem P_law_next : Pr "_law_next" = some d_law_next := by rfl
theorem P_law_same : Pr "_law_same" = some d_law_same := by rfl
theorem P_law_part : Pr "_law_part" = some d_law_part := by rfl
theorem P_law_looked : Pr "_law_looked" = some d_law_looked := by rfl
theorem P_law_users : Pr "_law_users" = some d_law_users := by rfl
theorem P_law_uses : Pr "_law_uses" = some d_law_uses := by rfl
theorem P_law_stays : Pr "_law_stays" = some d_law_stays := by rfl
theorem P_law_events : Pr "_law_events" = some d_law_events := by rfl
theorem P_law_is_cause : Pr "_law_is_cause" = some d_law_is_cause := by rfl
theorem P_law_known : Pr "_law_known" = some d_law_known := by rfl
theorem P_law_run : Pr "_law_run" = some d_law_run := by rfl
theorem P_law_graph : Pr "_law_graph" = some d_law_graph := by rfl
theorem P_law_free : Pr "_law_free" = some d_law_free := by rfl
theorem P_law_pair_holds : Pr "_law_pair_holds" = some d_law_pair_holds := by rfl
theorem P_law_holds : Pr "_law_holds" = some d_law_holds := by rfl
theorem P_law : Pr "law" = some d_law := by rfl
end CM

namespace CM
open PySem hiding exec execs start
open PySem.Spec PyProof.Rows L2 MP
local macro_rules
  | `(tactic| simp_arith [$xs,*]) => `(tactic| simp -implicitDefEqProofs (disch := first | omega | (simp only [List.length_append, List.length_map, List.length_range, List.length_range', List.length_nil, List.length_cons, List.length_singleton, List.length_zipIdx] <;> omega)) only [gv0, gvS, go0, goS, ev_var, ev_own, ev_non, ev_bl, ev_int, ev_str, ev_glb, ev_tup, ev_lst, ev_dK0, ev_dT0, ev_bin, ev_cat, ev_rep, negR_int, ev_neg, notR_bl, ev_not, blR_some, ev_cmp, chR_t, chR_f, ev_chn, ev_and, ev_or, bR_bl, anR_t, anR_f, anR_b, orR_t, orR_f, orR_b, and_one, and_more, or_one, or_more, ev_ife, ev_idx, ev_slc, ev_rev, calR_f, calR_ok, calR_ex, ev_call, ev_prim, ev_mth, ev_isi, ev_srtset, ev_lrng, ev_comp, ev_newc, evs_nil, evs_cons, inR_int, evo_no, evo_so, evI_seq, evI_rng, evI_enum, tv_not, tv_and, tv_or, tv_var, tv_own, tv_non, tv_bl, tv_int, tv_cmp, tv_chn, tv_call, tv_prim, tv_isi, tv_idx, tv_mth, tv_ife, tv_comp, tv_slc, tv_bin, tand_one, tand_more, tor_one, tor_more, b_ok, b_ex, l_some, s_ok, s_ex, q_nx, q_rt, q_bk, q_ct, q_ex, n_some, f_nx, f_rt, f_ex, fr_f, fr_t, fr_k, x_asg, x_asgF, x_frz, onL0, onLS, x_app, x_ext, x_ex, x_ret, x_retN, x_cont, x_brk, x_rais, x_ite, x_for, x_whl, xs_nil, xs_cons, forB_nm, setTg_nm, setTg_tp, setTp_nil, setTp_cons, sl0, slS, w_nil, w_cons, ow0, owS, ob, om, st_e, frR_some, frz_eq, x_setg, x_seti, oc0, ocS, x_appPop, ol0, olS, fl_int, fls_nil, fls_cons, t_bl, t_int, t_non, t_lst, d_add, d_sub, d_mul, d_fdiv, d_mod, d_lt, d_le, d_gt, d_ge, d_eqi, d_nei, p_len, p_lent, p_lens, p_int, p_abs, p_tup, p_tupt, p_list, p_listt, p_min2, p_max2, ix_l, ix_t, ix_s, app_d, ext_l, ext_t, bo_ok (t_bl), bo_ok (t_int), bo_ok (t_lst), notR_of (t_lst), os_eq, Es.hasOwn, List.map_cons, List.map_nil, List.length_cons, List.length_nil, List.replicate_succ, List.replicate_zero, List.cons_append, List.nil_append, Nat.reduceSub, Nat.reduceAdd, Nat.sub_self, reduceIte, Bool.not_true, Bool.not_false, Bool.false_eq_true, Bool.and_self, Bool.and_true, Bool.true_and, Nat.reduceBEq, Nat.reduceEqDiff, cF_no, cF_so, cF2_no, cF2_so, cF3_no, cF3_so, cR_b, q_nil, q_nil2, forB_tp2, forB_tp3, ty_bool_non, ty_bool_bl, ty_bool_int, ty_bool_str, ty_bool_tup, ty_bool_lst, ty_int_non, ty_int_bl, ty_int_int, ty_int_str, ty_int_tup, ty_int_lst, ty_str_non, ty_str_bl, ty_str_int, ty_str_str, ty_str_tup, ty_str_lst, ty_tuple_non, ty_tuple_bl, ty_tuple_int, ty_tuple_str, ty_tuple_tup, ty_tuple_lst, ty_list_non, ty_list_bl, ty_list_int, ty_list_str, ty_list_tup, ty_list_lst, d_eqb, d_isn, d_isi, d_isb, d_iss, d_ist, d_isl, d_insn, d_insi, d_inst, d_insl, p_int_b, t_tup, compL_nil, compL_cons, cC_some, cC_none, cK_ok, cN_ok, forL_nil, forL_cons, foR_nx, foR_ct, foR_bk, foR_rt, foR_ex, seq_l, seq_t, enu_l, enu_t, ev_dcomp, dcF_nm, evI_items, agS_int, x_augi, x_ins, x_asgPop, setTg_tpl, forB_tp2l, forB_tp3l, d_isbb, d_insbb, d_isdK, p_lendK, p_lendT, ty_bool_dK, ty_int_dK, ty_str_dK, ty_tuple_dK, ty_list_dK, ms_i1, ms_i2, ms_g2, ms_g1, $xs,*])
local macro_rules
  | `(tactic| simp_arith [$xs,*] at $h:ident) => `(tactic| simp -implicitDefEqProofs (disch := first | omega | (simp only [List.length_append, List.length_map, List.length_range, List.length_range', List.length_nil, List.length_cons, List.length_singleton, List.length_zipIdx] <;> omega)) only [gv0, gvS, go0, goS, ev_var, ev_own, ev_non, ev_bl, ev_int, ev_str, ev_glb, ev_tup, ev_lst, ev_dK0, ev_dT0, ev_bin, ev_cat, ev_rep, negR_int, ev_neg, notR_bl, ev_not, blR_some, ev_cmp, chR_t, chR_f, ev_chn, ev_and, ev_or, bR_bl, anR_t, anR_f, anR_b, orR_t, orR_f, orR_b, and_one, and_more, or_one, or_more, ev_ife, ev_idx, ev_slc, ev_rev, calR_f, calR_ok, calR_ex, ev_call, ev_prim, ev_mth, ev_isi, ev_srtset, ev_lrng, ev_comp, ev_newc, evs_nil, evs_cons, inR_int, evo_no, evo_so, evI_seq, evI_rng, evI_enum, tv_not, tv_and, tv_or, tv_var, tv_own, tv_non, tv_bl, tv_int, tv_cmp, tv_chn, tv_call, tv_prim, tv_isi, tv_idx, tv_mth, tv_ife, tv_comp, tv_slc, tv_bin, tand_one, tand_more, tor_one, tor_more, b_ok, b_ex, l_some, s_ok, s_ex, q_nx, q_rt, q_bk, q_ct, q_ex, n_some, f_nx, f_rt, f_ex, fr_f, fr_t, fr_k, x_asg, x_asgF, x_frz, onL0, onLS, x_app, x_ext, x_ex, x_ret, x_retN, x_cont, x_brk, x_rais, x_ite, x_for, x_whl, xs_nil, xs_cons, forB_nm, setTg_nm, setTg_tp, setTp_nil, setTp_cons, sl0, slS, w_nil, w_cons, ow0, owS, ob, om, st_e, frR_some, frz_eq, x_setg, x_seti, oc0, ocS, x_appPop, ol0, olS, fl_int, fls_nil, fls_cons, t_bl, t_int, t_non, t_lst, d_add, d_sub, d_mul, d_fdiv, d_mod, d_lt, d_le, d_gt, d_ge, d_eqi, d_nei, p_len, p_lent, p_lens, p_int, p_abs, p_tup, p_tupt, p_list, p_listt, p_min2, p_max2, ix_l, ix_t, ix_s, app_d, ext_l, ext_t, bo_ok (t_bl), bo_ok (t_int), bo_ok (t_lst), notR_of (t_lst), os_eq, Es.hasOwn, List.map_cons, List.map_nil, List.length_cons, List.length_nil, List.replicate_succ, List.replicate_zero, List.cons_append, List.nil_append, Nat.reduceSub, Nat.reduceAdd, Nat.sub_self, reduceIte, Bool.not_true, Bool.not_false, Bool.false_eq_true, Bool.and_self, Bool.and_true, Bool.true_and, Nat.reduceBEq, Nat.reduceEqDiff, cF_no, cF_so, cF2_no, cF2_so, cF3_no, cF3_so, cR_b, q_nil, q_nil2, forB_tp2, forB_tp3, ty_bool_non, ty_bool_bl, ty_bool_int, ty_bool_str, ty_bool_tup, ty_bool_lst, ty_int_non, ty_int_bl, ty_int_int, ty_int_str, ty_int_tup, ty_int_lst, ty_str_non, ty_str_bl, ty_str_int, ty_str_str, ty_str_tup, ty_str_lst, ty_tuple_non, ty_tuple_bl, ty_tuple_int, ty_tuple_str, ty_tuple_tup, ty_tuple_lst, ty_list_non, ty_list_bl, ty_list_int, ty_list_str, ty_list_tup, ty_list_lst, d_eqb, d_isn, d_isi, d_isb, d_iss, d_ist, d_isl, d_insn, d_insi, d_inst, d_insl, p_int_b, t_tup, compL_nil, compL_cons, cC_some, cC_none, cK_ok, cN_ok, forL_nil, forL_cons, foR_nx, foR_ct, foR_bk, foR_rt, foR_ex, seq_l, seq_t, enu_l, enu_t, ev_dcomp, dcF_nm, evI_items, agS_int, x_augi, x_ins, x_asgPop, setTg_tpl, forB_tp2l, forB_tp3l, d_isbb, d_insbb, d_isdK, p_lendK, p_lendT, ty_bool_dK, ty_int_dK, ty_str_dK, ty_tuple_dK, ty_list_dK, ms_i1, ms_i2, ms_g2, ms_g1, $xs,*] at $h:ident)
/-! ### problems, setups -/
structure Smp where
  rs : List Nat
  tg : Int
  deriving DecidableEq, Inhabited
structure Pb where
  rows : List Int
  bs : List (List Smp)
  dv : Nat
  cp : Nat
  deriving DecidableEq, Inhabited
structure Su where
  tr : Nat
  wn : Nat
  ld : Nat
  deriving DecidableEq, Inhabited
def smpD (s : Smp) : D := .tup true [.tup true (s.rs.map nD), .int s.tg]
def batD (b : List Smp) : D := .tup true (b.map smpD)
def pbD (q : Pb) : D := .tup true [.tup true (q.rows.map .int), .tup true (q.bs.map batD), nD q.dv, nD q.cp]
def suD (s : Su) : D := .tup true [nD s.tr, nD s.wn, nD s.ld]
structure GoodS (n : Nat) (s : Smp) : Prop where
  ne : s.rs ≠ []
  le : s.rs.length ≤ 4
  nd : s.rs.Nodup
  lt : ∀ r ∈ s.rs, r < n
  lo : -1000000 ≤ s.tg
  hi : s.tg ≤ 1000000
instance {n : Nat} {s : Smp} : Decidable (GoodS n s) := decidable_of_iff (s.rs ≠ [] ∧ s.rs.length ≤ 4 ∧ s.rs.Nodup ∧ (∀ r ∈ s.rs, r < n) ∧ -1000000 ≤ s.tg ∧ s.tg ≤ 1000000) ⟨fun ⟨a, b, c, d, e, f⟩ => ⟨a, b, c, d, e, f⟩, fun h => ⟨h.1, h.2, h.3, h.4, h.5, h.6⟩⟩
structure GoodB (n : Nat) (b : List Smp) : Prop where
  le : b.length ≤ 6
  all : ∀ s ∈ b, GoodS n s
instance {n : Nat} {b : List Smp} : Decidable (GoodB n b) := decidable_of_iff (b.length ≤ 6 ∧ ∀ s ∈ b, GoodS n s) ⟨fun ⟨a, b⟩ => ⟨a, b⟩, fun h => ⟨h.1, h.2⟩⟩
structure GoodP (q : Pb) : Prop where
  r0 : q.rows ≠ []
  r20 : q.rows.length ≤ 20
  rb : ∀ x ∈ q.rows, -1000000 ≤ x ∧ x ≤ 1000000
  b0 : q.bs ≠ []
  b20 : q.bs.length ≤ 20
  bb : ∀ b ∈ q.bs, GoodB q.rows.length b
  d1 : 1 ≤ q.dv
  dm : q.dv ≤ 1000
  c1 : 1 ≤ q.cp
  cm : q.cp ≤ 1000
instance {q : Pb} : Decidable (GoodP q) := decidable_of_iff (q.rows ≠ [] ∧ q.rows.length ≤ 20 ∧ (∀ x ∈ q.rows, -1000000 ≤ x ∧ x ≤ 1000000) ∧ q.bs ≠ [] ∧ q.bs.length ≤ 20 ∧ (∀ b ∈ q.bs, GoodB q.rows.length b) ∧ 1 ≤ q.dv ∧ q.dv ≤ 1000 ∧ 1 ≤ q.cp ∧ q.cp ≤ 1000)
  ⟨fun ⟨a, b, c, d, e, f, g, h, i, j⟩ => ⟨a, b, c, d, e, f, g, h, i, j⟩, fun h => ⟨h.1, h.2, h.3, h.4, h.5, h.6, h.7, h.8, h.9, h.10⟩⟩
structure GoodSu (s : Su) : Prop where
  t1 : 1 ≤ s.tr
  t4 : s.tr ≤ 4
  w1 : 1 ≤ s.wn
  w20 : s.wn ≤ 20
  l1 : 1 ≤ s.ld
  l20 : s.ld ≤ 20
instance {s : Su} : Decidable (GoodSu s) := decidable_of_iff (1 ≤ s.tr ∧ s.tr ≤ 4 ∧ 1 ≤ s.wn ∧ s.wn ≤ 20 ∧ 1 ≤ s.ld ∧ s.ld ≤ 20) ⟨fun ⟨a, b, c, d, e, f⟩ => ⟨a, b, c, d, e, f⟩, fun h => ⟨h.1, h.2, h.3, h.4, h.5, h.6⟩⟩
/-! ### what they say -/
def bat (q : Pb) (b : Nat) : List Smp := q.bs[b]?.getD []
/-- some sample looks row r up -/
def looks (ss : List Smp) (r : Nat) : Bool := ss.any fun s => s.rs.contains r
def rowsN (m : Nat) (ss : List Smp) : List Nat := (List.range m).filter (looks ss)
def partL (b : List Smp) (tr t : Nat) : List Smp := (b.zipIdx.filter fun p => p.2 % tr == t).map (·.1)
def usersL (q : Pb) (s : Su) (r b : Nat) : List Nat := (List.range s.tr).filter fun t => looks (partL (bat q b) s.tr t) r
def usesL (q : Pb) (f r : Nat) : List Nat := (List.range' f (q.bs.length - f)).filter fun b => looks (bat q b) r
theorem bat_good {q : Pb} (h : GoodP q) (b : Nat) : GoodB q.rows.length (bat q b) := by
  unfold bat
  cases e : q.bs[b]? with
  | none => exact ⟨by simp, by simp⟩
  | some x => exact h.bb x (List.mem_of_getElem? e)
theorem bat_get {q : Pb} {b : Nat} (h : b < q.bs.length) : bat q b = q.bs[b] := by
  unfold bat
  rw [List.getElem?_eq_getElem h]; rfl
theorem part_mem {b : List Smp} {tr t : Nat} {s : Smp} (h : s ∈ partL b tr t) : s ∈ b := by
  unfold partL at h
  obtain ⟨p, hp, rfl⟩ := List.mem_map.mp h
  exact (List.mem_zipIdx (List.mem_filter.mp hp).1).2.2 ▸ List.getElem_mem _
theorem part_len (b : List Smp) (tr t : Nat) : (partL b tr t).length ≤ b.length := by
  unfold partL
  rw [List.length_map]
  exact Nat.le_trans (List.length_filter_le _ _) (by rw [List.length_zipIdx]; exact Nat.le_refl _)
theorem part_good {n : Nat} {b : List Smp} {tr t : Nat} (h : GoodB n b) : GoodB n (partL b tr t) :=
  ⟨Nat.le_trans (part_len b tr t) h.le, fun s hs => h.all s (part_mem hs)⟩
theorem looks_iff {ss : List Smp} {r : Nat} : looks ss r = true ↔ ∃ s ∈ ss, r ∈ s.rs := by simp [looks]
theorem mem_rowsN {m : Nat} {ss : List Smp} {r : Nat} : r ∈ rowsN m ss ↔ r < m ∧ looks ss r = true := by simp [rowsN]
theorem looks_lt {n : Nat} {ss : List Smp} (h : ∀ s ∈ ss, GoodS n s) {r : Nat} (hr : looks ss r = true) : r < n := by
  obtain ⟨s, hs, h2⟩ := looks_iff.mp hr
  exact (h s hs).lt r h2
theorem rowsN_has {n : Nat} {ss : List Smp} (h : ∀ s ∈ ss, GoodS n s) (r : Nat) : (rowsN n ss).contains r = looks ss r := by
  rw [Bool.eq_iff_iff, List.contains_iff_mem, mem_rowsN]
  exact ⟨fun h => h.2, fun h2 => ⟨looks_lt h h2, h2⟩⟩
def allR (ss : List Smp) : List Nat := ss.flatMap (·.rs)
theorem all_len {ss : List Smp} {m : Nat} (h : ∀ s ∈ ss, GoodS m s) : (allR ss).length ≤ 4 * ss.length := by
  induction ss with
  | nil => simp [allR]
  | cons s ss ih =>
    have h1 := (h s (by simp)).le
    have h2 := ih fun x hx => h x (List.mem_cons_of_mem _ hx)
    have : allR (s :: ss) = s.rs ++ allR ss := by unfold allR; simp
    rw [this, List.length_append, List.length_cons]
    omega
theorem len_ded : ∀ l : List Int, (dedI l).length ≤ l.length
  | [] => Nat.le_refl _
  | i :: r => by
    have h1 := len_ded r
    have h2 := List.length_filter_le (fun j => j != i) (dedI r)
    simp only [dedI, List.length_cons]
    omega
/-- the rows below m that a list names, sorted -/
theorem sorted_rows {m : Nat} {l : List Nat} (h : ∀ r ∈ l, r < m) (p : Nat → Bool) (hp : ∀ r, p r = true ↔ r ∈ l) {is : List Int} (hi : is.Perm (dedI (l.map fun (k : Nat) => (k : Int)))) : (sortI is).map D.int = ((List.range m).filter p).map nD := by
  have e : sortI is = ((List.range m).filter p).map fun (k : Nat) => (k : Int) := by
    symm
    refine sortI_only ((perm_nodup ?_ dedI_nodup ?_).trans hi.symm) ?_
    · exact List.Pairwise.map _ (fun a b h e => h (by omega)) (List.nodup_range.filter _)
    · intro k
      rw [dedI_mem]
      simp only [List.mem_map, List.mem_filter, List.mem_range, hp]
      exact ⟨fun ⟨a, ⟨_, ha⟩, e⟩ => ⟨a, ha, e⟩, fun ⟨a, ha, e⟩ => ⟨a, ⟨h a ha, ha⟩, e⟩⟩
    · exact List.Pairwise.map _ (fun a b (h : a < b) => by show (a : Int) ≤ (b : Int); omega) (List.pairwise_lt_range.filter _)
  rw [e, List.map_map]; rfl
theorem ssR_nat {l : List Nat} {m : Nat} {G : Gs} (h : l.length < 4000) (h2 : (dedI (l.map fun (k : Nat) => (k : Int))).length < 64) (hm : ∀ r ∈ l, r < m) (p : Nat → Bool) (hp : ∀ r, p r = true ↔ r ∈ l) : ssR (.lst (l.map nD)) G = .ok (.lst (((List.range m).filter p).map nD)) G := by
  simp only [ssR, intsOf_nat, Option.bind]
  rw [if_pos ⟨by omega, by rw [List.length_map]; omega⟩, sorted_rows hm p hp (List.Perm.refl _)]; rfl
section
variable {n : Nat} {G : Gs}
theorem pb_0 (q : Pb) : atI [D.tup true (q.rows.map .int), .tup true (q.bs.map batD), nD q.dv, nD q.cp] 0 = some (.tup true (q.rows.map .int)) := rfl
theorem pb_1 (q : Pb) : atI [D.tup true (q.rows.map .int), .tup true (q.bs.map batD), nD q.dv, nD q.cp] 1 = some (.tup true (q.bs.map batD)) := rfl
theorem su_0 (s : Su) : atI [nD s.tr, nD s.wn, nD s.ld] 0 = some (nD s.tr) := rfl
theorem su_1 (s : Su) : atI [nD s.tr, nD s.wn, nD s.ld] 1 = some (nD s.wn) := rfl
theorem su_2 (s : Su) : atI [nD s.tr, nD s.wn, nD s.ld] 2 = some (nD s.ld) := rfl
theorem flats_nat : ∀ l : List Nat, flats (l.map nD) = true
  | [] => rfl
  | i :: l => by rw [List.map_cons, fls_cons, flats_nat l]; rfl
theorem calR_n {h : Bool} {l : List Nat} : calR h true (.ok (.lst (l.map nD)) G) = .ok (.lst (l.map nD)) G := calR_ok (flats_nat l)
theorem calR_in {h fr : Bool} {i : Int} : calR h fr (.ok (.int i) G) = .ok (.int i) G := calR_ok (by cases fr <;> rfl)
theorem calR_bl {h fr : Bool} {b : Bool} : calR h fr (.ok (.bl b) G) = .ok (.bl b) G := calR_ok (by cases fr <;> rfl)
theorem ix_pb0 (q : Pb) : idxD G (pbD q) (.int 0) = some (.tup true (q.rows.map .int)) := rfl
theorem ix_pb1 (q : Pb) : idxD G (pbD q) (.int 1) = some (.tup true (q.bs.map batD)) := rfl
theorem ix_pb2 (q : Pb) : idxD G (pbD q) (.int 2) = some (nD q.dv) := rfl
theorem ix_pb3 (q : Pb) : idxD G (pbD q) (.int 3) = some (nD q.cp) := rfl
theorem ix_su0 (s : Su) : idxD G (suD s) (.int 0) = some (nD s.tr) := rfl
theorem ix_su1 (s : Su) : idxD G (suD s) (.int 1) = some (nD s.wn) := rfl
theorem ix_su2 (s : Su) : idxD G (suD s) (.int 2) = some (nD s.ld) := rfl
theorem bat_at {q : Pb} {b : Nat} (h : b < q.bs.length) : atI (q.bs.map batD) (b : Int) = some (batD (bat q b)) := by rw [bat_get h]; exact atI_map _ _ _ h
theorem seq_bat (b : List Smp) : seqItems (batD b) = some (b.map smpD) := rfl
theorem enum_bat (b : List Smp) : enumOf (batD b) = some (b.map smpD) := rfl
end
end CM

namespace CM
open PySem hiding exec execs start
open PySem.Spec PyProof.Rows L2 MP
local macro_rules
  | `(tactic| simp_arith [$xs,*]) => `(tactic| simp -implicitDefEqProofs (disch := first | omega | (simp only [List.length_append, List.length_map, List.length_range, List.length_range', List.length_nil, List.length_cons, List.length_singleton, List.length_zipIdx] <;> omega)) only [gv0, gvS, go0, goS, ev_var, ev_own, ev_non, ev_bl, ev_int, ev_str, ev_glb, ev_tup, ev_lst, ev_dK0, ev_dT0, ev_bin, ev_cat, ev_rep, negR_int, ev_neg, notR_bl, ev_not, blR_some, ev_cmp, chR_t, chR_f, ev_chn, ev_and, ev_or, bR_bl, anR_t, anR_f, anR_b, orR_t, orR_f, orR_b, and_one, and_more, or_one, or_more, ev_ife, ev_idx, ev_slc, ev_rev, calR_f, calR_ok, calR_ex, ev_call, ev_prim, ev_mth, ev_isi, ev_srtset, ev_lrng, ev_comp, ev_newc, evs_nil, evs_cons, inR_int, evo_no, evo_so, evI_seq, evI_rng, evI_enum, tv_not, tv_and, tv_or, tv_var, tv_own, tv_non, tv_bl, tv_int, tv_cmp, tv_chn, tv_call, tv_prim, tv_isi, tv_idx, tv_mth, tv_ife, tv_comp, tv_slc, tv_bin, tand_one, tand_more, tor_one, tor_more, b_ok, b_ex, l_some, s_ok, s_ex, q_nx, q_rt, q_bk, q_ct, q_ex, n_some, f_nx, f_rt, f_ex, fr_f, fr_t, fr_k, x_asg, x_asgF, x_frz, onL0, onLS, x_app, x_ext, x_ex, x_ret, x_retN, x_cont, x_brk, x_rais, x_ite, x_for, x_whl, xs_nil, xs_cons, forB_nm, setTg_nm, setTg_tp, setTp_nil, setTp_cons, sl0, slS, w_nil, w_cons, ow0, owS, ob, om, st_e, frR_some, frz_eq, x_setg, x_seti, oc0, ocS, x_appPop, ol0, olS, fl_int, fls_nil, fls_cons, t_bl, t_int, t_non, t_lst, d_add, d_sub, d_mul, d_fdiv, d_mod, d_lt, d_le, d_gt, d_ge, d_eqi, d_nei, p_len, p_lent, p_lens, p_int, p_abs, p_tup, p_tupt, p_list, p_listt, p_min2, p_max2, ix_l, ix_t, ix_s, app_d, ext_l, ext_t, bo_ok (t_bl), bo_ok (t_int), bo_ok (t_lst), notR_of (t_lst), os_eq, Es.hasOwn, List.map_cons, List.map_nil, List.length_cons, List.length_nil, List.replicate_succ, List.replicate_zero, List.cons_append, List.nil_append, Nat.reduceSub, Nat.reduceAdd, Nat.sub_self, reduceIte, Bool.not_true, Bool.not_false, Bool.false_eq_true, Bool.and_self, Bool.and_true, Bool.true_and, Nat.reduceBEq, Nat.reduceEqDiff, cF_no, cF_so, cF2_no, cF2_so, cF3_no, cF3_so, cR_b, q_nil, q_nil2, forB_tp2, forB_tp3, ty_bool_non, ty_bool_bl, ty_bool_int, ty_bool_str, ty_bool_tup, ty_bool_lst, ty_int_non, ty_int_bl, ty_int_int, ty_int_str, ty_int_tup, ty_int_lst, ty_str_non, ty_str_bl, ty_str_int, ty_str_str, ty_str_tup, ty_str_lst, ty_tuple_non, ty_tuple_bl, ty_tuple_int, ty_tuple_str, ty_tuple_tup, ty_tuple_lst, ty_list_non, ty_list_bl, ty_list_int, ty_list_str, ty_list_tup, ty_list_lst, d_eqb, d_isn, d_isi, d_isb, d_iss, d_ist, d_isl, d_insn, d_insi, d_inst, d_insl, p_int_b, t_tup, compL_nil, compL_cons, cC_some, cC_none, cK_ok, cN_ok, forL_nil, forL_cons, foR_nx, foR_ct, foR_bk, foR_rt, foR_ex, seq_l, seq_t, enu_l, enu_t, ev_dcomp, dcF_nm, evI_items, agS_int, x_augi, x_ins, x_asgPop, setTg_tpl, forB_tp2l, forB_tp3l, d_isbb, d_insbb, d_isdK, p_lendK, p_lendT, ty_bool_dK, ty_int_dK, ty_str_dK, ty_tuple_dK, ty_list_dK, ms_i1, ms_i2, ms_g2, ms_g1, $xs,*])
local macro_rules
  | `(tactic| simp_arith [$xs,*] at $h:ident) => `(tactic| simp -implicitDefEqProofs (disch := first | omega | (simp only [List.length_append, List.length_map, List.length_range, List.length_range', List.length_nil, List.length_cons, List.length_singleton, List.length_zipIdx] <;> omega)) only [gv0, gvS, go0, goS, ev_var, ev_own, ev_non, ev_bl, ev_int, ev_str, ev_glb, ev_tup, ev_lst, ev_dK0, ev_dT0, ev_bin, ev_cat, ev_rep, negR_int, ev_neg, notR_bl, ev_not, blR_some, ev_cmp, chR_t, chR_f, ev_chn, ev_and, ev_or, bR_bl, anR_t, anR_f, anR_b, orR_t, orR_f, orR_b, and_one, and_more, or_one, or_more, ev_ife, ev_idx, ev_slc, ev_rev, calR_f, calR_ok, calR_ex, ev_call, ev_prim, ev_mth, ev_isi, ev_srtset, ev_lrng, ev_comp, ev_newc, evs_nil, evs_cons, inR_int, evo_no, evo_so, evI_seq, evI_rng, evI_enum, tv_not, tv_and, tv_or, tv_var, tv_own, tv_non, tv_bl, tv_int, tv_cmp, tv_chn, tv_call, tv_prim, tv_isi, tv_idx, tv_mth, tv_ife, tv_comp, tv_slc, tv_bin, tand_one, tand_more, tor_one, tor_more, b_ok, b_ex, l_some, s_ok, s_ex, q_nx, q_rt, q_bk, q_ct, q_ex, n_some, f_nx, f_rt, f_ex, fr_f, fr_t, fr_k, x_asg, x_asgF, x_frz, onL0, onLS, x_app, x_ext, x_ex, x_ret, x_retN, x_cont, x_brk, x_rais, x_ite, x_for, x_whl, xs_nil, xs_cons, forB_nm, setTg_nm, setTg_tp, setTp_nil, setTp_cons, sl0, slS, w_nil, w_cons, ow0, owS, ob, om, st_e, frR_some, frz_eq, x_setg, x_seti, oc0, ocS, x_appPop, ol0, olS, fl_int, fls_nil, fls_cons, t_bl, t_int, t_non, t_lst, d_add, d_sub, d_mul, d_fdiv, d_mod, d_lt, d_le, d_gt, d_ge, d_eqi, d_nei, p_len, p_lent, p_lens, p_int, p_abs, p_tup, p_tupt, p_list, p_listt, p_min2, p_max2, ix_l, ix_t, ix_s, app_d, ext_l, ext_t, bo_ok (t_bl), bo_ok (t_int), bo_ok (t_lst), notR_of (t_lst), os_eq, Es.hasOwn, List.map_cons, List.map_nil, List.length_cons, List.length_nil, List.replicate_succ, List.replicate_zero, List.cons_append, List.nil_append, Nat.reduceSub, Nat.reduceAdd, Nat.sub_self, reduceIte, Bool.not_true, Bool.not_false, Bool.false_eq_true, Bool.and_self, Bool.and_true, Bool.true_and, Nat.reduceBEq, Nat.reduceEqDiff, cF_no, cF_so, cF2_no, cF2_so, cF3_no, cF3_so, cR_b, q_nil, q_nil2, forB_tp2, forB_tp3, ty_bool_non, ty_bool_bl, ty_bool_int, ty_bool_str, ty_bool_tup, ty_bool_lst, ty_int_non, ty_int_bl, ty_int_int, ty_int_str, ty_int_tup, ty_int_lst, ty_str_non, ty_str_bl, ty_str_int, ty_str_str, ty_str_tup, ty_str_lst, ty_tuple_non, ty_tuple_bl, ty_tuple_int, ty_tuple_str, ty_tuple_tup, ty_tuple_lst, ty_list_non, ty_list_bl, ty_list_int, ty_list_str, ty_list_tup, ty_list_lst, d_eqb, d_isn, d_isi, d_isb, d_iss, d_ist, d_isl, d_insn, d_insi, d_inst, d_insl, p_int_b, t_tup, compL_nil, compL_cons, cC_some, cC_none, cK_ok, cN_ok, forL_nil, forL_cons, foR_nx, foR_ct, foR_bk, foR_rt, foR_ex, seq_l, seq_t, enu_l, enu_t, ev_dcomp, dcF_nm, evI_items, agS_int, x_augi, x_ins, x_asgPop, setTg_tpl, forB_tp2l, forB_tp3l, d_isbb, d_insbb, d_isdK, p_lendK, p_lendT, ty_bool_dK, ty_int_dK, ty_str_dK, ty_tuple_dK, ty_list_dK, ms_i1, ms_i2, ms_g2, ms_g1, $xs,*] at $h:ident)
section
variable {n : Nat} {G : Gs}
theorem rows_of_eq {x : D} {ss : List Smp} {m : Nat} (hx : seqItems x = some (ss.map smpD)) (hg : ∀ s ∈ ss, GoodS m s) (hl : ss.length ≤ 900) (hm : m < 64) : callN Pr (n + 1) "rows_of" [x] G = .ok (.lst ((rowsN m ss).map nD)) G := by
  have ha := all_len hg
  have hr : ∀ r ∈ allR ss, r < m := fun r hr => by
    obtain ⟨s, hs, h⟩ := List.mem_flatMap.mp hr
    exact (hg s hs).lt r h
  have hd : (dedI ((allR ss).map fun (k : Nat) => (k : Int))).length ≤ m := by
    have h1 : ((List.range m).filter (fun r => (allR ss).contains r)).map (fun (k : Nat) => (k : Int)) = sortI (dedI ((allR ss).map fun (k : Nat) => (k : Int))) := by
      have := sorted_rows hr (fun r => (allR ss).contains r) (fun r => List.contains_iff_mem) (List.Perm.refl _)
      have h3 := congrArg intsOf this
      rw [intsOf_map, intsOf_nat] at h3
      exact (Option.some.inj h3).symm
    have h2 := congrArg List.length h1
    rw [(sortI_perm _).length_eq, List.length_map] at h2
    rw [← h2]
    refine Nat.le_trans (List.length_filter_le _ _) (by simp)
  rw [call_eq P_rows_of rfl]
  simp_arith [d_rows_of, hx]
  rw [for_acc _ 1 [] (fun s : Smp => s.rs.map nD) ss 4 rfl (fun s hs => by rw [List.length_map]; exact (hg s hs).le) (by simp; omega)]
  · have e : (ss.flatMap fun s => s.rs.map nD) = (allR ss).map nD := by unfold allR; rw [List.map_flatMap]
    simp_arith [e, ssR_nat (by omega) (by omega) hr (looks ss) (fun r => by rw [looks_iff]; unfold allR; simp)]
    rfl
  · intro s hs acc hl
    simp_arith [smpD, d_rows_of_b0, ext_t hl]
    exact nx_nx ⟨rfl, rfl⟩
variable {q : Pb} {s : Su}
theorem samples_of_eq {t b : Nat} (hb : b < q.bs.length) (hs : GoodSu s) :
    callN Pr (n + 1) "samples_of" [pbD q, suD s, nD t, nD b] G = .ok (.lst ((partL (bat q b) s.tr t).map smpD)) G := by
  have htr : (0 : Int) < (s.tr : Int) := by have := hs.t1; omega
  rw [call_eq P_samples_of rfl]
  simp_arith [d_samples_of, pbD, pb_1, bat_at hb, enum_bat, om]
  rw [enum_map, compL_fm (fun p : Smp × Nat => p.2 % s.tr == t) (fun p => smpD p.1)]
  · simp_arith [partL, List.map_map]
    rfl
  · intro p hp
    simp_arith [d_samples_of_c1, d_samples_of_e0, suD, su_0, d_mod htr, nmod, nbeq, cif]
theorem users_eq {r b : Nat} (hq : GoodP q) (hs : GoodSu s) (hb : b < q.bs.length) :
    callN Pr (n + 2) "users" [pbD q, suD s, nD r, nD b] G = .ok (.tup true ((usersL q s r b).map nD)) G := by
  have hbb := bat_good hq b
  have h1 := hs.t1
  have h4 := hs.t4
  have hr := hq.r20
  rw [call_eq P_users rfl]
  simp_arith [d_users, suD, su_0, rngN s.tr (by omega)]
  rw [for_fm _ 4 [] (fun t : Nat => looks (partL (bat q b) s.tr t) r) nD (List.range s.tr) rfl (by simp; omega)]
  · simp_arith [usersL]
  · intro t ht acc hl
    have e1 := samples_of_eq (n := n) (G := G) (q := q) (s := s) (t := t) hb hs
    have e2 := rows_of_eq (n := n) (G := G) (x := .lst ((partL (bat q b) s.tr t).map smpD)) (seq_l _) (part_good (tr := s.tr) (t := t) hbb).all (by have := (part_good (tr := s.tr) (t := t) hbb).le; omega) (by omega)
    simp only [suD] at e1
    simp_arith [d_users_b0, e1, e2, d_in, rowsN_has (part_good hbb).all]
    by_cases h : looks (partL (bat q b) s.tr t) r = true
    · simp_arith [h, app_d hl]
      exact nx_nx ⟨rfl, rfl⟩
    · simp_arith [h]
      exact nx_nx ⟨rfl, rfl⟩
theorem uses_eq {f r : Nat} (hq : GoodP q) (hf : f ≤ 1000) : callN Pr (n + 2) "uses" [pbD q, nD f, nD r] G = .ok (.tup true ((usesL q f r).map nD)) G := by
  have hr := hq.r20
  have hb := hq.b20
  rw [call_eq P_uses rfl]
  simp_arith [d_uses, pbD, pb_1, List.length_map, rng2N f q.bs.length (by omega) (by omega)]
  rw [compL_fm (fun b => looks (bat q b) r) nD]
  · rfl
  · intro b hb
    have hb : b < q.bs.length := by
      rw [List.mem_range'_1] at hb; omega
    have hbb := bat_good hq b
    have e2 := rows_of_eq (n := n) (G := G) (x := batD (bat q b)) (seq_bat _) hbb.all (by have := hbb.le; omega) (by omega)
    simp_arith [d_uses_c1, d_uses_e0, pb_1, bat_at hb, e2, d_in, rowsN_has hbb.all, cif]
end
end CM

namespace CM
open PySem hiding exec execs start
open PySem.Spec PyProof.Rows L2 MP
local macro_rules
  | `(tactic| simp_arith [$xs,*]) => `(tactic| simp -implicitDefEqProofs (disch := first | omega | (simp only [List.length_append, List.length_map, List.length_range, List.length_range', List.length_nil, List.length_cons, List.length_singleton, List.length_zipIdx] <;> omega)) only [gv0, gvS, go0, goS, ev_var, ev_own, ev_non, ev_bl, ev_int, ev_str, ev_glb, ev_tup, ev_lst, ev_dK0, ev_dT0, ev_bin, ev_cat, ev_rep, negR_int, ev_neg, notR_bl, ev_not, blR_some, ev_cmp, chR_t, chR_f, ev_chn, ev_and, ev_or, bR_bl, anR_t, anR_f, anR_b, orR_t, orR_f, orR_b, and_one, and_more, or_one, or_more, ev_ife, ev_idx, ev_slc, ev_rev, calR_f, calR_ok, calR_ex, ev_call, ev_prim, ev_mth, ev_isi, ev_srtset, ev_lrng, ev_comp, ev_newc, evs_nil, evs_cons, inR_int, evo_no, evo_so, evI_seq, evI_rng, evI_enum, tv_not, tv_and, tv_or, tv_var, tv_own, tv_non, tv_bl, tv_int, tv_cmp, tv_chn, tv_call, tv_prim, tv_isi, tv_idx, tv_mth, tv_ife, tv_comp, tv_slc, tv_bin, tand_one, tand_more, tor_one, tor_more, b_ok, b_ex, l_some, s_ok, s_ex, q_nx, q_rt, q_bk, q_ct, q_ex, n_some, f_nx, f_rt, f_ex, fr_f, fr_t, fr_k, x_asg, x_asgF, x_frz, onL0, onLS, x_app, x_ext, x_ex, x_ret, x_retN, x_cont, x_brk, x_rais, x_ite, x_for, x_whl, xs_nil, xs_cons, forB_nm, setTg_nm, setTg_tp, setTp_nil, setTp_cons, sl0, slS, w_nil, w_cons, ow0, owS, ob, om, st_e, frR_some, frz_eq, x_setg, x_seti, oc0, ocS, x_appPop, ol0, olS, fl_int, fls_nil, fls_cons, t_bl, t_int, t_non, t_lst, d_add, d_sub, d_mul, d_fdiv, d_mod, d_lt, d_le, d_gt, d_ge, d_eqi, d_nei, p_len, p_lent, p_lens, p_int, p_abs, p_tup, p_tupt, p_list, p_listt, p_min2, p_max2, ix_l, ix_t, ix_s, app_d, ext_l, ext_t, bo_ok (t_bl), bo_ok (t_int), bo_ok (t_lst), notR_of (t_lst), os_eq, Es.hasOwn, List.map_cons, List.map_nil, List.length_cons, List.length_nil, List.replicate_succ, List.replicate_zero, List.cons_append, List.nil_append, Nat.reduceSub, Nat.reduceAdd, Nat.sub_self, reduceIte, Bool.not_true, Bool.not_false, Bool.false_eq_true, Bool.and_self, Bool.and_true, Bool.true_and, Nat.reduceBEq, Nat.reduceEqDiff, cF_no, cF_so, cF2_no, cF2_so, cF3_no, cF3_so, cR_b, q_nil, q_nil2, forB_tp2, forB_tp3, ty_bool_non, ty_bool_bl, ty_bool_int, ty_bool_str, ty_bool_tup, ty_bool_lst, ty_int_non, ty_int_bl, ty_int_int, ty_int_str, ty_int_tup, ty_int_lst, ty_str_non, ty_str_bl, ty_str_int, ty_str_str, ty_str_tup, ty_str_lst, ty_tuple_non, ty_tuple_bl, ty_tuple_int, ty_tuple_str, ty_tuple_tup, ty_tuple_lst, ty_list_non, ty_list_bl, ty_list_int, ty_list_str, ty_list_tup, ty_list_lst, d_eqb, d_isn, d_isi, d_isb, d_iss, d_ist, d_isl, d_insn, d_insi, d_inst, d_insl, p_int_b, t_tup, compL_nil, compL_cons, cC_some, cC_none, cK_ok, cN_ok, forL_nil, forL_cons, foR_nx, foR_ct, foR_bk, foR_rt, foR_ex, seq_l, seq_t, enu_l, enu_t, ev_dcomp, dcF_nm, evI_items, agS_int, x_augi, x_ins, x_asgPop, setTg_tpl, forB_tp2l, forB_tp3l, d_isbb, d_insbb, d_isdK, p_lendK, p_lendT, ty_bool_dK, ty_int_dK, ty_str_dK, ty_tuple_dK, ty_list_dK, ms_i1, ms_i2, ms_g2, ms_g1, $xs,*])
local macro_rules
  | `(tactic| simp_arith [$xs,*] at $h:ident) => `(tactic| simp -implicitDefEqProofs (disch := first | omega | (simp only [List.length_append, List.length_map, List.length_range, List.length_range', List.length_nil, List.length_cons, List.length_singleton, List.length_zipIdx] <;> omega)) only [gv0, gvS, go0, goS, ev_var, ev_own, ev_non, ev_bl, ev_int, ev_str, ev_glb, ev_tup, ev_lst, ev_dK0, ev_dT0, ev_bin, ev_cat, ev_rep, negR_int, ev_neg, notR_bl, ev_not, blR_some, ev_cmp, chR_t, chR_f, ev_chn, ev_and, ev_or, bR_bl, anR_t, anR_f, anR_b, orR_t, orR_f, orR_b, and_one, and_more, or_one, or_more, ev_ife, ev_idx, ev_slc, ev_rev, calR_f, calR_ok, calR_ex, ev_call, ev_prim, ev_mth, ev_isi, ev_srtset, ev_lrng, ev_comp, ev_newc, evs_nil, evs_cons, inR_int, evo_no, evo_so, evI_seq, evI_rng, evI_enum, tv_not, tv_and, tv_or, tv_var, tv_own, tv_non, tv_bl, tv_int, tv_cmp, tv_chn, tv_call, tv_prim, tv_isi, tv_idx, tv_mth, tv_ife, tv_comp, tv_slc, tv_bin, tand_one, tand_more, tor_one, tor_more, b_ok, b_ex, l_some, s_ok, s_ex, q_nx, q_rt, q_bk, q_ct, q_ex, n_some, f_nx, f_rt, f_ex, fr_f, fr_t, fr_k, x_asg, x_asgF, x_frz, onL0, onLS, x_app, x_ext, x_ex, x_ret, x_retN, x_cont, x_brk, x_rais, x_ite, x_for, x_whl, xs_nil, xs_cons, forB_nm, setTg_nm, setTg_tp, setTp_nil, setTp_cons, sl0, slS, w_nil, w_cons, ow0, owS, ob, om, st_e, frR_some, frz_eq, x_setg, x_seti, oc0, ocS, x_appPop, ol0, olS, fl_int, fls_nil, fls_cons, t_bl, t_int, t_non, t_lst, d_add, d_sub, d_mul, d_fdiv, d_mod, d_lt, d_le, d_gt, d_ge, d_eqi, d_nei, p_len, p_lent, p_lens, p_int, p_abs, p_tup, p_tupt, p_list, p_listt, p_min2, p_max2, ix_l, ix_t, ix_s, app_d, ext_l, ext_t, bo_ok (t_bl), bo_ok (t_int), bo_ok (t_lst), notR_of (t_lst), os_eq, Es.hasOwn, List.map_cons, List.map_nil, List.length_cons, List.length_nil, List.replicate_succ, List.replicate_zero, List.cons_append, List.nil_append, Nat.reduceSub, Nat.reduceAdd, Nat.sub_self, reduceIte, Bool.not_true, Bool.not_false, Bool.false_eq_true, Bool.and_self, Bool.and_true, Bool.true_and, Nat.reduceBEq, Nat.reduceEqDiff, cF_no, cF_so, cF2_no, cF2_so, cF3_no, cF3_so, cR_b, q_nil, q_nil2, forB_tp2, forB_tp3, ty_bool_non, ty_bool_bl, ty_bool_int, ty_bool_str, ty_bool_tup, ty_bool_lst, ty_int_non, ty_int_bl, ty_int_int, ty_int_str, ty_int_tup, ty_int_lst, ty_str_non, ty_str_bl, ty_str_int, ty_str_str, ty_str_tup, ty_str_lst, ty_tuple_non, ty_tuple_bl, ty_tuple_int, ty_tuple_str, ty_tuple_tup, ty_tuple_lst, ty_list_non, ty_list_bl, ty_list_int, ty_list_str, ty_list_tup, ty_list_lst, d_eqb, d_isn, d_isi, d_isb, d_iss, d_ist, d_isl, d_insn, d_insi, d_inst, d_insl, p_int_b, t_tup, compL_nil, compL_cons, cC_some, cC_none, cK_ok, cN_ok, forL_nil, forL_cons, foR_nx, foR_ct, foR_bk, foR_rt, foR_ex, seq_l, seq_t, enu_l, enu_t, ev_dcomp, dcF_nm, evI_items, agS_int, x_augi, x_ins, x_asgPop, setTg_tpl, forB_tp2l, forB_tp3l, d_isbb, d_insbb, d_isdK, p_lendK, p_lendT, ty_bool_dK, ty_int_dK, ty_str_dK, ty_tuple_dK, ty_list_dK, ms_i1, ms_i2, ms_g2, ms_g1, $xs,*] at $h:ident)
/-! ### the law's own users and uses -/
theorem zip_range (p : Nat → Bool) (f : Nat → Smp) : ∀ (b : List Smp) (j : Nat), (∀ k s, b[k]? = some s → f (j + k) = s) → ((b.zipIdx j).filter fun q => p q.2).map (·.1) = ((List.range' j b.length).filter p).map f
  | [], j, _ => by simp
  | s :: b, j, h => by
    have h0 : f j = s := by simpa using h 0 s rfl
    have ih := zip_range p f b (j + 1) fun k x hk => by
      rw [show j + 1 + k = j + (k + 1) by omega]
      exact h (k + 1) x (by simpa using hk)
    rw [List.zipIdx_cons, List.length_cons, List.range'_succ, List.filter_cons, List.filter_cons]
    by_cases q : p j = true
    · simp only [q, if_true, List.map_cons, ih, h0]
    · simp only [q, if_false, ih]; simp [ih]
section
variable {n : Nat} {G : Gs} {q : Pb} {s : Su}
theorem law_part_eq {t b : Nat} (hb : b < q.bs.length) (hs : GoodSu s) (hq : GoodP q) :
    callN Pr (n + 1) "_law_part" [pbD q, suD s, nD t, nD b] G = .ok (.lst ((partL (bat q b) s.tr t).map smpD)) G := by
  have htr : (0 : Int) < (s.tr : Int) := by have := hs.t1; omega
  have hl := (bat_good hq b).le
  rw [call_eq P_law_part rfl]
  simp_arith [d_law_part, pbD, pb_1, bat_at hb, batD, List.length_map, rngN (bat q b).length (by omega)]
  rw [compL_fm (fun k => k % s.tr == t) (fun k => smpD ((bat q b)[k]?.getD default))]
  · have e := zip_range (fun k => k % s.tr == t) (fun k => (bat q b)[k]?.getD default) (bat q b) 0 fun k x hk => by rw [Nat.zero_add, hk]; rfl
    simp_arith [partL, e, List.map_map, List.range_eq_range']
    rfl
  · intro k hk
    have hk : k < (bat q b).length := by simpa using hk
    have e : (bat q b)[k]?.getD default = (bat q b)[k] := by rw [List.getElem?_eq_getElem hk]; rfl
    simp_arith [d_law_part_c1, d_law_part_e0, suD, su_0, d_mod htr, nmod, nbeq, atI_map smpD (bat q b) k hk, cif, e]
end
end CM

namespace CM
open PySem hiding exec execs start
open PySem.Spec PyProof.Rows L2 MP
local macro_rules
  | `(tactic| simp_arith [$xs,*]) => `(tactic| simp -implicitDefEqProofs (disch := first | omega | (simp only [List.length_append, List.length_map, List.length_range, List.length_range', List.length_nil, List.length_cons, List.length_singleton, List.length_zipIdx] <;> omega)) only [gv0, gvS, go0, goS, ev_var, ev_own, ev_non, ev_bl, ev_int, ev_str, ev_glb, ev_tup, ev_lst, ev_dK0, ev_dT0, ev_bin, ev_cat, ev_rep, negR_int, ev_neg, notR_bl, ev_not, blR_some, ev_cmp, chR_t, chR_f, ev_chn, ev_and, ev_or, bR_bl, anR_t, anR_f, anR_b, orR_t, orR_f, orR_b, and_one, and_more, or_one, or_more, ev_ife, ev_idx, ev_slc, ev_rev, calR_f, calR_ok, calR_ex, ev_call, ev_prim, ev_mth, ev_isi, ev_srtset, ev_lrng, ev_comp, ev_newc, evs_nil, evs_cons, inR_int, evo_no, evo_so, evI_seq, evI_rng, evI_enum, tv_not, tv_and, tv_or, tv_var, tv_own, tv_non, tv_bl, tv_int, tv_cmp, tv_chn, tv_call, tv_prim, tv_isi, tv_idx, tv_mth, tv_ife, tv_comp, tv_slc, tv_bin, tand_one, tand_more, tor_one, tor_more, b_ok, b_ex, l_some, s_ok, s_ex, q_nx, q_rt, q_bk, q_ct, q_ex, n_some, f_nx, f_rt, f_ex, fr_f, fr_t, fr_k, x_asg, x_asgF, x_frz, onL0, onLS, x_app, x_ext, x_ex, x_ret, x_retN, x_cont, x_brk, x_rais, x_ite, x_for, x_whl, xs_nil, xs_cons, forB_nm, setTg_nm, setTg_tp, setTp_nil, setTp_cons, sl0, slS, w_nil, w_cons, ow0, owS, ob, om, st_e, frR_some, frz_eq, x_setg, x_seti, oc0, ocS, x_appPop, ol0, olS, fl_int, fls_nil, fls_cons, t_bl, t_int, t_non, t_lst, d_add, d_sub, d_mul, d_fdiv, d_mod, d_lt, d_le, d_gt, d_ge, d_eqi, d_nei, p_len, p_lent, p_lens, p_int, p_abs, p_tup, p_tupt, p_list, p_listt, p_min2, p_max2, ix_l, ix_t, ix_s, app_d, ext_l, ext_t, bo_ok (t_bl), bo_ok (t_int), bo_ok (t_lst), notR_of (t_lst), os_eq, Es.hasOwn, List.map_cons, List.map_nil, List.length_cons, List.length_nil, List.replicate_succ, List.replicate_zero, List.cons_append, List.nil_append, Nat.reduceSub, Nat.reduceAdd, Nat.sub_self, reduceIte, Bool.not_true, Bool.not_false, Bool.false_eq_true, Bool.and_self, Bool.and_true, Bool.true_and, Nat.reduceBEq, Nat.reduceEqDiff, cF_no, cF_so, cF2_no, cF2_so, cF3_no, cF3_so, cR_b, q_nil, q_nil2, forB_tp2, forB_tp3, ty_bool_non, ty_bool_bl, ty_bool_int, ty_bool_str, ty_bool_tup, ty_bool_lst, ty_int_non, ty_int_bl, ty_int_int, ty_int_str, ty_int_tup, ty_int_lst, ty_str_non, ty_str_bl, ty_str_int, ty_str_str, ty_str_tup, ty_str_lst, ty_tuple_non, ty_tuple_bl, ty_tuple_int, ty_tuple_str, ty_tuple_tup, ty_tuple_lst, ty_list_non, ty_list_bl, ty_list_int, ty_list_str, ty_list_tup, ty_list_lst, d_eqb, d_isn, d_isi, d_isb, d_iss, d_ist, d_isl, d_insn, d_insi, d_inst, d_insl, p_int_b, t_tup, compL_nil, compL_cons, cC_some, cC_none, cK_ok, cN_ok, forL_nil, forL_cons, foR_nx, foR_ct, foR_bk, foR_rt, foR_ex, seq_l, seq_t, enu_l, enu_t, ev_dcomp, dcF_nm, evI_items, agS_int, x_augi, x_ins, x_asgPop, setTg_tpl, forB_tp2l, forB_tp3l, d_isbb, d_insbb, d_isdK, p_lendK, p_lendT, ty_bool_dK, ty_int_dK, ty_str_dK, ty_tuple_dK, ty_list_dK, ms_i1, ms_i2, ms_g2, ms_g1, $xs,*])
local macro_rules
  | `(tactic| simp_arith [$xs,*] at $h:ident) => `(tactic| simp -implicitDefEqProofs (disch := first | omega | (simp only [List.length_append, List.length_map, List.length_range, List.length_range', List.length_nil, List.length_cons, List.length_singleton, List.length_zipIdx] <;> omega)) only [gv0, gvS, go0, goS, ev_var, ev_own, ev_non, ev_bl, ev_int, ev_str, ev_glb, ev_tup, ev_lst, ev_dK0, ev_dT0, ev_bin, ev_cat, ev_rep, negR_int, ev_neg, notR_bl, ev_not, blR_some, ev_cmp, chR_t, chR_f, ev_chn, ev_and, ev_or, bR_bl, anR_t, anR_f, anR_b, orR_t, orR_f, orR_b, and_one, and_more, or_one, or_more, ev_ife, ev_idx, ev_slc, ev_rev, calR_f, calR_ok, calR_ex, ev_call, ev_prim, ev_mth, ev_isi, ev_srtset, ev_lrng, ev_comp, ev_newc, evs_nil, evs_cons, inR_int, evo_no, evo_so, evI_seq, evI_rng, evI_enum, tv_not, tv_and, tv_or, tv_var, tv_own, tv_non, tv_bl, tv_int, tv_cmp, tv_chn, tv_call, tv_prim, tv_isi, tv_idx, tv_mth, tv_ife, tv_comp, tv_slc, tv_bin, tand_one, tand_more, tor_one, tor_more, b_ok, b_ex, l_some, s_ok, s_ex, q_nx, q_rt, q_bk, q_ct, q_ex, n_some, f_nx, f_rt, f_ex, fr_f, fr_t, fr_k, x_asg, x_asgF, x_frz, onL0, onLS, x_app, x_ext, x_ex, x_ret, x_retN, x_cont, x_brk, x_rais, x_ite, x_for, x_whl, xs_nil, xs_cons, forB_nm, setTg_nm, setTg_tp, setTp_nil, setTp_cons, sl0, slS, w_nil, w_cons, ow0, owS, ob, om, st_e, frR_some, frz_eq, x_setg, x_seti, oc0, ocS, x_appPop, ol0, olS, fl_int, fls_nil, fls_cons, t_bl, t_int, t_non, t_lst, d_add, d_sub, d_mul, d_fdiv, d_mod, d_lt, d_le, d_gt, d_ge, d_eqi, d_nei, p_len, p_lent, p_lens, p_int, p_abs, p_tup, p_tupt, p_list, p_listt, p_min2, p_max2, ix_l, ix_t, ix_s, app_d, ext_l, ext_t, bo_ok (t_bl), bo_ok (t_int), bo_ok (t_lst), notR_of (t_lst), os_eq, Es.hasOwn, List.map_cons, List.map_nil, List.length_cons, List.length_nil, List.replicate_succ, List.replicate_zero, List.cons_append, List.nil_append, Nat.reduceSub, Nat.reduceAdd, Nat.sub_self, reduceIte, Bool.not_true, Bool.not_false, Bool.false_eq_true, Bool.and_self, Bool.and_true, Bool.true_and, Nat.reduceBEq, Nat.reduceEqDiff, cF_no, cF_so, cF2_no, cF2_so, cF3_no, cF3_so, cR_b, q_nil, q_nil2, forB_tp2, forB_tp3, ty_bool_non, ty_bool_bl, ty_bool_int, ty_bool_str, ty_bool_tup, ty_bool_lst, ty_int_non, ty_int_bl, ty_int_int, ty_int_str, ty_int_tup, ty_int_lst, ty_str_non, ty_str_bl, ty_str_int, ty_str_str, ty_str_tup, ty_str_lst, ty_tuple_non, ty_tuple_bl, ty_tuple_int, ty_tuple_str, ty_tuple_tup, ty_tuple_lst, ty_list_non, ty_list_bl, ty_list_int, ty_list_str, ty_list_tup, ty_list_lst, d_eqb, d_isn, d_isi, d_isb, d_iss, d_ist, d_isl, d_insn, d_insi, d_inst, d_insl, p_int_b, t_tup, compL_nil, compL_cons, cC_some, cC_none, cK_ok, cN_ok, forL_nil, forL_cons, foR_nx, foR_ct, foR_bk, foR_rt, foR_ex, seq_l, seq_t, enu_l, enu_t, ev_dcomp, dcF_nm, evI_items, agS_int, x_augi, x_ins, x_asgPop, setTg_tpl, forB_tp2l, forB_tp3l, d_isbb, d_insbb, d_isdK, p_lendK, p_lendT, ty_bool_dK, ty_int_dK, ty_str_dK, ty_tuple_dK, ty_list_dK, ms_i1, ms_i2, ms_g2, ms_g1, $xs,*] at $h:ident)
section
variable {n : Nat} {G : Gs} {q : Pb} {s : Su}
theorem looked_eq {x : D} {ss : List Smp} {m : Nat} (hx : seqItems x = some (ss.map smpD)) (hg : ∀ s ∈ ss, GoodS m s) (hl : ss.length ≤ 900) (hm : m < 64) : callN Pr (n + 1) "_law_looked" [x] G = .ok (.lst ((rowsN m ss).map nD)) G := by
  rw [call_eq P_law_looked rfl]
  have hlen := all_len hg
  have hpre : ∀ i, (allR (ss.take i)).length ≤ (allR ss).length := fun i => by
    have : allR ss = allR (ss.take i) ++ allR (ss.drop i) := by unfold allR; rw [← List.flatMap_append, List.take_append_drop]
    rw [this, List.length_append]; omega
  simp_arith [d_law_looked, hx]
  obtain ⟨env1, G1, e3, hG, F, he, hF, hmF, hlF⟩ := for_all (ws := [2, 3]) (enc := smpD) (body := forB (callN Pr n) (.tp [(2, "_law_rows"), (3, "_law_target")]) d_law_looked_b0) (fun i env G' => G' = G ∧ ∃ F : List Nat, env = [.val x, .own (.lst (F.map nD)), .un, .un, .un] ∧ F.Nodup ∧ (∀ k, k ∈ F ↔ k ∈ allR (ss.take i)) ∧ F.length ≤ (allR (ss.take i)).length)
    ss (env := [.val x, .own (.lst []), .un, .un, .un]) (G := G) ⟨rfl, [], rfl, by simp, by simp [allR], by simp⟩ fun j s env G' hj ⟨hG, F, he, hF, hmF, hlF⟩ => by
      subst hG he
      have hs := hg s (List.mem_of_getElem? hj)
      have ht : allR (ss.take (j + 1)) = allR (ss.take j) ++ s.rs := by
        unfold allR
        rw [List.take_add_one, hj]; simp
      have hp := hpre j
      simp_arith [smpD, d_law_looked_b0, seq_t]
      rw [compL_fm (fun r => !F.contains r) nD]
      · have hl2 := List.length_filter_le (fun r => !F.contains r) s.rs
        have hle := hs.le
        have h2 : (F.map nD).length + (((s.rs.filter fun r => !F.contains r).map nD).length) < 1000000 := by rw [List.length_map, List.length_map]; omega
        simp_arith [ext_l h2]
        refine nx_nx ⟨rfl, F ++ s.rs.filter fun r => !F.contains r, by simp_arith [List.map_append], ?_, fun k => ?_, ?_⟩
        · rw [List.nodup_append]
          refine ⟨hF, hs.nd.filter _, fun a ha b hb => ?_⟩
          rw [List.mem_filter] at hb
          intro e
          subst e
          simp [ha] at hb
        · rw [List.mem_append, ht, List.mem_append, hmF k, List.mem_filter]
          by_cases q : k ∈ F
          · simp [(hmF k).mp q]
          · have q2 : ¬ k ∈ allR (ss.take j) := fun h => q ((hmF k).mpr h)
            simp [q, q2]
        · rw [List.length_append, ht, List.length_append]; omega
      · intro r hr
        simp_arith [d_law_looked_c2, d_law_looked_e1, d_nin, cif]
  rw [e3, hG, he]
  rw [List.take_length] at hmF hlF
  have hsr : primD .sorted1 [.lst (F.map nD)] = some (.lst ((rowsN m ss).map nD)) := by
    have e := sorted_rows (m := m) (l := allR ss) (fun r hr => by
      obtain ⟨s, hs, h⟩ := List.mem_flatMap.mp hr
      exact (hg s hs).lt r h) (looks ss) (fun r => by rw [looks_iff]; unfold allR; simp) (is := F.map fun (k : Nat) => (k : Int)) (perm_nodup (List.Pairwise.map _ (fun a b h e => h (by omega)) hF) dedI_nodup fun k => by
        rw [dedI_mem]
        simp only [List.mem_map, hmF])
    simp only [primD, intsOf_nat, Option.map]
    rw [e]; rfl
  simp_arith [hsr]
theorem law_users_eq {r b : Nat} (hq : GoodP q) (hs : GoodSu s) (hb : b < q.bs.length) : callN Pr (n + 2) "_law_users" [pbD q, suD s, nD r, nD b] G = .ok (.lst ((usersL q s r b).map nD)) G := by
  have hbb := bat_good hq b
  have h4 := hs.t4
  have hr := hq.r20
  rw [call_eq P_law_users rfl]
  simp_arith [d_law_users, suD, su_0, rngN s.tr (by omega)]
  rw [compL_fm (fun t : Nat => looks (partL (bat q b) s.tr t) r) nD]
  · rfl
  · intro t ht
    have e1 := law_part_eq (n := n) (G := G) (q := q) (s := s) (t := t) hb hs hq
    have e2 := looked_eq (n := n) (G := G) (x := .lst ((partL (bat q b) s.tr t).map smpD)) (seq_l _) (part_good (tr := s.tr) (t := t) hbb).all (by have := (part_good (tr := s.tr) (t := t) hbb).le; omega) (by omega)
    simp only [suD] at e1
    simp_arith [d_law_users_c1, d_law_users_e0, e1, e2, d_in, rowsN_has (part_good hbb).all, cif]
theorem law_uses_eq {f r : Nat} (hq : GoodP q) (hf : f ≤ 1000) : callN Pr (n + 2) "_law_uses" [pbD q, nD f, nD r] G = .ok (.lst ((usesL q f r).map nD)) G := by
  have hr := hq.r20
  have hb := hq.b20
  rw [call_eq P_law_uses rfl]
  simp_arith [d_law_uses, pbD, pb_1, List.length_map, rng2N f q.bs.length (by omega) (by omega)]
  rw [compL_fm (fun b => looks (bat q b) r) nD]
  · rfl
  · intro b hb
    have hb : b < q.bs.length := by
      rw [List.mem_range'_1] at hb; omega
    have hbb := bat_good hq b
    have e2 := looked_eq (n := n) (G := G) (x := batD (bat q b)) (seq_bat _) hbb.all (by have := hbb.le; omega) (by omega)
    simp_arith [d_law_uses_c1, d_law_uses_e0, pb_1, bat_at hb, e2, d_in, rowsN_has hbb.all, cif]
end
end CM

namespace CM
open PySem hiding exec execs start
open PySem.Spec PyProof.Rows L2 MP
local macro_rules
  | `(tactic| simp_arith [$xs,*]) => `(tactic| simp -implicitDefEqProofs (disch := first | omega | (simp only [List.length_append, List.length_map, List.length_range, List.length_range', List.length_nil, List.length_cons, List.length_singleton, List.length_zipIdx] <;> omega)) only [gv0, gvS, go0, goS, ev_var, ev_own, ev_non, ev_bl, ev_int, ev_str, ev_glb, ev_tup, ev_lst, ev_dK0, ev_dT0, ev_bin, ev_cat, ev_rep, negR_int, ev_neg, notR_bl, ev_not, blR_some, ev_cmp, chR_t, chR_f, ev_chn, ev_and, ev_or, bR_bl, anR_t, anR_f, anR_b, orR_t, orR_f, orR_b, and_one, and_more, or_one, or_more, ev_ife, ev_idx, ev_slc, ev_rev, calR_f, calR_ok, calR_ex, ev_call, ev_prim, ev_mth, ev_isi, ev_srtset, ev_lrng, ev_comp, ev_newc, evs_nil, evs_cons, inR_int, evo_no, evo_so, evI_seq, evI_rng, evI_enum, tv_not, tv_and, tv_or, tv_var, tv_own, tv_non, tv_bl, tv_int, tv_cmp, tv_chn, tv_call, tv_prim, tv_isi, tv_idx, tv_mth, tv_ife, tv_comp, tv_slc, tv_bin, tand_one, tand_more, tor_one, tor_more, b_ok, b_ex, l_some, s_ok, s_ex, q_nx, q_rt, q_bk, q_ct, q_ex, n_some, f_nx, f_rt, f_ex, fr_f, fr_t, fr_k, x_asg, x_asgF, x_frz, onL0, onLS, x_app, x_ext, x_ex, x_ret, x_retN, x_cont, x_brk, x_rais, x_ite, x_for, x_whl, xs_nil, xs_cons, forB_nm, setTg_nm, setTg_tp, setTp_nil, setTp_cons, sl0, slS, w_nil, w_cons, ow0, owS, ob, om, st_e, frR_some, frz_eq, x_setg, x_seti, oc0, ocS, x_appPop, ol0, olS, fl_int, fls_nil, fls_cons, t_bl, t_int, t_non, t_lst, d_add, d_sub, d_mul, d_fdiv, d_mod, d_lt, d_le, d_gt, d_ge, d_eqi, d_nei, p_len, p_lent, p_lens, p_int, p_abs, p_tup, p_tupt, p_list, p_listt, p_min2, p_max2, ix_l, ix_t, ix_s, app_d, ext_l, ext_t, bo_ok (t_bl), bo_ok (t_int), bo_ok (t_lst), notR_of (t_lst), os_eq, Es.hasOwn, List.map_cons, List.map_nil, List.length_cons, List.length_nil, List.replicate_succ, List.replicate_zero, List.cons_append, List.nil_append, Nat.reduceSub, Nat.reduceAdd, Nat.sub_self, reduceIte, Bool.not_true, Bool.not_false, Bool.false_eq_true, Bool.and_self, Bool.and_true, Bool.true_and, Nat.reduceBEq, Nat.reduceEqDiff, cF_no, cF_so, cF2_no, cF2_so, cF3_no, cF3_so, cR_b, q_nil, q_nil2, forB_tp2, forB_tp3, ty_bool_non, ty_bool_bl, ty_bool_int, ty_bool_str, ty_bool_tup, ty_bool_lst, ty_int_non, ty_int_bl, ty_int_int, ty_int_str, ty_int_tup, ty_int_lst, ty_str_non, ty_str_bl, ty_str_int, ty_str_str, ty_str_tup, ty_str_lst, ty_tuple_non, ty_tuple_bl, ty_tuple_int, ty_tuple_str, ty_tuple_tup, ty_tuple_lst, ty_list_non, ty_list_bl, ty_list_int, ty_list_str, ty_list_tup, ty_list_lst, d_eqb, d_isn, d_isi, d_isb, d_iss, d_ist, d_isl, d_insn, d_insi, d_inst, d_insl, p_int_b, t_tup, compL_nil, compL_cons, cC_some, cC_none, cK_ok, cN_ok, forL_nil, forL_cons, foR_nx, foR_ct, foR_bk, foR_rt, foR_ex, seq_l, seq_t, enu_l, enu_t, ev_dcomp, dcF_nm, evI_items, agS_int, x_augi, x_ins, x_asgPop, setTg_tpl, forB_tp2l, forB_tp3l, d_isbb, d_insbb, d_isdK, p_lendK, p_lendT, ty_bool_dK, ty_int_dK, ty_str_dK, ty_tuple_dK, ty_list_dK, ms_i1, ms_i2, ms_g2, ms_g1, $xs,*])
local macro_rules
  | `(tactic| simp_arith [$xs,*] at $h:ident) => `(tactic| simp -implicitDefEqProofs (disch := first | omega | (simp only [List.length_append, List.length_map, List.length_range, List.length_range', List.length_nil, List.length_cons, List.length_singleton, List.length_zipIdx] <;> omega)) only [gv0, gvS, go0, goS, ev_var, ev_own, ev_non, ev_bl, ev_int, ev_str, ev_glb, ev_tup, ev_lst, ev_dK0, ev_dT0, ev_bin, ev_cat, ev_rep, negR_int, ev_neg, notR_bl, ev_not, blR_some, ev_cmp, chR_t, chR_f, ev_chn, ev_and, ev_or, bR_bl, anR_t, anR_f, anR_b, orR_t, orR_f, orR_b, and_one, and_more, or_one, or_more, ev_ife, ev_idx, ev_slc, ev_rev, calR_f, calR_ok, calR_ex, ev_call, ev_prim, ev_mth, ev_isi, ev_srtset, ev_lrng, ev_comp, ev_newc, evs_nil, evs_cons, inR_int, evo_no, evo_so, evI_seq, evI_rng, evI_enum, tv_not, tv_and, tv_or, tv_var, tv_own, tv_non, tv_bl, tv_int, tv_cmp, tv_chn, tv_call, tv_prim, tv_isi, tv_idx, tv_mth, tv_ife, tv_comp, tv_slc, tv_bin, tand_one, tand_more, tor_one, tor_more, b_ok, b_ex, l_some, s_ok, s_ex, q_nx, q_rt, q_bk, q_ct, q_ex, n_some, f_nx, f_rt, f_ex, fr_f, fr_t, fr_k, x_asg, x_asgF, x_frz, onL0, onLS, x_app, x_ext, x_ex, x_ret, x_retN, x_cont, x_brk, x_rais, x_ite, x_for, x_whl, xs_nil, xs_cons, forB_nm, setTg_nm, setTg_tp, setTp_nil, setTp_cons, sl0, slS, w_nil, w_cons, ow0, owS, ob, om, st_e, frR_some, frz_eq, x_setg, x_seti, oc0, ocS, x_appPop, ol0, olS, fl_int, fls_nil, fls_cons, t_bl, t_int, t_non, t_lst, d_add, d_sub, d_mul, d_fdiv, d_mod, d_lt, d_le, d_gt, d_ge, d_eqi, d_nei, p_len, p_lent, p_lens, p_int, p_abs, p_tup, p_tupt, p_list, p_listt, p_min2, p_max2, ix_l, ix_t, ix_s, app_d, ext_l, ext_t, bo_ok (t_bl), bo_ok (t_int), bo_ok (t_lst), notR_of (t_lst), os_eq, Es.hasOwn, List.map_cons, List.map_nil, List.length_cons, List.length_nil, List.replicate_succ, List.replicate_zero, List.cons_append, List.nil_append, Nat.reduceSub, Nat.reduceAdd, Nat.sub_self, reduceIte, Bool.not_true, Bool.not_false, Bool.false_eq_true, Bool.and_self, Bool.and_true, Bool.true_and, Nat.reduceBEq, Nat.reduceEqDiff, cF_no, cF_so, cF2_no, cF2_so, cF3_no, cF3_so, cR_b, q_nil, q_nil2, forB_tp2, forB_tp3, ty_bool_non, ty_bool_bl, ty_bool_int, ty_bool_str, ty_bool_tup, ty_bool_lst, ty_int_non, ty_int_bl, ty_int_int, ty_int_str, ty_int_tup, ty_int_lst, ty_str_non, ty_str_bl, ty_str_int, ty_str_str, ty_str_tup, ty_str_lst, ty_tuple_non, ty_tuple_bl, ty_tuple_int, ty_tuple_str, ty_tuple_tup, ty_tuple_lst, ty_list_non, ty_list_bl, ty_list_int, ty_list_str, ty_list_tup, ty_list_lst, d_eqb, d_isn, d_isi, d_isb, d_iss, d_ist, d_isl, d_insn, d_insi, d_inst, d_insl, p_int_b, t_tup, compL_nil, compL_cons, cC_some, cC_none, cK_ok, cN_ok, forL_nil, forL_cons, foR_nx, foR_ct, foR_bk, foR_rt, foR_ex, seq_l, seq_t, enu_l, enu_t, ev_dcomp, dcF_nm, evI_items, agS_int, x_augi, x_ins, x_asgPop, setTg_tpl, forB_tp2l, forB_tp3l, d_isbb, d_insbb, d_isdK, p_lendK, p_lendT, ty_bool_dK, ty_int_dK, ty_str_dK, ty_tuple_dK, ty_list_dK, ms_i1, ms_i2, ms_g2, ms_g1, $xs,*] at $h:ident)
/-! ### stays -/
/-- the stays of a row: its uses, broken where the gap is wider than the window -/
def grp (w : Nat) : Nat → Nat → List Nat → List (Nat × Nat)
  | o, c, [] => [(o, c)]
  | o, c, b :: r => if b ≤ c + w then grp w o b r else (o, c) :: grp w b b r
def grps (w : Nat) : List Nat → List (Nat × Nat)
  | [] => []
  | b :: r => grp w b b r
def prD (p : Nat × Nat) : D := .tup true [nD p.1, nD p.2]
def staysL (q : Pb) (s : Su) (f : Nat) : List (Nat × Nat × Nat) := (List.range q.rows.length).flatMap fun r => (grps s.wn (usesL q f r)).map fun p => (r, p)
def stD3 (p : Nat × Nat × Nat) : D := .tup true [nD p.1, nD p.2.1, nD p.2.2]
def oD : Option Nat → D
  | none => .non
  | some k => nD k
theorem grp_snoc (w : Nat) : ∀ (l : List Nat) (o c b : Nat), ∃ pre o' c', grp w o c l = pre ++ [(o', c')] ∧ c' = (c :: l).getLast (by simp) ∧ grp w o c (l ++ [b]) = if b ≤ c' + w then pre ++ [(o', b)] else pre ++ [(o', c'), (b, b)]
  | [], o, c, b => by
    refine ⟨[], o, c, rfl, rfl, ?_⟩
    simp only [List.nil_append, grp]
  | x :: l, o, c, b => by
    by_cases h : x ≤ c + w
    · obtain ⟨pre, o', c', e1, e2, e3⟩ := grp_snoc w l o x b
      refine ⟨pre, o', c', by simp only [grp, if_pos h, e1], by rw [e2]; simp, ?_⟩
      simp only [List.cons_append, grp, if_pos h, e3]
    · obtain ⟨pre, o', c', e1, e2, e3⟩ := grp_snoc w l x x b
      refine ⟨(o, c) :: pre, o', c', by simp only [grp, if_neg h, e1, List.cons_append], by rw [e2]; simp, ?_⟩
      simp only [List.cons_append, grp, if_neg h, e3]
      split <;> rfl
theorem grp_len (w : Nat) : ∀ (l : List Nat) (o c : Nat), (grp w o c l).length ≤ l.length + 1
  | [], o, c => by simp [grp]
  | b :: r, o, c => by
    simp only [grp]
    split
    · have := grp_len w r o b; simp; omega
    · have := grp_len w r b b; simp; omega
theorem grps_len (w : Nat) (l : List Nat) : (grps w l).length ≤ l.length := by
  cases l with
  | nil => simp [grps]
  | cons b r => exact grp_len w r b b
theorem ixN_last {m : Nat} : ixN (m + 1) (-1) = some m := by
  unfold ixN
  rw [if_neg (by omega), if_pos (by omega)]
  congr 1
  omega
theorem atI_last {α : Type} (l : List α) (x : α) : atI (l ++ [x]) (-1) = some x := by
  unfold atI
  rw [List.length_append, List.length_singleton, ixN_last]
  simp
theorem setD_last (l : List D) (x y : D) : setD (.lst (l ++ [x])) (.int (-1)) y = some (.lst (l ++ [y])) := by
  simp only [setD]
  rw [List.length_append, List.length_singleton, ixN_last]
  simp
theorem uses_len (q : Pb) (f r : Nat) : (usesL q f r).length ≤ q.bs.length := by
  unfold usesL
  refine Nat.le_trans (List.length_filter_le _ _) ?_
  rw [List.length_range']
  omega
section
variable {n : Nat} {G : Gs} {q : Pb} {s : Su}
theorem stays_of_eq {f r : Nat} (hq : GoodP q) (hf : f ≤ 1000) : callN Pr (n + 3) "stays_of" [pbD q, suD s, nD f, nD r] G = .ok (.lst ((grps s.wn (usesL q f r)).map prD)) G := by
  rw [call_eq P_stays_of rfl]
  have hul := uses_len q f r
  have hb := hq.b20
  simp_arith [d_stays_of, uses_eq (n := n) (G := G) hq hf, seq_t]
  generalize usesL q f r = us at hul ⊢
  rw [for_st _ (fun e l => e.set 4 (.own (.lst ((grps s.wn l).map prD)))) (fun l x => l ++ [x]) [] us (fun i l => l.length ≤ i) rfl (by simp)]
  · have e : us.foldl (fun l x => l ++ [x]) [] = us := by
      have : ∀ (us a : List Nat), us.foldl (fun l x => l ++ [x]) a = a ++ us := by
        intro us
        induction us with
        | nil => simp
        | cons x us ih => intro a; rw [List.foldl_cons, ih]; simp
      rw [this]; rfl
    simp_arith [e]
  · intro j x l hj hI
    have hj2 := (List.getElem?_eq_some_iff.mp hj).1
    cases l with
    | nil =>
      have hlen : ([] : List D).length < 1000000 := by decide
      simp_arith [d_stays_of_b0, grps, List.isEmpty_nil, app_d hlen]
      exact nx_nx ⟨rfl, by simp_arith [grps, grp, prD], by simp⟩
    | cons b l =>
      obtain ⟨pre, o, c, g1, g2, g3⟩ := grp_snoc s.wn l b b x
      have hgl := grp_len s.wn l b b
      have hpl : pre.length ≤ 500 := by
        rw [g1, List.length_append, List.length_singleton] at hgl
        rw [List.length_cons] at hI
        omega
      have hc : ((x : Int) - (c : Int) ≤ (s.wn : Int)) = (x ≤ c + s.wn) := by apply propext; omega
      have hg : grps s.wn (b :: l) = pre ++ [(o, c)] := g1
      have hg2 : grps s.wn (b :: l ++ [x]) = if x ≤ c + s.wn then pre ++ [(o, x)] else pre ++ [(o, c), (x, x)] := g3
      have e6 : (if x ≤ c + s.wn then pre ++ [(o, x)] else pre ++ [(o, c), (x, x)]).map prD = if x ≤ c + s.wn then pre.map prD ++ [prD (o, x)] else pre.map prD ++ [prD (o, c), prD (x, x)] := by split <;> simp
      have hL : (pre.map prD).length ≤ 500 := by rw [List.length_map]; exact hpl
      simp only [hg, hg2, e6, List.map_append, List.map_cons, List.map_nil]
      generalize pre.map prD = L at hL ⊢
      have a0 : atI [nD o, nD c] 0 = some (nD o) := rfl
      have a1 : atI [nD o, nD c] 1 = some (nD c) := rfl
      have hlen : (L ++ [D.tup true [nD o, nD c]]).length < 1000000 := by rw [List.length_append, List.length_singleton]; omega
      have hne : (L ++ [D.tup true [nD o, nD c]]).isEmpty = false := by cases L <;> rfl
      have elast := atI_last L (D.tup true [nD o, nD c])
      by_cases h : x ≤ c + s.wn
      · simp_arith [d_stays_of_b0, hne, elast, prD, a0, a1, suD, su_1, hc, h, decide_true, setD_last]
        exact nx_nx ⟨rfl, by simp_arith [], by simpa using hI⟩
      · simp_arith [d_stays_of_b0, hne, elast, prD, a0, a1, suD, su_1, hc, h, decide_false, app_d hlen]
        exact nx_nx ⟨rfl, by simp_arith [List.append_assoc], by simpa using hI⟩
theorem stays_eq {f : Nat} (hq : GoodP q) (hf : f ≤ 1000) : callN Pr (n + 4) "stays" [pbD q, suD s, nD f] G = .ok (.tup true ((staysL q s f).map stD3)) G := by
  rw [call_eq P_stays rfl]
  have hr := hq.r20
  have hb := hq.b20
  simp_arith [d_stays, pbD, pb_0, List.length_map, rngN q.rows.length (by omega)]
  rw [for_acc _ 3 [] (fun r : Nat => (grps s.wn (usesL q f r)).map fun p => stD3 (r, p)) (List.range q.rows.length) 20 rfl (fun r _ => by
    rw [List.length_map]
    have := grps_len s.wn (usesL q f r)
    have := uses_len q f r
    omega) (by simp; omega)]
  · simp_arith [staysL, List.map_flatMap, List.map_map]
    rfl
  · intro r hr acc hl
    have e1 := stays_of_eq (n := n) (G := G) (s := s) (r := r) hq hf
    simp only [pbD] at e1
    simp_arith [d_stays_b0, e1, seq_l]
    rw [compL_map (fun p : Nat × Nat => stD3 (r, p))]
    · simp_arith [ext_l hl]
      exact nx_nx ⟨rfl, rfl⟩
    · intro p hp
      simp_arith [prD, d_stays_e1]
      rfl
end
theorem stays_len {q : Pb} {s : Su} {f : Nat} (hq : GoodP q) : (staysL q s f).length ≤ 400 := by
  have := flat_len (fun r => (grps s.wn (usesL q f r)).map fun p => (r, p)) 20 (List.range q.rows.length) fun r _ => by
    rw [List.length_map]
    have := grps_len s.wn (usesL q f r)
    have := uses_len q f r
    have := hq.b20
    omega
  rw [List.length_range] at this
  have h := hq.r20
  unfold staysL
  omega
end CM

namespace CM
open PySem hiding exec execs start
open PySem.Spec PyProof.Rows L2 MP
local macro_rules
  | `(tactic| simp_arith [$xs,*]) => `(tactic| simp -implicitDefEqProofs (disch := first | omega | (simp only [List.length_append, List.length_map, List.length_range, List.length_range', List.length_nil, List.length_cons, List.length_singleton, List.length_zipIdx] <;> omega)) only [gv0, gvS, go0, goS, ev_var, ev_own, ev_non, ev_bl, ev_int, ev_str, ev_glb, ev_tup, ev_lst, ev_dK0, ev_dT0, ev_bin, ev_cat, ev_rep, negR_int, ev_neg, notR_bl, ev_not, blR_some, ev_cmp, chR_t, chR_f, ev_chn, ev_and, ev_or, bR_bl, anR_t, anR_f, anR_b, orR_t, orR_f, orR_b, and_one, and_more, or_one, or_more, ev_ife, ev_idx, ev_slc, ev_rev, calR_f, calR_ok, calR_ex, ev_call, ev_prim, ev_mth, ev_isi, ev_srtset, ev_lrng, ev_comp, ev_newc, evs_nil, evs_cons, inR_int, evo_no, evo_so, evI_seq, evI_rng, evI_enum, tv_not, tv_and, tv_or, tv_var, tv_own, tv_non, tv_bl, tv_int, tv_cmp, tv_chn, tv_call, tv_prim, tv_isi, tv_idx, tv_mth, tv_ife, tv_comp, tv_slc, tv_bin, tand_one, tand_more, tor_one, tor_more, b_ok, b_ex, l_some, s_ok, s_ex, q_nx, q_rt, q_bk, q_ct, q_ex, n_some, f_nx, f_rt, f_ex, fr_f, fr_t, fr_k, x_asg, x_asgF, x_frz, onL0, onLS, x_app, x_ext, x_ex, x_ret, x_retN, x_cont, x_brk, x_rais, x_ite, x_for, x_whl, xs_nil, xs_cons, forB_nm, setTg_nm, setTg_tp, setTp_nil, setTp_cons, sl0, slS, w_nil, w_cons, ow0, owS, ob, om, st_e, frR_some, frz_eq, x_setg, x_seti, oc0, ocS, x_appPop, ol0, olS, fl_int, fls_nil, fls_cons, t_bl, t_int, t_non, t_lst, d_add, d_sub, d_mul, d_fdiv, d_mod, d_lt, d_le, d_gt, d_ge, d_eqi, d_nei, p_len, p_lent, p_lens, p_int, p_abs, p_tup, p_tupt, p_list, p_listt, p_min2, p_max2, ix_l, ix_t, ix_s, app_d, ext_l, ext_t, bo_ok (t_bl), bo_ok (t_int), bo_ok (t_lst), notR_of (t_lst), os_eq, Es.hasOwn, List.map_cons, List.map_nil, List.length_cons, List.length_nil, List.replicate_succ, List.replicate_zero, List.cons_append, List.nil_append, Nat.reduceSub, Nat.reduceAdd, Nat.sub_self, reduceIte, Bool.not_true, Bool.not_false, Bool.false_eq_true, Bool.and_self, Bool.and_true, Bool.true_and, Nat.reduceBEq, Nat.reduceEqDiff, cF_no, cF_so, cF2_no, cF2_so, cF3_no, cF3_so, cR_b, q_nil, q_nil2, forB_tp2, forB_tp3, ty_bool_non, ty_bool_bl, ty_bool_int, ty_bool_str, ty_bool_tup, ty_bool_lst, ty_int_non, ty_int_bl, ty_int_int, ty_int_str, ty_int_tup, ty_int_lst, ty_str_non, ty_str_bl, ty_str_int, ty_str_str, ty_str_tup, ty_str_lst, ty_tuple_non, ty_tuple_bl, ty_tuple_int, ty_tuple_str, ty_tuple_tup, ty_tuple_lst, ty_list_non, ty_list_bl, ty_list_int, ty_list_str, ty_list_tup, ty_list_lst, d_eqb, d_isn, d_isi, d_isb, d_iss, d_ist, d_isl, d_insn, d_insi, d_inst, d_insl, p_int_b, t_tup, compL_nil, compL_cons, cC_some, cC_none, cK_ok, cN_ok, forL_nil, forL_cons, foR_nx, foR_ct, foR_bk, foR_rt, foR_ex, seq_l, seq_t, enu_l, enu_t, ev_dcomp, dcF_nm, evI_items, agS_int, x_augi, x_ins, x_asgPop, setTg_tpl, forB_tp2l, forB_tp3l, d_isbb, d_insbb, d_isdK, p_lendK, p_lendT, ty_bool_dK, ty_int_dK, ty_str_dK, ty_tuple_dK, ty_list_dK, ms_i1, ms_i2, ms_g2, ms_g1, $xs,*])
local macro_rules
  | `(tactic| simp_arith [$xs,*] at $h:ident) => `(tactic| simp -implicitDefEqProofs (disch := first | omega | (simp only [List.length_append, List.length_map, List.length_range, List.length_range', List.length_nil, List.length_cons, List.length_singleton, List.length_zipIdx] <;> omega)) only [gv0, gvS, go0, goS, ev_var, ev_own, ev_non, ev_bl, ev_int, ev_str, ev_glb, ev_tup, ev_lst, ev_dK0, ev_dT0, ev_bin, ev_cat, ev_rep, negR_int, ev_neg, notR_bl, ev_not, blR_some, ev_cmp, chR_t, chR_f, ev_chn, ev_and, ev_or, bR_bl, anR_t, anR_f, anR_b, orR_t, orR_f, orR_b, and_one, and_more, or_one, or_more, ev_ife, ev_idx, ev_slc, ev_rev, calR_f, calR_ok, calR_ex, ev_call, ev_prim, ev_mth, ev_isi, ev_srtset, ev_lrng, ev_comp, ev_newc, evs_nil, evs_cons, inR_int, evo_no, evo_so, evI_seq, evI_rng, evI_enum, tv_not, tv_and, tv_or, tv_var, tv_own, tv_non, tv_bl, tv_int, tv_cmp, tv_chn, tv_call, tv_prim, tv_isi, tv_idx, tv_mth, tv_ife, tv_comp, tv_slc, tv_bin, tand_one, tand_more, tor_one, tor_more, b_ok, b_ex, l_some, s_ok, s_ex, q_nx, q_rt, q_bk, q_ct, q_ex, n_some, f_nx, f_rt, f_ex, fr_f, fr_t, fr_k, x_asg, x_asgF, x_frz, onL0, onLS, x_app, x_ext, x_ex, x_ret, x_retN, x_cont, x_brk, x_rais, x_ite, x_for, x_whl, xs_nil, xs_cons, forB_nm, setTg_nm, setTg_tp, setTp_nil, setTp_cons, sl0, slS, w_nil, w_cons, ow0, owS, ob, om, st_e, frR_some, frz_eq, x_setg, x_seti, oc0, ocS, x_appPop, ol0, olS, fl_int, fls_nil, fls_cons, t_bl, t_int, t_non, t_lst, d_add, d_sub, d_mul, d_fdiv, d_mod, d_lt, d_le, d_gt, d_ge, d_eqi, d_nei, p_len, p_lent, p_lens, p_int, p_abs, p_tup, p_tupt, p_list, p_listt, p_min2, p_max2, ix_l, ix_t, ix_s, app_d, ext_l, ext_t, bo_ok (t_bl), bo_ok (t_int), bo_ok (t_lst), notR_of (t_lst), os_eq, Es.hasOwn, List.map_cons, List.map_nil, List.length_cons, List.length_nil, List.replicate_succ, List.replicate_zero, List.cons_append, List.nil_append, Nat.reduceSub, Nat.reduceAdd, Nat.sub_self, reduceIte, Bool.not_true, Bool.not_false, Bool.false_eq_true, Bool.and_self, Bool.and_true, Bool.true_and, Nat.reduceBEq, Nat.reduceEqDiff, cF_no, cF_so, cF2_no, cF2_so, cF3_no, cF3_so, cR_b, q_nil, q_nil2, forB_tp2, forB_tp3, ty_bool_non, ty_bool_bl, ty_bool_int, ty_bool_str, ty_bool_tup, ty_bool_lst, ty_int_non, ty_int_bl, ty_int_int, ty_int_str, ty_int_tup, ty_int_lst, ty_str_non, ty_str_bl, ty_str_int, ty_str_str, ty_str_tup, ty_str_lst, ty_tuple_non, ty_tuple_bl, ty_tuple_int, ty_tuple_str, ty_tuple_tup, ty_tuple_lst, ty_list_non, ty_list_bl, ty_list_int, ty_list_str, ty_list_tup, ty_list_lst, d_eqb, d_isn, d_isi, d_isb, d_iss, d_ist, d_isl, d_insn, d_insi, d_inst, d_insl, p_int_b, t_tup, compL_nil, compL_cons, cC_some, cC_none, cK_ok, cN_ok, forL_nil, forL_cons, foR_nx, foR_ct, foR_bk, foR_rt, foR_ex, seq_l, seq_t, enu_l, enu_t, ev_dcomp, dcF_nm, evI_items, agS_int, x_augi, x_ins, x_asgPop, setTg_tpl, forB_tp2l, forB_tp3l, d_isbb, d_insbb, d_isdK, p_lendK, p_lendT, ty_bool_dK, ty_int_dK, ty_str_dK, ty_tuple_dK, ty_list_dK, ms_i1, ms_i2, ms_g2, ms_g1, $xs,*] at $h:ident)
section
variable {n : Nat} {G : Gs} {q : Pb} {s : Su}
/-- .. told the other way: what is open, the uses to come -/
def lk (w : Nat) : Option Nat → List Nat → List (Nat × Nat)
  | _, [] => []
  | o, c :: r => if (match r with | [] => true | d :: _ => decide (c + w < d)) = true then (o.getD c, c) :: lk w none r else lk w (some (o.getD c)) r
theorem lk_grp (w : Nat) : ∀ (l : List Nat) (o c : Nat), lk w (some o) (c :: l) = grp w o c l
  | [], o, c => by simp [lk, grp]
  | d :: l, o, c => by
    rw [lk, grp]
    by_cases h : d ≤ c + w
    · rw [if_pos h, if_neg (by simp; omega)]
      exact lk_grp w l o d
    · rw [if_neg h, if_pos (by simp; omega)]
      show (o, c) :: lk w none (d :: l) = _
      rw [← lk_grp w l d d]
      rfl
theorem lk_grps (w : Nat) (l : List Nat) : lk w none l = grps w l := by
  cases l with
  | nil => rfl
  | cons c l => rw [grps, ← lk_grp]; rfl
theorem law_stays_eq {f : Nat} (hq : GoodP q) (hf : f ≤ 1000) : callN Pr (n + 3) "_law_stays" [pbD q, suD s, nD f] G = .ok (.tup true ((staysL q s f).map stD3)) G := by
  rw [call_eq P_law_stays rfl]
  have hr := hq.r20
  have hb := hq.b20
  simp_arith [d_law_stays, pbD, pb_0, List.length_map, rngN q.rows.length (by omega)]
  rw [for_acc _ 3 [] (fun r : Nat => (grps s.wn (usesL q f r)).map fun p => stD3 (r, p)) (List.range q.rows.length) 20 rfl (fun r _ => by
    rw [List.length_map]
    have := grps_len s.wn (usesL q f r)
    have := uses_len q f r
    omega) (by simp; omega)]
  · simp_arith [staysL, List.map_flatMap, List.map_map]
    rfl
  · intro r hr acc hl
    have e1 := law_uses_eq (n := n) (G := G) (r := r) hq hf
    have hul := uses_len q f r
    simp only [pbD] at e1
    simp_arith [d_law_stays_b0, e1, List.length_map, rngN (usesL q f r).length (by omega)]
    generalize usesL q f r = us at hul hl ⊢
    refine for_kn _ (fun e (p : Option Nat × List (Nat × Nat)) => (e.set 3 (.own (.lst (acc ++ p.2.map fun p => stD3 (r, p))))).set 6 (.val (oD p.1))) (none, []) (List.range us.length) (fun i p => p.2 ++ lk s.wn p.1 (us.drop i) = grps s.wn us) (by simp_arith [List.append_nil]; rfl) (by simp; exact lk_grps _ _) ?_ ?_
    · intro k x p hk hI
      obtain ⟨hk, rfl⟩ := range_get hk
      obtain ⟨o, pre⟩ := p
      have hlim : (acc ++ pre.map fun p => stD3 (r, p)).length < 1000000 := by
        have := congrArg List.length hI
        simp only [List.length_append, List.length_map] at this hl ⊢
        omega
      have hd : us.drop x = us[x] :: us.drop (x + 1) := List.drop_eq_getElem_cons hk
      simp only [hd, lk] at hI
      have i1 := atI_map nD us x hk
      have hw : suD s = .tup true [nD s.tr, nD s.wn, nD s.ld] := rfl
      by_cases h1 : x + 1 = us.length
      · have h1i : ((x : Int) + 1 == (us.length : Int)) = true := by rw [beq_iff_eq]; omega
        have hd2 : us.drop (x + 1) = [] := by rw [h1, List.drop_length]
        rw [hd2, if_pos rfl] at hI
        cases o with
        | none =>
          simp_arith [d_law_stays_b1, oD, i1, List.length_map, h1i, app_d hlim]
          exact nx_nx ⟨rfl, (none, pre ++ [(us[x], us[x])]), by simp_arith [oD, List.map_append, List.append_assoc]; rfl, by rw [hd2]; simpa using hI⟩
        | some v =>
          have ht : (cmpD .iss (nD v) .non) = some false := rfl
          simp_arith [d_law_stays_b1, oD, i1, List.length_map, h1i, app_d hlim, ht]
          exact nx_nx ⟨rfl, (none, pre ++ [(v, us[x])]), by simp_arith [oD, List.map_append, List.append_assoc]; rfl, by rw [hd2]; simpa using hI⟩
      · have hx1 : x + 1 < us.length := by omega
        have h1i : ((x : Int) + 1 == (us.length : Int)) = false := by rw [beq_eq_false_iff_ne]; omega
        have hd2 : us.drop (x + 1) = us[x + 1] :: us.drop (x + 2) := List.drop_eq_getElem_cons hx1
        have i2 := atI_map nD us (x + 1) hx1
        rw [Int.natCast_add] at i2
        have i2 : atI (us.map nD) ((x : Int) + 1) = some (nD us[x + 1]) := i2
        by_cases h2 : us[x] + s.wn < us[x + 1]
        · have h2i : ((us[x] : Int) + (s.wn : Int) < (us[x + 1] : Int)) = True := by apply propext; simp; omega
          simp only [hd2, h2, decide_true, if_true] at hI
          cases o with
          | none =>
            simp_arith [d_law_stays_b1, oD, i1, i2, List.length_map, h1i, app_d hlim, hw, su_1, h2i, decide_true]
            exact nx_nx ⟨rfl, (none, pre ++ [(us[x], us[x])]), by simp_arith [oD, List.map_append, List.append_assoc]; rfl, by rw [hd2]; simpa using hI⟩
          | some v =>
            have ht : (cmpD .iss (nD v) .non) = some false := rfl
            simp_arith [d_law_stays_b1, oD, i1, i2, List.length_map, h1i, app_d hlim, hw, su_1, h2i, decide_true, ht]
            exact nx_nx ⟨rfl, (none, pre ++ [(v, us[x])]), by simp_arith [oD, List.map_append, List.append_assoc]; rfl, by rw [hd2]; simpa using hI⟩
        · have h2i : ((us[x] : Int) + (s.wn : Int) < (us[x + 1] : Int)) = False := by apply propext; simp; omega
          simp only [hd2, h2, decide_false, Bool.false_eq_true, if_false] at hI
          cases o with
          | none =>
            simp_arith [d_law_stays_b1, oD, i1, i2, List.length_map, h1i, app_d hlim, hw, su_1, h2i, decide_false]
            exact nx_nx ⟨rfl, (some us[x], pre), by simp_arith [oD], by rw [hd2]; exact hI⟩
          | some v =>
            have ht : (cmpD .iss (nD v) .non) = some false := rfl
            simp_arith [d_law_stays_b1, oD, i1, i2, List.length_map, h1i, app_d hlim, hw, su_1, h2i, decide_false, ht]
            exact nx_nx ⟨rfl, (some v, pre), by simp_arith [oD], by rw [hd2]; exact hI⟩
    · intro p h
      rw [List.length_range, List.drop_length] at h
      have e : lk s.wn p.1 [] = [] := by cases p.1 <;> rfl
      rw [e, List.append_nil] at h
      simp_arith [h]
      exact nx_nx ⟨rfl, rfl⟩
end
end CM

namespace CM
open PySem hiding exec execs start
open PySem.Spec PyProof.Rows L2 MP
local macro_rules
  | `(tactic| simp_arith [$xs,*]) => `(tactic| simp -implicitDefEqProofs (disch := first | omega | (simp only [List.length_append, List.length_map, List.length_range, List.length_range', List.length_nil, List.length_cons, List.length_singleton, List.length_zipIdx] <;> omega)) only [gv0, gvS, go0, goS, ev_var, ev_own, ev_non, ev_bl, ev_int, ev_str, ev_glb, ev_tup, ev_lst, ev_dK0, ev_dT0, ev_bin, ev_cat, ev_rep, negR_int, ev_neg, notR_bl, ev_not, blR_some, ev_cmp, chR_t, chR_f, ev_chn, ev_and, ev_or, bR_bl, anR_t, anR_f, anR_b, orR_t, orR_f, orR_b, and_one, and_more, or_one, or_more, ev_ife, ev_idx, ev_slc, ev_rev, calR_f, calR_ok, calR_ex, ev_call, ev_prim, ev_mth, ev_isi, ev_srtset, ev_lrng, ev_comp, ev_newc, evs_nil, evs_cons, inR_int, evo_no, evo_so, evI_seq, evI_rng, evI_enum, tv_not, tv_and, tv_or, tv_var, tv_own, tv_non, tv_bl, tv_int, tv_cmp, tv_chn, tv_call, tv_prim, tv_isi, tv_idx, tv_mth, tv_ife, tv_comp, tv_slc, tv_bin, tand_one, tand_more, tor_one, tor_more, b_ok, b_ex, l_some, s_ok, s_ex, q_nx, q_rt, q_bk, q_ct, q_ex, n_some, f_nx, f_rt, f_ex, fr_f, fr_t, fr_k, x_asg, x_asgF, x_frz, onL0, onLS, x_app, x_ext, x_ex, x_ret, x_retN, x_cont, x_brk, x_rais, x_ite, x_for, x_whl, xs_nil, xs_cons, forB_nm, setTg_nm, setTg_tp, setTp_nil, setTp_cons, sl0, slS, w_nil, w_cons, ow0, owS, ob, om, st_e, frR_some, frz_eq, x_setg, x_seti, oc0, ocS, x_appPop, ol0, olS, fl_int, fls_nil, fls_cons, t_bl, t_int, t_non, t_lst, d_add, d_sub, d_mul, d_fdiv, d_mod, d_lt, d_le, d_gt, d_ge, d_eqi, d_nei, p_len, p_lent, p_lens, p_int, p_abs, p_tup, p_tupt, p_list, p_listt, p_min2, p_max2, ix_l, ix_t, ix_s, app_d, ext_l, ext_t, bo_ok (t_bl), bo_ok (t_int), bo_ok (t_lst), notR_of (t_lst), os_eq, Es.hasOwn, List.map_cons, List.map_nil, List.length_cons, List.length_nil, List.replicate_succ, List.replicate_zero, List.cons_append, List.nil_append, Nat.reduceSub, Nat.reduceAdd, Nat.sub_self, reduceIte, Bool.not_true, Bool.not_false, Bool.false_eq_true, Bool.and_self, Bool.and_true, Bool.true_and, Nat.reduceBEq, Nat.reduceEqDiff, cF_no, cF_so, cF2_no, cF2_so, cF3_no, cF3_so, cR_b, q_nil, q_nil2, forB_tp2, forB_tp3, ty_bool_non, ty_bool_bl, ty_bool_int, ty_bool_str, ty_bool_tup, ty_bool_lst, ty_int_non, ty_int_bl, ty_int_int, ty_int_str, ty_int_tup, ty_int_lst, ty_str_non, ty_str_bl, ty_str_int, ty_str_str, ty_str_tup, ty_str_lst, ty_tuple_non, ty_tuple_bl, ty_tuple_int, ty_tuple_str, ty_tuple_tup, ty_tuple_lst, ty_list_non, ty_list_bl, ty_list_int, ty_list_str, ty_list_tup, ty_list_lst, d_eqb, d_isn, d_isi, d_isb, d_iss, d_ist, d_isl, d_insn, d_insi, d_inst, d_insl, p_int_b, t_tup, compL_nil, compL_cons, cC_some, cC_none, cK_ok, cN_ok, forL_nil, forL_cons, foR_nx, foR_ct, foR_bk, foR_rt, foR_ex, seq_l, seq_t, enu_l, enu_t, ev_dcomp, dcF_nm, evI_items, agS_int, x_augi, x_ins, x_asgPop, setTg_tpl, forB_tp2l, forB_tp3l, d_isbb, d_insbb, d_isdK, p_lendK, p_lendT, ty_bool_dK, ty_int_dK, ty_str_dK, ty_tuple_dK, ty_list_dK, ms_i1, ms_i2, ms_g2, ms_g1, calR_n, calR_in, calR_bl, ix_pb0, ix_pb1, ix_pb2, ix_pb3, ix_su0, ix_su1, ix_su2, $xs,*])
local macro_rules
  | `(tactic| simp_arith [$xs,*] at $h:ident) => `(tactic| simp -implicitDefEqProofs (disch := first | omega | (simp only [List.length_append, List.length_map, List.length_range, List.length_range', List.length_nil, List.length_cons, List.length_singleton, List.length_zipIdx] <;> omega)) only [gv0, gvS, go0, goS, ev_var, ev_own, ev_non, ev_bl, ev_int, ev_str, ev_glb, ev_tup, ev_lst, ev_dK0, ev_dT0, ev_bin, ev_cat, ev_rep, negR_int, ev_neg, notR_bl, ev_not, blR_some, ev_cmp, chR_t, chR_f, ev_chn, ev_and, ev_or, bR_bl, anR_t, anR_f, anR_b, orR_t, orR_f, orR_b, and_one, and_more, or_one, or_more, ev_ife, ev_idx, ev_slc, ev_rev, calR_f, calR_ok, calR_ex, ev_call, ev_prim, ev_mth, ev_isi, ev_srtset, ev_lrng, ev_comp, ev_newc, evs_nil, evs_cons, inR_int, evo_no, evo_so, evI_seq, evI_rng, evI_enum, tv_not, tv_and, tv_or, tv_var, tv_own, tv_non, tv_bl, tv_int, tv_cmp, tv_chn, tv_call, tv_prim, tv_isi, tv_idx, tv_mth, tv_ife, tv_comp, tv_slc, tv_bin, tand_one, tand_more, tor_one, tor_more, b_ok, b_ex, l_some, s_ok, s_ex, q_nx, q_rt, q_bk, q_ct, q_ex, n_some, f_nx, f_rt, f_ex, fr_f, fr_t, fr_k, x_asg, x_asgF, x_frz, onL0, onLS, x_app, x_ext, x_ex, x_ret, x_retN, x_cont, x_brk, x_rais, x_ite, x_for, x_whl, xs_nil, xs_cons, forB_nm, setTg_nm, setTg_tp, setTp_nil, setTp_cons, sl0, slS, w_nil, w_cons, ow0, owS, ob, om, st_e, frR_some, frz_eq, x_setg, x_seti, oc0, ocS, x_appPop, ol0, olS, fl_int, fls_nil, fls_cons, t_bl, t_int, t_non, t_lst, d_add, d_sub, d_mul, d_fdiv, d_mod, d_lt, d_le, d_gt, d_ge, d_eqi, d_nei, p_len, p_lent, p_lens, p_int, p_abs, p_tup, p_tupt, p_list, p_listt, p_min2, p_max2, ix_l, ix_t, ix_s, app_d, ext_l, ext_t, bo_ok (t_bl), bo_ok (t_int), bo_ok (t_lst), notR_of (t_lst), os_eq, Es.hasOwn, List.map_cons, List.map_nil, List.length_cons, List.length_nil, List.replicate_succ, List.replicate_zero, List.cons_append, List.nil_append, Nat.reduceSub, Nat.reduceAdd, Nat.sub_self, reduceIte, Bool.not_true, Bool.not_false, Bool.false_eq_true, Bool.and_self, Bool.and_true, Bool.true_and, Nat.reduceBEq, Nat.reduceEqDiff, cF_no, cF_so, cF2_no, cF2_so, cF3_no, cF3_so, cR_b, q_nil, q_nil2, forB_tp2, forB_tp3, ty_bool_non, ty_bool_bl, ty_bool_int, ty_bool_str, ty_bool_tup, ty_bool_lst, ty_int_non, ty_int_bl, ty_int_int, ty_int_str, ty_int_tup, ty_int_lst, ty_str_non, ty_str_bl, ty_str_int, ty_str_str, ty_str_tup, ty_str_lst, ty_tuple_non, ty_tuple_bl, ty_tuple_int, ty_tuple_str, ty_tuple_tup, ty_tuple_lst, ty_list_non, ty_list_bl, ty_list_int, ty_list_str, ty_list_tup, ty_list_lst, d_eqb, d_isn, d_isi, d_isb, d_iss, d_ist, d_isl, d_insn, d_insi, d_inst, d_insl, p_int_b, t_tup, compL_nil, compL_cons, cC_some, cC_none, cK_ok, cN_ok, forL_nil, forL_cons, foR_nx, foR_ct, foR_bk, foR_rt, foR_ex, seq_l, seq_t, enu_l, enu_t, ev_dcomp, dcF_nm, evI_items, agS_int, x_augi, x_ins, x_asgPop, setTg_tpl, forB_tp2l, forB_tp3l, d_isbb, d_insbb, d_isdK, p_lendK, p_lendT, ty_bool_dK, ty_int_dK, ty_str_dK, ty_tuple_dK, ty_list_dK, ms_i1, ms_i2, ms_g2, ms_g1, calR_n, calR_in, calR_bl, ix_pb0, ix_pb1, ix_pb2, ix_pb3, ix_su0, ix_su1, ix_su2, $xs,*] at $h:ident)
/-! ### events -/
inductive Evt where
  | req (r t : Nat) | read (r t : Nat) | rep (r t : Nat) | val (r t w : Nat) | cmp (w t : Nat) | upd (r t w : Nat) | wr (r t : Nat) | ack (r t : Nat)
  deriving DecidableEq, Inhabited
def evD : Evt → D
  | .req r t => .tup false [.str "request", nD r, nD t]
  | .read r t => .tup false [.str "read", nD r, nD t]
  | .rep r t => .tup false [.str "reply", nD r, nD t]
  | .val r t w => .tup false [.str "value", nD r, nD t, nD w]
  | .cmp w t => .tup false [.str "compute", nD w, nD t]
  | .upd r t w => .tup false [.str "update", nD r, nD t, nD w]
  | .wr r t => .tup false [.str "write", nD r, nD t]
  | .ack r t => .tup false [.str "ack", nD r, nD t]
def handL (q : Pb) (s : Su) (b : Nat) : List (Nat × Nat) := (List.range q.rows.length).flatMap fun r => (usersL q s r b).map fun w => (r, w)
def openL (q : Pb) (s : Su) (f b : Nat) : List Nat := ((staysL q s f).filter fun p => p.2.1 == b).map (·.1)
def closeL (q : Pb) (s : Su) (f b : Nat) : List Nat := ((staysL q s f).filter fun p => p.2.2 == b).map (·.1)
def evOf (q : Pb) (s : Su) (b : Nat) (op cl : List Nat) : List Evt :=
  op.map (.req · b) ++ op.map (.read · b) ++ op.map (.rep · b) ++ (handL q s b).map (fun p => .val p.1 b p.2) ++ (List.range s.tr).map (.cmp · b) ++ (handL q s b).map (fun p => .upd p.1 b p.2) ++ cl.map (.wr · b) ++ cl.map (.ack · b)
def eventsL (q : Pb) (s : Su) (f : Nat) : List Evt := (List.range' f (q.bs.length - f)).flatMap fun b => evOf q s b (openL q s f b) (closeL q s f b)
theorem users_len {q : Pb} {s : Su} (hs : GoodSu s) (r b : Nat) : (usersL q s r b).length ≤ 4 := by
  have h1 := List.length_filter_le (fun t => looks (partL (bat q b) s.tr t) r) (List.range s.tr)
  rw [List.length_range] at h1
  have := hs.t4
  unfold usersL; omega
theorem hand_len {q : Pb} {s : Su} (hq : GoodP q) (hs : GoodSu s) (b : Nat) : (handL q s b).length ≤ 80 := by
  have := flat_len (fun r => (usersL q s r b).map fun w => (r, w)) 4 (List.range q.rows.length) fun r _ => by
    rw [List.length_map]
    exact users_len hs r b
  rw [List.length_range] at this
  have h := hq.r20
  unfold handL
  omega
theorem open_len {q : Pb} {s : Su} (hq : GoodP q) (f b : Nat) : (openL q s f b).length ≤ 400 := by
  unfold openL
  rw [List.length_map]
  exact Nat.le_trans (List.length_filter_le _ _) (stays_len hq)
theorem close_len {q : Pb} {s : Su} (hq : GoodP q) (f b : Nat) : (closeL q s f b).length ≤ 400 := by
  unfold closeL
  rw [List.length_map]
  exact Nat.le_trans (List.length_filter_le _ _) (stays_len hq)
theorem evOf_len {q : Pb} {s : Su} (hq : GoodP q) (hs : GoodSu s) (b : Nat) {op cl : List Nat} (ho : op.length ≤ 400) (hc : cl.length ≤ 400) : (evOf q s b op cl).length ≤ 2200 := by
  have := hand_len hq hs b
  have := hs.t4
  unfold evOf
  simp only [List.length_append, List.length_map, List.length_range]
  omega
theorem events_len {q : Pb} {s : Su} (hq : GoodP q) (hs : GoodSu s) (f : Nat) : (eventsL q s f).length ≤ 44000 := by
  have := flat_len (fun b => evOf q s b (openL q s f b) (closeL q s f b)) 2200 (List.range' f (q.bs.length - f)) fun b _ => evOf_len hq hs b (open_len hq f b) (close_len hq f b)
  rw [List.length_range'] at this
  have h := hq.b20
  unfold eventsL
  omega
section
variable {n : Nat} {G : Gs} {q : Pb} {s : Su}
theorem handovers_eq {b : Nat} (hq : GoodP q) (hs : GoodSu s) (hb : b < q.bs.length) : callN Pr (n + 3) "handovers" [pbD q, suD s, nD b] G = .ok (.lst ((handL q s b).map prD)) G := by
  have hr := hq.r20
  rw [call_eq P_handovers rfl]
  simp_arith [d_handovers, List.length_map, rngN q.rows.length (by omega)]
  rw [for_acc _ 3 [] (fun r : Nat => (usersL q s r b).map fun w => prD (r, w)) (List.range q.rows.length) 4 rfl (fun r _ => by rw [List.length_map]; exact users_len hs r b) (by simp; omega)]
  · simp_arith [handL, List.map_flatMap, List.map_map]
    rfl
  · intro r hr acc hl
    have e1 := users_eq (n := n) (G := G) (r := r) hq hs hb
    simp_arith [d_handovers_b0, e1]
    rw [compL_map (fun w : Nat => prD (r, w))]
    · simp_arith [ext_l hl]
      exact nx_nx ⟨rfl, rfl⟩
    · intro w hw
      simp_arith [d_handovers_e1, prD]
theorem events_of_eq {b : Nat} {op cl : List Nat} (hq : GoodP q) (hs : GoodSu s) (hb : b < q.bs.length) (ho : op.length ≤ 400) (hc : cl.length ≤ 400) :
    callN Pr (n + 4) "events_of" [pbD q, suD s, nD b, .lst (op.map nD), .lst (cl.map nD)] G = .ok (.lst ((evOf q s b op cl).map evD)) G := by
  have hh := hand_len hq hs b
  have h4 := hs.t4
  rw [call_eq P_events_of rfl]
  have c1 : ∀ (x k : Str) (acc : List D), compL (compF (callN Pr (n + 3)) (.nm 8 x) d_events_of_e1 .no [8] [.val (pbD q), .val (suD s), .val (nD b), .val (.lst (op.map nD)), .val (.lst (cl.map nD)), .own (.lst acc), .val (.str k), .un, .un, .un]) (op.map nD) G = .ok (op.map fun r => .tup false [.str k, nD r, nD b]) G := fun x k acc => compL_map _ _ fun r _ => by simp_arith [d_events_of_e1]
  have c2 : ∀ (x k : Str) (acc : List D) (hs : Sl), compL (compF (callN Pr (n + 3)) (.nm 8 x) d_events_of_e6 .no [8] [.val (pbD q), .val (suD s), .val (nD b), .val (.lst (op.map nD)), .val (.lst (cl.map nD)), .own (.lst acc), .val (.str k), hs, .un, .un]) (cl.map nD) G = .ok (cl.map fun r => .tup false [.str k, nD r, nD b]) G := fun x k acc hs => compL_map _ _ fun r _ => by simp_arith [d_events_of_e6]
  have c3 : ∀ (x y : Str) (acc : List D) (k hs : Sl), compL (compF (callN Pr (n + 3)) (.tp [(8, x), (9, y)]) d_events_of_e2 .no [8, 9] [.val (pbD q), .val (suD s), .val (nD b), .val (.lst (op.map nD)), .val (.lst (cl.map nD)), .own (.lst acc), k, hs, .un, .un]) ((handL q s b).map prD) G = .ok ((handL q s b).map fun p => evD (.val p.1 b p.2)) G := fun x y acc k hs => compL_map _ _ fun p _ => by simp_arith [d_events_of_e2, prD, evD]
  have c4 : ∀ (x y : Str) (acc : List D) (k hs : Sl), compL (compF (callN Pr (n + 3)) (.tp [(8, x), (9, y)]) d_events_of_e4 .no [8, 9] [.val (pbD q), .val (suD s), .val (nD b), .val (.lst (op.map nD)), .val (.lst (cl.map nD)), .own (.lst acc), k, hs, .un, .un]) ((handL q s b).map prD) G = .ok ((handL q s b).map fun p => evD (.upd p.1 b p.2)) G := fun x y acc k hs => compL_map _ _ fun p _ => by simp_arith [d_events_of_e4, prD, evD]
  have c5 : ∀ (x : Str) (acc : List D) (k hs : Sl), compL (compF (callN Pr (n + 3)) (.nm 9 x) d_events_of_e3 .no [9] [.val (pbD q), .val (suD s), .val (nD b), .val (.lst (op.map nD)), .val (.lst (cl.map nD)), .own (.lst acc), k, hs, .un, .un]) ((List.range s.tr).map nD) G = .ok ((List.range s.tr).map fun w => evD (.cmp w b)) G := fun x acc k hs => compL_map _ _ fun p _ => by simp_arith [d_events_of_e3, evD]
  have e1 := handovers_eq (n := n) (G := G) hq hs hb
  simp_arith [d_events_of, d_events_of_b0, d_events_of_b5, c1, c2, c3, c4, c5, e1, rngN s.tr (by omega)]
  simp only [evOf, List.map_append, List.map_map, List.append_assoc]
  rfl
theorem openL_eq {f b : Nat} {g : D → Gs → Res (Option D)} (h : ∀ p : Nat × Nat × Nat, g (stD3 p) G = .ok (if (p.2.1 == b) = true then some (nD p.1) else none) G) : compL g ((staysL q s f).map stD3) G = .ok ((openL q s f b).map nD) G := by
  rw [compL_fm (fun p : Nat × Nat × Nat => p.2.1 == b) (fun p => nD p.1) _ fun p _ => h p]
  unfold openL
  rw [List.map_map]; rfl
theorem closeL_eq {f b : Nat} {g : D → Gs → Res (Option D)} (h : ∀ p : Nat × Nat × Nat, g (stD3 p) G = .ok (if (p.2.2 == b) = true then some (nD p.1) else none) G) : compL g ((staysL q s f).map stD3) G = .ok ((closeL q s f b).map nD) G := by
  rw [compL_fm (fun p : Nat × Nat × Nat => p.2.2 == b) (fun p => nD p.1) _ fun p _ => h p]
  unfold closeL
  rw [List.map_map]; rfl
theorem events_eq {f : Nat} (hq : GoodP q) (hs : GoodSu s) (hf : f ≤ 1000) : callN Pr (n + 5) "events" [pbD q, suD s, nD f] G = .ok (.tup true ((eventsL q s f).map evD)) G := by
  have hb20 := hq.b20
  rw [call_eq P_events rfl]
  have e1 := stays_eq (n := n) (G := G) (s := s) hq hf
  simp_arith [d_events, e1, List.length_map, rng2N f q.bs.length (by omega) (by omega)]
  rw [for_acc _ 3 [] (fun b : Nat => (evOf q s b (openL q s f b) (closeL q s f b)).map evD) (List.range' f (q.bs.length - f)) 2200 rfl (fun b _ => by
    rw [List.length_map]
    exact evOf_len hq hs b (open_len hq f b) (close_len hq f b)) (by simp; omega)]
  · simp_arith [eventsL, List.map_flatMap]
  · intro b hb acc hl
    have hb : b < q.bs.length := by
      rw [List.mem_range'_1] at hb; omega
    have e2 := events_of_eq (n := n) (G := G) hq hs hb (open_len (s := s) hq f b) (close_len (s := s) hq f b)
    simp_arith [d_events_b0]
    rw [openL_eq (b := b)]
    · simp_arith []
      rw [closeL_eq (b := b)]
      · simp_arith [e2, ext_l hl]
        exact nx_nx ⟨rfl, rfl⟩
      · intro p
        simp_arith [stD3, d_events_e3, d_events_c4, nbeq, cif]
    · intro p
      simp_arith [stD3, d_events_e1, d_events_c2, nbeq, cif]
end
end CM

namespace CM
open PySem hiding exec execs start
open PySem.Spec PyProof.Rows L2 MP
local macro_rules
  | `(tactic| simp_arith [$xs,*]) => `(tactic| simp -implicitDefEqProofs (disch := first | omega | (simp only [List.length_append, List.length_map, List.length_range, List.length_range', List.length_nil, List.length_cons, List.length_singleton, List.length_zipIdx] <;> omega)) only [gv0, gvS, go0, goS, ev_var, ev_own, ev_non, ev_bl, ev_int, ev_str, ev_glb, ev_tup, ev_lst, ev_dK0, ev_dT0, ev_bin, ev_cat, ev_rep, negR_int, ev_neg, notR_bl, ev_not, blR_some, ev_cmp, chR_t, chR_f, ev_chn, ev_and, ev_or, bR_bl, anR_t, anR_f, anR_b, orR_t, orR_f, orR_b, and_one, and_more, or_one, or_more, ev_ife, ev_idx, ev_slc, ev_rev, calR_f, calR_ok, calR_ex, ev_call, ev_prim, ev_mth, ev_isi, ev_srtset, ev_lrng, ev_comp, ev_newc, evs_nil, evs_cons, inR_int, evo_no, evo_so, evI_seq, evI_rng, evI_enum, tv_not, tv_and, tv_or, tv_var, tv_own, tv_non, tv_bl, tv_int, tv_cmp, tv_chn, tv_call, tv_prim, tv_isi, tv_idx, tv_mth, tv_ife, tv_comp, tv_slc, tv_bin, tand_one, tand_more, tor_one, tor_more, b_ok, b_ex, l_some, s_ok, s_ex, q_nx, q_rt, q_bk, q_ct, q_ex, n_some, f_nx, f_rt, f_ex, fr_f, fr_t, fr_k, x_asg, x_asgF, x_frz, onL0, onLS, x_app, x_ext, x_ex, x_ret, x_retN, x_cont, x_brk, x_rais, x_ite, x_for, x_whl, xs_nil, xs_cons, forB_nm, setTg_nm, setTg_tp, setTp_nil, setTp_cons, sl0, slS, w_nil, w_cons, ow0, owS, ob, om, st_e, frR_some, frz_eq, x_setg, x_seti, oc0, ocS, x_appPop, ol0, olS, fl_int, fls_nil, fls_cons, t_bl, t_int, t_non, t_lst, d_add, d_sub, d_mul, d_fdiv, d_mod, d_lt, d_le, d_gt, d_ge, d_eqi, d_nei, p_len, p_lent, p_lens, p_int, p_abs, p_tup, p_tupt, p_list, p_listt, p_min2, p_max2, ix_l, ix_t, ix_s, app_d, ext_l, ext_t, bo_ok (t_bl), bo_ok (t_int), bo_ok (t_lst), notR_of (t_lst), os_eq, Es.hasOwn, List.map_cons, List.map_nil, List.length_cons, List.length_nil, List.replicate_succ, List.replicate_zero, List.cons_append, List.nil_append, Nat.reduceSub, Nat.reduceAdd, Nat.sub_self, reduceIte, Bool.not_true, Bool.not_false, Bool.false_eq_true, Bool.and_self, Bool.and_true, Bool.true_and, Nat.reduceBEq, Nat.reduceEqDiff, cF_no, cF_so, cF2_no, cF2_so, cF3_no, cF3_so, cR_b, q_nil, q_nil2, forB_tp2, forB_tp3, ty_bool_non, ty_bool_bl, ty_bool_int, ty_bool_str, ty_bool_tup, ty_bool_lst, ty_int_non, ty_int_bl, ty_int_int, ty_int_str, ty_int_tup, ty_int_lst, ty_str_non, ty_str_bl, ty_str_int, ty_str_str, ty_str_tup, ty_str_lst, ty_tuple_non, ty_tuple_bl, ty_tuple_int, ty_tuple_str, ty_tuple_tup, ty_tuple_lst, ty_list_non, ty_list_bl, ty_list_int, ty_list_str, ty_list_tup, ty_list_lst, d_eqb, d_isn, d_isi, d_isb, d_iss, d_ist, d_isl, d_insn, d_insi, d_inst, d_insl, p_int_b, t_tup, compL_nil, compL_cons, cC_some, cC_none, cK_ok, cN_ok, forL_nil, forL_cons, foR_nx, foR_ct, foR_bk, foR_rt, foR_ex, seq_l, seq_t, enu_l, enu_t, ev_dcomp, dcF_nm, evI_items, agS_int, x_augi, x_ins, x_asgPop, setTg_tpl, forB_tp2l, forB_tp3l, d_isbb, d_insbb, d_isdK, p_lendK, p_lendT, ty_bool_dK, ty_int_dK, ty_str_dK, ty_tuple_dK, ty_list_dK, ms_i1, ms_i2, ms_g2, ms_g1, calR_n, calR_in, calR_bl, ix_pb0, ix_pb1, ix_pb2, ix_pb3, ix_su0, ix_su1, ix_su2, $xs,*])
local macro_rules
  | `(tactic| simp_arith [$xs,*] at $h:ident) => `(tactic| simp -implicitDefEqProofs (disch := first | omega | (simp only [List.length_append, List.length_map, List.length_range, List.length_range', List.length_nil, List.length_cons, List.length_singleton, List.length_zipIdx] <;> omega)) only [gv0, gvS, go0, goS, ev_var, ev_own, ev_non, ev_bl, ev_int, ev_str, ev_glb, ev_tup, ev_lst, ev_dK0, ev_dT0, ev_bin, ev_cat, ev_rep, negR_int, ev_neg, notR_bl, ev_not, blR_some, ev_cmp, chR_t, chR_f, ev_chn, ev_and, ev_or, bR_bl, anR_t, anR_f, anR_b, orR_t, orR_f, orR_b, and_one, and_more, or_one, or_more, ev_ife, ev_idx, ev_slc, ev_rev, calR_f, calR_ok, calR_ex, ev_call, ev_prim, ev_mth, ev_isi, ev_srtset, ev_lrng, ev_comp, ev_newc, evs_nil, evs_cons, inR_int, evo_no, evo_so, evI_seq, evI_rng, evI_enum, tv_not, tv_and, tv_or, tv_var, tv_own, tv_non, tv_bl, tv_int, tv_cmp, tv_chn, tv_call, tv_prim, tv_isi, tv_idx, tv_mth, tv_ife, tv_comp, tv_slc, tv_bin, tand_one, tand_more, tor_one, tor_more, b_ok, b_ex, l_some, s_ok, s_ex, q_nx, q_rt, q_bk, q_ct, q_ex, n_some, f_nx, f_rt, f_ex, fr_f, fr_t, fr_k, x_asg, x_asgF, x_frz, onL0, onLS, x_app, x_ext, x_ex, x_ret, x_retN, x_cont, x_brk, x_rais, x_ite, x_for, x_whl, xs_nil, xs_cons, forB_nm, setTg_nm, setTg_tp, setTp_nil, setTp_cons, sl0, slS, w_nil, w_cons, ow0, owS, ob, om, st_e, frR_some, frz_eq, x_setg, x_seti, oc0, ocS, x_appPop, ol0, olS, fl_int, fls_nil, fls_cons, t_bl, t_int, t_non, t_lst, d_add, d_sub, d_mul, d_fdiv, d_mod, d_lt, d_le, d_gt, d_ge, d_eqi, d_nei, p_len, p_lent, p_lens, p_int, p_abs, p_tup, p_tupt, p_list, p_listt, p_min2, p_max2, ix_l, ix_t, ix_s, app_d, ext_l, ext_t, bo_ok (t_bl), bo_ok (t_int), bo_ok (t_lst), notR_of (t_lst), os_eq, Es.hasOwn, List.map_cons, List.map_nil, List.length_cons, List.length_nil, List.replicate_succ, List.replicate_zero, List.cons_append, List.nil_append, Nat.reduceSub, Nat.reduceAdd, Nat.sub_self, reduceIte, Bool.not_true, Bool.not_false, Bool.false_eq_true, Bool.and_self, Bool.and_true, Bool.true_and, Nat.reduceBEq, Nat.reduceEqDiff, cF_no, cF_so, cF2_no, cF2_so, cF3_no, cF3_so, cR_b, q_nil, q_nil2, forB_tp2, forB_tp3, ty_bool_non, ty_bool_bl, ty_bool_int, ty_bool_str, ty_bool_tup, ty_bool_lst, ty_int_non, ty_int_bl, ty_int_int, ty_int_str, ty_int_tup, ty_int_lst, ty_str_non, ty_str_bl, ty_str_int, ty_str_str, ty_str_tup, ty_str_lst, ty_tuple_non, ty_tuple_bl, ty_tuple_int, ty_tuple_str, ty_tuple_tup, ty_tuple_lst, ty_list_non, ty_list_bl, ty_list_int, ty_list_str, ty_list_tup, ty_list_lst, d_eqb, d_isn, d_isi, d_isb, d_iss, d_ist, d_isl, d_insn, d_insi, d_inst, d_insl, p_int_b, t_tup, compL_nil, compL_cons, cC_some, cC_none, cK_ok, cN_ok, forL_nil, forL_cons, foR_nx, foR_ct, foR_bk, foR_rt, foR_ex, seq_l, seq_t, enu_l, enu_t, ev_dcomp, dcF_nm, evI_items, agS_int, x_augi, x_ins, x_asgPop, setTg_tpl, forB_tp2l, forB_tp3l, d_isbb, d_insbb, d_isdK, p_lendK, p_lendT, ty_bool_dK, ty_int_dK, ty_str_dK, ty_tuple_dK, ty_list_dK, ms_i1, ms_i2, ms_g2, ms_g1, calR_n, calR_in, calR_bl, ix_pb0, ix_pb1, ix_pb2, ix_pb3, ix_su0, ix_su1, ix_su2, $xs,*] at $h:ident)
section
variable {n : Nat} {G : Gs} {q : Pb} {s : Su}
theorem law_events_eq {f : Nat} (hq : GoodP q) (hs : GoodSu s) (hf : f ≤ 1000) : callN Pr (n + 4) "_law_events" [pbD q, suD s, nD f] G = .ok (.tup true ((eventsL q s f).map evD)) G := by
  have hb20 := hq.b20
  have hr := hq.r20
  have h4 := hs.t4
  rw [call_eq P_law_events rfl]
  have e1 := law_stays_eq (n := n) (G := G) (s := s) hq hf
  simp_arith [d_law_events, e1, List.length_map, rng2N f q.bs.length (by omega) (by omega)]
  rw [for_acc _ 4 [] (fun b : Nat => (evOf q s b (openL q s f b) (closeL q s f b)).map evD) (List.range' f (q.bs.length - f)) 2200 rfl (fun b _ => by
    rw [List.length_map]
    exact evOf_len hq hs b (open_len hq f b) (close_len hq f b)) (by simp; omega)]
  · simp_arith [eventsL, List.map_flatMap]
  · intro b hb acc hl
    have hb : b < q.bs.length := by
      rw [List.mem_range'_1] at hb; omega
    have hl2 : acc.length + (3 * (openL q s f b).length + 2 * (handL q s b).length + s.tr + 2 * (closeL q s f b).length) < 1000000 := by
      rw [List.length_map] at hl
      unfold evOf at hl
      simp only [List.length_append, List.length_map, List.length_range] at hl
      omega
    simp_arith [d_law_events_b0]
    rw [openL_eq (b := b)]
    · simp_arith []
      rw [closeL_eq (b := b)]
      · simp_arith [List.length_map, rngN q.rows.length (by omega)]
        rw [for_acc _ 8 [] (fun r : Nat => (usersL q s r b).map fun w => prD (r, w)) (List.range q.rows.length) 4 rfl (fun r _ => by rw [List.length_map]; exact users_len hs r b) (by simp; omega)]
        · have hd : ((List.range q.rows.length).flatMap fun r : Nat => (usersL q s r b).map fun w => prD (r, w)) = (handL q s b).map prD := by
            unfold handL
            rw [List.map_flatMap]
            simp only [List.map_map]
            rfl
          rw [hd]
          have c1 : ∀ (x k : Str) (A B C : Sl), compL (compF (callN Pr (n + 3)) (.nm 9 x) d_law_events_e8 .no [9] [.val (pbD q), .val (suD s), .val (nD f), A, B, .val (nD b), .val (.lst ((openL q s f b).map nD)), .val (.lst ((closeL q s f b).map nD)), C, .un, .val (.str k), .un, .un, .un]) ((openL q s f b).map nD) G = .ok ((openL q s f b).map fun r => .tup false [.str k, nD r, nD b]) G := fun x k A B C => compL_map _ _ fun r _ => by simp_arith [d_law_events_e8]
          have c2 : ∀ (x k : Str) (A B C : Sl), compL (compF (callN Pr (n + 3)) (.nm 9 x) d_law_events_e13 .no [9] [.val (pbD q), .val (suD s), .val (nD f), A, B, .val (nD b), .val (.lst ((openL q s f b).map nD)), .val (.lst ((closeL q s f b).map nD)), C, .un, .val (.str k), .un, .un, .un]) ((closeL q s f b).map nD) G = .ok ((closeL q s f b).map fun r => .tup false [.str k, nD r, nD b]) G := fun x k A B C => compL_map _ _ fun r _ => by simp_arith [d_law_events_e13]
          have c3 : ∀ (x y : Str) (A B C H I J K : Sl), compL (compF (callN Pr (n + 3)) (.tp [(9, x), (13, y)]) d_law_events_e9 .no [9, 13] [.val (pbD q), .val (suD s), .val (nD f), A, B, .val (nD b), C, H, I, .un, J, K, .un, .un]) ((handL q s b).map prD) G = .ok ((handL q s b).map fun p => evD (.val p.1 b p.2)) G := fun x y A B C H I J K => compL_map _ _ fun p _ => by simp_arith [d_law_events_e9, prD, evD]
          have c4 : ∀ (x y : Str) (A B C H I J K : Sl), compL (compF (callN Pr (n + 3)) (.tp [(9, x), (13, y)]) d_law_events_e11 .no [9, 13] [.val (pbD q), .val (suD s), .val (nD f), A, B, .val (nD b), C, H, I, .un, J, K, .un, .un]) ((handL q s b).map prD) G = .ok ((handL q s b).map fun p => evD (.upd p.1 b p.2)) G := fun x y A B C H I J K => compL_map _ _ fun p _ => by simp_arith [d_law_events_e11, prD, evD]
          have c5 : ∀ (x : Str) (A B C H I J K : Sl), compL (compF (callN Pr (n + 3)) (.nm 13 x) d_law_events_e10 .no [13] [.val (pbD q), .val (suD s), .val (nD f), A, B, .val (nD b), C, H, I, .un, J, K, .un, .un]) ((List.range s.tr).map nD) G = .ok ((List.range s.tr).map fun w => evD (.cmp w b)) G := fun x A B C H I J K => compL_map _ _ fun p _ => by simp_arith [d_law_events_e10, evD]
          simp_arith [d_law_events_b7, d_law_events_b12, c1, c2, c3, c4, c5, rngN s.tr (by omega)]
          refine nx_nx ⟨rfl, ?_⟩
          simp_arith [evOf, List.map_append, List.map_map, List.append_assoc]
          rfl
        · intro r hr acc2 hl3
          have e1 := law_users_eq (n := n + 1) (G := G) (r := r) hq hs hb
          simp_arith [d_law_events_b5, e1]
          rw [compL_map (fun w : Nat => prD (r, w))]
          · simp_arith [ext_l hl3]
            exact nx_nx ⟨rfl, rfl⟩
          · intro w hw
            simp_arith [d_law_events_e6, prD]
      · intro p
        simp_arith [stD3, d_law_events_e3, d_law_events_c4, nbeq, cif]
    · intro p
      simp_arith [stD3, d_law_events_e1, d_law_events_c2, nbeq, cif]
end
end CM

namespace CM
open PySem hiding exec execs start
open PySem.Spec PyProof.Rows L2 MP
theorem kq_0_0 : cmpD .eq (.str "request") (.str "request") = some true := by decide +kernel
theorem kq_0_1 : cmpD .eq (.str "request") (.str "read") = some false := by decide +kernel
theorem kq_0_2 : cmpD .eq (.str "request") (.str "reply") = some false := by decide +kernel
theorem kq_0_3 : cmpD .eq (.str "request") (.str "value") = some false := by decide +kernel
theorem kq_0_4 : cmpD .eq (.str "request") (.str "compute") = some false := by decide +kernel
theorem kq_0_5 : cmpD .eq (.str "request") (.str "update") = some false := by decide +kernel
theorem kq_0_6 : cmpD .eq (.str "request") (.str "write") = some false := by decide +kernel
theorem kq_0_7 : cmpD .eq (.str "request") (.str "ack") = some false := by decide +kernel
theorem kq_1_0 : cmpD .eq (.str "read") (.str "request") = some false := by decide +kernel
theorem kq_1_1 : cmpD .eq (.str "read") (.str "read") = some true := by decide +kernel
theorem kq_1_2 : cmpD .eq (.str "read") (.str "reply") = some false := by decide +kernel
theorem kq_1_3 : cmpD .eq (.str "read") (.str "value") = some false := by decide +kernel
theorem kq_1_4 : cmpD .eq (.str "read") (.str "compute") = some false := by decide +kernel
theorem kq_1_5 : cmpD .eq (.str "read") (.str "update") = some false := by decide +kernel
theorem kq_1_6 : cmpD .eq (.str "read") (.str "write") = some false := by decide +kernel
theorem kq_1_7 : cmpD .eq (.str "read") (.str "ack") = some false := by decide +kernel
theorem kq_2_0 : cmpD .eq (.str "reply") (.str "request") = some false := by decide +kernel
theorem kq_2_1 : cmpD .eq (.str "reply") (.str "read") = some false := by decide +kernel
theorem kq_2_2 : cmpD .eq (.str "reply") (.str "reply") = some true := by decide +kernel
theorem kq_2_3 : cmpD .eq (.str "reply") (.str "value") = some false := by decide +kernel
theorem kq_2_4 : cmpD .eq (.str "reply") (.str "compute") = some false := by decide +kernel
theorem kq_2_5 : cmpD .eq (.str "reply") (.str "update") = some false := by decide +kernel
theorem kq_2_6 : cmpD .eq (.str "reply") (.str "write") = some false := by decide +kernel
theorem kq_2_7 : cmpD .eq (.str "reply") (.str "ack") = some false := by decide +kernel
theorem kq_3_0 : cmpD .eq (.str "value") (.str "request") = some false := by decide +kernel
theorem kq_3_1 : cmpD .eq (.str "value") (.str "read") = some false := by decide +kernel
theorem kq_3_2 : cmpD .eq (.str "value") (.str "reply") = some false := by decide +kernel
theorem kq_3_3 : cmpD .eq (.str "value") (.str "value") = some true := by decide +kernel
theorem kq_3_4 : cmpD .eq (.str "value") (.str "compute") = some false := by decide +kernel
theorem kq_3_5 : cmpD .eq (.str "value") (.str "update") = some false := by decide +kernel
theorem kq_3_6 : cmpD .eq (.str "value") (.str "write") = some false := by decide +kernel
theorem kq_3_7 : cmpD .eq (.str "value") (.str "ack") = some false := by decide +kernel
theorem kq_4_0 : cmpD .eq (.str "compute") (.str "request") = some false := by decide +kernel
theorem kq_4_1 : cmpD .eq (.str "compute") (.str "read") = some false := by decide +kernel
theorem kq_4_2 : cmpD .eq (.str "compute") (.str "reply") = some false := by decide +kernel
theorem kq_4_3 : cmpD .eq (.str "compute") (.str "value") = some false := by decide +kernel
theorem kq_4_4 : cmpD .eq (.str "compute") (.str "compute") = some true := by decide +kernel
theorem kq_4_5 : cmpD .eq (.str "compute") (.str "update") = some false := by decide +kernel
theorem kq_4_6 : cmpD .eq (.str "compute") (.str "write") = some false := by decide +kernel
theorem kq_4_7 : cmpD .eq (.str "compute") (.str "ack") = some false := by decide +kernel
theorem kq_5_0 : cmpD .eq (.str "update") (.str "request") = some false := by decide +kernel
theorem kq_5_1 : cmpD .eq (.str "update") (.str "read") = some false := by decide +kernel
theorem kq_5_2 : cmpD .eq (.str "update") (.str "reply") = some false := by decide +kernel
theorem kq_5_3 : cmpD .eq (.str "update") (.str "value") = some false := by decide +kernel
theorem kq_5_4 : cmpD .eq (.str "update") (.str "compute") = some false := by decide +kernel
theorem kq_5_5 : cmpD .eq (.str "update") (.str "update") = some true := by decide +kernel
theorem kq_5_6 : cmpD .eq (.str "update") (.str "write") = some false := by decide +kernel
theorem kq_5_7 : cmpD .eq (.str "update") (.str "ack") = some false := by decide +kernel
theorem kq_6_0 : cmpD .eq (.str "write") (.str "request") = some false := by decide +kernel
theorem kq_6_1 : cmpD .eq (.str "write") (.str "read") = some false := by decide +kernel
theorem kq_6_2 : cmpD .eq (.str "write") (.str "reply") = some false := by decide +kernel
theorem kq_6_3 : cmpD .eq (.str "write") (.str "value") = some false := by decide +kernel
theorem kq_6_4 : cmpD .eq (.str "write") (.str "compute") = some false := by decide +kernel
theorem kq_6_5 : cmpD .eq (.str "write") (.str "update") = some false := by decide +kernel
theorem kq_6_6 : cmpD .eq (.str "write") (.str "write") = some true := by decide +kernel
theorem kq_6_7 : cmpD .eq (.str "write") (.str "ack") = some false := by decide +kernel
theorem kq_7_0 : cmpD .eq (.str "ack") (.str "request") = some false := by decide +kernel
theorem kq_7_1 : cmpD .eq (.str "ack") (.str "read") = some false := by decide +kernel
theorem kq_7_2 : cmpD .eq (.str "ack") (.str "reply") = some false := by decide +kernel
theorem kq_7_3 : cmpD .eq (.str "ack") (.str "value") = some false := by decide +kernel
theorem kq_7_4 : cmpD .eq (.str "ack") (.str "compute") = some false := by decide +kernel
theorem kq_7_5 : cmpD .eq (.str "ack") (.str "update") = some false := by decide +kernel
theorem kq_7_6 : cmpD .eq (.str "ack") (.str "write") = some false := by decide +kernel
theorem kq_7_7 : cmpD .eq (.str "ack") (.str "ack") = some true := by decide +kernel
theorem kn_0 : cmpD .ne (.str "request") (.str "compute") = some true := by decide +kernel
theorem kn_1 : cmpD .ne (.str "read") (.str "compute") = some true := by decide +kernel
theorem kn_2 : cmpD .ne (.str "reply") (.str "compute") = some true := by decide +kernel
theorem kn_3 : cmpD .ne (.str "value") (.str "compute") = some true := by decide +kernel
theorem kn_4 : cmpD .ne (.str "compute") (.str "compute") = some false := by decide +kernel
theorem kn_5 : cmpD .ne (.str "update") (.str "compute") = some true := by decide +kernel
theorem kn_6 : cmpD .ne (.str "write") (.str "compute") = some true := by decide +kernel
theorem kn_7 : cmpD .ne (.str "ack") (.str "compute") = some true := by decide +kernel
local macro_rules
  | `(tactic| simp_arith [$xs,*]) => `(tactic| simp -implicitDefEqProofs (disch := first | omega | (simp only [List.length_append, List.length_map, List.length_range, List.length_range', List.length_nil, List.length_cons, List.length_singleton, List.length_zipIdx] <;> omega)) only [gv0, gvS, go0, goS, ev_var, ev_own, ev_non, ev_bl, ev_int, ev_str, ev_glb, ev_tup, ev_lst, ev_dK0, ev_dT0, ev_bin, ev_cat, ev_rep, negR_int, ev_neg, notR_bl, ev_not, blR_some, ev_cmp, chR_t, chR_f, ev_chn, ev_and, ev_or, bR_bl, anR_t, anR_f, anR_b, orR_t, orR_f, orR_b, and_one, and_more, or_one, or_more, ev_ife, ev_idx, ev_slc, ev_rev, calR_f, calR_ok, calR_ex, ev_call, ev_prim, ev_mth, ev_isi, ev_srtset, ev_lrng, ev_comp, ev_newc, evs_nil, evs_cons, inR_int, evo_no, evo_so, evI_seq, evI_rng, evI_enum, tv_not, tv_and, tv_or, tv_var, tv_own, tv_non, tv_bl, tv_int, tv_cmp, tv_chn, tv_call, tv_prim, tv_isi, tv_idx, tv_mth, tv_ife, tv_comp, tv_slc, tv_bin, tand_one, tand_more, tor_one, tor_more, b_ok, b_ex, l_some, s_ok, s_ex, q_nx, q_rt, q_bk, q_ct, q_ex, n_some, f_nx, f_rt, f_ex, fr_f, fr_t, fr_k, x_asg, x_asgF, x_frz, onL0, onLS, x_app, x_ext, x_ex, x_ret, x_retN, x_cont, x_brk, x_rais, x_ite, x_for, x_whl, xs_nil, xs_cons, forB_nm, setTg_nm, setTg_tp, setTp_nil, setTp_cons, sl0, slS, w_nil, w_cons, ow0, owS, ob, om, st_e, frR_some, frz_eq, x_setg, x_seti, oc0, ocS, x_appPop, ol0, olS, fl_int, fls_nil, fls_cons, t_bl, t_int, t_non, t_lst, d_add, d_sub, d_mul, d_fdiv, d_mod, d_lt, d_le, d_gt, d_ge, d_eqi, d_nei, p_len, p_lent, p_lens, p_int, p_abs, p_tup, p_tupt, p_list, p_listt, p_min2, p_max2, ix_l, ix_t, ix_s, app_d, ext_l, ext_t, bo_ok (t_bl), bo_ok (t_int), bo_ok (t_lst), notR_of (t_lst), os_eq, Es.hasOwn, List.map_cons, List.map_nil, List.length_cons, List.length_nil, List.replicate_succ, List.replicate_zero, List.cons_append, List.nil_append, Nat.reduceSub, Nat.reduceAdd, Nat.sub_self, reduceIte, Bool.not_true, Bool.not_false, Bool.false_eq_true, Bool.and_self, Bool.and_true, Bool.true_and, Nat.reduceBEq, Nat.reduceEqDiff, cF_no, cF_so, cF2_no, cF2_so, cF3_no, cF3_so, cR_b, q_nil, q_nil2, forB_tp2, forB_tp3, ty_bool_non, ty_bool_bl, ty_bool_int, ty_bool_str, ty_bool_tup, ty_bool_lst, ty_int_non, ty_int_bl, ty_int_int, ty_int_str, ty_int_tup, ty_int_lst, ty_str_non, ty_str_bl, ty_str_int, ty_str_str, ty_str_tup, ty_str_lst, ty_tuple_non, ty_tuple_bl, ty_tuple_int, ty_tuple_str, ty_tuple_tup, ty_tuple_lst, ty_list_non, ty_list_bl, ty_list_int, ty_list_str, ty_list_tup, ty_list_lst, d_eqb, d_isn, d_isi, d_isb, d_iss, d_ist, d_isl, d_insn, d_insi, d_inst, d_insl, p_int_b, t_tup, compL_nil, compL_cons, cC_some, cC_none, cK_ok, cN_ok, forL_nil, forL_cons, foR_nx, foR_ct, foR_bk, foR_rt, foR_ex, seq_l, seq_t, enu_l, enu_t, ev_dcomp, dcF_nm, evI_items, agS_int, x_augi, x_ins, x_asgPop, setTg_tpl, forB_tp2l, forB_tp3l, d_isbb, d_insbb, d_isdK, p_lendK, p_lendT, ty_bool_dK, ty_int_dK, ty_str_dK, ty_tuple_dK, ty_list_dK, ms_i1, ms_i2, ms_g2, ms_g1, calR_n, calR_in, calR_bl, ix_pb0, ix_pb1, ix_pb2, ix_pb3, ix_su0, ix_su1, ix_su2, kq_0_0, kq_0_1, kq_0_2, kq_0_3, kq_0_4, kq_0_5, kq_0_6, kq_0_7, kq_1_0, kq_1_1, kq_1_2, kq_1_3, kq_1_4, kq_1_5, kq_1_6, kq_1_7, kq_2_0, kq_2_1, kq_2_2, kq_2_3, kq_2_4, kq_2_5, kq_2_6, kq_2_7, kq_3_0, kq_3_1, kq_3_2, kq_3_3, kq_3_4, kq_3_5, kq_3_6, kq_3_7, kq_4_0, kq_4_1, kq_4_2, kq_4_3, kq_4_4, kq_4_5, kq_4_6, kq_4_7, kq_5_0, kq_5_1, kq_5_2, kq_5_3, kq_5_4, kq_5_5, kq_5_6, kq_5_7, kq_6_0, kq_6_1, kq_6_2, kq_6_3, kq_6_4, kq_6_5, kq_6_6, kq_6_7, kq_7_0, kq_7_1, kq_7_2, kq_7_3, kq_7_4, kq_7_5, kq_7_6, kq_7_7, kn_0, kn_1, kn_2, kn_3, kn_4, kn_5, kn_6, kn_7, $xs,*])
local macro_rules
  | `(tactic| simp_arith [$xs,*] at $h:ident) => `(tactic| simp -implicitDefEqProofs (disch := first | omega | (simp only [List.length_append, List.length_map, List.length_range, List.length_range', List.length_nil, List.length_cons, List.length_singleton, List.length_zipIdx] <;> omega)) only [gv0, gvS, go0, goS, ev_var, ev_own, ev_non, ev_bl, ev_int, ev_str, ev_glb, ev_tup, ev_lst, ev_dK0, ev_dT0, ev_bin, ev_cat, ev_rep, negR_int, ev_neg, notR_bl, ev_not, blR_some, ev_cmp, chR_t, chR_f, ev_chn, ev_and, ev_or, bR_bl, anR_t, anR_f, anR_b, orR_t, orR_f, orR_b, and_one, and_more, or_one, or_more, ev_ife, ev_idx, ev_slc, ev_rev, calR_f, calR_ok, calR_ex, ev_call, ev_prim, ev_mth, ev_isi, ev_srtset, ev_lrng, ev_comp, ev_newc, evs_nil, evs_cons, inR_int, evo_no, evo_so, evI_seq, evI_rng, evI_enum, tv_not, tv_and, tv_or, tv_var, tv_own, tv_non, tv_bl, tv_int, tv_cmp, tv_chn, tv_call, tv_prim, tv_isi, tv_idx, tv_mth, tv_ife, tv_comp, tv_slc, tv_bin, tand_one, tand_more, tor_one, tor_more, b_ok, b_ex, l_some, s_ok, s_ex, q_nx, q_rt, q_bk, q_ct, q_ex, n_some, f_nx, f_rt, f_ex, fr_f, fr_t, fr_k, x_asg, x_asgF, x_frz, onL0, onLS, x_app, x_ext, x_ex, x_ret, x_retN, x_cont, x_brk, x_rais, x_ite, x_for, x_whl, xs_nil, xs_cons, forB_nm, setTg_nm, setTg_tp, setTp_nil, setTp_cons, sl0, slS, w_nil, w_cons, ow0, owS, ob, om, st_e, frR_some, frz_eq, x_setg, x_seti, oc0, ocS, x_appPop, ol0, olS, fl_int, fls_nil, fls_cons, t_bl, t_int, t_non, t_lst, d_add, d_sub, d_mul, d_fdiv, d_mod, d_lt, d_le, d_gt, d_ge, d_eqi, d_nei, p_len, p_lent, p_lens, p_int, p_abs, p_tup, p_tupt, p_list, p_listt, p_min2, p_max2, ix_l, ix_t, ix_s, app_d, ext_l, ext_t, bo_ok (t_bl), bo_ok (t_int), bo_ok (t_lst), notR_of (t_lst), os_eq, Es.hasOwn, List.map_cons, List.map_nil, List.length_cons, List.length_nil, List.replicate_succ, List.replicate_zero, List.cons_append, List.nil_append, Nat.reduceSub, Nat.reduceAdd, Nat.sub_self, reduceIte, Bool.not_true, Bool.not_false, Bool.false_eq_true, Bool.and_self, Bool.and_true, Bool.true_and, Nat.reduceBEq, Nat.reduceEqDiff, cF_no, cF_so, cF2_no, cF2_so, cF3_no, cF3_so, cR_b, q_nil, q_nil2, forB_tp2, forB_tp3, ty_bool_non, ty_bool_bl, ty_bool_int, ty_bool_str, ty_bool_tup, ty_bool_lst, ty_int_non, ty_int_bl, ty_int_int, ty_int_str, ty_int_tup, ty_int_lst, ty_str_non, ty_str_bl, ty_str_int, ty_str_str, ty_str_tup, ty_str_lst, ty_tuple_non, ty_tuple_bl, ty_tuple_int, ty_tuple_str, ty_tuple_tup, ty_tuple_lst, ty_list_non, ty_list_bl, ty_list_int, ty_list_str, ty_list_tup, ty_list_lst, d_eqb, d_isn, d_isi, d_isb, d_iss, d_ist, d_isl, d_insn, d_insi, d_inst, d_insl, p_int_b, t_tup, compL_nil, compL_cons, cC_some, cC_none, cK_ok, cN_ok, forL_nil, forL_cons, foR_nx, foR_ct, foR_bk, foR_rt, foR_ex, seq_l, seq_t, enu_l, enu_t, ev_dcomp, dcF_nm, evI_items, agS_int, x_augi, x_ins, x_asgPop, setTg_tpl, forB_tp2l, forB_tp3l, d_isbb, d_insbb, d_isdK, p_lendK, p_lendT, ty_bool_dK, ty_int_dK, ty_str_dK, ty_tuple_dK, ty_list_dK, ms_i1, ms_i2, ms_g2, ms_g1, calR_n, calR_in, calR_bl, ix_pb0, ix_pb1, ix_pb2, ix_pb3, ix_su0, ix_su1, ix_su2, kq_0_0, kq_0_1, kq_0_2, kq_0_3, kq_0_4, kq_0_5, kq_0_6, kq_0_7, kq_1_0, kq_1_1, kq_1_2, kq_1_3, kq_1_4, kq_1_5, kq_1_6, kq_1_7, kq_2_0, kq_2_1, kq_2_2, kq_2_3, kq_2_4, kq_2_5, kq_2_6, kq_2_7, kq_3_0, kq_3_1, kq_3_2, kq_3_3, kq_3_4, kq_3_5, kq_3_6, kq_3_7, kq_4_0, kq_4_1, kq_4_2, kq_4_3, kq_4_4, kq_4_5, kq_4_6, kq_4_7, kq_5_0, kq_5_1, kq_5_2, kq_5_3, kq_5_4, kq_5_5, kq_5_6, kq_5_7, kq_6_0, kq_6_1, kq_6_2, kq_6_3, kq_6_4, kq_6_5, kq_6_6, kq_6_7, kq_7_0, kq_7_1, kq_7_2, kq_7_3, kq_7_4, kq_7_5, kq_7_6, kq_7_7, kn_0, kn_1, kn_2, kn_3, kn_4, kn_5, kn_6, kn_7, $xs,*] at $h:ident)
/-! ### direct causes, as the program lists them -/
def updsTo (q : Pb) (s : Su) (f : Nat) (j : Int) : List Evt := (List.range' f (j + 1 - f).toNat).flatMap fun b => (handL q s b).map fun p => .upd p.1 b p.2
def useB (q : Pb) (f r b : Nat) : Option Nat := ((usesL q f r).filter (· < b)).getLast?
def reqC (q : Pb) (s : Su) (f r b : Nat) : List Evt := (match useB q f r b with
  | none => []
  | some u => [.ack r u]) ++ updsTo q s f ((b : Int) - s.wn)
def valC (q : Pb) (s : Su) (f r b : Nat) : List Evt := match useB q f r b with
  | none => [.rep r b]
  | some u => if b > u + s.wn then [.rep r b] else (usersL q s r u).map (.upd r u ·)
def cmpC (q : Pb) (s : Su) (f w b : Nat) : List Evt := (if b > f then [.cmp w (b - 1)] else []) ++ ((handL q s b).filter fun p => p.2 == w).map (fun p => .val p.1 b w) ++ updsTo q s f ((b : Int) - s.ld)
def causesL (q : Pb) (s : Su) (f : Nat) : Evt → List Evt
  | .req r t => reqC q s f r t
  | .read r t => [.req r t]
  | .rep r t => [.read r t]
  | .val r t _ => valC q s f r t
  | .cmp w t => cmpC q s f w t
  | .upd _ t w => [.cmp w t]
  | .wr r t => (usersL q s r t).map (.upd r t ·)
  | .ack r t => [.wr r t]
def evT : Evt → Nat
  | .req _ t => t
  | .read _ t => t
  | .rep _ t => t
  | .val _ t _ => t
  | .cmp _ t => t
  | .upd _ t _ => t
  | .wr _ t => t
  | .ack _ t => t
theorem updsTo_len {q : Pb} {s : Su} (hq : GoodP q) (hs : GoodSu s) {f : Nat} {j : Int} (hj : j ≤ 1000) : (updsTo q s f j).length ≤ 100000 := by
  have := flat_len (fun b => (handL q s b).map fun p => Evt.upd p.1 b p.2) 80 (List.range' f (j + 1 - f).toNat) fun b _ => by
    rw [List.length_map]; exact hand_len hq hs b
  rw [List.length_range'] at this
  unfold updsTo
  omega
theorem flats_evs : ∀ l : List Evt, flats (l.map evD) = true
  | [] => rfl
  | e :: l => by
    rw [List.map_cons, fls_cons, flats_evs l]
    cases e <;> rfl
theorem calR_ev {h : Bool} {l : List Evt} {G : Gs} : calR h true (.ok (.lst (l.map evD)) G) = .ok (.lst (l.map evD)) G := calR_ok (flats_evs l)
theorem rng2I (i : Nat) (j : Int) (h : i ≤ 1000000) (h2 : -1000000 ≤ j) (h3 : j ≤ 1000000) : rngItems [.int (i : Int), .int j] = some ((List.range' i (j - i).toNat).map nD) := by
  have hL : (LIM : Int) = 1000000 := rfl
  show (if _ then _ else _) = _
  rw [if_pos ⟨by omega, by omega, by omega, by omega⟩, List.range'_eq_map_range, List.map_map]
  rfl
theorem sl3 {a b c : D} {k : Bool} : slcD none (some 3) (.tup k [a, b, c]) = some (.tup k [a, b, c]) := rfl
theorem sl4 {a b c d : D} {k : Bool} : slcD none (some 3) (.tup k [a, b, c, d]) = some (.tup true [a, b, c]) := rfl
section
variable {n : Nat} {G : Gs} {q : Pb} {s : Su}
theorem updates_until_eq {f : Nat} {j : Int} (hq : GoodP q) (hs : GoodSu s) (hf : f ≤ 1000) (hj : j < q.bs.length) (hj2 : -1000 ≤ j) : callN Pr (n + 4) "updates_until" [pbD q, suD s, nD f, .int j] G = .ok (.lst ((updsTo q s f j).map evD)) G := by
  have hb20 := hq.b20
  rw [call_eq P_updates_until rfl]
  simp_arith [d_updates_until, rng2I f (j + 1) (by omega) (by omega) (by omega)]
  rw [for_acc _ 4 [] (fun b : Nat => (handL q s b).map fun p => evD (.upd p.1 b p.2)) (List.range' f (j + 1 - f).toNat) 80 rfl (fun b _ => by rw [List.length_map]; exact hand_len hq hs b) (by simp; omega)]
  · simp_arith [updsTo, List.map_flatMap, List.map_map]
    rfl
  · intro b hb acc hl
    have hb : b < q.bs.length := by
      rw [List.mem_range'_1] at hb; omega
    have e1 := handovers_eq (n := n) (G := G) hq hs hb
    simp_arith [d_updates_until_b0, e1]
    rw [compL_map (fun p : Nat × Nat => evD (.upd p.1 b p.2))]
    · simp_arith [ext_l hl]
      exact nx_nx ⟨rfl, rfl⟩
    · intro p hp
      simp_arith [prD, d_updates_until_e1, evD]
theorem getLast_at (l : List Nat) (h : l ≠ []) : atI (l.map nD) (-1) = (l.getLast?).map nD := by
  obtain ⟨l, x, rfl⟩ : ∃ l' x, l = l' ++ [x] := ⟨l.dropLast, l.getLast h, (List.dropLast_concat_getLast h).symm⟩
  rw [List.map_append, List.map_cons, List.map_nil, atI_last]
  simp
theorem use_before_eq {f r b : Nat} (hq : GoodP q) (hf : f ≤ 1000) : callN Pr (n + 3) "use_before" [pbD q, nD f, nD r, nD b] G = .ok (oD (useB q f r b)) G := by
  rw [call_eq P_use_before rfl]
  have e1 := uses_eq (n := n) (G := G) (f := f) (r := r) hq hf
  simp_arith [d_use_before, e1]
  rw [compL_fm (fun u : Nat => decide (u < b)) nD]
  · unfold useB
    generalize (usesL q f r).filter (fun u => decide (u < b)) = l
    by_cases h : l = []
    · subst h
      simp_arith [bo_ok t_lst, List.isEmpty_nil]
      rfl
    · have e : (l.map nD).isEmpty = false := by cases l <;> first | exact absurd rfl h | rfl
      obtain ⟨x, hx⟩ : ∃ x, l.getLast? = some x := ⟨_, List.getLast?_eq_getLast h⟩
      have e2 := getLast_at l h
      rw [hx] at e2
      simp only [Option.map_some] at e2
      simp_arith [bo_ok t_lst, e, e2, hx, oD]
  · intro u hu
    simp_arith [d_use_before_c1, d_use_before_e0, nlt, cif]
theorem request_causes_eq {f r b : Nat} (hq : GoodP q) (hs : GoodSu s) (hf : f ≤ 1000) (hb : b < q.bs.length) : callN Pr (n + 5) "request_causes" [pbD q, suD s, nD f, nD r, nD b] G = .ok (.lst ((reqC q s f r b).map evD)) G := by
  rw [call_eq P_request_causes rfl]
  have hb20 := hq.b20
  have hw := hs.w1
  have hw2 := hs.w20
  have e1 := use_before_eq (n := n + 1) (G := G) (f := f) (r := r) (b := b) hq hf
  have e2 := updates_until_eq (n := n) (G := G) (s := s) (f := f) (j := (b : Int) - s.wn) hq hs hf (by omega) (by omega)
  have hl := updsTo_len hq hs (f := f) (j := (b : Int) - s.wn) (by omega)
  unfold reqC
  cases h : useB q f r b with
  | none =>
    rw [h] at e1
    have hc : catD (.lst []) (.lst ((updsTo q s f ((b : Int) - s.wn)).map evD)) = some (.lst ([] ++ (updsTo q s f ((b : Int) - s.wn)).map evD)) := if_pos (by simp [LIM]; omega)
    simp_arith [d_request_causes, e1, oD, bo_ok t_bl, e2, hc]
  | some u =>
    rw [h] at e1
    have hc : catD (.lst [evD (.ack r u)]) (.lst ((updsTo q s f ((b : Int) - s.wn)).map evD)) = some (.lst ([evD (.ack r u)] ++ (updsTo q s f ((b : Int) - s.wn)).map evD)) := if_pos (by simp [LIM]; omega)
    simp only [evD] at hc
    simp_arith [d_request_causes, e1, oD, bo_ok t_bl, e2, hc]
    rfl
theorem useB_lt {f r b u : Nat} (h : useB q f r b = some u) : u < b ∧ u ∈ usesL q f r := by
  unfold useB at h
  have := List.mem_of_getLast? h
  rw [List.mem_filter] at this
  exact ⟨by simpa using this.2, this.1⟩
theorem uses_mem {f r b : Nat} : b ∈ usesL q f r ↔ f ≤ b ∧ b < q.bs.length ∧ looks (bat q b) r = true := by
  unfold usesL
  rw [List.mem_filter, List.mem_range'_1]
  constructor
  · rintro ⟨⟨h1, h2⟩, h3⟩; exact ⟨h1, by omega, h3⟩
  · rintro ⟨h1, h2, h3⟩; exact ⟨⟨h1, by omega⟩, h3⟩
theorem value_causes_eq {f r b : Nat} (hq : GoodP q) (hs : GoodSu s) (hf : f ≤ 1000) (hb : b < q.bs.length) : callN Pr (n + 4) "value_causes" [pbD q, suD s, nD f, nD r, nD b] G = .ok (.lst ((valC q s f r b).map evD)) G := by
  rw [call_eq P_value_causes rfl]
  have e1 := use_before_eq (n := n) (G := G) (f := f) (r := r) (b := b) hq hf
  unfold valC
  cases h : useB q f r b with
  | none =>
    rw [h] at e1
    simp_arith [d_value_causes, e1, oD]
    rfl
  | some u =>
    rw [h] at e1
    obtain ⟨hu, hu2⟩ := useB_lt h
    have hu3 := (uses_mem.mp hu2).2.1
    have e2 := users_eq (n := n + 1) (G := G) (s := s) (r := r) (b := u) hq hs hu3
    by_cases hg : b > u + s.wn
    · have hgi : ((s.wn : Int) < (b : Int) - (u : Int)) = True := by apply propext; simp; omega
      simp_arith [d_value_causes, e1, oD, hgi, decide_true, hg]
      rfl
    · have hgi : ((s.wn : Int) < (b : Int) - (u : Int)) = False := by apply propext; simp; omega
      simp_arith [d_value_causes, e1, oD, hgi, decide_false, hg, e2]
      rw [compL_map (fun w : Nat => evD (.upd r u w))]
      · simp_arith [List.map_map]
        rfl
      · intro w hw
        simp_arith [d_value_causes_e0, evD]
theorem compute_causes_eq {f w b : Nat} (hq : GoodP q) (hs : GoodSu s) (hf : f ≤ 1000) (hb : b < q.bs.length) : callN Pr (n + 5) "compute_causes" [pbD q, suD s, nD f, nD w, nD b] G = .ok (.lst ((cmpC q s f w b).map evD)) G := by
  rw [call_eq P_compute_causes rfl]
  have hb20 := hq.b20
  have hw := hs.l1
  have hw2 := hs.l20
  have e1 := handovers_eq (n := n + 1) (G := G) hq hs hb
  have e2 := updates_until_eq (n := n) (G := G) (s := s) (f := f) (j := (b : Int) - s.ld) hq hs hf (by omega) (by omega)
  have hl := updsTo_len hq hs (f := f) (j := (b : Int) - s.ld) (by omega)
  have hh := hand_len hq hs b
  have hbf : ((f : Int) < (b : Int)) = (f < b) := by apply propext; omega
  unfold cmpC
  by_cases h : b > f
  · have h' : f < b := h
    have hb1 : (b : Int) - 1 = ((b - 1 : Nat) : Int) := by omega
    simp_arith [d_compute_causes, bo_ok t_bl, hbf, h', decide_true, e1, hb1]
    rw [for_fm _ 5 [evD (.cmp w (b - 1))] (fun p : Nat × Nat => p.2 == w) (fun p => evD (.val p.1 b w)) (handL q s b) rfl (by simp; omega)]
    · have hfl := List.length_filter_le (fun p : Nat × Nat => p.2 == w) (handL q s b)
      have hc : catD (.lst ([evD (.cmp w (b - 1))] ++ ((handL q s b).filter fun p => p.2 == w).map fun p => evD (.val p.1 b w))) (.lst ((updsTo q s f ((b : Int) - s.ld)).map evD)) = some (.lst ([evD (.cmp w (b - 1))] ++ (((handL q s b).filter fun p => p.2 == w).map fun p => evD (.val p.1 b w)) ++ (updsTo q s f ((b : Int) - s.ld)).map evD)) := if_pos (by simp [LIM]; omega)
      have hc := hc
      simp only [List.cons_append, List.nil_append] at hc
      simp_arith [e2, hc, List.map_append, List.map_map, gt_iff_lt]
      simp only [Function.comp_def, List.append_assoc, List.cons_append, List.nil_append]
    · intro p hp acc hl
      by_cases hc : (p.2 == w) = true
      · simp_arith [d_compute_causes_b0, prD, nbeq, hc, app_d hl]
        exact nx_nx ⟨rfl, rfl⟩
      · simp_arith [d_compute_causes_b0, prD, nbeq, hc]
        exact nx_nx ⟨rfl, rfl⟩
  · have h' : ¬ f < b := h
    simp_arith [d_compute_causes, bo_ok t_bl, hbf, h', decide_false, e1]
    rw [for_fm _ 5 [] (fun p : Nat × Nat => p.2 == w) (fun p => evD (.val p.1 b w)) (handL q s b) rfl (by simp; omega)]
    · have hfl := List.length_filter_le (fun p : Nat × Nat => p.2 == w) (handL q s b)
      have hc : catD (.lst (((handL q s b).filter fun p => p.2 == w).map fun p => evD (.val p.1 b w))) (.lst ((updsTo q s f ((b : Int) - s.ld)).map evD)) = some (.lst ((((handL q s b).filter fun p => p.2 == w).map fun p => evD (.val p.1 b w)) ++ (updsTo q s f ((b : Int) - s.ld)).map evD)) := if_pos (by simp [LIM]; omega)
      simp_arith [e2, hc, List.map_append, List.map_map, gt_iff_lt]
      simp only [Function.comp_def]
    · intro p hp acc hl
      by_cases hc : (p.2 == w) = true
      · simp_arith [d_compute_causes_b0, prD, nbeq, hc, app_d hl]
        exact nx_nx ⟨rfl, rfl⟩
      · simp_arith [d_compute_causes_b0, prD, nbeq, hc]
        exact nx_nx ⟨rfl, rfl⟩
theorem causes_of_eq {f : Nat} (e : Evt) (hq : GoodP q) (hs : GoodSu s) (hf : f ≤ 1000) (hb : evT e < q.bs.length) : callN Pr (n + 6) "causes_of" [pbD q, suD s, nD f, evD e] G = .ok (.lst ((causesL q s f e).map evD)) G := by
  rw [call_eq P_causes_of rfl]
  have dsp : ∀ env, ev (callN Pr (n + 5)) (.disp (.cons (.str "read") (.cons (.str "reply") (.cons (.str "ack") .nil))) (.cons (.str "request") (.cons (.str "read") (.cons (.str "write") .nil)))) env G = .ok (.dK [.inr "read", .inr "reply", .inr "ack"] [.str "request", .str "read", .str "write"]) G := fun env => by kernel_rfl
  have i1 : idxD G (.dK [.inr "read", .inr "reply", .inr "ack"] [.str "request", .str "read", .str "write"]) (.str "read") = some (.str "request") := by kernel_rfl
  have i2 : idxD G (.dK [.inr "read", .inr "reply", .inr "ack"] [.str "request", .str "read", .str "write"]) (.str "reply") = some (.str "read") := by kernel_rfl
  have i3 : idxD G (.dK [.inr "read", .inr "reply", .inr "ack"] [.str "request", .str "read", .str "write"]) (.str "ack") = some (.str "write") := by kernel_rfl
  have x3 : ∀ a b c d : D, atI [a, b, c, d] 3 = some d := fun _ _ _ _ => rfl
  cases e with
  | req r t =>
    have e1 := request_causes_eq (n := n) (G := G) (s := s) (f := f) (r := r) (b := t) hq hs hf hb
    simp_arith [d_causes_of, evD, sl3, e1, calR_ev]
    rfl
  | read r t =>
    simp_arith [d_causes_of, evD, sl3, dsp, i1]
    rfl
  | rep r t =>
    simp_arith [d_causes_of, evD, sl3, dsp, i2]
    rfl
  | val r t w =>
    have e1 := value_causes_eq (n := n + 1) (G := G) (s := s) (f := f) (r := r) (b := t) hq hs hf hb
    simp_arith [d_causes_of, evD, sl4, e1]
    rfl
  | cmp w t =>
    have e1 := compute_causes_eq (n := n) (G := G) (s := s) (f := f) (w := w) (b := t) hq hs hf hb
    simp_arith [d_causes_of, evD, sl3, e1]
    rfl
  | upd r t w =>
    simp_arith [d_causes_of, evD, sl4, x3]
    rfl
  | wr r t =>
    have e1 := users_eq (n := n + 3) (G := G) (s := s) (r := r) (b := t) hq hs hb
    simp_arith [d_causes_of, evD, sl3, e1]
    rw [compL_map (fun w : Nat => evD (.upd r t w))]
    · simp_arith [causesL, List.map_map]
      rfl
    · intro w hw
      simp_arith [d_causes_of_e0, evD]
  | ack r t =>
    simp_arith [d_causes_of, evD, sl3, dsp, i3]
    rfl
end
end CM

namespace CM
open PySem hiding exec execs start
open PySem.Spec PyProof.Rows L2 MP
/-! ### stays, events, causes: what stands in them -/
abbrev Asc (l : List Nat) : Prop := l.Pairwise (· < ·)
theorem uses_asc (q : Pb) (f r : Nat) : Asc (usesL q f r) := by
  unfold usesL
  exact (List.pairwise_lt_range' (s := f) (n := q.bs.length - f)).filter _
theorem grp_open (w : Nat) : ∀ (l : List Nat) (o c b : Nat), Asc (c :: l) → (b ∈ (grp w o c l).map (·.1) ↔ b = o ∨ (b ∈ l ∧ ∀ u ∈ c :: l, u < b → u + w < b))
  | [], o, c, b, _ => by simp [grp]
  | x :: r, o, c, b, h => by
    have h1 := List.pairwise_cons.mp h
    have hx := h1.1 x (by simp)
    have h2 := List.pairwise_cons.mp h1.2
    by_cases q : x ≤ c + w
    · rw [grp, if_pos q, grp_open w r o x b h1.2]
      constructor
      · rintro (e | ⟨hb, k⟩)
        · exact .inl e
        · refine .inr ⟨List.mem_cons_of_mem _ hb, fun u hu hub => ?_⟩
          rcases List.mem_cons.mp hu with rfl | hu
          · have := h2.1 b hb
            have := k x (by simp) this
            omega
          · exact k u hu hub
      · rintro (e | ⟨hb, k⟩)
        · exact .inl e
        · rcases List.mem_cons.mp hb with rfl | hb
          · have := k c (by simp) hx
            omega
          · exact .inr ⟨hb, fun u hu => k u (List.mem_cons_of_mem _ hu)⟩
    · rw [grp, if_neg q, List.map_cons, List.mem_cons, grp_open w r x x b h1.2]
      constructor
      · rintro (e | e | ⟨hb, k⟩)
        · exact .inl e
        · refine .inr ⟨by rw [e]; simp, fun u hu hub => ?_⟩
          rcases List.mem_cons.mp hu with rfl | hu
          · omega
          · rcases List.mem_cons.mp hu with rfl | hu
            · omega
            · have := h2.1 u hu
              omega
        · refine .inr ⟨List.mem_cons_of_mem _ hb, fun u hu hub => ?_⟩
          rcases List.mem_cons.mp hu with rfl | hu
          · have := h2.1 b hb
            have := k x (by simp) this
            omega
          · exact k u hu hub
      · rintro (e | ⟨hb, k⟩)
        · exact .inl e
        · rcases List.mem_cons.mp hb with rfl | hb
          · exact .inr (.inl rfl)
          · exact .inr (.inr ⟨hb, fun u hu => k u (List.mem_cons_of_mem _ hu)⟩)
theorem grp_close (w : Nat) : ∀ (l : List Nat) (o c b : Nat), Asc (c :: l) → (b ∈ (grp w o c l).map (·.2) ↔ b ∈ c :: l ∧ ∀ u ∈ c :: l, b < u → b + w < u)
  | [], o, c, b, _ => by
    simp only [grp, List.map_cons, List.map_nil, List.mem_singleton]
    constructor
    · rintro rfl; exact ⟨rfl, fun u hu h => by omega⟩
    · exact fun h => h.1
  | x :: r, o, c, b, h => by
    have h1 := List.pairwise_cons.mp h
    have hx := h1.1 x (by simp)
    have h2 := List.pairwise_cons.mp h1.2
    by_cases q : x ≤ c + w
    · rw [grp, if_pos q, grp_close w r o x b h1.2]
      constructor
      · rintro ⟨hb, k⟩
        refine ⟨List.mem_cons_of_mem _ hb, fun u hu hub => ?_⟩
        rcases List.mem_cons.mp hu with rfl | hu
        · have := h1.1 b hb
          omega
        · exact k u hu hub
      · rintro ⟨hb, k⟩
        rcases List.mem_cons.mp hb with rfl | hb
        · have := k x (by simp) hx
          omega
        · exact ⟨hb, fun u hu => k u (List.mem_cons_of_mem _ hu)⟩
    · rw [grp, if_neg q, List.map_cons, List.mem_cons, grp_close w r x x b h1.2]
      constructor
      · rintro (e | ⟨hb, k⟩)
        · subst e
          refine ⟨by simp, fun u hu hub => ?_⟩
          rcases List.mem_cons.mp hu with rfl | hu
          · omega
          · rcases List.mem_cons.mp hu with rfl | hu
            · omega
            · have := h2.1 u hu
              omega
        · refine ⟨List.mem_cons_of_mem _ hb, fun u hu hub => ?_⟩
          rcases List.mem_cons.mp hu with rfl | hu
          · have := h1.1 b hb
            omega
          · exact k u hu hub
      · rintro ⟨hb, k⟩
        rcases List.mem_cons.mp hb with rfl | hb
        · exact .inl rfl
        · exact .inr ⟨hb, fun u hu => k u (List.mem_cons_of_mem _ hu)⟩
theorem grps_open {w : Nat} {us : List Nat} (h : Asc us) (b : Nat) : b ∈ (grps w us).map (·.1) ↔ b ∈ us ∧ ∀ u ∈ us, u < b → u + w < b := by
  cases us with
  | nil => simp [grps]
  | cons c l =>
    rw [grps, grp_open w l c c b h]
    constructor
    · rintro (rfl | ⟨hb, k⟩)
      · refine ⟨by simp, fun u hu hub => ?_⟩
        rcases List.mem_cons.mp hu with rfl | hu
        · omega
        · have := (List.pairwise_cons.mp h).1 u hu
          omega
      · exact ⟨List.mem_cons_of_mem _ hb, k⟩
    · rintro ⟨hb, k⟩
      rcases List.mem_cons.mp hb with rfl | hb
      · exact .inl rfl
      · exact .inr ⟨hb, k⟩
theorem grps_close {w : Nat} {us : List Nat} (h : Asc us) (b : Nat) : b ∈ (grps w us).map (·.2) ↔ b ∈ us ∧ ∀ u ∈ us, b < u → b + w < u := by
  cases us with
  | nil => simp [grps]
  | cons c l => rw [grps, grp_close w l c c b h]
section
variable {q : Pb} {s : Su} {f : Nat}
theorem mem_stays {p : Nat × Nat × Nat} : p ∈ staysL q s f ↔ p.1 < q.rows.length ∧ p.2 ∈ grps s.wn (usesL q f p.1) := by
  obtain ⟨r, p⟩ := p
  simp [staysL]
theorem mem_open {r b : Nat} : r ∈ openL q s f b ↔ r < q.rows.length ∧ b ∈ usesL q f r ∧ ∀ u ∈ usesL q f r, u < b → u + s.wn < b := by
  unfold openL
  rw [← grps_open (uses_asc q f r)]
  constructor
  · intro h
    obtain ⟨⟨r', o, c⟩, hp, rfl⟩ := List.mem_map.mp h
    rw [List.mem_filter, mem_stays] at hp
    have e : o = b := by simpa using hp.2
    exact ⟨hp.1.1, List.mem_map.mpr ⟨_, hp.1.2, e⟩⟩
  · rintro ⟨h1, h2⟩
    obtain ⟨⟨o, c⟩, hp, rfl⟩ := List.mem_map.mp h2
    exact List.mem_map.mpr ⟨(r, o, c), List.mem_filter.mpr ⟨mem_stays.mpr ⟨h1, hp⟩, by simp⟩, rfl⟩
theorem mem_close {r b : Nat} : r ∈ closeL q s f b ↔ r < q.rows.length ∧ b ∈ usesL q f r ∧ ∀ u ∈ usesL q f r, b < u → b + s.wn < u := by
  unfold closeL
  rw [← grps_close (uses_asc q f r)]
  constructor
  · intro h
    obtain ⟨⟨r', o, c⟩, hp, rfl⟩ := List.mem_map.mp h
    rw [List.mem_filter, mem_stays] at hp
    have e : c = b := by simpa using hp.2
    exact ⟨hp.1.1, List.mem_map.mpr ⟨_, hp.1.2, e⟩⟩
  · rintro ⟨h1, h2⟩
    obtain ⟨⟨o, c⟩, hp, rfl⟩ := List.mem_map.mp h2
    exact List.mem_map.mpr ⟨(r, o, c), List.mem_filter.mpr ⟨mem_stays.mpr ⟨h1, hp⟩, by simp⟩, rfl⟩
theorem mem_hand {b : Nat} {p : Nat × Nat} : p ∈ handL q s b ↔ p.1 < q.rows.length ∧ p.2 ∈ usersL q s p.1 b := by
  obtain ⟨r, w⟩ := p
  simp [handL]
theorem users_lt {r b w : Nat} (h : w ∈ usersL q s r b) : w < s.tr ∧ looks (bat q b) r = true := by
  unfold usersL at h
  rw [List.mem_filter, List.mem_range] at h
  obtain ⟨h1, h2⟩ := h
  obtain ⟨x, hx, hr⟩ := looks_iff.mp h2
  exact ⟨h1, looks_iff.mpr ⟨x, part_mem hx, hr⟩⟩
/-- the events of the run -/
def isEv (q : Pb) (s : Su) (f : Nat) : Evt → Prop
  | .req r t => r ∈ openL q s f t
  | .read r t => r ∈ openL q s f t
  | .rep r t => r ∈ openL q s f t
  | .val r t w => r < q.rows.length ∧ w ∈ usersL q s r t
  | .cmp w _ => w < s.tr
  | .upd r t w => r < q.rows.length ∧ w ∈ usersL q s r t
  | .wr r t => r ∈ closeL q s f t
  | .ack r t => r ∈ closeL q s f t
theorem mem_evOf {b : Nat} {op cl : List Nat} {e : Evt} : e ∈ evOf q s b op cl ↔ evT e = b ∧ (match e with
    | .req r _ => r ∈ op
    | .read r _ => r ∈ op
    | .rep r _ => r ∈ op
    | .val r _ w => (r, w) ∈ handL q s b
    | .cmp w _ => w < s.tr
    | .upd r _ w => (r, w) ∈ handL q s b
    | .wr r _ => r ∈ cl
    | .ack r _ => r ∈ cl) := by
  unfold evOf
  simp only [List.mem_append, List.mem_map, List.mem_range]
  cases e <;> simp [evT] <;> grind
theorem mem_events {e : Evt} : e ∈ eventsL q s f ↔ (f ≤ evT e ∧ evT e < q.bs.length) ∧ isEv q s f e := by
  unfold eventsL
  rw [List.mem_flatMap]
  constructor
  · rintro ⟨b, hb, he⟩
    rw [List.mem_range'_1] at hb
    obtain ⟨rfl, h⟩ := mem_evOf.mp he
    refine ⟨⟨hb.1, by omega⟩, ?_⟩
    cases e <;> simp only [isEv] <;> first
      | exact h
      | exact mem_hand.mp h
  · rintro ⟨⟨h1, h2⟩, h⟩
    refine ⟨evT e, by rw [List.mem_range'_1]; omega, mem_evOf.mpr ⟨rfl, ?_⟩⟩
    cases e <;> simp only [isEv] at h <;> first
      | exact h
      | exact mem_hand.mpr h
theorem last_max {l : List Nat} (h : Asc l) {x : Nat} (e : l.getLast? = some x) : ∀ y ∈ l, y ≤ x := by
  intro y hy
  obtain ⟨l', rfl⟩ : ∃ l', l = l' ++ [x] := by
    have hne : l ≠ [] := by rintro rfl; simp at e
    rw [List.getLast?_eq_getLast hne] at e
    cases e
    exact ⟨_, (List.dropLast_concat_getLast hne).symm⟩
  rcases List.mem_append.mp hy with hy | hy
  · rw [Asc, List.pairwise_append] at h
    exact Nat.le_of_lt (h.2.2 y hy x (by simp))
  · simp at hy; omega
theorem useB_some {r b u : Nat} : useB q f r b = some u ↔ u ∈ usesL q f r ∧ u < b ∧ ∀ v ∈ usesL q f r, v < b → v ≤ u := by
  unfold useB
  have ha := (uses_asc q f r).filter (fun v => decide (v < b))
  constructor
  · intro h
    have h1 := List.mem_of_getLast? h
    rw [List.mem_filter] at h1
    exact ⟨h1.1, by simpa using h1.2, fun v hv hvb => last_max ha h v (List.mem_filter.mpr ⟨hv, by simpa using hvb⟩)⟩
  · rintro ⟨h1, h2, h3⟩
    have hm : u ∈ (usesL q f r).filter fun v => decide (v < b) := List.mem_filter.mpr ⟨h1, by simpa using h2⟩
    cases e : ((usesL q f r).filter fun v => decide (v < b)).getLast? with
    | none => rw [List.getLast?_eq_none_iff] at e; rw [e] at hm; cases hm
    | some x =>
      have hx := List.mem_of_getLast? e
      rw [List.mem_filter] at hx
      have := last_max ha e u hm
      have := h3 x hx.1 (by simpa using hx.2)
      congr 1; omega
theorem useB_none {r b : Nat} : useB q f r b = none ↔ ∀ u ∈ usesL q f r, ¬ u < b := by
  unfold useB
  rw [List.getLast?_eq_none_iff, List.filter_eq_nil_iff]
  simp
theorem mem_upds {j : Int} {e : Evt} : e ∈ updsTo q s f j ↔ ∃ r b w, e = .upd r b w ∧ f ≤ b ∧ (b : Int) ≤ j ∧ r < q.rows.length ∧ w ∈ usersL q s r b := by
  unfold updsTo
  simp only [List.mem_flatMap, List.mem_map, List.mem_range'_1]
  constructor
  · rintro ⟨b, ⟨h1, h2⟩, ⟨r, w⟩, h3, rfl⟩
    rw [mem_hand] at h3
    exact ⟨r, b, w, rfl, h1, by omega, h3⟩
  · rintro ⟨r, b, w, rfl, h1, h2, h3⟩
    exact ⟨b, ⟨h1, by omega⟩, (r, w), mem_hand.mpr h3, rfl⟩
def evI : Evt → Nat
  | .req _ _ => 0
  | .read _ _ => 1
  | .rep _ _ => 2
  | .val _ _ _ => 3
  | .cmp _ _ => 4
  | .upd _ _ _ => 5
  | .wr _ _ => 6
  | .ack _ _ => 7
def evR (e : Evt) : Nat := 8 * evT e + evI e
/-- the causes of an event are events, and come ahead of it -/
theorem causes_ev (hs : GoodSu s) {e c : Evt} (he : e ∈ eventsL q s f) (hc : c ∈ causesL q s f e) : c ∈ eventsL q s f ∧ evR c < evR e := by
  rw [mem_events] at he
  obtain ⟨⟨h1, h2⟩, h3⟩ := he
  have w1 := hs.w1
  have l1 := hs.l1
  cases e with
  | req r t =>
    simp only [isEv] at h3
    simp only [evT] at h1 h2
    obtain ⟨k1, k2, k3⟩ := mem_open.mp h3
    simp only [causesL, reqC, List.mem_append] at hc
    rcases hc with hc | hc
    · cases hu : useB q f r t with
      | none => rw [hu] at hc; cases hc
      | some u =>
        rw [hu] at hc
        simp only [List.mem_singleton] at hc
        subst hc
        obtain ⟨m1, m2, m3⟩ := useB_some.mp hu
        obtain ⟨n1, n2, _⟩ := uses_mem.mp m1
        refine ⟨mem_events.mpr ⟨⟨n1, n2⟩, mem_close.mpr ⟨k1, m1, fun v hv huv => ?_⟩⟩, by simp only [evR, evT, evI]; omega⟩
        by_cases hvt : v < t
        · have := m3 v hv hvt
          omega
        · have := k3 u m1 m2
          omega
    · obtain ⟨r', b, w, rfl, n1, n2, n3⟩ := mem_upds.mp hc
      exact ⟨mem_events.mpr ⟨⟨n1, by simp only [evT]; omega⟩, n3⟩, by simp only [evR, evT, evI]; omega⟩
  | read r t =>
    simp only [causesL, List.mem_singleton] at hc
    subst hc
    exact ⟨mem_events.mpr ⟨⟨h1, h2⟩, h3⟩, by simp only [evR, evT, evI]; omega⟩
  | rep r t =>
    simp only [causesL, List.mem_singleton] at hc
    subst hc
    exact ⟨mem_events.mpr ⟨⟨h1, h2⟩, h3⟩, by simp only [evR, evT, evI]; omega⟩
  | val r t w =>
    simp only [isEv] at h3
    simp only [evT] at h1 h2
    have ht : t ∈ usesL q f r := uses_mem.mpr ⟨h1, h2, (users_lt h3.2).2⟩
    simp only [causesL, valC] at hc
    cases hu : useB q f r t with
    | none =>
      rw [hu] at hc
      simp only [List.mem_singleton] at hc
      subst hc
      refine ⟨mem_events.mpr ⟨⟨h1, h2⟩, mem_open.mpr ⟨h3.1, ht, fun v hv hvt => ?_⟩⟩, by simp only [evR, evT, evI]; omega⟩
      exact absurd hvt (useB_none.mp hu v hv)
    | some u =>
      rw [hu] at hc
      simp only at hc
      obtain ⟨m1, m2, m3⟩ := useB_some.mp hu
      obtain ⟨n1, n2, _⟩ := uses_mem.mp m1
      split at hc
      · rename_i hg
        simp only [List.mem_singleton] at hc
        subst hc
        refine ⟨mem_events.mpr ⟨⟨h1, h2⟩, mem_open.mpr ⟨h3.1, ht, fun v hv hvt => ?_⟩⟩, by simp only [evR, evT, evI]; omega⟩
        have := m3 v hv hvt
        omega
      · obtain ⟨w', hw', rfl⟩ := List.mem_map.mp hc
        exact ⟨mem_events.mpr ⟨⟨n1, n2⟩, h3.1, hw'⟩, by simp only [evR, evT, evI]; omega⟩
  | cmp w t =>
    simp only [isEv] at h3
    simp only [evT] at h1 h2
    simp only [causesL, cmpC, List.mem_append] at hc
    rcases hc with (hc | hc) | hc
    · split at hc
      · simp only [List.mem_singleton] at hc
        subst hc
        exact ⟨mem_events.mpr ⟨⟨by simp only [evT]; omega, by simp only [evT]; omega⟩, h3⟩, by simp only [evR, evT, evI]; omega⟩
      · cases hc
    · obtain ⟨⟨r, w'⟩, hp, rfl⟩ := List.mem_map.mp hc
      rw [List.mem_filter, mem_hand] at hp
      have : w' = w := by simpa using hp.2
      subst this
      exact ⟨mem_events.mpr ⟨⟨h1, h2⟩, hp.1⟩, by simp only [evR, evT, evI]; omega⟩
    · obtain ⟨r', b, w, rfl, n1, n2, n3⟩ := mem_upds.mp hc
      exact ⟨mem_events.mpr ⟨⟨n1, by simp only [evT]; omega⟩, n3⟩, by simp only [evR, evT, evI]; omega⟩
  | upd r t w =>
    simp only [causesL, List.mem_singleton] at hc
    subst hc
    exact ⟨mem_events.mpr ⟨⟨h1, h2⟩, (users_lt h3.2).1⟩, by simp only [evR, evT, evI]; omega⟩
  | wr r t =>
    simp only [causesL] at hc
    obtain ⟨w', hw', rfl⟩ := List.mem_map.mp hc
    exact ⟨mem_events.mpr ⟨⟨h1, h2⟩, (mem_close.mp h3).1, hw'⟩, by simp only [evR, evT, evI]; omega⟩
  | ack r t =>
    simp only [causesL, List.mem_singleton] at hc
    subst hc
    exact ⟨mem_events.mpr ⟨⟨h1, h2⟩, h3⟩, by simp only [evR, evT, evI]; omega⟩
end
end CM

namespace CM
open PySem hiding exec execs start
open PySem.Spec PyProof.Rows L2 MP
local macro_rules
  | `(tactic| simp_arith [$xs,*]) => `(tactic| simp -implicitDefEqProofs (disch := first | omega | (simp only [List.length_append, List.length_map, List.length_range, List.length_range', List.length_nil, List.length_cons, List.length_singleton, List.length_zipIdx] <;> omega)) only [gv0, gvS, go0, goS, ev_var, ev_own, ev_non, ev_bl, ev_int, ev_str, ev_glb, ev_tup, ev_lst, ev_dK0, ev_dT0, ev_bin, ev_cat, ev_rep, negR_int, ev_neg, notR_bl, ev_not, blR_some, ev_cmp, chR_t, chR_f, ev_chn, ev_and, ev_or, bR_bl, anR_t, anR_f, anR_b, orR_t, orR_f, orR_b, and_one, and_more, or_one, or_more, ev_ife, ev_idx, ev_slc, ev_rev, calR_f, calR_ok, calR_ex, ev_call, ev_prim, ev_mth, ev_isi, ev_srtset, ev_lrng, ev_comp, ev_newc, evs_nil, evs_cons, inR_int, evo_no, evo_so, evI_seq, evI_rng, evI_enum, tv_not, tv_and, tv_or, tv_var, tv_own, tv_non, tv_bl, tv_int, tv_cmp, tv_chn, tv_call, tv_prim, tv_isi, tv_idx, tv_mth, tv_ife, tv_comp, tv_slc, tv_bin, tand_one, tand_more, tor_one, tor_more, b_ok, b_ex, l_some, s_ok, s_ex, q_nx, q_rt, q_bk, q_ct, q_ex, n_some, f_nx, f_rt, f_ex, fr_f, fr_t, fr_k, x_asg, x_asgF, x_frz, onL0, onLS, x_app, x_ext, x_ex, x_ret, x_retN, x_cont, x_brk, x_rais, x_ite, x_for, x_whl, xs_nil, xs_cons, forB_nm, setTg_nm, setTg_tp, setTp_nil, setTp_cons, sl0, slS, w_nil, w_cons, ow0, owS, ob, om, st_e, frR_some, frz_eq, x_setg, x_seti, oc0, ocS, x_appPop, ol0, olS, fl_int, fls_nil, fls_cons, t_bl, t_int, t_non, t_lst, d_add, d_sub, d_mul, d_fdiv, d_mod, d_lt, d_le, d_gt, d_ge, d_eqi, d_nei, p_len, p_lent, p_lens, p_int, p_abs, p_tup, p_tupt, p_list, p_listt, p_min2, p_max2, ix_l, ix_t, ix_s, app_d, ext_l, ext_t, bo_ok (t_bl), bo_ok (t_int), bo_ok (t_lst), notR_of (t_lst), os_eq, Es.hasOwn, List.map_cons, List.map_nil, List.length_cons, List.length_nil, List.replicate_succ, List.replicate_zero, List.cons_append, List.nil_append, Nat.reduceSub, Nat.reduceAdd, Nat.sub_self, reduceIte, Bool.not_true, Bool.not_false, Bool.false_eq_true, Bool.and_self, Bool.and_true, Bool.true_and, Nat.reduceBEq, Nat.reduceEqDiff, cF_no, cF_so, cF2_no, cF2_so, cF3_no, cF3_so, cR_b, q_nil, q_nil2, forB_tp2, forB_tp3, ty_bool_non, ty_bool_bl, ty_bool_int, ty_bool_str, ty_bool_tup, ty_bool_lst, ty_int_non, ty_int_bl, ty_int_int, ty_int_str, ty_int_tup, ty_int_lst, ty_str_non, ty_str_bl, ty_str_int, ty_str_str, ty_str_tup, ty_str_lst, ty_tuple_non, ty_tuple_bl, ty_tuple_int, ty_tuple_str, ty_tuple_tup, ty_tuple_lst, ty_list_non, ty_list_bl, ty_list_int, ty_list_str, ty_list_tup, ty_list_lst, d_eqb, d_isn, d_isi, d_isb, d_iss, d_ist, d_isl, d_insn, d_insi, d_inst, d_insl, p_int_b, t_tup, compL_nil, compL_cons, cC_some, cC_none, cK_ok, cN_ok, forL_nil, forL_cons, foR_nx, foR_ct, foR_bk, foR_rt, foR_ex, seq_l, seq_t, enu_l, enu_t, ev_dcomp, dcF_nm, evI_items, agS_int, x_augi, x_ins, x_asgPop, setTg_tpl, forB_tp2l, forB_tp3l, d_isbb, d_insbb, d_isdK, p_lendK, p_lendT, ty_bool_dK, ty_int_dK, ty_str_dK, ty_tuple_dK, ty_list_dK, ms_i1, ms_i2, ms_g2, ms_g1, calR_n, calR_in, calR_bl, ix_pb0, ix_pb1, ix_pb2, ix_pb3, ix_su0, ix_su1, ix_su2, kq_0_0, kq_0_1, kq_0_2, kq_0_3, kq_0_4, kq_0_5, kq_0_6, kq_0_7, kq_1_0, kq_1_1, kq_1_2, kq_1_3, kq_1_4, kq_1_5, kq_1_6, kq_1_7, kq_2_0, kq_2_1, kq_2_2, kq_2_3, kq_2_4, kq_2_5, kq_2_6, kq_2_7, kq_3_0, kq_3_1, kq_3_2, kq_3_3, kq_3_4, kq_3_5, kq_3_6, kq_3_7, kq_4_0, kq_4_1, kq_4_2, kq_4_3, kq_4_4, kq_4_5, kq_4_6, kq_4_7, kq_5_0, kq_5_1, kq_5_2, kq_5_3, kq_5_4, kq_5_5, kq_5_6, kq_5_7, kq_6_0, kq_6_1, kq_6_2, kq_6_3, kq_6_4, kq_6_5, kq_6_6, kq_6_7, kq_7_0, kq_7_1, kq_7_2, kq_7_3, kq_7_4, kq_7_5, kq_7_6, kq_7_7, kn_0, kn_1, kn_2, kn_3, kn_4, kn_5, kn_6, kn_7, $xs,*])
local macro_rules
  | `(tactic| simp_arith [$xs,*] at $h:ident) => `(tactic| simp -implicitDefEqProofs (disch := first | omega | (simp only [List.length_append, List.length_map, List.length_range, List.length_range', List.length_nil, List.length_cons, List.length_singleton, List.length_zipIdx] <;> omega)) only [gv0, gvS, go0, goS, ev_var, ev_own, ev_non, ev_bl, ev_int, ev_str, ev_glb, ev_tup, ev_lst, ev_dK0, ev_dT0, ev_bin, ev_cat, ev_rep, negR_int, ev_neg, notR_bl, ev_not, blR_some, ev_cmp, chR_t, chR_f, ev_chn, ev_and, ev_or, bR_bl, anR_t, anR_f, anR_b, orR_t, orR_f, orR_b, and_one, and_more, or_one, or_more, ev_ife, ev_idx, ev_slc, ev_rev, calR_f, calR_ok, calR_ex, ev_call, ev_prim, ev_mth, ev_isi, ev_srtset, ev_lrng, ev_comp, ev_newc, evs_nil, evs_cons, inR_int, evo_no, evo_so, evI_seq, evI_rng, evI_enum, tv_not, tv_and, tv_or, tv_var, tv_own, tv_non, tv_bl, tv_int, tv_cmp, tv_chn, tv_call, tv_prim, tv_isi, tv_idx, tv_mth, tv_ife, tv_comp, tv_slc, tv_bin, tand_one, tand_more, tor_one, tor_more, b_ok, b_ex, l_some, s_ok, s_ex, q_nx, q_rt, q_bk, q_ct, q_ex, n_some, f_nx, f_rt, f_ex, fr_f, fr_t, fr_k, x_asg, x_asgF, x_frz, onL0, onLS, x_app, x_ext, x_ex, x_ret, x_retN, x_cont, x_brk, x_rais, x_ite, x_for, x_whl, xs_nil, xs_cons, forB_nm, setTg_nm, setTg_tp, setTp_nil, setTp_cons, sl0, slS, w_nil, w_cons, ow0, owS, ob, om, st_e, frR_some, frz_eq, x_setg, x_seti, oc0, ocS, x_appPop, ol0, olS, fl_int, fls_nil, fls_cons, t_bl, t_int, t_non, t_lst, d_add, d_sub, d_mul, d_fdiv, d_mod, d_lt, d_le, d_gt, d_ge, d_eqi, d_nei, p_len, p_lent, p_lens, p_int, p_abs, p_tup, p_tupt, p_list, p_listt, p_min2, p_max2, ix_l, ix_t, ix_s, app_d, ext_l, ext_t, bo_ok (t_bl), bo_ok (t_int), bo_ok (t_lst), notR_of (t_lst), os_eq, Es.hasOwn, List.map_cons, List.map_nil, List.length_cons, List.length_nil, List.replicate_succ, List.replicate_zero, List.cons_append, List.nil_append, Nat.reduceSub, Nat.reduceAdd, Nat.sub_self, reduceIte, Bool.not_true, Bool.not_false, Bool.false_eq_true, Bool.and_self, Bool.and_true, Bool.true_and, Nat.reduceBEq, Nat.reduceEqDiff, cF_no, cF_so, cF2_no, cF2_so, cF3_no, cF3_so, cR_b, q_nil, q_nil2, forB_tp2, forB_tp3, ty_bool_non, ty_bool_bl, ty_bool_int, ty_bool_str, ty_bool_tup, ty_bool_lst, ty_int_non, ty_int_bl, ty_int_int, ty_int_str, ty_int_tup, ty_int_lst, ty_str_non, ty_str_bl, ty_str_int, ty_str_str, ty_str_tup, ty_str_lst, ty_tuple_non, ty_tuple_bl, ty_tuple_int, ty_tuple_str, ty_tuple_tup, ty_tuple_lst, ty_list_non, ty_list_bl, ty_list_int, ty_list_str, ty_list_tup, ty_list_lst, d_eqb, d_isn, d_isi, d_isb, d_iss, d_ist, d_isl, d_insn, d_insi, d_inst, d_insl, p_int_b, t_tup, compL_nil, compL_cons, cC_some, cC_none, cK_ok, cN_ok, forL_nil, forL_cons, foR_nx, foR_ct, foR_bk, foR_rt, foR_ex, seq_l, seq_t, enu_l, enu_t, ev_dcomp, dcF_nm, evI_items, agS_int, x_augi, x_ins, x_asgPop, setTg_tpl, forB_tp2l, forB_tp3l, d_isbb, d_insbb, d_isdK, p_lendK, p_lendT, ty_bool_dK, ty_int_dK, ty_str_dK, ty_tuple_dK, ty_list_dK, ms_i1, ms_i2, ms_g2, ms_g1, calR_n, calR_in, calR_bl, ix_pb0, ix_pb1, ix_pb2, ix_pb3, ix_su0, ix_su1, ix_su2, kq_0_0, kq_0_1, kq_0_2, kq_0_3, kq_0_4, kq_0_5, kq_0_6, kq_0_7, kq_1_0, kq_1_1, kq_1_2, kq_1_3, kq_1_4, kq_1_5, kq_1_6, kq_1_7, kq_2_0, kq_2_1, kq_2_2, kq_2_3, kq_2_4, kq_2_5, kq_2_6, kq_2_7, kq_3_0, kq_3_1, kq_3_2, kq_3_3, kq_3_4, kq_3_5, kq_3_6, kq_3_7, kq_4_0, kq_4_1, kq_4_2, kq_4_3, kq_4_4, kq_4_5, kq_4_6, kq_4_7, kq_5_0, kq_5_1, kq_5_2, kq_5_3, kq_5_4, kq_5_5, kq_5_6, kq_5_7, kq_6_0, kq_6_1, kq_6_2, kq_6_3, kq_6_4, kq_6_5, kq_6_6, kq_6_7, kq_7_0, kq_7_1, kq_7_2, kq_7_3, kq_7_4, kq_7_5, kq_7_6, kq_7_7, kn_0, kn_1, kn_2, kn_3, kn_4, kn_5, kn_6, kn_7, $xs,*] at $h:ident)
/-! ### tuples as keys -/
abbrev KL := List Key
/-- the key stands in the list -/
def hasK (ks : List KL) (k : KL) : Bool := ks.any fun j => decide (j = k)
theorem hasK_iff {ks : List KL} {k : KL} : hasK ks k = true ↔ k ∈ ks := by
  unfold hasK
  simp only [List.any_eq_true, decide_eq_true_eq]
  exact ⟨fun ⟨j, h1, h2⟩ => h2 ▸ h1, fun h => ⟨k, h, rfl⟩⟩
theorem hasK_not {ks : List KL} {k : KL} (h : k ∉ ks) : hasK ks k = false := by
  cases e : hasK ks k with
  | false => rfl
  | true => exact absurd (hasK_iff.mp e) h
def tD (k : KL) : D := .tup false (k.map kD)
def nK (k : Nat) : Key := .inl (k : Int)
def evK : Evt → KL
  | .req r t => [.inr "request", nK r, nK t]
  | .read r t => [.inr "read", nK r, nK t]
  | .rep r t => [.inr "reply", nK r, nK t]
  | .val r t w => [.inr "value", nK r, nK t, nK w]
  | .cmp w t => [.inr "compute", nK w, nK t]
  | .upd r t w => [.inr "update", nK r, nK t, nK w]
  | .wr r t => [.inr "write", nK r, nK t]
  | .ack r t => [.inr "ack", nK r, nK t]
theorem ev_tD (e : Evt) : evD e = tD (evK e) := by cases e <;> rfl
theorem evs_tD (l : List Evt) : l.map evD = (l.map evK).map tD := by
  rw [List.map_map]
  exact List.map_congr_left fun e _ => ev_tD e
theorem evK_inj {a b : Evt} (h : evK a = evK b) : a = b := by
  have ne : ∀ x y : Str, (x == y) = false → x ≠ y := fun x y h e => by subst e; simp at h
  cases a <;> cases b <;> simp [evK, nK] at h <;> first
    | (obtain ⟨h1, h2, h3⟩ := h; congr 1 <;> omega)
    | (obtain ⟨h1, h2⟩ := h; congr 1 <;> omega)
    | (exact absurd h.1 (by decide +kernel))
/-- the shape of a told event -/
def shp : KL → Bool
  | .inr _ :: t => t.all fun k => k.isLeft
  | _ => false
theorem shp_ev (e : Evt) : shp (evK e) = true := by cases e <;> rfl
theorem keysOf_k : ∀ k : KL, keysOf (k.map kD) = some k
  | [] => rfl
  | .inl i :: k => by simp [MP.keysOf, MP.keyOf, MP.kD, keysOf_k k]
  | .inr x :: k => by simp [MP.keysOf, MP.keyOf, MP.kD, keysOf_k k]
theorem tkey_t (k : KL) : tkeyOf (tD k) = some k := keysOf_k k
theorem in_dT {k : KL} {ks : List KL} {vs : List D} : cmpD .isin (tD k) (.dT ks vs) = some (hasK ks k) := by
  simp only [cmpD, inD, tkey_t, Option.map]
  rfl
theorem put_new {ks : List KL} {vs : List D} {k : KL} {v : D} (h : k ∉ ks) : putP ks vs k v = (ks ++ [k], vs ++ [v]) := by
  unfold putP
  rw [if_neg]
  intro q
  obtain ⟨j, h1, h2⟩ := List.any_eq_true.mp q
  exact h (by simpa using (of_decide_eq_true h2) ▸ h1)
theorem put_old {ks : List KL} {vs : List D} {k : KL} {v : D} (h : k ∈ ks) : (putP ks vs k v).1 = ks := by
  unfold putP
  rw [if_pos (List.any_eq_true.mpr ⟨k, h, by simp⟩)]
theorem set_dT {ks : List KL} {vs : List D} {k : KL} {v : D} (h : ks.length < 1000000) : setD (.dT ks vs) (tD k) v = some (.dT (putP ks vs k v).1 (putP ks vs k v).2) := by
  simp only [setD, tkey_t, Option.bind]
  exact if_pos h
theorem set_new {ks : List KL} {vs : List D} {k : KL} {v : D} (h : ks.length < 1000000) (hn : k ∉ ks) : setD (.dT ks vs) (tD k) v = some (.dT (ks ++ [k]) (vs ++ [v])) := by rw [set_dT h, put_new hn]
theorem tl_len {k : KL} : truth (tD k) = some (!k.isEmpty) := by
  unfold tD
  rw [t_tup]
  cases k <;> rfl
theorem tD_0 {G : Gs} {h : Key} {t : KL} : idxD G (tD (h :: t)) (.int 0) = some (kD h) := by
  unfold tD
  rw [ix_t]
  exact atI_nat _ 0
theorem tD_ty (k : KL) : isTyD "tuple" (tD k) = some true := rfl
theorem sl1 {h : Key} {t : KL} : slcD (some 1) none (tD (h :: t)) = some (.tup true (t.map kD)) := by
  unfold tD
  simp only [slcD, MP.cutD, HT.sIx_none]
  have e : HT.sIx (List.map kD (h :: t)).length 0 (some 1) = 1 := by
    have := HT.sIx_nat (List.map kD (h :: t)).length 0 1
    rw [show (some (1 : Int)) = some ((1 : Nat) : Int) from rfl, this]
    simp
  rw [e, if_neg (by simp)]
  simp [List.take_of_length_le]
theorem blsOf_map : ∀ l : List Bool, blsOf (l.map .bl) = some l
  | [] => rfl
  | b :: l => by simp [blsOf, blsOf_map l]
theorem all_bls {α : Type} (p : α → Bool) (l : List α) : primD .all1 [.lst (l.map fun x => .bl (p x))] = some (.bl (l.all p)) := by
  have : (l.map fun x => D.bl (p x)) = (l.map p).map .bl := by rw [List.map_map]; rfl
  simp only [primD, this, blsOf_map, Option.map]
  congr 2
  induction l with
  | nil => rfl
  | cons a l ih => simp [List.all_cons]
section
variable {n : Nat} {G : Gs}
theorem is_told_eq {ks : List KL} {vs : List D} {k : KL} (hk : ∀ j ∈ ks, shp j = true) : callN Pr (n + 1) "is_told" [.dT ks vs, tD k] G = .ok (.bl (hasK ks k)) G := by
  rw [call_eq P_is_told rfl]
  cases k with
  | nil =>
    have h1 : ([] : KL) ∉ ks := fun h => by have := hk _ h; cases this
    simp_arith [d_is_told, tD_ty, bo_ok tl_len, List.isEmpty_nil, hasK_not h1]
  | cons h t =>
    cases h with
    | inl i =>
      have h1 : (.inl i :: t) ∉ ks := fun h => by have := hk _ h; cases this
      simp_arith [d_is_told, tD_ty, bo_ok tl_len, List.isEmpty_cons, tD_0, kD, hasK_not h1]
    | inr x =>
      simp_arith [d_is_told, tD_ty, bo_ok tl_len, List.isEmpty_cons, tD_0, kD, sl1]
      rw [compL_map (fun k : Key => .bl k.isLeft)]
      · by_cases ht : t.all (fun k => k.isLeft) = true
        · simp_arith [all_bls, ht, in_dT]
        · have h1 : (.inr x :: t) ∉ ks := fun h => ht (hk _ h)
          simp_arith [all_bls, ht, hasK_not h1]
      · intro k hk
        cases k with
        | inl i => simp_arith [d_is_told_e0, kD]; rfl
        | inr y => simp_arith [d_is_told_e0, kD]; rfl
end
end CM

namespace CM
open PySem hiding exec execs start
open PySem.Spec PyProof.Rows L2 MP
local macro_rules
  | `(tactic| simp_arith [$xs,*]) => `(tactic| simp -implicitDefEqProofs (disch := first | omega | (simp only [List.length_append, List.length_map, List.length_range, List.length_range', List.length_nil, List.length_cons, List.length_singleton, List.length_zipIdx] <;> omega)) only [gv0, gvS, go0, goS, ev_var, ev_own, ev_non, ev_bl, ev_int, ev_str, ev_glb, ev_tup, ev_lst, ev_dK0, ev_dT0, ev_bin, ev_cat, ev_rep, negR_int, ev_neg, notR_bl, ev_not, blR_some, ev_cmp, chR_t, chR_f, ev_chn, ev_and, ev_or, bR_bl, anR_t, anR_f, anR_b, orR_t, orR_f, orR_b, and_one, and_more, or_one, or_more, ev_ife, ev_idx, ev_slc, ev_rev, calR_f, calR_ok, calR_ex, ev_call, ev_prim, ev_mth, ev_isi, ev_srtset, ev_lrng, ev_comp, ev_newc, evs_nil, evs_cons, inR_int, evo_no, evo_so, evI_seq, evI_rng, evI_enum, tv_not, tv_and, tv_or, tv_var, tv_own, tv_non, tv_bl, tv_int, tv_cmp, tv_chn, tv_call, tv_prim, tv_isi, tv_idx, tv_mth, tv_ife, tv_comp, tv_slc, tv_bin, tand_one, tand_more, tor_one, tor_more, b_ok, b_ex, l_some, s_ok, s_ex, q_nx, q_rt, q_bk, q_ct, q_ex, n_some, f_nx, f_rt, f_ex, fr_f, fr_t, fr_k, x_asg, x_asgF, x_frz, onL0, onLS, x_app, x_ext, x_ex, x_ret, x_retN, x_cont, x_brk, x_rais, x_ite, x_for, x_whl, xs_nil, xs_cons, forB_nm, setTg_nm, setTg_tp, setTp_nil, setTp_cons, sl0, slS, w_nil, w_cons, ow0, owS, ob, om, st_e, frR_some, frz_eq, x_setg, x_seti, oc0, ocS, x_appPop, ol0, olS, fl_int, fls_nil, fls_cons, t_bl, t_int, t_non, t_lst, d_add, d_sub, d_mul, d_fdiv, d_mod, d_lt, d_le, d_gt, d_ge, d_eqi, d_nei, p_len, p_lent, p_lens, p_int, p_abs, p_tup, p_tupt, p_list, p_listt, p_min2, p_max2, ix_l, ix_t, ix_s, app_d, ext_l, ext_t, bo_ok (t_bl), bo_ok (t_int), bo_ok (t_lst), notR_of (t_lst), os_eq, Es.hasOwn, List.map_cons, List.map_nil, List.length_cons, List.length_nil, List.replicate_succ, List.replicate_zero, List.cons_append, List.nil_append, Nat.reduceSub, Nat.reduceAdd, Nat.sub_self, reduceIte, Bool.not_true, Bool.not_false, Bool.false_eq_true, Bool.and_self, Bool.and_true, Bool.true_and, Nat.reduceBEq, Nat.reduceEqDiff, cF_no, cF_so, cF2_no, cF2_so, cF3_no, cF3_so, cR_b, q_nil, q_nil2, forB_tp2, forB_tp3, ty_bool_non, ty_bool_bl, ty_bool_int, ty_bool_str, ty_bool_tup, ty_bool_lst, ty_int_non, ty_int_bl, ty_int_int, ty_int_str, ty_int_tup, ty_int_lst, ty_str_non, ty_str_bl, ty_str_int, ty_str_str, ty_str_tup, ty_str_lst, ty_tuple_non, ty_tuple_bl, ty_tuple_int, ty_tuple_str, ty_tuple_tup, ty_tuple_lst, ty_list_non, ty_list_bl, ty_list_int, ty_list_str, ty_list_tup, ty_list_lst, d_eqb, d_isn, d_isi, d_isb, d_iss, d_ist, d_isl, d_insn, d_insi, d_inst, d_insl, p_int_b, t_tup, compL_nil, compL_cons, cC_some, cC_none, cK_ok, cN_ok, forL_nil, forL_cons, foR_nx, foR_ct, foR_bk, foR_rt, foR_ex, seq_l, seq_t, enu_l, enu_t, ev_dcomp, dcF_nm, evI_items, agS_int, x_augi, x_ins, x_asgPop, setTg_tpl, forB_tp2l, forB_tp3l, d_isbb, d_insbb, d_isdK, p_lendK, p_lendT, ty_bool_dK, ty_int_dK, ty_str_dK, ty_tuple_dK, ty_list_dK, ms_i1, ms_i2, ms_g2, ms_g1, calR_n, calR_in, calR_bl, ix_pb0, ix_pb1, ix_pb2, ix_pb3, ix_su0, ix_su1, ix_su2, kq_0_0, kq_0_1, kq_0_2, kq_0_3, kq_0_4, kq_0_5, kq_0_6, kq_0_7, kq_1_0, kq_1_1, kq_1_2, kq_1_3, kq_1_4, kq_1_5, kq_1_6, kq_1_7, kq_2_0, kq_2_1, kq_2_2, kq_2_3, kq_2_4, kq_2_5, kq_2_6, kq_2_7, kq_3_0, kq_3_1, kq_3_2, kq_3_3, kq_3_4, kq_3_5, kq_3_6, kq_3_7, kq_4_0, kq_4_1, kq_4_2, kq_4_3, kq_4_4, kq_4_5, kq_4_6, kq_4_7, kq_5_0, kq_5_1, kq_5_2, kq_5_3, kq_5_4, kq_5_5, kq_5_6, kq_5_7, kq_6_0, kq_6_1, kq_6_2, kq_6_3, kq_6_4, kq_6_5, kq_6_6, kq_6_7, kq_7_0, kq_7_1, kq_7_2, kq_7_3, kq_7_4, kq_7_5, kq_7_6, kq_7_7, kn_0, kn_1, kn_2, kn_3, kn_4, kn_5, kn_6, kn_7, $xs,*])
local macro_rules
  | `(tactic| simp_arith [$xs,*] at $h:ident) => `(tactic| simp -implicitDefEqProofs (disch := first | omega | (simp only [List.length_append, List.length_map, List.length_range, List.length_range', List.length_nil, List.length_cons, List.length_singleton, List.length_zipIdx] <;> omega)) only [gv0, gvS, go0, goS, ev_var, ev_own, ev_non, ev_bl, ev_int, ev_str, ev_glb, ev_tup, ev_lst, ev_dK0, ev_dT0, ev_bin, ev_cat, ev_rep, negR_int, ev_neg, notR_bl, ev_not, blR_some, ev_cmp, chR_t, chR_f, ev_chn, ev_and, ev_or, bR_bl, anR_t, anR_f, anR_b, orR_t, orR_f, orR_b, and_one, and_more, or_one, or_more, ev_ife, ev_idx, ev_slc, ev_rev, calR_f, calR_ok, calR_ex, ev_call, ev_prim, ev_mth, ev_isi, ev_srtset, ev_lrng, ev_comp, ev_newc, evs_nil, evs_cons, inR_int, evo_no, evo_so, evI_seq, evI_rng, evI_enum, tv_not, tv_and, tv_or, tv_var, tv_own, tv_non, tv_bl, tv_int, tv_cmp, tv_chn, tv_call, tv_prim, tv_isi, tv_idx, tv_mth, tv_ife, tv_comp, tv_slc, tv_bin, tand_one, tand_more, tor_one, tor_more, b_ok, b_ex, l_some, s_ok, s_ex, q_nx, q_rt, q_bk, q_ct, q_ex, n_some, f_nx, f_rt, f_ex, fr_f, fr_t, fr_k, x_asg, x_asgF, x_frz, onL0, onLS, x_app, x_ext, x_ex, x_ret, x_retN, x_cont, x_brk, x_rais, x_ite, x_for, x_whl, xs_nil, xs_cons, forB_nm, setTg_nm, setTg_tp, setTp_nil, setTp_cons, sl0, slS, w_nil, w_cons, ow0, owS, ob, om, st_e, frR_some, frz_eq, x_setg, x_seti, oc0, ocS, x_appPop, ol0, olS, fl_int, fls_nil, fls_cons, t_bl, t_int, t_non, t_lst, d_add, d_sub, d_mul, d_fdiv, d_mod, d_lt, d_le, d_gt, d_ge, d_eqi, d_nei, p_len, p_lent, p_lens, p_int, p_abs, p_tup, p_tupt, p_list, p_listt, p_min2, p_max2, ix_l, ix_t, ix_s, app_d, ext_l, ext_t, bo_ok (t_bl), bo_ok (t_int), bo_ok (t_lst), notR_of (t_lst), os_eq, Es.hasOwn, List.map_cons, List.map_nil, List.length_cons, List.length_nil, List.replicate_succ, List.replicate_zero, List.cons_append, List.nil_append, Nat.reduceSub, Nat.reduceAdd, Nat.sub_self, reduceIte, Bool.not_true, Bool.not_false, Bool.false_eq_true, Bool.and_self, Bool.and_true, Bool.true_and, Nat.reduceBEq, Nat.reduceEqDiff, cF_no, cF_so, cF2_no, cF2_so, cF3_no, cF3_so, cR_b, q_nil, q_nil2, forB_tp2, forB_tp3, ty_bool_non, ty_bool_bl, ty_bool_int, ty_bool_str, ty_bool_tup, ty_bool_lst, ty_int_non, ty_int_bl, ty_int_int, ty_int_str, ty_int_tup, ty_int_lst, ty_str_non, ty_str_bl, ty_str_int, ty_str_str, ty_str_tup, ty_str_lst, ty_tuple_non, ty_tuple_bl, ty_tuple_int, ty_tuple_str, ty_tuple_tup, ty_tuple_lst, ty_list_non, ty_list_bl, ty_list_int, ty_list_str, ty_list_tup, ty_list_lst, d_eqb, d_isn, d_isi, d_isb, d_iss, d_ist, d_isl, d_insn, d_insi, d_inst, d_insl, p_int_b, t_tup, compL_nil, compL_cons, cC_some, cC_none, cK_ok, cN_ok, forL_nil, forL_cons, foR_nx, foR_ct, foR_bk, foR_rt, foR_ex, seq_l, seq_t, enu_l, enu_t, ev_dcomp, dcF_nm, evI_items, agS_int, x_augi, x_ins, x_asgPop, setTg_tpl, forB_tp2l, forB_tp3l, d_isbb, d_insbb, d_isdK, p_lendK, p_lendT, ty_bool_dK, ty_int_dK, ty_str_dK, ty_tuple_dK, ty_list_dK, ms_i1, ms_i2, ms_g2, ms_g1, calR_n, calR_in, calR_bl, ix_pb0, ix_pb1, ix_pb2, ix_pb3, ix_su0, ix_su1, ix_su2, kq_0_0, kq_0_1, kq_0_2, kq_0_3, kq_0_4, kq_0_5, kq_0_6, kq_0_7, kq_1_0, kq_1_1, kq_1_2, kq_1_3, kq_1_4, kq_1_5, kq_1_6, kq_1_7, kq_2_0, kq_2_1, kq_2_2, kq_2_3, kq_2_4, kq_2_5, kq_2_6, kq_2_7, kq_3_0, kq_3_1, kq_3_2, kq_3_3, kq_3_4, kq_3_5, kq_3_6, kq_3_7, kq_4_0, kq_4_1, kq_4_2, kq_4_3, kq_4_4, kq_4_5, kq_4_6, kq_4_7, kq_5_0, kq_5_1, kq_5_2, kq_5_3, kq_5_4, kq_5_5, kq_5_6, kq_5_7, kq_6_0, kq_6_1, kq_6_2, kq_6_3, kq_6_4, kq_6_5, kq_6_6, kq_6_7, kq_7_0, kq_7_1, kq_7_2, kq_7_3, kq_7_4, kq_7_5, kq_7_6, kq_7_7, kn_0, kn_1, kn_2, kn_3, kn_4, kn_5, kn_6, kn_7, $xs,*] at $h:ident)
/-! ### how far a log is orderly -/
def readyK (q : Pb) (s : Su) (f : Nat) (pre : List KL) (k : KL) : Bool := (eventsL q s f).any fun e => decide (evK e = k) && (causesL q s f e).all fun c => hasK pre (evK c)
def okAt (q : Pb) (s : Su) (f : Nat) (pre : List KL) (k : KL) : Bool := readyK q s f pre k && !hasK pre k
def audN (q : Pb) (s : Su) (f : Nat) : List KL → List KL → Nat
  | pre, [] => pre.length
  | pre, k :: r => if okAt q s f pre k = true then audN q s f (pre ++ [k]) r else pre.length
theorem readyK_ev {q : Pb} {s : Su} {f : Nat} {pre : List KL} {e : Evt} (he : e ∈ eventsL q s f) : readyK q s f pre (evK e) = (causesL q s f e).all fun c => hasK pre (evK c) := by
  unfold readyK
  rw [Bool.eq_iff_iff, List.any_eq_true]
  constructor
  · rintro ⟨e', h1, h2⟩
    rw [Bool.and_eq_true, decide_eq_true_eq] at h2
    rw [← evK_inj h2.1]
    exact h2.2
  · exact fun h => ⟨e, he, by rw [Bool.and_eq_true]; exact ⟨by simp, h⟩⟩
theorem readyK_no {q : Pb} {s : Su} {f : Nat} {pre : List KL} {k : KL} (h : k ∉ (eventsL q s f).map evK) : readyK q s f pre k = false := by
  unfold readyK
  rw [List.any_eq_false]
  intro e he q
  rw [Bool.and_eq_true, decide_eq_true_eq] at q
  exact h (List.mem_map.mpr ⟨e, he, q.1⟩)
end CM

namespace CM
open PySem hiding exec execs start
open PySem.Spec PyProof.Rows L2 MP
local macro_rules
  | `(tactic| simp_arith [$xs,*]) => `(tactic| simp -implicitDefEqProofs (disch := first | omega | (simp only [List.length_append, List.length_map, List.length_range, List.length_range', List.length_nil, List.length_cons, List.length_singleton, List.length_zipIdx] <;> omega)) only [gv0, gvS, go0, goS, ev_var, ev_own, ev_non, ev_bl, ev_int, ev_str, ev_glb, ev_tup, ev_lst, ev_dK0, ev_dT0, ev_bin, ev_cat, ev_rep, negR_int, ev_neg, notR_bl, ev_not, blR_some, ev_cmp, chR_t, chR_f, ev_chn, ev_and, ev_or, bR_bl, anR_t, anR_f, anR_b, orR_t, orR_f, orR_b, and_one, and_more, or_one, or_more, ev_ife, ev_idx, ev_slc, ev_rev, calR_f, calR_ok, calR_ex, ev_call, ev_prim, ev_mth, ev_isi, ev_srtset, ev_lrng, ev_comp, ev_newc, evs_nil, evs_cons, inR_int, evo_no, evo_so, evI_seq, evI_rng, evI_enum, tv_not, tv_and, tv_or, tv_var, tv_own, tv_non, tv_bl, tv_int, tv_cmp, tv_chn, tv_call, tv_prim, tv_isi, tv_idx, tv_mth, tv_ife, tv_comp, tv_slc, tv_bin, tand_one, tand_more, tor_one, tor_more, b_ok, b_ex, l_some, s_ok, s_ex, q_nx, q_rt, q_bk, q_ct, q_ex, n_some, f_nx, f_rt, f_ex, fr_f, fr_t, fr_k, x_asg, x_asgF, x_frz, onL0, onLS, x_app, x_ext, x_ex, x_ret, x_retN, x_cont, x_brk, x_rais, x_ite, x_for, x_whl, xs_nil, xs_cons, forB_nm, setTg_nm, setTg_tp, setTp_nil, setTp_cons, sl0, slS, w_nil, w_cons, ow0, owS, ob, om, st_e, frR_some, frz_eq, x_setg, x_seti, oc0, ocS, x_appPop, ol0, olS, fl_int, fls_nil, fls_cons, t_bl, t_int, t_non, t_lst, d_add, d_sub, d_mul, d_fdiv, d_mod, d_lt, d_le, d_gt, d_ge, d_eqi, d_nei, p_len, p_lent, p_lens, p_int, p_abs, p_tup, p_tupt, p_list, p_listt, p_min2, p_max2, ix_l, ix_t, ix_s, app_d, ext_l, ext_t, bo_ok (t_bl), bo_ok (t_int), bo_ok (t_lst), notR_of (t_lst), os_eq, Es.hasOwn, List.map_cons, List.map_nil, List.length_cons, List.length_nil, List.replicate_succ, List.replicate_zero, List.cons_append, List.nil_append, Nat.reduceSub, Nat.reduceAdd, Nat.sub_self, reduceIte, Bool.not_true, Bool.not_false, Bool.false_eq_true, Bool.and_self, Bool.and_true, Bool.true_and, Nat.reduceBEq, Nat.reduceEqDiff, cF_no, cF_so, cF2_no, cF2_so, cF3_no, cF3_so, cR_b, q_nil, q_nil2, forB_tp2, forB_tp3, ty_bool_non, ty_bool_bl, ty_bool_int, ty_bool_str, ty_bool_tup, ty_bool_lst, ty_int_non, ty_int_bl, ty_int_int, ty_int_str, ty_int_tup, ty_int_lst, ty_str_non, ty_str_bl, ty_str_int, ty_str_str, ty_str_tup, ty_str_lst, ty_tuple_non, ty_tuple_bl, ty_tuple_int, ty_tuple_str, ty_tuple_tup, ty_tuple_lst, ty_list_non, ty_list_bl, ty_list_int, ty_list_str, ty_list_tup, ty_list_lst, d_eqb, d_isn, d_isi, d_isb, d_iss, d_ist, d_isl, d_insn, d_insi, d_inst, d_insl, p_int_b, t_tup, compL_nil, compL_cons, cC_some, cC_none, cK_ok, cN_ok, forL_nil, forL_cons, foR_nx, foR_ct, foR_bk, foR_rt, foR_ex, seq_l, seq_t, enu_l, enu_t, ev_dcomp, dcF_nm, evI_items, agS_int, x_augi, x_ins, x_asgPop, setTg_tpl, forB_tp2l, forB_tp3l, d_isbb, d_insbb, d_isdK, p_lendK, p_lendT, ty_bool_dK, ty_int_dK, ty_str_dK, ty_tuple_dK, ty_list_dK, ms_i1, ms_i2, ms_g2, ms_g1, calR_n, calR_in, calR_bl, ix_pb0, ix_pb1, ix_pb2, ix_pb3, ix_su0, ix_su1, ix_su2, kq_0_0, kq_0_1, kq_0_2, kq_0_3, kq_0_4, kq_0_5, kq_0_6, kq_0_7, kq_1_0, kq_1_1, kq_1_2, kq_1_3, kq_1_4, kq_1_5, kq_1_6, kq_1_7, kq_2_0, kq_2_1, kq_2_2, kq_2_3, kq_2_4, kq_2_5, kq_2_6, kq_2_7, kq_3_0, kq_3_1, kq_3_2, kq_3_3, kq_3_4, kq_3_5, kq_3_6, kq_3_7, kq_4_0, kq_4_1, kq_4_2, kq_4_3, kq_4_4, kq_4_5, kq_4_6, kq_4_7, kq_5_0, kq_5_1, kq_5_2, kq_5_3, kq_5_4, kq_5_5, kq_5_6, kq_5_7, kq_6_0, kq_6_1, kq_6_2, kq_6_3, kq_6_4, kq_6_5, kq_6_6, kq_6_7, kq_7_0, kq_7_1, kq_7_2, kq_7_3, kq_7_4, kq_7_5, kq_7_6, kq_7_7, kn_0, kn_1, kn_2, kn_3, kn_4, kn_5, kn_6, kn_7, $xs,*])
local macro_rules
  | `(tactic| simp_arith [$xs,*] at $h:ident) => `(tactic| simp -implicitDefEqProofs (disch := first | omega | (simp only [List.length_append, List.length_map, List.length_range, List.length_range', List.length_nil, List.length_cons, List.length_singleton, List.length_zipIdx] <;> omega)) only [gv0, gvS, go0, goS, ev_var, ev_own, ev_non, ev_bl, ev_int, ev_str, ev_glb, ev_tup, ev_lst, ev_dK0, ev_dT0, ev_bin, ev_cat, ev_rep, negR_int, ev_neg, notR_bl, ev_not, blR_some, ev_cmp, chR_t, chR_f, ev_chn, ev_and, ev_or, bR_bl, anR_t, anR_f, anR_b, orR_t, orR_f, orR_b, and_one, and_more, or_one, or_more, ev_ife, ev_idx, ev_slc, ev_rev, calR_f, calR_ok, calR_ex, ev_call, ev_prim, ev_mth, ev_isi, ev_srtset, ev_lrng, ev_comp, ev_newc, evs_nil, evs_cons, inR_int, evo_no, evo_so, evI_seq, evI_rng, evI_enum, tv_not, tv_and, tv_or, tv_var, tv_own, tv_non, tv_bl, tv_int, tv_cmp, tv_chn, tv_call, tv_prim, tv_isi, tv_idx, tv_mth, tv_ife, tv_comp, tv_slc, tv_bin, tand_one, tand_more, tor_one, tor_more, b_ok, b_ex, l_some, s_ok, s_ex, q_nx, q_rt, q_bk, q_ct, q_ex, n_some, f_nx, f_rt, f_ex, fr_f, fr_t, fr_k, x_asg, x_asgF, x_frz, onL0, onLS, x_app, x_ext, x_ex, x_ret, x_retN, x_cont, x_brk, x_rais, x_ite, x_for, x_whl, xs_nil, xs_cons, forB_nm, setTg_nm, setTg_tp, setTp_nil, setTp_cons, sl0, slS, w_nil, w_cons, ow0, owS, ob, om, st_e, frR_some, frz_eq, x_setg, x_seti, oc0, ocS, x_appPop, ol0, olS, fl_int, fls_nil, fls_cons, t_bl, t_int, t_non, t_lst, d_add, d_sub, d_mul, d_fdiv, d_mod, d_lt, d_le, d_gt, d_ge, d_eqi, d_nei, p_len, p_lent, p_lens, p_int, p_abs, p_tup, p_tupt, p_list, p_listt, p_min2, p_max2, ix_l, ix_t, ix_s, app_d, ext_l, ext_t, bo_ok (t_bl), bo_ok (t_int), bo_ok (t_lst), notR_of (t_lst), os_eq, Es.hasOwn, List.map_cons, List.map_nil, List.length_cons, List.length_nil, List.replicate_succ, List.replicate_zero, List.cons_append, List.nil_append, Nat.reduceSub, Nat.reduceAdd, Nat.sub_self, reduceIte, Bool.not_true, Bool.not_false, Bool.false_eq_true, Bool.and_self, Bool.and_true, Bool.true_and, Nat.reduceBEq, Nat.reduceEqDiff, cF_no, cF_so, cF2_no, cF2_so, cF3_no, cF3_so, cR_b, q_nil, q_nil2, forB_tp2, forB_tp3, ty_bool_non, ty_bool_bl, ty_bool_int, ty_bool_str, ty_bool_tup, ty_bool_lst, ty_int_non, ty_int_bl, ty_int_int, ty_int_str, ty_int_tup, ty_int_lst, ty_str_non, ty_str_bl, ty_str_int, ty_str_str, ty_str_tup, ty_str_lst, ty_tuple_non, ty_tuple_bl, ty_tuple_int, ty_tuple_str, ty_tuple_tup, ty_tuple_lst, ty_list_non, ty_list_bl, ty_list_int, ty_list_str, ty_list_tup, ty_list_lst, d_eqb, d_isn, d_isi, d_isb, d_iss, d_ist, d_isl, d_insn, d_insi, d_inst, d_insl, p_int_b, t_tup, compL_nil, compL_cons, cC_some, cC_none, cK_ok, cN_ok, forL_nil, forL_cons, foR_nx, foR_ct, foR_bk, foR_rt, foR_ex, seq_l, seq_t, enu_l, enu_t, ev_dcomp, dcF_nm, evI_items, agS_int, x_augi, x_ins, x_asgPop, setTg_tpl, forB_tp2l, forB_tp3l, d_isbb, d_insbb, d_isdK, p_lendK, p_lendT, ty_bool_dK, ty_int_dK, ty_str_dK, ty_tuple_dK, ty_list_dK, ms_i1, ms_i2, ms_g2, ms_g1, calR_n, calR_in, calR_bl, ix_pb0, ix_pb1, ix_pb2, ix_pb3, ix_su0, ix_su1, ix_su2, kq_0_0, kq_0_1, kq_0_2, kq_0_3, kq_0_4, kq_0_5, kq_0_6, kq_0_7, kq_1_0, kq_1_1, kq_1_2, kq_1_3, kq_1_4, kq_1_5, kq_1_6, kq_1_7, kq_2_0, kq_2_1, kq_2_2, kq_2_3, kq_2_4, kq_2_5, kq_2_6, kq_2_7, kq_3_0, kq_3_1, kq_3_2, kq_3_3, kq_3_4, kq_3_5, kq_3_6, kq_3_7, kq_4_0, kq_4_1, kq_4_2, kq_4_3, kq_4_4, kq_4_5, kq_4_6, kq_4_7, kq_5_0, kq_5_1, kq_5_2, kq_5_3, kq_5_4, kq_5_5, kq_5_6, kq_5_7, kq_6_0, kq_6_1, kq_6_2, kq_6_3, kq_6_4, kq_6_5, kq_6_6, kq_6_7, kq_7_0, kq_7_1, kq_7_2, kq_7_3, kq_7_4, kq_7_5, kq_7_6, kq_7_7, kn_0, kn_1, kn_2, kn_3, kn_4, kn_5, kn_6, kn_7, $xs,*] at $h:ident)
/-! ### keys compared as tuples -/
def okK (k : KL) : Bool := k.all fun x => match x with
  | .inl _ => true
  | .inr s => PyData.strOk s
theorem okK_ev (e : Evt) : okK (evK e) = true := by
  cases e <;> (simp only [okK, evK, nK, List.all_cons, List.all_nil, Bool.and_true]; decide +kernel)
theorem okDs_k (n : Nat) : ∀ k : KL, okK k = true → okDs (n + 1) (k.map kD) = true
  | [], _ => rfl
  | .inl i :: k, h => by
    simp only [okK, List.all_cons, Bool.true_and] at h
    simp only [List.map_cons, MP.kD, okDs, okD, okDs_k n k h, Bool.and_self]
  | .inr s :: k, h => by
    simp only [okK, List.all_cons, Bool.and_eq_true] at h
    simp only [List.map_cons, MP.kD, okDs, okD, okDs_k n k h.2, h.1, Bool.and_self]
theorem plain_tD {k : KL} (h : okK k = true) : MP.plain (tD k) = true := by
  unfold tD MP.plain
  rw [okD]
  exact okDs_k 38 k h
theorem deq_keys : ∀ k j : KL, PyData.eqvAll (pys (k.map kD)) (pys (j.map kD)) = decide (k = j)
  | [], [] => rfl
  | [], y :: j => by simp [pys, PyData.eqvAll]
  | x :: k, [] => by simp [pys, PyData.eqvAll]
  | .inl a :: k, .inl b :: j => by
    simp only [List.map_cons, MP.kD, pys, py, PyData.eqvAll, PyData.eqv, deq_keys k j]
    by_cases h : a = b <;> by_cases h2 : k = j <;> simp [h, h2]
  | .inr a :: k, .inr b :: j => by
    simp only [List.map_cons, MP.kD, pys, py, PyData.eqvAll, PyData.eqv, deq_keys k j]
    by_cases h : a = b <;> by_cases h2 : k = j <;> simp [h, h2]
  | .inl a :: k, .inr b :: j => by simp [MP.kD, pys, py, PyData.eqvAll, PyData.eqv]
  | .inr a :: k, .inl b :: j => by simp [MP.kD, pys, py, PyData.eqvAll, PyData.eqv]
theorem deq_tD (k j : KL) : deq (tD k) (tD j) = decide (k = j) := by
  show PyData.eqv (py (tD k)) (py (tD j)) = _
  unfold tD
  simp only [py, PyData.eqv]
  exact deq_keys k j
theorem eq_tD {k j : KL} (h : okK k = true) (h2 : okK j = true) : cmpD .eq (tD k) (tD j) = some (decide (k = j)) := by
  have := deq_tD k j
  unfold tD at this ⊢
  have p1 := plain_tD h
  have p2 := plain_tD h2
  unfold tD at p1 p2
  simp only [cmpD, p1, p2, Bool.and_self, if_true, this]
theorem ne_tD {k j : KL} (h : okK k = true) (h2 : okK j = true) : cmpD .ne (tD k) (tD j) = some (!decide (k = j)) := by
  have := deq_tD k j
  unfold tD at this ⊢
  have p1 := plain_tD h
  have p2 := plain_tD h2
  unfold tD at p1 p2
  simp only [cmpD, p1, p2, Bool.and_self, if_true, this]
theorem okDs_tD : ∀ l : List KL, (∀ k ∈ l, okK k = true) → okDs 40 (l.map tD) = true
  | [], _ => rfl
  | k :: l, h => by
    have h1 := okDs_k 38 k (h k (by simp))
    have h2 := okDs_tD l fun j hj => h j (List.mem_cons_of_mem _ hj)
    rw [List.map_cons, okDs, h2]
    unfold tD
    rw [okD, h1]; rfl
theorem any_tD (k : KL) : ∀ l : List KL, ((l.map tD).any fun z => deq z (tD k)) = hasK l k
  | [] => rfl
  | j :: l => by rw [List.map_cons, List.any_cons, any_tD k l, deq_tD]; rfl
theorem in_l {k : KL} {l : List KL} (h : okK k = true) (h2 : ∀ j ∈ l, okK j = true) : cmpD .isin (tD k) (.lst (l.map tD)) = some (hasK l k) := by
  simp only [cmpD, inD, plain_tD h, okDs_tD l h2, Bool.and_self, if_true, any_tD]
theorem nin_l {k : KL} {l : List KL} (h : okK k = true) (h2 : ∀ j ∈ l, okK j = true) : cmpD .notin (tD k) (.lst (l.map tD)) = some (!hasK l k) := by
  simp only [cmpD, inD, plain_tD h, okDs_tD l h2, Bool.and_self, if_true, any_tD, Option.map]
/-! ### an event by its parts -/
def evN : Evt → Nat
  | .req r _ => r
  | .read r _ => r
  | .rep r _ => r
  | .val r _ _ => r
  | .cmp w _ => w
  | .upd r _ _ => r
  | .wr r _ => r
  | .ack r _ => r
def evX : Evt → List Nat
  | .val _ _ w => [w]
  | .upd _ _ w => [w]
  | _ => []
def kindS : Evt → Str
  | .req _ _ => "request"
  | .read _ _ => "read"
  | .rep _ _ => "reply"
  | .val _ _ _ => "value"
  | .cmp _ _ => "compute"
  | .upd _ _ _ => "update"
  | .wr _ _ => "write"
  | .ack _ _ => "ack"
theorem I_req (r t : Nat) : evI (.req r t) = 0 := rfl
theorem N_req (r t : Nat) : evN (.req r t) = r := rfl
theorem T_req (r t : Nat) : evT (.req r t) = t := rfl
theorem K_req (r t : Nat) : kindS (.req r t) = "request" := rfl
theorem I_read (r t : Nat) : evI (.read r t) = 1 := rfl
theorem N_read (r t : Nat) : evN (.read r t) = r := rfl
theorem T_read (r t : Nat) : evT (.read r t) = t := rfl
theorem K_read (r t : Nat) : kindS (.read r t) = "read" := rfl
theorem I_rep (r t : Nat) : evI (.rep r t) = 2 := rfl
theorem N_rep (r t : Nat) : evN (.rep r t) = r := rfl
theorem T_rep (r t : Nat) : evT (.rep r t) = t := rfl
theorem K_rep (r t : Nat) : kindS (.rep r t) = "reply" := rfl
theorem I_val (r t w : Nat) : evI (.val r t w) = 3 := rfl
theorem N_val (r t w : Nat) : evN (.val r t w) = r := rfl
theorem T_val (r t w : Nat) : evT (.val r t w) = t := rfl
theorem K_val (r t w : Nat) : kindS (.val r t w) = "value" := rfl
theorem I_cmp (r t : Nat) : evI (.cmp r t) = 4 := rfl
theorem N_cmp (r t : Nat) : evN (.cmp r t) = r := rfl
theorem T_cmp (r t : Nat) : evT (.cmp r t) = t := rfl
theorem K_cmp (r t : Nat) : kindS (.cmp r t) = "compute" := rfl
theorem I_upd (r t w : Nat) : evI (.upd r t w) = 5 := rfl
theorem N_upd (r t w : Nat) : evN (.upd r t w) = r := rfl
theorem T_upd (r t w : Nat) : evT (.upd r t w) = t := rfl
theorem K_upd (r t w : Nat) : kindS (.upd r t w) = "update" := rfl
theorem I_wr (r t : Nat) : evI (.wr r t) = 6 := rfl
theorem N_wr (r t : Nat) : evN (.wr r t) = r := rfl
theorem T_wr (r t : Nat) : evT (.wr r t) = t := rfl
theorem K_wr (r t : Nat) : kindS (.wr r t) = "write" := rfl
theorem I_ack (r t : Nat) : evI (.ack r t) = 7 := rfl
theorem N_ack (r t : Nat) : evN (.ack r t) = r := rfl
theorem T_ack (r t : Nat) : evT (.ack r t) = t := rfl
theorem K_ack (r t : Nat) : kindS (.ack r t) = "ack" := rfl
theorem andL (c b : Bool) (G : Gs) : (if c = true then Res.ok (D.bl b) G else .ok (.bl false) G) = .ok (.bl (c && b)) G := by cases c <;> rfl
theorem orL (c b : Bool) (G : Gs) : (if c = true then Res.ok (D.bl true) G else .ok (.bl b) G) = .ok (.bl (c || b)) G := by cases c <;> rfl
theorem D_upd (r t w : Nat) : evD (.upd r t w) = .tup false [.str "update", nD r, nD t, nD w] := rfl
theorem D_val (r t w : Nat) : evD (.val r t w) = .tup false [.str "value", nD r, nD t, nD w] := rfl
theorem npred (a b : Nat) : ((a : Int) == (b : Int) - 1) = (a + 1 == b) := by
  rw [Bool.eq_iff_iff]; simp only [beq_iff_eq]; omega
theorem sl_ev (e : Evt) : slcD none (some 3) (evD e) = some (.tup (!(evX e).isEmpty) [.str (kindS e), nD (evN e), nD (evT e)]) := by cases e <;> rfl
theorem kd_req (e : Evt) : cmpD .eq (.str (kindS e)) (.str "request") = some (evI e == 0) := by cases e <;> (simp only [kindS, evI]; decide +kernel)
theorem kd_rep (e : Evt) : cmpD .eq (.str (kindS e)) (.str "reply") = some (evI e == 2) := by cases e <;> (simp only [kindS, evI]; decide +kernel)
theorem kd_val (e : Evt) : cmpD .eq (.str (kindS e)) (.str "value") = some (evI e == 3) := by cases e <;> (simp only [kindS, evI]; decide +kernel)
theorem kd_cmp (e : Evt) : cmpD .eq (.str (kindS e)) (.str "compute") = some (evI e == 4) := by cases e <;> (simp only [kindS, evI]; decide +kernel)
theorem kd_upd (e : Evt) : cmpD .eq (.str (kindS e)) (.str "update") = some (evI e == 5) := by cases e <;> (simp only [kindS, evI]; decide +kernel)
theorem kd_wr (e : Evt) : cmpD .eq (.str (kindS e)) (.str "write") = some (evI e == 6) := by cases e <;> (simp only [kindS, evI]; decide +kernel)
theorem kd_ack (e : Evt) : cmpD .eq (.str (kindS e)) (.str "ack") = some (evI e == 7) := by cases e <;> (simp only [kindS, evI]; decide +kernel)
theorem kd_ncmp (e : Evt) : cmpD .ne (.str (kindS e)) (.str "compute") = some (!(evI e == 4)) := by cases e <;> (simp only [kindS, evI]; decide +kernel)
theorem take1_eq {l : List Nat} {b : Nat} : cmpD .eq (.lst ((l.take 1).map nD)) (.lst [nD b]) = some (decide (l.head? = some b)) := by
  cases l with
  | nil => rfl
  | cons a l =>
    show some (deq (.lst [nD a]) (.lst [nD b])) = _
    have : deq (.lst [nD a]) (.lst [nD b]) = decide ((a : Int) = (b : Int)) := by
      show PyData.eqv (.list [.int a]) (.list [.int b]) = _
      simp only [PyData.eqv, PyData.eqvAll, Bool.and_true]
      by_cases h : (a : Int) = b <;> simp [h]
    rw [this, List.head?_cons]
    congr 1
    rw [decide_eq_decide]
    constructor
    · intro h; congr 1; omega
    · intro h; cases h; rfl
theorem cut_nat0 (l : List D) (b : Nat) : MP.cutD l none (some (b : Int)) = l.take b := by
  unfold MP.cutD
  rw [HT.sIx_none, HT.sIx_nat]
  by_cases h : b ≤ l.length
  · rw [Nat.min_eq_left h]; simp
  · rw [Nat.min_eq_right (by omega), List.drop_zero, Nat.sub_zero, List.take_length, List.take_of_length_le (by omega)]
theorem cut_natE (l : List D) (a : Nat) : MP.cutD l (some (a : Int)) none = l.drop a := by
  unfold MP.cutD
  rw [HT.sIx_none, HT.sIx_nat]
  by_cases h : a ≤ l.length
  · rw [Nat.min_eq_left h, List.take_of_length_le (by rw [List.length_drop]; exact Nat.le_refl _)]
  · rw [Nat.min_eq_right (by omega), Nat.sub_self, List.take_zero, List.drop_eq_nil_of_le (by omega)]
theorem sl_take1 {l : List Nat} : slcD none (some 1) (.lst (l.map nD)) = some (.lst ((l.take 1).map nD)) := by
  have := cut_nat0 (l.map nD) 1
  simp only [slcD]
  rw [show (some (1 : Int)) = some ((1 : Nat) : Int) from rfl, this, List.map_take]
/-- o goes ahead of e by use: the next use of the row after o's batch is e's -/
def folB (q : Pb) (f : Nat) (o e : Evt) : Bool := !(evI o == 4) && (evN o == evN e && ((usesL q f (evN e)).contains (evT o) && decide (((usesL q f (evN e)).filter fun t => decide (evT o < t)).head? = some (evT e))))
def isC (q : Pb) (s : Su) (f : Nat) (o e : Evt) : Bool :=
  match e with
  | .req _ t => (evI o == 7 && folB q f o e) || (evI o == 5 && decide (evT o + s.wn ≤ t))
  | .val r t _ => if evI o == 2 then (evN o == r && evT o == t) else (evI o == 5 && (folB q f o e && decide (t ≤ evT o + s.wn)))
  | .cmp w t => if evI o == 4 then (evN o == w && evT o + 1 == t) else if evI o == 3 then (evT o == t && (evX o).head? == some w) else (evI o == 5 && decide (evT o + s.ld ≤ t))
  | .upd _ t w => decide (o = .cmp w t)
  | .wr r t => evI o == 5 && (evN o == r && evT o == t)
  | .read r t => decide (o = .req r t)
  | .rep r t => decide (o = .read r t)
  | .ack r t => decide (o = .wr r t)
section
variable {q : Pb} {s : Su} {f : Nat}
theorem head_min {l : List Nat} (h : Asc l) {p : Nat → Bool} {b : Nat} : (l.filter p).head? = some b ↔ b ∈ l ∧ p b = true ∧ ∀ u ∈ l, p u = true → b ≤ u := by
  induction l with
  | nil => simp
  | cons x l ih =>
    have h1 := List.pairwise_cons.mp h
    rw [List.filter_cons]
    by_cases hp : p x = true
    · rw [if_pos hp, List.head?_cons]
      constructor
      · intro e; cases e
        exact ⟨by simp, hp, fun u hu _ => by
          rcases List.mem_cons.mp hu with rfl | hu
          · exact Nat.le_refl _
          · exact Nat.le_of_lt (h1.1 u hu)⟩
      · rintro ⟨k1, k2, k3⟩
        have a1 := k3 x (by simp) hp
        rcases List.mem_cons.mp k1 with rfl | k1
        · rfl
        · have := h1.1 b k1
          omega
    · rw [if_neg hp, ih h1.2]
      constructor
      · rintro ⟨k1, k2, k3⟩
        exact ⟨List.mem_cons_of_mem _ k1, k2, fun u hu hpu => by
          rcases List.mem_cons.mp hu with rfl | hu
          · exact absurd hpu hp
          · exact k3 u hu hpu⟩
      · rintro ⟨k1, k2, k3⟩
        rcases List.mem_cons.mp k1 with rfl | k1
        · exact absurd k2 hp
        · exact ⟨k1, k2, fun u hu => k3 u (List.mem_cons_of_mem _ hu)⟩
/-- the next use after u is b: u is the last one ahead of b -/
theorem next_prev {r u b : Nat} (hb : b ∈ usesL q f r) : ((usesL q f r).contains u && decide (((usesL q f r).filter fun t => decide (u < t)).head? = some b)) = decide (useB q f r b = some u) := by
  rw [Bool.eq_iff_iff, Bool.and_eq_true, List.contains_iff_mem, decide_eq_true_eq, decide_eq_true_eq, head_min (uses_asc q f r), useB_some]
  simp only [decide_eq_true_eq]
  constructor
  · rintro ⟨h1, h2, h3, h4⟩
    refine ⟨h1, h3, fun v hv hvb => ?_⟩
    by_cases k : u < v
    · have := h4 v hv k; omega
    · omega
  · rintro ⟨h1, h2, h3⟩
    refine ⟨h1, hb, h2, fun v hv huv => ?_⟩
    by_cases k : v < b
    · have := h3 v hv k; omega
    · omega
theorem fol_eq {o e : Evt} (hb : evT e ∈ usesL q f (evN e)) : folB q f o e = (!(evI o == 4) && (evN o == evN e && decide (useB q f (evN e) (evT e) = some (evT o)))) := by
  unfold folB
  rw [next_prev hb]
theorem ite_tr {c : Prop} [Decidable c] {a b : Bool} : ((if c then a else b) = true) ↔ (c ∧ a = true) ∨ (¬ c ∧ b = true) := by
  by_cases h : c <;> simp [h]
theorem isC_eq {o e : Evt} (ho : o ∈ eventsL q s f) (he : e ∈ eventsL q s f) : isC q s f o e = decide (o ∈ causesL q s f e) := by
  rw [mem_events] at ho he
  obtain ⟨⟨ho1, ho2⟩, ho3⟩ := ho
  obtain ⟨⟨he1, he2⟩, he3⟩ := he
  rw [Bool.eq_iff_iff, decide_eq_true_eq]
  cases e with
  | req r t =>
    simp only [isEv] at he3
    simp only [evT] at he1 he2
    obtain ⟨k1, k2, k3⟩ := mem_open.mp he3
    simp only [isC, fol_eq (o := o) (e := .req r t) k2, causesL, reqC, List.mem_append, mem_upds, ite_tr, Bool.or_eq_true, Bool.and_eq_true, decide_eq_true_eq, beq_iff_eq, Bool.not_eq_true', beq_eq_false_iff_ne]
    cases o with
    | ack r' u =>
      simp only [evI, evN, evT]
      constructor
      · intro h
        have h : r' = r ∧ useB q f r t = some u := by simpa using h
        obtain ⟨rfl, h⟩ := h
        rw [h]; exact .inl (by simp)
      · rintro (h | h)
        · cases hu : useB q f r t with
          | none => rw [hu] at h; cases h
          | some v =>
            rw [hu] at h
            have h : r' = r ∧ u = v := by simpa using h
            simp [h]
        · obtain ⟨_, _, _, h, _⟩ := h; cases h
    | upd r' u w =>
      simp only [isEv] at ho3
      simp only [evT] at ho1
      simp only [evI, evN, evT]
      constructor
      · intro h
        have h : u + s.wn ≤ t := by simpa using h
        exact .inr ⟨r', u, w, rfl, ho1, by omega, ho3⟩
      · rintro (h | ⟨_, _, _, h, _, h2, _⟩)
        · cases hu : useB q f r t <;> rw [hu] at h <;> simp at h
        · cases h
          simp; omega
    | _ =>
      simp only [evI]
      constructor
      · intro h; simp at h
      · rintro (h | ⟨_, _, _, h, _⟩)
        · cases hu : useB q f r t <;> rw [hu] at h <;> simp at h
        · cases h
  | val r t w =>
    simp only [isEv] at he3
    simp only [evT] at he1 he2
    have ht : t ∈ usesL q f r := uses_mem.mpr ⟨he1, he2, (users_lt he3.2).2⟩
    simp only [isC, fol_eq (o := o) (e := .val r t w) ht, causesL, valC, ite_tr, Bool.or_eq_true, Bool.and_eq_true, decide_eq_true_eq, beq_iff_eq, Bool.not_eq_true', beq_eq_false_iff_ne]
    cases o with
    | rep r' u =>
      simp only [isEv] at ho3
      simp only [evI, evN, evT]
      obtain ⟨k1, k2, k3⟩ := mem_open.mp ho3
      constructor
      · intro h
        have h : r' = r ∧ u = t := by simpa using h
        obtain ⟨rfl, rfl⟩ := h
        cases hu : useB q f r' u with
        | none => simp
        | some v =>
          obtain ⟨m1, m2, m3⟩ := useB_some.mp hu
          have := k3 v m1 m2
          simp only
          rw [if_pos (by omega)]; simp
      · intro h
        cases hu : useB q f r t with
        | none => rw [hu] at h; simpa using h
        | some v =>
          rw [hu] at h
          simp only at h
          split at h
          · simpa using h
          · simp at h
    | upd r' u w' =>
      simp only [isEv] at ho3
      simp only [evI, evN, evT]
      constructor
      · intro h
        have h : (r' = r ∧ useB q f r t = some u) ∧ t ≤ u + s.wn := by simpa using h
        obtain ⟨⟨rfl, h⟩, h2⟩ := h
        rw [h]
        simp only
        rw [if_neg (by omega)]
        exact List.mem_map.mpr ⟨w', ho3.2, rfl⟩
      · intro h
        cases hu : useB q f r t with
        | none => rw [hu] at h; simp at h
        | some v =>
          rw [hu] at h
          simp only at h
          split at h
          · simp at h
          · obtain ⟨w2, hw2, e⟩ := List.mem_map.mp h
            cases e
            simp; omega
    | _ =>
      simp only [evI]
      constructor
      · intro h; simp at h
      · intro h
        cases hu : useB q f r t with
        | none => rw [hu] at h; simp at h
        | some v =>
          rw [hu] at h
          simp only at h
          split at h <;> simp at h
  | cmp w t =>
    simp only [isEv] at he3
    simp only [evT] at he1 he2
    simp only [isC, causesL, cmpC, List.mem_append, mem_upds, List.mem_map, List.mem_filter, mem_hand, ite_tr, Bool.or_eq_true, Bool.and_eq_true, decide_eq_true_eq, beq_iff_eq, Bool.not_eq_true', beq_eq_false_iff_ne]
    cases o with
    | cmp w' u =>
      simp only [evT] at ho1
      simp only [evI, evN, evT, evX]
      constructor
      · intro h
        have h : w' = w ∧ u + 1 = t := by simpa using h
        obtain ⟨rfl, rfl⟩ := h
        exact .inl (.inl (by rw [if_pos (by omega)]; simp))
      · rintro ((h | ⟨p, _, h⟩) | ⟨_, _, _, h, _⟩)
        · split at h
          · have h : w' = w ∧ u = t - 1 := by simpa using h
            simp; omega
          · simp at h
        · cases h
        · cases h
    | val r u w' =>
      simp only [isEv] at ho3
      simp only [evI, evN, evT, evX]
      constructor
      · intro h
        have h : u = t ∧ w' = w := by simpa using h
        obtain ⟨rfl, rfl⟩ := h
        exact .inl (.inr ⟨(r, w'), ⟨ho3, by simp⟩, rfl⟩)
      · rintro ((h | ⟨p, ⟨_, h2⟩, h⟩) | ⟨_, _, _, h, _⟩)
        · split at h <;> simp at h
        · cases h; simp
        · cases h
    | upd r u w' =>
      simp only [isEv] at ho3
      simp only [evT] at ho1
      simp only [evI, evN, evT, evX]
      constructor
      · intro h
        have h : u + s.ld ≤ t := by simpa using h
        exact .inr ⟨r, u, w', rfl, ho1, by omega, ho3⟩
      · rintro ((h | ⟨p, _, h⟩) | ⟨_, _, _, h, _, h2, _⟩)
        · split at h <;> simp at h
        · cases h
        · cases h
          simp; omega
    | _ =>
      simp only [evI]
      constructor
      · intro h; simp at h
      · rintro ((h | ⟨p, _, h⟩) | ⟨_, _, _, h, _⟩)
        · split at h <;> simp at h
        · cases h
        · cases h
  | wr r t =>
    simp only [isC, causesL, List.mem_map, ite_tr, Bool.or_eq_true, Bool.and_eq_true, decide_eq_true_eq, beq_iff_eq, Bool.not_eq_true', beq_eq_false_iff_ne]
    cases o with
    | upd r' u w =>
      simp only [isEv] at ho3
      simp only [evI, evN, evT]
      constructor
      · intro h
        have h : r' = r ∧ u = t := by simpa using h
        obtain ⟨rfl, rfl⟩ := h
        exact ⟨w, ho3.2, rfl⟩
      · rintro ⟨w', _, h⟩
        cases h; simp
    | _ =>
      simp only [evI]
      constructor
      · intro h; simp at h
      · rintro ⟨_, _, h⟩; cases h
  | upd r t w => simp [isC, causesL]
  | read r t => simp [isC, causesL]
  | rep r t => simp [isC, causesL]
  | ack r t => simp [isC, causesL]
end
section
variable {n : Nat} {G : Gs} {q : Pb} {s : Su}
theorem is_cause_eq {f : Nat} (o e : Evt) (hq : GoodP q) (hf : f ≤ 1000) : callN Pr (n + 3) "_law_is_cause" [pbD q, suD s, nD f, evD o, evD e] G = .ok (.bl (isC q s f o e)) G := by
  rw [call_eq P_law_is_cause rfl]
  have e1 := law_uses_eq (n := n) (G := G) (f := f) (r := evN e) hq hf
  have cmp1 : ∀ (x : Str) (A B C D' E' F : Sl), compL (compF (callN Pr (n + 2)) (.nm 13 x) d_law_is_cause_e0 (.so d_law_is_cause_c1) [13] [.val (pbD q), .val (suD s), .val (nD f), .val (evD o), .val (evD e), A, B, C, D', E', .val (nD (evT o)), F, .un, .un]) ((usesL q f (evN e)).map nD) G = .ok (((usesL q f (evN e)).filter fun t => decide (evT o < t)).map nD) G := fun x A B C D' E' F => compL_fm _ _ _ fun t _ => by
    simp_arith [d_law_is_cause_c1, d_law_is_cause_e0, nlt, cif]
  have x3 : ∀ a b c d : D, atI [a, b, c, d] 3 = some d := fun _ _ _ _ => rfl
  have dsp : ∀ env, ev (callN Pr (n + 2)) (.disp (.cons (.str "read") (.cons (.str "reply") (.cons (.str "ack") .nil))) (.cons (.str "request") (.cons (.str "read") (.cons (.str "write") .nil)))) env G = .ok (.dK [.inr "read", .inr "reply", .inr "ack"] [.str "request", .str "read", .str "write"]) G := fun env => by kernel_rfl
  have i1 : idxD G (.dK [.inr "read", .inr "reply", .inr "ack"] [.str "request", .str "read", .str "write"]) (.str "read") = some (.str "request") := by kernel_rfl
  have i2 : idxD G (.dK [.inr "read", .inr "reply", .inr "ack"] [.str "request", .str "read", .str "write"]) (.str "reply") = some (.str "read") := by kernel_rfl
  have i3 : idxD G (.dK [.inr "read", .inr "reply", .inr "ack"] [.str "request", .str "read", .str "write"]) (.str "ack") = some (.str "write") := by kernel_rfl
  have eqe : ∀ a : Evt, cmpD .eq (evD o) (evD a) = some (decide (o = a)) := fun a => by
    rw [ev_tD, ev_tD, eq_tD (okK_ev o) (okK_ev a)]
    congr 1
    rw [decide_eq_decide]
    exact ⟨evK_inj, fun h => by rw [h]⟩
  simp_arith [d_law_is_cause, sl_ev, e1, kd_ncmp, cmp1, sl_take1, take1_eq, d_in, nbeq, andL, orL, kd_req, kd_rep, kd_val, kd_cmp, kd_upd, kd_wr, kd_ack, nle, nlt, nadd]
  have c3 : ∀ w t : Nat, cmpD .eq (evD o) (.tup false [.str "compute", nD w, nD t]) = some (decide (o = .cmp w t)) := fun w t => eqe (.cmp w t)
  have c4 : ∀ w t : Nat, cmpD .eq (evD o) (.tup false [.str "request", nD w, nD t]) = some (decide (o = .req w t)) := fun w t => eqe (.req w t)
  have c5 : ∀ w t : Nat, cmpD .eq (evD o) (.tup false [.str "read", nD w, nD t]) = some (decide (o = .read w t)) := fun w t => eqe (.read w t)
  have c6 : ∀ w t : Nat, cmpD .eq (evD o) (.tup false [.str "write", nD w, nD t]) = some (decide (o = .wr w t)) := fun w t => eqe (.wr w t)
  cases e with
  | req r t =>
    simp only [I_req, N_req, T_req, K_req]
    simp_arith [kd_rep, kd_val, kd_cmp, kd_upd, kd_wr, kd_ack, nle, nlt, nadd, nbeq, npred, andL, orL, D_upd, D_val, x3, dsp, i1, i2, i3, c3, c4, c5, c6]; try rfl
  | read r t =>
    simp only [I_read, N_read, T_read, K_read]
    simp_arith [kd_rep, kd_val, kd_cmp, kd_upd, kd_wr, kd_ack, nle, nlt, nadd, nbeq, npred, andL, orL, D_upd, D_val, x3, dsp, i1, i2, i3, c3, c4, c5, c6]; try rfl
  | rep r t =>
    simp only [I_rep, N_rep, T_rep, K_rep]
    simp_arith [kd_rep, kd_val, kd_cmp, kd_upd, kd_wr, kd_ack, nle, nlt, nadd, nbeq, npred, andL, orL, D_upd, D_val, x3, dsp, i1, i2, i3, c3, c4, c5, c6]; try rfl
  | val r t w =>
    simp only [I_val, N_val, T_val, K_val]
    cases h2 : evI o == 2 <;> simp_arith [kd_rep, kd_val, kd_cmp, kd_upd, kd_wr, kd_ack, nle, nlt, nadd, nbeq, npred, andL, orL, D_upd, D_val, x3, dsp, i1, i2, i3, c3, c4, c5, c6, h2, Bool.false_eq_true] <;> simp only [isC, folB, h2, Bool.false_eq_true, if_true, if_false, N_val, T_val] <;> try rfl
  | cmp w t =>
    simp only [I_cmp, N_cmp, T_cmp, K_cmp]
    cases h4 : evI o == 4
    · cases h3 : evI o == 3
      · simp_arith [kd_rep, kd_val, kd_cmp, kd_upd, kd_wr, kd_ack, nle, nlt, nadd, nbeq, npred, andL, orL, D_upd, D_val, x3, dsp, i1, i2, i3, c3, c4, c5, c6, h4, h3, Bool.false_eq_true]; simp only [isC, h4, h3, Bool.false_eq_true, if_true, if_false, N_cmp, T_cmp] <;> try rfl
      · obtain ⟨r', u, w', rfl⟩ : ∃ r u w, o = .val r u w := by
          cases o <;> first | exact ⟨_, _, _, rfl⟩ | cases h3
        simp_arith [kd_rep, kd_val, kd_cmp, kd_upd, kd_wr, kd_ack, nle, nlt, nadd, nbeq, npred, andL, orL, D_upd, D_val, x3, dsp, i1, i2, i3, c3, c4, c5, c6, I_val, N_val, T_val, K_val, Bool.false_eq_true]
        simp only [isC, I_val, T_val, evX, Bool.false_eq_true, if_true, if_false] <;> try rfl
    · simp_arith [kd_rep, kd_val, kd_cmp, kd_upd, kd_wr, kd_ack, nle, nlt, nadd, nbeq, npred, andL, orL, D_upd, D_val, x3, dsp, i1, i2, i3, c3, c4, c5, c6, h4, Bool.false_eq_true]; simp only [isC, h4, Bool.false_eq_true, if_true, if_false, N_cmp, T_cmp] <;> try rfl
  | upd r t w =>
    simp only [I_upd, N_upd, T_upd, K_upd]
    simp_arith [kd_rep, kd_val, kd_cmp, kd_upd, kd_wr, kd_ack, nle, nlt, nadd, nbeq, npred, andL, orL, D_upd, D_val, x3, dsp, i1, i2, i3, c3, c4, c5, c6]; try rfl
  | wr r t =>
    simp only [I_wr, N_wr, T_wr, K_wr]
    simp_arith [kd_rep, kd_val, kd_cmp, kd_upd, kd_wr, kd_ack, nle, nlt, nadd, nbeq, npred, andL, orL, D_upd, D_val, x3, dsp, i1, i2, i3, c3, c4, c5, c6]; try rfl
  | ack r t =>
    simp only [I_ack, N_ack, T_ack, K_ack]
    simp_arith [kd_rep, kd_val, kd_cmp, kd_upd, kd_wr, kd_ack, nle, nlt, nadd, nbeq, npred, andL, orL, D_upd, D_val, x3, dsp, i1, i2, i3, c3, c4, c5, c6]; try rfl
end
end CM

namespace CM
open PySem hiding exec execs start
open PySem.Spec PyProof.Rows L2 MP
local macro_rules
  | `(tactic| simp_arith [$xs,*]) => `(tactic| simp -implicitDefEqProofs (disch := first | omega | (simp only [List.length_append, List.length_map, List.length_range, List.length_range', List.length_nil, List.length_cons, List.length_singleton, List.length_zipIdx] <;> omega)) only [gv0, gvS, go0, goS, ev_var, ev_own, ev_non, ev_bl, ev_int, ev_str, ev_glb, ev_tup, ev_lst, ev_dK0, ev_dT0, ev_bin, ev_cat, ev_rep, negR_int, ev_neg, notR_bl, ev_not, blR_some, ev_cmp, chR_t, chR_f, ev_chn, ev_and, ev_or, bR_bl, anR_t, anR_f, anR_b, orR_t, orR_f, orR_b, and_one, and_more, or_one, or_more, ev_ife, ev_idx, ev_slc, ev_rev, calR_f, calR_ok, calR_ex, ev_call, ev_prim, ev_mth, ev_isi, ev_srtset, ev_lrng, ev_comp, ev_newc, evs_nil, evs_cons, inR_int, evo_no, evo_so, evI_seq, evI_rng, evI_enum, tv_not, tv_and, tv_or, tv_var, tv_own, tv_non, tv_bl, tv_int, tv_cmp, tv_chn, tv_call, tv_prim, tv_isi, tv_idx, tv_mth, tv_ife, tv_comp, tv_slc, tv_bin, tand_one, tand_more, tor_one, tor_more, b_ok, b_ex, l_some, s_ok, s_ex, q_nx, q_rt, q_bk, q_ct, q_ex, n_some, f_nx, f_rt, f_ex, fr_f, fr_t, fr_k, x_asg, x_asgF, x_frz, onL0, onLS, x_app, x_ext, x_ex, x_ret, x_retN, x_cont, x_brk, x_rais, x_ite, x_for, x_whl, xs_nil, xs_cons, forB_nm, setTg_nm, setTg_tp, setTp_nil, setTp_cons, sl0, slS, w_nil, w_cons, ow0, owS, ob, om, st_e, frR_some, frz_eq, x_setg, x_seti, oc0, ocS, x_appPop, ol0, olS, fl_int, fls_nil, fls_cons, t_bl, t_int, t_non, t_lst, d_add, d_sub, d_mul, d_fdiv, d_mod, d_lt, d_le, d_gt, d_ge, d_eqi, d_nei, p_len, p_lent, p_lens, p_int, p_abs, p_tup, p_tupt, p_list, p_listt, p_min2, p_max2, ix_l, ix_t, ix_s, app_d, ext_l, ext_t, bo_ok (t_bl), bo_ok (t_int), bo_ok (t_lst), notR_of (t_lst), os_eq, Es.hasOwn, List.map_cons, List.map_nil, List.length_cons, List.length_nil, List.replicate_succ, List.replicate_zero, List.cons_append, List.nil_append, Nat.reduceSub, Nat.reduceAdd, Nat.sub_self, reduceIte, Bool.not_true, Bool.not_false, Bool.false_eq_true, Bool.and_self, Bool.and_true, Bool.true_and, Nat.reduceBEq, Nat.reduceEqDiff, cF_no, cF_so, cF2_no, cF2_so, cF3_no, cF3_so, cR_b, q_nil, q_nil2, forB_tp2, forB_tp3, ty_bool_non, ty_bool_bl, ty_bool_int, ty_bool_str, ty_bool_tup, ty_bool_lst, ty_int_non, ty_int_bl, ty_int_int, ty_int_str, ty_int_tup, ty_int_lst, ty_str_non, ty_str_bl, ty_str_int, ty_str_str, ty_str_tup, ty_str_lst, ty_tuple_non, ty_tuple_bl, ty_tuple_int, ty_tuple_str, ty_tuple_tup, ty_tuple_lst, ty_list_non, ty_list_bl, ty_list_int, ty_list_str, ty_list_tup, ty_list_lst, d_eqb, d_isn, d_isi, d_isb, d_iss, d_ist, d_isl, d_insn, d_insi, d_inst, d_insl, p_int_b, t_tup, compL_nil, compL_cons, cC_some, cC_none, cK_ok, cN_ok, forL_nil, forL_cons, foR_nx, foR_ct, foR_bk, foR_rt, foR_ex, seq_l, seq_t, enu_l, enu_t, ev_dcomp, dcF_nm, evI_items, agS_int, x_augi, x_ins, x_asgPop, setTg_tpl, forB_tp2l, forB_tp3l, d_isbb, d_insbb, d_isdK, p_lendK, p_lendT, ty_bool_dK, ty_int_dK, ty_str_dK, ty_tuple_dK, ty_list_dK, ms_i1, ms_i2, ms_g2, ms_g1, calR_n, calR_in, calR_bl, ix_pb0, ix_pb1, ix_pb2, ix_pb3, ix_su0, ix_su1, ix_su2, kq_0_0, kq_0_1, kq_0_2, kq_0_3, kq_0_4, kq_0_5, kq_0_6, kq_0_7, kq_1_0, kq_1_1, kq_1_2, kq_1_3, kq_1_4, kq_1_5, kq_1_6, kq_1_7, kq_2_0, kq_2_1, kq_2_2, kq_2_3, kq_2_4, kq_2_5, kq_2_6, kq_2_7, kq_3_0, kq_3_1, kq_3_2, kq_3_3, kq_3_4, kq_3_5, kq_3_6, kq_3_7, kq_4_0, kq_4_1, kq_4_2, kq_4_3, kq_4_4, kq_4_5, kq_4_6, kq_4_7, kq_5_0, kq_5_1, kq_5_2, kq_5_3, kq_5_4, kq_5_5, kq_5_6, kq_5_7, kq_6_0, kq_6_1, kq_6_2, kq_6_3, kq_6_4, kq_6_5, kq_6_6, kq_6_7, kq_7_0, kq_7_1, kq_7_2, kq_7_3, kq_7_4, kq_7_5, kq_7_6, kq_7_7, kn_0, kn_1, kn_2, kn_3, kn_4, kn_5, kn_6, kn_7, $xs,*])
local macro_rules
  | `(tactic| simp_arith [$xs,*] at $h:ident) => `(tactic| simp -implicitDefEqProofs (disch := first | omega | (simp only [List.length_append, List.length_map, List.length_range, List.length_range', List.length_nil, List.length_cons, List.length_singleton, List.length_zipIdx] <;> omega)) only [gv0, gvS, go0, goS, ev_var, ev_own, ev_non, ev_bl, ev_int, ev_str, ev_glb, ev_tup, ev_lst, ev_dK0, ev_dT0, ev_bin, ev_cat, ev_rep, negR_int, ev_neg, notR_bl, ev_not, blR_some, ev_cmp, chR_t, chR_f, ev_chn, ev_and, ev_or, bR_bl, anR_t, anR_f, anR_b, orR_t, orR_f, orR_b, and_one, and_more, or_one, or_more, ev_ife, ev_idx, ev_slc, ev_rev, calR_f, calR_ok, calR_ex, ev_call, ev_prim, ev_mth, ev_isi, ev_srtset, ev_lrng, ev_comp, ev_newc, evs_nil, evs_cons, inR_int, evo_no, evo_so, evI_seq, evI_rng, evI_enum, tv_not, tv_and, tv_or, tv_var, tv_own, tv_non, tv_bl, tv_int, tv_cmp, tv_chn, tv_call, tv_prim, tv_isi, tv_idx, tv_mth, tv_ife, tv_comp, tv_slc, tv_bin, tand_one, tand_more, tor_one, tor_more, b_ok, b_ex, l_some, s_ok, s_ex, q_nx, q_rt, q_bk, q_ct, q_ex, n_some, f_nx, f_rt, f_ex, fr_f, fr_t, fr_k, x_asg, x_asgF, x_frz, onL0, onLS, x_app, x_ext, x_ex, x_ret, x_retN, x_cont, x_brk, x_rais, x_ite, x_for, x_whl, xs_nil, xs_cons, forB_nm, setTg_nm, setTg_tp, setTp_nil, setTp_cons, sl0, slS, w_nil, w_cons, ow0, owS, ob, om, st_e, frR_some, frz_eq, x_setg, x_seti, oc0, ocS, x_appPop, ol0, olS, fl_int, fls_nil, fls_cons, t_bl, t_int, t_non, t_lst, d_add, d_sub, d_mul, d_fdiv, d_mod, d_lt, d_le, d_gt, d_ge, d_eqi, d_nei, p_len, p_lent, p_lens, p_int, p_abs, p_tup, p_tupt, p_list, p_listt, p_min2, p_max2, ix_l, ix_t, ix_s, app_d, ext_l, ext_t, bo_ok (t_bl), bo_ok (t_int), bo_ok (t_lst), notR_of (t_lst), os_eq, Es.hasOwn, List.map_cons, List.map_nil, List.length_cons, List.length_nil, List.replicate_succ, List.replicate_zero, List.cons_append, List.nil_append, Nat.reduceSub, Nat.reduceAdd, Nat.sub_self, reduceIte, Bool.not_true, Bool.not_false, Bool.false_eq_true, Bool.and_self, Bool.and_true, Bool.true_and, Nat.reduceBEq, Nat.reduceEqDiff, cF_no, cF_so, cF2_no, cF2_so, cF3_no, cF3_so, cR_b, q_nil, q_nil2, forB_tp2, forB_tp3, ty_bool_non, ty_bool_bl, ty_bool_int, ty_bool_str, ty_bool_tup, ty_bool_lst, ty_int_non, ty_int_bl, ty_int_int, ty_int_str, ty_int_tup, ty_int_lst, ty_str_non, ty_str_bl, ty_str_int, ty_str_str, ty_str_tup, ty_str_lst, ty_tuple_non, ty_tuple_bl, ty_tuple_int, ty_tuple_str, ty_tuple_tup, ty_tuple_lst, ty_list_non, ty_list_bl, ty_list_int, ty_list_str, ty_list_tup, ty_list_lst, d_eqb, d_isn, d_isi, d_isb, d_iss, d_ist, d_isl, d_insn, d_insi, d_inst, d_insl, p_int_b, t_tup, compL_nil, compL_cons, cC_some, cC_none, cK_ok, cN_ok, forL_nil, forL_cons, foR_nx, foR_ct, foR_bk, foR_rt, foR_ex, seq_l, seq_t, enu_l, enu_t, ev_dcomp, dcF_nm, evI_items, agS_int, x_augi, x_ins, x_asgPop, setTg_tpl, forB_tp2l, forB_tp3l, d_isbb, d_insbb, d_isdK, p_lendK, p_lendT, ty_bool_dK, ty_int_dK, ty_str_dK, ty_tuple_dK, ty_list_dK, ms_i1, ms_i2, ms_g2, ms_g1, calR_n, calR_in, calR_bl, ix_pb0, ix_pb1, ix_pb2, ix_pb3, ix_su0, ix_su1, ix_su2, kq_0_0, kq_0_1, kq_0_2, kq_0_3, kq_0_4, kq_0_5, kq_0_6, kq_0_7, kq_1_0, kq_1_1, kq_1_2, kq_1_3, kq_1_4, kq_1_5, kq_1_6, kq_1_7, kq_2_0, kq_2_1, kq_2_2, kq_2_3, kq_2_4, kq_2_5, kq_2_6, kq_2_7, kq_3_0, kq_3_1, kq_3_2, kq_3_3, kq_3_4, kq_3_5, kq_3_6, kq_3_7, kq_4_0, kq_4_1, kq_4_2, kq_4_3, kq_4_4, kq_4_5, kq_4_6, kq_4_7, kq_5_0, kq_5_1, kq_5_2, kq_5_3, kq_5_4, kq_5_5, kq_5_6, kq_5_7, kq_6_0, kq_6_1, kq_6_2, kq_6_3, kq_6_4, kq_6_5, kq_6_6, kq_6_7, kq_7_0, kq_7_1, kq_7_2, kq_7_3, kq_7_4, kq_7_5, kq_7_6, kq_7_7, kn_0, kn_1, kn_2, kn_3, kn_4, kn_5, kn_6, kn_7, $xs,*] at $h:ident)
/-! ### the dict of all causes -/
def cfL (q : Pb) (s : Su) (f : Nat) (e : Evt) : List Evt := (eventsL q s f).filter fun o => decide (o ∈ causesL q s f e)
def knD (q : Pb) (s : Su) (f : Nat) (es : List Evt) : D := .dT (es.map evK) (es.map fun e => .lst ((cfL q s f e).map evD))
theorem put_same (g : Evt → D) (e : Evt) : ∀ es : List Evt, List.zipWith (fun j u => if j = evK e then g e else u) (es.map evK) (es.map g) = es.map g
  | [] => rfl
  | x :: es => by
    rw [List.map_cons, List.map_cons, List.zipWith_cons_cons, put_same g e es]
    congr 1
    split
    · rename_i h; rw [evK_inj h]
    · rfl
theorem evK_mem {e : Evt} {es : List Evt} : evK e ∈ es.map evK ↔ e ∈ es := by
  rw [List.mem_map]
  exact ⟨fun ⟨x, h, k⟩ => evK_inj k ▸ h, fun h => ⟨e, h, rfl⟩⟩
theorem hasK_ev {e : Evt} {es : List Evt} : hasK (es.map evK) (evK e) = decide (e ∈ es) := by
  rw [Bool.eq_iff_iff, hasK_iff, evK_mem, decide_eq_true_eq]
theorem set_kn {q : Pb} {s : Su} {f : Nat} {es : List Evt} (e : Evt) (h : es.length < 1000000) (hn : es.Nodup) : ∃ es' : List Evt, setD (knD q s f es) (evD e) (.lst ((cfL q s f e).map evD)) = some (knD q s f es') ∧ es'.Nodup ∧ (∀ x, x ∈ es' ↔ x ∈ es ∨ x = e) ∧ es'.length ≤ es.length + 1 := by
  rw [ev_tD]
  unfold knD
  rw [set_dT (by rw [List.length_map]; exact h)]
  by_cases hm : e ∈ es
  · refine ⟨es, ?_, hn, fun x => ⟨.inl, fun h => ?_⟩, by omega⟩
    · unfold putP
      rw [if_pos (List.any_eq_true.mpr ⟨evK e, evK_mem.mpr hm, by simp⟩)]
      simp only [put_same (fun e => D.lst ((cfL q s f e).map evD)) e es]
    · rcases h with h | rfl
      · exact h
      · exact hm
  · refine ⟨es ++ [e], ?_, ?_, fun x => by simp, by simp⟩
    · rw [put_new (by rw [evK_mem]; exact hm)]
      simp only [List.map_append, List.map_cons, List.map_nil]
    · rw [List.nodup_append]
      refine ⟨hn, by simp, fun a ha b hb => ?_⟩
      rw [List.mem_singleton] at hb
      subst hb
      intro h; subst h; exact hm ha
end CM

namespace CM
open PySem hiding exec execs start
open PySem.Spec PyProof.Rows L2 MP
local macro_rules
  | `(tactic| simp_arith [$xs,*]) => `(tactic| simp -implicitDefEqProofs (disch := first | omega | (simp only [List.length_append, List.length_map, List.length_range, List.length_range', List.length_nil, List.length_cons, List.length_singleton, List.length_zipIdx] <;> omega)) only [gv0, gvS, go0, goS, ev_var, ev_own, ev_non, ev_bl, ev_int, ev_str, ev_glb, ev_tup, ev_lst, ev_dK0, ev_dT0, ev_bin, ev_cat, ev_rep, negR_int, ev_neg, notR_bl, ev_not, blR_some, ev_cmp, chR_t, chR_f, ev_chn, ev_and, ev_or, bR_bl, anR_t, anR_f, anR_b, orR_t, orR_f, orR_b, and_one, and_more, or_one, or_more, ev_ife, ev_idx, ev_slc, ev_rev, calR_f, calR_ok, calR_ex, ev_call, ev_prim, ev_mth, ev_isi, ev_srtset, ev_lrng, ev_comp, ev_newc, evs_nil, evs_cons, inR_int, evo_no, evo_so, evI_seq, evI_rng, evI_enum, tv_not, tv_and, tv_or, tv_var, tv_own, tv_non, tv_bl, tv_int, tv_cmp, tv_chn, tv_call, tv_prim, tv_isi, tv_idx, tv_mth, tv_ife, tv_comp, tv_slc, tv_bin, tand_one, tand_more, tor_one, tor_more, b_ok, b_ex, l_some, s_ok, s_ex, q_nx, q_rt, q_bk, q_ct, q_ex, n_some, f_nx, f_rt, f_ex, fr_f, fr_t, fr_k, x_asg, x_asgF, x_frz, onL0, onLS, x_app, x_ext, x_ex, x_ret, x_retN, x_cont, x_brk, x_rais, x_ite, x_for, x_whl, xs_nil, xs_cons, forB_nm, setTg_nm, setTg_tp, setTp_nil, setTp_cons, sl0, slS, w_nil, w_cons, ow0, owS, ob, om, st_e, frR_some, frz_eq, x_setg, x_seti, oc0, ocS, x_appPop, ol0, olS, fl_int, fls_nil, fls_cons, t_bl, t_int, t_non, t_lst, d_add, d_sub, d_mul, d_fdiv, d_mod, d_lt, d_le, d_gt, d_ge, d_eqi, d_nei, p_len, p_lent, p_lens, p_int, p_abs, p_tup, p_tupt, p_list, p_listt, p_min2, p_max2, ix_l, ix_t, ix_s, app_d, ext_l, ext_t, bo_ok (t_bl), bo_ok (t_int), bo_ok (t_lst), notR_of (t_lst), os_eq, Es.hasOwn, List.map_cons, List.map_nil, List.length_cons, List.length_nil, List.replicate_succ, List.replicate_zero, List.cons_append, List.nil_append, Nat.reduceSub, Nat.reduceAdd, Nat.sub_self, reduceIte, Bool.not_true, Bool.not_false, Bool.false_eq_true, Bool.and_self, Bool.and_true, Bool.true_and, Nat.reduceBEq, Nat.reduceEqDiff, cF_no, cF_so, cF2_no, cF2_so, cF3_no, cF3_so, cR_b, q_nil, q_nil2, forB_tp2, forB_tp3, ty_bool_non, ty_bool_bl, ty_bool_int, ty_bool_str, ty_bool_tup, ty_bool_lst, ty_int_non, ty_int_bl, ty_int_int, ty_int_str, ty_int_tup, ty_int_lst, ty_str_non, ty_str_bl, ty_str_int, ty_str_str, ty_str_tup, ty_str_lst, ty_tuple_non, ty_tuple_bl, ty_tuple_int, ty_tuple_str, ty_tuple_tup, ty_tuple_lst, ty_list_non, ty_list_bl, ty_list_int, ty_list_str, ty_list_tup, ty_list_lst, d_eqb, d_isn, d_isi, d_isb, d_iss, d_ist, d_isl, d_insn, d_insi, d_inst, d_insl, p_int_b, t_tup, compL_nil, compL_cons, cC_some, cC_none, cK_ok, cN_ok, forL_nil, forL_cons, foR_nx, foR_ct, foR_bk, foR_rt, foR_ex, seq_l, seq_t, enu_l, enu_t, ev_dcomp, dcF_nm, evI_items, agS_int, x_augi, x_ins, x_asgPop, setTg_tpl, forB_tp2l, forB_tp3l, d_isbb, d_insbb, d_isdK, p_lendK, p_lendT, ty_bool_dK, ty_int_dK, ty_str_dK, ty_tuple_dK, ty_list_dK, ms_i1, ms_i2, ms_g2, ms_g1, calR_n, calR_in, calR_bl, ix_pb0, ix_pb1, ix_pb2, ix_pb3, ix_su0, ix_su1, ix_su2, kq_0_0, kq_0_1, kq_0_2, kq_0_3, kq_0_4, kq_0_5, kq_0_6, kq_0_7, kq_1_0, kq_1_1, kq_1_2, kq_1_3, kq_1_4, kq_1_5, kq_1_6, kq_1_7, kq_2_0, kq_2_1, kq_2_2, kq_2_3, kq_2_4, kq_2_5, kq_2_6, kq_2_7, kq_3_0, kq_3_1, kq_3_2, kq_3_3, kq_3_4, kq_3_5, kq_3_6, kq_3_7, kq_4_0, kq_4_1, kq_4_2, kq_4_3, kq_4_4, kq_4_5, kq_4_6, kq_4_7, kq_5_0, kq_5_1, kq_5_2, kq_5_3, kq_5_4, kq_5_5, kq_5_6, kq_5_7, kq_6_0, kq_6_1, kq_6_2, kq_6_3, kq_6_4, kq_6_5, kq_6_6, kq_6_7, kq_7_0, kq_7_1, kq_7_2, kq_7_3, kq_7_4, kq_7_5, kq_7_6, kq_7_7, kn_0, kn_1, kn_2, kn_3, kn_4, kn_5, kn_6, kn_7, $xs,*])
local macro_rules
  | `(tactic| simp_arith [$xs,*] at $h:ident) => `(tactic| simp -implicitDefEqProofs (disch := first | omega | (simp only [List.length_append, List.length_map, List.length_range, List.length_range', List.length_nil, List.length_cons, List.length_singleton, List.length_zipIdx] <;> omega)) only [gv0, gvS, go0, goS, ev_var, ev_own, ev_non, ev_bl, ev_int, ev_str, ev_glb, ev_tup, ev_lst, ev_dK0, ev_dT0, ev_bin, ev_cat, ev_rep, negR_int, ev_neg, notR_bl, ev_not, blR_some, ev_cmp, chR_t, chR_f, ev_chn, ev_and, ev_or, bR_bl, anR_t, anR_f, anR_b, orR_t, orR_f, orR_b, and_one, and_more, or_one, or_more, ev_ife, ev_idx, ev_slc, ev_rev, calR_f, calR_ok, calR_ex, ev_call, ev_prim, ev_mth, ev_isi, ev_srtset, ev_lrng, ev_comp, ev_newc, evs_nil, evs_cons, inR_int, evo_no, evo_so, evI_seq, evI_rng, evI_enum, tv_not, tv_and, tv_or, tv_var, tv_own, tv_non, tv_bl, tv_int, tv_cmp, tv_chn, tv_call, tv_prim, tv_isi, tv_idx, tv_mth, tv_ife, tv_comp, tv_slc, tv_bin, tand_one, tand_more, tor_one, tor_more, b_ok, b_ex, l_some, s_ok, s_ex, q_nx, q_rt, q_bk, q_ct, q_ex, n_some, f_nx, f_rt, f_ex, fr_f, fr_t, fr_k, x_asg, x_asgF, x_frz, onL0, onLS, x_app, x_ext, x_ex, x_ret, x_retN, x_cont, x_brk, x_rais, x_ite, x_for, x_whl, xs_nil, xs_cons, forB_nm, setTg_nm, setTg_tp, setTp_nil, setTp_cons, sl0, slS, w_nil, w_cons, ow0, owS, ob, om, st_e, frR_some, frz_eq, x_setg, x_seti, oc0, ocS, x_appPop, ol0, olS, fl_int, fls_nil, fls_cons, t_bl, t_int, t_non, t_lst, d_add, d_sub, d_mul, d_fdiv, d_mod, d_lt, d_le, d_gt, d_ge, d_eqi, d_nei, p_len, p_lent, p_lens, p_int, p_abs, p_tup, p_tupt, p_list, p_listt, p_min2, p_max2, ix_l, ix_t, ix_s, app_d, ext_l, ext_t, bo_ok (t_bl), bo_ok (t_int), bo_ok (t_lst), notR_of (t_lst), os_eq, Es.hasOwn, List.map_cons, List.map_nil, List.length_cons, List.length_nil, List.replicate_succ, List.replicate_zero, List.cons_append, List.nil_append, Nat.reduceSub, Nat.reduceAdd, Nat.sub_self, reduceIte, Bool.not_true, Bool.not_false, Bool.false_eq_true, Bool.and_self, Bool.and_true, Bool.true_and, Nat.reduceBEq, Nat.reduceEqDiff, cF_no, cF_so, cF2_no, cF2_so, cF3_no, cF3_so, cR_b, q_nil, q_nil2, forB_tp2, forB_tp3, ty_bool_non, ty_bool_bl, ty_bool_int, ty_bool_str, ty_bool_tup, ty_bool_lst, ty_int_non, ty_int_bl, ty_int_int, ty_int_str, ty_int_tup, ty_int_lst, ty_str_non, ty_str_bl, ty_str_int, ty_str_str, ty_str_tup, ty_str_lst, ty_tuple_non, ty_tuple_bl, ty_tuple_int, ty_tuple_str, ty_tuple_tup, ty_tuple_lst, ty_list_non, ty_list_bl, ty_list_int, ty_list_str, ty_list_tup, ty_list_lst, d_eqb, d_isn, d_isi, d_isb, d_iss, d_ist, d_isl, d_insn, d_insi, d_inst, d_insl, p_int_b, t_tup, compL_nil, compL_cons, cC_some, cC_none, cK_ok, cN_ok, forL_nil, forL_cons, foR_nx, foR_ct, foR_bk, foR_rt, foR_ex, seq_l, seq_t, enu_l, enu_t, ev_dcomp, dcF_nm, evI_items, agS_int, x_augi, x_ins, x_asgPop, setTg_tpl, forB_tp2l, forB_tp3l, d_isbb, d_insbb, d_isdK, p_lendK, p_lendT, ty_bool_dK, ty_int_dK, ty_str_dK, ty_tuple_dK, ty_list_dK, ms_i1, ms_i2, ms_g2, ms_g1, calR_n, calR_in, calR_bl, ix_pb0, ix_pb1, ix_pb2, ix_pb3, ix_su0, ix_su1, ix_su2, kq_0_0, kq_0_1, kq_0_2, kq_0_3, kq_0_4, kq_0_5, kq_0_6, kq_0_7, kq_1_0, kq_1_1, kq_1_2, kq_1_3, kq_1_4, kq_1_5, kq_1_6, kq_1_7, kq_2_0, kq_2_1, kq_2_2, kq_2_3, kq_2_4, kq_2_5, kq_2_6, kq_2_7, kq_3_0, kq_3_1, kq_3_2, kq_3_3, kq_3_4, kq_3_5, kq_3_6, kq_3_7, kq_4_0, kq_4_1, kq_4_2, kq_4_3, kq_4_4, kq_4_5, kq_4_6, kq_4_7, kq_5_0, kq_5_1, kq_5_2, kq_5_3, kq_5_4, kq_5_5, kq_5_6, kq_5_7, kq_6_0, kq_6_1, kq_6_2, kq_6_3, kq_6_4, kq_6_5, kq_6_6, kq_6_7, kq_7_0, kq_7_1, kq_7_2, kq_7_3, kq_7_4, kq_7_5, kq_7_6, kq_7_7, kn_0, kn_1, kn_2, kn_3, kn_4, kn_5, kn_6, kn_7, $xs,*] at $h:ident)
/-! ### how far a log is orderly, by the dict -/
theorem audN_find {q : Pb} {s : Su} {f : Nat} : ∀ (rest pre : List KL), (match (List.range' pre.length rest.length).find? (fun k => !okAt q s f ((pre ++ rest).take k) ((pre ++ rest).getD k [])) with
    | none => pre.length + rest.length
    | some k => k) = audN q s f pre rest
  | [], pre => rfl
  | k :: rest, pre => by
    have ih := audN_find (q := q) (s := s) (f := f) rest (pre ++ [k])
    rw [List.length_append, List.length_singleton, List.append_assoc, List.singleton_append] at ih
    rw [List.length_cons, List.range'_succ, List.find?_cons]
    have h1 : (pre ++ k :: rest).take pre.length = pre := by simp
    have h2 : (pre ++ k :: rest).getD pre.length [] = k := by simp [List.getD]
    rw [h1, h2]
    have hne : audN q s f pre (k :: rest) = (if okAt q s f pre k = true then audN q s f (pre ++ [k]) rest else pre.length) := rfl
    cases ho : okAt q s f pre k with
    | true =>
      rw [hne, ho, if_pos rfl, ← ih]
      simp only [Bool.not_true]
      rw [show pre.length + (rest.length + 1) = pre.length + 1 + rest.length by omega]
    | false =>
      rw [hne, ho]
      rfl
theorem audN_le {q : Pb} {s : Su} {f : Nat} : ∀ (rest pre : List KL), audN q s f pre rest ≤ pre.length + rest.length
  | [], pre => Nat.le_refl _
  | k :: rest, pre => by
    have ih := audN_le (q := q) (s := s) (f := f) rest (pre ++ [k])
    unfold audN
    split
    · rw [List.length_append, List.length_singleton] at ih
      rw [List.length_cons]; omega
    · omega
theorem audN_snoc {q : Pb} {s : Su} {f : Nat} {k : KL} : ∀ (rest pre : List KL), audN q s f pre rest = pre.length + rest.length → okAt q s f (pre ++ rest) k = true → audN q s f pre (rest ++ [k]) = pre.length + rest.length + 1
  | [], pre, h, ho => by
    rw [List.append_nil] at ho
    rw [List.nil_append]
    unfold audN
    rw [if_pos ho]
    unfold audN
    simp
  | j :: rest, pre, h, ho => by
    unfold audN at h
    split at h
    · rename_i hj
      have ih := audN_snoc (q := q) (s := s) (f := f) (k := k) rest (pre ++ [j]) (by rw [h]; simp; omega) (by simpa using ho)
      rw [List.cons_append]
      unfold audN
      rw [if_pos hj, ih]
      simp; omega
    · simp at h
theorem nin_dT {k : KL} {ks : List KL} {vs : List D} : cmpD .notin (tD k) (.dT ks vs) = some (!hasK ks k) := by
  simp only [cmpD, inD, tkey_t, Option.map]
  rfl
theorem look_kn (g : Evt → D) {e : Evt} : ∀ {es : List Evt}, e ∈ es → lookP (es.map evK) (es.map g) (evK e) = some (g e)
  | x :: es, h => by
    rw [List.map_cons, List.map_cons, lookP]
    by_cases hx : evK x = evK e
    · rw [if_pos hx, evK_inj hx]
    · rw [if_neg hx]
      rcases List.mem_cons.mp h with rfl | h
      · exact absurd rfl hx
      · exact look_kn g h
theorem ix_kn {q : Pb} {s : Su} {f : Nat} {G : Gs} {es : List Evt} {e : Evt} (h : e ∈ es) : idxD G (knD q s f es) (tD (evK e)) = some (.lst ((cfL q s f e).map evD)) := by
  have := look_kn (fun e => D.lst ((cfL q s f e).map evD)) h
  unfold tD
  simp only [knD, idxD]
  have h2 : tkeyOf (.tup false ((evK e).map kD)) = some (evK e) := tkey_t _
  rw [h2]
  exact this
section
variable {n : Nat} {G : Gs} {q : Pb} {s : Su}
theorem cf_all {f : Nat} {e : Evt} (hs : GoodSu s) (he : e ∈ eventsL q s f) (p : Evt → Bool) : decide (0 < ((cfL q s f e).filter fun c => !p c).length) = !((causesL q s f e).all p) := by
  rw [Bool.eq_iff_iff, decide_eq_true_eq, Bool.not_eq_true', ← Bool.not_eq_true, List.all_eq_true, List.length_pos_iff_exists_mem]
  constructor
  · rintro ⟨c, hc⟩ h
    rw [List.mem_filter] at hc
    have h1 := List.mem_filter.mp hc.1
    have := h c (of_decide_eq_true h1.2)
    rw [this] at hc
    exact absurd hc.2 (by simp)
  · intro h
    apply Classical.byContradiction
    intro k
    apply h
    intro c hc
    have hce := causes_ev hs he hc
    cases hp : p c with
    | true => rfl
    | false => exact absurd ⟨c, List.mem_filter.mpr ⟨List.mem_filter.mpr ⟨hce.1, by simp [hc]⟩, by rw [hp]; rfl⟩⟩ k
end
end CM

namespace CM
open PySem hiding exec execs start
open PySem.Spec PyProof.Rows L2 MP
local macro_rules
  | `(tactic| simp_arith [$xs,*]) => `(tactic| simp -implicitDefEqProofs (disch := first | omega | (simp only [List.length_append, List.length_map, List.length_range, List.length_range', List.length_nil, List.length_cons, List.length_singleton, List.length_zipIdx] <;> omega)) only [gv0, gvS, go0, goS, ev_var, ev_own, ev_non, ev_bl, ev_int, ev_str, ev_glb, ev_tup, ev_lst, ev_dK0, ev_dT0, ev_bin, ev_cat, ev_rep, negR_int, ev_neg, notR_bl, ev_not, blR_some, ev_cmp, chR_t, chR_f, ev_chn, ev_and, ev_or, bR_bl, anR_t, anR_f, anR_b, orR_t, orR_f, orR_b, and_one, and_more, or_one, or_more, ev_ife, ev_idx, ev_slc, ev_rev, calR_f, calR_ok, calR_ex, ev_call, ev_prim, ev_mth, ev_isi, ev_srtset, ev_lrng, ev_comp, ev_newc, evs_nil, evs_cons, inR_int, evo_no, evo_so, evI_seq, evI_rng, evI_enum, tv_not, tv_and, tv_or, tv_var, tv_own, tv_non, tv_bl, tv_int, tv_cmp, tv_chn, tv_call, tv_prim, tv_isi, tv_idx, tv_mth, tv_ife, tv_comp, tv_slc, tv_bin, tand_one, tand_more, tor_one, tor_more, b_ok, b_ex, l_some, s_ok, s_ex, q_nx, q_rt, q_bk, q_ct, q_ex, n_some, f_nx, f_rt, f_ex, fr_f, fr_t, fr_k, x_asg, x_asgF, x_frz, onL0, onLS, x_app, x_ext, x_ex, x_ret, x_retN, x_cont, x_brk, x_rais, x_ite, x_for, x_whl, xs_nil, xs_cons, forB_nm, setTg_nm, setTg_tp, setTp_nil, setTp_cons, sl0, slS, w_nil, w_cons, ow0, owS, ob, om, st_e, frR_some, frz_eq, x_setg, x_seti, oc0, ocS, x_appPop, ol0, olS, fl_int, fls_nil, fls_cons, t_bl, t_int, t_non, t_lst, d_add, d_sub, d_mul, d_fdiv, d_mod, d_lt, d_le, d_gt, d_ge, d_eqi, d_nei, p_len, p_lent, p_lens, p_int, p_abs, p_tup, p_tupt, p_list, p_listt, p_min2, p_max2, ix_l, ix_t, ix_s, app_d, ext_l, ext_t, bo_ok (t_bl), bo_ok (t_int), bo_ok (t_lst), notR_of (t_lst), os_eq, Es.hasOwn, List.map_cons, List.map_nil, List.length_cons, List.length_nil, List.replicate_succ, List.replicate_zero, List.cons_append, List.nil_append, Nat.reduceSub, Nat.reduceAdd, Nat.sub_self, reduceIte, Bool.not_true, Bool.not_false, Bool.false_eq_true, Bool.and_self, Bool.and_true, Bool.true_and, Nat.reduceBEq, Nat.reduceEqDiff, cF_no, cF_so, cF2_no, cF2_so, cF3_no, cF3_so, cR_b, q_nil, q_nil2, forB_tp2, forB_tp3, ty_bool_non, ty_bool_bl, ty_bool_int, ty_bool_str, ty_bool_tup, ty_bool_lst, ty_int_non, ty_int_bl, ty_int_int, ty_int_str, ty_int_tup, ty_int_lst, ty_str_non, ty_str_bl, ty_str_int, ty_str_str, ty_str_tup, ty_str_lst, ty_tuple_non, ty_tuple_bl, ty_tuple_int, ty_tuple_str, ty_tuple_tup, ty_tuple_lst, ty_list_non, ty_list_bl, ty_list_int, ty_list_str, ty_list_tup, ty_list_lst, d_eqb, d_isn, d_isi, d_isb, d_iss, d_ist, d_isl, d_insn, d_insi, d_inst, d_insl, p_int_b, t_tup, compL_nil, compL_cons, cC_some, cC_none, cK_ok, cN_ok, forL_nil, forL_cons, foR_nx, foR_ct, foR_bk, foR_rt, foR_ex, seq_l, seq_t, enu_l, enu_t, ev_dcomp, dcF_nm, evI_items, agS_int, x_augi, x_ins, x_asgPop, setTg_tpl, forB_tp2l, forB_tp3l, d_isbb, d_insbb, d_isdK, p_lendK, p_lendT, ty_bool_dK, ty_int_dK, ty_str_dK, ty_tuple_dK, ty_list_dK, ms_i1, ms_i2, ms_g2, ms_g1, calR_n, calR_in, calR_bl, ix_pb0, ix_pb1, ix_pb2, ix_pb3, ix_su0, ix_su1, ix_su2, kq_0_0, kq_0_1, kq_0_2, kq_0_3, kq_0_4, kq_0_5, kq_0_6, kq_0_7, kq_1_0, kq_1_1, kq_1_2, kq_1_3, kq_1_4, kq_1_5, kq_1_6, kq_1_7, kq_2_0, kq_2_1, kq_2_2, kq_2_3, kq_2_4, kq_2_5, kq_2_6, kq_2_7, kq_3_0, kq_3_1, kq_3_2, kq_3_3, kq_3_4, kq_3_5, kq_3_6, kq_3_7, kq_4_0, kq_4_1, kq_4_2, kq_4_3, kq_4_4, kq_4_5, kq_4_6, kq_4_7, kq_5_0, kq_5_1, kq_5_2, kq_5_3, kq_5_4, kq_5_5, kq_5_6, kq_5_7, kq_6_0, kq_6_1, kq_6_2, kq_6_3, kq_6_4, kq_6_5, kq_6_6, kq_6_7, kq_7_0, kq_7_1, kq_7_2, kq_7_3, kq_7_4, kq_7_5, kq_7_6, kq_7_7, kn_0, kn_1, kn_2, kn_3, kn_4, kn_5, kn_6, kn_7, $xs,*])
local macro_rules
  | `(tactic| simp_arith [$xs,*] at $h:ident) => `(tactic| simp -implicitDefEqProofs (disch := first | omega | (simp only [List.length_append, List.length_map, List.length_range, List.length_range', List.length_nil, List.length_cons, List.length_singleton, List.length_zipIdx] <;> omega)) only [gv0, gvS, go0, goS, ev_var, ev_own, ev_non, ev_bl, ev_int, ev_str, ev_glb, ev_tup, ev_lst, ev_dK0, ev_dT0, ev_bin, ev_cat, ev_rep, negR_int, ev_neg, notR_bl, ev_not, blR_some, ev_cmp, chR_t, chR_f, ev_chn, ev_and, ev_or, bR_bl, anR_t, anR_f, anR_b, orR_t, orR_f, orR_b, and_one, and_more, or_one, or_more, ev_ife, ev_idx, ev_slc, ev_rev, calR_f, calR_ok, calR_ex, ev_call, ev_prim, ev_mth, ev_isi, ev_srtset, ev_lrng, ev_comp, ev_newc, evs_nil, evs_cons, inR_int, evo_no, evo_so, evI_seq, evI_rng, evI_enum, tv_not, tv_and, tv_or, tv_var, tv_own, tv_non, tv_bl, tv_int, tv_cmp, tv_chn, tv_call, tv_prim, tv_isi, tv_idx, tv_mth, tv_ife, tv_comp, tv_slc, tv_bin, tand_one, tand_more, tor_one, tor_more, b_ok, b_ex, l_some, s_ok, s_ex, q_nx, q_rt, q_bk, q_ct, q_ex, n_some, f_nx, f_rt, f_ex, fr_f, fr_t, fr_k, x_asg, x_asgF, x_frz, onL0, onLS, x_app, x_ext, x_ex, x_ret, x_retN, x_cont, x_brk, x_rais, x_ite, x_for, x_whl, xs_nil, xs_cons, forB_nm, setTg_nm, setTg_tp, setTp_nil, setTp_cons, sl0, slS, w_nil, w_cons, ow0, owS, ob, om, st_e, frR_some, frz_eq, x_setg, x_seti, oc0, ocS, x_appPop, ol0, olS, fl_int, fls_nil, fls_cons, t_bl, t_int, t_non, t_lst, d_add, d_sub, d_mul, d_fdiv, d_mod, d_lt, d_le, d_gt, d_ge, d_eqi, d_nei, p_len, p_lent, p_lens, p_int, p_abs, p_tup, p_tupt, p_list, p_listt, p_min2, p_max2, ix_l, ix_t, ix_s, app_d, ext_l, ext_t, bo_ok (t_bl), bo_ok (t_int), bo_ok (t_lst), notR_of (t_lst), os_eq, Es.hasOwn, List.map_cons, List.map_nil, List.length_cons, List.length_nil, List.replicate_succ, List.replicate_zero, List.cons_append, List.nil_append, Nat.reduceSub, Nat.reduceAdd, Nat.sub_self, reduceIte, Bool.not_true, Bool.not_false, Bool.false_eq_true, Bool.and_self, Bool.and_true, Bool.true_and, Nat.reduceBEq, Nat.reduceEqDiff, cF_no, cF_so, cF2_no, cF2_so, cF3_no, cF3_so, cR_b, q_nil, q_nil2, forB_tp2, forB_tp3, ty_bool_non, ty_bool_bl, ty_bool_int, ty_bool_str, ty_bool_tup, ty_bool_lst, ty_int_non, ty_int_bl, ty_int_int, ty_int_str, ty_int_tup, ty_int_lst, ty_str_non, ty_str_bl, ty_str_int, ty_str_str, ty_str_tup, ty_str_lst, ty_tuple_non, ty_tuple_bl, ty_tuple_int, ty_tuple_str, ty_tuple_tup, ty_tuple_lst, ty_list_non, ty_list_bl, ty_list_int, ty_list_str, ty_list_tup, ty_list_lst, d_eqb, d_isn, d_isi, d_isb, d_iss, d_ist, d_isl, d_insn, d_insi, d_inst, d_insl, p_int_b, t_tup, compL_nil, compL_cons, cC_some, cC_none, cK_ok, cN_ok, forL_nil, forL_cons, foR_nx, foR_ct, foR_bk, foR_rt, foR_ex, seq_l, seq_t, enu_l, enu_t, ev_dcomp, dcF_nm, evI_items, agS_int, x_augi, x_ins, x_asgPop, setTg_tpl, forB_tp2l, forB_tp3l, d_isbb, d_insbb, d_isdK, p_lendK, p_lendT, ty_bool_dK, ty_int_dK, ty_str_dK, ty_tuple_dK, ty_list_dK, ms_i1, ms_i2, ms_g2, ms_g1, calR_n, calR_in, calR_bl, ix_pb0, ix_pb1, ix_pb2, ix_pb3, ix_su0, ix_su1, ix_su2, kq_0_0, kq_0_1, kq_0_2, kq_0_3, kq_0_4, kq_0_5, kq_0_6, kq_0_7, kq_1_0, kq_1_1, kq_1_2, kq_1_3, kq_1_4, kq_1_5, kq_1_6, kq_1_7, kq_2_0, kq_2_1, kq_2_2, kq_2_3, kq_2_4, kq_2_5, kq_2_6, kq_2_7, kq_3_0, kq_3_1, kq_3_2, kq_3_3, kq_3_4, kq_3_5, kq_3_6, kq_3_7, kq_4_0, kq_4_1, kq_4_2, kq_4_3, kq_4_4, kq_4_5, kq_4_6, kq_4_7, kq_5_0, kq_5_1, kq_5_2, kq_5_3, kq_5_4, kq_5_5, kq_5_6, kq_5_7, kq_6_0, kq_6_1, kq_6_2, kq_6_3, kq_6_4, kq_6_5, kq_6_6, kq_6_7, kq_7_0, kq_7_1, kq_7_2, kq_7_3, kq_7_4, kq_7_5, kq_7_6, kq_7_7, kn_0, kn_1, kn_2, kn_3, kn_4, kn_5, kn_6, kn_7, $xs,*] at $h:ident)
/-! ### a mixed log -/
theorem least {α : Type} (r : α → Nat) : ∀ l : List α, l ≠ [] → ∃ a ∈ l, ∀ b ∈ l, r a ≤ r b
  | [], h => absurd rfl h
  | [a], _ => ⟨a, by simp, fun b hb => by rw [List.mem_singleton.mp hb]; exact Nat.le_refl _⟩
  | a :: b :: l, _ => by
    obtain ⟨m, hm, h⟩ := least r (b :: l) (by simp)
    by_cases k : r a ≤ r m
    · refine ⟨a, by simp, fun c hc => ?_⟩
      rcases List.mem_cons.mp hc with rfl | hc
      · exact Nat.le_refl _
      · exact Nat.le_trans k (h c hc)
    · refine ⟨m, List.mem_cons_of_mem _ hm, fun c hc => ?_⟩
      rcases List.mem_cons.mp hc with rfl | hc
      · omega
      · exact h c hc
theorem drop_one {α : Type} [DecidableEq α] {e : α} : ∀ {l : List α}, l.Nodup → e ∈ l → (l.filter fun o => !decide (o = e)).length + 1 = l.length
  | x :: l, hn, h => by
    have h1 := List.nodup_cons.mp hn
    rw [List.filter_cons]
    by_cases hx : x = e
    · subst hx
      have : (l.filter fun o => !decide (o = x)) = l := List.filter_eq_self.mpr fun a ha => by
        have : a ≠ x := fun k => h1.1 (k ▸ ha)
        simp [this]
      simp [this]
    · have := drop_one h1.2 ((List.mem_cons.mp h).resolve_left (fun k => hx k.symm))
      simp only [hx, decide_false, Bool.not_false, if_true, List.length_cons]
      omega
theorem nin_ev {e : Evt} {l : List Evt} : cmpD .notin (evD e) (.lst (l.map evD)) = some (!decide (e ∈ l)) := by
  rw [ev_tD, evs_tD, nin_l (okK_ev e) fun j hj => by obtain ⟨x, _, rfl⟩ := List.mem_map.mp hj; exact okK_ev x, hasK_ev]
theorem ne_ev {e o : Evt} : cmpD .ne (evD o) (evD e) = some (!decide (o = e)) := by
  rw [ev_tD, ev_tD, ne_tD (okK_ev o) (okK_ev e)]
  congr 2
  rw [decide_eq_decide]
  exact ⟨evK_inj, fun h => by rw [h]⟩
theorem list_kn {q : Pb} {s : Su} {f : Nat} {es : List Evt} : primD .list1 [knD q s f es] = some (.lst (es.map evD)) := by
  have h : (es.map evK).length = (es.map fun e => D.lst ((cfL q s f e).map evD)).length := by simp
  show (if (es.map evK).length = (es.map fun e => D.lst ((cfL q s f e).map evD)).length then some (D.lst ((es.map evK).map fun k => .tup false (k.map kD))) else none) = _
  rw [if_pos h, evs_tD]
  rfl
/-- nothing is left to wait for -/
def rdy (q : Pb) (s : Su) (f : Nat) (done : List Evt) (e : Evt) : Bool := ((cfL q s f e).filter fun c => !decide (c ∈ done)).length == 0
section
variable {n : Nat} {q : Pb} {s : Su}
theorem rdy_iff {f : Nat} {done : List Evt} {e : Evt} (hs : GoodSu s) (he : e ∈ eventsL q s f) : rdy q s f done e = true ↔ ∀ c ∈ causesL q s f e, c ∈ done := by
  unfold rdy
  rw [beq_iff_eq, List.length_eq_zero_iff, List.filter_eq_nil_iff]
  constructor
  · intro h c hc
    have := h c (List.mem_filter.mpr ⟨(causes_ev hs he hc).1, by simp [hc]⟩)
    simpa using this
  · intro h c hc
    have h1 := (List.mem_filter.mp hc).2
    simpa using h c (by simpa using h1)
end
end CM

namespace CM
open PySem hiding exec execs start
open PySem.Spec PyProof.Rows L2 MP
local macro_rules
  | `(tactic| simp_arith [$xs,*]) => `(tactic| simp -implicitDefEqProofs (disch := first | omega | (simp only [List.length_append, List.length_map, List.length_range, List.length_range', List.length_nil, List.length_cons, List.length_singleton, List.length_zipIdx] <;> omega)) only [gv0, gvS, go0, goS, ev_var, ev_own, ev_non, ev_bl, ev_int, ev_str, ev_glb, ev_tup, ev_lst, ev_dK0, ev_dT0, ev_bin, ev_cat, ev_rep, negR_int, ev_neg, notR_bl, ev_not, blR_some, ev_cmp, chR_t, chR_f, ev_chn, ev_and, ev_or, bR_bl, anR_t, anR_f, anR_b, orR_t, orR_f, orR_b, and_one, and_more, or_one, or_more, ev_ife, ev_idx, ev_slc, ev_rev, calR_f, calR_ok, calR_ex, ev_call, ev_prim, ev_mth, ev_isi, ev_srtset, ev_lrng, ev_comp, ev_newc, evs_nil, evs_cons, inR_int, evo_no, evo_so, evI_seq, evI_rng, evI_enum, tv_not, tv_and, tv_or, tv_var, tv_own, tv_non, tv_bl, tv_int, tv_cmp, tv_chn, tv_call, tv_prim, tv_isi, tv_idx, tv_mth, tv_ife, tv_comp, tv_slc, tv_bin, tand_one, tand_more, tor_one, tor_more, b_ok, b_ex, l_some, s_ok, s_ex, q_nx, q_rt, q_bk, q_ct, q_ex, n_some, f_nx, f_rt, f_ex, fr_f, fr_t, fr_k, x_asg, x_asgF, x_frz, onL0, onLS, x_app, x_ext, x_ex, x_ret, x_retN, x_cont, x_brk, x_rais, x_ite, x_for, x_whl, xs_nil, xs_cons, forB_nm, setTg_nm, setTg_tp, setTp_nil, setTp_cons, sl0, slS, w_nil, w_cons, ow0, owS, ob, om, st_e, frR_some, frz_eq, x_setg, x_seti, oc0, ocS, x_appPop, ol0, olS, fl_int, fls_nil, fls_cons, t_bl, t_int, t_non, t_lst, d_add, d_sub, d_mul, d_fdiv, d_mod, d_lt, d_le, d_gt, d_ge, d_eqi, d_nei, p_len, p_lent, p_lens, p_int, p_abs, p_tup, p_tupt, p_list, p_listt, p_min2, p_max2, ix_l, ix_t, ix_s, app_d, ext_l, ext_t, bo_ok (t_bl), bo_ok (t_int), bo_ok (t_lst), notR_of (t_lst), os_eq, Es.hasOwn, List.map_cons, List.map_nil, List.length_cons, List.length_nil, List.replicate_succ, List.replicate_zero, List.cons_append, List.nil_append, Nat.reduceSub, Nat.reduceAdd, Nat.sub_self, reduceIte, Bool.not_true, Bool.not_false, Bool.false_eq_true, Bool.and_self, Bool.and_true, Bool.true_and, Nat.reduceBEq, Nat.reduceEqDiff, cF_no, cF_so, cF2_no, cF2_so, cF3_no, cF3_so, cR_b, q_nil, q_nil2, forB_tp2, forB_tp3, ty_bool_non, ty_bool_bl, ty_bool_int, ty_bool_str, ty_bool_tup, ty_bool_lst, ty_int_non, ty_int_bl, ty_int_int, ty_int_str, ty_int_tup, ty_int_lst, ty_str_non, ty_str_bl, ty_str_int, ty_str_str, ty_str_tup, ty_str_lst, ty_tuple_non, ty_tuple_bl, ty_tuple_int, ty_tuple_str, ty_tuple_tup, ty_tuple_lst, ty_list_non, ty_list_bl, ty_list_int, ty_list_str, ty_list_tup, ty_list_lst, d_eqb, d_isn, d_isi, d_isb, d_iss, d_ist, d_isl, d_insn, d_insi, d_inst, d_insl, p_int_b, t_tup, compL_nil, compL_cons, cC_some, cC_none, cK_ok, cN_ok, forL_nil, forL_cons, foR_nx, foR_ct, foR_bk, foR_rt, foR_ex, seq_l, seq_t, enu_l, enu_t, ev_dcomp, dcF_nm, evI_items, agS_int, x_augi, x_ins, x_asgPop, setTg_tpl, forB_tp2l, forB_tp3l, d_isbb, d_insbb, d_isdK, p_lendK, p_lendT, ty_bool_dK, ty_int_dK, ty_str_dK, ty_tuple_dK, ty_list_dK, ms_i1, ms_i2, ms_g2, ms_g1, calR_n, calR_in, calR_bl, ix_pb0, ix_pb1, ix_pb2, ix_pb3, ix_su0, ix_su1, ix_su2, kq_0_0, kq_0_1, kq_0_2, kq_0_3, kq_0_4, kq_0_5, kq_0_6, kq_0_7, kq_1_0, kq_1_1, kq_1_2, kq_1_3, kq_1_4, kq_1_5, kq_1_6, kq_1_7, kq_2_0, kq_2_1, kq_2_2, kq_2_3, kq_2_4, kq_2_5, kq_2_6, kq_2_7, kq_3_0, kq_3_1, kq_3_2, kq_3_3, kq_3_4, kq_3_5, kq_3_6, kq_3_7, kq_4_0, kq_4_1, kq_4_2, kq_4_3, kq_4_4, kq_4_5, kq_4_6, kq_4_7, kq_5_0, kq_5_1, kq_5_2, kq_5_3, kq_5_4, kq_5_5, kq_5_6, kq_5_7, kq_6_0, kq_6_1, kq_6_2, kq_6_3, kq_6_4, kq_6_5, kq_6_6, kq_6_7, kq_7_0, kq_7_1, kq_7_2, kq_7_3, kq_7_4, kq_7_5, kq_7_6, kq_7_7, kn_0, kn_1, kn_2, kn_3, kn_4, kn_5, kn_6, kn_7, $xs,*])
local macro_rules
  | `(tactic| simp_arith [$xs,*] at $h:ident) => `(tactic| simp -implicitDefEqProofs (disch := first | omega | (simp only [List.length_append, List.length_map, List.length_range, List.length_range', List.length_nil, List.length_cons, List.length_singleton, List.length_zipIdx] <;> omega)) only [gv0, gvS, go0, goS, ev_var, ev_own, ev_non, ev_bl, ev_int, ev_str, ev_glb, ev_tup, ev_lst, ev_dK0, ev_dT0, ev_bin, ev_cat, ev_rep, negR_int, ev_neg, notR_bl, ev_not, blR_some, ev_cmp, chR_t, chR_f, ev_chn, ev_and, ev_or, bR_bl, anR_t, anR_f, anR_b, orR_t, orR_f, orR_b, and_one, and_more, or_one, or_more, ev_ife, ev_idx, ev_slc, ev_rev, calR_f, calR_ok, calR_ex, ev_call, ev_prim, ev_mth, ev_isi, ev_srtset, ev_lrng, ev_comp, ev_newc, evs_nil, evs_cons, inR_int, evo_no, evo_so, evI_seq, evI_rng, evI_enum, tv_not, tv_and, tv_or, tv_var, tv_own, tv_non, tv_bl, tv_int, tv_cmp, tv_chn, tv_call, tv_prim, tv_isi, tv_idx, tv_mth, tv_ife, tv_comp, tv_slc, tv_bin, tand_one, tand_more, tor_one, tor_more, b_ok, b_ex, l_some, s_ok, s_ex, q_nx, q_rt, q_bk, q_ct, q_ex, n_some, f_nx, f_rt, f_ex, fr_f, fr_t, fr_k, x_asg, x_asgF, x_frz, onL0, onLS, x_app, x_ext, x_ex, x_ret, x_retN, x_cont, x_brk, x_rais, x_ite, x_for, x_whl, xs_nil, xs_cons, forB_nm, setTg_nm, setTg_tp, setTp_nil, setTp_cons, sl0, slS, w_nil, w_cons, ow0, owS, ob, om, st_e, frR_some, frz_eq, x_setg, x_seti, oc0, ocS, x_appPop, ol0, olS, fl_int, fls_nil, fls_cons, t_bl, t_int, t_non, t_lst, d_add, d_sub, d_mul, d_fdiv, d_mod, d_lt, d_le, d_gt, d_ge, d_eqi, d_nei, p_len, p_lent, p_lens, p_int, p_abs, p_tup, p_tupt, p_list, p_listt, p_min2, p_max2, ix_l, ix_t, ix_s, app_d, ext_l, ext_t, bo_ok (t_bl), bo_ok (t_int), bo_ok (t_lst), notR_of (t_lst), os_eq, Es.hasOwn, List.map_cons, List.map_nil, List.length_cons, List.length_nil, List.replicate_succ, List.replicate_zero, List.cons_append, List.nil_append, Nat.reduceSub, Nat.reduceAdd, Nat.sub_self, reduceIte, Bool.not_true, Bool.not_false, Bool.false_eq_true, Bool.and_self, Bool.and_true, Bool.true_and, Nat.reduceBEq, Nat.reduceEqDiff, cF_no, cF_so, cF2_no, cF2_so, cF3_no, cF3_so, cR_b, q_nil, q_nil2, forB_tp2, forB_tp3, ty_bool_non, ty_bool_bl, ty_bool_int, ty_bool_str, ty_bool_tup, ty_bool_lst, ty_int_non, ty_int_bl, ty_int_int, ty_int_str, ty_int_tup, ty_int_lst, ty_str_non, ty_str_bl, ty_str_int, ty_str_str, ty_str_tup, ty_str_lst, ty_tuple_non, ty_tuple_bl, ty_tuple_int, ty_tuple_str, ty_tuple_tup, ty_tuple_lst, ty_list_non, ty_list_bl, ty_list_int, ty_list_str, ty_list_tup, ty_list_lst, d_eqb, d_isn, d_isi, d_isb, d_iss, d_ist, d_isl, d_insn, d_insi, d_inst, d_insl, p_int_b, t_tup, compL_nil, compL_cons, cC_some, cC_none, cK_ok, cN_ok, forL_nil, forL_cons, foR_nx, foR_ct, foR_bk, foR_rt, foR_ex, seq_l, seq_t, enu_l, enu_t, ev_dcomp, dcF_nm, evI_items, agS_int, x_augi, x_ins, x_asgPop, setTg_tpl, forB_tp2l, forB_tp3l, d_isbb, d_insbb, d_isdK, p_lendK, p_lendT, ty_bool_dK, ty_int_dK, ty_str_dK, ty_tuple_dK, ty_list_dK, ms_i1, ms_i2, ms_g2, ms_g1, calR_n, calR_in, calR_bl, ix_pb0, ix_pb1, ix_pb2, ix_pb3, ix_su0, ix_su1, ix_su2, kq_0_0, kq_0_1, kq_0_2, kq_0_3, kq_0_4, kq_0_5, kq_0_6, kq_0_7, kq_1_0, kq_1_1, kq_1_2, kq_1_3, kq_1_4, kq_1_5, kq_1_6, kq_1_7, kq_2_0, kq_2_1, kq_2_2, kq_2_3, kq_2_4, kq_2_5, kq_2_6, kq_2_7, kq_3_0, kq_3_1, kq_3_2, kq_3_3, kq_3_4, kq_3_5, kq_3_6, kq_3_7, kq_4_0, kq_4_1, kq_4_2, kq_4_3, kq_4_4, kq_4_5, kq_4_6, kq_4_7, kq_5_0, kq_5_1, kq_5_2, kq_5_3, kq_5_4, kq_5_5, kq_5_6, kq_5_7, kq_6_0, kq_6_1, kq_6_2, kq_6_3, kq_6_4, kq_6_5, kq_6_6, kq_6_7, kq_7_0, kq_7_1, kq_7_2, kq_7_3, kq_7_4, kq_7_5, kq_7_6, kq_7_7, kn_0, kn_1, kn_2, kn_3, kn_4, kn_5, kn_6, kn_7, $xs,*] at $h:ident)
/-! ### the events stand in order, each once -/
theorem grp_lo (w : Nat) : ∀ (l : List Nat) (o c : Nat), o ≤ c → Asc (c :: l) → ∀ p ∈ grp w o c l, o ≤ p.1 ∧ c ≤ p.2
  | [], o, c, h, _, p, hp => by
    rw [grp, List.mem_singleton] at hp
    subst hp
    exact ⟨Nat.le_refl _, Nat.le_refl _⟩
  | x :: r, o, c, h, ha, p, hp => by
    have h1 := List.pairwise_cons.mp ha
    have hx := h1.1 x (by simp)
    rw [grp] at hp
    split at hp
    · have := grp_lo w r o x (by omega) h1.2 p hp
      omega
    · rcases List.mem_cons.mp hp with rfl | hp
      · exact ⟨Nat.le_refl _, Nat.le_refl _⟩
      · have := grp_lo w r x x (Nat.le_refl _) h1.2 p hp
        omega
theorem grp_pw (w : Nat) : ∀ (l : List Nat) (o c : Nat), o ≤ c → Asc (c :: l) → (grp w o c l).Pairwise fun p p' => p.1 < p'.1 ∧ p.2 < p'.2
  | [], o, c, _, _ => by rw [grp]; exact List.pairwise_singleton _ _
  | x :: r, o, c, h, ha => by
    have h1 := List.pairwise_cons.mp ha
    have hx := h1.1 x (by simp)
    rw [grp]
    split
    · exact grp_pw w r o x (by omega) h1.2
    · refine List.pairwise_cons.mpr ⟨fun p hp => ?_, grp_pw w r x x (Nat.le_refl _) h1.2⟩
      have := grp_lo w r x x (Nat.le_refl _) h1.2 p hp
      show o < p.1 ∧ c < p.2
      omega
theorem grps_pw (w : Nat) {us : List Nat} (h : Asc us) : (grps w us).Pairwise fun p p' => p.1 < p'.1 ∧ p.2 < p'.2 := by
  cases us with
  | nil => exact List.Pairwise.nil
  | cons c l => exact grp_pw w l c c (Nat.le_refl _) h
theorem range_asc (n : Nat) : Asc (List.range n) := List.pairwise_lt_range
theorem stays_pw (q : Pb) (s : Su) (f : Nat) : (staysL q s f).Pairwise fun p p' => p.1 < p'.1 ∨ (p.1 = p'.1 ∧ p.2.1 < p'.2.1 ∧ p.2.2 < p'.2.2) := by
  unfold staysL
  rw [List.pairwise_flatMap]
  refine ⟨fun r _ => ?_, ?_⟩
  · rw [List.pairwise_map]
    exact (grps_pw s.wn (uses_asc q f r)).imp fun h => .inr ⟨rfl, h⟩
  · refine (range_asc q.rows.length).imp fun h x hx y hy => ?_
    obtain ⟨p, _, rfl⟩ := List.mem_map.mp hx
    obtain ⟨p', _, rfl⟩ := List.mem_map.mp hy
    exact .inl h
theorem open_asc (q : Pb) (s : Su) (f b : Nat) : Asc (openL q s f b) := by
  unfold openL
  rw [Asc, List.pairwise_map]
  refine ((stays_pw q s f).filter _).imp_of_mem fun hx hy h => ?_
  have h1 := (List.mem_filter.mp hx).2
  have h2 := (List.mem_filter.mp hy).2
  rw [beq_iff_eq] at h1 h2
  rcases h with h | h
  · exact h
  · omega
theorem close_asc (q : Pb) (s : Su) (f b : Nat) : Asc (closeL q s f b) := by
  unfold closeL
  rw [Asc, List.pairwise_map]
  refine ((stays_pw q s f).filter _).imp_of_mem fun hx hy h => ?_
  have h1 := (List.mem_filter.mp hx).2
  have h2 := (List.mem_filter.mp hy).2
  rw [beq_iff_eq] at h1 h2
  rcases h with h | h
  · exact h
  · omega
theorem asc_nodup {l : List Nat} (h : Asc l) : l.Nodup := h.imp fun h => Nat.ne_of_lt h
theorem users_asc (q : Pb) (s : Su) (r b : Nat) : Asc (usersL q s r b) := (range_asc _).filter _
theorem hand_nodup (q : Pb) (s : Su) (b : Nat) : (handL q s b).Nodup := by
  unfold handL
  rw [List.Nodup, List.pairwise_flatMap]
  refine ⟨fun r _ => ?_, ?_⟩
  · rw [List.pairwise_map]
    exact (users_asc q s r b).imp fun h e => by simp at e; omega
  · refine (range_asc q.rows.length).imp fun h x hx y hy e => ?_
    obtain ⟨p, _, rfl⟩ := List.mem_map.mp hx
    obtain ⟨p', _, rfl⟩ := List.mem_map.mp hy
    simp at e; omega
/-- by their ranks, each once -/
def evLt (a b : Evt) : Prop := evR a ≤ evR b ∧ a ≠ b
/-- events of the ranks from lo on, below hi -/
structure Seg (lo hi : Nat) (l : List Evt) : Prop where
  pw : l.Pairwise evLt
  lo : ∀ e ∈ l, lo ≤ evR e
  hi : ∀ e ∈ l, evR e < hi
theorem Seg.one {k : Nat} {l : List Evt} (hn : l.Nodup) (h : ∀ e ∈ l, evR e = k) : Seg k (k + 1) l :=
  ⟨List.Pairwise.imp_of_mem (fun ha hb hne => ⟨by rw [h _ ha, h _ hb]; exact Nat.le_refl _, hne⟩) hn, fun e he => by rw [h e he]; exact Nat.le_refl _, fun e he => by rw [h e he]; omega⟩
theorem Seg.app {a b c : Nat} {l m : List Evt} (h : Seg a b l) (k : Seg b c m) (hab : a ≤ b) (hbc : b ≤ c) : Seg a c (l ++ m) := by
  refine ⟨List.pairwise_append.mpr ⟨h.pw, k.pw, fun x hx y hy => ?_⟩, fun e he => ?_, fun e he => ?_⟩
  · have h1 := h.hi x hx
    have h2 := k.lo y hy
    exact ⟨by omega, fun e => by subst e; omega⟩
  · rcases List.mem_append.mp he with he | he
    · exact h.lo e he
    · have := k.lo e he; omega
  · rcases List.mem_append.mp he with he | he
    · have := h.hi e he; omega
    · exact k.hi e he
theorem map_nodup {α β : Type} (g : α → β) {l : List α} (h : l.Nodup) (hi : ∀ a b, g a = g b → a = b) : (l.map g).Nodup := by
  rw [List.Nodup, List.pairwise_map]
  exact h.imp fun h e => h (hi _ _ e)
theorem evOf_seg (q : Pb) (s : Su) (b : Nat) {op cl : List Nat} (ho : op.Nodup) (hc : cl.Nodup) : Seg (8 * b) (8 * b + 8) (evOf q s b op cl) := by
  have hh := hand_nodup q s b
  have hp : ∀ {p p' : Nat × Nat}, p.1 = p'.1 ∧ p.2 = p'.2 → p = p' := fun h => Prod.ext h.1 h.2
  have s0 : Seg (8 * b) (8 * b + 1) (op.map (Evt.req · b)) := .one (map_nodup _ ho fun _ _ e => by cases e; rfl) fun e he => by obtain ⟨x, _, rfl⟩ := List.mem_map.mp he; rfl
  have s1 : Seg (8 * b + 1) (8 * b + 2) (op.map (Evt.read · b)) := .one (map_nodup _ ho fun _ _ e => by cases e; rfl) fun e he => by obtain ⟨x, _, rfl⟩ := List.mem_map.mp he; rfl
  have s2 : Seg (8 * b + 2) (8 * b + 3) (op.map (Evt.rep · b)) := .one (map_nodup _ ho fun _ _ e => by cases e; rfl) fun e he => by obtain ⟨x, _, rfl⟩ := List.mem_map.mp he; rfl
  have s3 : Seg (8 * b + 3) (8 * b + 4) ((handL q s b).map fun p => Evt.val p.1 b p.2) := .one (map_nodup _ hh fun _ _ e => by simp at e; exact hp e) fun e he => by obtain ⟨x, _, rfl⟩ := List.mem_map.mp he; rfl
  have s4 : Seg (8 * b + 4) (8 * b + 5) ((List.range s.tr).map (Evt.cmp · b)) := .one (map_nodup _ List.nodup_range fun _ _ e => by cases e; rfl) fun e he => by obtain ⟨x, _, rfl⟩ := List.mem_map.mp he; rfl
  have s5 : Seg (8 * b + 5) (8 * b + 6) ((handL q s b).map fun p => Evt.upd p.1 b p.2) := .one (map_nodup _ hh fun _ _ e => by simp at e; exact hp e) fun e he => by obtain ⟨x, _, rfl⟩ := List.mem_map.mp he; rfl
  have s6 : Seg (8 * b + 6) (8 * b + 7) (cl.map (Evt.wr · b)) := .one (map_nodup _ hc fun _ _ e => by cases e; rfl) fun e he => by obtain ⟨x, _, rfl⟩ := List.mem_map.mp he; rfl
  have s7 : Seg (8 * b + 7) (8 * b + 8) (cl.map (Evt.ack · b)) := .one (map_nodup _ hc fun _ _ e => by cases e; rfl) fun e he => by obtain ⟨x, _, rfl⟩ := List.mem_map.mp he; rfl
  exact (((((((s0.app s1 (by omega) (by omega)).app s2 (by omega) (by omega)).app s3 (by omega) (by omega)).app s4 (by omega) (by omega)).app s5 (by omega) (by omega)).app s6 (by omega) (by omega)).app s7 (by omega) (by omega))
section
variable {q : Pb} {s : Su} {f : Nat}
theorem events_pw : (eventsL q s f).Pairwise evLt := by
  unfold eventsL
  have hs : ∀ b, Seg (8 * b) (8 * b + 8) (evOf q s b (openL q s f b) (closeL q s f b)) := fun b => evOf_seg q s b (asc_nodup (open_asc q s f b)) (asc_nodup (close_asc q s f b))
  rw [List.pairwise_flatMap]
  refine ⟨fun b _ => (hs b).pw, (List.pairwise_lt_range' (s := f) (n := q.bs.length - f)).imp fun h x hx y hy => ?_⟩
  have h1 := (hs _).hi x hx
  have h2 := (hs _).lo y hy
  exact ⟨by omega, fun e => by subst e; omega⟩
theorem events_nodup : (eventsL q s f).Nodup := events_pw.imp fun h => h.2
/-- a cause stands ahead -/
theorem ahead {k : Nat} (hs : GoodSu s) (hk : k < (eventsL q s f).length) : (((eventsL q s f).take k).filter fun o => decide (o ∈ causesL q s f (eventsL q s f)[k])) = cfL q s f (eventsL q s f)[k] := by
  unfold cfL
  have hm : (eventsL q s f)[k] ∈ eventsL q s f := List.getElem_mem hk
  have hd : ((eventsL q s f).drop k).filter (fun o => decide (o ∈ causesL q s f (eventsL q s f)[k])) = [] := by
    rw [List.filter_eq_nil_iff]
    intro o ho hc
    have hc := (causes_ev hs hm (of_decide_eq_true hc)).2
    rw [List.drop_eq_getElem_cons hk] at ho
    rcases List.mem_cons.mp ho with rfl | ho
    · omega
    · have hp := events_pw (q := q) (s := s) (f := f)
      rw [← List.take_append_drop k (eventsL q s f), List.pairwise_append, List.drop_eq_getElem_cons hk, List.pairwise_cons] at hp
      have := (hp.2.1.1 o ho).1
      omega
  have := congrArg (List.filter fun o => decide (o ∈ causesL q s f (eventsL q s f)[k])) (List.take_append_drop k (eventsL q s f))
  rw [List.filter_append, hd, List.append_nil] at this
  exact this
theorem mem_cf {e o : Evt} (hs : GoodSu s) (ho : o ∈ eventsL q s f) : e ∈ cfL q s f o ↔ e ∈ causesL q s f o := by
  unfold cfL
  rw [List.mem_filter, decide_eq_true_eq]
  exact ⟨fun h => h.2, fun h => ⟨(causes_ev hs ho h).1, h⟩⟩
/-- two events that are free -/
def freeE (q : Pb) (s : Su) (f : Nat) (a b : Evt) : Bool := !decide (a = b) && (!decide (a ∈ causesL q s f b) && !decide (b ∈ causesL q s f a))
theorem free_comm (a b : Evt) : freeE q s f a b = freeE q s f b a := by
  unfold freeE
  rw [show decide (a = b) = decide (b = a) from by rw [decide_eq_decide]; exact ⟨Eq.symm, Eq.symm⟩]
  cases decide (b = a) <;> cases decide (a ∈ causesL q s f b) <;> cases decide (b ∈ causesL q s f a) <;> rfl
theorem free_self (a : Evt) : freeE q s f a a = false := by unfold freeE; simp
end
/-- a run -/
def runD (q : Pb) (s : Su) (f : Nat) : D := .lst [pbD q, suD s, nD f]
section
variable {n : Nat} {G : Gs} {q : Pb} {s : Su}
theorem ix_r0 {f : Nat} : idxD G (runD q s f) (.int 0) = some (pbD q) := rfl
theorem ix_r1 {f : Nat} : idxD G (runD q s f) (.int 1) = some (suD s) := rfl
theorem ix_r2 {f : Nat} : idxD G (runD q s f) (.int 2) = some (nD f) := rfl
theorem graph_eq {f : Nat} (hq : GoodP q) (hs : GoodSu s) (hf : f ≤ 1000) : callN Pr (n + 5) "_law_graph" [runD q s f] G = .ok (knD q s f (eventsL q s f)) G := by
  have e1 := law_events_eq (n := n) (G := G) (f := f) hq hs hf
  have hl := events_len hq hs f
  rw [call_eq P_law_graph rfl]
  simp_arith [d_law_graph, ix_r0, ix_r1, ix_r2, e1, List.length_map, rngN (eventsL q s f).length (by omega)]
  rw [for_st _ (fun env (es : List Evt) => env.set 2 (.own (knD q s f es))) (fun _ k => (eventsL q s f).take (k + 1)) [] (List.range (eventsL q s f).length) (fun j es => es = (eventsL q s f).take j) rfl (by simp)]
  · have e : (List.range (eventsL q s f).length).foldl (fun _ k => (eventsL q s f).take (k + 1)) [] = eventsL q s f := by
      cases h : (eventsL q s f).length with
      | zero => rw [List.length_eq_zero_iff.mp h]; rfl
      | succ m => rw [List.range_succ, List.foldl_append]; simp only [List.foldl_cons, List.foldl_nil]; exact List.take_of_length_le (by omega)
    simp_arith [e]
    rfl
  · rintro j k es hj rfl
    obtain ⟨hk, rfl⟩ := range_get hj
    have hm : (eventsL q s f)[k] ∈ eventsL q s f := List.getElem_mem hk
    have i1 : atI ((eventsL q s f).map evD) (k : Int) = some (evD (eventsL q s f)[k]) := atI_map _ _ _ hk
    have i2 : slcD none (some (k : Int)) (.tup true ((eventsL q s f).map evD)) = some (.tup true (((eventsL q s f).take k).map evD)) := by
      simp only [slcD, cut_nat0, List.map_take, ite_self]
    have c1 : ∀ (x : Str) (A C : Sl), compL (compF (callN Pr (n + 4)) (.nm 4 x) d_law_graph_e1 (.so d_law_graph_c2) [4] [.val (runD q s f), .val (.tup true ((eventsL q s f).map evD)), A, .val (nD k), C]) (((eventsL q s f).take k).map evD) G = .ok ((cfL q s f (eventsL q s f)[k]).map evD) G := fun x A C => by
      rw [← ahead hs hk]
      refine compL_fm _ _ _ fun o ho => ?_
      have e6 := is_cause_eq (n := n + 1) (G := G) (q := q) (s := s) o (eventsL q s f)[k] hq hf
      simp_arith [d_law_graph_c2, d_law_graph_e1, ix_r0, ix_r1, ix_r2, i1, e6, isC_eq (List.mem_of_mem_take ho) hm, cif]
    have hn : (eventsL q s f)[k] ∉ (eventsL q s f).take k := by
      have hp := events_nodup (q := q) (s := s) (f := f)
      rw [← List.take_append_drop k (eventsL q s f), List.drop_eq_getElem_cons hk, List.nodup_append] at hp
      exact fun h => hp.2.2 _ h _ List.mem_cons_self rfl
    have e5 : setD (knD q s f ((eventsL q s f).take k)) (evD (eventsL q s f)[k]) (.lst ((cfL q s f (eventsL q s f)[k]).map evD)) = some (knD q s f ((eventsL q s f).take (k + 1))) := by
      rw [ev_tD]
      unfold knD
      rw [set_new (by rw [List.length_map, List.length_take]; omega) (by rw [evK_mem]; exact hn), List.take_add_one, List.getElem?_eq_getElem hk]
      simp only [Option.toList, List.map_append, List.map_cons, List.map_nil]
    simp_arith [d_law_graph_b0, i1, i2, c1, e5]
    exact nx_nx ⟨rfl, rfl, trivial⟩
/-- the known run -/
def kQ : Pb := ⟨[5, 0, 2], [[⟨[0, 1], 9⟩], [⟨[1], 5⟩, ⟨[0], 0⟩], [⟨[0, 2], 4⟩]], 2, 3⟩
theorem kQ_good : GoodP kQ := by decide
def kS : Su := ⟨2, 1, 1⟩
theorem kS_good : GoodSu kS := by decide
theorem known_eq : callN Pr (n + 1) "_law_known" [] G = .ok (runD kQ kS 0) G := by
  rw [call_eq P_law_known rfl]
  simp_arith [d_law_known]
  rfl
theorem kn_at {f : Nat} {es : List Evt} {e : Evt} (h : e ∈ es) : idxD G (knD q s f es) (evD e) = some (.lst ((cfL q s f e).map evD)) := by
  rw [ev_tD]; exact ix_kn h
theorem tup_kn {f : Nat} {es : List Evt} : primD .tuple1 [knD q s f es] = some (.tup true (es.map evD)) := by
  have h : (es.map evK).length = (es.map fun e => D.lst ((cfL q s f e).map evD)).length := by simp
  show (if (es.map evK).length = (es.map fun e => D.lst ((cfL q s f e).map evD)).length then some (D.tup true ((es.map evK).map fun k => .tup false (k.map kD))) else none) = _
  rw [if_pos h, evs_tD]
  rfl
theorem len_kn {f : Nat} {es : List Evt} : primD .len1 [knD q s f es] = some (nD es.length) := by
  show some (D.int ((es.map evK).length : Nat)) = _
  rw [List.length_map]
end
end CM

namespace CM
open PySem hiding exec execs start
open PySem.Spec PyProof.Rows L2 MP
local macro_rules
  | `(tactic| simp_arith [$xs,*]) => `(tactic| simp -implicitDefEqProofs (disch := first | omega | (simp only [List.length_append, List.length_map, List.length_range, List.length_range', List.length_nil, List.length_cons, List.length_singleton, List.length_zipIdx] <;> omega)) only [gv0, gvS, go0, goS, ev_var, ev_own, ev_non, ev_bl, ev_int, ev_str, ev_glb, ev_tup, ev_lst, ev_dK0, ev_dT0, ev_bin, ev_cat, ev_rep, negR_int, ev_neg, notR_bl, ev_not, blR_some, ev_cmp, chR_t, chR_f, ev_chn, ev_and, ev_or, bR_bl, anR_t, anR_f, anR_b, orR_t, orR_f, orR_b, and_one, and_more, or_one, or_more, ev_ife, ev_idx, ev_slc, ev_rev, calR_f, calR_ok, calR_ex, ev_call, ev_prim, ev_mth, ev_isi, ev_srtset, ev_lrng, ev_comp, ev_newc, evs_nil, evs_cons, inR_int, evo_no, evo_so, evI_seq, evI_rng, evI_enum, tv_not, tv_and, tv_or, tv_var, tv_own, tv_non, tv_bl, tv_int, tv_cmp, tv_chn, tv_call, tv_prim, tv_isi, tv_idx, tv_mth, tv_ife, tv_comp, tv_slc, tv_bin, tand_one, tand_more, tor_one, tor_more, b_ok, b_ex, l_some, s_ok, s_ex, q_nx, q_rt, q_bk, q_ct, q_ex, n_some, f_nx, f_rt, f_ex, fr_f, fr_t, fr_k, x_asg, x_asgF, x_frz, onL0, onLS, x_app, x_ext, x_ex, x_ret, x_retN, x_cont, x_brk, x_rais, x_ite, x_for, x_whl, xs_nil, xs_cons, forB_nm, setTg_nm, setTg_tp, setTp_nil, setTp_cons, sl0, slS, w_nil, w_cons, ow0, owS, ob, om, st_e, frR_some, frz_eq, x_setg, x_seti, oc0, ocS, x_appPop, ol0, olS, fl_int, fls_nil, fls_cons, t_bl, t_int, t_non, t_lst, d_add, d_sub, d_mul, d_fdiv, d_mod, d_lt, d_le, d_gt, d_ge, d_eqi, d_nei, p_len, p_lent, p_lens, p_int, p_abs, p_tup, p_tupt, p_list, p_listt, p_min2, p_max2, ix_l, ix_t, ix_s, app_d, ext_l, ext_t, bo_ok (t_bl), bo_ok (t_int), bo_ok (t_lst), notR_of (t_lst), os_eq, Es.hasOwn, List.map_cons, List.map_nil, List.length_cons, List.length_nil, List.replicate_succ, List.replicate_zero, List.cons_append, List.nil_append, Nat.reduceSub, Nat.reduceAdd, Nat.sub_self, reduceIte, Bool.not_true, Bool.not_false, Bool.false_eq_true, Bool.and_self, Bool.and_true, Bool.true_and, Nat.reduceBEq, Nat.reduceEqDiff, cF_no, cF_so, cF2_no, cF2_so, cF3_no, cF3_so, cR_b, q_nil, q_nil2, forB_tp2, forB_tp3, ty_bool_non, ty_bool_bl, ty_bool_int, ty_bool_str, ty_bool_tup, ty_bool_lst, ty_int_non, ty_int_bl, ty_int_int, ty_int_str, ty_int_tup, ty_int_lst, ty_str_non, ty_str_bl, ty_str_int, ty_str_str, ty_str_tup, ty_str_lst, ty_tuple_non, ty_tuple_bl, ty_tuple_int, ty_tuple_str, ty_tuple_tup, ty_tuple_lst, ty_list_non, ty_list_bl, ty_list_int, ty_list_str, ty_list_tup, ty_list_lst, d_eqb, d_isn, d_isi, d_isb, d_iss, d_ist, d_isl, d_insn, d_insi, d_inst, d_insl, p_int_b, t_tup, compL_nil, compL_cons, cC_some, cC_none, cK_ok, cN_ok, forL_nil, forL_cons, foR_nx, foR_ct, foR_bk, foR_rt, foR_ex, seq_l, seq_t, enu_l, enu_t, ev_dcomp, dcF_nm, evI_items, agS_int, x_augi, x_ins, x_asgPop, setTg_tpl, forB_tp2l, forB_tp3l, d_isbb, d_insbb, d_isdK, p_lendK, p_lendT, ty_bool_dK, ty_int_dK, ty_str_dK, ty_tuple_dK, ty_list_dK, ms_i1, ms_i2, ms_g2, ms_g1, $xs,*])
local macro_rules
  | `(tactic| simp_arith [$xs,*] at $h:ident) => `(tactic| simp -implicitDefEqProofs (disch := first | omega | (simp only [List.length_append, List.length_map, List.length_range, List.length_range', List.length_nil, List.length_cons, List.length_singleton, List.length_zipIdx] <;> omega)) only [gv0, gvS, go0, goS, ev_var, ev_own, ev_non, ev_bl, ev_int, ev_str, ev_glb, ev_tup, ev_lst, ev_dK0, ev_dT0, ev_bin, ev_cat, ev_rep, negR_int, ev_neg, notR_bl, ev_not, blR_some, ev_cmp, chR_t, chR_f, ev_chn, ev_and, ev_or, bR_bl, anR_t, anR_f, anR_b, orR_t, orR_f, orR_b, and_one, and_more, or_one, or_more, ev_ife, ev_idx, ev_slc, ev_rev, calR_f, calR_ok, calR_ex, ev_call, ev_prim, ev_mth, ev_isi, ev_srtset, ev_lrng, ev_comp, ev_newc, evs_nil, evs_cons, inR_int, evo_no, evo_so, evI_seq, evI_rng, evI_enum, tv_not, tv_and, tv_or, tv_var, tv_own, tv_non, tv_bl, tv_int, tv_cmp, tv_chn, tv_call, tv_prim, tv_isi, tv_idx, tv_mth, tv_ife, tv_comp, tv_slc, tv_bin, tand_one, tand_more, tor_one, tor_more, b_ok, b_ex, l_some, s_ok, s_ex, q_nx, q_rt, q_bk, q_ct, q_ex, n_some, f_nx, f_rt, f_ex, fr_f, fr_t, fr_k, x_asg, x_asgF, x_frz, onL0, onLS, x_app, x_ext, x_ex, x_ret, x_retN, x_cont, x_brk, x_rais, x_ite, x_for, x_whl, xs_nil, xs_cons, forB_nm, setTg_nm, setTg_tp, setTp_nil, setTp_cons, sl0, slS, w_nil, w_cons, ow0, owS, ob, om, st_e, frR_some, frz_eq, x_setg, x_seti, oc0, ocS, x_appPop, ol0, olS, fl_int, fls_nil, fls_cons, t_bl, t_int, t_non, t_lst, d_add, d_sub, d_mul, d_fdiv, d_mod, d_lt, d_le, d_gt, d_ge, d_eqi, d_nei, p_len, p_lent, p_lens, p_int, p_abs, p_tup, p_tupt, p_list, p_listt, p_min2, p_max2, ix_l, ix_t, ix_s, app_d, ext_l, ext_t, bo_ok (t_bl), bo_ok (t_int), bo_ok (t_lst), notR_of (t_lst), os_eq, Es.hasOwn, List.map_cons, List.map_nil, List.length_cons, List.length_nil, List.replicate_succ, List.replicate_zero, List.cons_append, List.nil_append, Nat.reduceSub, Nat.reduceAdd, Nat.sub_self, reduceIte, Bool.not_true, Bool.not_false, Bool.false_eq_true, Bool.and_self, Bool.and_true, Bool.true_and, Nat.reduceBEq, Nat.reduceEqDiff, cF_no, cF_so, cF2_no, cF2_so, cF3_no, cF3_so, cR_b, q_nil, q_nil2, forB_tp2, forB_tp3, ty_bool_non, ty_bool_bl, ty_bool_int, ty_bool_str, ty_bool_tup, ty_bool_lst, ty_int_non, ty_int_bl, ty_int_int, ty_int_str, ty_int_tup, ty_int_lst, ty_str_non, ty_str_bl, ty_str_int, ty_str_str, ty_str_tup, ty_str_lst, ty_tuple_non, ty_tuple_bl, ty_tuple_int, ty_tuple_str, ty_tuple_tup, ty_tuple_lst, ty_list_non, ty_list_bl, ty_list_int, ty_list_str, ty_list_tup, ty_list_lst, d_eqb, d_isn, d_isi, d_isb, d_iss, d_ist, d_isl, d_insn, d_insi, d_inst, d_insl, p_int_b, t_tup, compL_nil, compL_cons, cC_some, cC_none, cK_ok, cN_ok, forL_nil, forL_cons, foR_nx, foR_ct, foR_bk, foR_rt, foR_ex, seq_l, seq_t, enu_l, enu_t, ev_dcomp, dcF_nm, evI_items, agS_int, x_augi, x_ins, x_asgPop, setTg_tpl, forB_tp2l, forB_tp3l, d_isbb, d_insbb, d_isdK, p_lendK, p_lendT, ty_bool_dK, ty_int_dK, ty_str_dK, ty_tuple_dK, ty_list_dK, ms_i1, ms_i2, ms_g2, ms_g1, $xs,*] at $h:ident)
/-! ### the drawn stream -/
section
variable {n : Nat} {G : Gs}
theorem cell_eq (ns : List Int) (k : Nat) : callN Pr (n + 1) "_law_cell" [.scr ns, nD k] G = .ok (.int (ns.getD k 0)) G := by
  rw [call_eq P_law_cell rfl]
  by_cases h : k < ns.length
  · have e : atI ns (k : Int) = some ns[k] := by rw [atI_nat]; simp [h]
    have h2 : ((k : Int) < (ns.length : Int)) := by omega
    simp_arith [d_law_cell, h2, e, decide_true]
    simp [h]
  · have h2 : ¬ ((k : Int) < (ns.length : Int)) := by omega
    simp_arith [d_law_cell, h2, decide_false]
    simp [h]
def dig (m : Nat) (ds : List Int) : Prop := ∀ d ∈ ds, 0 ≤ d ∧ d < m
theorem dig_add {m : Nat} {ds es : List Int} (h : dig m ds) (h2 : dig m es) : dig m (ds ++ es) := fun d hd => (List.mem_append.mp hd).elim (h d) (h2 d)
theorem dig_one {x : Int} : dig 60 [x % 60] := fun d hd => by
  rw [List.mem_singleton.mp hd]
  exact ⟨Int.emod_nonneg _ (by omega), Int.emod_lt_of_pos _ (by omega)⟩
theorem draws_eq (c : Int) : ∃ ds : List Int, ds.length = 12 ∧ dig 60 ds ∧ callN Pr (n + 1) "_law_draws" [.int c, .int 12] G = .ok (.lst (ds.map .int)) G := by
  have e1 : rngItems [.int 60] = some ((List.range 60).map nD) := rng1 (by decide) (by decide)
  obtain ⟨a, ha, ea⟩ : ∃ a : Int, 0 ≤ a ∧ (if c < 0 then -c else c) = a := ⟨_, by split <;> omega, rfl⟩
  have e2 : binD .pow (.int 10) (.int 18) = some (.int 1000000000000000000) := by rfl
  obtain ⟨⟨x, ds⟩, e3, hx, hl, hd⟩ := for_ex (G := G) (ws := [5, 6]) (enc := nD) (body := forB (callN Pr n) (.nm 5 "_law_k") d_law_draws_b0) [.val (.int c), .val (.int 12), .val (.int a), .val (.bl (decide (1000000000000000000 ≤ a))), .own (.lst []), .un, .un]
    (fun e (p : Int × List Int) => (e.set 2 (.val (.int p.1))).set 4 (.own (.lst (p.2.map .int)))) (a, []) (List.range 60) (fun i p => 0 ≤ p.1 ∧ p.2.length = min i 12 ∧ dig 60 p.2) rfl ⟨ha, rfl, by simp [dig]⟩ fun i k p hk ⟨hx, hl, hg⟩ => by
      obtain ⟨hi, rfl⟩ := range_get hk
      obtain ⟨x, ds⟩ := p
      have hlen : (ds.map D.int).length < 1000000 := by rw [List.length_map, hl]; omega
      have m1 : ∀ y : Int, ds.map D.int ++ [D.int y] = (ds ++ [y]).map .int := fun y => by simp
      have hm : ∀ y : Int, binD .mul (.int (y % 2147483647)) (.int (y % 2147483647)) = some (.int (y % 2147483647 * (y % 2147483647))) := fun y => d_mul (.inl ⟨by have := Int.emod_nonneg y (b := 2147483647) (by omega); omega, by have := Int.emod_lt_of_pos y (b := 2147483647) (by omega); omega⟩)
      generalize decide (1000000000000000000 ≤ a) = b
      by_cases hi2 : (k : Int) < 12
      · have hl2 : ∀ y : Int, (ds ++ [y]).length = min (k + 1) 12 := fun y => by rw [List.length_append, hl]; simp; omega
        cases b with
        | true =>
          simp_arith [d_law_draws_b0, hi2, decide_true, app_d hlen]
          exact nx_nx ⟨rfl, (x / 60, ds ++ [x % 60]), by simp_arith [m1], Int.ediv_nonneg hx (by omega), hl2 _, dig_add hg dig_one⟩
        | false =>
          simp_arith [d_law_draws_b0, hi2, decide_true, app_d hlen, hm]
          generalize ((x * 48271 + (k : Int) * 69621 + 11) % 2147483647 * ((x * 48271 + (k : Int) * 69621 + 11) % 2147483647) + (k : Int) * 7919 + 5) % 998244353 = z
          exact nx_nx ⟨rfl, (x, ds ++ [z % 60]), by simp_arith [m1], hx, hl2 _, dig_add hg dig_one⟩
      · have hl2 : ds.length = min (k + 1) 12 := by rw [hl]; omega
        simp_arith [d_law_draws_b0, hi2, decide_false]
        exact nx_nx ⟨rfl, (x, ds), by simp_arith [], hx, hl2, hg⟩
  refine ⟨ds, by simpa using hl, hd, ?_⟩
  rw [call_eq P_law_draws rfl]
  simp_arith [] at e3
  simp_arith [d_law_draws, e1, e2, ea, e3]
def Pl (p : Nat) : Gs := [.lst [.int p]]
def stD (ds : List Int) : D := .lst [.lst (ds.map .int), .glob 0]
/-- the digits of a stream -/
structure Dig (ds : List Int) : Prop where
  d : dig 60 ds
  l : 0 < ds.length
theorem stream_eq (ns : List Int) (c : Nat) (hc0 : 0 < c) (hc : c ≤ 1000) : ∃ ds : List Int, Dig ds ∧ callN Pr (n + 2) "_law_stream" [.scr ns, .int 0, nD c] [] = .ok (stD ds) (Pl 0) := by
  obtain ⟨ds, e3, hl, hd⟩ := for_ex (G := []) (ws := [4]) (enc := nD) (body := forB (callN Pr (n + 1)) (.nm 4 "_law_k") d_law_stream_b0) [.val (.scr ns), .val (.int 0), .val (nD c), .own (.lst []), .un]
    (fun e (ds : List Int) => e.set 3 (.own (.lst (ds.map .int)))) [] (List.range c) (fun i ds => ds.length = 12 * i ∧ dig 60 ds) rfl ⟨rfl, by simp [dig]⟩ fun i k ds hk ⟨hl, hg⟩ => by
      obtain ⟨hi, rfl⟩ := range_get hk
      have e1 := cell_eq (n := n) (G := []) ns k
      have e0 : (0 : Int) + (k : Int) = (k : Int) := by omega
      obtain ⟨es, k1, k2, e2⟩ := draws_eq (n := n) (G := []) (ns.getD k 0)
      have hlen : (ds.map D.int).length + (es.map D.int).length < 1000000 := by rw [List.length_map, List.length_map, hl, k1]; omega
      simp_arith [d_law_stream_b0, e0, e1, e2, ext_l hlen]
      exact nx_nx ⟨rfl, ds ++ es, by simp_arith [List.map_append], by rw [List.length_append, hl, k1]; omega, dig_add hg k2⟩
  refine ⟨ds, ⟨hd, by rw [hl, List.length_range]; omega⟩, ?_⟩
  rw [call_eq P_law_stream rfl]
  simp_arith [] at e3
  simp_arith [d_law_stream, rngN c (by omega), e3, fl_int]
  rfl
theorem next_eq {ds : List Int} (hd : Dig ds) (m p : Nat) (hm : 0 < m) : ∃ v : Nat, v < m ∧ callN Pr (n + 1) "_law_next" [stD ds, nD m] (Pl p) = .ok (nD v) (Pl (p + 1)) := by
  rw [call_eq P_law_next rfl]
  have a0 : atI [D.lst (ds.map .int), .glob 0] 0 = some (.lst (ds.map .int)) := rfl
  have a1 : atI [D.lst (ds.map .int), .glob 0] 1 = some (.glob 0) := rfl
  have ix1 : idxD (Pl p) (.glob 0) (.int 0) = some (.int (p : Int)) := rfl
  have hl := hd.l
  have lt : p % ds.length < ds.length := Nat.mod_lt _ hl
  have ix2 : atI (ds.map D.int) ((p % ds.length : Nat) : Int) = some (.int ds[p % ds.length]) := by
    rw [atI_nat]; simp [lt]
  have hmm : (0 : Int) < (m : Int) := by omega
  have hll : (0 : Int) < (ds.length : Int) := by omega
  have hb := hd.d _ (List.getElem_mem lt)
  refine ⟨(ds[p % ds.length] % (m : Int)).toNat, ?_, ?_⟩
  · have h1 := Int.emod_nonneg ds[p % ds.length] (b := (m : Int)) (by omega)
    have h2 := Int.emod_lt_of_pos ds[p % ds.length] hmm
    omega
  · have e : (((ds[p % ds.length] % (m : Int)).toNat : Nat) : Int) = ds[p % ds.length] % (m : Int) := Int.toNat_of_nonneg (Int.emod_nonneg _ (by omega))
    show _ = Res.ok (D.int (((ds[p % ds.length] % (m : Int)).toNat : Nat) : Int)) _
    rw [e]
    simp_arith [d_law_next, stD, a0, a1, ix1, List.length_map, d_mod hll, nmod, ix2, d_mod hmm]
    rfl
end
end CM
namespace CM
open PySem hiding exec execs start
open PySem.Spec PyProof.Rows L2 MP
local macro_rules
  | `(tactic| simp_arith [$xs,*]) => `(tactic| simp -implicitDefEqProofs (disch := first | omega | (simp only [List.length_append, List.length_map, List.length_range, List.length_range', List.length_nil, List.length_cons, List.length_singleton, List.length_zipIdx] <;> omega)) only [gv0, gvS, go0, goS, ev_var, ev_own, ev_non, ev_bl, ev_int, ev_str, ev_glb, ev_tup, ev_lst, ev_dK0, ev_dT0, ev_bin, ev_cat, ev_rep, negR_int, ev_neg, notR_bl, ev_not, blR_some, ev_cmp, chR_t, chR_f, ev_chn, ev_and, ev_or, bR_bl, anR_t, anR_f, anR_b, orR_t, orR_f, orR_b, and_one, and_more, or_one, or_more, ev_ife, ev_idx, ev_slc, ev_rev, calR_f, calR_ok, calR_ex, ev_call, ev_prim, ev_mth, ev_isi, ev_srtset, ev_lrng, ev_comp, ev_newc, evs_nil, evs_cons, inR_int, evo_no, evo_so, evI_seq, evI_rng, evI_enum, tv_not, tv_and, tv_or, tv_var, tv_own, tv_non, tv_bl, tv_int, tv_cmp, tv_chn, tv_call, tv_prim, tv_isi, tv_idx, tv_mth, tv_ife, tv_comp, tv_slc, tv_bin, tand_one, tand_more, tor_one, tor_more, b_ok, b_ex, l_some, s_ok, s_ex, q_nx, q_rt, q_bk, q_ct, q_ex, n_some, f_nx, f_rt, f_ex, fr_f, fr_t, fr_k, x_asg, x_asgF, x_frz, onL0, onLS, x_app, x_ext, x_ex, x_ret, x_retN, x_cont, x_brk, x_rais, x_ite, x_for, x_whl, xs_nil, xs_cons, forB_nm, setTg_nm, setTg_tp, setTp_nil, setTp_cons, sl0, slS, w_nil, w_cons, ow0, owS, ob, om, st_e, frR_some, frz_eq, x_setg, x_seti, oc0, ocS, x_appPop, ol0, olS, fl_int, fls_nil, fls_cons, t_bl, t_int, t_non, t_lst, d_add, d_sub, d_mul, d_fdiv, d_mod, d_lt, d_le, d_gt, d_ge, d_eqi, d_nei, p_len, p_lent, p_lens, p_int, p_abs, p_tup, p_tupt, p_list, p_listt, p_min2, p_max2, ix_l, ix_t, ix_s, app_d, ext_l, ext_t, bo_ok (t_bl), bo_ok (t_int), bo_ok (t_lst), notR_of (t_lst), os_eq, Es.hasOwn, List.map_cons, List.map_nil, List.length_cons, List.length_nil, List.replicate_succ, List.replicate_zero, List.cons_append, List.nil_append, Nat.reduceSub, Nat.reduceAdd, Nat.sub_self, reduceIte, Bool.not_true, Bool.not_false, Bool.false_eq_true, Bool.and_self, Bool.and_true, Bool.true_and, Nat.reduceBEq, Nat.reduceEqDiff, cF_no, cF_so, cF2_no, cF2_so, cF3_no, cF3_so, cR_b, q_nil, q_nil2, forB_tp2, forB_tp3, ty_bool_non, ty_bool_bl, ty_bool_int, ty_bool_str, ty_bool_tup, ty_bool_lst, ty_int_non, ty_int_bl, ty_int_int, ty_int_str, ty_int_tup, ty_int_lst, ty_str_non, ty_str_bl, ty_str_int, ty_str_str, ty_str_tup, ty_str_lst, ty_tuple_non, ty_tuple_bl, ty_tuple_int, ty_tuple_str, ty_tuple_tup, ty_tuple_lst, ty_list_non, ty_list_bl, ty_list_int, ty_list_str, ty_list_tup, ty_list_lst, d_eqb, d_isn, d_isi, d_isb, d_iss, d_ist, d_isl, d_insn, d_insi, d_inst, d_insl, p_int_b, t_tup, compL_nil, compL_cons, cC_some, cC_none, cK_ok, cN_ok, forL_nil, forL_cons, foR_nx, foR_ct, foR_bk, foR_rt, foR_ex, seq_l, seq_t, enu_l, enu_t, ev_dcomp, dcF_nm, evI_items, agS_int, x_augi, x_ins, x_asgPop, setTg_tpl, forB_tp2l, forB_tp3l, d_isbb, d_insbb, d_isdK, p_lendK, p_lendT, ty_bool_dK, ty_int_dK, ty_str_dK, ty_tuple_dK, ty_list_dK, ms_i1, ms_i2, ms_g2, ms_g1, $xs,*])
local macro_rules
  | `(tactic| simp_arith [$xs,*] at $h:ident) => `(tactic| simp -implicitDefEqProofs (disch := first | omega | (simp only [List.length_append, List.length_map, List.length_range, List.length_range', List.length_nil, List.length_cons, List.length_singleton, List.length_zipIdx] <;> omega)) only [gv0, gvS, go0, goS, ev_var, ev_own, ev_non, ev_bl, ev_int, ev_str, ev_glb, ev_tup, ev_lst, ev_dK0, ev_dT0, ev_bin, ev_cat, ev_rep, negR_int, ev_neg, notR_bl, ev_not, blR_some, ev_cmp, chR_t, chR_f, ev_chn, ev_and, ev_or, bR_bl, anR_t, anR_f, anR_b, orR_t, orR_f, orR_b, and_one, and_more, or_one, or_more, ev_ife, ev_idx, ev_slc, ev_rev, calR_f, calR_ok, calR_ex, ev_call, ev_prim, ev_mth, ev_isi, ev_srtset, ev_lrng, ev_comp, ev_newc, evs_nil, evs_cons, inR_int, evo_no, evo_so, evI_seq, evI_rng, evI_enum, tv_not, tv_and, tv_or, tv_var, tv_own, tv_non, tv_bl, tv_int, tv_cmp, tv_chn, tv_call, tv_prim, tv_isi, tv_idx, tv_mth, tv_ife, tv_comp, tv_slc, tv_bin, tand_one, tand_more, tor_one, tor_more, b_ok, b_ex, l_some, s_ok, s_ex, q_nx, q_rt, q_bk, q_ct, q_ex, n_some, f_nx, f_rt, f_ex, fr_f, fr_t, fr_k, x_asg, x_asgF, x_frz, onL0, onLS, x_app, x_ext, x_ex, x_ret, x_retN, x_cont, x_brk, x_rais, x_ite, x_for, x_whl, xs_nil, xs_cons, forB_nm, setTg_nm, setTg_tp, setTp_nil, setTp_cons, sl0, slS, w_nil, w_cons, ow0, owS, ob, om, st_e, frR_some, frz_eq, x_setg, x_seti, oc0, ocS, x_appPop, ol0, olS, fl_int, fls_nil, fls_cons, t_bl, t_int, t_non, t_lst, d_add, d_sub, d_mul, d_fdiv, d_mod, d_lt, d_le, d_gt, d_ge, d_eqi, d_nei, p_len, p_lent, p_lens, p_int, p_abs, p_tup, p_tupt, p_list, p_listt, p_min2, p_max2, ix_l, ix_t, ix_s, app_d, ext_l, ext_t, bo_ok (t_bl), bo_ok (t_int), bo_ok (t_lst), notR_of (t_lst), os_eq, Es.hasOwn, List.map_cons, List.map_nil, List.length_cons, List.length_nil, List.replicate_succ, List.replicate_zero, List.cons_append, List.nil_append, Nat.reduceSub, Nat.reduceAdd, Nat.sub_self, reduceIte, Bool.not_true, Bool.not_false, Bool.false_eq_true, Bool.and_self, Bool.and_true, Bool.true_and, Nat.reduceBEq, Nat.reduceEqDiff, cF_no, cF_so, cF2_no, cF2_so, cF3_no, cF3_so, cR_b, q_nil, q_nil2, forB_tp2, forB_tp3, ty_bool_non, ty_bool_bl, ty_bool_int, ty_bool_str, ty_bool_tup, ty_bool_lst, ty_int_non, ty_int_bl, ty_int_int, ty_int_str, ty_int_tup, ty_int_lst, ty_str_non, ty_str_bl, ty_str_int, ty_str_str, ty_str_tup, ty_str_lst, ty_tuple_non, ty_tuple_bl, ty_tuple_int, ty_tuple_str, ty_tuple_tup, ty_tuple_lst, ty_list_non, ty_list_bl, ty_list_int, ty_list_str, ty_list_tup, ty_list_lst, d_eqb, d_isn, d_isi, d_isb, d_iss, d_ist, d_isl, d_insn, d_insi, d_inst, d_insl, p_int_b, t_tup, compL_nil, compL_cons, cC_some, cC_none, cK_ok, cN_ok, forL_nil, forL_cons, foR_nx, foR_ct, foR_bk, foR_rt, foR_ex, seq_l, seq_t, enu_l, enu_t, ev_dcomp, dcF_nm, evI_items, agS_int, x_augi, x_ins, x_asgPop, setTg_tpl, forB_tp2l, forB_tp3l, d_isbb, d_insbb, d_isdK, p_lendK, p_lendT, ty_bool_dK, ty_int_dK, ty_str_dK, ty_tuple_dK, ty_list_dK, ms_i1, ms_i2, ms_g2, ms_g1, $xs,*] at $h:ident)
/-! ### lists, draws -/
theorem map_erase {α β : Type} (f : α → β) : ∀ (l : List α) (i : Nat), (l.map f).eraseIdx i = (l.eraseIdx i).map f
  | [], _ => by simp
  | a :: l, 0 => by simp
  | a :: l, i + 1 => by simp [map_erase f l i]
theorem perm_erase {α : Type} : ∀ (l : List α) (i : Nat) (h : i < l.length), (l.eraseIdx i ++ [l[i]]).Perm l
  | [], i, h => by simp at h
  | a :: l, 0, h => by simp only [List.eraseIdx_cons_zero, List.getElem_cons_zero]; exact List.perm_append_comm
  | a :: l, i + 1, h => by
    simp only [List.eraseIdx_cons_succ, List.getElem_cons_succ, List.cons_append]
    exact List.Perm.cons a (perm_erase l i (by simpa using h))
theorem popD_nat {ls : List Nat} {v : Nat} (h : v < ls.length) (h2 : ls.length ≤ 1000) : popD (.lst (ls.map nD)) (.int (v : Int)) = some (nD ls[v], .lst ((ls.eraseIdx v).map nD)) := by
  have e : ixN (ls.map nD).length (v : Int) = some v := by
    unfold ixN
    rw [List.length_map, if_pos (by omega), if_pos (by omega)]; simp
  simp only [popD]
  have hL : (LIM : Int) = 1000000 := rfl
  rw [if_pos (by omega), e]
  simp only [Option.bind]
  rw [List.getElem?_map, List.getElem?_eq_getElem h]
  simp [map_erase]
theorem ints_of {Q : Int → Prop} : ∀ {ys : List D}, (∀ y ∈ ys, ∃ i : Int, y = .int i ∧ Q i) → ∃ is : List Int, ys = is.map .int ∧ ∀ i ∈ is, Q i
  | [], _ => ⟨[], rfl, by simp⟩
  | y :: ys, h => by
    obtain ⟨i, rfl, q⟩ := h y (by simp)
    obtain ⟨is, rfl, qs⟩ := ints_of (ys := ys) fun z hz => h z (List.mem_cons_of_mem _ hz)
    refine ⟨i :: is, rfl, fun j hj => ?_⟩
    rcases List.mem_cons.mp hj with rfl | hj
    · exact q
    · exact qs j hj
section
variable {n : Nat} {ds : List Int}
theorem next_lit (hd : Dig ds) (m : Nat) {i : Int} (hi : i = (m : Int)) (p : Nat) (hm : 0 < m) : ∃ v : Nat, v < m ∧ callN Pr (n + 1) "_law_next" [stD ds, .int i] (Pl p) = .ok (nD v) (Pl (p + 1)) := by
  subst hi
  exact next_eq hd m p hm
end
end CM

namespace CM
open PySem hiding exec execs start
open PySem.Spec PyProof.Rows L2 MP
local macro_rules
  | `(tactic| simp_arith [$xs,*]) => `(tactic| simp -implicitDefEqProofs (disch := first | omega | (simp only [List.length_append, List.length_map, List.length_range, List.length_range', List.length_nil, List.length_cons, List.length_singleton, List.length_zipIdx] <;> omega)) only [gv0, gvS, go0, goS, ev_var, ev_own, ev_non, ev_bl, ev_int, ev_str, ev_glb, ev_tup, ev_lst, ev_dK0, ev_dT0, ev_bin, ev_cat, ev_rep, negR_int, ev_neg, notR_bl, ev_not, blR_some, ev_cmp, chR_t, chR_f, ev_chn, ev_and, ev_or, bR_bl, anR_t, anR_f, anR_b, orR_t, orR_f, orR_b, and_one, and_more, or_one, or_more, ev_ife, ev_idx, ev_slc, ev_rev, calR_f, calR_ok, calR_ex, ev_call, ev_prim, ev_mth, ev_isi, ev_srtset, ev_lrng, ev_comp, ev_newc, evs_nil, evs_cons, inR_int, evo_no, evo_so, evI_seq, evI_rng, evI_enum, tv_not, tv_and, tv_or, tv_var, tv_own, tv_non, tv_bl, tv_int, tv_cmp, tv_chn, tv_call, tv_prim, tv_isi, tv_idx, tv_mth, tv_ife, tv_comp, tv_slc, tv_bin, tand_one, tand_more, tor_one, tor_more, b_ok, b_ex, l_some, s_ok, s_ex, q_nx, q_rt, q_bk, q_ct, q_ex, n_some, f_nx, f_rt, f_ex, fr_f, fr_t, fr_k, x_asg, x_asgF, x_frz, onL0, onLS, x_app, x_ext, x_ex, x_ret, x_retN, x_cont, x_brk, x_rais, x_ite, x_for, x_whl, xs_nil, xs_cons, forB_nm, setTg_nm, setTg_tp, setTp_nil, setTp_cons, sl0, slS, w_nil, w_cons, ow0, owS, ob, om, st_e, frR_some, frz_eq, x_setg, x_seti, oc0, ocS, x_appPop, ol0, olS, fl_int, fls_nil, fls_cons, t_bl, t_int, t_non, t_lst, d_add, d_sub, d_mul, d_fdiv, d_mod, d_lt, d_le, d_gt, d_ge, d_eqi, d_nei, p_len, p_lent, p_lens, p_int, p_abs, p_tup, p_tupt, p_list, p_listt, p_min2, p_max2, ix_l, ix_t, ix_s, app_d, ext_l, ext_t, bo_ok (t_bl), bo_ok (t_int), bo_ok (t_lst), notR_of (t_lst), os_eq, Es.hasOwn, List.map_cons, List.map_nil, List.length_cons, List.length_nil, List.replicate_succ, List.replicate_zero, List.cons_append, List.nil_append, Nat.reduceSub, Nat.reduceAdd, Nat.sub_self, reduceIte, Bool.not_true, Bool.not_false, Bool.false_eq_true, Bool.and_self, Bool.and_true, Bool.true_and, Nat.reduceBEq, Nat.reduceEqDiff, cF_no, cF_so, cF2_no, cF2_so, cF3_no, cF3_so, cR_b, q_nil, q_nil2, forB_tp2, forB_tp3, ty_bool_non, ty_bool_bl, ty_bool_int, ty_bool_str, ty_bool_tup, ty_bool_lst, ty_int_non, ty_int_bl, ty_int_int, ty_int_str, ty_int_tup, ty_int_lst, ty_str_non, ty_str_bl, ty_str_int, ty_str_str, ty_str_tup, ty_str_lst, ty_tuple_non, ty_tuple_bl, ty_tuple_int, ty_tuple_str, ty_tuple_tup, ty_tuple_lst, ty_list_non, ty_list_bl, ty_list_int, ty_list_str, ty_list_tup, ty_list_lst, d_eqb, d_isn, d_isi, d_isb, d_iss, d_ist, d_isl, d_insn, d_insi, d_inst, d_insl, p_int_b, t_tup, compL_nil, compL_cons, cC_some, cC_none, cK_ok, cN_ok, forL_nil, forL_cons, foR_nx, foR_ct, foR_bk, foR_rt, foR_ex, seq_l, seq_t, enu_l, enu_t, ev_dcomp, dcF_nm, evI_items, agS_int, x_augi, x_ins, x_asgPop, setTg_tpl, forB_tp2l, forB_tp3l, d_isbb, d_insbb, d_isdK, p_lendK, p_lendT, ty_bool_dK, ty_int_dK, ty_str_dK, ty_tuple_dK, ty_list_dK, ms_i1, ms_i2, ms_g2, ms_g1, calR_n, calR_in, calR_bl, ix_pb0, ix_pb1, ix_pb2, ix_pb3, ix_su0, ix_su1, ix_su2, $xs,*])
local macro_rules
  | `(tactic| simp_arith [$xs,*] at $h:ident) => `(tactic| simp -implicitDefEqProofs (disch := first | omega | (simp only [List.length_append, List.length_map, List.length_range, List.length_range', List.length_nil, List.length_cons, List.length_singleton, List.length_zipIdx] <;> omega)) only [gv0, gvS, go0, goS, ev_var, ev_own, ev_non, ev_bl, ev_int, ev_str, ev_glb, ev_tup, ev_lst, ev_dK0, ev_dT0, ev_bin, ev_cat, ev_rep, negR_int, ev_neg, notR_bl, ev_not, blR_some, ev_cmp, chR_t, chR_f, ev_chn, ev_and, ev_or, bR_bl, anR_t, anR_f, anR_b, orR_t, orR_f, orR_b, and_one, and_more, or_one, or_more, ev_ife, ev_idx, ev_slc, ev_rev, calR_f, calR_ok, calR_ex, ev_call, ev_prim, ev_mth, ev_isi, ev_srtset, ev_lrng, ev_comp, ev_newc, evs_nil, evs_cons, inR_int, evo_no, evo_so, evI_seq, evI_rng, evI_enum, tv_not, tv_and, tv_or, tv_var, tv_own, tv_non, tv_bl, tv_int, tv_cmp, tv_chn, tv_call, tv_prim, tv_isi, tv_idx, tv_mth, tv_ife, tv_comp, tv_slc, tv_bin, tand_one, tand_more, tor_one, tor_more, b_ok, b_ex, l_some, s_ok, s_ex, q_nx, q_rt, q_bk, q_ct, q_ex, n_some, f_nx, f_rt, f_ex, fr_f, fr_t, fr_k, x_asg, x_asgF, x_frz, onL0, onLS, x_app, x_ext, x_ex, x_ret, x_retN, x_cont, x_brk, x_rais, x_ite, x_for, x_whl, xs_nil, xs_cons, forB_nm, setTg_nm, setTg_tp, setTp_nil, setTp_cons, sl0, slS, w_nil, w_cons, ow0, owS, ob, om, st_e, frR_some, frz_eq, x_setg, x_seti, oc0, ocS, x_appPop, ol0, olS, fl_int, fls_nil, fls_cons, t_bl, t_int, t_non, t_lst, d_add, d_sub, d_mul, d_fdiv, d_mod, d_lt, d_le, d_gt, d_ge, d_eqi, d_nei, p_len, p_lent, p_lens, p_int, p_abs, p_tup, p_tupt, p_list, p_listt, p_min2, p_max2, ix_l, ix_t, ix_s, app_d, ext_l, ext_t, bo_ok (t_bl), bo_ok (t_int), bo_ok (t_lst), notR_of (t_lst), os_eq, Es.hasOwn, List.map_cons, List.map_nil, List.length_cons, List.length_nil, List.replicate_succ, List.replicate_zero, List.cons_append, List.nil_append, Nat.reduceSub, Nat.reduceAdd, Nat.sub_self, reduceIte, Bool.not_true, Bool.not_false, Bool.false_eq_true, Bool.and_self, Bool.and_true, Bool.true_and, Nat.reduceBEq, Nat.reduceEqDiff, cF_no, cF_so, cF2_no, cF2_so, cF3_no, cF3_so, cR_b, q_nil, q_nil2, forB_tp2, forB_tp3, ty_bool_non, ty_bool_bl, ty_bool_int, ty_bool_str, ty_bool_tup, ty_bool_lst, ty_int_non, ty_int_bl, ty_int_int, ty_int_str, ty_int_tup, ty_int_lst, ty_str_non, ty_str_bl, ty_str_int, ty_str_str, ty_str_tup, ty_str_lst, ty_tuple_non, ty_tuple_bl, ty_tuple_int, ty_tuple_str, ty_tuple_tup, ty_tuple_lst, ty_list_non, ty_list_bl, ty_list_int, ty_list_str, ty_list_tup, ty_list_lst, d_eqb, d_isn, d_isi, d_isb, d_iss, d_ist, d_isl, d_insn, d_insi, d_inst, d_insl, p_int_b, t_tup, compL_nil, compL_cons, cC_some, cC_none, cK_ok, cN_ok, forL_nil, forL_cons, foR_nx, foR_ct, foR_bk, foR_rt, foR_ex, seq_l, seq_t, enu_l, enu_t, ev_dcomp, dcF_nm, evI_items, agS_int, x_augi, x_ins, x_asgPop, setTg_tpl, forB_tp2l, forB_tp3l, d_isbb, d_insbb, d_isdK, p_lendK, p_lendT, ty_bool_dK, ty_int_dK, ty_str_dK, ty_tuple_dK, ty_list_dK, ms_i1, ms_i2, ms_g2, ms_g1, calR_n, calR_in, calR_bl, ix_pb0, ix_pb1, ix_pb2, ix_pb3, ix_su0, ix_su1, ix_su2, $xs,*] at $h:ident)
/-! ### the drawn run -/
theorem cut12 (a b : Nat) : slcD none (some (1 + (if (!((a : Int) == (b : Int))) = true then 1 else 0))) (.tup true [nD a, nD b]) = some (.tup true ((if a = b then [a] else [a, b]).map nD)) := by
  by_cases h : a = b
  · subst h
    simp only [beq_self_eq_true, Bool.not_true, Bool.false_eq_true, if_false, if_true]
    rfl
  · have : ((a : Int) == (b : Int)) = false := by rw [nbeq]; simpa using h
    simp only [this, Bool.not_false, if_true, if_neg h]
    rfl
theorem run_eq {n : Nat} {ds : List Int} (hd : Dig ds) (p : Nat) : ∃ (q : Pb) (s : Su) (f p' : Nat), GoodP q ∧ GoodSu s ∧ f ≤ 1 ∧ q.bs.length ≤ 3 ∧ q.rows.length ≤ 3 ∧ callN Pr (n + 2) "_law_run" [stD ds] (Pl p) = .ok (runD q s f) (Pl p') := by
  suffices h : okR (callN Pr (n + 2) "_law_run" [stD ds] (Pl p)) fun d G => ∃ (q : Pb) (s : Su) (f p' : Nat), d = runD q s f ∧ G = Pl p' ∧ GoodP q ∧ GoodSu s ∧ f ≤ 1 ∧ q.bs.length ≤ 3 ∧ q.rows.length ≤ 3 by
    obtain ⟨d, G, e, q, s, f, p', rfl, rfl, h1, h2, h3, h4, h5⟩ := okR_inv h
    exact ⟨q, s, f, p', h1, h2, h3, h4, h5, e⟩
  rw [call_eq P_law_run rfl]
  obtain ⟨v, hv, ev⟩ := next_lit (n := n) hd 3 (i := 3) rfl p (by omega)
  obtain ⟨ys, G1, ec, yl, ⟨p1, rfl⟩, yq⟩ := comp_ind (f := compF (callN Pr (n + 1)) (.nm 5 "_law_k") d_law_run_e0 .no [5] [.val (stD ds), .un, .un, .un, .un, .un, .un, .un, .un]) (fun G => ∃ p, G = Pl p) (fun y => ∃ i : Int, y = .int i ∧ -10 ≤ i ∧ i ≤ 10)
    ((List.range (1 + v)).map nD) (Pl (p + 1)) ⟨_, rfl⟩ fun d G ⟨p2, hG⟩ => by
      subst hG
      obtain ⟨u, hu, eu⟩ := next_lit (n := n) hd 7 (i := 7) rfl p2 (by omega)
      refine ⟨.int ((u : Int) - 3), Pl (p2 + 1), ?_, ⟨_, rfl⟩, _, rfl, by omega, by omega⟩
      simp_arith [d_law_run_e0, eu]
  obtain ⟨rows, rfl, rq⟩ := ints_of yq
  have rl : rows.length = 1 + v := by simpa using yl
  obtain ⟨u, hu, eu⟩ := next_lit (n := n) hd 3 (i := 3) rfl p1 (by omega)
  simp_arith [d_law_run, ev, n1add, rngN (1 + v) (by omega), ec, eu, rngN (1 + u) (by omega)]
  refine for_gtf _ (fun e (st : List (List Smp) × Nat) => e.set 2 (.own (.lst (st.1.map batD)))) (fun st => Pl st.2) ([], p1 + 1) (List.range (1 + u)) (fun i st => st.1.length = i ∧ ∀ b ∈ st.1, GoodB rows.length b) (by rfl) ⟨rfl, by simp⟩ ?_ ?_
  · rintro j x ⟨bs, p2⟩ hx ⟨hbl, hbg⟩
    have hj := (List.getElem?_eq_some_iff.mp hx).1
    rw [List.length_range] at hj
    obtain ⟨w, hw, ew⟩ := next_lit (n := n) hd 3 (i := 3) rfl p2 (by omega)
    simp_arith [d_law_run_b1, ew, rngN w (by omega)]
    refine for_gq _ (fun e (st : List Smp × Nat) => e.set 4 (.own (.lst (st.1.map smpD)))) (fun st => Pl st.2) ([], p2 + 1) (List.range w) (fun i st => st.1.length = i ∧ ∀ s ∈ st.1, GoodS rows.length s) (by rfl) ⟨rfl, by simp⟩ ?_ ?_
    · rintro j2 x2 ⟨ss, p3⟩ hx2 ⟨hsl, hsg⟩
      have hj2 := (List.getElem?_eq_some_iff.mp hx2).1
      rw [List.length_range] at hj2
      obtain ⟨a, ha, ea⟩ := next_eq (n := n) hd rows.length p3 (by omega)
      obtain ⟨b, hb, eb⟩ := next_eq (n := n) hd rows.length (p3 + 1) (by omega)
      obtain ⟨c, hc, ec⟩ := next_lit (n := n) hd 11 (i := 11) rfl (p3 + 1 + 1) (by omega)
      have hsl : ss.length = j2 := hsl
      have hlim : (ss.map smpD).length < 1000000 := by rw [List.length_map]; omega
      simp_arith [d_law_run_b2, List.length_map, ea, eb, ec, p_int_b, cut12, app_d hlim]
      refine nx_nx ⟨(ss ++ [⟨if a = b then [a] else [a, b], (c : Int) - 5⟩], p3 + 1 + 1 + 1), rfl, by simp_arith [List.map_append]; rfl, by simp [hsl], fun s hs => ?_⟩
      rcases List.mem_append.mp hs with hs | hs
      · exact hsg s hs
      · rw [List.mem_singleton.mp hs]
        refine ⟨?_, ?_, ?_, ?_, by show -1000000 ≤ (c : Int) - 5; omega, by show (c : Int) - 5 ≤ 1000000; omega⟩
        · simp only; split <;> simp
        · simp only; split <;> simp
        · simp only; split <;> simp; assumption
        · simp only; split <;> simp <;> omega
    · rintro ⟨ss, p3⟩ ⟨hsl, hsg⟩
      rw [List.length_range] at hsl
      have hsl : ss.length = w := hsl
      have hbl : bs.length = j := hbl
      have hlim : (bs.map batD).length < 1000000 := by rw [List.length_map]; omega
      simp_arith [app_d hlim]
      refine nx_nx ⟨(bs ++ [ss], p3), rfl, by simp_arith [List.map_append]; rfl, by simp [hbl], fun b hb => ?_⟩
      rcases List.mem_append.mp hb with hb | hb
      · exact hbg b hb
      · rw [List.mem_singleton.mp hb]
        exact ⟨by omega, hsg⟩
  · rintro ⟨bs, p2⟩ ⟨hbl, hbg⟩
    rw [List.length_range] at hbl
    have hbl : bs.length = 1 + u := hbl
    obtain ⟨a, ha, ea⟩ := next_lit (n := n) hd 3 (i := 3) rfl p2 (by omega)
    obtain ⟨b, hb, eb⟩ := next_lit (n := n) hd 4 (i := 4) rfl (p2 + 1) (by omega)
    obtain ⟨t1, h1, f1⟩ := next_lit (n := n) hd 2 (i := 2) rfl (p2 + 1 + 1) (by omega)
    obtain ⟨t2, h2, f2⟩ := next_lit (n := n) hd 2 (i := 2) rfl (p2 + 1 + 1 + 1) (by omega)
    obtain ⟨t3, h3, f3⟩ := next_lit (n := n) hd 2 (i := 2) rfl (p2 + 1 + 1 + 1 + 1) (by omega)
    obtain ⟨t4, h4, f4⟩ := next_lit (n := n) hd 5 (i := 5) rfl (p2 + 1 + 1 + 1 + 1 + 1) (by omega)
    simp_arith [ea, eb, f1, f2, f3, f4, n1add, p_int_b]
    refine okR_ok ⟨⟨rows, bs, 1 + a, 1 + b⟩, ⟨1 + t1, 1 + t2, 1 + t3⟩, if t4 = 0 then 1 else 0, _, ?_, rfl, ⟨fun h => ?_, by show rows.length ≤ 20; omega, fun x hx => ?_, fun h => ?_, by show bs.length ≤ 20; omega, hbg, by show 1 ≤ 1 + a; omega, by show 1 + a ≤ 1000; omega, by show 1 ≤ 1 + b; omega, by show 1 + b ≤ 1000; omega⟩, ⟨by simp only; omega, by simp only; omega, by simp only; omega, by simp only; omega, by simp only; omega, by simp only; omega⟩, by split <;> omega, by show bs.length ≤ 3; omega, by show rows.length ≤ 3; omega⟩
    · unfold runD pbD suD
      by_cases h : t4 = 0
      · subst h; rfl
      · have : ((t4 : Int) == 0) = false := by simpa using h
        rw [if_neg h]
        simp only [this, Bool.false_eq_true, if_false]
        rfl
    · rw [show rows = [] from h] at rl; simp at rl; omega
    · have := rq x hx
      omega
    · rw [show bs = [] from h] at hbl; simp at hbl; omega
end CM

namespace CM
open PySem hiding exec execs start
open PySem.Spec PyProof.Rows L2 MP
local macro_rules
  | `(tactic| simp_arith [$xs,*]) => `(tactic| simp -implicitDefEqProofs (disch := first | omega | (simp only [List.length_append, List.length_map, List.length_range, List.length_range', List.length_nil, List.length_cons, List.length_singleton, List.length_zipIdx] <;> omega)) only [gv0, gvS, go0, goS, ev_var, ev_own, ev_non, ev_bl, ev_int, ev_str, ev_glb, ev_tup, ev_lst, ev_dK0, ev_dT0, ev_bin, ev_cat, ev_rep, negR_int, ev_neg, notR_bl, ev_not, blR_some, ev_cmp, chR_t, chR_f, ev_chn, ev_and, ev_or, bR_bl, anR_t, anR_f, anR_b, orR_t, orR_f, orR_b, and_one, and_more, or_one, or_more, ev_ife, ev_idx, ev_slc, ev_rev, calR_f, calR_ok, calR_ex, ev_call, ev_prim, ev_mth, ev_isi, ev_srtset, ev_lrng, ev_comp, ev_newc, evs_nil, evs_cons, inR_int, evo_no, evo_so, evI_seq, evI_rng, evI_enum, tv_not, tv_and, tv_or, tv_var, tv_own, tv_non, tv_bl, tv_int, tv_cmp, tv_chn, tv_call, tv_prim, tv_isi, tv_idx, tv_mth, tv_ife, tv_comp, tv_slc, tv_bin, tand_one, tand_more, tor_one, tor_more, b_ok, b_ex, l_some, s_ok, s_ex, q_nx, q_rt, q_bk, q_ct, q_ex, n_some, f_nx, f_rt, f_ex, fr_f, fr_t, fr_k, x_asg, x_asgF, x_frz, onL0, onLS, x_app, x_ext, x_ex, x_ret, x_retN, x_cont, x_brk, x_rais, x_ite, x_for, x_whl, xs_nil, xs_cons, forB_nm, setTg_nm, setTg_tp, setTp_nil, setTp_cons, sl0, slS, w_nil, w_cons, ow0, owS, ob, om, st_e, frR_some, frz_eq, x_setg, x_seti, oc0, ocS, x_appPop, ol0, olS, fl_int, fls_nil, fls_cons, t_bl, t_int, t_non, t_lst, d_add, d_sub, d_mul, d_fdiv, d_mod, d_lt, d_le, d_gt, d_ge, d_eqi, d_nei, p_len, p_lent, p_lens, p_int, p_abs, p_tup, p_tupt, p_list, p_listt, p_min2, p_max2, ix_l, ix_t, ix_s, app_d, ext_l, ext_t, bo_ok (t_bl), bo_ok (t_int), bo_ok (t_lst), notR_of (t_lst), os_eq, Es.hasOwn, List.map_cons, List.map_nil, List.length_cons, List.length_nil, List.replicate_succ, List.replicate_zero, List.cons_append, List.nil_append, Nat.reduceSub, Nat.reduceAdd, Nat.sub_self, reduceIte, Bool.not_true, Bool.not_false, Bool.false_eq_true, Bool.and_self, Bool.and_true, Bool.true_and, Nat.reduceBEq, Nat.reduceEqDiff, cF_no, cF_so, cF2_no, cF2_so, cF3_no, cF3_so, cR_b, q_nil, q_nil2, forB_tp2, forB_tp3, ty_bool_non, ty_bool_bl, ty_bool_int, ty_bool_str, ty_bool_tup, ty_bool_lst, ty_int_non, ty_int_bl, ty_int_int, ty_int_str, ty_int_tup, ty_int_lst, ty_str_non, ty_str_bl, ty_str_int, ty_str_str, ty_str_tup, ty_str_lst, ty_tuple_non, ty_tuple_bl, ty_tuple_int, ty_tuple_str, ty_tuple_tup, ty_tuple_lst, ty_list_non, ty_list_bl, ty_list_int, ty_list_str, ty_list_tup, ty_list_lst, d_eqb, d_isn, d_isi, d_isb, d_iss, d_ist, d_isl, d_insn, d_insi, d_inst, d_insl, p_int_b, t_tup, compL_nil, compL_cons, cC_some, cC_none, cK_ok, cN_ok, forL_nil, forL_cons, foR_nx, foR_ct, foR_bk, foR_rt, foR_ex, seq_l, seq_t, enu_l, enu_t, ev_dcomp, dcF_nm, evI_items, agS_int, x_augi, x_ins, x_asgPop, setTg_tpl, forB_tp2l, forB_tp3l, d_isbb, d_insbb, d_isdK, p_lendK, p_lendT, ty_bool_dK, ty_int_dK, ty_str_dK, ty_tuple_dK, ty_list_dK, ms_i1, ms_i2, ms_g2, ms_g1, calR_n, calR_in, calR_bl, ix_pb0, ix_pb1, ix_pb2, ix_pb3, ix_su0, ix_su1, ix_su2, kq_0_0, kq_0_1, kq_0_2, kq_0_3, kq_0_4, kq_0_5, kq_0_6, kq_0_7, kq_1_0, kq_1_1, kq_1_2, kq_1_3, kq_1_4, kq_1_5, kq_1_6, kq_1_7, kq_2_0, kq_2_1, kq_2_2, kq_2_3, kq_2_4, kq_2_5, kq_2_6, kq_2_7, kq_3_0, kq_3_1, kq_3_2, kq_3_3, kq_3_4, kq_3_5, kq_3_6, kq_3_7, kq_4_0, kq_4_1, kq_4_2, kq_4_3, kq_4_4, kq_4_5, kq_4_6, kq_4_7, kq_5_0, kq_5_1, kq_5_2, kq_5_3, kq_5_4, kq_5_5, kq_5_6, kq_5_7, kq_6_0, kq_6_1, kq_6_2, kq_6_3, kq_6_4, kq_6_5, kq_6_6, kq_6_7, kq_7_0, kq_7_1, kq_7_2, kq_7_3, kq_7_4, kq_7_5, kq_7_6, kq_7_7, kn_0, kn_1, kn_2, kn_3, kn_4, kn_5, kn_6, kn_7, $xs,*])
local macro_rules
  | `(tactic| simp_arith [$xs,*] at $h:ident) => `(tactic| simp -implicitDefEqProofs (disch := first | omega | (simp only [List.length_append, List.length_map, List.length_range, List.length_range', List.length_nil, List.length_cons, List.length_singleton, List.length_zipIdx] <;> omega)) only [gv0, gvS, go0, goS, ev_var, ev_own, ev_non, ev_bl, ev_int, ev_str, ev_glb, ev_tup, ev_lst, ev_dK0, ev_dT0, ev_bin, ev_cat, ev_rep, negR_int, ev_neg, notR_bl, ev_not, blR_some, ev_cmp, chR_t, chR_f, ev_chn, ev_and, ev_or, bR_bl, anR_t, anR_f, anR_b, orR_t, orR_f, orR_b, and_one, and_more, or_one, or_more, ev_ife, ev_idx, ev_slc, ev_rev, calR_f, calR_ok, calR_ex, ev_call, ev_prim, ev_mth, ev_isi, ev_srtset, ev_lrng, ev_comp, ev_newc, evs_nil, evs_cons, inR_int, evo_no, evo_so, evI_seq, evI_rng, evI_enum, tv_not, tv_and, tv_or, tv_var, tv_own, tv_non, tv_bl, tv_int, tv_cmp, tv_chn, tv_call, tv_prim, tv_isi, tv_idx, tv_mth, tv_ife, tv_comp, tv_slc, tv_bin, tand_one, tand_more, tor_one, tor_more, b_ok, b_ex, l_some, s_ok, s_ex, q_nx, q_rt, q_bk, q_ct, q_ex, n_some, f_nx, f_rt, f_ex, fr_f, fr_t, fr_k, x_asg, x_asgF, x_frz, onL0, onLS, x_app, x_ext, x_ex, x_ret, x_retN, x_cont, x_brk, x_rais, x_ite, x_for, x_whl, xs_nil, xs_cons, forB_nm, setTg_nm, setTg_tp, setTp_nil, setTp_cons, sl0, slS, w_nil, w_cons, ow0, owS, ob, om, st_e, frR_some, frz_eq, x_setg, x_seti, oc0, ocS, x_appPop, ol0, olS, fl_int, fls_nil, fls_cons, t_bl, t_int, t_non, t_lst, d_add, d_sub, d_mul, d_fdiv, d_mod, d_lt, d_le, d_gt, d_ge, d_eqi, d_nei, p_len, p_lent, p_lens, p_int, p_abs, p_tup, p_tupt, p_list, p_listt, p_min2, p_max2, ix_l, ix_t, ix_s, app_d, ext_l, ext_t, bo_ok (t_bl), bo_ok (t_int), bo_ok (t_lst), notR_of (t_lst), os_eq, Es.hasOwn, List.map_cons, List.map_nil, List.length_cons, List.length_nil, List.replicate_succ, List.replicate_zero, List.cons_append, List.nil_append, Nat.reduceSub, Nat.reduceAdd, Nat.sub_self, reduceIte, Bool.not_true, Bool.not_false, Bool.false_eq_true, Bool.and_self, Bool.and_true, Bool.true_and, Nat.reduceBEq, Nat.reduceEqDiff, cF_no, cF_so, cF2_no, cF2_so, cF3_no, cF3_so, cR_b, q_nil, q_nil2, forB_tp2, forB_tp3, ty_bool_non, ty_bool_bl, ty_bool_int, ty_bool_str, ty_bool_tup, ty_bool_lst, ty_int_non, ty_int_bl, ty_int_int, ty_int_str, ty_int_tup, ty_int_lst, ty_str_non, ty_str_bl, ty_str_int, ty_str_str, ty_str_tup, ty_str_lst, ty_tuple_non, ty_tuple_bl, ty_tuple_int, ty_tuple_str, ty_tuple_tup, ty_tuple_lst, ty_list_non, ty_list_bl, ty_list_int, ty_list_str, ty_list_tup, ty_list_lst, d_eqb, d_isn, d_isi, d_isb, d_iss, d_ist, d_isl, d_insn, d_insi, d_inst, d_insl, p_int_b, t_tup, compL_nil, compL_cons, cC_some, cC_none, cK_ok, cN_ok, forL_nil, forL_cons, foR_nx, foR_ct, foR_bk, foR_rt, foR_ex, seq_l, seq_t, enu_l, enu_t, ev_dcomp, dcF_nm, evI_items, agS_int, x_augi, x_ins, x_asgPop, setTg_tpl, forB_tp2l, forB_tp3l, d_isbb, d_insbb, d_isdK, p_lendK, p_lendT, ty_bool_dK, ty_int_dK, ty_str_dK, ty_tuple_dK, ty_list_dK, ms_i1, ms_i2, ms_g2, ms_g1, calR_n, calR_in, calR_bl, ix_pb0, ix_pb1, ix_pb2, ix_pb3, ix_su0, ix_su1, ix_su2, kq_0_0, kq_0_1, kq_0_2, kq_0_3, kq_0_4, kq_0_5, kq_0_6, kq_0_7, kq_1_0, kq_1_1, kq_1_2, kq_1_3, kq_1_4, kq_1_5, kq_1_6, kq_1_7, kq_2_0, kq_2_1, kq_2_2, kq_2_3, kq_2_4, kq_2_5, kq_2_6, kq_2_7, kq_3_0, kq_3_1, kq_3_2, kq_3_3, kq_3_4, kq_3_5, kq_3_6, kq_3_7, kq_4_0, kq_4_1, kq_4_2, kq_4_3, kq_4_4, kq_4_5, kq_4_6, kq_4_7, kq_5_0, kq_5_1, kq_5_2, kq_5_3, kq_5_4, kq_5_5, kq_5_6, kq_5_7, kq_6_0, kq_6_1, kq_6_2, kq_6_3, kq_6_4, kq_6_5, kq_6_6, kq_6_7, kq_7_0, kq_7_1, kq_7_2, kq_7_3, kq_7_4, kq_7_5, kq_7_6, kq_7_7, kn_0, kn_1, kn_2, kn_3, kn_4, kn_5, kn_6, kn_7, $xs,*] at $h:ident)
/-! ### is_told by a tuple -/
theorem in_t {k : KL} {b : Bool} {l : List KL} (h : okK k = true) (h2 : ∀ j ∈ l, okK j = true) : cmpD .isin (tD k) (.tup b (l.map tD)) = some (hasK l k) := by
  simp only [cmpD, inD, plain_tD h, okDs_tD l h2, Bool.and_self, if_true, any_tD]
theorem nin_t {k : KL} {b : Bool} {l : List KL} (h : okK k = true) (h2 : ∀ j ∈ l, okK j = true) : cmpD .notin (tD k) (.tup b (l.map tD)) = some (!hasK l k) := by
  simp only [cmpD, inD, plain_tD h, okDs_tD l h2, Bool.and_self, if_true, any_tD, Option.map]
theorem ok_evs (l : List Evt) : ∀ j ∈ l.map evK, okK j = true := fun j hj => by
  obtain ⟨x, _, rfl⟩ := List.mem_map.mp hj; exact okK_ev x
section
variable {n : Nat} {G : Gs} {q : Pb} {s : Su}
theorem told_t {b : Bool} {l : List Evt} {k : KL} (h : okK k = true) : callN Pr (n + 1) "is_told" [.tup b (l.map evD), tD k] G = .ok (.bl (hasK (l.map evK) k)) G := by
  rw [call_eq P_is_told rfl, evs_tD]
  have hs : ∀ j ∈ l.map evK, shp j = true := fun j hj => by obtain ⟨x, _, rfl⟩ := List.mem_map.mp hj; exact shp_ev x
  have e := in_t (b := b) h (ok_evs l)
  cases k with
  | nil =>
    have h1 : ([] : KL) ∉ l.map evK := fun h => by have := hs _ h; cases this
    simp_arith [d_is_told, tD_ty, bo_ok tl_len, List.isEmpty_nil, hasK_not h1]
  | cons x t =>
    cases x with
    | inl i =>
      have h1 : (.inl i :: t) ∉ l.map evK := fun h => by have := hs _ h; cases this
      simp_arith [d_is_told, tD_ty, bo_ok tl_len, List.isEmpty_cons, tD_0, kD, hasK_not h1]
    | inr x =>
      simp_arith [d_is_told, tD_ty, bo_ok tl_len, List.isEmpty_cons, tD_0, kD, sl1]
      rw [compL_map (fun k : Key => .bl k.isLeft)]
      · by_cases ht : t.all (fun k => k.isLeft) = true
        · simp_arith [all_bls, ht, e]
        · have h1 : (.inr x :: t) ∉ l.map evK := fun h => ht (hs _ h)
          simp_arith [all_bls, ht, hasK_not h1]
      · intro k hk
        cases k with
        | inl i => simp_arith [d_is_told_e0, kD]; rfl
        | inr y => simp_arith [d_is_told_e0, kD]; rfl
end
/-! ### logs -/
def okL (l : List KL) : Prop := ∀ k ∈ l, okK k = true
def logD (l : List KL) : D := .tup true (l.map tD)
theorem okDs_tDn (n : Nat) : ∀ l : List KL, okL l → okDs (n + 2) (l.map tD) = true
  | [], _ => rfl
  | k :: l, h => by
    have h1 := okDs_k n k (h k (by simp))
    have h2 := okDs_tDn n l fun j hj => h j (List.mem_cons_of_mem _ hj)
    rw [List.map_cons, okDs, h2]
    unfold tD
    rw [okD, h1]; rfl
theorem plain_log {l : List KL} (h : okL l) (b : Bool) : MP.plain (.tup b (l.map tD)) = true := by
  unfold MP.plain
  rw [okD]
  exact okDs_tDn 37 l h
theorem deq_logs : ∀ l m : List KL, PyData.eqvAll (pys (l.map tD)) (pys (m.map tD)) = decide (l = m)
  | [], [] => rfl
  | [], y :: m => by simp [pys, PyData.eqvAll]
  | x :: l, [] => by simp [pys, PyData.eqvAll]
  | x :: l, y :: m => by
    have h1 : PyData.eqv (py (tD x)) (py (tD y)) = decide (x = y) := deq_tD x y
    simp only [List.map_cons, pys, PyData.eqvAll, h1, deq_logs l m]
    by_cases h : x = y <;> by_cases h2 : l = m <;> simp [h, h2]
theorem eq_log {l m : List KL} (h : okL l) (h2 : okL m) {b c : Bool} : cmpD .eq (.tup b (l.map tD)) (.tup c (m.map tD)) = some (decide (l = m)) := by
  have : deq (.tup b (l.map tD)) (.tup c (m.map tD)) = decide (l = m) := by
    show PyData.eqv (py _) (py _) = _
    simp only [py, PyData.eqv]
    exact deq_logs l m
  simp only [cmpD, plain_log h, plain_log h2, Bool.and_self, if_true, this]
theorem add_tt {a b : List D} (h : a.length + b.length < 1000000) : binD .add (.tup true a) (.tup true b) = some (.tup true (a ++ b)) := by
  simp only [binD]
  rw [if_pos (show a.length + b.length < LIM from h)]
  cases a with
  | nil => rfl
  | cons x a =>
    cases b with
    | nil => simp
    | cons y b => rfl
theorem slc_t {lo hi : Option Int} {ds : List D} : slcD lo hi (.tup true ds) = some (.tup true (MP.cutD ds lo hi)) := by
  simp only [slcD, ite_self]
theorem cut_natN (l : List D) (a b : Nat) : MP.cutD l (some (a : Int)) (some (b : Int)) = (l.drop a).take (b - a) := by
  unfold MP.cutD
  rw [HT.sIx_nat, HT.sIx_nat]
  by_cases h : a ≤ l.length
  · rw [Nat.min_eq_left h]
    by_cases h2 : b ≤ l.length
    · rw [Nat.min_eq_left h2]
    · rw [Nat.min_eq_right (by omega), List.take_of_length_le (i := l.length - a) (by rw [List.length_drop]; exact Nat.le_refl _), List.take_of_length_le (by rw [List.length_drop]; omega)]
  · rw [Nat.min_eq_right (show l.length ≤ a by omega), List.drop_eq_nil_of_le (as := l) (i := a) (by omega), List.drop_length]; simp
/-! ### exchanges of neighbours -/
def evOfK (q : Pb) (s : Su) (f : Nat) (k : KL) : Option Evt := (eventsL q s f).find? fun e => decide (evK e = k)
def freeK (q : Pb) (s : Su) (f : Nat) (j k : KL) : Bool := match evOfK q s f j, evOfK q s f k with
  | some a, some b => freeE q s f a b
  | _, _ => false
/-- the log with the neighbours at a place exchanged -/
def exN (q : Pb) (s : Su) (f : Nat) (l : List KL) (i : Nat) : Option (List KL) := match l.drop i with
  | a :: b :: r => if freeK q s f a b = true then some (l.take i ++ b :: a :: r) else none
  | _ => none
def exI (q : Pb) (s : Su) (f : Nat) (l : List KL) (i : Int) : Option (List KL) := if i < 0 then none else exN q s f l i.toNat
def lgO : Option (List KL) → D
  | none => .non
  | some l => logD l
section
variable {q : Pb} {s : Su} {f : Nat}
theorem evOf_ev {e : Evt} (h : e ∈ eventsL q s f) : evOfK q s f (evK e) = some e := by
  unfold evOfK
  cases hf : (eventsL q s f).find? fun x => decide (evK x = evK e) with
  | none => rw [List.find?_eq_none] at hf; exact absurd (by simp) (hf e h)
  | some x =>
    have := List.find?_some hf
    rw [evK_inj (of_decide_eq_true this)]
theorem evOf_no {k : KL} (h : k ∉ (eventsL q s f).map evK) : evOfK q s f k = none := by
  unfold evOfK
  rw [List.find?_eq_none]
  intro x hx hk
  exact h (List.mem_map.mpr ⟨x, hx, of_decide_eq_true hk⟩)
theorem free_ev {a b : Evt} (ha : a ∈ eventsL q s f) (hb : b ∈ eventsL q s f) : freeK q s f (evK a) (evK b) = freeE q s f a b := by
  unfold freeK
  rw [evOf_ev ha, evOf_ev hb]
theorem free_no1 {j k : KL} (h : j ∉ (eventsL q s f).map evK) : freeK q s f j k = false := by
  unfold freeK
  rw [evOf_no h]
theorem free_no2 {j k : KL} (h : k ∉ (eventsL q s f).map evK) : freeK q s f j k = false := by
  unfold freeK
  rw [evOf_no h]
  cases evOfK q s f j <;> rfl
theorem exN_mid (a r : List KL) (x y : KL) : exN q s f (a ++ x :: y :: r) a.length = if freeK q s f x y = true then some (a ++ y :: x :: r) else none := by
  unfold exN
  simp
theorem exN_perm {l l' : List KL} {i : Nat} (h : exN q s f l i = some l') : l'.Perm l := by
  unfold exN at h
  split at h
  · rename_i a b r e
    split at h
    · cases h
      have h1 := List.take_append_drop i l
      rw [e] at h1
      conv => rhs; rw [← h1]
      exact List.Perm.append_left _ (List.Perm.swap a b r)
    · cases h
  · cases h
theorem exI_perm {l l' : List KL} {i : Int} (h : exI q s f l i = some l') : l'.Perm l := by
  unfold exI at h
  split at h
  · cases h
  · exact exN_perm h
theorem okL_perm {l m : List KL} (h : okL l) (p : m.Perm l) : okL m := fun k hk => h k (p.mem_iff.mp hk)
section
variable {n : Nat} {G : Gs}
theorem is_num_eq {i a b : Int} : callN Pr (n + 1) "is_number" [.int i, .int a, .int b] G = .ok (.bl (decide (a ≤ i) && decide (i ≤ b))) G := by
  rw [call_eq P_is_number rfl]
  simp_arith [d_is_number]
  by_cases h : a ≤ i
  · simp_arith [h, decide_true]
  · simp_arith [h, decide_false, Bool.false_and]
theorem are_free_eq {a b : Evt} (hq : GoodP q) (hs : GoodSu s) (hf : f ≤ 1000) (ha : a ∈ eventsL q s f) (hb : b ∈ eventsL q s f) : callN Pr (n + 7) "are_free" [pbD q, suD s, nD f, evD a, evD b] G = .ok (.bl (freeE q s f a b)) G := by
  rw [call_eq P_are_free rfl]
  have c1 := causes_of_eq (n := n) (G := G) (s := s) (f := f) a hq hs hf (mem_events.mp ha).1.2
  have c2 := causes_of_eq (n := n) (G := G) (s := s) (f := f) b hq hs hf (mem_events.mp hb).1.2
  have eq1 : cmpD .eq (evD a) (evD b) = some (decide (a = b)) := by
    rw [ev_tD, ev_tD, eq_tD (okK_ev a) (okK_ev b)]
    congr 1
    rw [decide_eq_decide]
    exact ⟨evK_inj, fun h => by rw [h]⟩
  have in1 : cmpD .isin (evD a) (.lst ((causesL q s f b).map evD)) = some (decide (a ∈ causesL q s f b)) := by
    rw [ev_tD, evs_tD, in_l (okK_ev a) (ok_evs _), hasK_ev]
  unfold freeE
  cases h1 : decide (a = b)
  · cases h2 : decide (a ∈ causesL q s f b)
    · simp_arith [d_are_free, eq1, h1, c1, c2, in1, h2, nin_ev]
    · simp_arith [d_are_free, eq1, h1, c1, c2, in1, h2, nin_ev, Bool.false_and]
  · simp_arith [d_are_free, eq1, h1, Bool.false_and]
theorem law_free_eq {a b : Evt} (hs : GoodSu s) (ha : a ∈ eventsL q s f) (hb : b ∈ eventsL q s f) : callN Pr (n + 1) "_law_free" [knD q s f (eventsL q s f), evD a, evD b] G = .ok (.bl (freeE q s f a b)) G := by
  rw [call_eq P_law_free rfl]
  have h1 : decide (a ∈ cfL q s f b) = decide (a ∈ causesL q s f b) := by rw [decide_eq_decide]; exact mem_cf hs hb
  have h2 : decide (b ∈ cfL q s f a) = decide (b ∈ causesL q s f a) := by rw [decide_eq_decide]; exact mem_cf hs ha
  simp_arith [d_law_free, ne_ev, kn_at ha, kn_at hb, nin_ev, h1, h2]
  unfold freeE
  cases decide (a = b) <;> cases decide (a ∈ causesL q s f b) <;> cases decide (b ∈ causesL q s f a) <;> rfl
theorem exchanged_eq {l : List KL} {i : Int} (hq : GoodP q) (hs : GoodSu s) (hf : f ≤ 1000) (hl : okL l) (hll : l.length ≤ 100000) : callN Pr (n + 8) "exchanged" [.tup true [pbD q, suD s, nD f], .tup true ((eventsL q s f).map evD), logD l, .int i] G = .ok (lgO (exI q s f l i)) G := by
  rw [call_eq P_exchanged rfl]
  have n1 := is_num_eq (n := n + 6) (G := G) (i := i) (a := 0) (b := (l.length : Int) - 2)
  simp_arith [d_exchanged, logD, List.length_map, n1]
  by_cases h : 0 ≤ i ∧ i ≤ (l.length : Int) - 2
  · obtain ⟨k, rfl⟩ : ∃ k : Nat, i = (k : Int) := ⟨i.toNat, by omega⟩
    have hk : k + 2 ≤ l.length := by omega
    obtain ⟨a, b, r, e⟩ : ∃ a b r, l.drop k = a :: b :: r := by
      refine ⟨l[k], l[k + 1], l.drop (k + 2), ?_⟩
      rw [List.drop_eq_getElem_cons (by omega), List.drop_eq_getElem_cons (by omega)]
    have ht : l = l.take k ++ a :: b :: r := by rw [← e, List.take_append_drop]
    have htl : (l.take k).length = k := by rw [List.length_take]; omega
    have ka : okK a = true := hl a (by rw [ht]; simp)
    have kb : okK b = true := hl b (by rw [ht]; simp)
    have s1 : slcD (some (k : Int)) (some ((k : Int) + 2)) (.tup true (l.map tD)) = some (.tup true [tD a, tD b]) := by
      rw [slc_t, show ((k : Int) + 2) = ((k + 2 : Nat) : Int) by omega, cut_natN, ← List.map_drop, e]
      simp
    have s2 : slcD none (some (k : Int)) (.tup true (l.map tD)) = some (.tup true ((l.take k).map tD)) := by rw [slc_t, cut_nat0, List.map_take]
    have s3 : slcD (some ((k : Int) + 2)) none (.tup true (l.map tD)) = some (.tup true (r.map tD)) := by
      rw [slc_t, show ((k : Int) + 2) = ((k + 2 : Nat) : Int) by omega, cut_natE, ← List.map_drop]
      congr 3
      rw [← List.drop_drop, e]; rfl
    have i1 : atI (l.map tD) (k : Int) = some (tD a) := by
      rw [atI_nat, List.getElem?_map]
      have : l[k]? = some a := by rw [ht]; simp [htl]
      rw [this]; rfl
    have i2 : atI (l.map tD) ((k : Int) + 1) = some (tD b) := by
      rw [show ((k : Int) + 1) = ((k + 1 : Nat) : Int) by omega, atI_nat, List.getElem?_map]
      have : l[k + 1]? = some b := by rw [ht, List.getElem?_append_right (by omega), htl]; simp
      rw [this]; rfl
    have t1 := told_t (n := n + 6) (G := G) (b := true) (l := eventsL q s f) ka
    have t2 := told_t (n := n + 6) (G := G) (b := true) (l := eventsL q s f) kb
    have al : ∀ x y : Bool, primD .all1 [.lst [.bl x, .bl y]] = some (.bl (x && y)) := fun x y => by cases x <;> cases y <;> rfl
    have hx : exI q s f l (k : Int) = if freeK q s f a b = true then some (l.take k ++ b :: a :: r) else none := by
      unfold exI exN
      rw [if_neg (by omega), Int.toNat_natCast, e]
    have d1 : (decide ((0 : Int) ≤ (k : Int)) && decide ((k : Int) ≤ (l.length : Int) - 2)) = true := by simp; omega
    rw [hx]
    simp_arith [d1, s1, d_exchanged_e0, t1, t2, al]
    by_cases ma : a ∈ (eventsL q s f).map evK
    · by_cases mb : b ∈ (eventsL q s f).map evK
      · obtain ⟨x, hx1, rfl⟩ := List.mem_map.mp ma
        obtain ⟨y, hy1, rfl⟩ := List.mem_map.mp mb
        have f1 := are_free_eq (n := n) (G := G) hq hs hf hx1 hy1
        rw [ev_tD, ev_tD] at f1
        simp_arith [hasK_iff.mpr ma, hasK_iff.mpr mb, i1, i2, f1, free_ev hx1 hy1]
        cases hfr : freeE q s f x y
        · simp_arith [lgO]
        · have a1 : binD .add (.tup true ((l.take k).map tD)) (.tup true [tD (evK y), tD (evK x)]) = some (.tup true ((l.take k).map tD ++ [tD (evK y), tD (evK x)])) := add_tt (by rw [List.length_map, htl]; simp; omega)
          have a2 : binD .add (.tup true ((l.take k).map tD ++ [tD (evK y), tD (evK x)])) (.tup true (r.map tD)) = some (.tup true ((l.take k).map tD ++ [tD (evK y), tD (evK x)] ++ r.map tD)) := add_tt (by
            have := congrArg List.length ht
            simp only [List.length_append, List.length_map, htl, List.length_cons, List.length_nil] at this ⊢
            omega)
          simp_arith [i1, i2, s2, a1, a2, s3, lgO, logD]
          simp
      · simp_arith [hasK_iff.mpr ma, hasK_not mb, free_no2 mb, lgO]
    · simp_arith [hasK_not ma, free_no1 ma, Bool.false_and, lgO]
  · have d1 : (decide ((0 : Int) ≤ i) && decide (i ≤ (l.length : Int) - 2)) = false := by
      rw [Bool.eq_false_iff]
      intro hc
      apply h
      simpa using hc
    have hx : exI q s f l i = none := by
      unfold exI
      split
      · rfl
      · unfold exN
        have : l.drop i.toNat = [] ∨ ∃ a, l.drop i.toNat = [a] := by
          have hlen : (l.drop i.toNat).length ≤ 1 := by rw [List.length_drop]; omega
          match hd : l.drop i.toNat, hlen with
          | [], _ => exact .inl rfl
          | [a], _ => exact .inr ⟨a, rfl⟩
        rcases this with e | ⟨a, e⟩ <;> rw [e]
    simp_arith [d1, hx, lgO]
end
end
end CM

namespace CM
open PySem hiding exec execs start
open PySem.Spec PyProof.Rows L2 MP
local macro_rules
  | `(tactic| simp_arith [$xs,*]) => `(tactic| simp -implicitDefEqProofs (disch := first | omega | (simp only [List.length_append, List.length_map, List.length_range, List.length_range', List.length_nil, List.length_cons, List.length_singleton, List.length_zipIdx] <;> omega)) only [gv0, gvS, go0, goS, ev_var, ev_own, ev_non, ev_bl, ev_int, ev_str, ev_glb, ev_tup, ev_lst, ev_dK0, ev_dT0, ev_bin, ev_cat, ev_rep, negR_int, ev_neg, notR_bl, ev_not, blR_some, ev_cmp, chR_t, chR_f, ev_chn, ev_and, ev_or, bR_bl, anR_t, anR_f, anR_b, orR_t, orR_f, orR_b, and_one, and_more, or_one, or_more, ev_ife, ev_idx, ev_slc, ev_rev, calR_f, calR_ok, calR_ex, ev_call, ev_prim, ev_mth, ev_isi, ev_srtset, ev_lrng, ev_comp, ev_newc, evs_nil, evs_cons, inR_int, evo_no, evo_so, evI_seq, evI_rng, evI_enum, tv_not, tv_and, tv_or, tv_var, tv_own, tv_non, tv_bl, tv_int, tv_cmp, tv_chn, tv_call, tv_prim, tv_isi, tv_idx, tv_mth, tv_ife, tv_comp, tv_slc, tv_bin, tand_one, tand_more, tor_one, tor_more, b_ok, b_ex, l_some, s_ok, s_ex, q_nx, q_rt, q_bk, q_ct, q_ex, n_some, f_nx, f_rt, f_ex, fr_f, fr_t, fr_k, x_asg, x_asgF, x_frz, onL0, onLS, x_app, x_ext, x_ex, x_ret, x_retN, x_cont, x_brk, x_rais, x_ite, x_for, x_whl, xs_nil, xs_cons, forB_nm, setTg_nm, setTg_tp, setTp_nil, setTp_cons, sl0, slS, w_nil, w_cons, ow0, owS, ob, om, st_e, frR_some, frz_eq, x_setg, x_seti, oc0, ocS, x_appPop, ol0, olS, fl_int, fls_nil, fls_cons, t_bl, t_int, t_non, t_lst, d_add, d_sub, d_mul, d_fdiv, d_mod, d_lt, d_le, d_gt, d_ge, d_eqi, d_nei, p_len, p_lent, p_lens, p_int, p_abs, p_tup, p_tupt, p_list, p_listt, p_min2, p_max2, ix_l, ix_t, ix_s, app_d, ext_l, ext_t, bo_ok (t_bl), bo_ok (t_int), bo_ok (t_lst), notR_of (t_lst), os_eq, Es.hasOwn, List.map_cons, List.map_nil, List.length_cons, List.length_nil, List.replicate_succ, List.replicate_zero, List.cons_append, List.nil_append, Nat.reduceSub, Nat.reduceAdd, Nat.sub_self, reduceIte, Bool.not_true, Bool.not_false, Bool.false_eq_true, Bool.and_self, Bool.and_true, Bool.true_and, Nat.reduceBEq, Nat.reduceEqDiff, cF_no, cF_so, cF2_no, cF2_so, cF3_no, cF3_so, cR_b, q_nil, q_nil2, forB_tp2, forB_tp3, ty_bool_non, ty_bool_bl, ty_bool_int, ty_bool_str, ty_bool_tup, ty_bool_lst, ty_int_non, ty_int_bl, ty_int_int, ty_int_str, ty_int_tup, ty_int_lst, ty_str_non, ty_str_bl, ty_str_int, ty_str_str, ty_str_tup, ty_str_lst, ty_tuple_non, ty_tuple_bl, ty_tuple_int, ty_tuple_str, ty_tuple_tup, ty_tuple_lst, ty_list_non, ty_list_bl, ty_list_int, ty_list_str, ty_list_tup, ty_list_lst, d_eqb, d_isn, d_isi, d_isb, d_iss, d_ist, d_isl, d_insn, d_insi, d_inst, d_insl, p_int_b, t_tup, compL_nil, compL_cons, cC_some, cC_none, cK_ok, cN_ok, forL_nil, forL_cons, foR_nx, foR_ct, foR_bk, foR_rt, foR_ex, seq_l, seq_t, enu_l, enu_t, ev_dcomp, dcF_nm, evI_items, agS_int, x_augi, x_ins, x_asgPop, setTg_tpl, forB_tp2l, forB_tp3l, d_isbb, d_insbb, d_isdK, p_lendK, p_lendT, ty_bool_dK, ty_int_dK, ty_str_dK, ty_tuple_dK, ty_list_dK, ms_i1, ms_i2, ms_g2, ms_g1, calR_n, calR_in, calR_bl, ix_pb0, ix_pb1, ix_pb2, ix_pb3, ix_su0, ix_su1, ix_su2, kq_0_0, kq_0_1, kq_0_2, kq_0_3, kq_0_4, kq_0_5, kq_0_6, kq_0_7, kq_1_0, kq_1_1, kq_1_2, kq_1_3, kq_1_4, kq_1_5, kq_1_6, kq_1_7, kq_2_0, kq_2_1, kq_2_2, kq_2_3, kq_2_4, kq_2_5, kq_2_6, kq_2_7, kq_3_0, kq_3_1, kq_3_2, kq_3_3, kq_3_4, kq_3_5, kq_3_6, kq_3_7, kq_4_0, kq_4_1, kq_4_2, kq_4_3, kq_4_4, kq_4_5, kq_4_6, kq_4_7, kq_5_0, kq_5_1, kq_5_2, kq_5_3, kq_5_4, kq_5_5, kq_5_6, kq_5_7, kq_6_0, kq_6_1, kq_6_2, kq_6_3, kq_6_4, kq_6_5, kq_6_6, kq_6_7, kq_7_0, kq_7_1, kq_7_2, kq_7_3, kq_7_4, kq_7_5, kq_7_6, kq_7_7, kn_0, kn_1, kn_2, kn_3, kn_4, kn_5, kn_6, kn_7, $xs,*])
local macro_rules
  | `(tactic| simp_arith [$xs,*] at $h:ident) => `(tactic| simp -implicitDefEqProofs (disch := first | omega | (simp only [List.length_append, List.length_map, List.length_range, List.length_range', List.length_nil, List.length_cons, List.length_singleton, List.length_zipIdx] <;> omega)) only [gv0, gvS, go0, goS, ev_var, ev_own, ev_non, ev_bl, ev_int, ev_str, ev_glb, ev_tup, ev_lst, ev_dK0, ev_dT0, ev_bin, ev_cat, ev_rep, negR_int, ev_neg, notR_bl, ev_not, blR_some, ev_cmp, chR_t, chR_f, ev_chn, ev_and, ev_or, bR_bl, anR_t, anR_f, anR_b, orR_t, orR_f, orR_b, and_one, and_more, or_one, or_more, ev_ife, ev_idx, ev_slc, ev_rev, calR_f, calR_ok, calR_ex, ev_call, ev_prim, ev_mth, ev_isi, ev_srtset, ev_lrng, ev_comp, ev_newc, evs_nil, evs_cons, inR_int, evo_no, evo_so, evI_seq, evI_rng, evI_enum, tv_not, tv_and, tv_or, tv_var, tv_own, tv_non, tv_bl, tv_int, tv_cmp, tv_chn, tv_call, tv_prim, tv_isi, tv_idx, tv_mth, tv_ife, tv_comp, tv_slc, tv_bin, tand_one, tand_more, tor_one, tor_more, b_ok, b_ex, l_some, s_ok, s_ex, q_nx, q_rt, q_bk, q_ct, q_ex, n_some, f_nx, f_rt, f_ex, fr_f, fr_t, fr_k, x_asg, x_asgF, x_frz, onL0, onLS, x_app, x_ext, x_ex, x_ret, x_retN, x_cont, x_brk, x_rais, x_ite, x_for, x_whl, xs_nil, xs_cons, forB_nm, setTg_nm, setTg_tp, setTp_nil, setTp_cons, sl0, slS, w_nil, w_cons, ow0, owS, ob, om, st_e, frR_some, frz_eq, x_setg, x_seti, oc0, ocS, x_appPop, ol0, olS, fl_int, fls_nil, fls_cons, t_bl, t_int, t_non, t_lst, d_add, d_sub, d_mul, d_fdiv, d_mod, d_lt, d_le, d_gt, d_ge, d_eqi, d_nei, p_len, p_lent, p_lens, p_int, p_abs, p_tup, p_tupt, p_list, p_listt, p_min2, p_max2, ix_l, ix_t, ix_s, app_d, ext_l, ext_t, bo_ok (t_bl), bo_ok (t_int), bo_ok (t_lst), notR_of (t_lst), os_eq, Es.hasOwn, List.map_cons, List.map_nil, List.length_cons, List.length_nil, List.replicate_succ, List.replicate_zero, List.cons_append, List.nil_append, Nat.reduceSub, Nat.reduceAdd, Nat.sub_self, reduceIte, Bool.not_true, Bool.not_false, Bool.false_eq_true, Bool.and_self, Bool.and_true, Bool.true_and, Nat.reduceBEq, Nat.reduceEqDiff, cF_no, cF_so, cF2_no, cF2_so, cF3_no, cF3_so, cR_b, q_nil, q_nil2, forB_tp2, forB_tp3, ty_bool_non, ty_bool_bl, ty_bool_int, ty_bool_str, ty_bool_tup, ty_bool_lst, ty_int_non, ty_int_bl, ty_int_int, ty_int_str, ty_int_tup, ty_int_lst, ty_str_non, ty_str_bl, ty_str_int, ty_str_str, ty_str_tup, ty_str_lst, ty_tuple_non, ty_tuple_bl, ty_tuple_int, ty_tuple_str, ty_tuple_tup, ty_tuple_lst, ty_list_non, ty_list_bl, ty_list_int, ty_list_str, ty_list_tup, ty_list_lst, d_eqb, d_isn, d_isi, d_isb, d_iss, d_ist, d_isl, d_insn, d_insi, d_inst, d_insl, p_int_b, t_tup, compL_nil, compL_cons, cC_some, cC_none, cK_ok, cN_ok, forL_nil, forL_cons, foR_nx, foR_ct, foR_bk, foR_rt, foR_ex, seq_l, seq_t, enu_l, enu_t, ev_dcomp, dcF_nm, evI_items, agS_int, x_augi, x_ins, x_asgPop, setTg_tpl, forB_tp2l, forB_tp3l, d_isbb, d_insbb, d_isdK, p_lendK, p_lendT, ty_bool_dK, ty_int_dK, ty_str_dK, ty_tuple_dK, ty_list_dK, ms_i1, ms_i2, ms_g2, ms_g1, calR_n, calR_in, calR_bl, ix_pb0, ix_pb1, ix_pb2, ix_pb3, ix_su0, ix_su1, ix_su2, kq_0_0, kq_0_1, kq_0_2, kq_0_3, kq_0_4, kq_0_5, kq_0_6, kq_0_7, kq_1_0, kq_1_1, kq_1_2, kq_1_3, kq_1_4, kq_1_5, kq_1_6, kq_1_7, kq_2_0, kq_2_1, kq_2_2, kq_2_3, kq_2_4, kq_2_5, kq_2_6, kq_2_7, kq_3_0, kq_3_1, kq_3_2, kq_3_3, kq_3_4, kq_3_5, kq_3_6, kq_3_7, kq_4_0, kq_4_1, kq_4_2, kq_4_3, kq_4_4, kq_4_5, kq_4_6, kq_4_7, kq_5_0, kq_5_1, kq_5_2, kq_5_3, kq_5_4, kq_5_5, kq_5_6, kq_5_7, kq_6_0, kq_6_1, kq_6_2, kq_6_3, kq_6_4, kq_6_5, kq_6_6, kq_6_7, kq_7_0, kq_7_1, kq_7_2, kq_7_3, kq_7_4, kq_7_5, kq_7_6, kq_7_7, kn_0, kn_1, kn_2, kn_3, kn_4, kn_5, kn_6, kn_7, $xs,*] at $h:ident)
/-! ### places that are judged -/
def plI : D → Option Int
  | .int i => some i
  | _ => none
/-- no number of the model's -/
def badPl (d : D) : Prop := isTyD "int" d = some false ∨ ∃ b, d = .bl b
def okPl (d : D) : Prop := badPl d ∨ ∃ i, d = .int i
def jdg (q : Pb) (s : Su) (f : Nat) : List KL → List D → Option (List KL)
  | l, [] => some l
  | l, d :: ps => match plI d with
    | some i => (exI q s f l i).bind (jdg q s f · ps)
    | none => none
theorem bad_plI {d : D} (h : badPl d) : plI d = none := by
  rcases h with h | ⟨b, rfl⟩
  · cases d <;> first | rfl | cases h
  · rfl
section
variable {n : Nat} {G : Gs} {q : Pb} {s : Su} {f : Nat}
theorem is_num_bad {d : D} {a b : Int} (h : badPl d) : callN Pr (n + 1) "is_number" [d, .int a, .int b] G = .ok (.bl false) G := by
  rw [call_eq P_is_number rfl]
  rcases h with h | ⟨b, rfl⟩
  · simp_arith [d_is_number, h]
  · simp_arith [d_is_number]
theorem exchanged_bad {l : List KL} {d : D} (h : badPl d) : callN Pr (n + 8) "exchanged" [.tup true [pbD q, suD s, nD f], .tup true ((eventsL q s f).map evD), logD l, d] G = .ok .non G := by
  rw [call_eq P_exchanged rfl]
  have n1 := is_num_bad (n := n + 6) (G := G) (d := d) (a := 0) (b := (l.length : Int) - 2) h
  simp_arith [d_exchanged, logD, List.length_map, n1]
def jdO (r : Option (List KL)) (env : Ev) (G : Gs) : Out := match r with
  | none => .rt (.bl false) G
  | some l => .nx (env.set 7 (.val (logD l))) G
theorem d_islog (l : List KL) : cmpD .iss (logD l) .non = some false := rfl
theorem judge_loop {L M P : D} (hq : GoodP q) (hs : GoodSu s) (hf : f ≤ 1000) : ∀ (ps : List D) (l : List KL), okL l → l.length ≤ 100000 → (∀ d ∈ ps, okPl d) →
    forL (forB (callN Pr (n + 8)) (.nm 8 "place") d_judge_exchanges_b0) [8] ps [.val (pbD q), .val (suD s), .val (nD f), .val L, .val M, .val P, .val (.tup true ((eventsL q s f).map evD)), .val (logD l), .un] G = jdO (jdg q s f l ps) [.val (pbD q), .val (suD s), .val (nD f), .val L, .val M, .val P, .val (.tup true ((eventsL q s f).map evD)), .val (logD l), .un] G
  | [], l, _, _, _ => rfl
  | d :: ps, l, h1, h2, h3 => by
    rw [forL_cons]
    rcases h3 d (by simp) with hd | ⟨i, rfl⟩
    · have e1 := exchanged_bad (n := n) (G := G) (q := q) (s := s) (f := f) (l := l) hd
      unfold jdg
      rw [bad_plI hd]
      simp_arith [d_judge_exchanges_b0, e1]
      rfl
    · have e1 := exchanged_eq (n := n) (G := G) (i := i) hq hs hf h1 h2
      unfold jdg
      simp only [plI]
      cases hx : exI q s f l i with
      | none =>
        rw [hx] at e1
        simp_arith [d_judge_exchanges_b0, e1, lgO]
        rfl
      | some l' =>
        rw [hx] at e1
        have hp := exI_perm hx
        have ih := judge_loop (L := L) (M := M) (P := P) hq hs hf ps l' (okL_perm h1 hp) (by rw [hp.length_eq]; exact h2) fun d hd => h3 d (List.mem_cons_of_mem _ hd)
        have hb : forB (callN Pr (n + 8)) (.nm 8 "place") d_judge_exchanges_b0 (.int i) [.val (pbD q), .val (suD s), .val (nD f), .val L, .val M, .val P, .val (.tup true ((eventsL q s f).map evD)), .val (logD l), .un] G = .nx [.val (pbD q), .val (suD s), .val (nD f), .val L, .val M, .val P, .val (.tup true ((eventsL q s f).map evD)), .val (logD l'), .val (.int i)] G := by
          simp_arith [d_judge_exchanges_b0, e1, lgO, d_islog]
        rw [hb, foR_nx]
        refine Eq.trans (show _ = _ from ih) ?_
        show _ = jdO (jdg q s f l' ps) _ G
        cases jdg q s f l' ps <;> rfl
theorem jdg_perm : ∀ {ps : List D} {l l' : List KL}, jdg q s f l ps = some l' → l'.Perm l
  | [], l, l', h => by cases h; exact List.Perm.refl _
  | d :: ps, l, l', h => by
    unfold jdg at h
    split at h
    · rename_i i hi
      obtain ⟨m, h1, h2⟩ := Option.bind_eq_some_iff.mp h
      exact (jdg_perm h2).trans (exI_perm h1)
    · cases h
theorem judge_eq {l m : List KL} {ps : List D} {b : Bool} (hq : GoodP q) (hs : GoodSu s) (hf : f ≤ 1000) (hl : okL l) (hm : okL m) (hll : l.length ≤ 100000) (hp : ∀ d ∈ ps, okPl d) : callN Pr (n + 9) "judge_exchanges" [pbD q, suD s, nD f, logD l, logD m, .tup b ps] G = .ok (.bl (decide (jdg q s f l ps = some m))) G := by
  rw [call_eq P_judge_exchanges rfl]
  have e1 := events_eq (n := n + 3) (G := G) hq hs hf
  have lp := judge_loop (n := n) (G := G) (L := logD l) (M := logD m) (P := .tup b ps) hq hs hf ps l hl hll hp
  simp_arith [d_judge_exchanges, e1, lp]
  cases hj : jdg q s f l ps with
  | none => simp_arith [jdO]; rfl
  | some l' =>
    have h2 := eq_log (okL_perm hl (jdg_perm hj)) hm (b := true) (c := true)
    have h2 : cmpD .eq (logD l') (logD m) = some (decide (l' = m)) := h2
    simp_arith [jdO, h2, Option.some.injEq]
theorem judge_nt {l m : List KL} {d : D} (h : isTyD "tuple" d = some false) : callN Pr (n + 9) "judge_exchanges" [pbD q, suD s, nD f, logD l, logD m, d] G = .ok (.bl false) G := by
  rw [call_eq P_judge_exchanges rfl]
  simp_arith [d_judge_exchanges, h]
end
end CM

namespace CM
open PySem hiding exec execs start
open PySem.Spec PyProof.Rows L2 MP
local macro_rules
  | `(tactic| simp_arith [$xs,*]) => `(tactic| simp -implicitDefEqProofs (disch := first | omega | (simp only [List.length_append, List.length_map, List.length_range, List.length_range', List.length_nil, List.length_cons, List.length_singleton, List.length_zipIdx] <;> omega)) only [gv0, gvS, go0, goS, ev_var, ev_own, ev_non, ev_bl, ev_int, ev_str, ev_glb, ev_tup, ev_lst, ev_dK0, ev_dT0, ev_bin, ev_cat, ev_rep, negR_int, ev_neg, notR_bl, ev_not, blR_some, ev_cmp, chR_t, chR_f, ev_chn, ev_and, ev_or, bR_bl, anR_t, anR_f, anR_b, orR_t, orR_f, orR_b, and_one, and_more, or_one, or_more, ev_ife, ev_idx, ev_slc, ev_rev, calR_f, calR_ok, calR_ex, ev_call, ev_prim, ev_mth, ev_isi, ev_srtset, ev_lrng, ev_comp, ev_newc, evs_nil, evs_cons, inR_int, evo_no, evo_so, evI_seq, evI_rng, evI_enum, tv_not, tv_and, tv_or, tv_var, tv_own, tv_non, tv_bl, tv_int, tv_cmp, tv_chn, tv_call, tv_prim, tv_isi, tv_idx, tv_mth, tv_ife, tv_comp, tv_slc, tv_bin, tand_one, tand_more, tor_one, tor_more, b_ok, b_ex, l_some, s_ok, s_ex, q_nx, q_rt, q_bk, q_ct, q_ex, n_some, f_nx, f_rt, f_ex, fr_f, fr_t, fr_k, x_asg, x_asgF, x_frz, onL0, onLS, x_app, x_ext, x_ex, x_ret, x_retN, x_cont, x_brk, x_rais, x_ite, x_for, x_whl, xs_nil, xs_cons, forB_nm, setTg_nm, setTg_tp, setTp_nil, setTp_cons, sl0, slS, w_nil, w_cons, ow0, owS, ob, om, st_e, frR_some, frz_eq, x_setg, x_seti, oc0, ocS, x_appPop, ol0, olS, fl_int, fls_nil, fls_cons, t_bl, t_int, t_non, t_lst, d_add, d_sub, d_mul, d_fdiv, d_mod, d_lt, d_le, d_gt, d_ge, d_eqi, d_nei, p_len, p_lent, p_lens, p_int, p_abs, p_tup, p_tupt, p_list, p_listt, p_min2, p_max2, ix_l, ix_t, ix_s, app_d, ext_l, ext_t, bo_ok (t_bl), bo_ok (t_int), bo_ok (t_lst), notR_of (t_lst), os_eq, Es.hasOwn, List.map_cons, List.map_nil, List.length_cons, List.length_nil, List.replicate_succ, List.replicate_zero, List.cons_append, List.nil_append, Nat.reduceSub, Nat.reduceAdd, Nat.sub_self, reduceIte, Bool.not_true, Bool.not_false, Bool.false_eq_true, Bool.and_self, Bool.and_true, Bool.true_and, Nat.reduceBEq, Nat.reduceEqDiff, cF_no, cF_so, cF2_no, cF2_so, cF3_no, cF3_so, cR_b, q_nil, q_nil2, forB_tp2, forB_tp3, ty_bool_non, ty_bool_bl, ty_bool_int, ty_bool_str, ty_bool_tup, ty_bool_lst, ty_int_non, ty_int_bl, ty_int_int, ty_int_str, ty_int_tup, ty_int_lst, ty_str_non, ty_str_bl, ty_str_int, ty_str_str, ty_str_tup, ty_str_lst, ty_tuple_non, ty_tuple_bl, ty_tuple_int, ty_tuple_str, ty_tuple_tup, ty_tuple_lst, ty_list_non, ty_list_bl, ty_list_int, ty_list_str, ty_list_tup, ty_list_lst, d_eqb, d_isn, d_isi, d_isb, d_iss, d_ist, d_isl, d_insn, d_insi, d_inst, d_insl, p_int_b, t_tup, compL_nil, compL_cons, cC_some, cC_none, cK_ok, cN_ok, forL_nil, forL_cons, foR_nx, foR_ct, foR_bk, foR_rt, foR_ex, seq_l, seq_t, enu_l, enu_t, ev_dcomp, dcF_nm, evI_items, agS_int, x_augi, x_ins, x_asgPop, setTg_tpl, forB_tp2l, forB_tp3l, d_isbb, d_insbb, d_isdK, p_lendK, p_lendT, ty_bool_dK, ty_int_dK, ty_str_dK, ty_tuple_dK, ty_list_dK, ms_i1, ms_i2, ms_g2, ms_g1, calR_n, calR_in, calR_bl, ix_pb0, ix_pb1, ix_pb2, ix_pb3, ix_su0, ix_su1, ix_su2, kq_0_0, kq_0_1, kq_0_2, kq_0_3, kq_0_4, kq_0_5, kq_0_6, kq_0_7, kq_1_0, kq_1_1, kq_1_2, kq_1_3, kq_1_4, kq_1_5, kq_1_6, kq_1_7, kq_2_0, kq_2_1, kq_2_2, kq_2_3, kq_2_4, kq_2_5, kq_2_6, kq_2_7, kq_3_0, kq_3_1, kq_3_2, kq_3_3, kq_3_4, kq_3_5, kq_3_6, kq_3_7, kq_4_0, kq_4_1, kq_4_2, kq_4_3, kq_4_4, kq_4_5, kq_4_6, kq_4_7, kq_5_0, kq_5_1, kq_5_2, kq_5_3, kq_5_4, kq_5_5, kq_5_6, kq_5_7, kq_6_0, kq_6_1, kq_6_2, kq_6_3, kq_6_4, kq_6_5, kq_6_6, kq_6_7, kq_7_0, kq_7_1, kq_7_2, kq_7_3, kq_7_4, kq_7_5, kq_7_6, kq_7_7, kn_0, kn_1, kn_2, kn_3, kn_4, kn_5, kn_6, kn_7, $xs,*])
local macro_rules
  | `(tactic| simp_arith [$xs,*] at $h:ident) => `(tactic| simp -implicitDefEqProofs (disch := first | omega | (simp only [List.length_append, List.length_map, List.length_range, List.length_range', List.length_nil, List.length_cons, List.length_singleton, List.length_zipIdx] <;> omega)) only [gv0, gvS, go0, goS, ev_var, ev_own, ev_non, ev_bl, ev_int, ev_str, ev_glb, ev_tup, ev_lst, ev_dK0, ev_dT0, ev_bin, ev_cat, ev_rep, negR_int, ev_neg, notR_bl, ev_not, blR_some, ev_cmp, chR_t, chR_f, ev_chn, ev_and, ev_or, bR_bl, anR_t, anR_f, anR_b, orR_t, orR_f, orR_b, and_one, and_more, or_one, or_more, ev_ife, ev_idx, ev_slc, ev_rev, calR_f, calR_ok, calR_ex, ev_call, ev_prim, ev_mth, ev_isi, ev_srtset, ev_lrng, ev_comp, ev_newc, evs_nil, evs_cons, inR_int, evo_no, evo_so, evI_seq, evI_rng, evI_enum, tv_not, tv_and, tv_or, tv_var, tv_own, tv_non, tv_bl, tv_int, tv_cmp, tv_chn, tv_call, tv_prim, tv_isi, tv_idx, tv_mth, tv_ife, tv_comp, tv_slc, tv_bin, tand_one, tand_more, tor_one, tor_more, b_ok, b_ex, l_some, s_ok, s_ex, q_nx, q_rt, q_bk, q_ct, q_ex, n_some, f_nx, f_rt, f_ex, fr_f, fr_t, fr_k, x_asg, x_asgF, x_frz, onL0, onLS, x_app, x_ext, x_ex, x_ret, x_retN, x_cont, x_brk, x_rais, x_ite, x_for, x_whl, xs_nil, xs_cons, forB_nm, setTg_nm, setTg_tp, setTp_nil, setTp_cons, sl0, slS, w_nil, w_cons, ow0, owS, ob, om, st_e, frR_some, frz_eq, x_setg, x_seti, oc0, ocS, x_appPop, ol0, olS, fl_int, fls_nil, fls_cons, t_bl, t_int, t_non, t_lst, d_add, d_sub, d_mul, d_fdiv, d_mod, d_lt, d_le, d_gt, d_ge, d_eqi, d_nei, p_len, p_lent, p_lens, p_int, p_abs, p_tup, p_tupt, p_list, p_listt, p_min2, p_max2, ix_l, ix_t, ix_s, app_d, ext_l, ext_t, bo_ok (t_bl), bo_ok (t_int), bo_ok (t_lst), notR_of (t_lst), os_eq, Es.hasOwn, List.map_cons, List.map_nil, List.length_cons, List.length_nil, List.replicate_succ, List.replicate_zero, List.cons_append, List.nil_append, Nat.reduceSub, Nat.reduceAdd, Nat.sub_self, reduceIte, Bool.not_true, Bool.not_false, Bool.false_eq_true, Bool.and_self, Bool.and_true, Bool.true_and, Nat.reduceBEq, Nat.reduceEqDiff, cF_no, cF_so, cF2_no, cF2_so, cF3_no, cF3_so, cR_b, q_nil, q_nil2, forB_tp2, forB_tp3, ty_bool_non, ty_bool_bl, ty_bool_int, ty_bool_str, ty_bool_tup, ty_bool_lst, ty_int_non, ty_int_bl, ty_int_int, ty_int_str, ty_int_tup, ty_int_lst, ty_str_non, ty_str_bl, ty_str_int, ty_str_str, ty_str_tup, ty_str_lst, ty_tuple_non, ty_tuple_bl, ty_tuple_int, ty_tuple_str, ty_tuple_tup, ty_tuple_lst, ty_list_non, ty_list_bl, ty_list_int, ty_list_str, ty_list_tup, ty_list_lst, d_eqb, d_isn, d_isi, d_isb, d_iss, d_ist, d_isl, d_insn, d_insi, d_inst, d_insl, p_int_b, t_tup, compL_nil, compL_cons, cC_some, cC_none, cK_ok, cN_ok, forL_nil, forL_cons, foR_nx, foR_ct, foR_bk, foR_rt, foR_ex, seq_l, seq_t, enu_l, enu_t, ev_dcomp, dcF_nm, evI_items, agS_int, x_augi, x_ins, x_asgPop, setTg_tpl, forB_tp2l, forB_tp3l, d_isbb, d_insbb, d_isdK, p_lendK, p_lendT, ty_bool_dK, ty_int_dK, ty_str_dK, ty_tuple_dK, ty_list_dK, ms_i1, ms_i2, ms_g2, ms_g1, calR_n, calR_in, calR_bl, ix_pb0, ix_pb1, ix_pb2, ix_pb3, ix_su0, ix_su1, ix_su2, kq_0_0, kq_0_1, kq_0_2, kq_0_3, kq_0_4, kq_0_5, kq_0_6, kq_0_7, kq_1_0, kq_1_1, kq_1_2, kq_1_3, kq_1_4, kq_1_5, kq_1_6, kq_1_7, kq_2_0, kq_2_1, kq_2_2, kq_2_3, kq_2_4, kq_2_5, kq_2_6, kq_2_7, kq_3_0, kq_3_1, kq_3_2, kq_3_3, kq_3_4, kq_3_5, kq_3_6, kq_3_7, kq_4_0, kq_4_1, kq_4_2, kq_4_3, kq_4_4, kq_4_5, kq_4_6, kq_4_7, kq_5_0, kq_5_1, kq_5_2, kq_5_3, kq_5_4, kq_5_5, kq_5_6, kq_5_7, kq_6_0, kq_6_1, kq_6_2, kq_6_3, kq_6_4, kq_6_5, kq_6_6, kq_6_7, kq_7_0, kq_7_1, kq_7_2, kq_7_3, kq_7_4, kq_7_5, kq_7_6, kq_7_7, kn_0, kn_1, kn_2, kn_3, kn_4, kn_5, kn_6, kn_7, $xs,*] at $h:ident)
/-! ### the fewest exchanges, as the program finds them -/
def ixL (k : KL) : List KL → Option Nat
  | [] => none
  | j :: l => if j = k then some 0 else (ixL k l).map (· + 1)
/-- places from t + j - 1 down to t -/
def dnL (t : Nat) : Nat → List Nat
  | 0 => []
  | j + 1 => (t + j) :: dnL t j
def downN (q : Pb) (s : Su) (f t : Nat) : Nat → List KL → Option (List KL)
  | 0, l => some l
  | j + 1, l => (exN q s f l (t + j)).bind (downN q s f t j)
def exsN (q : Pb) (s : Su) (f : Nat) : Nat → List KL → List KL → Option (List Nat)
  | _, _, [] => some []
  | t, l, k :: r => match ixL k (l.drop t) with
    | none => none
    | some j => match downN q s f t j l with
      | none => none
      | some p => (exsN q s f (t + 1) p r).map (dnL t j ++ ·)
theorem ixL_lt {k : KL} : ∀ {l : List KL} {j : Nat}, ixL k l = some j → j < l.length
  | [], j, h => by cases h
  | x :: l, j, h => by
    unfold ixL at h
    split at h
    · cases h; simp
    · obtain ⟨i, h1, rfl⟩ := Option.map_eq_some_iff.mp h
      have := ixL_lt h1
      simp; omega
theorem ixL_has {k : KL} : ∀ {l : List KL}, (ixL k l).isSome = hasK l k
  | [] => rfl
  | x :: l => by
    have ih := ixL_has (k := k) (l := l)
    unfold ixL hasK
    by_cases h : x = k
    · simp [h]
    · rw [if_neg h, Option.isSome_map, ih]
      simp [h, hasK]
theorem ix_tD {k : KL} : ∀ l : List KL, indexD (tD k) (l.map tD) = ixL k l
  | [] => rfl
  | x :: l => by
    rw [List.map_cons, indexD, ixL, deq_tD, ix_tD l]
    by_cases h : x = k <;> simp [h]
theorem dnL_len (t : Nat) : ∀ j, (dnL t j).length = j
  | 0 => rfl
  | j + 1 => by rw [dnL, List.length_cons, dnL_len t j]
theorem dnL_rng (t : Nat) : ∀ j, (dnL t j).map nD = (List.range j).map fun (k : Nat) => D.int ((t : Int) + j - 1 - k)
  | 0 => rfl
  | j + 1 => by
    rw [dnL, List.map_cons, dnL_rng t j, List.range_succ_eq_map, List.map_cons, List.map_map]
    have e1 : nD (t + j) = D.int ((t : Int) + ((j + 1 : Nat) : Int) - 1 - ((0 : Nat) : Int)) := congrArg D.int (by push_cast; omega)
    rw [e1]
    congr 1
    refine List.map_congr_left fun k _ => ?_
    show D.int ((t : Int) + (j : Int) - 1 - (k : Int)) = D.int ((t : Int) + ((j + 1 : Nat) : Int) - 1 - ((k + 1 : Nat) : Int))
    exact congrArg D.int (by push_cast; omega)
theorem rng_dn (t j : Nat) (h : t + j ≤ 900000) : rngItems [.int ((t : Int) + j - 1), .int ((t : Int) - 1), .int (-1)] = some ((dnL t j).map nD) := by
  have hL : ((MP.LIM : Nat) : Int) = 1000000 := rfl
  rw [dnL_rng]
  simp only [rngItems, hL]
  rw [if_pos ⟨trivial, by omega, by omega, by omega, by omega⟩]
  have e : ((t : Int) + j - 1 - ((t : Int) - 1)).toNat = j := by omega
  rw [e]
theorem ixd2 {k : KL} {l : List KL} (h : okK k = true) (h2 : okL l) {t j : Nat} (hj : ixL k (l.drop t) = some j) : mthD .index2 (.tup true (l.map tD)) [tD k, .int (t : Int)] = some (nD (t + j)) := by
  have h3 : okDs 40 (l.map tD) = true := okDs_tD l h2
  simp only [mthD, plain_tD h, h3, Bool.and_self, if_true]
  rw [if_pos (by simp), Int.toNat_natCast, ← List.map_drop, ix_tD, hj]
  rfl
section
variable {n : Nat} {G : Gs} {q : Pb} {s : Su} {f : Nat}
theorem exI_nat {l : List KL} {i : Nat} : exI q s f l (i : Int) = exN q s f l i := by
  unfold exI
  rw [if_neg (by omega), Int.toNat_natCast]
theorem downN_perm : ∀ {j t : Nat} {l l' : List KL}, downN q s f t j l = some l' → l'.Perm l
  | 0, t, l, l', h => by cases h; exact List.Perm.refl _
  | j + 1, t, l, l', h => by
    unfold downN at h
    obtain ⟨m, h1, h2⟩ := Option.bind_eq_some_iff.mp h
    exact (downN_perm h2).trans (exN_perm h1)
def dwO (r : Option (List KL)) (env : Ev) (acc : List D) (G : Gs) : Out := match r with
  | none => .rt .non G
  | some l => .nx ((env.set 6 (.val (logD l))).set 7 (.own (.lst acc))) G
theorem down_loop {L M T E : D} (hq : GoodP q) (hs : GoodSu s) (hf : f ≤ 1000) (t : Nat) : ∀ (j : Nat) (l : List KL) (acc : List D), okL l → l.length ≤ 100000 → acc.length + j < 1000000 →
    forL (forB (callN Pr (n + 8)) (.nm 10 "place") d_exchanges_b1) [10] ((dnL t j).map nD) [.val (pbD q), .val (suD s), .val (nD f), .val L, .val M, .val (.tup true ((eventsL q s f).map evD)), .val (logD l), .own (.lst acc), .val T, .val E, .un] G = dwO (downN q s f t j l) [.val (pbD q), .val (suD s), .val (nD f), .val L, .val M, .val (.tup true ((eventsL q s f).map evD)), .val (logD l), .own (.lst acc), .val T, .val E, .un] (acc ++ (dnL t j).map nD) G
  | 0, l, acc, _, _, _ => by simp only [dnL, List.map_nil, List.append_nil]; rfl
  | j + 1, l, acc, h1, h2, h3 => by
    rw [dnL, List.map_cons, forL_cons]
    have e1 := exchanged_eq (n := n) (G := G) (i := ((t + j : Nat) : Int)) hq hs hf h1 h2
    rw [exI_nat] at e1
    unfold downN
    cases hx : exN q s f l (t + j) with
    | none =>
      rw [hx] at e1
      simp_arith [d_exchanges_b1, e1, lgO]
      rfl
    | some l' =>
      rw [hx] at e1
      have hp := exN_perm hx
      have ih := down_loop (L := L) (M := M) (T := T) (E := E) hq hs hf t j l' (acc ++ [nD (t + j)]) (okL_perm h1 hp) (by rw [hp.length_eq]; exact h2) (by simp; omega)
      have ha : acc.length < 1000000 := by omega
      have hb : forB (callN Pr (n + 8)) (.nm 10 "place") d_exchanges_b1 (nD (t + j)) [.val (pbD q), .val (suD s), .val (nD f), .val L, .val M, .val (.tup true ((eventsL q s f).map evD)), .val (logD l), .own (.lst acc), .val T, .val E, .un] G = .nx [.val (pbD q), .val (suD s), .val (nD f), .val L, .val M, .val (.tup true ((eventsL q s f).map evD)), .val (logD l'), .own (.lst (acc ++ [nD (t + j)])), .val T, .val E, .val (nD (t + j))] G := by
        simp_arith [d_exchanges_b1, e1, lgO, d_islog, app_d ha]
      rw [hb, foR_nx]
      refine Eq.trans (show _ = _ from ih) ?_
      rw [List.append_assoc]
      show _ = dwO (downN q s f t j l') _ _ G
      cases downN q s f t j l' <;> rfl
def xsO (r : Option (List Nat)) (env : Ev) (acc : List D) (l : D) (G : Gs) : Out := match r with
  | none => .rt .non G
  | some ps => .nx ((env.set 6 (.val l)).set 7 (.own (.lst (acc ++ ps.map nD)))) G
theorem exs_loop {L M : D} (N : Nat) (hN : N ≤ 900) (hq : GoodP q) (hs : GoodSu s) (hf : f ≤ 1000) : ∀ (m : List KL) (t : Nat) (l : List KL) (acc : List D), okL l → okL m → l.length = N → t + m.length = N → acc.length ≤ t * N → ∃ l' : D,
    forL (forB (callN Pr (n + 8)) (.tp [(8, "target"), (9, "event")]) d_exchanges_b0) [8, 9, 10] ((m.zipIdx t).map fun p => .tup false [nD p.2, tD p.1]) [.val (pbD q), .val (suD s), .val (nD f), .val L, .val M, .val (.tup true ((eventsL q s f).map evD)), .val (logD l), .own (.lst acc), .un, .un, .un] G = xsO (exsN q s f t l m) [.val (pbD q), .val (suD s), .val (nD f), .val L, .val M, .val (.tup true ((eventsL q s f).map evD)), .val (logD l), .own (.lst acc), .un, .un, .un] acc l' G
  | [], t, l, acc, _, _, _, _, _ => ⟨logD l, by simp only [exsN, xsO, List.map_nil, List.append_nil]; rfl⟩
  | k :: m, t, l, acc, h1, h2, h3, h4, h5 => by
    rw [List.zipIdx_cons, List.map_cons, forL_cons]
    have hk := h2 k (by simp)
    have hdr : okL (l.drop t) := fun x hx => h1 x (List.mem_of_mem_drop hx)
    have s1 : slcD (some (t : Int)) none (logD l) = some (.tup true ((l.drop t).map tD)) := by
      unfold logD
      rw [slc_t, cut_natE, List.map_drop]
    have n1 := nin_t (b := true) hk hdr
    rw [← ixL_has] at n1
    cases hj : ixL k (l.drop t) with
    | none =>
      have hx : exsN q s f t l (k :: m) = none := by unfold exsN; simp only [hj]
      rw [hx]
      rw [hj] at n1
      have n1 : cmpD .notin (tD k) (.tup true ((l.drop t).map tD)) = some true := n1
      refine ⟨.non, ?_⟩
      simp_arith [d_exchanges_b0, s1, n1]
      rfl
    | some j =>
      rw [hj] at n1
      have n1 : cmpD .notin (tD k) (.tup true ((l.drop t).map tD)) = some false := n1
      have hjl := ixL_lt hj
      rw [List.length_drop] at hjl
      have i1 : mthD .index2 (logD l) [tD k, .int (t : Int)] = some (nD (t + j)) := ixd2 hk h1 hj
      have m1 : mthS .index2 (logD l) = true := rfl
      have hr := rng_dn t j (by omega)
      have hr2 : rngItems [.int (((t + j : Nat) : Int) - 1), .int ((t : Int) - 1), .int (-1)] = some ((dnL t j).map nD) := by rw [Int.natCast_add]; exact hr
      have hacc : acc.length + j < 1000000 := by
        have : t * N ≤ 900 * 900 := Nat.mul_le_mul (by simp at h4; omega) hN
        omega
      have dl := down_loop (n := n) (G := G) (L := L) (M := M) (T := nD t) (E := tD k) hq hs hf t j l acc h1 (by omega) hacc
      cases hd : downN q s f t j l with
      | none =>
        rw [hd] at dl
        have hx : exsN q s f t l (k :: m) = none := by unfold exsN; simp only [hj, hd]
        rw [hx]
        refine ⟨.non, ?_⟩
        simp_arith [d_exchanges_b0, s1, n1, i1, m1, hr2]
        rw [show forL _ _ _ _ _ = _ from dl]
        rfl
      | some l2 =>
        rw [hd] at dl
        have hp := downN_perm hd
        obtain ⟨l', ih⟩ := exs_loop (L := L) (M := M) N hN hq hs hf m (t + 1) l2 (acc ++ (dnL t j).map nD) (okL_perm h1 hp) (fun x hx => h2 x (List.mem_cons_of_mem _ hx)) (by rw [hp.length_eq]; exact h3) (by simp at h4; omega) (by
          rw [List.length_append, List.length_map, dnL_len, Nat.add_mul]; omega)
        have hx : exsN q s f t l (k :: m) = (exsN q s f (t + 1) l2 m).map (dnL t j ++ ·) := by rw [exsN]; simp only [hj, hd]
        rw [hx]
        refine ⟨l', ?_⟩
        have hb : forB (callN Pr (n + 8)) (.tp [(8, "target"), (9, "event")]) d_exchanges_b0 (.tup false [nD t, tD k]) [.val (pbD q), .val (suD s), .val (nD f), .val L, .val M, .val (.tup true ((eventsL q s f).map evD)), .val (logD l), .own (.lst acc), .un, .un, .un] G = .nx [.val (pbD q), .val (suD s), .val (nD f), .val L, .val M, .val (.tup true ((eventsL q s f).map evD)), .val (logD l2), .own (.lst (acc ++ (dnL t j).map nD)), .val (nD t), .val (tD k), .un] G := by
          simp_arith [d_exchanges_b0, s1, n1, i1, m1, hr2]
          rw [show forL _ _ _ _ _ = _ from dl]
          rfl
        rw [hb, foR_nx]
        refine Eq.trans (show _ = _ from ih) ?_
        cases exsN q s f (t + 1) l2 m with
        | none => rfl
        | some ps => simp only [xsO, Option.map, List.map_append, List.append_assoc]; rfl
def xsD : Option (List Nat) → D
  | none => .non
  | some ps => .tup true (ps.map nD)
theorem exchanges_eq {l m : List KL} (hq : GoodP q) (hs : GoodSu s) (hf : f ≤ 1000) (hl : okL l) (hm : okL m) (hll : l.length ≤ 900) : callN Pr (n + 9) "exchanges" [pbD q, suD s, nD f, logD l, logD m] G = .ok (xsD (if l.length = m.length then exsN q s f 0 l m else none)) G := by
  rw [call_eq P_exchanges rfl]
  have e1 := events_eq (n := n + 3) (G := G) hq hs hf
  have p1 : primD .len1 [logD l] = some (nD l.length) := by unfold logD; rw [p_lent, List.length_map]
  have p2 : primD .len1 [logD m] = some (nD m.length) := by unfold logD; rw [p_lent, List.length_map]
  have en : enumOf (logD m) = some (m.map tD) := rfl
  have ez : enumItems (m.map tD) = (m.zipIdx 0).map fun p => .tup false [nD p.2, tD p.1] := enum_map tD m
  by_cases h : l.length = m.length
  · obtain ⟨l', lp⟩ := exs_loop (n := n) (G := G) (L := logD l) (M := logD m) l.length hll hq hs hf m 0 l [] hl hm rfl (by omega) (by simp)
    have hb : ((l.length : Int) == (m.length : Int)) = true := by rw [nbeq]; simpa using h
    rw [if_pos h]
    simp_arith [d_exchanges, p1, p2, hb, e1, en, ez]
    rw [show forL _ _ _ _ _ = _ from lp]
    cases exsN q s f 0 l m with
    | none => rfl
    | some ps => simp_arith [xsO, xsD]
  · have hb : ((l.length : Int) == (m.length : Int)) = false := by rw [nbeq]; simpa using h
    rw [if_neg h]
    simp_arith [d_exchanges, p1, p2, hb, xsD]
end
end CM

namespace CM
open PySem hiding exec execs start
open PySem.Spec PyProof.Rows L2 MP
local macro_rules
  | `(tactic| simp_arith [$xs,*]) => `(tactic| simp -implicitDefEqProofs (disch := first | omega | (simp only [List.length_append, List.length_map, List.length_range, List.length_range', List.length_nil, List.length_cons, List.length_singleton, List.length_zipIdx] <;> omega)) only [gv0, gvS, go0, goS, ev_var, ev_own, ev_non, ev_bl, ev_int, ev_str, ev_glb, ev_tup, ev_lst, ev_dK0, ev_dT0, ev_bin, ev_cat, ev_rep, negR_int, ev_neg, notR_bl, ev_not, blR_some, ev_cmp, chR_t, chR_f, ev_chn, ev_and, ev_or, bR_bl, anR_t, anR_f, anR_b, orR_t, orR_f, orR_b, and_one, and_more, or_one, or_more, ev_ife, ev_idx, ev_slc, ev_rev, calR_f, calR_ok, calR_ex, ev_call, ev_prim, ev_mth, ev_isi, ev_srtset, ev_lrng, ev_comp, ev_newc, evs_nil, evs_cons, inR_int, evo_no, evo_so, evI_seq, evI_rng, evI_enum, tv_not, tv_and, tv_or, tv_var, tv_own, tv_non, tv_bl, tv_int, tv_cmp, tv_chn, tv_call, tv_prim, tv_isi, tv_idx, tv_mth, tv_ife, tv_comp, tv_slc, tv_bin, tand_one, tand_more, tor_one, tor_more, b_ok, b_ex, l_some, s_ok, s_ex, q_nx, q_rt, q_bk, q_ct, q_ex, n_some, f_nx, f_rt, f_ex, fr_f, fr_t, fr_k, x_asg, x_asgF, x_frz, onL0, onLS, x_app, x_ext, x_ex, x_ret, x_retN, x_cont, x_brk, x_rais, x_ite, x_for, x_whl, xs_nil, xs_cons, forB_nm, setTg_nm, setTg_tp, setTp_nil, setTp_cons, sl0, slS, w_nil, w_cons, ow0, owS, ob, om, st_e, frR_some, frz_eq, x_setg, x_seti, oc0, ocS, x_appPop, ol0, olS, fl_int, fls_nil, fls_cons, t_bl, t_int, t_non, t_lst, d_add, d_sub, d_mul, d_fdiv, d_mod, d_lt, d_le, d_gt, d_ge, d_eqi, d_nei, p_len, p_lent, p_lens, p_int, p_abs, p_tup, p_tupt, p_list, p_listt, p_min2, p_max2, ix_l, ix_t, ix_s, app_d, ext_l, ext_t, bo_ok (t_bl), bo_ok (t_int), bo_ok (t_lst), notR_of (t_lst), os_eq, Es.hasOwn, List.map_cons, List.map_nil, List.length_cons, List.length_nil, List.replicate_succ, List.replicate_zero, List.cons_append, List.nil_append, Nat.reduceSub, Nat.reduceAdd, Nat.sub_self, reduceIte, Bool.not_true, Bool.not_false, Bool.false_eq_true, Bool.and_self, Bool.and_true, Bool.true_and, Nat.reduceBEq, Nat.reduceEqDiff, cF_no, cF_so, cF2_no, cF2_so, cF3_no, cF3_so, cR_b, q_nil, q_nil2, forB_tp2, forB_tp3, ty_bool_non, ty_bool_bl, ty_bool_int, ty_bool_str, ty_bool_tup, ty_bool_lst, ty_int_non, ty_int_bl, ty_int_int, ty_int_str, ty_int_tup, ty_int_lst, ty_str_non, ty_str_bl, ty_str_int, ty_str_str, ty_str_tup, ty_str_lst, ty_tuple_non, ty_tuple_bl, ty_tuple_int, ty_tuple_str, ty_tuple_tup, ty_tuple_lst, ty_list_non, ty_list_bl, ty_list_int, ty_list_str, ty_list_tup, ty_list_lst, d_eqb, d_isn, d_isi, d_isb, d_iss, d_ist, d_isl, d_insn, d_insi, d_inst, d_insl, p_int_b, t_tup, compL_nil, compL_cons, cC_some, cC_none, cK_ok, cN_ok, forL_nil, forL_cons, foR_nx, foR_ct, foR_bk, foR_rt, foR_ex, seq_l, seq_t, enu_l, enu_t, ev_dcomp, dcF_nm, evI_items, agS_int, x_augi, x_ins, x_asgPop, setTg_tpl, forB_tp2l, forB_tp3l, d_isbb, d_insbb, d_isdK, p_lendK, p_lendT, ty_bool_dK, ty_int_dK, ty_str_dK, ty_tuple_dK, ty_list_dK, ms_i1, ms_i2, ms_g2, ms_g1, $xs,*])
local macro_rules
  | `(tactic| simp_arith [$xs,*] at $h:ident) => `(tactic| simp -implicitDefEqProofs (disch := first | omega | (simp only [List.length_append, List.length_map, List.length_range, List.length_range', List.length_nil, List.length_cons, List.length_singleton, List.length_zipIdx] <;> omega)) only [gv0, gvS, go0, goS, ev_var, ev_own, ev_non, ev_bl, ev_int, ev_str, ev_glb, ev_tup, ev_lst, ev_dK0, ev_dT0, ev_bin, ev_cat, ev_rep, negR_int, ev_neg, notR_bl, ev_not, blR_some, ev_cmp, chR_t, chR_f, ev_chn, ev_and, ev_or, bR_bl, anR_t, anR_f, anR_b, orR_t, orR_f, orR_b, and_one, and_more, or_one, or_more, ev_ife, ev_idx, ev_slc, ev_rev, calR_f, calR_ok, calR_ex, ev_call, ev_prim, ev_mth, ev_isi, ev_srtset, ev_lrng, ev_comp, ev_newc, evs_nil, evs_cons, inR_int, evo_no, evo_so, evI_seq, evI_rng, evI_enum, tv_not, tv_and, tv_or, tv_var, tv_own, tv_non, tv_bl, tv_int, tv_cmp, tv_chn, tv_call, tv_prim, tv_isi, tv_idx, tv_mth, tv_ife, tv_comp, tv_slc, tv_bin, tand_one, tand_more, tor_one, tor_more, b_ok, b_ex, l_some, s_ok, s_ex, q_nx, q_rt, q_bk, q_ct, q_ex, n_some, f_nx, f_rt, f_ex, fr_f, fr_t, fr_k, x_asg, x_asgF, x_frz, onL0, onLS, x_app, x_ext, x_ex, x_ret, x_retN, x_cont, x_brk, x_rais, x_ite, x_for, x_whl, xs_nil, xs_cons, forB_nm, setTg_nm, setTg_tp, setTp_nil, setTp_cons, sl0, slS, w_nil, w_cons, ow0, owS, ob, om, st_e, frR_some, frz_eq, x_setg, x_seti, oc0, ocS, x_appPop, ol0, olS, fl_int, fls_nil, fls_cons, t_bl, t_int, t_non, t_lst, d_add, d_sub, d_mul, d_fdiv, d_mod, d_lt, d_le, d_gt, d_ge, d_eqi, d_nei, p_len, p_lent, p_lens, p_int, p_abs, p_tup, p_tupt, p_list, p_listt, p_min2, p_max2, ix_l, ix_t, ix_s, app_d, ext_l, ext_t, bo_ok (t_bl), bo_ok (t_int), bo_ok (t_lst), notR_of (t_lst), os_eq, Es.hasOwn, List.map_cons, List.map_nil, List.length_cons, List.length_nil, List.replicate_succ, List.replicate_zero, List.cons_append, List.nil_append, Nat.reduceSub, Nat.reduceAdd, Nat.sub_self, reduceIte, Bool.not_true, Bool.not_false, Bool.false_eq_true, Bool.and_self, Bool.and_true, Bool.true_and, Nat.reduceBEq, Nat.reduceEqDiff, cF_no, cF_so, cF2_no, cF2_so, cF3_no, cF3_so, cR_b, q_nil, q_nil2, forB_tp2, forB_tp3, ty_bool_non, ty_bool_bl, ty_bool_int, ty_bool_str, ty_bool_tup, ty_bool_lst, ty_int_non, ty_int_bl, ty_int_int, ty_int_str, ty_int_tup, ty_int_lst, ty_str_non, ty_str_bl, ty_str_int, ty_str_str, ty_str_tup, ty_str_lst, ty_tuple_non, ty_tuple_bl, ty_tuple_int, ty_tuple_str, ty_tuple_tup, ty_tuple_lst, ty_list_non, ty_list_bl, ty_list_int, ty_list_str, ty_list_tup, ty_list_lst, d_eqb, d_isn, d_isi, d_isb, d_iss, d_ist, d_isl, d_insn, d_insi, d_inst, d_insl, p_int_b, t_tup, compL_nil, compL_cons, cC_some, cC_none, cK_ok, cN_ok, forL_nil, forL_cons, foR_nx, foR_ct, foR_bk, foR_rt, foR_ex, seq_l, seq_t, enu_l, enu_t, ev_dcomp, dcF_nm, evI_items, agS_int, x_augi, x_ins, x_asgPop, setTg_tpl, forB_tp2l, forB_tp3l, d_isbb, d_insbb, d_isdK, p_lendK, p_lendT, ty_bool_dK, ty_int_dK, ty_str_dK, ty_tuple_dK, ty_list_dK, ms_i1, ms_i2, ms_g2, ms_g1, $xs,*] at $h:ident)
/-! ### the law's own comparison -/
inductive Sim : Nat → D → D → Prop where
  | non {n : Nat} : Sim n .non .non
  | bl {n : Nat} (b : Bool) : Sim n (.bl b) (.bl b)
  | int {n : Nat} (i : Int) : Sim n (.int i) (.int i)
  | str {n : Nat} (s : Str) (h : PyData.strOk s = true) : Sim n (.str s) (.str s)
  | tup {n : Nat} {ds es : List D} (k l : Bool) (hl : ds.length = es.length) (hn : es.length ≤ 100000) (h : ∀ (i : Nat) (d e : D), ds[i]? = some d → es[i]? = some e → Sim n d e) : Sim (n + 1) (.tup k ds) (.tup l es)
  | lst {n : Nat} {ds es : List D} (hl : ds.length = es.length) (hn : es.length ≤ 100000) (h : ∀ (i : Nat) (d e : D), ds[i]? = some d → es[i]? = some e → Sim n d e) : Sim (n + 1) (.lst ds) (.lst es)
section
variable {G : Gs}
theorem d_str {a b : Str} (ha : PyData.strOk a = true) (hb : PyData.strOk b = true) : cmpD .eq (.str a) (.str b) = some (a == b) := by
  simp only [cmpD, MP.plain, okD, ha, hb, Bool.and_self, if_true]
  rfl
theorem same_eq : ∀ {n : Nat} {d e : D} (m : Nat), Sim n d e → callN Pr (m + n + 1) "_law_same" [d, e] G = .ok (.bl true) G := by
  intro n d e m h
  induction h generalizing m with
  | non => rw [call_eq P_law_same rfl]; simp_arith [d_law_same]
  | bl b =>
    rw [call_eq P_law_same rfl]; simp_arith [d_law_same, beq_self_eq_true]
  | int i => rw [call_eq P_law_same rfl]; simp_arith [d_law_same, beq_self_eq_true]
  | str s h => rw [call_eq P_law_same rfl]; simp_arith [d_law_same, d_str h h, beq_self_eq_true]
  | @tup n ds es k l hl hn h ih =>
    rw [call_eq P_law_same rfl]
    have he : ((es.length : Int) == (es.length : Int)) = true := beq_self_eq_true _
    simp_arith [d_law_same, hl, he, rngN es.length (by omega)]
    rw [for_same _ (List.range es.length)]
    · simp_arith []
    · intro i hi
      have hi : i < es.length := by simpa using hi
      have i1 : atI ds (i : Int) = some ds[i] := by rw [atI_nat, List.getElem?_eq_getElem]
      have i2 : atI es (i : Int) = some es[i] := by rw [atI_nat, List.getElem?_eq_getElem]
      have e1 := ih i ds[i] es[i] (by rw [List.getElem?_eq_getElem]) (by rw [List.getElem?_eq_getElem]) m
      have e1 : callN Pr (m + (n + 1)) "_law_same" [ds[i], es[i]] G = .ok (.bl true) G := e1
      simp_arith [d_law_same_b0, i1, i2, e1]
      exact nx_nx ⟨rfl, rfl⟩
  | @lst n ds es hl hn h ih =>
    rw [call_eq P_law_same rfl]
    have he : ((es.length : Int) == (es.length : Int)) = true := beq_self_eq_true _
    simp_arith [d_law_same, hl, he, rngN es.length (by omega)]
    rw [for_same _ (List.range es.length)]
    · simp_arith []
    · intro i hi
      have hi : i < es.length := by simpa using hi
      have i1 : atI ds (i : Int) = some ds[i] := by rw [atI_nat, List.getElem?_eq_getElem]
      have i2 : atI es (i : Int) = some es[i] := by rw [atI_nat, List.getElem?_eq_getElem]
      have e1 := ih i ds[i] es[i] (by rw [List.getElem?_eq_getElem]) (by rw [List.getElem?_eq_getElem]) m
      have e1 : callN Pr (m + (n + 1)) "_law_same" [ds[i], es[i]] G = .ok (.bl true) G := e1
      simp_arith [d_law_same_b0, i1, i2, e1]
      exact nx_nx ⟨rfl, rfl⟩
theorem Sim.map {α : Type} {n : Nat} {k l : Bool} (f g : α → D) (xs : List α) (hn : xs.length ≤ 100000) (h : ∀ x ∈ xs, Sim n (f x) (g x)) : Sim (n + 1) (.tup k (xs.map f)) (.tup l (xs.map g)) :=
  .tup k l (by simp) (by simpa using hn) fun i d e h1 h2 => by
    rw [List.getElem?_map] at h1 h2
    cases q : xs[i]? with
    | none => rw [q] at h1; cases h1
    | some x =>
      rw [q] at h1 h2
      cases h1; cases h2
      exact h x (List.mem_of_getElem? q)
inductive Sims (n : Nat) : List D → List D → Prop where
  | nil : Sims n [] []
  | cons {d e : D} {ds es : List D} (h : Sim n d e) (t : Sims n ds es) : Sims n (d :: ds) (e :: es)
theorem Sims.len {n : Nat} {ds es : List D} (h : Sims n ds es) : ds.length = es.length := by
  induction h with
  | nil => rfl
  | cons _ _ ih => simp [ih]
theorem Sims.get {n : Nat} {ds es : List D} (h : Sims n ds es) : ∀ (i : Nat) (d e : D), ds[i]? = some d → es[i]? = some e → Sim n d e := by
  induction h with
  | nil => intro i d e h1; simp at h1
  | cons a t ih =>
    intro i d e h1 h2
    rcases i with _ | i
    · cases h1; cases h2; exact a
    · exact ih i d e h1 h2
theorem Sim.tp {n : Nat} {k l : Bool} {ds es : List D} (h : Sims n ds es) (hl : es.length ≤ 100000) : Sim (n + 1) (.tup k ds) (.tup l es) := .tup k l h.len hl h.get
theorem Sim.ls {n : Nat} {ds es : List D} (h : Sims n ds es) (hl : es.length ≤ 100000) : Sim (n + 1) (.lst ds) (.lst es) := .lst h.len hl h.get
theorem Sim.nats {n : Nat} {k l : Bool} (xs : List Nat) (hn : xs.length ≤ 100000) : Sim (n + 1) (.tup k (xs.map nD)) (.tup l (xs.map nD)) := Sim.map _ _ xs hn fun _ _ => .int _
end
end CM

namespace CM
open PySem hiding exec execs start
open PySem.Spec PyProof.Rows L2 MP
local macro_rules
  | `(tactic| simp_arith [$xs,*]) => `(tactic| simp -implicitDefEqProofs (disch := first | omega | (simp only [List.length_append, List.length_map, List.length_range, List.length_range', List.length_nil, List.length_cons, List.length_singleton, List.length_zipIdx] <;> omega)) only [gv0, gvS, go0, goS, ev_var, ev_own, ev_non, ev_bl, ev_int, ev_str, ev_glb, ev_tup, ev_lst, ev_dK0, ev_dT0, ev_bin, ev_cat, ev_rep, negR_int, ev_neg, notR_bl, ev_not, blR_some, ev_cmp, chR_t, chR_f, ev_chn, ev_and, ev_or, bR_bl, anR_t, anR_f, anR_b, orR_t, orR_f, orR_b, and_one, and_more, or_one, or_more, ev_ife, ev_idx, ev_slc, ev_rev, calR_f, calR_ok, calR_ex, ev_call, ev_prim, ev_mth, ev_isi, ev_srtset, ev_lrng, ev_comp, ev_newc, evs_nil, evs_cons, inR_int, evo_no, evo_so, evI_seq, evI_rng, evI_enum, tv_not, tv_and, tv_or, tv_var, tv_own, tv_non, tv_bl, tv_int, tv_cmp, tv_chn, tv_call, tv_prim, tv_isi, tv_idx, tv_mth, tv_ife, tv_comp, tv_slc, tv_bin, tand_one, tand_more, tor_one, tor_more, b_ok, b_ex, l_some, s_ok, s_ex, q_nx, q_rt, q_bk, q_ct, q_ex, n_some, f_nx, f_rt, f_ex, fr_f, fr_t, fr_k, x_asg, x_asgF, x_frz, onL0, onLS, x_app, x_ext, x_ex, x_ret, x_retN, x_cont, x_brk, x_rais, x_ite, x_for, x_whl, xs_nil, xs_cons, forB_nm, setTg_nm, setTg_tp, setTp_nil, setTp_cons, sl0, slS, w_nil, w_cons, ow0, owS, ob, om, st_e, frR_some, frz_eq, x_setg, x_seti, oc0, ocS, x_appPop, ol0, olS, fl_int, fls_nil, fls_cons, t_bl, t_int, t_non, t_lst, d_add, d_sub, d_mul, d_fdiv, d_mod, d_lt, d_le, d_gt, d_ge, d_eqi, d_nei, p_len, p_lent, p_lens, p_int, p_abs, p_tup, p_tupt, p_list, p_listt, p_min2, p_max2, ix_l, ix_t, ix_s, app_d, ext_l, ext_t, bo_ok (t_bl), bo_ok (t_int), bo_ok (t_lst), notR_of (t_lst), os_eq, Es.hasOwn, List.map_cons, List.map_nil, List.length_cons, List.length_nil, List.replicate_succ, List.replicate_zero, List.cons_append, List.nil_append, Nat.reduceSub, Nat.reduceAdd, Nat.sub_self, reduceIte, Bool.not_true, Bool.not_false, Bool.false_eq_true, Bool.and_self, Bool.and_true, Bool.true_and, Nat.reduceBEq, Nat.reduceEqDiff, cF_no, cF_so, cF2_no, cF2_so, cF3_no, cF3_so, cR_b, q_nil, q_nil2, forB_tp2, forB_tp3, ty_bool_non, ty_bool_bl, ty_bool_int, ty_bool_str, ty_bool_tup, ty_bool_lst, ty_int_non, ty_int_bl, ty_int_int, ty_int_str, ty_int_tup, ty_int_lst, ty_str_non, ty_str_bl, ty_str_int, ty_str_str, ty_str_tup, ty_str_lst, ty_tuple_non, ty_tuple_bl, ty_tuple_int, ty_tuple_str, ty_tuple_tup, ty_tuple_lst, ty_list_non, ty_list_bl, ty_list_int, ty_list_str, ty_list_tup, ty_list_lst, d_eqb, d_isn, d_isi, d_isb, d_iss, d_ist, d_isl, d_insn, d_insi, d_inst, d_insl, p_int_b, t_tup, compL_nil, compL_cons, cC_some, cC_none, cK_ok, cN_ok, forL_nil, forL_cons, foR_nx, foR_ct, foR_bk, foR_rt, foR_ex, seq_l, seq_t, enu_l, enu_t, ev_dcomp, dcF_nm, evI_items, agS_int, x_augi, x_ins, x_asgPop, setTg_tpl, forB_tp2l, forB_tp3l, d_isbb, d_insbb, d_isdK, p_lendK, p_lendT, ty_bool_dK, ty_int_dK, ty_str_dK, ty_tuple_dK, ty_list_dK, ms_i1, ms_i2, ms_g2, ms_g1, calR_n, calR_in, calR_bl, ix_pb0, ix_pb1, ix_pb2, ix_pb3, ix_su0, ix_su1, ix_su2, kq_0_0, kq_0_1, kq_0_2, kq_0_3, kq_0_4, kq_0_5, kq_0_6, kq_0_7, kq_1_0, kq_1_1, kq_1_2, kq_1_3, kq_1_4, kq_1_5, kq_1_6, kq_1_7, kq_2_0, kq_2_1, kq_2_2, kq_2_3, kq_2_4, kq_2_5, kq_2_6, kq_2_7, kq_3_0, kq_3_1, kq_3_2, kq_3_3, kq_3_4, kq_3_5, kq_3_6, kq_3_7, kq_4_0, kq_4_1, kq_4_2, kq_4_3, kq_4_4, kq_4_5, kq_4_6, kq_4_7, kq_5_0, kq_5_1, kq_5_2, kq_5_3, kq_5_4, kq_5_5, kq_5_6, kq_5_7, kq_6_0, kq_6_1, kq_6_2, kq_6_3, kq_6_4, kq_6_5, kq_6_6, kq_6_7, kq_7_0, kq_7_1, kq_7_2, kq_7_3, kq_7_4, kq_7_5, kq_7_6, kq_7_7, kn_0, kn_1, kn_2, kn_3, kn_4, kn_5, kn_6, kn_7, $xs,*])
local macro_rules
  | `(tactic| simp_arith [$xs,*] at $h:ident) => `(tactic| simp -implicitDefEqProofs (disch := first | omega | (simp only [List.length_append, List.length_map, List.length_range, List.length_range', List.length_nil, List.length_cons, List.length_singleton, List.length_zipIdx] <;> omega)) only [gv0, gvS, go0, goS, ev_var, ev_own, ev_non, ev_bl, ev_int, ev_str, ev_glb, ev_tup, ev_lst, ev_dK0, ev_dT0, ev_bin, ev_cat, ev_rep, negR_int, ev_neg, notR_bl, ev_not, blR_some, ev_cmp, chR_t, chR_f, ev_chn, ev_and, ev_or, bR_bl, anR_t, anR_f, anR_b, orR_t, orR_f, orR_b, and_one, and_more, or_one, or_more, ev_ife, ev_idx, ev_slc, ev_rev, calR_f, calR_ok, calR_ex, ev_call, ev_prim, ev_mth, ev_isi, ev_srtset, ev_lrng, ev_comp, ev_newc, evs_nil, evs_cons, inR_int, evo_no, evo_so, evI_seq, evI_rng, evI_enum, tv_not, tv_and, tv_or, tv_var, tv_own, tv_non, tv_bl, tv_int, tv_cmp, tv_chn, tv_call, tv_prim, tv_isi, tv_idx, tv_mth, tv_ife, tv_comp, tv_slc, tv_bin, tand_one, tand_more, tor_one, tor_more, b_ok, b_ex, l_some, s_ok, s_ex, q_nx, q_rt, q_bk, q_ct, q_ex, n_some, f_nx, f_rt, f_ex, fr_f, fr_t, fr_k, x_asg, x_asgF, x_frz, onL0, onLS, x_app, x_ext, x_ex, x_ret, x_retN, x_cont, x_brk, x_rais, x_ite, x_for, x_whl, xs_nil, xs_cons, forB_nm, setTg_nm, setTg_tp, setTp_nil, setTp_cons, sl0, slS, w_nil, w_cons, ow0, owS, ob, om, st_e, frR_some, frz_eq, x_setg, x_seti, oc0, ocS, x_appPop, ol0, olS, fl_int, fls_nil, fls_cons, t_bl, t_int, t_non, t_lst, d_add, d_sub, d_mul, d_fdiv, d_mod, d_lt, d_le, d_gt, d_ge, d_eqi, d_nei, p_len, p_lent, p_lens, p_int, p_abs, p_tup, p_tupt, p_list, p_listt, p_min2, p_max2, ix_l, ix_t, ix_s, app_d, ext_l, ext_t, bo_ok (t_bl), bo_ok (t_int), bo_ok (t_lst), notR_of (t_lst), os_eq, Es.hasOwn, List.map_cons, List.map_nil, List.length_cons, List.length_nil, List.replicate_succ, List.replicate_zero, List.cons_append, List.nil_append, Nat.reduceSub, Nat.reduceAdd, Nat.sub_self, reduceIte, Bool.not_true, Bool.not_false, Bool.false_eq_true, Bool.and_self, Bool.and_true, Bool.true_and, Nat.reduceBEq, Nat.reduceEqDiff, cF_no, cF_so, cF2_no, cF2_so, cF3_no, cF3_so, cR_b, q_nil, q_nil2, forB_tp2, forB_tp3, ty_bool_non, ty_bool_bl, ty_bool_int, ty_bool_str, ty_bool_tup, ty_bool_lst, ty_int_non, ty_int_bl, ty_int_int, ty_int_str, ty_int_tup, ty_int_lst, ty_str_non, ty_str_bl, ty_str_int, ty_str_str, ty_str_tup, ty_str_lst, ty_tuple_non, ty_tuple_bl, ty_tuple_int, ty_tuple_str, ty_tuple_tup, ty_tuple_lst, ty_list_non, ty_list_bl, ty_list_int, ty_list_str, ty_list_tup, ty_list_lst, d_eqb, d_isn, d_isi, d_isb, d_iss, d_ist, d_isl, d_insn, d_insi, d_inst, d_insl, p_int_b, t_tup, compL_nil, compL_cons, cC_some, cC_none, cK_ok, cN_ok, forL_nil, forL_cons, foR_nx, foR_ct, foR_bk, foR_rt, foR_ex, seq_l, seq_t, enu_l, enu_t, ev_dcomp, dcF_nm, evI_items, agS_int, x_augi, x_ins, x_asgPop, setTg_tpl, forB_tp2l, forB_tp3l, d_isbb, d_insbb, d_isdK, p_lendK, p_lendT, ty_bool_dK, ty_int_dK, ty_str_dK, ty_tuple_dK, ty_list_dK, ms_i1, ms_i2, ms_g2, ms_g1, calR_n, calR_in, calR_bl, ix_pb0, ix_pb1, ix_pb2, ix_pb3, ix_su0, ix_su1, ix_su2, kq_0_0, kq_0_1, kq_0_2, kq_0_3, kq_0_4, kq_0_5, kq_0_6, kq_0_7, kq_1_0, kq_1_1, kq_1_2, kq_1_3, kq_1_4, kq_1_5, kq_1_6, kq_1_7, kq_2_0, kq_2_1, kq_2_2, kq_2_3, kq_2_4, kq_2_5, kq_2_6, kq_2_7, kq_3_0, kq_3_1, kq_3_2, kq_3_3, kq_3_4, kq_3_5, kq_3_6, kq_3_7, kq_4_0, kq_4_1, kq_4_2, kq_4_3, kq_4_4, kq_4_5, kq_4_6, kq_4_7, kq_5_0, kq_5_1, kq_5_2, kq_5_3, kq_5_4, kq_5_5, kq_5_6, kq_5_7, kq_6_0, kq_6_1, kq_6_2, kq_6_3, kq_6_4, kq_6_5, kq_6_6, kq_6_7, kq_7_0, kq_7_1, kq_7_2, kq_7_3, kq_7_4, kq_7_5, kq_7_6, kq_7_7, kn_0, kn_1, kn_2, kn_3, kn_4, kn_5, kn_6, kn_7, $xs,*] at $h:ident)
theorem log_ev (l : List Evt) : logD (l.map evK) = .tup true (l.map evD) := by unfold logD; rw [evs_tD]
theorem slc_ev {b : Bool} (l : List Evt) (lo hi : Option Int) : ∃ l' : List Evt, (∀ e ∈ l', e ∈ l) ∧ l'.length ≤ l.length ∧ slcD lo hi (.lst (l.map evD)) = some (.lst (l'.map evD)) := by
  refine ⟨(l.drop (HT.sIx (l.map evD).length 0 lo)).take (HT.sIx (l.map evD).length (l.map evD).length hi - HT.sIx (l.map evD).length 0 lo), fun k hk => List.mem_of_mem_drop (List.mem_of_mem_take hk), ?_, ?_⟩
  · rw [List.length_take, List.length_drop]; omega
  · simp only [slcD, MP.cutD, List.map_take, List.map_drop]
def prE (p : Evt × Evt) : D := .tup true [evD p.1, evD p.2]
section
variable {n : Nat} {G : Gs} {q : Pb} {s : Su} {f : Nat}
theorem ev_pair {a b : Evt} (ha : a ∈ eventsL q s f) (hb : b ∈ eventsL q s f) (hne : a ≠ b) : exsN q s f 0 [evK a, evK b] [evK b, evK a] = if freeE q s f a b = true then some [0] else none := by
  have h1 : evK a ≠ evK b := fun h => hne (evK_inj h)
  have x1 : ixL (evK b) [evK a, evK b] = some 1 := by simp [ixL, h1]
  have x2 : ixL (evK a) [evK a] = some 0 := by simp [ixL]
  have x3 : exN q s f [evK a, evK b] 0 = if freeE q s f a b = true then some [evK b, evK a] else none := by
    rw [← free_ev ha hb]; exact exN_mid [] [] _ _
  unfold exsN
  simp only [List.drop_zero, x1, downN, Nat.zero_add, x3]
  cases freeE q s f a b with
  | false => rfl
  | true =>
    simp only [if_true, Option.bind]
    unfold exsN
    simp only [List.drop_succ_cons, List.drop_zero, x2, downN]
    rfl
theorem law_pair_eq {a b : Evt} {ar : List Evt} (hq : GoodP q) (hs : GoodSu s) (hf : f ≤ 1000) (ha : a ∈ eventsL q s f) (hb : b ∈ eventsL q s f) (hr : ar.length ≤ 50000) : callN Pr (n + 10) "_law_pair_holds" [runD q s f, knD q s f (eventsL q s f), evD a, evD b, .tup true (ar.map evD)] G = .ok (.bl true) G := by
  rw [call_eq P_law_pair_holds rfl]
  have f1 := law_free_eq (n := n + 8) (G := G) hs ha hb
  have sb : ∀ b : Bool, callN Pr (n + 9) "_law_same" [.bl b, .bl b] G = .ok (.bl true) G := fun b => same_eq (n := 0) (n + 8) (.bl _)
  have sn : callN Pr (n + 9) "_law_same" [.non, .non] G = .ok (.bl true) G := same_eq (n := 0) (n + 8) .non
  have st : callN Pr (n + 9) "_law_same" [.tup true [.int 0], .tup true [.int 0]] G = .ok (.bl true) G := same_eq (n := 1) (n + 7) (Sim.tp (.cons (.int _) .nil) (by simp))
  have a1 : binD .add (.tup true (ar.map evD)) (.tup true [evD a, evD b]) = some (.tup true (ar.map evD ++ [evD a, evD b])) := add_tt (by rw [List.length_map]; simp; omega)
  have a2 : binD .add (.tup true [evD a, evD b]) (.tup true (ar.map evD)) = some (.tup true ([evD a, evD b] ++ ar.map evD)) := add_tt (by rw [List.length_map]; simp; omega)
  have okr : ∀ l : List Evt, okL (l.map evK) := fun l => ok_evs l
  have step : ∀ p r : List Evt, p.length + r.length ≤ 50000 → nx (forB (callN Pr (n + 9)) (.tp [(6, "_law_log"), (7, "_law_place")]) d_law_pair_holds_b0 (.tup true [logD ((p ++ a :: b :: r).map evK), nD p.length]) [.val (runD q s f), .val (knD q s f (eventsL q s f)), .val (evD a), .val (evD b), .val (.tup true (ar.map evD)), .val (.bl (freeE q s f a b)), .un, .un, .un, .un] G) fun env1 G1 => G1 = G ∧ wipeE env1 [6, 7, 8] = [.val (runD q s f), .val (knD q s f (eventsL q s f)), .val (evD a), .val (evD b), .val (.tup true (ar.map evD)), .val (.bl (freeE q s f a b)), .un, .un, .un, .un] := by
    intro p r hpr
    have l1 : logD ((p ++ a :: b :: r).map evK) = .tup true (p.map evD ++ evD a :: evD b :: r.map evD) := by rw [log_ev]; simp
    have l2 : logD ((p ++ b :: a :: r).map evK) = .tup true (p.map evD ++ evD b :: evD a :: r.map evD) := by rw [log_ev]; simp
    have s1 : slcD none (some (p.length : Int)) (.tup true (p.map evD ++ evD a :: evD b :: r.map evD)) = some (.tup true (p.map evD)) := by
      rw [slc_t, cut_nat0, List.take_left' (by simp)]
    have s2 : slcD (some ((p.length : Int) + 2)) none (.tup true (p.map evD ++ evD a :: evD b :: r.map evD)) = some (.tup true (r.map evD)) := by
      rw [slc_t, show ((p.length : Int) + 2) = ((p.length + 2 : Nat) : Int) by omega, cut_natE, ← List.drop_drop, List.drop_left' (by simp)]; rfl
    have i1 : atI (p.map evD ++ evD a :: evD b :: r.map evD) (p.length : Int) = some (evD a) := by
      rw [atI_nat, List.getElem?_append_right (by simp)]; simp
    have i2 : atI (p.map evD ++ evD a :: evD b :: r.map evD) ((p.length : Int) + 1) = some (evD b) := by
      rw [show ((p.length : Int) + 1) = ((p.length + 1 : Nat) : Int) by omega, atI_nat, List.getElem?_append_right (by simp)]; simp
    have b1 : binD .add (.tup true (p.map evD)) (.tup true [evD b, evD a]) = some (.tup true (p.map evD ++ [evD b, evD a])) := add_tt (by rw [List.length_map]; simp; omega)
    have b2 : binD .add (.tup true (p.map evD ++ [evD b, evD a])) (.tup true (r.map evD)) = some (logD ((p ++ b :: a :: r).map evK)) := by
      rw [add_tt (by simp; omega), l2]; simp
    have hp : ∀ d ∈ [nD p.length], okPl d := fun d hd => by rw [List.mem_singleton.mp hd]; exact .inr ⟨_, rfl⟩
    have j1 := judge_eq (n := n) (G := G) (b := true) hq hs hf (okr (p ++ a :: b :: r)) (okr (p ++ b :: a :: r)) (by simp; omega) hp
    have j2 := judge_eq (n := n) (G := G) (b := true) hq hs hf (okr (p ++ b :: a :: r)) (okr (p ++ a :: b :: r)) (by simp; omega) hp
    have jd : ∀ x y : Evt, x ∈ eventsL q s f → y ∈ eventsL q s f → decide (jdg q s f ((p ++ x :: y :: r).map evK) [nD p.length] = some ((p ++ y :: x :: r).map evK)) = freeE q s f x y := fun x y hx hy => by
      have := exN_mid (q := q) (s := s) (f := f) (p.map evK) (r.map evK) (evK x) (evK y)
      rw [List.length_map, free_ev hx hy] at this
      simp only [jdg, plI, exI_nat, List.map_append, List.map_cons, this]
      cases freeE q s f x y <;> simp [jdg]
    rw [jd a b ha hb] at j1
    rw [jd b a hb ha, free_comm] at j2
    rw [l1] at j1 j2 ⊢
    simp_arith [d_law_pair_holds_b0, s1, s2, i1, i2, b1, b2, ix_r0, ix_r1, ix_r2, j1, j2, sb]
    exact nx_nx ⟨rfl, rfl⟩
  obtain ⟨v1, H1, x1, hH1, w1⟩ := nx_inv (step [] [] (by simp))
  obtain ⟨v2, H2, x2, hH2, w2⟩ := nx_inv (step ar [] (by simp; omega))
  obtain ⟨v3, H3, x3, hH3, w3⟩ := nx_inv (step [] ar (by simp; omega))
  rw [hH1] at x1; rw [hH2] at x2; rw [hH3] at x3
  have z : nD ([] : List Evt).length = .int 0 := rfl
  rw [log_ev, z] at x1
  simp_arith [List.map_append] at x1
  simp_arith [] at w1
  rw [log_ev] at x2
  simp_arith [List.map_append] at x2
  simp_arith [] at w2
  rw [log_ev, z] at x3
  simp_arith [List.map_append] at x3
  simp_arith [] at w3
  have eq1 : cmpD .eq (evD a) (evD b) = some (decide (a = b)) := by
    rw [ev_tD, ev_tD, eq_tD (okK_ev a) (okK_ev b)]
    congr 1
    rw [decide_eq_decide]
    exact ⟨evK_inj, fun h => by rw [h]⟩
  by_cases hab : a = b
  · have : decide (a = b) = true := by simpa using hab
    simp_arith [d_law_pair_holds, f1, a1, a2, List.length_map, x1, x2, x3, w1, w2, w3, eq1, this]
  · have hd : decide (a = b) = false := by simpa using hab
    have y1 := exchanges_eq (n := n) (G := G) (l := [evK a, evK b]) (m := [evK b, evK a]) hq hs hf (okr [a, b]) (okr [b, a]) (by simp)
    rw [if_pos (show [evK a, evK b].length = [evK b, evK a].length from rfl), ev_pair ha hb hab] at y1
    have y1 : callN Pr (n + 9) "exchanges" [pbD q, suD s, nD f, .tup true [evD a, evD b], .tup true [evD b, evD a]] G = .ok (xsD (if freeE q s f a b = true then some [0] else none)) G := by
      rw [← y1]
      simp only [logD, List.map_cons, List.map_nil, ev_tD]
    have i0 : ∀ x y : D, atI [x, y] 0 = some x := fun _ _ => rfl
    have i1 : ∀ x y : D, atI [x, y] 1 = some y := fun _ _ => rfl
    cases hfr : freeE q s f a b
    · rw [hfr] at y1 f1 x1 x2 x3 w1 w2 w3
      simp_arith [d_law_pair_holds, f1, a1, a2, List.length_map, x1, x2, x3, w1, w2, w3, eq1, hd, ix_r0, ix_r1, ix_r2, y1, xsD, i0, i1, sn]
    · rw [hfr] at y1 f1 x1 x2 x3 w1 w2 w3
      have y1 : callN Pr (n + 9) "exchanges" [pbD q, suD s, nD f, .tup true [evD a, evD b], .tup true [evD b, evD a]] G = .ok (.tup true [.int 0]) G := y1
      simp_arith [d_law_pair_holds, f1, a1, a2, List.length_map, x1, x2, x3, w1, w2, w3, eq1, hd, ix_r0, ix_r1, ix_r2, y1, i0, i1, st]
end
section
variable {n : Nat} {q : Pb} {s : Su} {f : Nat} {ds : List Int}
theorem law_holds_eq (hd : Dig ds) (p many : Nat) (hm : many ≤ 100) (hq : GoodP q) (hs : GoodSu s) (hf : f ≤ 1000) : ∃ p', callN Pr (n + 11) "_law_holds" [stD ds, runD q s f, nD many] (Pl p) = .ok (.bl true) (Pl p') := by
  suffices h : okR (callN Pr (n + 11) "_law_holds" [stD ds, runD q s f, nD many] (Pl p)) fun d G => d = .bl true ∧ ∃ p', G = Pl p' by
    obtain ⟨d, G, e, rfl, p', rfl⟩ := okR_inv h
    exact ⟨p', e⟩
  rw [call_eq P_law_holds rfl]
  have g1 := graph_eq (n := n + 5) (G := Pl p) hq hs hf
  have hel := events_len hq hs f
  generalize hes : eventsL q s f = es at g1 hel
  have hms : ∀ e ∈ es, e ∈ eventsL q s f := fun e he => by rw [hes]; exact he
  by_cases hl : (es.length : Int) < 2
  · simp_arith [d_law_holds, g1, list_kn, List.length_map, hl, decide_true]
    exact okR_ok ⟨rfl, _, rfl⟩
  · obtain ⟨ar, ha1, ha2, ha3⟩ := slc_ev (b := true) es (some (-2)) none
    have har : ar.length ≤ 2 ∨ True := .inr trivial
    have rg := rngN (es.length - 1) (by omega)
    rw [show ((es.length - 1 : Nat) : Int) = (es.length : Int) - 1 by omega] at rg
    have hpos : 0 < es.length := by omega
    have hposI : (0 : Int) < (es.length : Int) := by omega
    have c1 : ∀ (y : Str) (A : Sl), compL (compF (callN Pr (n + 10)) (.nm 10 y) d_law_holds_e0 .no [10] [.val (stD ds), .val (runD q s f), .val (nD many), .val (knD q s f es), .val (.lst (es.map evD)), A, .un, .un, .un, .un, .un, .un, .un]) ((List.range (es.length - 1)).map nD) (Pl p) = .ok (((List.range (es.length - 1)).map fun k => ((es[k]?.getD default, es[k + 1]?.getD default) : Evt × Evt)).map prE) (Pl p) := fun y A => by
      rw [List.map_map]
      refine compL_map _ _ fun k hk => ?_
      have hk : k < es.length - 1 := by simpa using hk
      have i1 : atI (es.map evD) (k : Int) = some (evD (es[k]?.getD default)) := by rw [atI_nat, List.getElem?_map, List.getElem?_eq_getElem (by omega)]; rfl
      have i2 : atI (es.map evD) ((k : Int) + 1) = some (evD (es[k + 1]?.getD default)) := by rw [show ((k : Int) + 1) = ((k + 1 : Nat) : Int) by omega, atI_nat, List.getElem?_map, List.getElem?_eq_getElem (by omega)]; rfl
      simp_arith [d_law_holds_e0, i1, i2]
      rfl
    simp_arith [d_law_holds, g1, list_kn, List.length_map, hl, decide_false, ha3, rg, c1, rngN many (by omega)]
    refine for_gt _ (fun e (st : List (Evt × Evt) × Nat) => e.set 6 (.own (.lst (st.1.map prE)))) (fun st => Pl st.2) ((List.range (es.length - 1)).map fun k => (es[k]?.getD default, es[k + 1]?.getD default), p) (List.range many) (fun j st => (∀ x ∈ st.1, x.1 ∈ es ∧ x.2 ∈ es) ∧ st.1.length ≤ es.length + 4 * j) (by rfl) ⟨fun x hx => ?_, by simp⟩ ?_ ?_
    · obtain ⟨k, hk, rfl⟩ := List.mem_map.mp hx
      have hk : k < es.length - 1 := by simpa using hk
      simp only
      rw [List.getElem?_eq_getElem (by omega), List.getElem?_eq_getElem (by omega)]
      exact ⟨List.getElem_mem _, List.getElem_mem _⟩
    · rintro j x ⟨prs, p1⟩ hj ⟨h1, h2⟩
      simp only at h1 h2
      obtain ⟨hj2, rfl⟩ := range_get hj
      obtain ⟨v1, w1, m1⟩ := next_lit (n := n + 9) hd 60 (i := 60) rfl p1 (by omega)
      obtain ⟨v2, w2, m2⟩ := next_lit (n := n + 9) hd 2 (i := 2) rfl (p1 + 1) (by omega)
      obtain ⟨v3, w3, m3⟩ := next_lit (n := n + 9) hd 60 (i := 60) rfl (p1 + 1 + 1) (by omega)
      obtain ⟨v4, w4, m4⟩ := next_lit (n := n + 9) hd 2 (i := 2) rfl (p1 + 1 + 1 + 1) (by omega)
      obtain ⟨a, ha, ea⟩ : ∃ a ∈ es, atI (es.map evD) (((v1 : Int) + 60 * (v2 : Int)) % (es.length : Int)) = some (evD a) := by
        have h : ((v1 : Int) + 60 * (v2 : Int)) % (es.length : Int) = (((v1 + 60 * v2) % es.length : Nat) : Int) := by push_cast; rfl
        have hlt := Nat.mod_lt (v1 + 60 * v2) hpos
        exact ⟨_, List.getElem_mem hlt, by rw [h, atI_map _ _ _ hlt]⟩
      obtain ⟨b, hb, eb⟩ : ∃ b ∈ es, atI (es.map evD) (((v3 : Int) + 60 * (v4 : Int)) % (es.length : Int)) = some (evD b) := by
        have h : ((v3 : Int) + 60 * (v4 : Int)) % (es.length : Int) = (((v3 + 60 * v4) % es.length : Nat) : Int) := by push_cast; rfl
        have hlt := Nat.mod_lt (v3 + 60 * v4) hpos
        exact ⟨_, List.getElem_mem hlt, by rw [h, atI_map _ _ _ hlt]⟩
      have k1 : idxD (Pl (p1 + 1 + 1 + 1 + 1)) (knD q s f es) (evD a) = some (.lst ((cfL q s f a).map evD)) := kn_at ha
      obtain ⟨cs, hc1, hc2, hc3⟩ : ∃ cs : List Evt, (∀ e ∈ cs, e ∈ es) ∧ cs.length ≤ 2 ∧ slcD none (some 2) (.lst ((cfL q s f a).map evD)) = some (.lst (cs.map evD)) := by
        refine ⟨(cfL q s f a).take 2, fun e he => ?_, by rw [List.length_take]; omega, ?_⟩
        · have := (List.mem_filter.mp (List.mem_of_mem_take he)).1
          rw [hes] at this; exact this
        · simp only [slcD]
          rw [show (some (2 : Int)) = some ((2 : Nat) : Int) from rfl, cut_nat0, List.map_take]
      have ca : catD (.lst (prs.map prE)) (.lst [.tup true [evD a, evD b], .tup true [evD a, evD a]]) = some (.lst ((prs ++ [(a, b), (a, a)]).map prE)) := by
        show (if _ then _ else _) = _
        rw [if_pos (by show _ < 1000000; rw [List.length_map]; simp; omega), List.map_append]; rfl
      have c2 : ∀ (y : Str) (A B C : Sl), compL (compF (callN Pr (n + 10)) (.nm 11 y) d_law_holds_e2 .no [11] [.val (stD ds), .val (runD q s f), .val (nD many), .val (knD q s f es), .val (.lst (es.map evD)), A, B, C, .val (evD a), .val (evD b), .un, .un, .un]) (cs.map evD) (Pl (p1 + 1 + 1 + 1 + 1)) = .ok ((cs.map fun c => (a, c)).map prE) (Pl (p1 + 1 + 1 + 1 + 1)) := fun y A B C => by
        rw [List.map_map]
        refine compL_map _ _ fun c hc => ?_
        simp_arith [d_law_holds_e2]
        rfl
      have hx : ((prs ++ [(a, b), (a, a)]).map prE).length + ((cs.map fun c => (a, c)).map prE).length < 1000000 := by simp; omega
      simp_arith [d_law_holds_b1, m1, m2, m3, m4, List.length_map, ea, eb, ca, k1, hc3, c2, ext_l hx]
      refine nx_nx ⟨(prs ++ [(a, b), (a, a)] ++ cs.map fun c => (a, c), p1 + 1 + 1 + 1 + 1), rfl, by simp_arith [List.map_append], fun x hx => ?_, ?_⟩
      · rcases List.mem_append.mp hx with hx | hx
        · rcases List.mem_append.mp hx with hx | hx
          · exact h1 x hx
          · simp only [List.mem_cons, List.not_mem_nil, or_false] at hx
            rcases hx with rfl | rfl
            · exact ⟨ha, hb⟩
            · exact ⟨ha, ha⟩
        · obtain ⟨c, hc, rfl⟩ := List.mem_map.mp hx
          exact ⟨ha, hc1 c hc⟩
      · simp; omega
    · rintro ⟨prs, p1⟩ ⟨h1, h2⟩
      simp only at h1 h2
      simp_arith []
      obtain ⟨st, e2, _⟩ := for_ex (G := Pl p1) (ws := []) (enc := prE) (body := forB (callN Pr (n + 10)) (.tp [(8, "_law_one"), (9, "_law_other")]) d_law_holds_b3) [.val (stD ds), .val (runD q s f), .val (nD many), .val (knD q s f es), .val (.lst (es.map evD)), .val (.tup true (ar.map evD)), .val (.lst (prs.map prE)), .un, .un, .un, .un, .un, .un]
        (fun e (st : Sl × Sl) => (e.set 8 st.1).set 9 st.2) (.un, .un) prs (fun _ _ => True) rfl trivial fun j x st hj _ => by
          obtain ⟨a, b⟩ := x
          obtain ⟨A, B⟩ := st
          have hx := h1 _ (List.mem_of_getElem? hj)
          have c3 : ∀ (y : Str) (A B C E : Sl), compL (compF (callN Pr (n + 10)) (.nm 12 y) d_law_holds_e4 (.so d_law_holds_c5) [12] [.val (stD ds), .val (runD q s f), .val (nD many), A, B, C, E, .un, .val (evD a), .val (evD b), .un, .un, .un]) (ar.map evD) (Pl p1) = .ok ((ar.filter fun e => !decide (e ∈ [a, b])).map evD) (Pl p1) := fun y A B C E => compL_fm _ _ _ fun e he => by
            have := nin_ev (e := e) (l := [a, b])
            simp only [List.map_cons, List.map_nil] at this
            simp_arith [d_law_holds_c5, d_law_holds_e4, this, cif]
          have lp := law_pair_eq (n := n) (G := Pl p1) (ar := ar.filter fun e => !decide (e ∈ [a, b])) hq hs hf (hms a hx.1) (hms b hx.2) (by have := List.length_filter_le (fun e => !decide (e ∈ [a, b])) ar; omega)
          rw [hes] at lp
          simp_arith [prE, d_law_holds_b3, c3, lp]
          exact nx_nx ⟨rfl, (.val (evD a), .val (evD b)), rfl, trivial⟩
      simp_arith [] at e2
      simp_arith [e2]
      exact okR_ok ⟨rfl, _, rfl⟩
end
theorem law_eq (ns : List Int) : ∃ G, callN Pr 14 "law" [.scr ns] [] = .ok (.bl true) G := by
  rw [call_eq P_law rfl]
  obtain ⟨ds, hd, e1⟩ := stream_eq (n := 11) ns 16 (by omega) (by omega)
  have e1 : callN Pr 13 "_law_stream" [.scr ns, .int 0, .int 16] [] = .ok (stD ds) (Pl 0) := e1
  have e2 := known_eq (n := 12) (G := Pl 0)
  obtain ⟨p1, e3⟩ := law_holds_eq (n := 2) hd 0 6 (by omega) kQ_good kS_good (f := 0) (by omega)
  have e3 : callN Pr 13 "_law_holds" [stD ds, runD kQ kS 0, .int 6] (Pl 0) = .ok (.bl true) (Pl p1) := e3
  obtain ⟨q, s, f, p2, hq, hs, hf, _, _, e4⟩ := run_eq (n := 11) hd p1
  obtain ⟨p3, e5⟩ := law_holds_eq (n := 2) hd p2 12 (by omega) hq hs (f := f) (by omega)
  have e5 : callN Pr 13 "_law_holds" [stD ds, runD q s f, .int 12] (Pl p2) = .ok (.bl true) (Pl p3) := e5
  simp_arith [d_law, e1, e2, e3, e4, e5]
  exact ⟨_, rfl⟩
end CM

namespace LW
open PySem PySem.Spec PyProof.Rows L2 MP CM
def cnl : List (Str × D) := []
def cn : Str → Option D := fun x => cnl.lookup x
def exl : List Str := []
def sts : List Stmt := PySem.Challenge.rw_rowsahead_k30_free_neighbours.prog.main.body
def st (i : Nat) : Stmt := sts.getD i (.Pass ⟨0, 0, 0, 0⟩)
theorem c_samples_of : chkSs Pr cn d_samples_of.N exl d_samples_of.fr (defScope (st 1)) (fun _ => true) d_samples_of.body (defBody (st 1)) = true := by decide +kernel
theorem s_samples_of : FnScope d_samples_of.N d_samples_of.ps (defScope (st 1)) := ⟨rfl, rfl, rfl, by decide +kernel, rfl, by decide +kernel, by decide +kernel⟩
theorem c_rows_of : chkSs Pr cn d_rows_of.N exl d_rows_of.fr (defScope (st 2)) (fun _ => true) d_rows_of.body (defBody (st 2)) = true := by decide +kernel
theorem s_rows_of : FnScope d_rows_of.N d_rows_of.ps (defScope (st 2)) := ⟨rfl, rfl, rfl, by decide +kernel, rfl, by decide +kernel, by decide +kernel⟩
theorem c_users : chkSs Pr cn d_users.N exl d_users.fr (defScope (st 3)) (fun _ => true) d_users.body (defBody (st 3)) = true := by decide +kernel
theorem s_users : FnScope d_users.N d_users.ps (defScope (st 3)) := ⟨rfl, rfl, rfl, by decide +kernel, rfl, by decide +kernel, by decide +kernel⟩
theorem c_uses : chkSs Pr cn d_uses.N exl d_uses.fr (defScope (st 4)) (fun _ => true) d_uses.body (defBody (st 4)) = true := by decide +kernel
theorem s_uses : FnScope d_uses.N d_uses.ps (defScope (st 4)) := ⟨rfl, rfl, rfl, by decide +kernel, rfl, by decide +kernel, by decide +kernel⟩
theorem c_stays_of : chkSs Pr cn d_stays_of.N exl d_stays_of.fr (defScope (st 5)) (fun _ => true) d_stays_of.body (defBody (st 5)) = true := by decide +kernel
theorem s_stays_of : FnScope d_stays_of.N d_stays_of.ps (defScope (st 5)) := ⟨rfl, rfl, rfl, by decide +kernel, rfl, by decide +kernel, by decide +kernel⟩
theorem c_stays : chkSs Pr cn d_stays.N exl d_stays.fr (defScope (st 6)) (fun _ => true) d_stays.body (defBody (st 6)) = true := by decide +kernel
theorem s_stays : FnScope d_stays.N d_stays.ps (defScope (st 6)) := ⟨rfl, rfl, rfl, by decide +kernel, rfl, by decide +kernel, by decide +kernel⟩
theorem c_handovers : chkSs Pr cn d_handovers.N exl d_handovers.fr (defScope (st 8)) (fun _ => true) d_handovers.body (defBody (st 8)) = true := by decide +kernel
theorem s_handovers : FnScope d_handovers.N d_handovers.ps (defScope (st 8)) := ⟨rfl, rfl, rfl, by decide +kernel, rfl, by decide +kernel, by decide +kernel⟩
theorem c_events_of : chkSs Pr cn d_events_of.N exl d_events_of.fr (defScope (st 9)) (fun _ => true) d_events_of.body (defBody (st 9)) = true := by decide +kernel
theorem s_events_of : FnScope d_events_of.N d_events_of.ps (defScope (st 9)) := ⟨rfl, rfl, rfl, by decide +kernel, rfl, by decide +kernel, by decide +kernel⟩
theorem c_events : chkSs Pr cn d_events.N exl d_events.fr (defScope (st 10)) (fun _ => true) d_events.body (defBody (st 10)) = true := by decide +kernel
theorem s_events : FnScope d_events.N d_events.ps (defScope (st 10)) := ⟨rfl, rfl, rfl, by decide +kernel, rfl, by decide +kernel, by decide +kernel⟩
theorem c_updates_until : chkSs Pr cn d_updates_until.N exl d_updates_until.fr (defScope (st 11)) (fun _ => true) d_updates_until.body (defBody (st 11)) = true := by decide +kernel
theorem s_updates_until : FnScope d_updates_until.N d_updates_until.ps (defScope (st 11)) := ⟨rfl, rfl, rfl, by decide +kernel, rfl, by decide +kernel, by decide +kernel⟩
theorem c_use_before : chkSs Pr cn d_use_before.N exl d_use_before.fr (defScope (st 12)) (fun _ => true) d_use_before.body (defBody (st 12)) = true := by decide +kernel
theorem s_use_before : FnScope d_use_before.N d_use_before.ps (defScope (st 12)) := ⟨rfl, rfl, rfl, by decide +kernel, rfl, by decide +kernel, by decide +kernel⟩
theorem c_request_causes : chkSs Pr cn d_request_causes.N exl d_request_causes.fr (defScope (st 13)) (fun _ => true) d_request_causes.body (defBody (st 13)) = true := by decide +kernel
theorem s_request_causes : FnScope d_request_causes.N d_request_causes.ps (defScope (st 13)) := ⟨rfl, rfl, rfl, by decide +kernel, rfl, by decide +kernel, by decide +kernel⟩
theorem c_value_causes : chkSs Pr cn d_value_causes.N exl d_value_causes.fr (defScope (st 14)) (fun _ => true) d_value_causes.body (defBody (st 14)) = true := by decide +kernel
theorem s_value_causes : FnScope d_value_causes.N d_value_causes.ps (defScope (st 14)) := ⟨rfl, rfl, rfl, by decide +kernel, rfl, by decide +kernel, by decide +kernel⟩
theorem c_compute_causes : chkSs Pr cn d_compute_causes.N exl d_compute_causes.fr (defScope (st 15)) (fun _ => true) d_compute_causes.body (defBody (st 15)) = true := by decide +kernel
theorem s_compute_causes : FnScope d_compute_causes.N d_compute_causes.ps (defScope (st 15)) := ⟨rfl, rfl, rfl, by decide +kernel, rfl, by decide +kernel, by decide +kernel⟩
theorem c_causes_of : chkSs Pr cn d_causes_of.N exl d_causes_of.fr (defScope (st 16)) (fun _ => true) d_causes_of.body (defBody (st 16)) = true := by decide +kernel
theorem s_causes_of : FnScope d_causes_of.N d_causes_of.ps (defScope (st 16)) := ⟨rfl, rfl, rfl, by decide +kernel, rfl, by decide +kernel, by decide +kernel⟩
theorem c_is_told : chkSs Pr cn d_is_told.N exl d_is_told.fr (defScope (st 17)) (fun _ => true) d_is_told.body (defBody (st 17)) = true := by decide +kernel
theorem s_is_told : FnScope d_is_told.N d_is_told.ps (defScope (st 17)) := ⟨rfl, rfl, rfl, by decide +kernel, rfl, by decide +kernel, by decide +kernel⟩
theorem c_is_number : chkSs Pr cn d_is_number.N exl d_is_number.fr (defScope (st 19)) (fun _ => true) d_is_number.body (defBody (st 19)) = true := by decide +kernel
theorem s_is_number : FnScope d_is_number.N d_is_number.ps (defScope (st 19)) := ⟨rfl, rfl, rfl, by decide +kernel, rfl, by decide +kernel, by decide +kernel⟩
theorem c_are_free : chkSs Pr cn d_are_free.N exl d_are_free.fr (defScope (st 21)) (fun _ => true) d_are_free.body (defBody (st 21)) = true := by decide +kernel
theorem s_are_free : FnScope d_are_free.N d_are_free.ps (defScope (st 21)) := ⟨rfl, rfl, rfl, by decide +kernel, rfl, by decide +kernel, by decide +kernel⟩
theorem c_exchanged : chkSs Pr cn d_exchanged.N exl d_exchanged.fr (defScope (st 22)) (fun _ => true) d_exchanged.body (defBody (st 22)) = true := by decide +kernel
theorem s_exchanged : FnScope d_exchanged.N d_exchanged.ps (defScope (st 22)) := ⟨rfl, rfl, rfl, by decide +kernel, rfl, by decide +kernel, by decide +kernel⟩
theorem c_judge_exchanges : chkSs Pr cn d_judge_exchanges.N exl d_judge_exchanges.fr (defScope (st 23)) (fun _ => true) d_judge_exchanges.body (defBody (st 23)) = true := by decide +kernel
theorem s_judge_exchanges : FnScope d_judge_exchanges.N d_judge_exchanges.ps (defScope (st 23)) := ⟨rfl, rfl, rfl, by decide +kernel, rfl, by decide +kernel, by decide +kernel⟩
theorem c_exchanges : chkSs Pr cn d_exchanges.N exl d_exchanges.fr (defScope (st 24)) (fun _ => true) d_exchanges.body (defBody (st 24)) = true := by decide +kernel
theorem s_exchanges : FnScope d_exchanges.N d_exchanges.ps (defScope (st 24)) := ⟨rfl, rfl, rfl, by decide +kernel, rfl, by decide +kernel, by decide +kernel⟩
theorem c_law_cell : chkSs Pr cn d_law_cell.N exl d_law_cell.fr (defScope (st 26)) (fun _ => true) d_law_cell.body (defBody (st 26)) = true := by decide +kernel
theorem s_law_cell : FnScope d_law_cell.N d_law_cell.ps (defScope (st 26)) := ⟨rfl, rfl, rfl, by decide +kernel, rfl, by decide +kernel, by decide +kernel⟩
theorem c_law_draws : chkSs Pr cn d_law_draws.N exl d_law_draws.fr (defScope (st 27)) (fun _ => true) d_law_draws.body (defBody (st 27)) = true := by decide +kernel
theorem s_law_draws : FnScope d_law_draws.N d_law_draws.ps (defScope (st 27)) := ⟨rfl, rfl, rfl, by decide +kernel, rfl, by decide +kernel, by decide +kernel⟩
theorem c_law_stream : chkSs Pr cn d_law_stream.N exl d_law_stream.fr (defScope (st 28)) (fun _ => true) d_law_stream.body (defBody (st 28)) = true := by decide +kernel
theorem s_law_stream : FnScope d_law_stream.N d_law_stream.ps (defScope (st 28)) := ⟨rfl, rfl, rfl, by decide +kernel, rfl, by decide +kernel, by decide +kernel⟩
theorem c_law_next : chkSs Pr cn d_law_next.N exl d_law_next.fr (defScope (st 29)) (fun _ => true) d_law_next.body (defBody (st 29)) = true := by decide +kernel
theorem s_law_next : FnScope d_law_next.N d_law_next.ps (defScope (st 29)) := ⟨rfl, rfl, rfl, by decide +kernel, rfl, by decide +kernel, by decide +kernel⟩
theorem c_law_same : chkSs Pr cn d_law_same.N exl d_law_same.fr (defScope (st 30)) (fun _ => true) d_law_same.body (defBody (st 30)) = true := by decide +kernel
theorem s_law_same : FnScope d_law_same.N d_law_same.ps (defScope (st 30)) := ⟨rfl, rfl, rfl, by decide +kernel, rfl, by decide +kernel, by decide +kernel⟩
theorem c_law_part : chkSs Pr cn d_law_part.N exl d_law_part.fr (defScope (st 31)) (fun _ => true) d_law_part.body (defBody (st 31)) = true := by decide +kernel
theorem s_law_part : FnScope d_law_part.N d_law_part.ps (defScope (st 31)) := ⟨rfl, rfl, rfl, by decide +kernel, rfl, by decide +kernel, by decide +kernel⟩
theorem c_law_looked : chkSs Pr cn d_law_looked.N exl d_law_looked.fr (defScope (st 32)) (fun _ => true) d_law_looked.body (defBody (st 32)) = true := by decide +kernel
theorem s_law_looked : FnScope d_law_looked.N d_law_looked.ps (defScope (st 32)) := ⟨rfl, rfl, rfl, by decide +kernel, rfl, by decide +kernel, by decide +kernel⟩
theorem c_law_users : chkSs Pr cn d_law_users.N exl d_law_users.fr (defScope (st 33)) (fun _ => true) d_law_users.body (defBody (st 33)) = true := by decide +kernel
theorem s_law_users : FnScope d_law_users.N d_law_users.ps (defScope (st 33)) := ⟨rfl, rfl, rfl, by decide +kernel, rfl, by decide +kernel, by decide +kernel⟩
theorem c_law_uses : chkSs Pr cn d_law_uses.N exl d_law_uses.fr (defScope (st 34)) (fun _ => true) d_law_uses.body (defBody (st 34)) = true := by decide +kernel
theorem s_law_uses : FnScope d_law_uses.N d_law_uses.ps (defScope (st 34)) := ⟨rfl, rfl, rfl, by decide +kernel, rfl, by decide +kernel, by decide +kernel⟩
theorem c_law_stays : chkSs Pr cn d_law_stays.N exl d_law_stays.fr (defScope (st 35)) (fun _ => true) d_law_stays.body (defBody (st 35)) = true := by decide +kernel
theorem s_law_stays : FnScope d_law_stays.N d_law_stays.ps (defScope (st 35)) := ⟨rfl, rfl, rfl, by decide +kernel, rfl, by decide +kernel, by decide +kernel⟩
theorem c_law_events : chkSs Pr cn d_law_events.N exl d_law_events.fr (defScope (st 36)) (fun _ => true) d_law_events.body (defBody (st 36)) = true := by decide +kernel
theorem s_law_events : FnScope d_law_events.N d_law_events.ps (defScope (st 36)) := ⟨rfl, rfl, rfl, by decide +kernel, rfl, by decide +kernel, by decide +kernel⟩
theorem c_law_is_cause : chkSs Pr cn d_law_is_cause.N exl d_law_is_cause.fr (defScope (st 37)) (fun _ => true) d_law_is_cause.body (defBody (st 37)) = true := by decide +kernel
theorem s_law_is_cause : FnScope d_law_is_cause.N d_law_is_cause.ps (defScope (st 37)) := ⟨rfl, rfl, rfl, by decide +kernel, rfl, by decide +kernel, by decide +kernel⟩
theorem c_law_known : chkSs Pr cn d_law_known.N exl d_law_known.fr (defScope (st 38)) (fun _ => true) d_law_known.body (defBody (st 38)) = true := by decide +kernel
theorem s_law_known : FnScope d_law_known.N d_law_known.ps (defScope (st 38)) := ⟨rfl, rfl, rfl, by decide +kernel, rfl, by decide +kernel, by decide +kernel⟩
theorem c_law_run : chkSs Pr cn d_law_run.N exl d_law_run.fr (defScope (st 39)) (fun _ => true) d_law_run.body (defBody (st 39)) = true := by decide +kernel
theorem s_law_run : FnScope d_law_run.N d_law_run.ps (defScope (st 39)) := ⟨rfl, rfl, rfl, by decide +kernel, rfl, by decide +kernel, by decide +kernel⟩
theorem c_law_graph : chkSs Pr cn d_law_graph.N exl d_law_graph.fr (defScope (st 40)) (fun _ => true) d_law_graph.body (defBody (st 40)) = true := by decide +kernel
theorem s_law_graph : FnScope d_law_graph.N d_law_graph.ps (defScope (st 40)) := ⟨rfl, rfl, rfl, by decide +kernel, rfl, by decide +kernel, by decide +kernel⟩
theorem c_law_free : chkSs Pr cn d_law_free.N exl d_law_free.fr (defScope (st 41)) (fun _ => true) d_law_free.body (defBody (st 41)) = true := by decide +kernel
theorem s_law_free : FnScope d_law_free.N d_law_free.ps (defScope (st 41)) := ⟨rfl, rfl, rfl, by decide +kernel, rfl, by decide +kernel, by decide +kernel⟩
theorem c_law_pair_holds : chkSs Pr cn d_law_pair_holds.N exl d_law_pair_holds.fr (defScope (st 42)) (fun _ => true) d_law_pair_holds.body (defBody (st 42)) = true := by decide +kernel
theorem s_law_pair_holds : FnScope d_law_pair_holds.N d_law_pair_holds.ps (defScope (st 42)) := ⟨rfl, rfl, rfl, by decide +kernel, rfl, by decide +kernel, by decide +kernel⟩
theorem c_law_holds : chkSs Pr cn d_law_holds.N exl d_law_holds.fr (defScope (st 43)) (fun _ => true) d_law_holds.body (defBody (st 43)) = true := by decide +kernel
theorem s_law_holds : FnScope d_law_holds.N d_law_holds.ps (defScope (st 43)) := ⟨rfl, rfl, rfl, by decide +kernel, rfl, by decide +kernel, by decide +kernel⟩
theorem c_law : chkSs Pr cn d_law.N exl d_law.fr (defScope (st 44)) (fun _ => true) d_law.body (defBody (st 44)) = true := by decide +kernel
theorem s_law : FnScope d_law.N d_law.ps (defScope (st 44)) := ⟨rfl, rfl, rfl, by decide +kernel, rfl, by decide +kernel, by decide +kernel⟩
/-- what the top leaves of a def -/
structure DefF (K : PySem.W.Frag) (f : Str) (s : Stmt) : Prop where
  ex : ∃ (a : Addr) (oc : Value) (od : Option Addr) (kV doc pm : Value) (an : Option Addr) (cdv ct : Value) (osl : Array (Option Value)),
    PySem.W.nsIn K mainGlobals f = some (some (.ref a)) ∧ K.lookup a = some ⟨oc, od, .func (PySem.W.fnOf f f (defArgs s) (defBody s) (defScope s) .none kV doc pm an cdv ct), osl⟩ ∧ PySem.W.codeIn K cdv f = true ∧ PySem.W.keepIn K (.ref a) = true
theorem def_mk {K : PySem.W.Frag} {f : Str} {s : Stmt} {a : Addr} {oc : Value} {od : Option Addr} {kV doc pm : Value} {an : Option Addr} {cdv ct : Value} {osl : Array (Option Value)}
    (h1 : PySem.W.nsIn K mainGlobals f = some (some (.ref a))) (h2 : K.lookup a = some ⟨oc, od, .func (PySem.W.fnOf f f (defArgs s) (defBody s) (defScope s) .none kV doc pm an cdv ct), osl⟩) (h3 : PySem.W.codeIn K cdv f = true) (h4 : PySem.W.keepIn K (.ref a) = true) : DefF K f s :=
  ⟨a, oc, od, kV, doc, pm, an, cdv, ct, osl, h1, h2, h3, h4⟩
def DefG (K : PySem.W.Frag) (mg : Str → Option Value) (fd : FnDef) : Prop := ∃ (s : Stmt) (a : Addr) (fdd : FuncData), Fun K fd.name fd.name s a fdd ∧ mg fd.name = some (.ref a) ∧ FnScope fd.N fd.ps (defScope s) ∧ Binds K fdd fd.ps [] ∧ chkSs Pr cn fd.N exl fd.fr (defScope s) (fun _ => true) fd.body (defBody s) = true
theorem def_g {K : PySem.W.Frag} {h : Heap} {mg : Str → Option Value} (X : K.In h) (G : h.Ns mainGlobals mg) {fd : FnDef} {s : Stmt} (F : DefF K fd.name s) (S : FnScope fd.N fd.ps (defScope s)) (C : chkSs Pr cn fd.N exl fd.fr (defScope s) (fun _ => true) fd.body (defBody s) = true)
    (B : ∀ (kV doc pm : Value) (an : Option Addr) (cdv ct : Value) (us : List Value), us.length = fd.ps.length → bindArgs (PySem.W.fnOf fd.name fd.name (defArgs s) (defBody s) (defScope s) .none kV doc pm an cdv ct) ⟨us, []⟩ = pure (fd.ps.zip us)) : DefG K mg fd := by
  obtain ⟨a, oc, od, kV, doc, pm, an, cdv, ct, osl, h1, h2, h3, h4⟩ := F.ex
  have f := fun_mk (x := fd.name) (qual := fd.name) (st := s) h2 h3 h4
  exact ⟨s, a, _, f, PySem.W.mg_of X G h1, S, f.binds B, C⟩
structure Facts (K : PySem.W.Frag) : Prop where
  f_samples_of : DefF K "samples_of" (st 1)
  f_rows_of : DefF K "rows_of" (st 2)
  f_users : DefF K "users" (st 3)
  f_uses : DefF K "uses" (st 4)
  f_stays_of : DefF K "stays_of" (st 5)
  f_stays : DefF K "stays" (st 6)
  f_handovers : DefF K "handovers" (st 8)
  f_events_of : DefF K "events_of" (st 9)
  f_events : DefF K "events" (st 10)
  f_updates_until : DefF K "updates_until" (st 11)
  f_use_before : DefF K "use_before" (st 12)
  f_request_causes : DefF K "request_causes" (st 13)
  f_value_causes : DefF K "value_causes" (st 14)
  f_compute_causes : DefF K "compute_causes" (st 15)
  f_causes_of : DefF K "causes_of" (st 16)
  f_is_told : DefF K "is_told" (st 17)
  f_is_number : DefF K "is_number" (st 19)
  f_are_free : DefF K "are_free" (st 21)
  f_exchanged : DefF K "exchanged" (st 22)
  f_judge_exchanges : DefF K "judge_exchanges" (st 23)
  f_exchanges : DefF K "exchanges" (st 24)
  f_law_cell : DefF K "_law_cell" (st 26)
  f_law_draws : DefF K "_law_draws" (st 27)
  f_law_stream : DefF K "_law_stream" (st 28)
  f_law_next : DefF K "_law_next" (st 29)
  f_law_same : DefF K "_law_same" (st 30)
  f_law_part : DefF K "_law_part" (st 31)
  f_law_looked : DefF K "_law_looked" (st 32)
  f_law_users : DefF K "_law_users" (st 33)
  f_law_uses : DefF K "_law_uses" (st 34)
  f_law_stays : DefF K "_law_stays" (st 35)
  f_law_events : DefF K "_law_events" (st 36)
  f_law_is_cause : DefF K "_law_is_cause" (st 37)
  f_law_known : DefF K "_law_known" (st 38)
  f_law_run : DefF K "_law_run" (st 39)
  f_law_graph : DefF K "_law_graph" (st 40)
  f_law_free : DefF K "_law_free" (st 41)
  f_law_pair_holds : DefF K "_law_pair_holds" (st 42)
  f_law_holds : DefF K "_law_holds" (st 43)
  f_law : DefF K "law" (st 44)
  b_len : PySem.W.nsIn K mainGlobals "len" = some none
  b_abs : PySem.W.nsIn K mainGlobals "abs" = some none
  b_int : PySem.W.nsIn K mainGlobals "int" = some none
  b_sum : PySem.W.nsIn K mainGlobals "sum" = some none
  b_all : PySem.W.nsIn K mainGlobals "all" = some none
  b_max : PySem.W.nsIn K mainGlobals "max" = some none
  b_min : PySem.W.nsIn K mainGlobals "min" = some none
  b_tuple : PySem.W.nsIn K mainGlobals "tuple" = some none
  b_list : PySem.W.nsIn K mainGlobals "list" = some none
  b_sorted : PySem.W.nsIn K mainGlobals "sorted" = some none
  b_dict : PySem.W.nsIn K mainGlobals "dict" = some none
  b_isinstance : PySem.W.nsIn K mainGlobals "isinstance" = some none
  b_set : PySem.W.nsIn K mainGlobals "set" = some none
  b_range : PySem.W.nsIn K mainGlobals "range" = some none
  b_enumerate : PySem.W.nsIn K mainGlobals "enumerate" = some none
  b_zip : PySem.W.nsIn K mainGlobals "zip" = some none
  b_bool : PySem.W.nsIn K mainGlobals "bool" = some none
  b_str : PySem.W.nsIn K mainGlobals "str" = some none
  b_iter : PySem.W.nsIn K mainGlobals "iter" = some none
  b_ValueError : PySem.W.nsIn K mainGlobals "ValueError" = some none
section
variable {K : PySem.W.Frag} {h : Heap} {mg : Str → Option Value}
theorem g_samples_of (T : Facts K) (X : K.In h) (G : h.Ns mainGlobals mg) : DefG K mg d_samples_of := def_g X G (fd := d_samples_of) T.f_samples_of s_samples_of c_samples_of fun _ _ _ _ _ _ us hl => match us, hl with | [_, _, _, _], _ => rfl
theorem g_rows_of (T : Facts K) (X : K.In h) (G : h.Ns mainGlobals mg) : DefG K mg d_rows_of := def_g X G (fd := d_rows_of) T.f_rows_of s_rows_of c_rows_of fun _ _ _ _ _ _ us hl => match us, hl with | [_], _ => rfl
theorem g_users (T : Facts K) (X : K.In h) (G : h.Ns mainGlobals mg) : DefG K mg d_users := def_g X G (fd := d_users) T.f_users s_users c_users fun _ _ _ _ _ _ us hl => match us, hl with | [_, _, _, _], _ => rfl
theorem g_uses (T : Facts K) (X : K.In h) (G : h.Ns mainGlobals mg) : DefG K mg d_uses := def_g X G (fd := d_uses) T.f_uses s_uses c_uses fun _ _ _ _ _ _ us hl => match us, hl with | [_, _, _], _ => rfl
theorem g_stays_of (T : Facts K) (X : K.In h) (G : h.Ns mainGlobals mg) : DefG K mg d_stays_of := def_g X G (fd := d_stays_of) T.f_stays_of s_stays_of c_stays_of fun _ _ _ _ _ _ us hl => match us, hl with | [_, _, _, _], _ => rfl
theorem g_stays (T : Facts K) (X : K.In h) (G : h.Ns mainGlobals mg) : DefG K mg d_stays := def_g X G (fd := d_stays) T.f_stays s_stays c_stays fun _ _ _ _ _ _ us hl => match us, hl with | [_, _, _], _ => rfl
theorem g_handovers (T : Facts K) (X : K.In h) (G : h.Ns mainGlobals mg) : DefG K mg d_handovers := def_g X G (fd := d_handovers) T.f_handovers s_handovers c_handovers fun _ _ _ _ _ _ us hl => match us, hl with | [_, _, _], _ => rfl
theorem g_events_of (T : Facts K) (X : K.In h) (G : h.Ns mainGlobals mg) : DefG K mg d_events_of := def_g X G (fd := d_events_of) T.f_events_of s_events_of c_events_of fun _ _ _ _ _ _ us hl => match us, hl with | [_, _, _, _, _], _ => rfl
theorem g_events (T : Facts K) (X : K.In h) (G : h.Ns mainGlobals mg) : DefG K mg d_events := def_g X G (fd := d_events) T.f_events s_events c_events fun _ _ _ _ _ _ us hl => match us, hl with | [_, _, _], _ => rfl
theorem g_updates_until (T : Facts K) (X : K.In h) (G : h.Ns mainGlobals mg) : DefG K mg d_updates_until := def_g X G (fd := d_updates_until) T.f_updates_until s_updates_until c_updates_until fun _ _ _ _ _ _ us hl => match us, hl with | [_, _, _, _], _ => rfl
theorem g_use_before (T : Facts K) (X : K.In h) (G : h.Ns mainGlobals mg) : DefG K mg d_use_before := def_g X G (fd := d_use_before) T.f_use_before s_use_before c_use_before fun _ _ _ _ _ _ us hl => match us, hl with | [_, _, _, _], _ => rfl
theorem g_request_causes (T : Facts K) (X : K.In h) (G : h.Ns mainGlobals mg) : DefG K mg d_request_causes := def_g X G (fd := d_request_causes) T.f_request_causes s_request_causes c_request_causes fun _ _ _ _ _ _ us hl => match us, hl with | [_, _, _, _, _], _ => rfl
theorem g_value_causes (T : Facts K) (X : K.In h) (G : h.Ns mainGlobals mg) : DefG K mg d_value_causes := def_g X G (fd := d_value_causes) T.f_value_causes s_value_causes c_value_causes fun _ _ _ _ _ _ us hl => match us, hl with | [_, _, _, _, _], _ => rfl
theorem g_compute_causes (T : Facts K) (X : K.In h) (G : h.Ns mainGlobals mg) : DefG K mg d_compute_causes := def_g X G (fd := d_compute_causes) T.f_compute_causes s_compute_causes c_compute_causes fun _ _ _ _ _ _ us hl => match us, hl with | [_, _, _, _, _], _ => rfl
theorem g_causes_of (T : Facts K) (X : K.In h) (G : h.Ns mainGlobals mg) : DefG K mg d_causes_of := def_g X G (fd := d_causes_of) T.f_causes_of s_causes_of c_causes_of fun _ _ _ _ _ _ us hl => match us, hl with | [_, _, _, _], _ => rfl
theorem g_is_told (T : Facts K) (X : K.In h) (G : h.Ns mainGlobals mg) : DefG K mg d_is_told := def_g X G (fd := d_is_told) T.f_is_told s_is_told c_is_told fun _ _ _ _ _ _ us hl => match us, hl with | [_, _], _ => rfl
theorem g_is_number (T : Facts K) (X : K.In h) (G : h.Ns mainGlobals mg) : DefG K mg d_is_number := def_g X G (fd := d_is_number) T.f_is_number s_is_number c_is_number fun _ _ _ _ _ _ us hl => match us, hl with | [_, _, _], _ => rfl
theorem g_are_free (T : Facts K) (X : K.In h) (G : h.Ns mainGlobals mg) : DefG K mg d_are_free := def_g X G (fd := d_are_free) T.f_are_free s_are_free c_are_free fun _ _ _ _ _ _ us hl => match us, hl with | [_, _, _, _, _], _ => rfl
theorem g_exchanged (T : Facts K) (X : K.In h) (G : h.Ns mainGlobals mg) : DefG K mg d_exchanged := def_g X G (fd := d_exchanged) T.f_exchanged s_exchanged c_exchanged fun _ _ _ _ _ _ us hl => match us, hl with | [_, _, _, _], _ => rfl
theorem g_judge_exchanges (T : Facts K) (X : K.In h) (G : h.Ns mainGlobals mg) : DefG K mg d_judge_exchanges := def_g X G (fd := d_judge_exchanges) T.f_judge_exchanges s_judge_exchanges c_judge_exchanges fun _ _ _ _ _ _ us hl => match us, hl with | [_, _, _, _, _, _], _ => rfl
theorem g_exchanges (T : Facts K) (X : K.In h) (G : h.Ns mainGlobals mg) : DefG K mg d_exchanges := def_g X G (fd := d_exchanges) T.f_exchanges s_exchanges c_exchanges fun _ _ _ _ _ _ us hl => match us, hl with | [_, _, _, _, _], _ => rfl
theorem g_law_cell (T : Facts K) (X : K.In h) (G : h.Ns mainGlobals mg) : DefG K mg d_law_cell := def_g X G (fd := d_law_cell) T.f_law_cell s_law_cell c_law_cell fun _ _ _ _ _ _ us hl => match us, hl with | [_, _], _ => rfl
theorem g_law_draws (T : Facts K) (X : K.In h) (G : h.Ns mainGlobals mg) : DefG K mg d_law_draws := def_g X G (fd := d_law_draws) T.f_law_draws s_law_draws c_law_draws fun _ _ _ _ _ _ us hl => match us, hl with | [_, _], _ => rfl
theorem g_law_stream (T : Facts K) (X : K.In h) (G : h.Ns mainGlobals mg) : DefG K mg d_law_stream := def_g X G (fd := d_law_stream) T.f_law_stream s_law_stream c_law_stream fun _ _ _ _ _ _ us hl => match us, hl with | [_, _, _], _ => rfl
theorem g_law_next (T : Facts K) (X : K.In h) (G : h.Ns mainGlobals mg) : DefG K mg d_law_next := def_g X G (fd := d_law_next) T.f_law_next s_law_next c_law_next fun _ _ _ _ _ _ us hl => match us, hl with | [_, _], _ => rfl
theorem g_law_same (T : Facts K) (X : K.In h) (G : h.Ns mainGlobals mg) : DefG K mg d_law_same := def_g X G (fd := d_law_same) T.f_law_same s_law_same c_law_same fun _ _ _ _ _ _ us hl => match us, hl with | [_, _], _ => rfl
theorem g_law_part (T : Facts K) (X : K.In h) (G : h.Ns mainGlobals mg) : DefG K mg d_law_part := def_g X G (fd := d_law_part) T.f_law_part s_law_part c_law_part fun _ _ _ _ _ _ us hl => match us, hl with | [_, _, _, _], _ => rfl
theorem g_law_looked (T : Facts K) (X : K.In h) (G : h.Ns mainGlobals mg) : DefG K mg d_law_looked := def_g X G (fd := d_law_looked) T.f_law_looked s_law_looked c_law_looked fun _ _ _ _ _ _ us hl => match us, hl with | [_], _ => rfl
theorem g_law_users (T : Facts K) (X : K.In h) (G : h.Ns mainGlobals mg) : DefG K mg d_law_users := def_g X G (fd := d_law_users) T.f_law_users s_law_users c_law_users fun _ _ _ _ _ _ us hl => match us, hl with | [_, _, _, _], _ => rfl
theorem g_law_uses (T : Facts K) (X : K.In h) (G : h.Ns mainGlobals mg) : DefG K mg d_law_uses := def_g X G (fd := d_law_uses) T.f_law_uses s_law_uses c_law_uses fun _ _ _ _ _ _ us hl => match us, hl with | [_, _, _], _ => rfl
theorem g_law_stays (T : Facts K) (X : K.In h) (G : h.Ns mainGlobals mg) : DefG K mg d_law_stays := def_g X G (fd := d_law_stays) T.f_law_stays s_law_stays c_law_stays fun _ _ _ _ _ _ us hl => match us, hl with | [_, _, _], _ => rfl
theorem g_law_events (T : Facts K) (X : K.In h) (G : h.Ns mainGlobals mg) : DefG K mg d_law_events := def_g X G (fd := d_law_events) T.f_law_events s_law_events c_law_events fun _ _ _ _ _ _ us hl => match us, hl with | [_, _, _], _ => rfl
theorem g_law_is_cause (T : Facts K) (X : K.In h) (G : h.Ns mainGlobals mg) : DefG K mg d_law_is_cause := def_g X G (fd := d_law_is_cause) T.f_law_is_cause s_law_is_cause c_law_is_cause fun _ _ _ _ _ _ us hl => match us, hl with | [_, _, _, _, _], _ => rfl
theorem g_law_known (T : Facts K) (X : K.In h) (G : h.Ns mainGlobals mg) : DefG K mg d_law_known := def_g X G (fd := d_law_known) T.f_law_known s_law_known c_law_known fun _ _ _ _ _ _ us hl => match us, hl with | [], _ => rfl
theorem g_law_run (T : Facts K) (X : K.In h) (G : h.Ns mainGlobals mg) : DefG K mg d_law_run := def_g X G (fd := d_law_run) T.f_law_run s_law_run c_law_run fun _ _ _ _ _ _ us hl => match us, hl with | [_], _ => rfl
theorem g_law_graph (T : Facts K) (X : K.In h) (G : h.Ns mainGlobals mg) : DefG K mg d_law_graph := def_g X G (fd := d_law_graph) T.f_law_graph s_law_graph c_law_graph fun _ _ _ _ _ _ us hl => match us, hl with | [_], _ => rfl
theorem g_law_free (T : Facts K) (X : K.In h) (G : h.Ns mainGlobals mg) : DefG K mg d_law_free := def_g X G (fd := d_law_free) T.f_law_free s_law_free c_law_free fun _ _ _ _ _ _ us hl => match us, hl with | [_, _, _], _ => rfl
theorem g_law_pair_holds (T : Facts K) (X : K.In h) (G : h.Ns mainGlobals mg) : DefG K mg d_law_pair_holds := def_g X G (fd := d_law_pair_holds) T.f_law_pair_holds s_law_pair_holds c_law_pair_holds fun _ _ _ _ _ _ us hl => match us, hl with | [_, _, _, _, _], _ => rfl
theorem g_law_holds (T : Facts K) (X : K.In h) (G : h.Ns mainGlobals mg) : DefG K mg d_law_holds := def_g X G (fd := d_law_holds) T.f_law_holds s_law_holds c_law_holds fun _ _ _ _ _ _ us hl => match us, hl with | [_, _, _], _ => rfl
theorem g_law (T : Facts K) (X : K.In h) (G : h.Ns mainGlobals mg) : DefG K mg d_law := def_g X G (fd := d_law) T.f_law s_law c_law fun _ _ _ _ _ _ us hl => match us, hl with | [_], _ => rfl
theorem g_all (T : Facts K) (X : K.In h) (G : h.Ns mainGlobals mg) : ∀ fd ∈ defs, DefG K mg fd := by
  unfold defs
  refine List.forall_mem_cons.mpr ⟨g_samples_of T X G, ?_⟩
  refine List.forall_mem_cons.mpr ⟨g_rows_of T X G, ?_⟩
  refine List.forall_mem_cons.mpr ⟨g_users T X G, ?_⟩
  refine List.forall_mem_cons.mpr ⟨g_uses T X G, ?_⟩
  refine List.forall_mem_cons.mpr ⟨g_stays_of T X G, ?_⟩
  refine List.forall_mem_cons.mpr ⟨g_stays T X G, ?_⟩
  refine List.forall_mem_cons.mpr ⟨g_handovers T X G, ?_⟩
  refine List.forall_mem_cons.mpr ⟨g_events_of T X G, ?_⟩
  refine List.forall_mem_cons.mpr ⟨g_events T X G, ?_⟩
  refine List.forall_mem_cons.mpr ⟨g_updates_until T X G, ?_⟩
  refine List.forall_mem_cons.mpr ⟨g_use_before T X G, ?_⟩
  refine List.forall_mem_cons.mpr ⟨g_request_causes T X G, ?_⟩
  refine List.forall_mem_cons.mpr ⟨g_value_causes T X G, ?_⟩
  refine List.forall_mem_cons.mpr ⟨g_compute_causes T X G, ?_⟩
  refine List.forall_mem_cons.mpr ⟨g_causes_of T X G, ?_⟩
  refine List.forall_mem_cons.mpr ⟨g_is_told T X G, ?_⟩
  refine List.forall_mem_cons.mpr ⟨g_is_number T X G, ?_⟩
  refine List.forall_mem_cons.mpr ⟨g_are_free T X G, ?_⟩
  refine List.forall_mem_cons.mpr ⟨g_exchanged T X G, ?_⟩
  refine List.forall_mem_cons.mpr ⟨g_judge_exchanges T X G, ?_⟩
  refine List.forall_mem_cons.mpr ⟨g_exchanges T X G, ?_⟩
  refine List.forall_mem_cons.mpr ⟨g_law_cell T X G, ?_⟩
  refine List.forall_mem_cons.mpr ⟨g_law_draws T X G, ?_⟩
  refine List.forall_mem_cons.mpr ⟨g_law_stream T X G, ?_⟩
  refine List.forall_mem_cons.mpr ⟨g_law_next T X G, ?_⟩
  refine List.forall_mem_cons.mpr ⟨g_law_same T X G, ?_⟩
  refine List.forall_mem_cons.mpr ⟨g_law_part T X G, ?_⟩
  refine List.forall_mem_cons.mpr ⟨g_law_looked T X G, ?_⟩
  refine List.forall_mem_cons.mpr ⟨g_law_users T X G, ?_⟩
  refine List.forall_mem_cons.mpr ⟨g_law_uses T X G, ?_⟩
  refine List.forall_mem_cons.mpr ⟨g_law_stays T X G, ?_⟩
  refine List.forall_mem_cons.mpr ⟨g_law_events T X G, ?_⟩
  refine List.forall_mem_cons.mpr ⟨g_law_is_cause T X G, ?_⟩
  refine List.forall_mem_cons.mpr ⟨g_law_known T X G, ?_⟩
  refine List.forall_mem_cons.mpr ⟨g_law_run T X G, ?_⟩
  refine List.forall_mem_cons.mpr ⟨g_law_graph T X G, ?_⟩
  refine List.forall_mem_cons.mpr ⟨g_law_free T X G, ?_⟩
  refine List.forall_mem_cons.mpr ⟨g_law_pair_holds T X G, ?_⟩
  refine List.forall_mem_cons.mpr ⟨g_law_holds T X G, ?_⟩
  refine List.forall_mem_cons.mpr ⟨g_law T X G, ?_⟩
  exact fun _ h => (by cases h)
theorem pr_mem {f : Str} {fd : FnDef} (h : Pr f = some fd) : fd ∈ defs ∧ fd.name = f := by
  unfold Pr at h
  exact ⟨List.mem_of_find?_eq_some h, by simpa using List.find?_some h⟩
theorem top_mk {P : Program} {w : World} (T : Facts K) (X : K.In h) (G : h.Ns mainGlobals mg) : Top P w K mg Pr cn (fun _ => none) exl where
  defs := fun f fd hf => by
    obtain ⟨h1, h2⟩ := pr_mem hf
    obtain ⟨s, a, fdd, k1, k2, k3, k4, k5⟩ := g_all T X G fd h1
    subst h2
    exact ⟨s, a, fdd, k1, k2, k3, k4, k5⟩
  bts := fun x hx => by
    unfold builtinNames at hx
    simp only [List.mem_cons, List.not_mem_nil, or_false] at hx
    rcases hx with rfl | rfl | rfl | rfl | rfl | rfl | rfl | rfl | rfl | rfl | rfl | rfl | rfl | rfl | rfl | rfl | rfl | rfl | rfl | rfl
    · exact PySem.W.mg_none_of X G T.b_len
    · exact PySem.W.mg_none_of X G T.b_abs
    · exact PySem.W.mg_none_of X G T.b_int
    · exact PySem.W.mg_none_of X G T.b_sum
    · exact PySem.W.mg_none_of X G T.b_all
    · exact PySem.W.mg_none_of X G T.b_max
    · exact PySem.W.mg_none_of X G T.b_min
    · exact PySem.W.mg_none_of X G T.b_tuple
    · exact PySem.W.mg_none_of X G T.b_list
    · exact PySem.W.mg_none_of X G T.b_sorted
    · exact PySem.W.mg_none_of X G T.b_dict
    · exact PySem.W.mg_none_of X G T.b_isinstance
    · exact PySem.W.mg_none_of X G T.b_set
    · exact PySem.W.mg_none_of X G T.b_range
    · exact PySem.W.mg_none_of X G T.b_enumerate
    · exact PySem.W.mg_none_of X G T.b_zip
    · exact PySem.W.mg_none_of X G T.b_bool
    · exact PySem.W.mg_none_of X G T.b_str
    · exact PySem.W.mg_none_of X G T.b_iter
    · exact PySem.W.mg_none_of X G T.b_ValueError
  cns := fun x d hx => by cases hx
  exs := fun c hc => by cases hc
  xi := fun c hc => by cases hc
  xm := fun c d hc => by cases hc
theorem fn_law {l : PySem.W.OpenLaw} {w : World} (T : Facts K) (X : K.In h) (G : h.Ns mainGlobals mg) {fa : Addr} (hfa : mg "law" = some (.ref fa)) :
    ∃ fd : FuncData, (∀ (s : Shared) (v : Value), BindsTo s fd ⟨[v], []⟩ [("_law_script", v)]) ∧ ∀ base : Heap, K.In base → base.Ns mainGlobals mg → FnOk l.prog w K mg base (L2.CX l.prog w) 14 fa fd ["_law_script"] (spScr K 63) := by
  obtain ⟨a, oc, od, kV, doc, pm, an, cdv, ct, osl, h1, h2, h3, h4⟩ := T.f_law.ex
  have e := hfa.symm.trans (PySem.W.mg_of X G h1)
  cases e
  refine ⟨PySem.W.fnOf "law" "law" (defArgs (st 44)) (defBody (st 44)) (defScope (st 44)) .none kV doc pm an cdv ct, fun s v => .of_eq rfl, fun base _ _ => ?_⟩
  obtain ⟨fdd, ⟨s, f⟩, F⟩ := law_fn (base := base) (top_mk (P := l.prog) (w := w) T X G) (n := 63) P_law rfl rfl hfa (k := 14) fun ns _ => law_eq ns
  obtain ⟨oc2, od2, kV2, doc2, pm2, an2, cdv2, ct2, osl2, _, lk, _⟩ := f.ex
  rw [h2] at lk
  cases lk
  exact F
end
end LW

open PySem PySem.W PyProof.Rows
set_option maxHeartbeats 0 in
theorem PySem.Challenge.cw_rowsahead_k30_free_neighbours_holds : PySem.Challenge.rw_rowsahead_k30_free_neighbours.Holds := by
  w_on; o_law; k_head; (case hw => w_witness2)
  k_fill
  refine L2.walk_of (l := PySem.Challenge.rw_rowsahead_k30_free_neighbours) (n := 63) (k := 14) (x := "_law_script") (CX := fun w => L2.CX PySem.Challenge.rw_rowsahead_k30_free_neighbours.prog w) (sp := fun w => MP.spScr _ 63) rfl (by decide) rfl ⟨rfl, by decide, by decide⟩ (fun w h Y => PySem.W.kIn_of Y) ?F (fun _ _ a ns hl _ hS => ⟨a, ns, rfl, hS, hl, fun _ => rfl⟩) (fun _ _ _ _ _ h => by obtain ⟨_, _, _, _, _, _, _, _, _, _, _, _, e⟩ := h; exact e)
  case F =>
    intro w mg fa h KX G hmg
    refine' LW.fn_law (l := PySem.Challenge.rw_rowsahead_k30_free_neighbours) (w := w) ?T KX G hmg
    case T =>
      refine' LW.Facts.mk ?f_samples_of ?f_rows_of ?f_users ?f_uses ?f_stays_of ?f_stays ?f_handovers ?f_events_of ?f_events ?f_updates_until ?f_use_before ?f_request_causes ?f_value_causes ?f_compute_causes ?f_causes_of ?f_is_told ?f_is_number ?f_are_free ?f_exchanged ?f_judge_exchanges ?f_exchanges ?f_law_cell ?f_law_draws ?f_law_stream ?f_law_next ?f_law_same ?f_law_part ?f_law_looked ?f_law_users ?f_law_uses ?f_law_stays ?f_law_events ?f_law_is_cause ?f_law_known ?f_law_run ?f_law_graph ?f_law_free ?f_law_pair_holds ?f_law_holds ?f_law ?b_len ?b_abs ?b_int ?b_sum ?b_all ?b_max ?b_min ?b_tuple ?b_list ?b_sorted ?b_dict ?b_isinstance ?b_set ?b_range ?b_enumerate ?b_zip ?b_bool ?b_str ?b_iter ?b_ValueError
      (case f_samples_of => refine' LW.def_mk ?h1 ?h2 ?h3 ?h4; (case h1 => k_is); (case h2 => k_is); (case h3 => k_is); (case h4 => k_is))
      (case f_rows_of => refine' LW.def_mk ?h1 ?h2 ?h3 ?h4; (case h1 => k_is); (case h2 => k_is); (case h3 => k_is); (case h4 => k_is))
      (case f_users => refine' LW.def_mk ?h1 ?h2 ?h3 ?h4; (case h1 => k_is); (case h2 => k_is); (case h3 => k_is); (case h4 => k_is))
      (case f_uses => refine' LW.def_mk ?h1 ?h2 ?h3 ?h4; (case h1 => k_is); (case h2 => k_is); (case h3 => k_is); (case h4 => k_is))
      (case f_stays_of => refine' LW.def_mk ?h1 ?h2 ?h3 ?h4; (case h1 => k_is); (case h2 => k_is); (case h3 => k_is); (case h4 => k_is))
      (case f_stays => refine' LW.def_mk ?h1 ?h2 ?h3 ?h4; (case h1 => k_is); (case h2 => k_is); (case h3 => k_is); (case h4 => k_is))
      (case f_handovers => refine' LW.def_mk ?h1 ?h2 ?h3 ?h4; (case h1 => k_is); (case h2 => k_is); (case h3 => k_is); (case h4 => k_is))
      (case f_events_of => refine' LW.def_mk ?h1 ?h2 ?h3 ?h4; (case h1 => k_is); (case h2 => k_is); (case h3 => k_is); (case h4 => k_is))
      (case f_events => refine' LW.def_mk ?h1 ?h2 ?h3 ?h4; (case h1 => k_is); (case h2 => k_is); (case h3 => k_is); (case h4 => k_is))
      (case f_updates_until => refine' LW.def_mk ?h1 ?h2 ?h3 ?h4; (case h1 => k_is); (case h2 => k_is); (case h3 => k_is); (case h4 => k_is))
      (case f_use_before => refine' LW.def_mk ?h1 ?h2 ?h3 ?h4; (case h1 => k_is); (case h2 => k_is); (case h3 => k_is); (case h4 => k_is))
      (case f_request_causes => refine' LW.def_mk ?h1 ?h2 ?h3 ?h4; (case h1 => k_is); (case h2 => k_is); (case h3 => k_is); (case h4 => k_is))
      (case f_value_causes => refine' LW.def_mk ?h1 ?h2 ?h3 ?h4; (case h1 => k_is); (case h2 => k_is); (case h3 => k_is); (case h4 => k_is))
      (case f_compute_causes => refine' LW.def_mk ?h1 ?h2 ?h3 ?h4; (case h1 => k_is); (case h2 => k_is); (case h3 => k_is); (case h4 => k_is))
      (case f_causes_of => refine' LW.def_mk ?h1 ?h2 ?h3 ?h4; (case h1 => k_is); (case h2 => k_is); (case h3 => k_is); (case h4 => k_is))
      (case f_is_told => refine' LW.def_mk ?h1 ?h2 ?h3 ?h4; (case h1 => k_is); (case h2 => k_is); (case h3 => k_is); (case h4 => k_is))
      (case f_is_number => refine' LW.def_mk ?h1 ?h2 ?h3 ?h4; (case h1 => k_is); (case h2 => k_is); (case h3 => k_is); (case h4 => k_is))
      (case f_are_free => refine' LW.def_mk ?h1 ?h2 ?h3 ?h4; (case h1 => k_is); (case h2 => k_is); (case h3 => k_is); (case h4 => k_is))
      (case f_exchanged => refine' LW.def_mk ?h1 ?h2 ?h3 ?h4; (case h1 => k_is); (case h2 => k_is); (case h3 => k_is); (case h4 => k_is))
      (case f_judge_exchanges => refine' LW.def_mk ?h1 ?h2 ?h3 ?h4; (case h1 => k_is); (case h2 => k_is); (case h3 => k_is); (case h4 => k_is))
      (case f_exchanges => refine' LW.def_mk ?h1 ?h2 ?h3 ?h4; (case h1 => k_is); (case h2 => k_is); (case h3 => k_is); (case h4 => k_is))
      (case f_law_cell => refine' LW.def_mk ?h1 ?h2 ?h3 ?h4; (case h1 => k_is); (case h2 => k_is); (case h3 => k_is); (case h4 => k_is))
      (case f_law_draws => refine' LW.def_mk ?h1 ?h2 ?h3 ?h4; (case h1 => k_is); (case h2 => k_is); (case h3 => k_is); (case h4 => k_is))
      (case f_law_stream => refine' LW.def_mk ?h1 ?h2 ?h3 ?h4; (case h1 => k_is); (case h2 => k_is); (case h3 => k_is); (case h4 => k_is))
      (case f_law_next => refine' LW.def_mk ?h1 ?h2 ?h3 ?h4; (case h1 => k_is); (case h2 => k_is); (case h3 => k_is); (case h4 => k_is))
      (case f_law_same => refine' LW.def_mk ?h1 ?h2 ?h3 ?h4; (case h1 => k_is); (case h2 => k_is); (case h3 => k_is); (case h4 => k_is))
      (case f_law_part => refine' LW.def_mk ?h1 ?h2 ?h3 ?h4; (case h1 => k_is); (case h2 => k_is); (case h3 => k_is); (case h4 => k_is))
      (case f_law_looked => refine' LW.def_mk ?h1 ?h2 ?h3 ?h4; (case h1 => k_is); (case h2 => k_is); (case h3 => k_is); (case h4 => k_is))
      (case f_law_users => refine' LW.def_mk ?h1 ?h2 ?h3 ?h4; (case h1 => k_is); (case h2 => k_is); (case h3 => k_is); (case h4 => k_is))
      (case f_law_uses => refine' LW.def_mk ?h1 ?h2 ?h3 ?h4; (case h1 => k_is); (case h2 => k_is); (case h3 => k_is); (case h4 => k_is))
      (case f_law_stays => refine' LW.def_mk ?h1 ?h2 ?h3 ?h4; (case h1 => k_is); (case h2 => k_is); (case h3 => k_is); (case h4 => k_is))
      (case f_law_events => refine' LW.def_mk ?h1 ?h2 ?h3 ?h4; (case h1 => k_is); (case h2 => k_is); (case h3 => k_is); (case h4 => k_is))
      (case f_law_is_cause => refine' LW.def_mk ?h1 ?h2 ?h3 ?h4; (case h1 => k_is); (case h2 => k_is); (case h3 => k_is); (case h4 => k_is))
      (case f_law_known => refine' LW.def_mk ?h1 ?h2 ?h3 ?h4; (case h1 => k_is); (case h2 => k_is); (case h3 => k_is); (case h4 => k_is))
      (case f_law_run => refine' LW.def_mk ?h1 ?h2 ?h3 ?h4; (case h1 => k_is); (case h2 => k_is); (case h3 => k_is); (case h4 => k_is))
      (case f_law_graph => refine' LW.def_mk ?h1 ?h2 ?h3 ?h4; (case h1 => k_is); (case h2 => k_is); (case h3 => k_is); (case h4 => k_is))
      (case f_law_free => refine' LW.def_mk ?h1 ?h2 ?h3 ?h4; (case h1 => k_is); (case h2 => k_is); (case h3 => k_is); (case h4 => k_is))
      (case f_law_pair_holds => refine' LW.def_mk ?h1 ?h2 ?h3 ?h4; (case h1 => k_is); (case h2 => k_is); (case h3 => k_is); (case h4 => k_is))
      (case f_law_holds => refine' LW.def_mk ?h1 ?h2 ?h3 ?h4; (case h1 => k_is); (case h2 => k_is); (case h3 => k_is); (case h4 => k_is))
      (case f_law => refine' LW.def_mk ?h1 ?h2 ?h3 ?h4; (case h1 => k_is); (case h2 => k_is); (case h3 => k_is); (case h4 => k_is))
      (case b_len => k_is)
      (case b_abs => k_is)
      (case b_int => k_is)
      (case b_sum => k_is)
      (case b_all => k_is)
      (case b_max => k_is)
      (case b_min => k_is)
      (case b_tuple => k_is)
      (case b_list => k_is)
      (case b_sorted => k_is)
      (case b_dict => k_is)
      (case b_isinstance => k_is)
      (case b_set => k_is)
      (case b_range => k_is)
      (case b_enumerate => k_is)
      (case b_zip => k_is)
      (case b_bool => k_is)
      (case b_str => k_is)
      (case b_iter => k_is)
      (case b_ValueError => k_is)
