import PyProof.Rows.All
import Wide.All
import OpenK.AllK
import Wide.FinOn
import HandS.ForMost
import HandS.Zip
import HandS.Walk
import HandS.TupAny
import HandS.TupMul
import HandS.Deep
import HandS.Flow
import HandS.IsInst
import HandS.Wide
import HandS.Style
import HandS.TupLe
import HandS.Text
import PyProof.Rows.IntBool
import KE.DataMinMax
import KE.SortData
import HandS.SetFor
import HandS.SortInts
import HandS.NoneIn
import HandS.Defaults
import KE.GoesMore
import HandS.Conv
import HandS.TupSets
import HandS.Strs
import HandS.Exc
import HandS.ExcOwn
import HandS.TryOnly
import HandS.WordsExc
import PySem.Challenge.RW_slipstall_k09_whole_slips
set_option Elab.async false
set_option linter.all false
set_option maxRecDepth 100000
/-! Ev: a small evaluator over plain data, and its agreement with the hand layer's readings. -/
namespace Ev
open PySem PySem.Spec PyProof.Rows L2

/-! ### values, the store, the monad -/
inductive W where
  | d (x : PyData)
  | ref (i : Nat)
  | scr (ns : List Int)
  | new (xs : List PyData)
inductive Cell where
  | lst (xs : List PyData)
abbrev Store := List Cell
structure Exc where
  cls : Str
  pay : List (Str × PyData)
inductive Res (α : Type) where
  | ok (a : α)
  | exc (e : Exc)
abbrev M (α : Type) := Store → Option (Res α × Store)
def mret {α : Type} (a : α) : M α := fun st => some (.ok a, st)
def mfail {α : Type} : M α := fun _ => none
def mbind {α β : Type} (m : M α) (k : α → M β) : M β := fun st => match m st with
  | none => none
  | some (.exc e, st') => some (.exc e, st')
  | some (.ok a, st') => k a st'
abbrev Env := List (Option W)

/-! ### how data stands in the abstract heap -/
/-- locs: the addresses of the store's cells; own: new lists in flight, the last one made ahead -/
structure Mu where
  locs : List Addr
  own : List Addr
def Mu.fp (μ : Mu) : List Addr := μ.locs ++ μ.own

mutual
inductive RepD (H : Hp) (F : List Addr) : PyData → V → Prop
  | none : RepD H F .none .non
  | bool (b : Bool) : RepD H F (.bool b) (.bl b)
  | int (i : Int) : RepD H F (.int i) (.int i)
  | str (x : Str) : RepD H F (.str x) (.str x)
  | list {a : Addr} {xs : List V} {ds : List PyData} : H a = some (.lst xs) → a ∉ F → RepDs H F ds xs → RepD H F (.list ds) (.ref a)
  | tuple {a : Addr} {xs : List V} {ds : List PyData} : H a = some (.tup xs) → RepDs H F ds xs → RepD H F (.tuple ds) (.ref a)
inductive RepDs (H : Hp) (F : List Addr) : List PyData → List V → Prop
  | nil : RepDs H F [] []
  | cons {d : PyData} {v : V} {ds : List PyData} {vs : List V} : RepD H F d v → RepDs H F ds vs → RepDs H F (d :: ds) (v :: vs)
end

structure HX (H : Hp) (F : List Addr) (H' : Hp) (F' : List Addr) : Prop where
  tup : ∀ a xs, H a = some (.tup xs) → H' a = some (.tup xs)
  lst : ∀ a xs, H a = some (.lst xs) → a ∉ F → H' a = some (.lst xs) ∧ a ∉ F'
  frz : ∀ a o u, H a = some (.frz o u) → H' a = some (.frz o u)

section
variable {H H' H'' : Hp} {F F' F'' : List Addr}
mutual
theorem RepD.ext (e : HX H F H' F') : ∀ {d : PyData} {v : V}, RepD H F d v → RepD H' F' d v
  | _, _, .none => .none
  | _, _, .bool b => .bool b
  | _, _, .int i => .int i
  | _, _, .str x => .str x
  | _, _, .list h n r => .list (e.lst _ _ h n).1 (e.lst _ _ h n).2 (RepDs.ext e r)
  | _, _, .tuple h r => .tuple (e.tup _ _ h) (RepDs.ext e r)
theorem RepDs.ext (e : HX H F H' F') : ∀ {ds : List PyData} {vs : List V}, RepDs H F ds vs → RepDs H' F' ds vs
  | _, _, .nil => .nil
  | _, _, .cons a r => .cons (RepD.ext e a) (RepDs.ext e r)
end
theorem HX.refl : HX H F H F := ⟨fun _ _ h => h, fun _ _ h n => ⟨h, n⟩, fun _ _ _ h => h⟩
theorem HX.trans (a : HX H F H' F') (b : HX H' F' H'' F'') : HX H F H'' F'' :=
  ⟨fun c xs h => b.tup c xs (a.tup c xs h), fun c xs h n => let ⟨p, q⟩ := a.lst c xs h n; b.lst c xs p q, fun c o u h => b.frz c o u (a.frz c o u h)⟩
theorem HX.sub (h : ∀ a, a ∈ F' → a ∈ F) : HX H F H F' := ⟨fun _ _ e => e, fun _ _ e n => ⟨e, fun z => n (h _ z)⟩, fun _ _ _ e => e⟩
/-- something new is laid -/
theorem HX.laid {p : Addr} {o : HO} (hp : H p = none) : HX H F (upd H p o) F :=
  ⟨fun a xs h => by rw [upd_ne (ne_of_none h hp)]; exact h, fun a xs h n => ⟨by rw [upd_ne (ne_of_none h hp)]; exact h, n⟩, fun a o u h => by rw [upd_ne (ne_of_none h hp)]; exact h⟩
/-- a list of the footprint is rewritten -/
theorem HX.write {p : Addr} {xs : List V} {o : HO} (hp : H p = some (.lst xs)) (hF : p ∈ F) : HX H F (upd H p o) F :=
  ⟨fun a ys h => by rw [upd_ne (ne_of h hp (by intro z; cases z))]; exact h, fun a ys h n => ⟨by rw [upd_ne (show a ≠ p from fun z => n (by rw [z]; exact hF))]; exact h, n⟩, fun a o u h => by rw [upd_ne (ne_of h hp (by intro z; cases z))]; exact h⟩
theorem RepDs.length : ∀ {ds : List PyData} {vs : List V}, RepDs H F ds vs → ds.length = vs.length
  | _, _, .nil => rfl
  | _, _, .cons _ r => by rw [List.length_cons, List.length_cons, r.length]
theorem RepDs.get : ∀ {ds : List PyData} {vs : List V} {i : Nat} {d : PyData}, RepDs H F ds vs → ds[i]? = some d → ∃ v, vs[i]? = some v ∧ RepD H F d v
  | _, _, _, _, .nil, e => by simp at e
  | _, _, 0, _, .cons a _, e => by simp at e; subst e; exact ⟨_, rfl, a⟩
  | _, _, i + 1, d, .cons _ r, e => by
    obtain ⟨v, h1, h2⟩ := RepDs.get (i := i) (d := d) r (by simpa using e)
    exact ⟨v, by simpa using h1, h2⟩
theorem RepDs.append : ∀ {ds es : List PyData} {vs us : List V}, RepDs H F ds vs → RepDs H F es us → RepDs H F (ds ++ es) (vs ++ us)
  | _, _, _, _, .nil, r => r
  | _, _, _, _, .cons a r, s => .cons a (RepDs.append r s)
theorem RepDs.take : ∀ {ds : List PyData} {vs : List V} (n : Nat), RepDs H F ds vs → RepDs H F (ds.take n) (vs.take n)
  | _, _, 0, _ => .nil
  | _, _, _ + 1, .nil => .nil
  | _, _, n + 1, .cons a r => .cons a (RepDs.take n r)
theorem RepDs.drop : ∀ {ds : List PyData} {vs : List V} (n : Nat), RepDs H F ds vs → RepDs H F (ds.drop n) (vs.drop n)
  | _, _, 0, r => r
  | _, _, _ + 1, .nil => .nil
  | _, _, n + 1, .cons _ r => RepDs.drop n r
theorem RepDs.set {d : PyData} {v : V} (a : RepD H F d v) : ∀ {ds : List PyData} {vs : List V} (i : Nat), RepDs H F ds vs → RepDs H F (ds.set i d) (vs.set i v)
  | _, _, _, .nil => .nil
  | _, _, 0, .cons _ r => .cons a r
  | _, _, i + 1, .cons b r => .cons b (RepDs.set a i r)
theorem RepDs.reverse {ds : List PyData} {vs : List V} (r : RepDs H F ds vs) : RepDs H F ds.reverse vs.reverse := by
  induction ds generalizing vs with
  | nil => cases r; exact .nil
  | cons d ds ih =>
    cases r with
    | cons a r =>
      rw [List.reverse_cons, List.reverse_cons]
      exact (ih r).append (.cons a .nil)
theorem RepDs.rep {ds : List PyData} {vs : List V} (r : RepDs H F ds vs) : ∀ k : Nat, RepDs H F (List.replicate k ds).flatten (List.replicate k vs).flatten
  | 0 => .nil
  | k + 1 => by
    rw [List.replicate_succ, List.replicate_succ, List.flatten_cons, List.flatten_cons]
    exact r.append (RepDs.rep r k)
theorem RepDs.ints : ∀ {ns : List Int} {vs : List V}, RepDs H F (ns.map PyData.int) vs → vs = ns.map V.int
  | [], _, .nil => rfl
  | n :: ns, _, .cons a r => by
    cases a
    rw [List.map_cons, RepDs.ints r]
theorem RepDs.bools : ∀ {ns : List Bool} {vs : List V}, RepDs H F (ns.map PyData.bool) vs → vs = ns.map V.bl
  | [], _, .nil => rfl
  | n :: ns, _, .cons a r => by
    cases a
    rw [List.map_cons, RepDs.bools r]
theorem RepDs.strs : ∀ {ns : List Str} {vs : List V}, RepDs H F (ns.map PyData.str) vs → vs = ns.map V.str
  | [], _, .nil => rfl
  | n :: ns, _, .cons a r => by
    cases a
    rw [List.map_cons, RepDs.strs r]
theorem RepDs.ofInts : ∀ ns : List Int, RepDs H F (ns.map PyData.int) (ns.map V.int)
  | [] => .nil
  | n :: ns => .cons (.int n) (RepDs.ofInts ns)
theorem RepDs.ofStrs : ∀ ns : List Str, RepDs H F (ns.map PyData.str) (ns.map V.str)
  | [] => .nil
  | n :: ns => .cons (.str n) (RepDs.ofStrs ns)
mutual
theorem RepD.dp {K : PySem.W.Frag} : ∀ {d : PyData} {v : V}, RepD H F d v → Dp K H v d
  | _, _, .none => .non
  | _, _, .bool b => .bl b
  | _, _, .int i => .int i
  | _, _, .str x => .str x
  | _, _, .list h _ r => .lst (SqL.of h) (RepDs.dp r)
  | _, _, .tuple h r => .tup (SqT.of h) (RepDs.dp r)
theorem RepDs.dp {K : PySem.W.Frag} : ∀ {ds : List PyData} {vs : List V}, RepDs H F ds vs → DpAll K H vs ds
  | _, _, .nil => .nil
  | _, _, .cons a r => .cons (RepD.dp a) (RepDs.dp r)
end
end

structure Ext (μ : Mu) (H : Hp) (μ' : Mu) (H' : Hp) : Prop where
  hx : HX H μ.fp H' μ'.fp
  locs : ∀ (i : Nat) (a : Addr), μ.locs[i]? = some a → μ'.locs[i]? = some a
  own : ∀ a ∈ μ.own, a ∈ μ'.own ∧ H' a = H a
theorem Ext.refl {μ : Mu} {H : Hp} : Ext μ H μ H := ⟨.refl, fun _ _ h => h, fun _ h => ⟨h, rfl⟩⟩
theorem Ext.trans {μ μ' μ'' : Mu} {H H' H'' : Hp} (a : Ext μ H μ' H') (b : Ext μ' H' μ'' H'') : Ext μ H μ'' H'' :=
  ⟨a.hx.trans b.hx, fun i c h => b.locs i c (a.locs i c h), fun c h => let ⟨h1, h2⟩ := a.own c h; let ⟨h3, h4⟩ := b.own c h1; ⟨h3, h4.trans h2⟩⟩
theorem fp_sub {μ : Mu} {O : List Addr} (h : ∀ a ∈ O, a ∈ μ.own) : ∀ a ∈ (Mu.mk μ.locs O).fp, a ∈ μ.fp := fun a ha => by
  rcases List.mem_append.mp ha with h' | h'
  · exact List.mem_append_left _ h'
  · exact List.mem_append_right _ (h a h')
theorem Ext.trim {μ μ' : Mu} {H H' : Hp} {O : List Addr} (e : Ext μ H μ' H') (h : ∀ a ∈ O, a ∈ μ'.own) (hb : ∀ a ∈ μ.own, a ∈ O) : Ext μ H ⟨μ'.locs, O⟩ H' :=
  ⟨e.hx.trans (.sub (fp_sub h)), e.locs, fun a ha => ⟨hb a ha, (e.own a ha).2⟩⟩

def ScrAt (K : PySem.W.Frag) (H : Hp) (a : Addr) (ns : List Int) : Prop :=
  (∃ o, H a = some (.frz o (.lst (ns.map V.int)))) ∨
    ∃ (o : Obj) (its : Array Value) (n : Nat), K.lookup a = some o ∧ o.cls = .type "list" ∧ o.dict = none ∧ o.data = .seq its n ∧ its.size ≤ sizeLine ∧ Vals (ns.map V.int) its.toList
theorem ScrAt.sq {K : PySem.W.Frag} {H : Hp} {a : Addr} {ns : List Int} (h : ScrAt K H a ns) : SqL K H a (ns.map V.int) := by
  rcases h with ⟨o, h⟩ | h
  · exact .inl (.inr ⟨o, h⟩)
  · exact .inr h
def RepW (K : PySem.W.Frag) (μ : Mu) (fr : List Addr) (H : Hp) : W → V → Prop
  | .d x, v => fr = [] ∧ RepD H μ.fp x v
  | .ref i, v => fr = [] ∧ ∃ a, μ.locs[i]? = some a ∧ v = .ref a
  | .scr ns, v => fr = [] ∧ ∃ a, v = .ref a ∧ ScrAt K H a ns
  | .new xs, v => ∃ a vs, fr = [a] ∧ v = .ref a ∧ H a = some (.lst vs) ∧ RepDs H μ.fp xs vs
theorem RepW.ext {K : PySem.W.Frag} {μ μ' : Mu} {fr : List Addr} {H H' : Hp} (e : Ext μ H μ' H') (hf : ∀ a ∈ fr, a ∈ μ.own) : ∀ {w : W} {v : V}, RepW K μ fr H w v → RepW K μ' fr H' w v
  | .d _, _, h => ⟨h.1, RepD.ext e.hx h.2⟩
  | .ref i, _, h => let ⟨h0, a, h1, h2⟩ := h; ⟨h0, a, e.locs i a h1, h2⟩
  | .scr _, _, h => by
    obtain ⟨h0, a, h1, h2⟩ := h
    refine ⟨h0, a, h1, ?_⟩
    rcases h2 with ⟨o, h2⟩ | h2
    · exact .inl ⟨o, e.hx.frz _ _ _ h2⟩
    · exact .inr h2
  | .new _, _, h => by
    obtain ⟨a, vs, rfl, h2, h3, h4⟩ := h
    exact ⟨a, vs, rfl, h2, by rw [(e.own a (hf a List.mem_cons_self)).2]; exact h3, h4.ext e.hx⟩
/-- with a lesser footprint -/
theorem RepW.trim {K : PySem.W.Frag} {μ : Mu} {fr O : List Addr} {H : Hp} (h : ∀ a ∈ O, a ∈ μ.own) : ∀ {w : W} {v : V}, RepW K μ fr H w v → RepW K ⟨μ.locs, O⟩ fr H w v
  | .d _, _, r => ⟨r.1, r.2.ext (.sub (fp_sub h))⟩
  | .ref _, _, r => r
  | .scr _, _, r => r
  | .new _, _, r => let ⟨a, vs, h1, h2, h3, h4⟩ := r; ⟨a, vs, h1, h2, h3, h4.ext (.sub (fp_sub h))⟩
inductive RepWs (K : PySem.W.Frag) (μ : Mu) : List Addr → Hp → List W → List V → Prop
  | nil {H : Hp} : RepWs K μ [] H [] []
  | cons {H : Hp} {fr frs : List Addr} {w : W} {v : V} {ws : List W} {vs : List V} : RepW K μ fr H w v → RepWs K μ frs H ws vs → RepWs K μ (frs ++ fr) H (w :: ws) (v :: vs)
theorem RepWs.ext {K : PySem.W.Frag} {μ μ' : Mu} {H H' : Hp} (e : Ext μ H μ' H') {fr : List Addr} {ws : List W} {vs : List V} (h : ∀ a ∈ fr, a ∈ μ.own) (r : RepWs K μ fr H ws vs) : RepWs K μ' fr H' ws vs := by
  induction r with
  | nil => exact .nil
  | cons a r ih => exact .cons (a.ext e fun b hb => h b (List.mem_append_right _ hb)) (ih e fun b hb => h b (List.mem_append_left _ hb))
theorem RepWs.trim {K : PySem.W.Frag} {μ : Mu} {O : List Addr} {H : Hp} (h : ∀ a ∈ O, a ∈ μ.own) : ∀ {fr : List Addr} {ws : List W} {vs : List V}, RepWs K μ fr H ws vs → RepWs K ⟨μ.locs, O⟩ fr H ws vs
  | _, _, _, .nil => .nil
  | _, _, _, .cons a r => .cons (a.trim h) (RepWs.trim h r)
theorem RepWs.length {K : PySem.W.Frag} {μ : Mu} {H : Hp} : ∀ {fr : List Addr} {ws : List W} {vs : List V}, RepWs K μ fr H ws vs → ws.length = vs.length
  | _, _, _, .nil => rfl
  | _, _, _, .cons _ r => by rw [List.length_cons, List.length_cons, r.length]

/-- the store -/
structure SR (μ : Mu) (st : Store) (H : Hp) : Prop where
  len : μ.locs.length = st.length
  nd : μ.fp.Nodup
  cell : ∀ (i : Nat) (xs : List PyData), st[i]? = some (.lst xs) → ∃ a vs, μ.locs[i]? = some a ∧ H a = some (.lst vs) ∧ RepDs H μ.fp xs vs
  own : ∀ a ∈ μ.own, ∃ vs, H a = some (.lst vs)
def Slots (K : PySem.W.Frag) (μ : Mu) (H : Hp) (ρ : Env) (σ : L2.St) : Prop :=
  ρ.length = σ.length ∧ ∀ (i : Nat) (w : W), ρ[i]? = some (some w) → ∃ v, σ[i]? = some (some v) ∧ RepW K μ [] H w v
theorem Slots.ext {K : PySem.W.Frag} {μ μ' : Mu} {H H' : Hp} {ρ : Env} {σ : L2.St} (e : Ext μ H μ' H') (h : Slots K μ H ρ σ) : Slots K μ' H' ρ σ :=
  ⟨h.1, fun i w q => let ⟨v, a, b⟩ := h.2 i w q; ⟨v, a, b.ext e (fun _ h => absurd h List.not_mem_nil)⟩⟩
theorem Slots.trim {K : PySem.W.Frag} {μ : Mu} {O : List Addr} {H : Hp} {ρ : Env} {σ : L2.St} (ho : ∀ a ∈ O, a ∈ μ.own) (h : Slots K μ H ρ σ) : Slots K ⟨μ.locs, O⟩ H ρ σ :=
  ⟨h.1, fun i w q => let ⟨v, a, b⟩ := h.2 i w q; ⟨v, a, b.trim ho⟩⟩
theorem Slots.set {K : PySem.W.Frag} {μ : Mu} {H : Hp} {ρ : Env} {σ : L2.St} {i : Nat} {w : W} {v : V} (h : Slots K μ H ρ σ) (r : RepW K μ [] H w v) : Slots K μ H (ρ.set i (some w)) (σ.set i (some v)) := by
  refine ⟨by rw [List.length_set, List.length_set]; exact h.1, fun j w' q => ?_⟩
  by_cases e : i = j
  · subst e
    have hl : i < ρ.length := by
      have := (List.getElem?_eq_some_iff.mp q).1
      rwa [List.length_set] at this
    rw [List.getElem?_set_self hl] at q
    cases q
    exact ⟨v, List.getElem?_set_self (by rw [← h.1]; exact hl), r⟩
  · rw [List.getElem?_set_ne e] at q
    obtain ⟨v', a, b⟩ := h.2 j w' q
    exact ⟨v', by rw [List.getElem?_set_ne e]; exact a, b⟩

section
variable {μ : Mu} {st : Store} {H : Hp}
/-- every address of the footprint is tracked -/
theorem SR.trk (s : SR μ st H) : ∀ a ∈ μ.fp, ∃ vs, H a = some (.lst vs) := fun a ha => by
  rcases List.mem_append.mp ha with h | h
  · obtain ⟨i, hi⟩ := List.mem_iff_getElem?.mp h
    have hl : i < st.length := by rw [← s.len]; exact (List.getElem?_eq_some_iff.mp hi).1
    obtain ⟨⟨xs⟩, hc⟩ : ∃ c, st[i]? = some c := ⟨_, List.getElem?_eq_getElem hl⟩
    obtain ⟨a', vs, h1, h2, _⟩ := s.cell i xs hc
    rw [hi] at h1
    cases h1
    exact ⟨vs, h2⟩
  · exact s.own a h
theorem SR.fresh (s : SR μ st H) {p : Addr} (hp : H p = none) : p ∉ μ.fp := fun z => by
  obtain ⟨vs, h⟩ := s.trk p z
  rw [hp] at h
  cases h
theorem SR.trim {O : List Addr} (s : SR μ st H) (h : O.Sublist μ.own) : SR ⟨μ.locs, O⟩ st H :=
  ⟨s.len, ((List.Sublist.refl μ.locs).append h).nodup s.nd, fun i xs q => let ⟨a, vs, h1, h2, h3⟩ := s.cell i xs q; ⟨a, vs, h1, h2, h3.ext (.sub (fp_sub fun a ha => h.subset ha))⟩, fun a ha => s.own a (h.subset ha)⟩
/-- something new is laid outside the footprint -/
theorem Ext.laid {p : Addr} {o : HO} (s : SR μ st H) (hp : H p = none) : Ext μ H μ (upd H p o) :=
  ⟨.laid hp, fun _ _ h => h, fun a h => ⟨h, upd_ne (show a ≠ p from fun z => s.fresh hp (z ▸ List.mem_append_right _ h))⟩⟩
theorem SR.ext0 {H' : Hp} (s : SR μ st H) (e : Ext μ H μ H') (k : ∀ a ∈ μ.fp, H' a = H a) : SR μ st H' :=
  ⟨s.len, s.nd, fun i xs q => let ⟨a, vs, h1, h2, h3⟩ := s.cell i xs q; ⟨a, vs, h1, (k a (List.mem_append_left _ (List.mem_of_getElem? h1))).trans h2, h3.ext e.hx⟩,
    fun a h => let ⟨vs, q⟩ := s.own a h; ⟨vs, (k a (List.mem_append_right _ h)).trans q⟩⟩
theorem SR.laid {p : Addr} {o : HO} (s : SR μ st H) (hp : H p = none) : SR μ st (upd H p o) :=
  s.ext0 (Ext.laid s hp) fun a h => upd_ne fun z => s.fresh hp (z ▸ h)
/-- a new list is laid, in flight -/
theorem Ext.push {p : Addr} {vs : List V} (s : SR μ st H) (hp : H p = none) : Ext μ H ⟨μ.locs, p :: μ.own⟩ (upd H p (.lst vs)) := by
  refine ⟨⟨(HX.laid (F := μ.fp) hp).tup, fun a xs h n => ⟨((HX.laid (F := μ.fp) hp).lst a xs h n).1, fun z => ?_⟩, (HX.laid (F := μ.fp) hp).frz⟩, fun _ _ h => h, fun a h => ⟨List.mem_cons_of_mem _ h, ((Ext.laid s hp).own a h).2⟩⟩
  rcases List.mem_append.mp z with z | z
  · exact n (List.mem_append_left _ z)
  · rcases List.mem_cons.mp z with z | z
    · subst z
      rw [hp] at h
      cases h
    · exact n (List.mem_append_right _ z)
theorem SR.push {p : Addr} {vs : List V} (s : SR μ st H) (hp : H p = none) : SR ⟨μ.locs, p :: μ.own⟩ st (upd H p (.lst vs)) := by
  have hf := s.fresh hp
  have e := Ext.push (vs := vs) s hp
  refine ⟨s.len, ?_, fun i xs q => ?_, fun a ha => ?_⟩
  · have hn := s.nd
    unfold Mu.fp at hn hf ⊢
    rw [List.nodup_append] at hn ⊢
    refine ⟨hn.1, List.nodup_cons.mpr ⟨fun z => hf (List.mem_append_right _ z), hn.2.1⟩, fun a ha b hb => ?_⟩
    rcases List.mem_cons.mp hb with rfl | hb
    · exact fun z => hf (List.mem_append_left _ (z ▸ ha))
    · exact hn.2.2 a ha b hb
  · obtain ⟨a, us, h1, h2, h3⟩ := s.cell i xs q
    refine ⟨a, us, h1, ?_, h3.ext e.hx⟩
    rw [upd_ne (show a ≠ p from fun z => hf (z ▸ List.mem_append_left _ (List.mem_of_getElem? h1)))]
    exact h2
  · rcases List.mem_cons.mp ha with rfl | ha
    · exact ⟨vs, upd_same⟩
    · obtain ⟨us, h⟩ := s.own a ha
      refine ⟨us, ?_⟩
      rw [upd_ne (show a ≠ p from fun z => hf (z ▸ List.mem_append_right _ ha))]
      exact h
end

/-! ### exceptions -/
def PayAt (H : Hp) (F : List Addr) : List (Str × PyData) → Option Addr → Prop
  | [], d => d = none
  | p :: ps, d => ∃ a fs, d = some a ∧ H a = some (.xd fs) ∧ ∀ f x, (f, x) ∈ p :: ps → ∃ v, fs.lookup f = some v ∧ RepD H F x v
def ExcAt (mg : Str → Option Value) (H : Hp) (F : List Addr) (e : Exc) (c : Value) (d : Option Addr) : Prop := mg e.cls = some c ∧ PayAt H F e.pay d

/-! ### what is wanted behind a computation that began at μ, H -/
section
variable (mg : Str → Option Value) (E : XK)
def PostG {α β : Type} (R : Mu → List Addr → Hp → α → β → Prop) (Q : β → Hp → Prop) (out : Option (Res α × Store)) (μ : Mu) (H : Hp) : Prop :=
  match out with
  | none => False
  | some (.ok a, st) => ∀ μ' fr y H', Ext μ H μ' H' → μ'.own = fr ++ μ.own → SR μ' st H' → R μ' fr H' a y → Q y H'
  | some (.exc e, st) => ∀ μ' H' c d, Ext μ H μ' H' → SR μ' st H' → ExcAt mg H' μ'.fp e c d → E c d H'
end
/-- where one stands: behind μ₀, H₀, with what is in flight (fr) ahead of what was -/
structure At (μ₀ : Mu) (H₀ : Hp) (fr : List Addr) (μ : Mu) (st : Store) (H : Hp) : Prop where
  ext : Ext μ₀ H₀ μ H
  own : μ.own = fr ++ μ₀.own
  sr : SR μ st H
theorem At.start {μ : Mu} {st : Store} {H : Hp} (s : SR μ st H) : At μ H [] μ st H := ⟨.refl, rfl, s⟩
theorem At.trans {μ₀ μ μ' : Mu} {H₀ H H' : Hp} {fr fr' : List Addr} {st st' : Store} (a : At μ₀ H₀ fr μ st H) (b : At μ H fr' μ' st' H') : At μ₀ H₀ (fr' ++ fr) μ' st' H' :=
  ⟨a.ext.trans b.ext, by rw [b.own, a.own, List.append_assoc], b.sr⟩
theorem At.mem {μ₀ μ : Mu} {H₀ H : Hp} {fr : List Addr} {st : Store} (a : At μ₀ H₀ fr μ st H) : ∀ b ∈ fr, b ∈ μ.own := fun b hb => by rw [a.own]; exact List.mem_append_left _ hb
/-- what is in flight is let go, but for some -/
theorem At.trim {μ₀ μ : Mu} {H₀ H : Hp} {fr fr' : List Addr} {st : Store} (a : At μ₀ H₀ fr μ st H) (h : fr'.Sublist fr) : At μ₀ H₀ fr' ⟨μ.locs, fr' ++ μ₀.own⟩ st H := by
  have hs : (fr' ++ μ₀.own).Sublist μ.own := by rw [a.own]; exact h.append (List.Sublist.refl _)
  exact ⟨a.ext.trim (fun b hb => hs.subset hb) (fun b hb => List.mem_append_right _ hb), rfl, a.sr.trim hs⟩
theorem At.sub {μ₀ μ : Mu} {H₀ H : Hp} {fr fr' : List Addr} {st : Store} (a : At μ₀ H₀ fr μ st H) (h : fr'.Sublist fr) : ∀ b ∈ fr' ++ μ₀.own, b ∈ μ.own := fun b hb => by
  rw [a.own]
  exact (h.append (List.Sublist.refl _)).subset hb
section
variable {mg : Str → Option Value} {E : XK} {α β γ δ : Type} {R : Mu → List Addr → Hp → α → β → Prop} {R' : Mu → List Addr → Hp → γ → δ → Prop} {μ₀ μ : Mu} {H₀ H : Hp} {st : Store} {fr : List Addr}
theorem PostG.mono {Q Q' : β → Hp → Prop} {out : Option (Res α × Store)} (h : PostG mg E R Q out μ H) (hq : ∀ y H', Q y H' → Q' y H') : PostG mg E R Q' out μ H := by
  match out, h with
  | some (.ok a, st), h => exact fun μ2 f y H2 e2 o s r => hq _ _ (h μ2 f y H2 e2 o s r)
  | some (.exc x, st), h => exact h
/-- the first part of two -/
theorem PostG.bind {Q : δ → Hp → Prop} {m : M α} {k : α → M γ} (h : PostG mg E R' Q (mbind m k st) μ₀ H₀) (B : At μ₀ H₀ fr μ st H) :
    PostG mg E R (fun y H1 => ∃ μ1 fr1 a st1, At μ H fr1 μ1 st1 H1 ∧ R μ1 fr1 H1 a y ∧ PostG mg E R' Q (k a st1) μ₀ H₀) (m st) μ H := by
  unfold mbind at h
  split at h
  · exact h.elim
  · next e st' q => rw [q]; exact fun μ1 H1 c d e1 s1 x => h μ1 H1 c d (B.ext.trans e1) s1 x
  · next a st' q => rw [q]; exact fun μ1 f y H1 e o s r => ⟨μ1, f, a, st', ⟨e, o, s⟩, r, h⟩
theorem PostG.bind0 {Q : δ → Hp → Prop} {m : M α} {k : α → M γ} (h : PostG mg E R' Q (mbind m k st) μ₀ H₀) :
    PostG mg E R (fun y H1 => ∃ μ1 fr1 a st1, At μ₀ H₀ fr1 μ1 st1 H1 ∧ R μ1 fr1 H1 a y ∧ PostG mg E R' Q (k a st1) μ₀ H₀) (m st) μ₀ H₀ := by
  unfold mbind at h
  split at h
  · exact h.elim
  · next e st' q => rw [q]; exact h
  · next a st' q => rw [q]; exact fun μ1 f y H1 e o s r => ⟨μ1, f, a, st', ⟨e, o, s⟩, r, h⟩
/-- to go on from where nothing is in flight -/
theorem PostG.from {Q : β → Hp → Prop} {out : Option (Res α × Store)} (h : PostG mg E R Q out μ₀ H₀) (B : At μ₀ H₀ [] μ st H) : PostG mg E R Q out μ H := by
  match out, h with
  | some (.ok a, st), h => exact fun μ2 f y H2 e2 o s r => h μ2 f y H2 (B.ext.trans e2) (by rw [o, B.own]; rfl) s r
  | some (.exc x, st), h => exact fun μ2 H2 c d e2 => h μ2 H2 c d (B.ext.trans e2)
theorem PostG.fin {Q : β → Hp → Prop} {a : α} {y : β} (h : PostG mg E R Q (some (.ok a, st)) μ₀ H₀) (B : At μ₀ H₀ fr μ st H) (r : R μ fr H a y) : Q y H := h μ fr y H B.ext B.own B.sr r
end

/-! ### the readings -/
def RepB : Mu → List Addr → Hp → Bool → Bool → Prop := fun _ fr _ a b => fr = [] ∧ a = b
section
variable (K : PySem.W.Frag) (mg : Str → Option Value) (E : XK)
def tE (f : Env → M W) : TE := fun σ H Q => ∃ μ ρ st, Slots K μ H ρ σ ∧ SR μ st H ∧ PostG mg E (RepW K) Q (f ρ st) μ H
def tT (f : Env → M Bool) : TT := fun σ H Q => ∃ μ ρ st, Slots K μ H ρ σ ∧ SR μ st H ∧ PostG mg E RepB Q (f ρ st) μ H
def tA (f : Env → M (List W)) : TA := fun σ H Q => ∃ μ ρ st, Slots K μ H ρ σ ∧ SR μ st H ∧ PostG mg E (RepWs K) Q (f ρ st) μ H
def rOf (f : W → W → M W) : R2 := fun x y H Q => ∃ μ₀ H₀ μ fr fr' w u st, At μ₀ H₀ (fr' ++ fr) μ st H ∧ RepW K μ fr H w x ∧ RepW K μ fr' H u y ∧ PostG mg E (RepW K) Q (f w u st) μ₀ H₀
def uOf (f : W → M W) : V → Hp → VK → Prop := fun x H Q => ∃ μ₀ H₀ μ fr w st, At μ₀ H₀ fr μ st H ∧ RepW K μ fr H w x ∧ PostG mg E (RepW K) Q (f w st) μ₀ H₀
def cOf (f : List W → M W) : List V → Hp → VK → Prop := fun xs H Q => ∃ μ₀ H₀ μ fr ws st, At μ₀ H₀ fr μ st H ∧ RepWs K μ fr H ws xs ∧ PostG mg E (RepW K) Q (f ws st) μ₀ H₀
def mOf (f : W → List W → M W) : V → List V → Hp → VK → Prop := fun x xs H Q => ∃ μ₀ H₀ μ fr fr' w ws st, At μ₀ H₀ (fr' ++ fr) μ st H ∧ RepW K μ fr H w x ∧ RepWs K μ fr' H ws xs ∧ PostG mg E (RepW K) Q (f w ws st) μ₀ H₀
end
section
variable {X : Cx}
theorem PE_imp {e : Expr} {t t' : TE} (h : PE X e t) (i : ∀ σ H Q, t' σ H Q → t σ H Q) : PE X e t' := ⟨fun pins s σ H Q I q => h.run pins s σ H Q I (i σ H Q q)⟩
theorem PT_imp {e : Expr} {t t' : TT} (h : PT X e t) (i : ∀ σ H Q, t' σ H Q → t σ H Q) : PT X e t' := ⟨fun pins s σ H Q I q => h.run pins s σ H Q I (i σ H Q q)⟩
theorem PW_imp {e : Expr} {t t' : TT} (h : PW X e t) (i : ∀ σ H Q, t' σ H Q → t σ H Q) : PW X e t' := ⟨fun wh pins s σ H Q I q => h.run wh pins s σ H Q I (i σ H Q q)⟩
theorem PA_imp {es : List Expr} {t t' : TA} (h : PA X es t) (i : ∀ σ H Q, t' σ H Q → t σ H Q) : PA X es t' := ⟨fun pos pins s σ H Q I q => h.run pos pins s σ H Q I (i σ H Q q)⟩
theorem PS_imp {st : Stmt} {t t' : TS} (h : PS X st t) (i : ∀ D σ H, t' D σ H → t D σ H) : PS X st t' := ⟨fun pins s σ H D I q => h.run pins s σ H D I (i D σ H q)⟩
theorem PSs_imp {st : List Stmt} {t t' : TS} (h : PSs X st t) (i : ∀ D σ H, t' D σ H → t D σ H) : PSs X st t' := ⟨fun pins s σ H D I q => h.run pins s σ H D I (i D σ H q)⟩
end

/-! ### names, constants, operators -/
def sVar (i : Nat) : Env → M W := fun ρ st => match ρ[i]? with
  | some (some w) => some (.ok w, st)
  | _ => none
def sCon (x : PyData) : Env → M W := fun _ st => some (.ok (.d x), st)
def sBin (op : W → W → M W) (f g : Env → M W) : Env → M W := fun ρ => mbind (f ρ) fun x => mbind (g ρ) fun y => op x y
def sUn (op : W → M W) (f : Env → M W) : Env → M W := fun ρ => mbind (f ρ) fun x => op x
def sArgs : List (Env → M W) → Env → M (List W)
  | [] => fun _ => mret []
  | f :: fs => fun ρ => mbind (f ρ) fun x => mbind (sArgs fs ρ) fun xs => mret (x :: xs)
def sCallB (op : List W → M W) (f : Env → M (List W)) : Env → M W := fun ρ => mbind (f ρ) fun xs => op xs
def sMeth (rcv : W → Bool) (op : W → List W → M W) (f : Env → M W) (g : Env → M (List W)) : Env → M W := fun ρ => mbind (f ρ) fun x => if rcv x = true then mbind (g ρ) fun xs => op x xs else mfail

section
variable {X : Cx} {mg : Str → Option Value} {E : XK} {a b : Expr} {f g : Env → M W} {pos : Pos}
theorem r_var {i : Nat} {x : Str} (hN : X.N[i]? = some x) (hv : Vis X.env.scope x) (hd : (x == ("__debug__" : Str)) = false) (hcd : (x == ("__classdict__" : Str)) = false) : PE X (.Name x pos) (tE X.K mg E (sVar i)) :=
  PE_imp (pe_var hN hv hd hcd) fun σ H Q ⟨μ, ρ, st, hs, hr, h⟩ => by
    unfold sVar at h
    split at h
    · next w q =>
      obtain ⟨v, h1, h2⟩ := hs.2 i w q
      exact ⟨v, h1, h.fin (.start hr) h2⟩
    · exact h.elim
theorem r_int {i : Int} {j : Nat} : PE X (.Constant (.int i) j pos) (tE X.K mg E (sCon (.int i))) := PE_imp pe_int fun σ H Q ⟨μ, ρ, st, hs, hr, h⟩ => h.fin (.start hr) ⟨rfl, .int i⟩
theorem r_bool {i : Bool} {j : Nat} : PE X (.Constant (.bool i) j pos) (tE X.K mg E (sCon (.bool i))) := PE_imp pe_bl fun σ H Q ⟨μ, ρ, st, hs, hr, h⟩ => h.fin (.start hr) ⟨rfl, .bool i⟩
theorem r_str {i : Str} {j : Nat} : PE X (.Constant (.str i) j pos) (tE X.K mg E (sCon (.str i))) := PE_imp pe_str fun σ H Q ⟨μ, ρ, st, hs, hr, h⟩ => h.fin (.start hr) ⟨rfl, .str i⟩
theorem r_none {j : Nat} : PE X (.Constant .none j pos) (tE X.K mg E (sCon .none)) := PE_imp pe_non fun σ H Q ⟨μ, ρ, st, hs, hr, h⟩ => h.fin (.start hr) ⟨rfl, .none⟩
/-- the walk through two operands -/
theorem tOp_of {op : W → W → M W} {σ : L2.St} {H : Hp} {Q : VK} (h : tE X.K mg E (sBin op f g) σ H Q) : tOp (rOf X.K mg E op) (tE X.K mg E f) (tE X.K mg E g) σ H Q := by
  obtain ⟨μ, ρ, st, hs, hr, h⟩ := h
  refine ⟨μ, ρ, st, hs, hr, (PostG.bind (R := RepW X.K) h (.start hr)).mono fun x H1 ⟨μ1, fr1, w1, st1, a1, r1, h1⟩ => ?_⟩
  refine ⟨μ1, ρ, st1, hs.ext a1.ext, a1.sr, (PostG.bind (R := RepW X.K) h1 a1).mono fun y H2 ⟨μ2, fr2, w2, st2, a2, r2, h2⟩ => ?_⟩
  exact ⟨μ, H, μ2, fr1, fr2, w1, w2, st2, a1.trans a2, r1.ext a2.ext a1.mem, r2, h2⟩
theorem r_bin {o : Operator} {op : W → W → M W} (ho : OpR X (binaryOp o) (rOf X.K mg E op)) (ha : PE X a (tE X.K mg E f)) (hb : PE X b (tE X.K mg E g)) : PE X (.BinOp a o b pos) (tE X.K mg E (sBin op f g)) :=
  PE_imp (pe_op ho ha hb) fun _ _ _ h => tOp_of h
theorem r_cmp {o : CmpOp} {op : W → W → M W} (ho : OpR X (compareOp o) (rOf X.K mg E op)) (ha : PE X a (tE X.K mg E f)) (hb : PE X b (tE X.K mg E g)) (hm : behindInMarks o b = false) : PE X (.Compare a [o] [b] pos) (tE X.K mg E (sBin op f g)) :=
  PE_imp (pe_cmpR ho ha hb hm) fun _ _ _ h => tOp_of h
theorem r_ix {op : W → W → M W} (ho : IxR X (rOf X.K mg E op)) (ha : PE X a (tE X.K mg E f)) (hb : PE X b (tE X.K mg E g)) (hm : PlainIx b) : PE X (.Subscript a b pos) (tE X.K mg E (sBin op f g)) :=
  PE_imp (pe_ix ho ha hb hm) fun _ _ _ h => tOp_of h
theorem r_un {o : UnaryOp} {op : W → M W} (ho : UnR X (unaryOp o) (uOf X.K mg E op)) (ha : PE X a (tE X.K mg E f)) : PE X (.UnaryOp o a pos) (tE X.K mg E (sUn op f)) :=
  PE_imp (pe_un ho ha) fun σ H Q ⟨μ, ρ, st, hs, hr, h⟩ =>
    ⟨μ, ρ, st, hs, hr, (PostG.bind (R := RepW X.K) h (.start hr)).mono fun x H1 ⟨μ1, fr1, w1, st1, a1, r1, h1⟩ => ⟨μ, H, μ1, fr1, w1, st1, a1, r1, h1⟩⟩
theorem r_args_nil : PA X [] (tA X.K mg E (sArgs [])) := PA_imp pa_nil fun σ H Q ⟨μ, ρ, st, hs, hr, h⟩ => h.fin (.start hr) .nil
theorem r_args_cons {es : List Expr} {fs : List (Env → M W)} (ha : PE X a (tE X.K mg E f)) (hb : PA X es (tA X.K mg E (sArgs fs))) (hs : starEach (a :: es) X.env = (false, eval a X.env) :: starEach es X.env) : PA X (a :: es) (tA X.K mg E (sArgs (f :: fs))) :=
  PA_imp (pa_cons ha hb hs) fun σ H Q ⟨μ, ρ, st, hs, hr, h⟩ => by
    refine ⟨μ, ρ, st, hs, hr, (PostG.bind (R := RepW X.K) h (.start hr)).mono fun x H1 ⟨μ1, fr1, w1, st1, a1, r1, h1⟩ => ?_⟩
    refine ⟨μ1, ρ, st1, hs.ext a1.ext, a1.sr, (PostG.bind (R := RepWs X.K) h1 a1).mono fun xs H2 ⟨μ2, fr2, ws, st2, a2, r2, h2⟩ => ?_⟩
    exact PostG.fin (R := RepWs X.K) h2 (a1.trans a2) (.cons (r1.ext a2.ext a1.mem) r2)
end
end Ev

set_option maxHeartbeats 4000000
namespace Ev
open PySem PySem.Spec PyProof.Rows L2
theorem tuple_mul1 (l : Addr) (items : Array Value) (n : Nat) (dd : Option Addr) (sl : Array (Option Value)) (x : Int) (u : Tok) (c0 : (decide (x < -(2 ^ 63)) || decide (x ≥ 2 ^ 63)) = false) (c1 : (items.isEmpty || x == 1) = true) :
    Meets (Builtin.«tuple.__mul__» ⟨[.ref l, .int x u], []⟩) (fun _ R s => s.heap.get? l = some { cls := .type "tuple", dict := dd, data := .seq items n, slots := sl } ∧ R (.ok (.ret (Value.ref l))) s) :=
  .of_wp fun prog w A R s h => by
    obtain ⟨hp, g, d, tk, os⟩ := s
    obtain ⟨hl, h⟩ := h
    have f1 := AutoSeq1.idx_int
    wp_walk using wpAny_loadPart' hl
    refine wpAny_ite_false (decide_eq_false (by rw [c0]; exact Bool.false_ne_true)) ?_
    wp_walk using wpAny_loadPart' hl
    exact ⟨_, rfl, h⟩
theorem tuple_mul0 (l : Addr) (items : Array Value) (n : Nat) (dd : Option Addr) (sl : Array (Option Value)) (x : Int) (u : Tok) (c0 : (decide (x < -(2 ^ 63)) || decide (x ≥ 2 ^ 63)) = false) (c1 : (items.isEmpty || x == 1) = false) (c2 : (decide (x ≤ 0) || items.isEmpty) = true) :
    Meets (Builtin.«tuple.__mul__» ⟨[.ref l, .int x u], []⟩) (fun _ R s => s.heap.get? l = some { cls := .type "tuple", dict := dd, data := .seq items n, slots := sl } ∧
      R (.ok (.ret (Value.ref s.heap.objs.size))) { s with heap := s.heap.push { cls := Value.type "tuple", data := Data.seq #[] }, toks := s.toks }) :=
  .of_wp fun prog w A R s h => by
    obtain ⟨hp, g, d, tk, os⟩ := s
    obtain ⟨hl, h⟩ := h
    have f1 := AutoSeq1.idx_int
    wp_walk using wpAny_loadPart' hl
    refine wpAny_ite_false (decide_eq_false (by rw [c0]; exact Bool.false_ne_true)) ?_
    wp_walk using wpAny_loadPart' hl
    exact ⟨_, rfl, h⟩
def rRepT1 (K : PySem.W.Frag) : R2 := fun x y H Q => ∃ l k xs, x = .ref l ∧ y = .int k ∧ SqT K H l xs ∧ k = 1 ∧ Q (.ref l) H
def rRepT0 (K : PySem.W.Frag) : R2 := fun x y H Q => ∃ l k xs, x = .ref l ∧ y = .int k ∧ SqT K H l xs ∧ xs ≠ [] ∧ -(2 ^ 63) ≤ k ∧ k ≤ 0 ∧ ∀ p, H p = none → Q (.ref p) (upd H p (.tup []))
section
variable {X : Cx}
theorem op_repT1 : OpR X (binaryOp .Mult) (rRepT1 X.K) := by
  intro pins s σ H x y v u Q I rx ry h
  obtain ⟨l, k, xs, rfl, rfl, hT, rfl, q⟩ := h
  cases rx
  obtain ⟨t, rfl⟩ := ry
  obtain ⟨its, r, ⟨⟨cls, dd, data, sl⟩, ho, hc, n, hd⟩, hs⟩ := I.tuple hT
  simp only at hc hd
  subst hc hd
  refine wpAny_binaryOp_repeat_ref (T := "tuple") (U := "int") (by decide) ⟨_, ho, rfl⟩ (fun s' => typeIs_int s' 1 t) noFill_tuple_mul F.fills_int_mul F.slot_int_rmul repeat_tuple F.slot_int_index.lookup
    (call_meets F.slot_int_rmul (typeIs_int s 1 t) F.entry_int_rmul (F.args_int_rmul_2 _ _) (int_rmul_tuple 1 t l its.toArray n dd sl)
      ⟨ho, rfl, ⟨_, ho, rfl⟩, call_meets F.slot_tuple_mul ⟨_, ho, rfl⟩ F.entry_tuple_mul (F.args_tuple_mul_2 _ _) (tuple_mul1 l its.toArray n dd sl 1 t (by decide) (by rw [show ((1 : Int) == 1) = true from rfl, Bool.or_true])) ⟨ho, ?_⟩⟩)
  exact ⟨.ref l, H, I, rfl, q⟩
theorem op_repT0 : OpR X (binaryOp .Mult) (rRepT0 X.K) := by
  intro pins s σ H x y v u Q I rx ry h
  obtain ⟨l, k, xs, rfl, rfl, hT, hne, h1, h2, q⟩ := h
  cases rx
  obtain ⟨t, rfl⟩ := ry
  obtain ⟨its, r, ⟨⟨cls, dd, data, sl⟩, ho, hc, n, hd⟩, hs⟩ := I.tuple hT
  simp only at hc hd
  subst hc hd
  have hle : its.length = xs.length := r.length.symm
  have hn : its ≠ [] := fun e => hne (by
    rw [e] at hle
    exact List.eq_nil_of_length_eq_zero hle.symm)
  have hi : its.toArray.isEmpty = false := by
    cases its with
    | nil => exact absurd rfl hn
    | cons a b => rfl
  have c0 : (decide (k < -(2 ^ 63)) || decide (k ≥ 2 ^ 63)) = false := by
    rw [decide_eq_false (by omega), decide_eq_false (by omega)] <;> rfl
  have c1 : (its.toArray.isEmpty || k == 1) = false := by
    rw [hi, Bool.false_or]
    exact beq_eq_false_iff_ne.mpr (by omega)
  have c2 : (decide (k ≤ 0) || its.toArray.isEmpty) = true := by
    rw [decide_eq_true h2, Bool.true_or]
  refine wpAny_binaryOp_repeat_ref (T := "tuple") (U := "int") (by decide) ⟨_, ho, rfl⟩ (fun s' => typeIs_int s' k t) noFill_tuple_mul F.fills_int_mul F.slot_int_rmul repeat_tuple F.slot_int_index.lookup
    (call_meets F.slot_int_rmul (typeIs_int s k t) F.entry_int_rmul (F.args_int_rmul_2 _ _) (int_rmul_tuple k t l its.toArray n dd sl)
      ⟨ho, rfl, ⟨_, ho, rfl⟩, call_meets F.slot_tuple_mul ⟨_, ho, rfl⟩ F.entry_tuple_mul (F.args_tuple_mul_2 _ _) (tuple_mul0 l its.toArray n dd sl k t c0 c1 c2) ⟨ho, ?_⟩⟩)
  refine ⟨.ref s.heap.objs.size, _, I.laid (t' := s.toks) (o := .tup []) (fun b ob q => Heap.get?_push_of_some _ q) (Nat.le_refl _) ?_, rfl, q _ (I.hok.fresh (Nat.le_refl _))⟩
  exact ⟨Nat.zero_le _, _, .nil, IsTup.new _ _⟩
end
end Ev

namespace Ev
open PySem PySem.Spec PyProof.Rows L2

/-! ### views of values -/
def asList : W → Store → Option (List PyData)
  | .d (.list xs), _ => some xs
  | .new xs, _ => some xs
  | .ref i, st => match st[i]? with
    | some (.lst xs) => some xs
    | none => none
  | _, _ => none
def asSeq : W → Store → Option (List PyData)
  | .d (.list xs), _ => some xs
  | .d (.tuple xs), _ => some xs
  | .new xs, _ => some xs
  | .ref i, st => match st[i]? with
    | some (.lst xs) => some xs
    | none => none
  | .scr ns, _ => some (ns.map PyData.int)
  | _, _ => none
/-- what is compared by == -/
def asData : W → Store → Option PyData
  | .d x, _ => some x
  | .new xs, _ => some (.list xs)
  | .ref i, st => match st[i]? with
    | some (.lst xs) => some (.list xs)
    | none => none
  | .scr _, _ => none

section
variable {K : PySem.W.Frag} {μ : Mu} {fr : List Addr} {H : Hp} {st : Store} {w : W} {v : V} {xs : List PyData}
theorem asList_sq (h : asList w st = some xs) (s : SR μ st H) (r : RepW K μ fr H w v) : ∃ a vs, v = .ref a ∧ H a = some (.lst vs) ∧ RepDs H μ.fp xs vs := by
  unfold asList at h
  split at h
  · cases h
    have r' : RepD H μ.fp _ v := r.2
    cases r' with
    | list h1 h2 h3 => exact ⟨_, _, rfl, h1, h3⟩
  · cases h
    obtain ⟨a, vs, _, rfl, h1, h2⟩ := r
    exact ⟨a, vs, rfl, h1, h2⟩
  · split at h
    · next q =>
      cases h
      obtain ⟨_, a, ha, rfl⟩ := r
      obtain ⟨a', vs, h1, h2, h3⟩ := s.cell _ _ q
      rw [ha] at h1
      cases h1
      exact ⟨a, vs, rfl, h2, h3⟩
    · cases h
  · cases h
theorem asSeq_sq (h : asSeq w st = some xs) (s : SR μ st H) (r : RepW K μ fr H w v) : ∃ a vs, v = .ref a ∧ (SqL K H a vs ∨ SqT K H a vs) ∧ RepDs H μ.fp xs vs := by
  unfold asSeq at h
  split at h
  · cases h
    have r' : RepD H μ.fp _ v := r.2
    cases r' with
    | list h1 h2 h3 => exact ⟨_, _, rfl, .inl (SqL.of h1), h3⟩
  · cases h
    have r' : RepD H μ.fp _ v := r.2
    cases r' with
    | tuple h1 h3 => exact ⟨_, _, rfl, .inr (SqT.of h1), h3⟩
  · cases h
    obtain ⟨a, vs, _, rfl, h1, h2⟩ := r
    exact ⟨a, vs, rfl, .inl (SqL.of h1), h2⟩
  · split at h
    · next q =>
      cases h
      obtain ⟨_, a, ha, rfl⟩ := r
      obtain ⟨a', vs, h1, h2, h3⟩ := s.cell _ _ q
      rw [ha] at h1
      cases h1
      exact ⟨a, vs, rfl, .inl (SqL.of h2), h3⟩
    · cases h
  · cases h
    obtain ⟨_, a, rfl, h2⟩ := r
    exact ⟨a, _, rfl, .inl h2.sq, RepDs.ofInts _⟩
  · cases h
theorem asData_dp {x : PyData} (h : asData w st = some x) (s : SR μ st H) (r : RepW K μ fr H w v) : Dp K H v x := by
  unfold asData at h
  split at h
  · cases h
    have r' : RepD H μ.fp _ v := r.2
    exact r'.dp
  · cases h
    obtain ⟨a, vs, _, rfl, h1, h2⟩ := r
    exact .lst (SqL.of h1) h2.dp
  · split at h
    · next q =>
      cases h
      obtain ⟨_, a, ha, rfl⟩ := r
      obtain ⟨a', vs, h1, h2, h3⟩ := s.cell _ _ q
      rw [ha] at h1
      cases h1
      exact .lst (SqL.of h2) h3.dp
    · cases h
  · cases h
end

/-! ### new things -/
section
variable {K : PySem.W.Frag} {mg : Str → Option Value} {E : XK} {μ₀ μ : Mu} {H₀ H : Hp} {fr : List Addr} {st : Store} {Q : VK} {ds : List PyData} {xs : List V}
theorem PostG.data {x : PyData} {v : V} (h : PostG mg E (RepW K) Q (some (.ok (.d x), st)) μ₀ H₀) (B : At μ₀ H₀ fr μ st H) (r : RepD H μ.fp x v) : Q v H :=
  h.fin (B.trim (List.nil_sublist _)) ⟨rfl, r.ext (.sub (fp_sub (B.sub (List.nil_sublist _))))⟩
theorem PostG.newTup (h : PostG mg E (RepW K) Q (some (.ok (.d (.tuple ds)), st)) μ₀ H₀) (B : At μ₀ H₀ fr μ st H) (r : RepDs H μ.fp ds xs) (p : Addr) (hp : H p = none) : Q (.ref p) (upd H p (.tup xs)) :=
  PostG.data (fr := fr) (μ := μ) h ⟨B.ext.trans (Ext.laid B.sr hp), B.own, B.sr.laid hp⟩ (.tuple upd_same (r.ext (HX.laid hp)))
theorem PostG.newLst (h : PostG mg E (RepW K) Q (some (.ok (.new ds), st)) μ₀ H₀) (B : At μ₀ H₀ fr μ st H) (r : RepDs H μ.fp ds xs) (p : Addr) (hp : H p = none) : Q (.ref p) (upd H p (.lst xs)) := by
  have B' : At μ₀ H₀ (p :: fr) ⟨μ.locs, p :: μ.own⟩ st (upd H p (.lst xs)) := ⟨B.ext.trans (Ext.push B.sr hp), by rw [B.own]; rfl, B.sr.push hp⟩
  have hs : [p].Sublist (p :: fr) := (List.nil_sublist fr).cons_cons p
  exact h.fin (B'.trim hs) ⟨p, xs, rfl, rfl, upd_same, (r.ext (Ext.push B.sr hp).hx).ext (.sub (fp_sub (B'.sub hs)))⟩
theorem PostG.int {i : Int} (h : PostG mg E (RepW K) Q (some (.ok (.d (.int i)), st)) μ₀ H₀) (B : At μ₀ H₀ fr μ st H) : Q (.int i) H := h.data B (.int i)
theorem PostG.bool {i : Bool} (h : PostG mg E (RepW K) Q (some (.ok (.d (.bool i)), st)) μ₀ H₀) (B : At μ₀ H₀ fr μ st H) : Q (.bl i) H := h.data B (.bool i)
theorem PostG.str {i : Str} (h : PostG mg E (RepW K) Q (some (.ok (.d (.str i)), st)) μ₀ H₀) (B : At μ₀ H₀ fr μ st H) : Q (.str i) H := h.data B (.str i)
theorem PostG.non (h : PostG mg E (RepW K) Q (some (.ok (.d .none), st)) μ₀ H₀) (B : At μ₀ H₀ fr μ st H) : Q .non H := h.data B .none
theorem PostG.tt {i : Bool} {Q : Bool → Hp → Prop} (h : PostG mg E RepB Q (some (.ok i, st)) μ₀ H₀) (B : At μ₀ H₀ fr μ st H) : Q i H := h.fin (B.trim (List.nil_sublist _)) ⟨rfl, rfl⟩
theorem RepW.int {i : Int} {v : V} (r : RepW K μ fr H (.d (.int i)) v) : v = .int i := by
  have r' : RepD H μ.fp _ v := r.2
  cases r'
  rfl
theorem RepW.bool {i : Bool} {v : V} (r : RepW K μ fr H (.d (.bool i)) v) : v = .bl i := by
  have r' : RepD H μ.fp _ v := r.2
  cases r'
  rfl
theorem RepW.str {i : Str} {v : V} (r : RepW K μ fr H (.d (.str i)) v) : v = .str i := by
  have r' : RepD H μ.fp _ v := r.2
  cases r'
  rfl
theorem RepW.non {v : V} (r : RepW K μ fr H (.d .none) v) : v = .non := by
  have r' : RepD H μ.fp _ v := r.2
  cases r'
  rfl
theorem RepW.tup {v : V} {ds : List PyData} (r : RepW K μ fr H (.d (.tuple ds)) v) : ∃ a vs, v = .ref a ∧ H a = some (.tup vs) ∧ RepDs H μ.fp ds vs := by
  have r' : RepD H μ.fp _ v := r.2
  cases r' with
  | tuple h1 h2 => exact ⟨_, _, rfl, h1, h2⟩
end

/-! ### binary operators -/
def mulOk (a b : Int) : Bool := decide (a.natAbs.log2 + b.natAbs.log2 < 1000000)
def divOk (b : Int) : Bool := decide (b ≠ 0) && decide (b.natAbs.log2 < 9000)
def opAdd : W → W → M W
  | .d (.int a), .d (.int b) => mret (.d (.int (a + b)))
  | .d (.bool a), .d (.int b) => mret (.d (.int (b2i a + b)))
  | .d (.int a), .d (.bool b) => mret (.d (.int (a + b2i b)))
  | .d (.str a), .d (.str b) => if a.length + b.length ≤ sizeLine then mret (.d (.str (a ++ b))) else mfail
  | .d (.tuple a), .d (.tuple b) => if a.length + b.length ≤ sizeLine then mret (.d (.tuple (a ++ b))) else mfail
  | x, y => fun st => match asList x st, asList y st with
    | some a, some b => if a.length + b.length ≤ sizeLine then some (.ok (.new (a ++ b)), st) else none
    | _, _ => none
def opSub : W → W → M W
  | .d (.int a), .d (.int b) => mret (.d (.int (a - b)))
  | .d (.bool a), .d (.int b) => mret (.d (.int (b2i a - b)))
  | _, _ => mfail
def opMul : W → W → M W
  | .d (.int a), .d (.int b) => if mulOk a b = true then mret (.d (.int (a * b))) else mfail
  | .d (.tuple a), .d (.int k) => if -(2 ^ 63) ≤ k ∧ k ≤ 1000 ∧ a.length ≤ 1000 ∧ (a ≠ [] ∨ k = 1) then mret (.d (.tuple (List.replicate k.toNat a).flatten)) else mfail
  | x, .d (.int k) => fun st => match asList x st with
    | some a => if -(2 ^ 63) ≤ k ∧ k < 2 ^ 63 ∧ a.length * k.toNat ≤ sizeLine then some (.ok (.new (List.replicate k.toNat a).flatten), st) else none
    | none => none
  | _, _ => mfail
def opDiv : W → W → M W
  | .d (.int a), .d (.int b) => if divOk b = true then mret (.d (.int (a.fdiv b))) else mfail
  | _, _ => mfail
def opMod : W → W → M W
  | .d (.int a), .d (.int b) => if b ≠ 0 then mret (.d (.int (a.fmod b))) else mfail
  | _, _ => mfail
def opPow : W → W → M W
  | .d (.int a), .d (.int b) => if 0 ≤ b ∧ b ≤ 1000000 ∧ a.natAbs < 2 ^ 64 then mret (.d (.int (a ^ b.toNat))) else mfail
  | _, _ => mfail

section
variable {X : Cx} {mg : Str → Option Value} {E : XK}
theorem op_add_bi : OpR X (binaryOp .Add) (fun x y H Q => ∃ k i, x = .bl k ∧ y = .int i ∧ Q (.int (b2i k + i)) H) := by
  rintro pins s σ H x y v u Q I rx ry ⟨k, i, rfl, rfl, q⟩
  obtain ⟨t, rfl⟩ := ry
  cases rx
  exact PySem.IntBool.add_bool_int ⟨.int (b2i k + i), H, I.tok _, ⟨_, rfl⟩, q⟩
theorem op_sub_bi : OpR X (binaryOp .Sub) (fun x y H Q => ∃ k i, x = .bl k ∧ y = .int i ∧ Q (.int (b2i k - i)) H) := by
  rintro pins s σ H x y v u Q I rx ry ⟨k, i, rfl, rfl, q⟩
  obtain ⟨t, rfl⟩ := ry
  cases rx
  exact PySem.IntBool.sub_bool_int ⟨.int (b2i k - i), H, I.tok _, ⟨_, rfl⟩, q⟩
theorem o_add : OpR X (binaryOp .Add) (rOf X.K mg E opAdd) := by
  intro pins s σ H x y v u Q I rx ry ⟨μ₀, H₀, μ, fr, fr', w1, w2, st, B, r1, r2, h⟩
  unfold opAdd at h
  split at h
  · cases r1.int
    cases r2.int
    exact op_add pins s σ H _ _ v u Q I rx ry ⟨_, _, rfl, rfl, PostG.int h B⟩
  · cases r1.bool
    cases r2.int
    exact op_add_bi pins s σ H _ _ v u Q I rx ry ⟨_, _, rfl, rfl, PostG.int h B⟩
  · cases r1.int
    cases r2.bool
    exact op_add_ib pins s σ H _ _ v u Q I rx ry ⟨_, _, rfl, rfl, PostG.int h B⟩
  · split at h
    · next hl =>
      cases r1.str
      cases r2.str
      exact op_add_str pins s σ H _ _ v u Q I rx ry ⟨_, _, rfl, rfl, hl, PostG.str h B⟩
    · exact h.elim
  · next da db =>
    split at h
    · next hl =>
      obtain ⟨a, va, rfl, ha, ra⟩ := r1.tup
      obtain ⟨b, vb, rfl, hb, rb⟩ := r2.tup
      have la := ra.length
      have lb := rb.length
      refine op_catA pins s σ H _ _ v u Q I rx ry ⟨a, b, va, vb, rfl, rfl, SqT.of ha, SqT.of hb, by omega, fun e => ?_, fun e e' => ?_, fun e e' p hp => ?_⟩
      · subst e
        cases ra
        exact PostG.data h B r2.2
      · subst e'
        cases rb
        rw [List.append_nil] at h
        exact PostG.data h B r1.2
      · exact PostG.newTup h B (ra.append rb) p hp
    · exact h.elim
  · dsimp only at h
    split at h
    · next da db e1 e2 =>
      split at h
      · next hl =>
        obtain ⟨a, va, rfl, ha, ra⟩ := asList_sq e1 B.sr r1
        obtain ⟨b, vb, rfl, hb, rb⟩ := asList_sq e2 B.sr r2
        have la := ra.length
        have lb := rb.length
        exact op_cat pins s σ H _ _ v u Q I rx ry ⟨a, b, va, vb, rfl, rfl, ha, hb, by omega, fun p hp => PostG.newLst h B (ra.append rb) p hp⟩
      · exact h.elim
    · exact h.elim
theorem o_sub : OpR X (binaryOp .Sub) (rOf X.K mg E opSub) := by
  intro pins s σ H x y v u Q I rx ry ⟨μ₀, H₀, μ, fr, fr', w1, w2, st, B, r1, r2, h⟩
  unfold opSub at h
  split at h
  · cases r1.int
    cases r2.int
    exact op_sub pins s σ H _ _ v u Q I rx ry ⟨_, _, rfl, rfl, PostG.int h B⟩
  · cases r1.bool
    cases r2.int
    exact op_sub_bi pins s σ H _ _ v u Q I rx ry ⟨_, _, rfl, rfl, PostG.int h B⟩
  · exact h.elim
theorem o_mul : OpR X (binaryOp .Mult) (rOf X.K mg E opMul) := by
  intro pins s σ H x y v u Q I rx ry ⟨μ₀, H₀, μ, fr, fr', w1, w2, st, B, r1, r2, h⟩
  unfold opMul at h
  split at h
  · split at h
    · next hm =>
      cases r1.int
      cases r2.int
      exact op_mulW pins s σ H _ _ v u Q I rx ry ⟨_, _, rfl, rfl, show _ < _ from of_decide_eq_true hm, PostG.int h B⟩
    · exact h.elim
  · split at h
    · next ds k hm =>
      obtain ⟨a, va, rfl, ha, ra⟩ := r1.tup
      cases r2.int
      have la := ra.length
      by_cases h1 : k = 1
      · subst h1
        have e : (List.replicate (1 : Int).toNat ds).flatten = ds := by simp
        rw [e] at h
        exact op_repT1 pins s σ H _ _ v u Q I rx ry ⟨a, _, va, rfl, rfl, SqT.of ha, rfl, h _ _ _ _ (B.trim (List.nil_sublist _)).ext (B.trim (List.nil_sublist _)).own (B.trim (List.nil_sublist _)).sr ⟨rfl, (RepD.tuple ha ra).ext (.sub (fp_sub (B.sub (List.nil_sublist _))))⟩⟩
      · have hne : ds ≠ [] := hm.2.2.2.resolve_right h1
        have hvn : va ≠ [] := fun e => hne (by subst e; exact List.eq_nil_of_length_eq_zero la)
        by_cases h2 : k ≤ 0
        · have e : (List.replicate k.toNat ds).flatten = [] := by rw [show k.toNat = 0 by omega]; rfl
          rw [e] at h
          exact op_repT0 pins s σ H _ _ v u Q I rx ry ⟨a, _, va, rfl, rfl, SqT.of ha, hvn, hm.1, h2, fun p hp => PostG.newTup h B .nil p hp⟩
        · exact op_repT pins s σ H _ _ v u Q I rx ry ⟨a, _, va, rfl, rfl, SqT.of ha, hvn, by omega, hm.2.1, by omega, fun p hp => PostG.newTup h B (ra.rep _) p hp⟩
    · exact h.elim
  · dsimp only at h
    split at h
    · next e1 =>
      split at h
      · next hm =>
        obtain ⟨a, va, rfl, ha, ra⟩ := asList_sq e1 B.sr r1
        cases r2.int
        have la := ra.length
        exact op_rep pins s σ H _ _ v u Q I rx ry ⟨a, _, va, rfl, rfl, ha, hm.1, hm.2.1, by rw [← la]; exact hm.2.2, fun p hp => PostG.newLst h B (ra.rep _) p hp⟩
      · exact h.elim
    · exact h.elim
  · exact h.elim
theorem op_fdivA : OpR X (binaryOp .FloorDiv) (rI (fun _ j => j ≠ 0 ∧ j.natAbs.log2 < 9000) fun i j => .int (i.fdiv j)) := opI fun i j _ _ _ _ _ hc q => floordiv_int hc.1 q (.inl (PyProof.noPylong_of_log2 hc.2))
theorem o_div : OpR X (binaryOp .FloorDiv) (rOf X.K mg E opDiv) := by
  intro pins s σ H x y v u Q I rx ry ⟨μ₀, H₀, μ, fr, fr', w1, w2, st, B, r1, r2, h⟩
  unfold opDiv at h
  split at h
  · split at h
    · next hm =>
      cases r1.int
      cases r2.int
      unfold divOk at hm
      rw [Bool.and_eq_true] at hm
      exact op_fdivA pins s σ H _ _ v u Q I rx ry ⟨_, _, rfl, rfl, ⟨of_decide_eq_true hm.1, of_decide_eq_true hm.2⟩, PostG.int h B⟩
    · exact h.elim
  · exact h.elim
theorem o_mod : OpR X (binaryOp .Mod) (rOf X.K mg E opMod) := by
  intro pins s σ H x y v u Q I rx ry ⟨μ₀, H₀, μ, fr, fr', w1, w2, st, B, r1, r2, h⟩
  unfold opMod at h
  split at h
  · split at h
    · next hm =>
      cases r1.int
      cases r2.int
      exact op_modN pins s σ H _ _ v u Q I rx ry ⟨_, _, rfl, rfl, hm, PostG.int h B⟩
    · exact h.elim
  · exact h.elim
theorem o_pow : OpR X (binaryOp .Pow) (rOf X.K mg E opPow) := by
  intro pins s σ H x y v u Q I rx ry ⟨μ₀, H₀, μ, fr, fr', w1, w2, st, B, r1, r2, h⟩
  unfold opPow at h
  split at h
  · split at h
    · next hm =>
      cases r1.int
      cases r2.int
      exact op_pow pins s σ H _ _ v u Q I rx ry ⟨_, _, rfl, rfl, hm, PostG.int h B⟩
    · exact h.elim
  · exact h.elim

/-! ### unary -/
def opShl : W → W → M W
  | .d (.int a), .d (.int b) => if 0 ≤ b ∧ b ≤ 1000000 ∧ a.natAbs < 2 ^ 64 then mret (.d (.int (a * 2 ^ b.toNat))) else mfail
  | _, _ => mfail
def opNeg : W → M W
  | .d (.int a) => mret (.d (.int (-a)))
  | _ => mfail
theorem o_shl : OpR X (binaryOp .LShift) (rOf X.K mg E opShl) := by
  intro pins s σ H x y v u Q I rx ry ⟨μ₀, H₀, μ, fr, fr', w1, w2, st, B, r1, r2, h⟩
  unfold opShl at h
  split at h
  · split at h
    · next hm =>
      cases r1.int
      cases r2.int
      exact op_shl pins s σ H _ _ v u Q I rx ry ⟨_, _, rfl, rfl, hm, PostG.int h B⟩
    · exact h.elim
  · exact h.elim

theorem u_neg : UnR X (unaryOp .USub) (uOf X.K mg E opNeg) := by
  intro pins s σ H x v Q I rx ⟨μ₀, H₀, μ, fr, w1, st, B, r1, h⟩
  unfold opNeg at h
  split at h
  · cases r1.int
    exact un_neg pins s σ H _ v Q I rx ⟨_, rfl, PostG.int h B⟩
  · exact h.elim
end

/-! ### comparisons -/
def opEq (x y : W) : M W := fun st => match asData x st, asData y st with
  | some a, some b => if (SeqAt.shaped a && SeqAt.shaped b) = true then some (.ok (.d (.bool (PyData.eqv a b))), st) else none
  | _, _ => none
def opNe (x y : W) : M W := fun st => match asData x st, asData y st with
  | some a, some b => if (SeqAt.shaped a && SeqAt.shaped b) = true then some (.ok (.d (.bool (!PyData.eqv a b))), st) else none
  | _, _ => none
def opLt : W → W → M W
  | .d (.int a), .d (.int b) => mret (.d (.bool (decide (a < b))))
  | .d (.str a), .d (.str b) => mret (.d (.bool (decide (a.cps.toList < b.cps.toList))))
  | _, _ => mfail
def opLe : W → W → M W
  | .d (.int a), .d (.int b) => mret (.d (.bool (decide (a ≤ b))))
  | .d (.str a), .d (.str b) => mret (.d (.bool (!decide (b.cps.toList < a.cps.toList))))
  | _, _ => mfail
def opGt : W → W → M W
  | .d (.int a), .d (.int b) => mret (.d (.bool (decide (b < a))))
  | .d (.str a), .d (.str b) => mret (.d (.bool (decide (b.cps.toList < a.cps.toList))))
  | _, _ => mfail
def opGe : W → W → M W
  | .d (.int a), .d (.int b) => mret (.d (.bool (decide (b ≤ a))))
  | .d (.str a), .d (.str b) => mret (.d (.bool (!decide (a.cps.toList < b.cps.toList))))
  | _, _ => mfail
def isNone : W → Bool
  | .d .none => true
  | _ => false
def opIsN : W → W → M W
  | x, .d .none => mret (.d (.bool (isNone x)))
  | .d (.bool a), .d (.bool b) => mret (.d (.bool (decide (a = b))))
  | _, _ => mfail
def opNotN : W → W → M W
  | x, .d .none => mret (.d (.bool (!isNone x)))
  | .d (.bool a), .d (.bool b) => mret (.d (.bool (!decide (a = b))))
  | _, _ => mfail
section
variable {X : Cx} {mg : Str → Option Value} {E : XK}
theorem o_eq (hu : X.A.units + 64 < cLine) : OpR X (compareOp .Eq) (rOf X.K mg E opEq) := by
  intro pins s σ H x y v u Q I rx ry ⟨μ₀, H₀, μ, fr, fr', w1, w2, st, B, r1, r2, h⟩
  unfold opEq at h
  split at h
  · next a b e1 e2 =>
    split at h
    · next hs =>
      rw [Bool.and_eq_true] at hs
      exact op_eqD hu pins s σ H _ _ v u Q I rx ry ⟨a, b, asData_dp e1 B.sr r1, asData_dp e2 B.sr r2, hs.1, hs.2, PostG.bool h B⟩
    · exact h.elim
  · exact h.elim
theorem o_ne (hu : X.A.units + 64 < cLine) : OpR X (compareOp .NotEq) (rOf X.K mg E opNe) := by
  intro pins s σ H x y v u Q I rx ry ⟨μ₀, H₀, μ, fr, fr', w1, w2, st, B, r1, r2, h⟩
  unfold opNe at h
  split at h
  · next a b e1 e2 =>
    split at h
    · next hs =>
      rw [Bool.and_eq_true] at hs
      exact op_neD hu pins s σ H _ _ v u Q I rx ry ⟨a, b, asData_dp e1 B.sr r1, asData_dp e2 B.sr r2, hs.1, hs.2, PostG.bool h B⟩
    · exact h.elim
  · exact h.elim
theorem o_lt : OpR X (compareOp .Lt) (rOf X.K mg E opLt) := by
  intro pins s σ H x y v u Q I rx ry ⟨μ₀, H₀, μ, fr, fr', w1, w2, st, B, r1, r2, h⟩
  unfold opLt at h
  split at h
  · cases r1.int
    cases r2.int
    exact op_lt pins s σ H _ _ v u Q I rx ry ⟨_, _, rfl, rfl, PostG.bool h B⟩
  · cases r1.str
    cases r2.str
    exact op_lt_str pins s σ H _ _ v u Q I rx ry ⟨_, _, rfl, rfl, PostG.bool h B⟩
  · exact h.elim
theorem o_le : OpR X (compareOp .LtE) (rOf X.K mg E opLe) := by
  intro pins s σ H x y v u Q I rx ry ⟨μ₀, H₀, μ, fr, fr', w1, w2, st, B, r1, r2, h⟩
  unfold opLe at h
  split at h
  · cases r1.int
    cases r2.int
    exact op_le pins s σ H _ _ v u Q I rx ry ⟨_, _, rfl, rfl, PostG.bool h B⟩
  · cases r1.str
    cases r2.str
    exact op_le_str pins s σ H _ _ v u Q I rx ry ⟨_, _, rfl, rfl, PostG.bool h B⟩
  · exact h.elim
theorem o_gt : OpR X (compareOp .Gt) (rOf X.K mg E opGt) := by
  intro pins s σ H x y v u Q I rx ry ⟨μ₀, H₀, μ, fr, fr', w1, w2, st, B, r1, r2, h⟩
  unfold opGt at h
  split at h
  · cases r1.int
    cases r2.int
    exact op_gt pins s σ H _ _ v u Q I rx ry ⟨_, _, rfl, rfl, PostG.bool h B⟩
  · cases r1.str
    cases r2.str
    exact op_gt_str pins s σ H _ _ v u Q I rx ry ⟨_, _, rfl, rfl, PostG.bool h B⟩
  · exact h.elim
theorem o_ge : OpR X (compareOp .GtE) (rOf X.K mg E opGe) := by
  intro pins s σ H x y v u Q I rx ry ⟨μ₀, H₀, μ, fr, fr', w1, w2, st, B, r1, r2, h⟩
  unfold opGe at h
  split at h
  · cases r1.int
    cases r2.int
    exact op_ge pins s σ H _ _ v u Q I rx ry ⟨_, _, rfl, rfl, PostG.bool h B⟩
  · cases r1.str
    cases r2.str
    exact op_ge_str pins s σ H _ _ v u Q I rx ry ⟨_, _, rfl, rfl, PostG.bool h B⟩
  · exact h.elim
theorem isNone_iff {K : PySem.W.Frag} {μ : Mu} {fr : List Addr} {H : Hp} {w : W} {v : V} (r : RepW K μ fr H w v) : decide (v = .non) = isNone w := by
  cases w with
  | d x =>
    have r' : RepD H μ.fp x v := r.2
    cases r' <;> simp [isNone]
  | ref i =>
    obtain ⟨_, a, _, rfl⟩ := r
    simp [isNone]
  | scr ns =>
    obtain ⟨_, a, rfl, _⟩ := r
    simp [isNone]
  | new ns =>
    obtain ⟨a, _, _, rfl, _⟩ := r
    simp [isNone]
theorem o_isN : OpR X (compareOp .Is) (rOf X.K mg E opIsN) := by
  intro pins s σ H x y v u Q I rx ry ⟨μ₀, H₀, μ, fr, fr', w1, w2, st, B, r1, r2, h⟩
  unfold opIsN at h
  split at h
  · refine op_isN pins s σ H _ _ v u Q I rx ry ⟨r2.non, ?_⟩
    rw [isNone_iff r1]
    exact PostG.bool h B
  · cases r1.bool
    cases r2.bool
    exact op_isBl pins s σ H _ _ v u Q I rx ry ⟨_, _, rfl, rfl, PostG.bool h B⟩
  · exact h.elim
theorem o_notN : OpR X (compareOp .IsNot) (rOf X.K mg E opNotN) := by
  intro pins s σ H x y v u Q I rx ry ⟨μ₀, H₀, μ, fr, fr', w1, w2, st, B, r1, r2, h⟩
  unfold opNotN at h
  split at h
  · refine op_notN pins s σ H _ _ v u Q I rx ry ⟨r2.non, ?_⟩
    rw [isNone_iff r1]
    exact PostG.bool h B
  · cases r1.bool
    cases r2.bool
    exact op_notBl pins s σ H _ _ v u Q I rx ry ⟨_, _, rfl, rfl, PostG.bool h B⟩
  · exact h.elim
end
end Ev

namespace Ev
open PySem PySem.Spec PyProof.Rows L2

/-! ### truth -/
def truth : W → M Bool
  | .d .none => mret false
  | .d (.bool b) => mret b
  | .d (.int i) => mret (i != 0)
  | .d (.str y) => if y.length ≤ sizeLine then mret ((y.length : Int) != 0) else mfail
  | w => fun st => match asSeq w st with
    | some xs => some (.ok (!xs.isEmpty), st)
    | none => none
def truthB : W → M Bool
  | .d (.bool b) => mret b
  | _ => mfail
theorem isEmpty_len {α β : Type} : ∀ {xs : List α} {ys : List β}, xs.length = ys.length → xs.isEmpty = ys.isEmpty
  | [], [], _ => rfl
  | _ :: _, _ :: _, _ => rfl
  | [], _ :: _, h => by simp at h
  | _ :: _, [], h => by simp at h
section
variable {X : Cx} {mg : Str → Option Value} {E : XK} {a b c : Expr} {f g h : Env → M W} {p q : Env → M Bool} {pos : Pos}
theorem truth_tru {μ₀ μ : Mu} {H₀ H : Hp} {fr : List Addr} {st : Store} {w : W} {v : V} {Q : Bool → Hp → Prop} (B : At μ₀ H₀ fr μ st H) (r : RepW X.K μ fr H w v) (h : PostG mg E RepB Q (truth w st) μ₀ H₀) : ∃ k, TruV X.K v H k ∧ Q k H := by
  unfold truth at h
  split at h
  · cases r.non
    exact ⟨false, rfl, h.tt B⟩
  · cases r.bool
    exact ⟨_, rfl, h.tt B⟩
  · cases r.int
    exact ⟨_, rfl, h.tt B⟩
  · split at h
    · next hl =>
      cases r.str
      exact ⟨_, ⟨hl, rfl⟩, h.tt B⟩
    · exact h.elim
  · dsimp only at h
    split at h
    · next e =>
      obtain ⟨a, vs, rfl, hq, hr⟩ := asSeq_sq e B.sr r
      have hl := isEmpty_len hr.length
      refine ⟨!vs.isEmpty, ?_, ?_⟩
      · rcases hq with hq | hq
        · exact .inl ⟨vs, hq, rfl⟩
        · exact .inr (.inl ⟨vs, hq, rfl⟩)
      · rw [← hl]
        exact h.tt B
    · exact h.elim
def sTest (f : Env → M W) : Env → M Bool := fun ρ => mbind (f ρ) truth
def sTestB (f : Env → M W) : Env → M Bool := fun ρ => mbind (f ρ) truthB
def sNot (p : Env → M Bool) : Env → M Bool := fun ρ => mbind (p ρ) fun b => mret (!b)
def sAnd (p q : Env → M Bool) : Env → M Bool := fun ρ => mbind (p ρ) fun b => match b with
  | true => q ρ
  | false => mret false
def sOr (p q : Env → M Bool) : Env → M Bool := fun ρ => mbind (p ρ) fun b => match b with
  | true => mret true
  | false => q ρ
def sIf (p : Env → M Bool) (f g : Env → M W) : Env → M W := fun ρ => mbind (p ρ) fun b => match b with
  | true => f ρ
  | false => g ρ
theorem r_truth (ha : PE X a (tE X.K mg E f)) (he : ∀ whole, isTrue a X.env whole = (do let v ← whole; standAt a.pos; holding [v] (truthy v))) : PT X a (tT X.K mg E (sTest f)) :=
  PT_imp (pt_truth ha he) fun σ H Q ⟨μ, ρ, st, hs, hr, h⟩ =>
    ⟨μ, ρ, st, hs, hr, (PostG.bind (R := RepW X.K) h (.start hr)).mono fun x H1 ⟨μ1, fr1, w1, st1, a1, r1, h1⟩ => truth_tru a1 r1 h1⟩
theorem tTest_of {t : TE} {σ : L2.St} {H : Hp} {Q : Bool → Hp → Prop} (ht : ∀ Q, tE X.K mg E f σ H Q → t σ H Q) (h : tT X.K mg E (sTestB f) σ H Q) : tTest t σ H Q := by
  obtain ⟨μ, ρ, st, hs, hr, h⟩ := h
  refine ht _ ⟨μ, ρ, st, hs, hr, (PostG.bind (R := RepW X.K) h (.start hr)).mono fun x H1 ⟨μ1, fr1, w1, st1, a1, r1, h1⟩ => ?_⟩
  unfold truthB at h1
  split at h1
  · cases r1.bool
    exact ⟨_, rfl, h1.tt a1⟩
  · exact h1.elim
theorem r_tcmp {o : CmpOp} {op : W → W → M W} (ho : OpR X (compareOp o) (rOf X.K mg E op)) (ha : PE X a (tE X.K mg E f)) (hb : PE X b (tE X.K mg E g)) (hm : behindInMarks o b = false) : PT X (.Compare a [o] [b] pos) (tT X.K mg E (sTestB (sBin op f g))) :=
  PT_imp (pt_cmpR ho ha hb hm) fun _ _ _ h => tTest_of (fun _ z => tOp_of z) h
/-- a op b op' c -/
def sChain (op op' : W → W → M W) (f g h : Env → M W) : Env → M W := fun ρ => mbind (f ρ) fun x => match x with
  | .d xd => mbind (g ρ) fun y => match y with
    | .d yd => mbind (op (.d xd) (.d yd)) fun z => mbind (truthB z) fun k => match k with
      | true => mbind (h ρ) fun w => op' (.d yd) w
      | false => mret (.d (.bool false))
    | _ => mfail
  | _ => mfail
theorem tChain_of {op op' : W → W → M W} {σ : L2.St} {H : Hp} {Q : VK} (h0 : tE X.K mg E (sChain op op' f g h) σ H Q) : tChain (rOf X.K mg E op) (rOf X.K mg E op') (tE X.K mg E f) (tE X.K mg E g) (tE X.K mg E h) σ H Q := by
  obtain ⟨μ, ρ, st, hs, hr, h0⟩ := h0
  refine ⟨μ, ρ, st, hs, hr, (PostG.bind (R := RepW X.K) h0 (.start hr)).mono fun x H1 ⟨μ1, fr1, w1, st1, a1, r1, h1⟩ => ?_⟩
  split at h1
  · next xd =>
    obtain ⟨rfl, rx⟩ := r1
    refine ⟨μ1, ρ, st1, hs.ext a1.ext, a1.sr, (PostG.bind (R := RepW X.K) h1 a1).mono fun y H2 ⟨μ2, fr2, w2, st2, a2, r2, h2⟩ => ?_⟩
    split at h2
    · next yd =>
      obtain ⟨rfl, ry⟩ := r2
      have a12 := a1.trans a2
      refine ⟨μ2, H2, μ2, [], [], .d xd, .d yd, st2, .start a2.sr, ⟨rfl, rx.ext a2.ext.hx⟩, ⟨rfl, ry⟩, (PostG.bind (R := RepW X.K) h2 a12).mono fun z H3 ⟨μ3, fr3, w3, st3, a3, r3, h3⟩ => ?_⟩
      unfold truthB at h3
      split at h3
      · next k =>
        cases r3.bool
        obtain ⟨rfl, _⟩ := r3
        have a123 := a12.trans a3
        refine ⟨k, rfl, ?_⟩
        cases k with
        | true =>
          refine ⟨μ3, ρ, st3, hs.ext a123.ext, a3.sr, (PostG.bind (R := RepW X.K) h3 a123).mono fun w H4 ⟨μ4, fr4, w4, st4, a4, r4, h4⟩ => ?_⟩
          exact ⟨μ, H, μ4, [], fr4, .d yd, w4, st4, a123.trans a4, ⟨rfl, (ry.ext a3.ext.hx).ext a4.ext.hx⟩, r4, h4⟩
        | false => exact PostG.bool h3 a123
      · exact h3.elim
    · exact h2.elim
  · exact h1.elim
theorem r_chain {o o' : CmpOp} {op op' : W → W → M W} (ho : OpR X (compareOp o) (rOf X.K mg E op)) (ho' : OpR X (compareOp o') (rOf X.K mg E op')) (ha : PE X a (tE X.K mg E f)) (hb : PE X b (tE X.K mg E g)) (hc : PE X c (tE X.K mg E h))
    (hm : lastMarks [o, o'] [b, c] = false) : PE X (.Compare a [o, o'] [b, c] pos) (tE X.K mg E (sChain op op' f g h)) :=
  PE_imp (pe_chain ho ho' ha hb hc hm) fun _ _ _ z => tChain_of z
theorem r_tchain {o o' : CmpOp} {op op' : W → W → M W} (ho : OpR X (compareOp o) (rOf X.K mg E op)) (ho' : OpR X (compareOp o') (rOf X.K mg E op')) (ha : PE X a (tE X.K mg E f)) (hb : PE X b (tE X.K mg E g)) (hc : PE X c (tE X.K mg E h))
    (hm : lastMarks [o, o'] [b, c] = false) : PT X (.Compare a [o, o'] [b, c] pos) (tT X.K mg E (sTestB (sChain op op' f g h))) :=
  PT_imp (pt_chain ho ho' ha hb hc hm) fun _ _ _ z => tTest_of (fun _ z => tChain_of z) z
/-- a op b op' c op'' d -/
def sChain3 (op op' op2 : W → W → M W) (f g h k : Env → M W) : Env → M W := fun ρ => mbind (f ρ) fun x => match x with
  | .d xd => mbind (g ρ) fun y => match y with
    | .d yd => mbind (op (.d xd) (.d yd)) fun z => mbind (truthB z) fun t => match t with
      | true => mbind (h ρ) fun w => (match w with
        | .d wd => mbind (op' (.d yd) (.d wd)) fun z' => mbind (truthB z') fun t' => match t' with
          | true => mbind (k ρ) fun v => op2 (.d wd) v
          | false => mret (.d (.bool false))
        | _ => mfail)
      | false => mret (.d (.bool false))
    | _ => mfail
  | _ => mfail
def tChain3 (r r' r2 : R2) (ta tb tc td : TE) : TE := fun σ H Q => ta σ H fun x H1 => tb σ H1 fun y H2 => r x y H2 fun z H3 => ∃ t, z = .bl t ∧ (if t = true then tc σ H3 fun w H4 => r' y w H4 fun z' H5 => ∃ t', z' = .bl t' ∧ (if t' = true then td σ H5 fun v H6 => r2 w v H6 Q else Q (.bl false) H5) else Q (.bl false) H3)
theorem pt_chain3 {d : Expr} {op op' op2 : CmpOp} {r r' r2 : R2} {ta tb tc td : TE} (ho : OpR X (compareOp op) r) (ho' : OpR X (compareOp op') r') (ho2 : OpR X (compareOp op2) r2) (ha : PE X a ta) (hb : PE X b tb) (hc : PE X c tc) (hd : PE X d td)
    (hm : lastMarks [op, op', op2] [b, c, d] = false) : PT X (.Compare a [op, op', op2] [b, c, d] pos) (tTest (tChain3 r r' r2 ta tb tc td)) := by
  refine ⟨fun pins s σ H Q I h => ?_⟩
  refine isTrue_chain (thn (ha.run pins s σ H _ I h) fun v s1 ⟨x, H1, I1, r1, q1⟩ => test_link (thn (hb.run pins s1 σ H1 _ I1 q1) fun u s2 ⟨y, H2, I2, r2, q2⟩ =>
    thn (ho pins s2 σ H2 x y v u _ I2 r1 r2 q2) fun d s3 ⟨z, H3, I3, r3, k, e, q3⟩ => ?_)) hm
  subst e
  cases r3
  refine wpAny_truthy_bool ?_
  cases k with
  | false =>
    obtain ⟨k', e', q'⟩ := q3
    cases e'
    exact ite_ff ⟨H3, I3, q'⟩
  | true =>
    refine ite_tt (test_link (thn (hc.run pins s3 σ H3 _ I3 q3) fun w' s4 ⟨z', H4, I4, r4, q4⟩ => thn (ho' pins s4 σ H4 y z' u w' _ I4 r2 r4 q4) fun d' s5 ⟨z2, H5, I5, r5, k2, e2, q5⟩ => ?_))
    subst e2
    cases r5
    refine wpAny_truthy_bool ?_
    cases k2 with
    | false =>
      obtain ⟨k', e', q'⟩ := q5
      cases e'
      exact ite_ff ⟨H5, I5, q'⟩
    | true =>
      refine ite_tt (test_last (thn (hd.run pins s5 σ H5 _ I5 q5) fun w2 s6 ⟨z3, H6, I6, r6, q6⟩ => thn (ho2 pins s6 σ H6 z' z3 w' w2 _ I6 r4 r6 q6) fun d' s7 ⟨z4, H7, I7, r7, k3, e3, q7⟩ => ?_))
      subst e3
      cases r7
      exact wpAny_truthy_bool ⟨H7, I7, q7⟩
theorem tChain3_of {op op' op2 : W → W → M W} {f4 : Env → M W} {σ : L2.St} {H : Hp} {Q : VK} (h0 : tE X.K mg E (sChain3 op op' op2 f g h f4) σ H Q) : tChain3 (rOf X.K mg E op) (rOf X.K mg E op') (rOf X.K mg E op2) (tE X.K mg E f) (tE X.K mg E g) (tE X.K mg E h) (tE X.K mg E f4) σ H Q := by
  obtain ⟨μ, ρ, st, hs, hr, h0⟩ := h0
  refine ⟨μ, ρ, st, hs, hr, (PostG.bind (R := RepW X.K) h0 (.start hr)).mono fun x H1 ⟨μ1, fr1, w1, st1, a1, r1, h1⟩ => ?_⟩
  split at h1
  · next xd =>
    obtain ⟨rfl, rx⟩ := r1
    refine ⟨μ1, ρ, st1, hs.ext a1.ext, a1.sr, (PostG.bind (R := RepW X.K) h1 a1).mono fun y H2 ⟨μ2, fr2, w2, st2, a2, r2, h2⟩ => ?_⟩
    split at h2
    · next yd =>
      obtain ⟨rfl, ry⟩ := r2
      have a12 := a1.trans a2
      refine ⟨μ2, H2, μ2, [], [], .d xd, .d yd, st2, .start a2.sr, ⟨rfl, rx.ext a2.ext.hx⟩, ⟨rfl, ry⟩, (PostG.bind (R := RepW X.K) h2 a12).mono fun z H3 ⟨μ3, fr3, w3, st3, a3, r3, h3⟩ => ?_⟩
      unfold truthB at h3
      split at h3
      · next k =>
        cases r3.bool
        obtain ⟨rfl, _⟩ := r3
        have a123 := a12.trans a3
        refine ⟨k, rfl, ?_⟩
        cases k with
        | true =>
          refine ⟨μ3, ρ, st3, hs.ext a123.ext, a3.sr, (PostG.bind (R := RepW X.K) h3 a123).mono fun w H4 ⟨μ4, fr4, w4, st4, a4, r4, h4⟩ => ?_⟩
          split at h4
          · next wd =>
            obtain ⟨rfl, rw4⟩ := r4
            have a14 := a123.trans a4
            refine ⟨μ4, H4, μ4, [], [], .d yd, .d wd, st4, .start a4.sr, ⟨rfl, (ry.ext a3.ext.hx).ext a4.ext.hx⟩, ⟨rfl, rw4⟩, (PostG.bind (R := RepW X.K) h4 a14).mono fun z' H5 ⟨μ5, fr5, w5, st5, a5, r5, h5⟩ => ?_⟩
            split at h5
            · next k2 =>
              cases r5.bool
              obtain ⟨rfl, _⟩ := r5
              have a15 := a14.trans a5
              refine ⟨k2, rfl, ?_⟩
              cases k2 with
              | true =>
                refine ⟨μ5, ρ, st5, hs.ext a15.ext, a5.sr, (PostG.bind (R := RepW X.K) h5 a15).mono fun w H6 ⟨μ6, fr6, w6, st6, a6, r6, h6⟩ => ?_⟩
                exact ⟨μ, H, μ6, [], fr6, .d wd, w6, st6, a15.trans a6, ⟨rfl, (rw4.ext a5.ext.hx).ext a6.ext.hx⟩, r6, h6⟩
              | false => exact PostG.bool h5 a15
            · exact h5.elim
          · exact h4.elim
        | false => exact PostG.bool h3 a123
      · exact h3.elim
    · exact h2.elim
  · exact h1.elim
theorem r_tchain3 {d : Expr} {f4 : Env → M W} {o o' o2 : CmpOp} {op op' op2 : W → W → M W} (ho : OpR X (compareOp o) (rOf X.K mg E op)) (ho' : OpR X (compareOp o') (rOf X.K mg E op')) (ho2 : OpR X (compareOp o2) (rOf X.K mg E op2)) (ha : PE X a (tE X.K mg E f)) (hb : PE X b (tE X.K mg E g)) (hc : PE X c (tE X.K mg E h)) (hd : PE X d (tE X.K mg E f4))
    (hm : lastMarks [o, o', o2] [b, c, d] = false) : PT X (.Compare a [o, o', o2] [b, c, d] pos) (tT X.K mg E (sTestB (sChain3 op op' op2 f g h f4))) :=
  PT_imp (pt_chain3 ho ho' ho2 ha hb hc hd hm) fun _ _ _ h => tTest_of (fun _ z => tChain3_of z) h

theorem r_tnot (ha : PT X a (tT X.K mg E p)) : PT X (.UnaryOp .Not a pos) (tT X.K mg E (sNot p)) :=
  PT_imp (pt_not ha) fun σ H Q ⟨μ, ρ, st, hs, hr, h⟩ =>
    ⟨μ, ρ, st, hs, hr, (PostG.bind (R := RepB) h (.start hr)).mono fun x H1 ⟨μ1, fr1, w1, st1, a1, r1, h1⟩ => by
      obtain ⟨_, rfl⟩ := r1
      exact h1.tt a1⟩
theorem r_and1 (ha : PT X a (tT X.K mg E p)) : PW X (.BoolOp .And [a] pos) (tT X.K mg E p) := pw_and1 ha
theorem r_or1 (ha : PT X a (tT X.K mg E p)) : PW X (.BoolOp .Or [a] pos) (tT X.K mg E p) := pw_or1 ha
theorem r_and {rest : List Expr} (ha : PT X a (tT X.K mg E p)) (hb : PW X (.BoolOp .And (b :: rest) pos) (tT X.K mg E q)) : PW X (.BoolOp .And (a :: b :: rest) pos) (tT X.K mg E (sAnd p q)) :=
  PW_imp (pw_and ha hb) fun σ H Q ⟨μ, ρ, st, hs, hr, h⟩ =>
    ⟨μ, ρ, st, hs, hr, (PostG.bind (R := RepB) h (.start hr)).mono fun x H1 ⟨μ1, fr1, w1, st1, a1, r1, h1⟩ => by
      obtain ⟨_, rfl⟩ := r1
      cases w1 with
      | true => exact ⟨⟨μ1.locs, [] ++ μ.own⟩, ρ, st1, (hs.ext a1.ext).trim (a1.sub (List.nil_sublist _)), (a1.trim (List.nil_sublist _)).sr, h1.from (a1.trim (List.nil_sublist _))⟩
      | false => exact h1.tt a1⟩
theorem r_or {rest : List Expr} (ha : PT X a (tT X.K mg E p)) (hb : PW X (.BoolOp .Or (b :: rest) pos) (tT X.K mg E q)) : PW X (.BoolOp .Or (a :: b :: rest) pos) (tT X.K mg E (sOr p q)) :=
  PW_imp (pw_or ha hb) fun σ H Q ⟨μ, ρ, st, hs, hr, h⟩ =>
    ⟨μ, ρ, st, hs, hr, (PostG.bind (R := RepB) h (.start hr)).mono fun x H1 ⟨μ1, fr1, w1, st1, a1, r1, h1⟩ => by
      obtain ⟨_, rfl⟩ := r1
      cases w1 with
      | true => exact h1.tt a1
      | false => exact ⟨⟨μ1.locs, [] ++ μ.own⟩, ρ, st1, (hs.ext a1.ext).trim (a1.sub (List.nil_sublist _)), (a1.trim (List.nil_sublist _)).sr, h1.from (a1.trim (List.nil_sublist _))⟩⟩
/-! ### and, or, not as values (truths, but for the last) -/
def sAndV (f g : Env → M W) : Env → M W := fun ρ => mbind (f ρ) fun x => mbind (truthB x) fun b => match b with
  | true => g ρ
  | false => mret (.d (.bool false))
def sOrV (f g : Env → M W) : Env → M W := fun ρ => mbind (f ρ) fun x => mbind (truth x) fun b => match b with
  | true => mret x
  | false => g ρ
def sNotV (p : Env → M W) : Env → M W := fun ρ => mbind (p ρ) fun x => mbind (truth x) fun b => mret (.d (.bool (!b)))
theorem r_oneV {op : BoolOp} (ha : PE X a (tE X.K mg E f)) : PE X (.BoolOp op [a] pos) (tE X.K mg E f) := pe_one ha
theorem r_andV {rest : List Expr} (ha : PE X a (tE X.K mg E f)) (hb : PE X (.BoolOp .And (b :: rest) pos) (tE X.K mg E g)) : PE X (.BoolOp .And (a :: b :: rest) pos) (tE X.K mg E (sAndV f g)) :=
  PE_imp (pe_and ha hb) fun σ H Q ⟨μ, ρ, st, hs, hr, h⟩ =>
    ⟨μ, ρ, st, hs, hr, (PostG.bind (R := RepW X.K) h (.start hr)).mono fun x H1 ⟨μ1, fr1, w1, st1, a1, r1, h1⟩ => by
      unfold truthB at h1
      split at h1
      · next k =>
        cases r1.bool
        refine ⟨k, rfl, ?_⟩
        cases k with
        | true => exact ⟨⟨μ1.locs, [] ++ μ.own⟩, ρ, st1, (hs.ext a1.ext).trim (a1.sub (List.nil_sublist _)), (a1.trim (List.nil_sublist _)).sr, h1.from (a1.trim (List.nil_sublist _))⟩
        | false => exact PostG.bool h1 a1
      · exact h1.elim⟩
theorem truth_case (w : W) (st : Store) : truth w st = none ∨ ∃ k, truth w st = some (.ok k, st) := by
  unfold truth
  split
  · exact .inr ⟨_, rfl⟩
  · exact .inr ⟨_, rfl⟩
  · exact .inr ⟨_, rfl⟩
  · split
    · exact .inr ⟨_, rfl⟩
    · exact .inl rfl
  · dsimp only
    split
    · exact .inr ⟨_, rfl⟩
    · exact .inl rfl
theorem truth_bind {α : Type} {R : Mu → List Addr → Hp → α → V → Prop} {F : Bool → M α} {μ₀ μ : Mu} {H₀ H : Hp} {fr : List Addr} {st : Store} {w : W} {v : V} {Q : V → Hp → Prop} (B : At μ₀ H₀ fr μ st H) (r : RepW X.K μ fr H w v) (h : PostG mg E R Q (mbind (truth w) F st) μ₀ H₀) : ∃ k, TruV X.K v H k ∧ PostG mg E R Q (F k st) μ₀ H₀ := by
  rcases truth_case w st with e | ⟨k, e⟩
  · unfold mbind at h
    rw [e] at h
    exact h.elim
  · unfold mbind at h
    rw [e] at h
    obtain ⟨k', h1, h2⟩ := truth_tru (mg := mg) (E := E) (Q := fun b _ => b = k) B r (by
      rw [e]
      intro μ' fr y H' _ _ _ r
      exact r.2.symm)
    subst h2
    exact ⟨k', h1, h⟩
theorem r_orV {rest : List Expr} (ha : PE X a (tE X.K mg E f)) (hb : PE X (.BoolOp .Or (b :: rest) pos) (tE X.K mg E g)) : PE X (.BoolOp .Or (a :: b :: rest) pos) (tE X.K mg E (sOrV f g)) :=
  PE_imp (pe_orT ha hb) fun σ H Q ⟨μ, ρ, st, hs, hr, h⟩ =>
    ⟨μ, ρ, st, hs, hr, (PostG.bind (R := RepW X.K) h (.start hr)).mono fun x H1 ⟨μ1, fr1, w1, st1, a1, r1, h1⟩ => by
      obtain ⟨k, h2, h3⟩ := truth_bind a1 r1 h1
      refine ⟨k, h2, ?_⟩
      cases k with
      | true => exact h3 _ _ _ _ a1.ext a1.own a1.sr r1
      | false => exact ⟨⟨μ1.locs, [] ++ μ.own⟩, ρ, st1, (hs.ext a1.ext).trim (a1.sub (List.nil_sublist _)), (a1.trim (List.nil_sublist _)).sr, h3.from (a1.trim (List.nil_sublist _))⟩⟩
theorem r_notV (ha : PE X a (tE X.K mg E f)) : PE X (.UnaryOp .Not a pos) (tE X.K mg E (sNotV f)) :=
  PE_imp (pe_notT ha) fun σ H Q ⟨μ, ρ, st, hs, hr, h⟩ =>
    ⟨μ, ρ, st, hs, hr, (PostG.bind (R := RepW X.K) h (.start hr)).mono fun x H1 ⟨μ1, fr1, w1, st1, a1, r1, h1⟩ => by
      obtain ⟨k, h2, h3⟩ := truth_bind a1 r1 h1
      exact ⟨k, h2, PostG.bool h3 a1⟩⟩
theorem r_ifexp (hc : PT X c (tT X.K mg E p)) (ha : PE X a (tE X.K mg E f)) (hb : PE X b (tE X.K mg E g)) : PE X (.IfExp c a b pos) (tE X.K mg E (sIf p f g)) :=
  PE_imp (pe_ifExp hc ha hb) fun σ H Q ⟨μ, ρ, st, hs, hr, h⟩ =>
    ⟨μ, ρ, st, hs, hr, (PostG.bind (R := RepB) h (.start hr)).mono fun x H1 ⟨μ1, fr1, w1, st1, a1, r1, h1⟩ => by
      obtain ⟨_, rfl⟩ := r1
      cases w1 with
      | true => exact ⟨⟨μ1.locs, [] ++ μ.own⟩, ρ, st1, (hs.ext a1.ext).trim (a1.sub (List.nil_sublist _)), (a1.trim (List.nil_sublist _)).sr, h1.from (a1.trim (List.nil_sublist _))⟩
      | false => exact ⟨⟨μ1.locs, [] ++ μ.own⟩, ρ, st1, (hs.ext a1.ext).trim (a1.sub (List.nil_sublist _)), (a1.trim (List.nil_sublist _)).sr, h1.from (a1.trim (List.nil_sublist _))⟩⟩
end

/-! ### subscripts, slices -/
def cutG {α : Type} (xs : List α) (lo hi : Option Int) : List α := (xs.drop (HT.sIx xs.length 0 lo)).take (HT.sIx xs.length xs.length hi - HT.sIx xs.length 0 lo)
def opIx : W → W → M W
  | .d (.str z), .d (.int i) => if z.length ≤ sizeLine then (match atI z.cps.toList i with
    | some c => mret (.d (.str ⟨#[c]⟩))
    | none => mfail) else mfail
  | x, .d (.int i) => fun st => match asSeq x st with
    | some xs => (match atI xs i with
      | some y => some (.ok (.d y), st)
      | none => none)
    | none => none
  | _, _ => mfail
def opSl : W → Option Int → Option Int → M W
  | .d (.str z), lo, hi => if z.length ≤ sizeLine then mret (.d (.str (cutS z lo hi))) else mfail
  | .d (.tuple xs), lo, hi => mret (.d (.tuple (cutG xs lo hi)))
  | x, lo, hi => fun st => match asList x st with
    | some xs => some (.ok (.new (cutG xs lo hi)), st)
    | none => none
theorem RepDs.atI {H : Hp} {F : List Addr} {ds : List PyData} {vs : List V} {i : Int} {d : PyData} (r : RepDs H F ds vs) (h : L2.atI ds i = some d) : ∃ v, L2.atI vs i = some v ∧ RepD H F d v := by
  unfold L2.atI at h ⊢
  rw [r.length] at h
  obtain ⟨j, h1, h2⟩ := Option.bind_eq_some_iff.mp h
  obtain ⟨v, h3, h4⟩ := r.get h2
  exact ⟨v, by rw [h1]; exact h3, h4⟩
theorem RepDs.cut {H : Hp} {F : List Addr} {ds : List PyData} {vs : List V} (r : RepDs H F ds vs) (lo hi : Option Int) : RepDs H F (cutG ds lo hi) (cutV vs lo hi) := by
  unfold cutG cutV
  rw [r.length]
  exact (r.drop _).take _
theorem cutG_whole {α : Type} (xs : List α) (lo hi : Option Int) (h : HT.sIx xs.length 0 lo = 0 ∧ HT.sIx xs.length xs.length hi = xs.length) : cutG xs lo hi = xs := by
  unfold cutG
  rw [h.1, h.2, List.drop_zero, Nat.sub_zero, List.take_length]
section
variable {X : Cx} {mg : Str → Option Value} {E : XK} {a : Expr} {f : Env → M W} {pos : Pos}
theorem i_ix : IxR X (rOf X.K mg E opIx) := by
  intro value slice pins s σ H x y v u Q I rx ry ⟨μ₀, H₀, μ, fr, fr', w1, w2, st, B, r1, r2, h⟩ hsub
  unfold opIx at h
  split at h
  · next z i =>
    by_cases hl : z.length ≤ sizeLine
    · rw [if_pos hl] at h
      cases e : atI z.cps.toList i with
      | none => rw [e] at h; exact h.elim
      | some c =>
        rw [e] at h
        cases r1.str
        cases r2.int
        exact ix_str value slice pins s σ H _ _ v u Q I rx ry ⟨_, _, _, rfl, rfl, hl, e, PostG.str h B⟩ hsub
    · rw [if_neg hl] at h
      exact h.elim
  · dsimp only at h
    split at h
    · next e1 =>
      split at h
      · next e2 =>
        obtain ⟨p, vs, rfl, hq, hr⟩ := asSeq_sq e1 B.sr r1
        cases r2.int
        obtain ⟨z, h1, h2⟩ := hr.atI e2
        refine ix_seq value slice pins s σ H _ _ v u Q I rx ry ?_ hsub
        rcases hq with hq | hq
        · exact .inl ⟨p, vs, _, z, rfl, rfl, hq, h1, PostG.data h B h2⟩
        · exact .inr (.inl ⟨p, vs, _, z, rfl, rfl, hq, h1, PostG.data h B h2⟩)
      · exact h.elim
    · exact h.elim
  · exact h.elim
def slOf (K : PySem.W.Frag) (mg : Str → Option Value) (E : XK) (f : W → Option Int → Option Int → M W) : V → Option Int → Option Int → Hp → VK → Prop := fun x lo hi H Q => ∃ μ₀ H₀ μ fr w st, At μ₀ H₀ fr μ st H ∧ RepW K μ fr H w x ∧ PostG mg E (RepW K) Q (f w lo hi st) μ₀ H₀
theorem s_sl : L2.SlR X (slOf X.K mg E opSl) := by
  intro pins s σ H x v vl vu lo hi sl Q I rx hs pl pu ⟨μ₀, H₀, μ, fr, w, st, B, r, h⟩
  unfold opSl at h
  split at h
  · split at h
    · next hl =>
      cases r.str
      exact sl_str pins s σ H _ v vl vu lo hi sl Q I rx hs pl pu ⟨_, rfl, hl, PostG.str h B⟩
    · exact h.elim
  · obtain ⟨p, vs, rfl, hp, hr⟩ := r.tup
    have hl := hr.length
    refine sl_tupA pins s σ H _ v vl vu lo hi sl Q I rx hs pl pu ⟨p, vs, rfl, SqT.of hp, fun e => ?_, fun e p' hp' => ?_⟩
    · rw [← hl] at e
      rw [cutG_whole _ _ _ e] at h
      exact PostG.data h B r.2
    · exact PostG.newTup h B (hr.cut lo hi) p' hp'
  · dsimp only at h
    split at h
    · next e =>
      obtain ⟨p, vs, rfl, hp, hr⟩ := asList_sq e B.sr r
      exact sl_list pins s σ H _ v vl vu lo hi sl Q I rx hs pl pu ⟨p, vs, rfl, SqL.of hp, fun p' hp' => PostG.newLst h B (hr.cut lo hi) p' hp'⟩
    · exact h.elim
/-- a slice's part -/
def sPart : Option (Env → M W) → Env → M (Option Int)
  | none => fun _ => mret none
  | some f => fun ρ => mbind (f ρ) fun x => match x with
    | .d (.int i) => mret (some i)
    | _ => mfail
def sSlice (f : Env → M W) (lo hi : Option (Env → M W)) : Env → M W := fun ρ => mbind (f ρ) fun x => mbind (sPart lo ρ) fun l => mbind (sPart hi ρ) fun u => opSl x l u
def RepI : Mu → List Addr → Hp → Option Int → Option Int → Prop := fun _ fr _ a b => fr = [] ∧ a = b
def tO (K : PySem.W.Frag) (mg : Str → Option Value) (E : XK) (f : Env → M (Option Int)) : TO := fun σ H Q => ∃ μ ρ st, Slots K μ H ρ σ ∧ SR μ st H ∧ PostG mg E RepI Q (f ρ st) μ H
theorem PO_imp {e : Option Expr} {t t' : TO} (h : PO X e t) (i : ∀ σ H Q, t' σ H Q → t σ H Q) : PO X e t' := ⟨fun pins s σ H Q I q => h.run pins s σ H Q I (i σ H Q q)⟩
theorem r_part0 : PO X none (tO X.K mg E (sPart none)) := PO_imp po_none fun σ H Q ⟨μ, ρ, st, hs, hr, h⟩ => PostG.fin (R := RepI) h (.start hr) ⟨rfl, rfl⟩
theorem r_part (ha : PE X a (tE X.K mg E f)) : PO X (some a) (tO X.K mg E (sPart (some f))) := PO_imp (po_some ha) fun σ H Q ⟨μ, ρ, st, hs, hr, h⟩ =>
  ⟨μ, ρ, st, hs, hr, (PostG.bind (R := RepW X.K) h (.start hr)).mono fun x H1 ⟨μ1, fr1, w1, st1, a1, r1, h1⟩ => by
    split at h1
    · cases r1.int
      obtain ⟨rfl, _⟩ := r1
      exact ⟨_, rfl, PostG.fin (R := RepI) h1 a1 ⟨rfl, rfl⟩⟩
    · exact h1.elim⟩
theorem r_slice {lo hi : Option Expr} {l u : Option (Env → M W)} {p2 : Pos} (ha : PE X a (tE X.K mg E f)) (hl : PO X lo (tO X.K mg E (sPart l))) (hu : PO X hi (tO X.K mg E (sPart u))) :
    PE X (.Subscript a (.Slice lo hi none p2) pos) (tE X.K mg E (sSlice f l u)) :=
  PE_imp (pe_slice s_sl ha hl hu) fun σ H Q ⟨μ, ρ, st, hs, hr, h⟩ =>
    ⟨μ, ρ, st, hs, hr, (PostG.bind (R := RepW X.K) h (.start hr)).mono fun x H1 ⟨μ1, fr1, w1, st1, a1, r1, h1⟩ =>
      ⟨μ1, ρ, st1, hs.ext a1.ext, a1.sr, (PostG.bind (R := RepI) h1 a1).mono fun y H2 ⟨μ2, fr2, w2, st2, a2, r2, h2⟩ => by
        obtain ⟨rfl, rfl⟩ := r2
        have a12 := a1.trans a2
        refine ⟨μ2, ρ, st2, hs.ext a12.ext, a2.sr, (PostG.bind (R := RepI) h2 a12).mono fun z H3 ⟨μ3, fr3, w3, st3, a3, r3, h3⟩ => ?_⟩
        obtain ⟨rfl, rfl⟩ := r3
        exact ⟨μ, H, μ3, fr1, w1, st3, a12.trans a3, (r1.ext a2.ext a1.mem).ext a3.ext a12.mem, h3⟩⟩⟩
/-- xs[::-1] of a list, of a tuple -/
def opRev : W → M W
  | .d (.tuple xs) => mret (.d (.tuple xs.reverse))
  | x => fun st => match asList x st with
    | some xs => some (.ok (.new xs.reverse), st)
    | none => none
theorem rev_pick (its : Array Value) : ((List.range its.size).filterMap fun (k : Nat) => its[(((its.size : Int) - 1) + (k : Int) * (-1)).toNat]?).toArray = its.toList.reverse.toArray := by
  rw [← PySem.W.krv_pick]
  unfold slicePick
  rw [PySem.W.krv_bounds]
  show _ = ((sliceRange ((its.size : Int) - 1) (-1) (-1)).filterMap (its[·]?)).toArray
  rw [PySem.W.krv_sliceRange, List.filterMap_map]
  have g : ∀ (l : List Nat), (∀ k ∈ l, k < its.size) → l.filterMap (fun (k : Nat) => its[(((its.size : Int) - 1) + (k : Int) * (-1)).toNat]?) = l.filterMap ((fun x => its[x]?) ∘ fun k => its.size - 1 - k) := by
    intro l
    induction l with
    | nil => intro _; rfl
    | cons k l ih =>
      intro hk
      have h0 := hk k List.mem_cons_self
      have e : (((its.size : Int) - 1) + (k : Int) * (-1)).toNat = its.size - 1 - k := by omega
      rw [List.filterMap_cons, List.filterMap_cons, ih fun j hj => hk j (List.mem_cons_of_mem _ hj), e]
      rfl
  rw [g _ fun k hk => List.mem_range.mp hk]
theorem rev_applied {prog : Program} {w : World} {A : Around} {E : Value → Shared → Prop} {s : Shared} {sl : Addr} {vl vu vs : Value} {n : Nat} {Q : Int × Int × Nat → Shared → Prop} (hs : s.heap.IsSliceOf sl vl vu vs) (pl : IsPart vl none) (pu : IsPart vu none) (ps : IsPart vs (some (-1)))
    (h : Q ((n : Int) - 1, -1, n) s) : wpAny (model prog w) A (Builtin.Slice.sliceApplied (.ref sl) (pure (n : Int))) Q E s := by
  obtain ⟨os, h1, h2, h3⟩ := hs
  unfold Builtin.Slice.sliceApplied Builtin.Slice.sliceFields
  refine wpAny_bind (wpAny_bind (wpAny_field h1 h3 (x := vl) rfl (wpAny_bind (wpAny_field h1 h3 (x := vu) rfl (wpAny_bind (wpAny_field h1 h3 (x := vs) rfl (wpAny_pure ?_)))))))
  refine wpAny_bind (HT.slicePart_ ps ?_)
  show wpAny _ _ (if ((-1 : Int) == 0) = true then _ else _) _ _ s
  rw [if_neg (by decide)]
  refine wpAny_bind (HT.slicePart_ pl (wpAny_bind (HT.slicePart_ pu (wpAny_bind (wpAny_pure ?_)))))
  have e1 : Builtin.Slice.sliceAdjust none none (-1) (n : Int) = ((n : Int) - 1, -1) := by
    unfold Builtin.Slice.sliceAdjust
    simp
  show wpAny _ _ (match Builtin.Slice.sliceAdjust none none (-1) (n : Int) with | (lo, hi) => pure (lo, (-1 : Int), Builtin.Slice.slicePlaces lo hi (-1))) _ _ s
  rw [e1]
  have e2 : Builtin.Slice.slicePlaces ((n : Int) - 1) (-1) (-1) = n := by
    unfold Builtin.Slice.slicePlaces
    simp
    omega
  show wpAny _ _ (pure ((n : Int) - 1, (-1 : Int), Builtin.Slice.slicePlaces ((n : Int) - 1) (-1) (-1))) _ _ s
  rw [e2]
  exact wpAny_pure h
theorem getItem_rev {prog : Program} {w : World} {A : Around} {E : Value → Shared → Prop} {s : Shared} {t sl : Addr} {its : Array Value} {vl vu vs : Value} {Q : Value → Shared → Prop} (ht : IsTup s.heap t its) (hs : s.heap.IsSliceOf sl vl vu vs) (pl : IsPart vl none) (pu : IsPart vu none) (ps : IsPart vs (some (-1)))
    (h : Q (.ref s.heap.objs.size) { s with heap := s.heap.push { cls := .type "tuple", data := .seq its.toList.reverse.toArray } }) (hsz : its.size ≤ sizeLine) : wpAny (model prog w) A (getItem (.ref t) (.ref sl)) Q E s := by
  have hz : sizeOk (.seq its.toList.reverse.toArray) := by
    show its.toList.reverse.toArray.size ≤ sizeLine
    simpa using hsz
  obtain ⟨os, h1, h2, h3⟩ := id hs
  have hT : s.TypeIs (.ref sl) "slice" := ⟨os, h1, h2⟩
  unfold getItem
  try with_reducible refine wpAny_holding ?_
  first | refine wpAny_bind (wpAny_pure ?_) | skip
  refine wpAny_bind (wpAny_sequenceKey ht.typeIs (by decide) ?_)
  refine wpAny_bind (wpAny_callSpecial?_slot (name := Str.ofString "__getitem__") ht.typeIs PyProof.Rows.slot_tuple_getitem
    (wpAny_call_entry PyProof.Rows.slot_tuple_getitem ht.typeIs entry_tuple_getitem ?_ (args_tuple_getitem _ _)))
  show wpAny _ _ (Builtin.Tuple.tupleItemsOf (.ref t) >>= _) _ _ s
  refine wpAny_bind (tupleItemsOf_ ht ?_)
  refine wpAny_bind (wpAny_typeOf hT ?_)
  rw [if_pos (by decide)]
  refine wpAny_bind (rev_applied hs pl pu ps ?_)
  have hno : ¬ (((its.size : Int) - 1 == 0 && (-1 : Int) == 1 && its.size == its.size) = true) := by simp
  show wpAny _ _ (if ((its.size : Int) - 1 == 0 && (-1 : Int) == 1 && its.size == its.size) = true then _ else _) _ _ s
  rw [if_neg hno, rev_pick]
  first
    | exact wpAny_bind (m := Builtin.Tuple.tupleExact _) (wpAny_newObj_type (wpAny_pure ⟨_, rfl, wpAny_pure h⟩) hz)
    | exact wpAny_bind (m := Builtin.Tuple.tupleExact _) (wpAny_newObj_type (wpAny_bind (wpAny_pure (wpAny_pure ⟨_, rfl, wpAny_pure h⟩))) hz)
    | exact wpAny_bind (wpAny_bind (m := Builtin.Tuple.tupleExact _) (wpAny_newObj_type (wpAny_pure (wpAny_pure ⟨_, rfl, wpAny_pure h⟩)) hz))
    | exact wpAny_bind (wpAny_bind (m := Builtin.Tuple.tupleExact _) (wpAny_newObj_type (wpAny_pure ⟨_, rfl, wpAny_pure h⟩) hz))
def tRevA (K : PySem.W.Frag) (te : TE) : TE := fun σ H Q => te σ H fun x H1 => ∃ a xs, x = .ref a ∧ ((SqL K H1 a xs ∧ ∀ p, H1 p = none → Q (.ref p) (upd H1 p (.lst xs.reverse))) ∨ (SqT K H1 a xs ∧ ∀ p, H1 p = none → Q (.ref p) (upd H1 p (.tup xs.reverse))))
theorem pe_revA {X : Cx} {e : Expr} {te : TE} {k : Nat} {p1 p2 p3 pos : Pos} (he : PE X e te) : PE X (.Subscript e (.Slice none none (some (.UnaryOp .USub (.Constant (.int 1) k p1) p2)) p3) pos) (tRevA X.K te) := by
  refine ⟨fun pins s σ H Q I h => ?_⟩
  refine Subscript_ (thn (he.run pins s σ H _ I h) fun v s1 ⟨x, H1, I1, r1, q1⟩ => ?_)
  obtain ⟨a, xs, ex, q1⟩ := q1
  subst ex
  cases r1
  have hst : PO X (some (.UnaryOp .USub (.Constant (.int 1) k p1) p2)) (tPart (tUn (rU fun i => .int (-i)) (tC (.int 1)))) := po_some (pe_un un_neg pe_int)
  refine wpAny_Slice (thn (po_none.run pins s1 σ H1 (fun o H2 => o = none ∧ H2 = H1) I1 ⟨rfl, rfl⟩) fun vl s2 ⟨l, H2, I2, pl, el, e2⟩ => ?_)
  subst el e2
  refine thn (po_none.run pins s2 σ H2 (fun o H3 => o = none ∧ H3 = H2) I2 ⟨rfl, rfl⟩) fun vu s3 ⟨u, H3, I3, pu, eu, e3⟩ => ?_
  subst eu e3
  refine thn (hst.run pins s3 σ H3 (fun o H4 => o = some (-1) ∧ H4 = H3) I3 ⟨1, rfl, -1, rfl, rfl, rfl⟩) fun vs s4 ⟨o, H4, I4, ps, eo, e4⟩ => ?_
  subst eo e4
  have I5 : Inv X pins σ H4 { s4 with heap := s4.heap.push { cls := .type "slice", data := .fields #[vl, vu, vs] } } := I4.kept (t' := s4.toks) fun b ob q => Heap.get?_push_of_some _ q
  show wpAny (model X.prog X.w) X.A (subscriptTail e (.Slice none none (some (.UnaryOp .USub (.Constant (.int 1) k p1) p2)) p3) (.ref a) (.ref s4.heap.objs.size)) (EP X pins σ Q) X.xe { s4 with heap := s4.heap.push { cls := .type "slice", data := .fields #[vl, vu, vs] } }
  rcases q1 with ⟨hx, q⟩ | ⟨hx, q⟩
  · obtain ⟨its, r, ht, hz⟩ := I5.list hx
    have hlen := r.length
    refine tail_any (ops := [.ref a, .ref s4.heap.objs.size]) ht.isList.typeIs (PySem.slot_list_getitem.lookup) ?_ (by with_unfolding_all rfl)
    refine wpAny_getItem_list_slice ht.isList (Heap.IsSliceOf.new _ vl vu vs) pl pu ps (by decide) ?_ (by rw [List.size_toArray]; omega)
    rw [PySem.W.krv_pick]
    refine ⟨.ref _, _, I5.laid (t' := s4.toks) (o := .lst xs.reverse) (fun b ob q => Heap.get?_push_of_some _ q) (Nat.le_refl _) ?_, rfl, q _ (I5.hok.fresh (Nat.le_refl _))⟩
    exact ⟨by rw [List.length_reverse]; exact hz, _, 0, r.reverse, Heap.get?_push_size _ rfl⟩
  · obtain ⟨its, r, ht, hz⟩ := I5.tuple hx
    have hlen := r.length
    refine tail_any (ops := [.ref a, .ref s4.heap.objs.size]) ht.typeIs (PyProof.Rows.slot_tuple_getitem.lookup) ?_ (by with_unfolding_all rfl)
    refine getItem_rev ht (Heap.IsSliceOf.new _ vl vu vs) pl pu ps ?_ (by rw [List.size_toArray]; omega)
    refine ⟨.ref _, _, I5.laid (t' := s4.toks) (o := .tup xs.reverse) (fun b ob q => Heap.get?_push_of_some _ q) (Nat.le_refl _) ?_, rfl, q _ (I5.hok.fresh (Nat.le_refl _))⟩
    exact ⟨by rw [List.length_reverse]; exact hz, _, r.reverse, IsTup.new _ _⟩
theorem r_revL {k : Nat} {p1 p2 p3 : Pos} (ha : PE X a (tE X.K mg E f)) : PE X (.Subscript a (.Slice none none (some (.UnaryOp .USub (.Constant (.int 1) k p1) p2)) p3) pos) (tE X.K mg E (sUn opRev f)) :=
  PE_imp (pe_revA ha) fun σ H Q ⟨μ, ρ, st, hs, hr, h⟩ =>
    ⟨μ, ρ, st, hs, hr, (PostG.bind (R := RepW X.K) h (.start hr)).mono fun x H1 ⟨μ1, fr1, w1, st1, a1, r1, h1⟩ => by
      unfold opRev at h1
      split at h1
      · next xs =>
        obtain ⟨p, vs, rfl, hp, hr⟩ := RepW.tup r1
        exact ⟨p, vs, rfl, .inr ⟨SqT.of hp, fun p' hp' => PostG.newTup h1 a1 hr.reverse p' hp'⟩⟩
      · dsimp only at h1
        split at h1
        · next e =>
          obtain ⟨p, vs, rfl, hp, hr⟩ := asList_sq e a1.sr r1
          exact ⟨p, vs, rfl, .inl ⟨SqL.of hp, fun p' hp' => PostG.newLst h1 a1 hr.reverse p' hp'⟩⟩
        · exact h1.elim⟩
end

/-! ### displays -/
def allD : List W → Option (List PyData)
  | [] => some []
  | .d x :: ws => match allD ws with
    | some xs => some (x :: xs)
    | none => none
  | .new x :: ws => match allD ws with
    | some xs => some (.list x :: xs)
    | none => none
  | _ :: _ => none
/-- what is in flight is put away: it won't be changed any more -/
theorem allD_rep {K : PySem.W.Frag} {μ : Mu} {O : List Addr} {H : Hp} (hO : ∀ a ∈ O, a ∈ μ.own) : ∀ {fr : List Addr} {ws : List W} {vs : List V} {ds : List PyData}, (∀ a ∈ fr, a ∉ μ.locs ∧ a ∉ O) → allD ws = some ds → RepWs K μ fr H ws vs → RepDs H (Mu.mk μ.locs O).fp ds vs := by
  intro fr ws vs ds hf h r
  induction r generalizing ds with
  | nil =>
    cases h
    exact .nil
  | @cons H fr frs w v ws vs a r ih =>
    have hf' : ∀ a ∈ frs, a ∉ μ.locs ∧ a ∉ O := fun b hb => hf b (List.mem_append_left _ hb)
    cases w with
    | d x =>
      unfold allD at h
      cases e : allD ws with
      | none => rw [e] at h; cases h
      | some xs =>
        rw [e] at h
        cases h
        exact .cons (a.2.ext (.sub (fp_sub hO))) (ih hf' e)
    | new x =>
      unfold allD at h
      cases e : allD ws with
      | none => rw [e] at h; cases h
      | some xs =>
        rw [e] at h
        cases h
        obtain ⟨p, us, rfl, rfl, h1, h2⟩ := a
        have hp := hf p (List.mem_append_right _ List.mem_cons_self)
        exact .cons (.list h1 (fun z => (List.mem_append.mp z).elim hp.1 hp.2) (h2.ext (.sub (fp_sub hO)))) (ih hf' e)
    | ref i => cases h
    | scr ns => cases h
theorem At.apart {μ₀ μ : Mu} {H₀ H : Hp} {fr : List Addr} {st : Store} (B : At μ₀ H₀ fr μ st H) : ∀ a ∈ fr, a ∉ μ.locs ∧ a ∉ μ₀.own := fun a ha => by
  have hn := B.sr.nd
  unfold Mu.fp at hn
  rw [B.own, List.nodup_append] at hn
  obtain ⟨h1, h2, h3⟩ := hn
  refine ⟨fun z => h3 a z a (List.mem_append_left _ ha) rfl, fun z => ?_⟩
  rw [List.nodup_append] at h2
  exact h2.2.2 a ha a z rfl
/-- data, all put away -/
theorem At.put {μ₀ μ : Mu} {H₀ H : Hp} {fr : List Addr} {st : Store} {K : PySem.W.Frag} {ws : List W} {vs : List V} {ds : List PyData} (B : At μ₀ H₀ fr μ st H) (r : RepWs K μ fr H ws vs) (h : allD ws = some ds) :
    At μ₀ H₀ [] ⟨μ.locs, [] ++ μ₀.own⟩ st H ∧ RepDs H (Mu.mk μ.locs ([] ++ μ₀.own)).fp ds vs :=
  ⟨B.trim (List.nil_sublist _), allD_rep (B.sub (List.nil_sublist _)) (fun a ha => B.apart a ha) h r⟩
def opTup (ws : List W) : M W := match allD ws with
  | some xs => if xs.length ≤ sizeLine then mret (.d (.tuple xs)) else mfail
  | none => mfail
def opLst (ws : List W) : M W := match allD ws with
  | some xs => if xs.length ≤ sizeLine then mret (.new xs) else mfail
  | none => mfail
section
variable {X : Cx} {mg : Str → Option Value} {E : XK} {es : List Expr} {t : Env → M (List W)} {pos : Pos} {k : Nat}
theorem r_tup (ha : PA X es (tA X.K mg E t)) : PE X (.Tuple es k pos) (tE X.K mg E (sCallB opTup t)) :=
  PE_imp (pe_tup ha) fun σ H Q ⟨μ, ρ, st, hs, hr, h⟩ =>
    ⟨μ, ρ, st, hs, hr, (PostG.bind (R := RepWs X.K) h (.start hr)).mono fun x H1 ⟨μ1, fr1, w1, st1, a1, r1, h1⟩ => by
      unfold opTup at h1
      cases e : allD w1 with
      | none => rw [e] at h1; exact h1.elim
      | some xs =>
        rw [e] at h1
        dsimp only at h1
        by_cases hl : xs.length ≤ sizeLine
        · rw [if_pos hl] at h1
          obtain ⟨a1', r⟩ := a1.put r1 e
          rw [r.length] at hl
          exact ⟨hl, fun p hp => PostG.newTup h1 a1' r p hp⟩
        · rw [if_neg hl] at h1
          exact h1.elim⟩
theorem r_lst (ha : PA X es (tA X.K mg E t)) : PE X (.List es pos) (tE X.K mg E (sCallB opLst t)) :=
  PE_imp (pe_lst ha) fun σ H Q ⟨μ, ρ, st, hs, hr, h⟩ =>
    ⟨μ, ρ, st, hs, hr, (PostG.bind (R := RepWs X.K) h (.start hr)).mono fun x H1 ⟨μ1, fr1, w1, st1, a1, r1, h1⟩ => by
      unfold opLst at h1
      cases e : allD w1 with
      | none => rw [e] at h1; exact h1.elim
      | some xs =>
        rw [e] at h1
        dsimp only at h1
        by_cases hl : xs.length ≤ sizeLine
        · rw [if_pos hl] at h1
          obtain ⟨a1', r⟩ := a1.put r1 e
          rw [r.length] at hl
          exact ⟨hl, fun p hp => PostG.newLst h1 a1' r p hp⟩
        · rw [if_neg hl] at h1
          exact h1.elim⟩
end
end Ev

namespace Ev
open PySem PySem.Spec PyProof.Rows L2

/-! ### the store is written -/
section
variable {μ₀ μ : Mu} {st : Store} {H₀ H : Hp} {fr : List Addr} {i : Nat} {a : Addr} {vs us : List V} {ys : List PyData}
theorem locs_inj (s : SR μ st H) {j : Nat} (hi : μ.locs[i]? = some a) (hj : μ.locs[j]? = some a) : i = j := by
  have hn : μ.locs.Nodup := (List.nodup_append.mp s.nd).1
  obtain ⟨h1, e1⟩ := List.getElem?_eq_some_iff.mp hi
  obtain ⟨h2, e2⟩ := List.getElem?_eq_some_iff.mp hj
  exact (List.getElem_inj hn).mp (e1.trans e2.symm)
theorem loc_noown (s : SR μ st H) (hi : μ.locs[i]? = some a) : ∀ b ∈ μ.own, b ≠ a := fun b hb e => by
  subst e
  exact (List.nodup_append.mp s.nd).2.2 b (List.mem_of_getElem? hi) b hb rfl
theorem Ext.write (s : SR μ st H) (hi : μ.locs[i]? = some a) (hH : H a = some (.lst vs)) : Ext μ H μ (upd H a (.lst us)) :=
  ⟨.write hH (List.mem_append_left _ (List.mem_of_getElem? hi)), fun _ _ h => h, fun b hb => ⟨hb, upd_ne (loc_noown s hi b hb)⟩⟩
theorem SR.write (s : SR μ st H) (hi : μ.locs[i]? = some a) (hH : H a = some (.lst vs)) (r : RepDs H μ.fp ys us) : SR μ (st.set i (.lst ys)) (upd H a (.lst us)) := by
  have e := Ext.write (us := us) s hi hH
  refine ⟨by rw [List.length_set]; exact s.len, s.nd, fun j xs q => ?_, fun b hb => ?_⟩
  · by_cases ij : i = j
    · subst ij
      have hl : i < st.length := by
        rw [← s.len]
        exact (List.getElem?_eq_some_iff.mp hi).1
      rw [List.getElem?_set_self hl] at q
      cases q
      exact ⟨a, us, hi, upd_same, r.ext e.hx⟩
    · rw [List.getElem?_set_ne ij] at q
      obtain ⟨b, ws, h1, h2, h3⟩ := s.cell j xs q
      refine ⟨b, ws, h1, ?_, h3.ext e.hx⟩
      rw [upd_ne (show b ≠ a from fun z => ij (locs_inj s hi (by rw [← z]; exact h1)))]
      exact h2
  · rw [upd_ne (loc_noown s hi b hb)]
    exact s.own b hb
/-- behind a store -/
theorem At.wrote (B : At μ₀ H₀ fr μ st H) (hi : μ.locs[i]? = some a) (hH : H a = some (.lst vs)) (r : RepDs H μ.fp ys us) : At μ₀ H₀ fr μ (st.set i (.lst ys)) (upd H a (.lst us)) :=
  ⟨B.ext.trans (Ext.write B.sr hi hH), B.own, B.sr.write hi hH r⟩
end

/-! ### built-ins -/
def pyTy : PyData → String
  | .none => "NoneType"
  | .bool _ => "bool"
  | .int _ => "int"
  | .str _ => "str"
  | .list _ => "list"
  | .tuple _ => "tuple"
  | .dict _ => "dict"
inductive Ty where
  | int | bool | str | tuple | list
def Ty.name : Ty → String
  | .int => "int"
  | .bool => "bool"
  | .str => "str"
  | .tuple => "tuple"
  | .list => "list"
def isTy : Ty → PyData → Bool
  | .int, .int _ => true
  | .int, .bool _ => true
  | .bool, .bool _ => true
  | .str, .str _ => true
  | .tuple, .tuple _ => true
  | .list, .list _ => true
  | _, _ => false
def opIsi (t : Ty) : W → M W
  | .d x => mret (.d (.bool (isTy t x)))
  | .ref _ => mret (.d (.bool (isTy t (.list []))))
  | .new _ => mret (.d (.bool (isTy t (.list []))))
  | .scr _ => mfail
theorem kit_all (t : Ty) (x : PyData) (h : ∀ kvs, x ≠ .dict kvs) : kitB (pyTy x) t.name = some (isTy t x) := by
  cases t <;> cases x <;> first
    | exact absurd rfl (h _)
    | (show kitB _ _ = some _; dsimp only [pyTy, Ty.name, isTy]; decide +kernel)
theorem boot_ty (t : Ty) : bootBuiltins (Str.ofString t.name) = some (.type t.name) := by cases t <;> decide +kernel
theorem ty_ne (t : Ty) : Str.ofString t.name ≠ "__name__" := by cases t <;> decide +kernel
theorem ty_db (t : Ty) : (Str.ofString t.name == ("__debug__" : Str)) = false := by cases t <;> decide +kernel
def opLen : List W → M W
  | [.d (.str z)] => if z.length ≤ sizeLine then mret (.d (.int z.length)) else mfail
  | [x] => fun st => match asSeq x st with
    | some xs => some (.ok (.d (.int xs.length)), st)
    | none => none
  | _ => mfail
def opAbs : List W → M W
  | [.d (.int i)] => mret (.d (.int (if i < 0 then -i else i)))
  | _ => mfail
def asInts : List PyData → Option (List Int)
  | [] => some []
  | .int i :: r => match asInts r with
    | some is => some (i :: is)
    | none => none
  | _ => none
def asBools : List PyData → Option (List Bool)
  | [] => some []
  | .bool i :: r => match asBools r with
    | some is => some (i :: is)
    | none => none
  | _ => none
def asStrs : List PyData → Option (List Str)
  | [] => some []
  | .str i :: r => match asStrs r with
    | some is => some (i :: is)
    | none => none
  | _ => none
theorem asInts_eq : ∀ {ds : List PyData} {ns : List Int}, asInts ds = some ns → ds = ns.map PyData.int
  | [], _, h => by cases h; rfl
  | .int i :: r, _, h => by
    unfold asInts at h
    split at h
    · next e => cases h; rw [List.map_cons, ← asInts_eq e]
    · cases h
theorem asBools_eq : ∀ {ds : List PyData} {ns : List Bool}, asBools ds = some ns → ds = ns.map PyData.bool
  | [], _, h => by cases h; rfl
  | .bool i :: r, _, h => by
    unfold asBools at h
    split at h
    · next e => cases h; rw [List.map_cons, ← asBools_eq e]
    · cases h
theorem asStrs_eq : ∀ {ds : List PyData} {ns : List Str}, asStrs ds = some ns → ds = ns.map PyData.str
  | [], _, h => by cases h; rfl
  | .str i :: r, _, h => by
    unfold asStrs at h
    split at h
    · next e => cases h; rw [List.map_cons, ← asStrs_eq e]
    · cases h
def maxL : Int → List Int → Int
  | m, [] => m
  | m, x :: xs => maxL (if x > m then x else m) xs
def minL : Int → List Int → Int
  | m, [] => m
  | m, x :: xs => minL (if x < m then x else m) xs
theorem maxL_spec : ∀ (xs : List Int) (m : Int), (maxL m xs = m ∨ maxL m xs ∈ xs) ∧ m ≤ maxL m xs ∧ ∀ x ∈ xs, x ≤ maxL m xs
  | [], m => ⟨.inl rfl, Int.le_refl _, fun _ h => nomatch h⟩
  | x :: xs, m => by
    obtain ⟨h1, h2, h3⟩ := maxL_spec xs (if x > m then x else m)
    unfold maxL
    refine ⟨?_, ?_, ?_⟩
    · rcases h1 with h1 | h1
      · rw [h1]
        split
        · exact .inr List.mem_cons_self
        · exact .inl rfl
      · exact .inr (List.mem_cons_of_mem _ h1)
    · split at h2 <;> split <;> omega
    · intro y hy
      rcases List.mem_cons.mp hy with rfl | hy
      · split at h2 <;> split <;> omega
      · exact h3 y hy
theorem minL_spec : ∀ (xs : List Int) (m : Int), (minL m xs = m ∨ minL m xs ∈ xs) ∧ minL m xs ≤ m ∧ ∀ x ∈ xs, minL m xs ≤ x
  | [], m => ⟨.inl rfl, Int.le_refl _, fun _ h => nomatch h⟩
  | x :: xs, m => by
    obtain ⟨h1, h2, h3⟩ := minL_spec xs (if x < m then x else m)
    unfold minL
    refine ⟨?_, ?_, ?_⟩
    · rcases h1 with h1 | h1
      · rw [h1]
        split
        · exact .inr List.mem_cons_self
        · exact .inl rfl
      · exact .inr (List.mem_cons_of_mem _ h1)
    · split at h2 <;> split <;> omega
    · intro y hy
      rcases List.mem_cons.mp hy with rfl | hy
      · split at h2 <;> split <;> omega
      · exact h3 y hy
theorem maxL_uniq {x m : Int} {xs : List Int} (h1 : m ∈ x :: xs) (h2 : ∀ y, y ∈ x :: xs → y ≤ m) : m = maxL x xs := by
  obtain ⟨a, b, c⟩ := maxL_spec xs x
  have ha : maxL x xs ∈ x :: xs := by
    rcases a with a | a
    · rw [a]; exact List.mem_cons_self
    · exact List.mem_cons_of_mem _ a
  have := h2 _ ha
  rcases List.mem_cons.mp h1 with h1 | h1
  · omega
  · have := c _ h1
    omega
theorem minL_uniq {x m : Int} {xs : List Int} (h1 : m ∈ x :: xs) (h2 : ∀ y, y ∈ x :: xs → m ≤ y) : m = minL x xs := by
  obtain ⟨a, b, c⟩ := minL_spec xs x
  have ha : minL x xs ∈ x :: xs := by
    rcases a with a | a
    · rw [a]; exact List.mem_cons_self
    · exact List.mem_cons_of_mem _ a
  have := h2 _ ha
  rcases List.mem_cons.mp h1 with h1 | h1
  · omega
  · have := c _ h1
    omega
/-- the ints of a list or tuple -/
def intsOf (w : W) (st : Store) : Option (List Int) := match asSeq w st with
  | some xs => asInts xs
  | none => none
def opMax : List W → M W
  | [.d (.int i), .d (.int j)] => mret (.d (.int (if j > i then j else i)))
  | [x] => fun st => match intsOf x st with
    | some (i :: is) => some (.ok (.d (.int (maxL i is))), st)
    | _ => none
  | _ => mfail
def opMin : List W → M W
  | [.d (.int i), .d (.int j)] => mret (.d (.int (if j < i then j else i)))
  | [x] => fun st => match intsOf x st with
    | some (i :: is) => some (.ok (.d (.int (minL i is))), st)
    | _ => none
  | _ => mfail
def opSum : List W → M W
  | [x] => fun st => match intsOf x st with
    | some is => some (.ok (.d (.int is.sum)), st)
    | _ => none
  | _ => mfail
def boolsOf (w : W) (st : Store) : Option (List Bool) := match asList w st with
  | some xs => asBools xs
  | none => none
def opAll : List W → M W
  | [x] => fun st => match boolsOf x st with
    | some is => some (.ok (.d (.bool (is.all id))), st)
    | _ => none
  | _ => mfail
def opAny : List W → M W
  | [x] => fun st => match boolsOf x st with
    | some is => some (.ok (.d (.bool (is.any id))), st)
    | _ => none
  | _ => mfail
def opTuple : List W → M W
  | [.d (.tuple xs)] => mret (.d (.tuple xs))
  | [x] => fun st => match asList x st with
    | some xs => some (.ok (.d (.tuple xs)), st)
    | none => none
  | _ => mfail
def opList : List W → M W
  | [x] => fun st => match asSeq x st with
    | some xs => some (.ok (.new xs), st)
    | none => none
  | _ => mfail
def opInt : List W → M W
  | [.d (.int i)] => mret (.d (.int i))
  | [.d (.bool b)] => mret (.d (.int (if b then 1 else 0)))
  | [.d (.str x)] => match PySem.intText? x with
    | some n => if x.length ≤ 640 then mret (.d (.int n)) else mfail
    | none => mfail
  | _ => mfail
def opStr : List W → M W
  | [.d (.int i)] => if i.natAbs.log2 < 1920 then mret (.d (.str (toString i))) else mfail
  | [.d (.bool b)] => mret (.d (.str (if b then "True" else "False")))
  | _ => mfail

/-- the sum of a tuple of ints -/
theorem sum_tup_raw {prog : Program} {w : World} {A : Around} {E : Value → Shared → Prop} {s : Shared} {l : Addr} {its : List Value} {ns : List Int} {Q : Value → Shared → Prop} (hh : A.handled = none) (hl : s.heap.IsTuple l its.toArray) (hi : IntsAre its ns)
    (h : ∀ h' tk t', (∀ b o, s.heap.get? b = some o → h'.get? b = some o) → Q (.int ns.sum t') { s with heap := h', toks := tk }) : wpAny (model prog w) A (call (.builtin "sum") [.ref l]) Q E s := by
  obtain ⟨xs, e⟩ := hi.allInts.items
  have hn : numsOf (intItems xs).toList = ns := by rw [← e]; exact hi.numsOf
  rw [nums_intItems] at hn
  rw [e] at hl
  have hlt : l < s.heap.objs.size := by obtain ⟨_, e, _⟩ := hl; exact Heap.lt_size e
  refine call_sum_walkG (wpAny_pyIter_tuple hl ?_)
  refine ⟨_, _, _, _, _, _, numAt xs, rfl, Walks.tuple (A := A.in1) hh _ l (Nat.ne_of_lt hlt) (intItems xs), ⟨⟨_, Heap.get?_push_size _ rfl, rfl, rfl⟩, hl.push _⟩, (fun b hb => ?_), (fun _ _ => intItems_at), fun h' tk t' hk => ?_⟩
  · show b < (s.heap.push _).objs.size
    rw [Heap.size_push]
    rcases List.mem_cons.mp hb with rfl | hb
    · exact Nat.lt_succ_self _
    · rcases List.mem_cons.mp hb with rfl | hb
      · exact Nat.lt_succ_of_lt hlt
      · cases hb
  · have := h h' tk t' (fun b o e => hk b o (fun hb => absurd (Heap.lt_size e) ((List.mem_singleton.mp hb) ▸ Nat.lt_irrefl _)) (Heap.get?_push_of_some _ e))
    have e2 : preSum (numAt xs) (intItems xs).size = ns.sum := by
      rw [show (intItems xs).size = xs.size by simp [intItems], preSum_eq, List.take_of_length_le (by simp), hn]
    rw [e2]
    exact this

section
variable {X : Cx} {mg : Str → Option Value} {E : XK}
theorem intsOf_sq {K : PySem.W.Frag} {μ : Mu} {fr : List Addr} {H : Hp} {st : Store} {w : W} {v : V} {ns : List Int} (h : intsOf w st = some ns) (s : SR μ st H) (r : RepW K μ fr H w v) : ∃ a, v = .ref a ∧ (SqL K H a (ns.map V.int) ∨ SqT K H a (ns.map V.int)) := by
  unfold intsOf at h
  split at h
  · next e =>
    obtain ⟨a, vs, rfl, hq, hr⟩ := asSeq_sq e s r
    rw [asInts_eq h] at hr
    rw [hr.ints] at hq
    exact ⟨a, rfl, hq⟩
  · cases h
theorem boolsOf_sq {K : PySem.W.Frag} {μ : Mu} {fr : List Addr} {H : Hp} {st : Store} {w : W} {v : V} {ns : List Bool} (h : boolsOf w st = some ns) (s : SR μ st H) (r : RepW K μ fr H w v) : ∃ a, v = .ref a ∧ H a = some (.lst (ns.map V.bl)) := by
  unfold boolsOf at h
  split at h
  · next e =>
    obtain ⟨a, vs, rfl, hq, hr⟩ := asList_sq e s r
    rw [asBools_eq h] at hr
    rw [hr.bools] at hq
    exact ⟨a, rfl, hq⟩
  · cases h
theorem RepWs.one {K : PySem.W.Frag} {μ : Mu} {fr : List Addr} {H : Hp} {w : W} {vs : List V} (r : RepWs K μ fr H [w] vs) : ∃ v, vs = [v] ∧ RepW K μ fr H w v := by
  cases r with
  | cons a r => cases r; exact ⟨_, rfl, a⟩
theorem RepWs.two {K : PySem.W.Frag} {μ : Mu} {fr : List Addr} {H : Hp} {w u : W} {vs : List V} (r : RepWs K μ fr H [w, u] vs) : ∃ v v' fr1 fr2, vs = [v, v'] ∧ fr = fr2 ++ fr1 ∧ RepW K μ fr1 H w v ∧ RepW K μ fr2 H u v' := by
  cases r with
  | cons a r =>
    cases r with
    | cons b r => cases r; exact ⟨_, _, _, _, rfl, rfl, a, b⟩
theorem c_len : CallR X (.builtin "len") (cOf X.K mg E opLen) := by
  intro pins s σ H xs us Q I rv ⟨μ₀, H₀, μ, fr, ws, st, B, r, h⟩
  unfold opLen at h
  split at h
  · split at h
    · next hl =>
      obtain ⟨v, rfl, r1⟩ := r.one
      cases r1.str
      exact call_len_str pins s σ H _ us Q I rv ⟨_, rfl, hl, PostG.int h B⟩
    · exact h.elim
  · try dsimp only at h
    split at h
    · next e =>
      obtain ⟨v, rfl, r1⟩ := r.one
      obtain ⟨a, vs, rfl, hq, hr⟩ := asSeq_sq e B.sr r1
      rw [hr.length] at h
      exact call_len_seq pins s σ H _ us Q I rv ⟨a, vs, rfl, hq, PostG.int h B⟩
    · exact h.elim
  · exact h.elim
theorem c_abs : CallR X (.builtin "abs") (cOf X.K mg E opAbs) := by
  intro pins s σ H xs us Q I rv ⟨μ₀, H₀, μ, fr, ws, st, B, r, h⟩
  unfold opAbs at h
  split at h
  · obtain ⟨v, rfl, r1⟩ := r.one
    cases r1.int
    exact call_abs pins s σ H _ us Q I rv ⟨_, rfl, PostG.int h B⟩
  · exact h.elim
theorem reads_ints {h : Heap} : ∀ {us : List Value} {ns : List Int}, IntsAre us ns → ∃ as, ReadsAll h us (ns.map PyData.int) as
  | _, _, .nil => ⟨_, .nil⟩
  | _, _, .cons n t r => let ⟨as, q⟩ := reads_ints r; ⟨_, .cons (.int _ _) q⟩
theorem depth_ints : ∀ ns : List Int, PyData.depthAll (ns.map PyData.int) = 0
  | [] => by simp [PyData.depthAll]
  | n :: ns => by simp [PyData.depthAll, PyData.depth, depth_ints ns]
theorem c_sum (hc : X.calm = true) : CallR X (.builtin "sum") (cOf X.K mg E opSum) := by
  intro pins s σ H xs us Q I rv ⟨μ₀, H₀, μ, fr, ws, st, B, r, h⟩
  unfold opSum at h
  split at h
  · try dsimp only at h
    split at h
    · next e =>
      obtain ⟨v, rfl, r1⟩ := r.one
      obtain ⟨a, rfl, hq⟩ := intsOf_sq e B.sr r1
      rcases hq with hq | hq
      · exact cr_sum hc pins s σ H _ us Q I rv ⟨a, _, rfl, hq, PostG.int h B⟩
      · obtain ⟨its, rv', hl, _⟩ := I.tuple hq
        rw [Vals.ref1 rv]
        exact sum_tup_raw (I.ok.hd hc) hl rv'.ints fun h' tk t' hk => ⟨.int _, H, I.kept hk, ⟨_, rfl⟩, PostG.int h B⟩
    · exact h.elim
  · exact h.elim
theorem c_all (hc : X.calm = true) : CallR X (.builtin "all") (cOf X.K mg E opAll) := by
  intro pins s σ H xs us Q I rv ⟨μ₀, H₀, μ, fr, ws, st, B, r, h⟩
  unfold opAll at h
  split at h
  · try dsimp only at h
    split at h
    · next e =>
      obtain ⟨v, rfl, r1⟩ := r.one
      obtain ⟨a, rfl, hq⟩ := boolsOf_sq e B.sr r1
      exact cr_all hc pins s σ H _ us Q I rv ⟨a, _, rfl, SqL.of hq, PostG.bool h B⟩
    · exact h.elim
  · exact h.elim
theorem c_any (hc : X.calm = true) : CallR X (.builtin "any") (cOf X.K mg E opAny) := by
  intro pins s σ H xs us Q I rv ⟨μ₀, H₀, μ, fr, ws, st, B, r, h⟩
  unfold opAny at h
  split at h
  · try dsimp only at h
    split at h
    · next e =>
      obtain ⟨v, rfl, r1⟩ := r.one
      obtain ⟨a, rfl, hq⟩ := boolsOf_sq e B.sr r1
      exact cr_any hc pins s σ H _ us Q I rv ⟨a, _, rfl, SqL.of hq, PostG.bool h B⟩
    · exact h.elim
  · exact h.elim
theorem c_tuple : CallR X (.type "tuple") (cOf X.K mg E opTuple) := by
  intro pins s σ H xs us Q I rv ⟨μ₀, H₀, μ, fr, ws, st, B, r, h⟩
  unfold opTuple at h
  split at h
  · obtain ⟨v, rfl, r1⟩ := r.one
    obtain ⟨a, vs, rfl, hq, hr⟩ := r1.tup
    exact call_tuple_of pins s σ H _ us Q I rv ⟨a, vs, rfl, .inr ⟨SqT.of hq, PostG.data h B r1.2⟩⟩
  · try dsimp only at h
    split at h
    · next e =>
      obtain ⟨v, rfl, r1⟩ := r.one
      obtain ⟨a, vs, rfl, hq, hr⟩ := asList_sq e B.sr r1
      exact call_tuple_of pins s σ H _ us Q I rv ⟨a, vs, rfl, .inl ⟨SqL.of hq, fun p hp => PostG.newTup h B hr p hp⟩⟩
    · exact h.elim
  · exact h.elim
theorem c_list : CallR X (.type "list") (cOf X.K mg E opList) := by
  intro pins s σ H xs us Q I rv ⟨μ₀, H₀, μ, fr, ws, st, B, r, h⟩
  unfold opList at h
  split at h
  · try dsimp only at h
    split at h
    · next e =>
      obtain ⟨v, rfl, r1⟩ := r.one
      obtain ⟨a, vs, rfl, hq, hr⟩ := asSeq_sq e B.sr r1
      exact call_list_of pins s σ H _ us Q I rv ⟨a, vs, rfl, hq, fun p hp => PostG.newLst h B hr p hp⟩
    · exact h.elim
  · exact h.elim
theorem c_int : CallR X (.type "int") (cOf X.K mg E opInt) := by
  intro pins s σ H xs us Q I rv ⟨μ₀, H₀, μ, fr, ws, st, B, r, h⟩
  unfold opInt at h
  split at h
  · obtain ⟨v, rfl, r1⟩ := r.one
    cases r1.int
    exact call_int1 pins s σ H _ us Q I rv (.inl ⟨_, rfl, PostG.int h B⟩)
  · obtain ⟨v, rfl, r1⟩ := r.one
    cases r1.bool
    exact call_int1 pins s σ H _ us Q I rv (.inr ⟨_, rfl, PostG.int h B⟩)
  · next x =>
    cases e : PySem.intText? x with
    | none => rw [e] at h; exact h.elim
    | some n =>
      rw [e] at h
      dsimp only at h
      by_cases hl : x.length ≤ 640
      · rw [if_pos hl] at h
        obtain ⟨v, rfl, r1⟩ := r.one
        cases r1.str
        exact call_int_str pins s σ H _ us Q I rv ⟨_, _, rfl, e, hl, PostG.int h B⟩
      · rw [if_neg hl] at h
        exact h.elim
  · exact h.elim
theorem call_str_bl : CallR X (.type "str") (fun xs H Q => ∃ b : Bool, xs = [.bl b] ∧ Q (.str (if b then "True" else "False")) H) := by
  rintro pins s σ H xs us Q I rv ⟨b, rfl, q⟩
  cases rv with
  | cons r rr =>
    cases rr
    cases r
    exact PySem.P.str_of_bool ⟨.str (if b then "True" else "False"), H, I.tok _, ⟨_, rfl⟩, q⟩
theorem c_str : CallR X (.type "str") (cOf X.K mg E opStr) := by
  intro pins s σ H xs us Q I rv ⟨μ₀, H₀, μ, fr, ws, st, B, r, h⟩
  unfold opStr at h
  split at h
  · split at h
    · next hl =>
      obtain ⟨v, rfl, r1⟩ := r.one
      cases r1.int
      exact call_str_int pins s σ H _ us Q I rv ⟨_, rfl, hl, PostG.str h B⟩
    · exact h.elim
  · obtain ⟨v, rfl, r1⟩ := r.one
    cases r1.bool
    exact call_str_bl pins s σ H _ us Q I rv ⟨_, rfl, PostG.str h B⟩
  · exact h.elim
end
section
variable {prog : Program} {w : World} {A : Around} {E : Value → Shared → Prop} {s : Shared} {l : Addr} {its : List Value} {ns : List Int} {Q : Value → Shared → Prop}
theorem tup_fp (hlt : l < s.heap.objs.size) {o : Obj} : ∀ b ∈ [s.heap.objs.size, l], b < (s.heap.push o).objs.size := fun b hb => by
  rw [Heap.size_push]
  rcases List.mem_cons.mp hb with rfl | hb
  · exact Nat.lt_succ_self _
  · rcases List.mem_cons.mp hb with rfl | hb
    · exact Nat.lt_succ_of_lt hlt
    · cases hb
theorem max_tup_raw (hh : A.handled = none) (hl : s.heap.IsTuple l its.toArray) (hi : IntsAre its ns) (hne : 0 < ns.length)
    (h : ∀ h' tk M t', (∀ b o, s.heap.get? b = some o → h'.get? b = some o) → M ∈ ns → (∀ a, a ∈ ns → a ≤ M) → Q (.int M t') { s with heap := h', toks := tk }) : wpAny (model prog w) A (call (.builtin "max") [.ref l]) Q E s := by
  obtain ⟨xs, e⟩ := hi.allInts.items
  have hn : numsOf (intItems xs).toList = ns := by rw [← e]; exact hi.numsOf
  rw [nums_intItems] at hn
  subst hn
  rw [e] at hl
  have hsz : 0 < xs.size := by simpa using hne
  have hlt : l < s.heap.objs.size := by obtain ⟨_, e, _⟩ := hl; exact Heap.lt_size e
  refine call_max_walk (wpAny_pyIter_tuple hl ?_)
  refine ⟨_, _, _, _, _, _, _, rfl, Walks.tuple (A := A.in1) hh _ l (Nat.ne_of_lt hlt) (intItems xs), ⟨⟨_, Heap.get?_push_size _ rfl, rfl, rfl⟩, hl.push _⟩, tup_fp hlt, by simpa [intItems] using hsz, CmpOf.ints_gt (numAt xs) (fun _ _ => intItems_at), fun v h' tk hP hk => ?_⟩
  have hv : (intItems xs)[argBest (fun i j => decide (numAt xs i > numAt xs j)) (xs.size - 1)]? = some v := by simpa [intItems] using hP
  obtain ⟨t, rfl⟩ := intItems_at hv
  obtain ⟨h1, h2⟩ := argBest_gt (numAt xs) (xs.size - 1)
  refine h h' tk _ t (fun b o e => hk b o (fun hb => absurd (Heap.lt_size e) ((List.mem_singleton.mp hb) ▸ Nat.lt_irrefl _)) (Heap.get?_push_of_some _ e)) ?_ fun a ha => ?_
  · rw [numAt_eq]; exact PySem.getD_mem (by rw [List.length_map, Array.length_toList]; omega)
  · obtain ⟨j, hj, rfl⟩ := mem_getD ha
    rw [List.length_map, Array.length_toList] at hj
    rw [← numAt_eq]; exact h2 j (by omega)
theorem min_tup_raw (hh : A.handled = none) (hl : s.heap.IsTuple l its.toArray) (hi : IntsAre its ns) (hne : 0 < ns.length)
    (h : ∀ h' tk M t', (∀ b o, s.heap.get? b = some o → h'.get? b = some o) → M ∈ ns → (∀ a, a ∈ ns → M ≤ a) → Q (.int M t') { s with heap := h', toks := tk }) : wpAny (model prog w) A (call (.builtin "min") [.ref l]) Q E s := by
  obtain ⟨xs, e⟩ := hi.allInts.items
  have hn : numsOf (intItems xs).toList = ns := by rw [← e]; exact hi.numsOf
  rw [nums_intItems] at hn
  subst hn
  rw [e] at hl
  have hsz : 0 < xs.size := by simpa using hne
  have hlt : l < s.heap.objs.size := by obtain ⟨_, e, _⟩ := hl; exact Heap.lt_size e
  refine call_min_walk (wpAny_pyIter_tuple hl ?_)
  refine ⟨_, _, _, _, _, _, _, rfl, Walks.tuple (A := A.in1) hh _ l (Nat.ne_of_lt hlt) (intItems xs), ⟨⟨_, Heap.get?_push_size _ rfl, rfl, rfl⟩, hl.push _⟩, tup_fp hlt, by simpa [intItems] using hsz, CmpOf.ints_lt (numAt xs) (fun _ _ => intItems_at), fun v h' tk hP hk => ?_⟩
  have hv : (intItems xs)[argBest (fun i j => decide (numAt xs i < numAt xs j)) (xs.size - 1)]? = some v := by simpa [intItems] using hP
  obtain ⟨t, rfl⟩ := intItems_at hv
  obtain ⟨h1, h2⟩ := argBest_lt (numAt xs) (xs.size - 1)
  refine h h' tk _ t (fun b o e => hk b o (fun hb => absurd (Heap.lt_size e) ((List.mem_singleton.mp hb) ▸ Nat.lt_irrefl _)) (Heap.get?_push_of_some _ e)) ?_ fun a ha => ?_
  · rw [numAt_eq]; exact PySem.getD_mem (by rw [List.length_map, Array.length_toList]; omega)
  · obtain ⟨j, hj, rfl⟩ := mem_getD ha
    rw [List.length_map, Array.length_toList] at hj
    rw [← numAt_eq]; exact h2 j (by omega)
end
section
variable {X : Cx} {mg : Str → Option Value} {E : XK}
theorem c_max (hc : X.calm = true) : CallR X (.builtin "max") (cOf X.K mg E opMax) := by
  intro pins s σ H xs us Q I rv ⟨μ₀, H₀, μ, fr, ws, st, B, r, h⟩
  unfold opMax at h
  split at h
  · obtain ⟨v, v', _, _, rfl, _, r1, r2⟩ := r.two
    cases r1.int
    cases r2.int
    exact call_max2 hc pins s σ H _ us Q I rv ⟨_, _, rfl, PostG.int h B⟩
  · dsimp only at h
    split at h
    · next i is e =>
      obtain ⟨v, rfl, r1⟩ := r.one
      obtain ⟨a, rfl, hq⟩ := intsOf_sq e B.sr r1
      rcases hq with hq | hq
      · refine cr_max hc pins s σ H _ us Q I rv ⟨a, _, rfl, hq, Nat.succ_pos _, fun m h1 h2 => ?_⟩
        rw [maxL_uniq h1 h2]
        exact PostG.int h B
      · obtain ⟨its, rv', hl, _⟩ := I.tuple hq
        rw [Vals.ref1 rv]
        refine max_tup_raw (I.ok.hd hc) hl rv'.ints (Nat.succ_pos _) fun h' tk m t' hk h1 h2 => ⟨.int _, H, I.kept hk, ⟨_, rfl⟩, ?_⟩
        rw [maxL_uniq h1 h2]
        exact PostG.int h B
    · exact h.elim
  · exact h.elim
theorem c_min (hc : X.calm = true) : CallR X (.builtin "min") (cOf X.K mg E opMin) := by
  intro pins s σ H xs us Q I rv ⟨μ₀, H₀, μ, fr, ws, st, B, r, h⟩
  unfold opMin at h
  split at h
  · obtain ⟨v, v', _, _, rfl, _, r1, r2⟩ := r.two
    cases r1.int
    cases r2.int
    exact call_min2 hc pins s σ H _ us Q I rv ⟨_, _, rfl, PostG.int h B⟩
  · dsimp only at h
    split at h
    · next i is e =>
      obtain ⟨v, rfl, r1⟩ := r.one
      obtain ⟨a, rfl, hq⟩ := intsOf_sq e B.sr r1
      rcases hq with hq | hq
      · refine cr_min hc pins s σ H _ us Q I rv ⟨a, _, rfl, hq, Nat.succ_pos _, fun m h1 h2 => ?_⟩
        rw [minL_uniq h1 h2]
        exact PostG.int h B
      · obtain ⟨its, rv', hl, _⟩ := I.tuple hq
        rw [Vals.ref1 rv]
        refine min_tup_raw (I.ok.hd hc) hl rv'.ints (Nat.succ_pos _) fun h' tk m t' hk h1 h2 => ⟨.int _, H, I.kept hk, ⟨_, rfl⟩, ?_⟩
        rw [minL_uniq h1 h2]
        exact PostG.int h B
    · exact h.elim
  · exact h.elim
end
end Ev

namespace Ev
open PySem PySem.Spec PyProof.Rows L2

/-! ### argument lists without stars -/
def isStar : Expr → Bool
  | .Starred _ _ => true
  | _ => false
theorem star_cons {e : Expr} (es : List Expr) (env : PySem.Env) (h : isStar e = false) : starEach (e :: es) env = (false, eval e env) :: starEach es env := by
  cases e <;> first | rfl | (exact nomatch h)
theorem star_any {env : PySem.Env} {pos : Pos} : ∀ {es : List Expr}, es.all (fun e => !isStar e) = true → (backTo pos (starEach es env)).any (·.1) = false
  | [], _ => rfl
  | e :: es, h => by
    rw [List.all_cons, Bool.and_eq_true] at h
    rw [star_cons es env (by simpa using h.1)]
    show (false || (backTo pos (starEach es env)).any (·.1)) = false
    rw [star_any h.2]
    rfl
theorem star_all {env : PySem.Env} {pos : Pos} : ∀ {es : List Expr}, es.all (fun e => !isStar e) = true → (backTo pos (starEach es env)).all (fun x => !x.1) = true
  | [], _ => rfl
  | e :: es, h => by
    rw [List.all_cons, Bool.and_eq_true] at h
    rw [star_cons es env (by simpa using h.1)]
    show (true && (backTo pos (starEach es env)).all (fun x => !x.1)) = true
    rw [star_all h.2]
    rfl

section
variable {X : Cx} {mg : Str → Option Value} {E : XK} {e : Expr} {es : List Expr} {f : Env → M W} {t : Env → M (List W)} {x : Str} {p pos : Pos} {op : List W → M W}
theorem tCB_of {σ : L2.St} {H : Hp} {Q : VK} (h : tE X.K mg E (sCallB op t) σ H Q) : tCB (cOf X.K mg E op) (tA X.K mg E t) σ H Q := by
  obtain ⟨μ, ρ, st, hs, hr, h⟩ := h
  exact ⟨μ, ρ, st, hs, hr, (PostG.bind (R := RepWs X.K) h (.start hr)).mono fun x H1 ⟨μ1, fr1, w1, st1, a1, r1, h1⟩ => ⟨μ, H, μ1, fr1, w1, st1, a1, r1, h1⟩⟩
theorem r_callB {id : String} (hc : CallR X (.builtin id) (cOf X.K mg E op)) (hg : Gl X x) (hm : X.mg x = none) (hv : bootBuiltins x = some (.builtin id)) (ha : PA X (e :: es) (tA X.K mg E t)) (hn : x ≠ "__name__") (hdb : (x == ("__debug__" : Str)) = false)
    (hs : (e :: es).all (fun e => !isStar e) = true) : PE X (.Call (.Name x p) (e :: es) [] pos) (tE X.K mg E (sCallB op t)) := by
  rw [List.all_cons, Bool.and_eq_true] at hs
  exact PE_imp (pe_callB hc hg hm hv ha hn hdb (star_cons _ _ (by simpa using hs.1)) (star_any hs.2)) fun _ _ _ h => tCB_of h
theorem r_callTy {id : String} (hc : CallR X (.type id) (cOf X.K mg E op)) (hg : Gl X x) (hm : X.mg x = none) (hv : bootBuiltins x = some (.type id)) (ha : PA X (e :: es) (tA X.K mg E t)) (hn : x ≠ "__name__") (hdb : (x == ("__debug__" : Str)) = false)
    (hs : (e :: es).all (fun e => !isStar e) = true) : PE X (.Call (.Name x p) (e :: es) [] pos) (tE X.K mg E (sCallB op t)) := by
  rw [List.all_cons, Bool.and_eq_true] at hs
  exact PE_imp (pe_callTy hc hg hm hv ha hn hdb (star_cons _ _ (by simpa using hs.1)) (star_any hs.2)) fun _ _ _ h => tCB_of h
/-- isinstance(e, T) -/
theorem r_isi {ty : Ty} {p2 : Pos} {y : Str} (hg : Gl X "isinstance") (hm : X.mg "isinstance" = none) (hy : y = Str.ofString ty.name) (hg2 : Gl X y) (hm2 : X.mg y = none) (ha : PE X e (tE X.K mg E f)) (hs : isStar e = false) :
    PE X (.Call (.Name "isinstance" p) [e, .Name y p2] [] pos) (tE X.K mg E (sUn (opIsi ty) f)) := by
  subst hy
  have hb : PE X (.Name (Str.ofString ty.name) p2) (tC (.ty ty.name)) := pe_bltn hg2 hm2 (boot_ty ty) rfl (ty_ne ty) (ty_db ty)
  refine PE_imp (pe_callB call_isi hg hm (by decide +kernel) (pa_cons ha (pa_cons hb pa_nil) (star_cons _ _ hs)) (by decide) (by decide) (star_cons _ _ hs)) fun σ H Q ⟨μ, ρ, st, hs, hr, h⟩ => ?_
  refine ⟨μ, ρ, st, hs, hr, (PostG.bind (R := RepW X.K) h (.start hr)).mono fun x H1 ⟨μ1, fr1, w1, st1, a1, r1, h1⟩ => ?_⟩
  unfold opIsi at h1
  split at h1
  · next d =>
    have r : RepD H1 μ1.fp d x := r1.2
    have hk : kitB (pyTy d) ty.name = some (isTy ty d) := kit_all ty d (by
      rintro kvs rfl
      cases r)
    refine ⟨x, .ty ty.name, .type (pyTy d), _, _, rfl, .ty _, ?_, kit_ty hk, PostG.bool h1 a1⟩
    cases r with
    | none => exact .base .non
    | bool b => exact .base (.bl b)
    | int i => exact .base (.int i)
    | str i => exact .base (.str i)
    | list h _ _ => exact .base (.lst h)
    | tuple h _ => exact .base (.tup h)
  · next i =>
    obtain ⟨_, a, ha', rfl⟩ := r1
    have hl : i < st1.length := by rw [← a1.sr.len]; exact (List.getElem?_eq_some_iff.mp ha').1
    obtain ⟨⟨xs⟩, hc⟩ : ∃ c, st1[i]? = some c := ⟨_, List.getElem?_eq_getElem hl⟩
    obtain ⟨a', vs, h1', h2', _⟩ := a1.sr.cell i xs hc
    rw [ha'] at h1'
    cases h1'
    exact ⟨.ref a, .ty ty.name, .type "list", _, _, rfl, .ty _, .base (.lst h2'), kit_ty (kit_all ty (.list []) (by intro _ z; cases z)), PostG.bool h1 a1⟩
  · next xs =>
    obtain ⟨a, vs, _, rfl, h2', _⟩ := r1
    exact ⟨.ref a, .ty ty.name, .type "list", _, _, rfl, .ty _, .base (.lst h2'), kit_ty (kit_all ty (.list []) (by intro _ z; cases z)), PostG.bool h1 a1⟩
  · exact h1.elim
end

/-! ### methods -/
def opAppend : W → List W → M W
  | .ref i, ys => fun st => match st[i]?, allD ys with
    | some (.lst xs), some [y] => if xs.length < sizeLine then some (.ok (.d .none), st.set i (.lst (xs ++ [y]))) else none
    | _, _ => none
  | _, _ => mfail
def opExtend : W → List W → M W
  | .ref i, [z] => fun st => match st[i]?, asSeq z st with
    | some (.lst xs), some ys => (match z with
      | .scr _ => none
      | _ => if xs.length + ys.length ≤ sizeLine then some (.ok (.d .none), st.set i (.lst (xs ++ ys))) else none)
    | _, _ => none
  | _, _ => mfail
def opPop : W → List W → M W
  | .ref i, [] => fun st => match st[i]? with
    | some (.lst xs) => (match xs[xs.length - 1]? with
      | some y => some (.ok (.d y), st.set i (.lst xs.dropLast))
      | none => none)
    | none => none
  | .ref i, [.d (.int k)] => fun st => match st[i]? with
    | some (.lst xs) => if -(2 ^ 63) ≤ k ∧ k < 2 ^ 63 then (match seqIndex? k xs.length with
      | some j => (match xs[j]? with
        | some y => some (.ok (.d y), st.set i (.lst (xs.eraseIdx j)))
        | none => none)
      | none => none) else none
    | none => none
  | _, _ => mfail
/-- the first place of an equal one -/
def findD (d : PyData) : List PyData → Option Nat
  | [] => none
  | z :: zs => if PyData.eqv z d = true then some 0 else (match findD d zs with
    | some j => some (j + 1)
    | none => none)
theorem findD_spec {d : PyData} : ∀ {ds : List PyData} {j : Nat}, findD d ds = some j → ∃ z, ds[j]? = some z ∧ PyData.eqv z d = true ∧ ∀ (m : Nat) (z' : PyData), m < j → ds[m]? = some z' → PyData.eqv z' d = false
  | [], _, h => nomatch h
  | z :: zs, j, h => by
    unfold findD at h
    split at h
    · next e =>
      cases h
      exact ⟨z, rfl, e, fun m _ hm => absurd hm (Nat.not_lt_zero _)⟩
    · next e =>
      cases q : findD d zs with
      | none => rw [q] at h; cases h
      | some k =>
        rw [q] at h
        cases h
        obtain ⟨y, h1, h2, h3⟩ := findD_spec q
        refine ⟨y, by simpa using h1, h2, fun m z' hm hz => ?_⟩
        cases m with
        | zero =>
          simp at hz
          subst hz
          simpa using e
        | succ m => exact h3 m z' (by omega) (by simpa using hz)
def opIndex : W → List W → M W
  | x, [y] => fun st => match asList x st, asData y st with
    | some xs, some d => if (SeqAt.shaped (.list xs) && SeqAt.shaped d) = true then (match findD d xs with
      | some j => some (.ok (.d (.int (j : Nat))), st)
      | none => none) else none
    | _, _ => none
  | _, _ => mfail
def strsOf (w : W) (st : Store) : Option (List Str) := match asSeq w st with
  | some xs => asStrs xs
  | none => none
def opJoin : W → List W → M W
  | .d (.str a), [y] => fun st => match strsOf y st with
    | some ys => if (ys.map (·.length)).sum + ys.length * a.length ≤ 16777216 then some (.ok (.d (.str (Txt.join a ys))), st) else none
    | none => none
  | _, _ => mfail
def opSplit : W → List W → M W
  | .d (.str a), [.d (.str b)] => if (b.length == 0) = false ∧ a.length + 2 ≤ sizeLine then mret (.new ((Txt.split a b).map PyData.str)) else mfail
  | _, _ => mfail
theorem extend_tup (l : Addr) (items : Array Value) (n : Nat) (b : Addr) (items2 : Array Value) (n2 : Nat) (dd : Option Addr) (sl : Array (Option Value)) (hs0 : ¬(!items.isEmpty && Builtin.List.listTooLong (items.size + items2.size)) = true) (hs1 : items.size ≤ sizeLine) (hs2 : items.size + items2.size ≤ sizeLine + 1) :
    Meets (Builtin.«list.extend» ⟨[.ref l, .ref b], []⟩) (fun _ R s => s.heap.get? l = some { cls := .type "list", dict := none, data := .seq items n, slots := #[] } ∧ s.heap.get? b = some { cls := .type "tuple", dict := dd, data := .seq items2 n2, slots := sl } ∧ R (.ok (.ret Value.none)) { s with heap := s.heap.update l (Obj.mapSeq fun x => x ++ items2), toks := s.toks }) :=
  .of_wp fun prog w A R s h => by
    obtain ⟨hp, g, d, tk, os⟩ := s; obtain ⟨hl, hb, h⟩ := h; have f1 := PySem.AutoSeq1.idx_int; have f2 := PySem.AutoSeq1.sub_tuple_tuple; have f3 := PySem.AutoSeq1.sub_list_list; have f4 := PySem.AutoSeq1.sub_tuple_list; have f5 := PySem.AutoSeq1.sub_list_tuple;
    have hz' : (items ++ items2).size ≤ sizeLine + 1 := by rw [Array.size_append]; exact hs2
    wp_walk using (wpAny_updateSeq hl rfl (hz := hs1) (_hz' := hz')), wpAny_loadPart' hl, wpAny_loadPart' hb; exact ⟨_, rfl, h⟩
def rExtT (K : PySem.W.Frag) : V → List V → Hp → VK → Prop := fun x vs H Q => ∃ l b xs zs, x = .ref l ∧ vs = [.ref b] ∧ H l = some (.lst xs) ∧ SqT K H b zs ∧ xs.length + zs.length ≤ sizeLine ∧ Q .non (upd H l (.lst (xs ++ zs)))
section
variable {X : Cx} {mg : Str → Option Value} {E : XK}
theorem mt_extT : MtM X "list.extend" (rExtT X.K) := by
  intro pins s σ H x vs v us Q I rx rv h
  obtain ⟨l, b, xs, zs, rfl, rfl, hH, hB, hz, q⟩ := h
  cases rx
  obtain ⟨u, rfl, ru⟩ := rv.one
  cases ru
  obtain ⟨z, its, n, r, hl, e⟩ := I.lstM hH
  obtain ⟨its2, r2, ⟨⟨oc, dd, dt, sl⟩, e2, c2, n2, d2⟩, z2⟩ := I.tuple hB
  have hl2 := r2.length
  dsimp only at c2 d2
  subst c2
  subst d2
  have hsz : its.toArray.size + its2.toArray.size ≤ sizeLine := by rw [List.size_toArray, List.size_toArray]; omega
  have hlong : ¬ (!its.toArray.isEmpty && Builtin.List.listTooLong (its.toArray.size + its2.toArray.size)) = true := by
    rw [notLongL hsz, Bool.and_false]
    exact Bool.false_ne_true
  refine call_meets F.slot_list_extend ⟨_, e, rfl⟩ F.entry_list_extend (F.args_list_extend_2 _ _)
    (extend_tup l its.toArray n b its2.toArray n2 dd sl hlong (by rw [List.size_toArray]; omega) (by omega)) ⟨e, e2, ?_⟩
  refine ⟨.non, _, I.lset (its' := its ++ its2) hH e (by simp) (r.append r2) ?_, rfl, q⟩
  rw [List.length_append]
  omega
theorem cell_at {K : PySem.W.Frag} {μ : Mu} {fr : List Addr} {st : Store} {H : Hp} {i : Nat} {v : V} {xs : List PyData} (s : SR μ st H) (r : RepW K μ fr H (.ref i) v) (h : st[i]? = some (.lst xs)) : ∃ a vs, v = .ref a ∧ μ.locs[i]? = some a ∧ H a = some (.lst vs) ∧ RepDs H μ.fp xs vs := by
  obtain ⟨_, a, ha, rfl⟩ := r
  obtain ⟨a', vs, h1, h2, h3⟩ := s.cell _ _ h
  rw [ha] at h1
  cases h1
  exact ⟨a, vs, rfl, ha, h2, h3⟩
theorem m_append : MtR X "list.append" (mOf X.K mg E opAppend) := by
  intro pins s σ H x xs v us Q I rx rv ⟨μ₀, H₀, μ, fr, fr', w, ws, st, B, r, rs, h⟩
  unfold opAppend at h
  split at h
  · next i =>
    try dsimp only at h
    split at h
    · next zs y e ey =>
      split at h
      · next hl =>
        obtain ⟨rfl, _⟩ := id r
        rw [List.append_nil] at B
        obtain ⟨B', rd⟩ := B.put rs ey
        obtain ⟨a, vs, rfl, ha, hH, hr⟩ := cell_at B'.sr (r.trim (B.sub (List.nil_sublist _))) e
        cases rd with
        | cons r1 rd =>
          cases rd
          have hl' := hr.length
          have B2 := B'.wrote ha hH (hr.append (.cons r1 .nil))
          exact mt_append pins s σ H _ _ v us Q I rx rv ⟨a, vs, _, rfl, rfl, hH, by omega, PostG.non h B2⟩
      · exact h.elim
    · exact h.elim
  · exact h.elim
theorem m_extend : MtR X "list.extend" (mOf X.K mg E opExtend) := by
  intro pins s σ H x xs v us Q I rx rv ⟨μ₀, H₀, μ, fr, fr', w, ws, st, B, r, rs, h⟩
  unfold opExtend at h
  split at h
  · next i z =>
    try dsimp only at h
    split at h
    · next zs ys e e2 =>
      split at h
      · exact h.elim
      · next hscr =>
        split at h
        · next hl =>
          obtain ⟨a, vs, rfl, ha, hH, hr⟩ := cell_at B.sr r e
          obtain ⟨u, rfl, r1⟩ := rs.one
          have hl' := hr.length
          obtain ⟨b, vb, rfl, hq, hr2⟩ := asSeq_sq e2 B.sr r1
          have hl2 := hr2.length
          have fin := PostG.non h (B.wrote ha hH (hr.append hr2))
          rcases hq with hq | hq
          · have hb : H b = some (.lst vb) := by
              cases z with
              | d dd =>
                have r' : RepD H μ.fp dd (.ref b) := r1.2
                cases r' with
                | list h1 h2 h3 =>
                  rw [I.list_inj hq (SqL.of h1)]
                  exact h1
                | tuple h1 h3 =>
                  rcases hq with (hq | ⟨o, hq⟩) | ⟨o, its, n, hk, hc, _⟩
                  · rw [h1] at hq; cases hq
                  · rw [h1] at hq; cases hq
                  · obtain ⟨_, _, ⟨oo, e3, c3, _⟩, _⟩ := I.tuple (SqT.of h1)
                    have := I.kIn b o hk
                    rw [e3] at this
                    cases this
                    rw [c3] at hc
                    exact absurd hc (by decide)
              | ref j =>
                obtain ⟨⟨ws'⟩, hc⟩ : ∃ c, st[j]? = some c := by
                  obtain ⟨_, a', ha', _⟩ := r1
                  exact ⟨_, List.getElem?_eq_getElem (by rw [← B.sr.len]; exact (List.getElem?_eq_some_iff.mp ha').1)⟩
                obtain ⟨a', vs', e', _, hH', _⟩ := cell_at B.sr r1 hc
                cases e'
                rw [I.list_inj hq (SqL.of hH')]
                exact hH'
              | scr ns => exact absurd rfl (hscr ns)
              | new ns =>
                obtain ⟨a', vs', _, e', hH', _⟩ := r1
                cases e'
                rw [I.list_inj hq (SqL.of hH')]
                exact hH'
            exact mt_extend pins s σ H _ _ v us Q I rx rv ⟨a, b, vs, vb, rfl, rfl, hH, hb, by omega, fin⟩
          · exact mt_extT pins s σ H _ _ v us Q I rx rv ⟨a, b, vs, vb, rfl, rfl, hH, hq, by omega, fin⟩
        · exact h.elim
    · exact h.elim
  · exact h.elim
theorem RepDs.dropLast {H : Hp} {F : List Addr} {ds : List PyData} {vs : List V} (r : RepDs H F ds vs) : RepDs H F ds.dropLast vs.dropLast := by
  rw [List.dropLast_eq_take, List.dropLast_eq_take, r.length]
  exact r.take _
theorem RepDs.eraseIdx {H : Hp} {F : List Addr} : ∀ {ds : List PyData} {vs : List V} (i : Nat), RepDs H F ds vs → RepDs H F (ds.eraseIdx i) (vs.eraseIdx i)
  | _, _, _, .nil => .nil
  | _, _, 0, .cons _ r => r
  | _, _, i + 1, .cons b r => .cons b (RepDs.eraseIdx i r)
theorem m_pop : MtR X "list.pop" (mOf X.K mg E opPop) := by
  intro pins s σ H x xs v us Q I rx rv ⟨μ₀, H₀, μ, fr, fr', w, ws, st, B, r, rs, h⟩
  unfold opPop at h
  split at h
  · next i =>
    try dsimp only at h
    split at h
    · next zs e =>
      split at h
      · next y e2 =>
        obtain ⟨a, vs, rfl, ha, hH, hr⟩ := cell_at B.sr r e
        cases rs
        obtain ⟨u, h1, h2⟩ := hr.get e2
        rw [hr.length] at h1
        have B2 := B.wrote ha hH hr.dropLast
        exact mt_pop pins s σ H _ _ v us Q I rx rv ⟨a, vs, u, rfl, rfl, hH, h1, PostG.data h B2 (h2.ext (Ext.write B.sr ha hH).hx)⟩
      · exact h.elim
    · exact h.elim
  · next i k =>
    try dsimp only at h
    split at h
    · next zs e =>
      split at h
      · next hk =>
        split at h
        · next j ej =>
          split at h
          · next y e2 =>
            obtain ⟨a, vs, rfl, ha, hH, hr⟩ := cell_at B.sr r e
            obtain ⟨u', rfl, r1⟩ := rs.one
            cases r1.int
            obtain ⟨u, h1, h2⟩ := hr.get e2
            rw [hr.length] at ej
            have B2 := B.wrote ha hH (hr.eraseIdx j)
            exact mt_popAt pins s σ H _ _ v us Q I rx rv ⟨a, vs, _, j, u, rfl, rfl, hH, hk.1, hk.2, ej, h1, PostG.data h B2 (h2.ext (Ext.write B.sr ha hH).hx)⟩
          · exact h.elim
        · exact h.elim
      · exact h.elim
    · exact h.elim
  · exact h.elim
theorem m_index (hu : X.A.units + 65 < cLine) : MtR X "list.index" (mOf X.K mg E opIndex) := by
  intro pins s σ H x xs v us Q I rx rv ⟨μ₀, H₀, μ, fr, fr', w, ws, st, B, r, rs, h⟩
  unfold opIndex at h
  split at h
  · next y =>
    try dsimp only at h
    split at h
    · next zs d e1 e2 =>
      split at h
      · next hs =>
        rw [Bool.and_eq_true] at hs
        split at h
        · next j ej =>
          obtain ⟨u, rfl, r1⟩ := rs.one
          obtain ⟨a, vs, rfl, hH, hr⟩ := asList_sq e1 B.sr r
          obtain ⟨z, h1, h2, h3⟩ := findD_spec ej
          exact mt_indexD hu pins s σ H _ _ v us Q I rx rv ⟨a, u, d, zs, j, z, rfl, rfl, .lst (SqL.of hH) hr.dp, asData_dp e2 B.sr r1, hs.1, hs.2, h1, h2, h3, PostG.int h B⟩
        · exact h.elim
      · exact h.elim
    · exact h.elim
  · exact h.elim
theorem strsOf_sq {K : PySem.W.Frag} {μ : Mu} {fr : List Addr} {H : Hp} {st : Store} {w : W} {v : V} {ns : List Str} (h : strsOf w st = some ns) (s : SR μ st H) (r : RepW K μ fr H w v) : ∃ a, v = .ref a ∧ (SqL K H a (ns.map V.str) ∨ SqT K H a (ns.map V.str)) := by
  unfold strsOf at h
  split at h
  · next e =>
    obtain ⟨a, vs, rfl, hq, hr⟩ := asSeq_sq e s r
    rw [asStrs_eq h] at hr
    rw [hr.strs] at hq
    exact ⟨a, rfl, hq⟩
  · cases h
theorem m_join : MtR X "str.join" (mOf X.K mg E opJoin) := by
  intro pins s σ H x xs v us Q I rx rv ⟨μ₀, H₀, μ, fr, fr', w, ws, st, B, r, rs, h⟩
  unfold opJoin at h
  split at h
  · next a y =>
    try dsimp only at h
    split at h
    · next ys e =>
      split at h
      · next hl =>
        obtain ⟨u, rfl, r1⟩ := rs.one
        cases r.str
        obtain ⟨p, rfl, hq⟩ := strsOf_sq e B.sr r1
        exact mt_join pins s σ H _ _ v us Q I rx rv ⟨_, p, ys, rfl, rfl, hq, hl, PostG.str h B⟩
      · exact h.elim
    · exact h.elim
  · exact h.elim
theorem m_split : MtR X "str.split" (mOf X.K mg E opSplit) := by
  intro pins s σ H x xs v us Q I rx rv ⟨μ₀, H₀, μ, fr, fr', w, ws, st, B, r, rs, h⟩
  unfold opSplit at h
  split at h
  · split at h
    · next hl =>
      obtain ⟨u, rfl, r1⟩ := rs.one
      cases r.str
      cases r1.str
      exact mt_split pins s σ H _ _ v us Q I rx rv ⟨_, _, rfl, rfl, hl.1, hl.2, fun p hp => PostG.newLst h B (RepDs.ofStrs _) p hp⟩
    · exact h.elim
  · exact h.elim
end
end Ev
namespace L2
open PySem PySem.Spec PyProof.Rows
section
variable {X : Cx}
def rCountD (K : PySem.W.Frag) : V → List V → Hp → VK → Prop := fun x xs H Q => ∃ (a : Addr) (y : V) (d : PyData) (ds : List PyData), x = V.ref a ∧ xs = [y] ∧ Dp K H (V.ref a) (.list ds) ∧ Dp K H y d ∧
  SeqAt.shaped (.list ds) = true ∧ SeqAt.shaped d = true ∧ Q (.int (ds.countP (fun z => PyData.eqv z d) : Nat)) H
theorem mt_countD (hu : X.A.units + 65 < cLine) : MtR X "list.count" (rCountD X.K) := by
  intro pins s σ H x xs v us Q I rx rxs h
  obtain ⟨a, y, d, ds, rfl, rfl, hl, hy, sl, sd, q⟩ := h
  cases rx
  cases rxs with
  | cons ry rt =>
    rename_i uy ut
    cases rt
    obtain ⟨bs, r1⟩ := Dp.reads I d y uy hy ry
    have hxs : PyData.canLayAll0 ds = true := SeqAt.canLay_of_shaped sl
    have hroom : X.A.units + 1 + min (PyData.depthAll ds) d.depth < cLine := room_in_shaped sd hu
    cases hl with
    | lst hs ha =>
      obtain ⟨its, rv, ⟨⟨cls, dd, data, sls⟩, n, ho, hc, hdn, hdt⟩, hlen⟩ := I.list hs
      simp only at hc hdt
      subst hc hdt
      obtain ⟨as, h4⟩ := Dp.readsAll I ds _ its ha rv
      have hmap : its.map (SeqAt.readOf s.heap) = ds := SeqAt.readsAll_map ds its as hxs h4
      refine call_meets PySem.F.slot_list_count ⟨_, ho, rfl⟩ PySem.F.entry_list_count (PySem.F.args_list_count_2 _ _)
        (SeqAt.list_countAt a its.toArray n dd sls uy (fun u => PyData.eqv (SeqAt.readOf s.heap u) d)) ⟨ho, SeqAt.items_eqAt (vs := its.toArray) (show ReadsAll s.heap its.toArray.toList ds as from h4) r1 hxs (SeqAt.canLay_of_shaped sd) hroom, ?_⟩
      have ec : its.toArray.toList.countP (fun u => PyData.eqv (SeqAt.readOf s.heap u) d) = ds.countP (fun z => PyData.eqv z d) := by
        show its.countP _ = _
        rw [← hmap, List.countP_map]
        rfl
      refine ⟨.int (ds.countP (fun z => PyData.eqv z d) : Nat), H, I.tok _, ⟨s.toks, ?_⟩, q⟩
      rw [ec]
end
end L2
namespace Ev
open PySem PySem.Spec PyProof.Rows L2
def opCount : W → List W → M W
  | x, [y] => fun st => match asList x st, asData y st with
    | some xs, some d => if (SeqAt.shaped (.list xs) && SeqAt.shaped d) = true then some (.ok (.d (.int ((xs.countP fun z => PyData.eqv z d : Nat) : Int))), st) else none
    | _, _ => none
  | _, _ => mfail
theorem m_count {X : Cx} {mg : Str → Option Value} {E : XK} (hu : X.A.units + 65 < cLine) : MtR X "list.count" (mOf X.K mg E opCount) := by
  intro pins s σ H x xs v us Q I rx rv ⟨μ₀, H₀, μ, fr, fr', w, ws, st, B, r, rs, h⟩
  unfold opCount at h
  split at h
  · next y =>
    try dsimp only at h
    split at h
    · next zs d e1 e2 =>
      split at h
      · next hs =>
        rw [Bool.and_eq_true] at hs
        obtain ⟨u, rfl, r1⟩ := rs.one
        obtain ⟨a, vs, rfl, hH, hr⟩ := asList_sq e1 B.sr r
        exact mt_countD hu pins s σ H _ _ v us Q I rx rv ⟨a, u, d, zs, rfl, rfl, .lst (SqL.of hH) hr.dp, asData_dp e2 B.sr r1, hs.1, hs.2, PostG.int h B⟩
      · exact h.elim
    · exact h.elim
  · exact h.elim
end Ev

namespace Ev
open PySem PySem.Spec PyProof.Rows L2

/-! ### values put away -/
def frz : W → W
  | .new xs => .d (.list xs)
  | w => w
theorem frz_rep {K : PySem.W.Frag} {μ : Mu} {O fr : List Addr} {H : Hp} {w : W} {v : V} (hO : ∀ a ∈ O, a ∈ μ.own) (hf : ∀ a ∈ fr, a ∉ μ.locs ∧ a ∉ O) (r : RepW K μ fr H w v) : RepW K ⟨μ.locs, O⟩ [] H (frz w) v := by
  cases w with
  | d x => exact ⟨rfl, r.2.ext (.sub (fp_sub hO))⟩
  | ref i => exact ⟨rfl, r.2⟩
  | scr ns => exact ⟨rfl, r.2⟩
  | new xs =>
    obtain ⟨p, us, rfl, rfl, h1, h2⟩ := r
    have hp := hf p List.mem_cons_self
    exact ⟨rfl, .list h1 (fun z => (List.mem_append.mp z).elim hp.1 hp.2) (h2.ext (.sub (fp_sub hO)))⟩
/-- values one by one, nothing in flight -/
inductive Reps (K : PySem.W.Frag) (μ : Mu) (H : Hp) : List W → List V → Prop
  | nil : Reps K μ H [] []
  | cons {w : W} {v : V} {ws : List W} {vs : List V} : RepW K μ [] H w v → Reps K μ H ws vs → Reps K μ H (w :: ws) (v :: vs)
theorem Reps.length {K : PySem.W.Frag} {μ : Mu} {H : Hp} : ∀ {ws : List W} {vs : List V}, Reps K μ H ws vs → ws.length = vs.length
  | _, _, .nil => rfl
  | _, _, .cons _ r => by rw [List.length_cons, List.length_cons, r.length]
theorem Reps.get {K : PySem.W.Frag} {μ : Mu} {H : Hp} : ∀ {ws : List W} {vs : List V} {i : Nat} {w : W}, Reps K μ H ws vs → ws[i]? = some w → ∃ v, vs[i]? = some v ∧ RepW K μ [] H w v
  | _, _, _, _, .nil, e => by simp at e
  | _, _, 0, _, .cons a _, e => by simp at e; subst e; exact ⟨_, rfl, a⟩
  | _, _, i + 1, d, .cons _ r, e => by
    obtain ⟨v, h1, h2⟩ := Reps.get (i := i) (w := d) r (by simpa using e)
    exact ⟨v, by simpa using h1, h2⟩
theorem frz_reps {K : PySem.W.Frag} {μ : Mu} {O fr : List Addr} {H : Hp} {ws : List W} {vs : List V} (hO : ∀ a ∈ O, a ∈ μ.own) (hf : ∀ a ∈ fr, a ∉ μ.locs ∧ a ∉ O) (r : RepWs K μ fr H ws vs) : Reps K ⟨μ.locs, O⟩ H (ws.map frz) vs := by
  induction r with
  | nil => exact .nil
  | cons a r ih => exact .cons (frz_rep hO (fun b hb => hf b (List.mem_append_right _ hb)) a) (ih fun b hb => hf b (List.mem_append_left _ hb))

/-! ### calls of the program's own defs -/
def spF (K : PySem.W.Frag) (mg : Str → Option Value) (n : Nat) (F : List W → M W) : Sp := fun vs H Q E => ∃ μ ws st, SR μ st H ∧ Reps K μ H ws vs ∧ ws.length = n ∧ PostG mg E (RepW K) Q (F ws st) μ H
structure FnIn (X : Cx) (CX : CXT) (k : Nat) (x : Str) (n : Nat) (F : List W → M W) : Prop where
  ex : ∃ (f : Addr) (fd : FuncData) (ps : List Str), X.mg x = some (.ref f) ∧ PySem.W.keepIn X.K (.ref f) = true ∧ Binds X.K fd ps [] ∧ ps.length = n ∧ FnOk X.prog X.w X.K X.mg X.base CX k f fd ps (spF X.K X.mg n F)
def sCallF (n : Nat) (F : List W → M W) (t : Env → M (List W)) : Env → M W := fun ρ => mbind (t ρ) fun ws => if ws.length = n then F (ws.map frz) else mfail
section
variable {X : Cx} {E : XK} {CX : CXT} {k n : Nat} {x : Str} {F : List W → M W} {e : Expr} {es : List Expr} {t : Env → M (List W)} {p pos : Pos}
theorem r_call (F0 : FnIn X CX k x n F) (hr : Room k X.A) (hg : Gl X x) (hx : Passes CX X E) (ha : PA X (e :: es) (tA X.K X.mg E t)) (hdb : (x == ("__debug__" : Str)) = false) (hs : (e :: es).all (fun e => !isStar e) = true) :
    PE X (.Call (.Name x p) (e :: es) [] pos) (tE X.K X.mg E (sCallF n F t)) := by
  obtain ⟨f, fd, ps, h1, h2, h3, h4, h5⟩ := F0.ex
  rw [List.all_cons, Bool.and_eq_true] at hs
  refine PE_imp (pe_call h5 hr hg h1 h2 h3 .nil hx ha hdb (star_cons _ _ (by simpa using hs.1)) (star_any hs.2)) fun σ H Q ⟨μ, ρ, st, hs, hr, h⟩ => ?_
  refine ⟨μ, ρ, st, hs, hr, (PostG.bind (R := RepWs X.K) h (.start hr)).mono fun xs H1 ⟨μ1, fr1, ws, st1, a1, r1, h1⟩ => ?_⟩
  by_cases hl : ws.length = n
  · rw [if_pos hl] at h1
    have a0 := a1.trim (List.nil_sublist _)
    refine ⟨⟨μ1.locs, [] ++ μ.own⟩, ws.map frz, st1, a0.sr, ?_, by rw [List.length_map]; exact hl, h1.from a0⟩
    rw [List.append_nil]
    exact frz_reps (a1.sub (List.nil_sublist _)) a1.apart r1
  · rw [if_neg hl] at h1
    exact h1.elim
end

/-- a def whose last parameter (y) has the default z -/
structure FnD (X : Cx) (CX : CXT) (k : Nat) (x : Str) (n : Nat) (F : List W → M W) (z : Int) (y : Str) : Prop where
  ex : ∃ (f : Addr) (fd : FuncData) (ps : List Str) (ds : List Value), X.mg x = some (.ref f) ∧ PySem.W.keepIn X.K (.ref f) = true ∧ Vals [V.int z] ds ∧ Binds X.K fd ps ds ∧ KBn X.K fd ps (n - 1) [y] (fun us ws => us ++ ws) (fun vs zs => vs ++ zs) ∧ ps.length = n ∧ FnOk X.prog X.w X.K X.mg X.base CX k f fd ps (spF X.K X.mg n F)
def sCallD (n : Nat) (F : List W → M W) (z : Int) (t : Env → M (List W)) : Env → M W := fun ρ => mbind (t ρ) fun ws => if ws.length + 1 = n then F (ws.map frz ++ [.d (.int z)]) else mfail
def sCallK (n : Nat) (F : List W → M W) (t : Env → M (List W)) (g : Env → M W) : Env → M W := fun ρ => mbind (t ρ) fun ws => mbind (g ρ) fun w => if ws.length + 1 = n then F (ws.map frz ++ [frz w]) else mfail
theorem Reps.snoc {K : PySem.W.Frag} {μ : Mu} {H : Hp} {w : W} {v : V} (r1 : RepW K μ [] H w v) : ∀ {ws : List W} {vs : List V}, Reps K μ H ws vs → Reps K μ H (ws ++ [w]) (vs ++ [v])
  | _, _, .nil => .cons r1 .nil
  | _, _, .cons a r => .cons a (r.snoc r1)
section
variable {X : Cx} {E : XK} {CX : CXT} {k n : Nat} {x y : Str} {z : Int} {F : List W → M W} {e ev : Expr} {es : List Expr} {t : Env → M (List W)} {g : Env → M W} {p pos kpos : Pos}
theorem r_callD (F0 : FnD X CX k x n F z y) (hr : Room k X.A) (hg : Gl X x) (hx : Passes CX X E) (ha : PA X (e :: es) (tA X.K X.mg E t)) (hdb : (x == ("__debug__" : Str)) = false) (hs : (e :: es).all (fun e => !isStar e) = true) :
    PE X (.Call (.Name x p) (e :: es) [] pos) (tE X.K X.mg E (sCallD n F z t)) := by
  obtain ⟨f, fd, ps, ds, h1, h2, h3, hb, _, h4, h5⟩ := F0.ex
  rw [List.all_cons, Bool.and_eq_true] at hs
  refine PE_imp (pe_call h5 hr hg h1 h2 hb h3 hx ha hdb (star_cons _ _ (by simpa using hs.1)) (star_any hs.2)) fun σ H Q ⟨μ, ρ, st, hs, hr, h⟩ => ?_
  refine ⟨μ, ρ, st, hs, hr, (PostG.bind (R := RepWs X.K) h (.start hr)).mono fun xs H1 ⟨μ1, fr1, ws, st1, a1, r1, h1⟩ => ?_⟩
  by_cases hl : ws.length + 1 = n
  · rw [if_pos hl] at h1
    have a0 := a1.trim (List.nil_sublist _)
    refine ⟨⟨μ1.locs, [] ++ μ.own⟩, ws.map frz ++ [.d (.int z)], st1, a0.sr, ?_, by rw [List.length_append, List.length_map]; exact hl, h1.from a0⟩
    exact Reps.snoc (w := W.d (.int z)) (v := V.int z) (show RepW X.K _ [] H1 (W.d (.int z)) (V.int z) from ⟨rfl, .int z⟩) (frz_reps (a1.sub (List.nil_sublist _)) a1.apart r1)
  · rw [if_neg hl] at h1
    exact h1.elim
theorem r_callK (F0 : FnD X CX k x n F z y) (hr : Room k X.A) (hg : Gl X x) (hx : Passes CX X E) (ha : PA X (e :: es) (tA X.K X.mg E t)) (hv : PE X ev (tE X.K X.mg E g)) (hdb : (x == ("__debug__" : Str)) = false) (hs : (e :: es).all (fun e => !isStar e) = true) :
    PE X (.Call (.Name x p) (e :: es) [⟨some y, ev, kpos⟩] pos) (tE X.K X.mg E (sCallK n F t g)) := by
  obtain ⟨f, fd, ps, ds, h1, h2, h3, _, hb, h4, h5⟩ := F0.ex
  have hs' := hs
  rw [List.all_cons, Bool.and_eq_true] at hs
  refine PE_imp (pe_callN h5 hr hg h1 h2 hb hx ha (pk_cons hv pk_nil) rfl rfl hdb (star_cons _ _ (by simpa using hs.1)) (by rw [star_any hs']; rfl)) fun σ H Q ⟨μ, ρ, st, hs, hr, h⟩ => ?_
  refine ⟨μ, ρ, st, hs, hr, (PostG.bind (R := RepWs X.K) h (.start hr)).mono fun xs H1 ⟨μ1, fr1, ws, st1, a1, r1, h1⟩ => ?_⟩
  refine ⟨μ1, ρ, st1, hs.ext a1.ext, a1.sr, (PostG.bind (R := RepW X.K) h1 a1).mono fun v H2 ⟨μ2, fr2, w, st2, a2, r2, h2⟩ => ?_⟩
  by_cases hl : ws.length + 1 = n
  · rw [if_pos hl] at h2
    have A := a1.trans a2
    have a0 := A.trim (List.nil_sublist _)
    have hlen : xs.length = n - 1 := by
      have := r1.length
      omega
    refine ⟨hlen, rfl, ⟨μ2.locs, [] ++ μ.own⟩, ws.map frz ++ [frz w], st2, a0.sr, ?_, by rw [List.length_append, List.length_map]; exact hl, h2.from a0⟩
    exact (frz_reps (A.sub (List.nil_sublist _)) (fun a ha => A.apart a (List.mem_append_right _ ha)) (r1.ext a2.ext a1.mem)).snoc (frz_rep (A.sub (List.nil_sublist _)) (fun a ha => A.apart a (List.mem_append_left _ ha)) r2)
  · rw [if_neg hl] at h2
    exact h2.elim
end

/-! ### targets -/
abbrev Tg := W → Env → Option Env
def gAll : List Tg → List PyData → Env → Option Env
  | [], [], ρ => some ρ
  | g :: gs, x :: xs, ρ => match g (.d x) ρ with
    | some ρ' => gAll gs xs ρ'
    | none => none
  | _, _, _ => none
def gVar (i : Nat) : Tg := fun w ρ => some (ρ.set i (some w))
def gTuple (gs : List Tg) : Tg := fun w ρ => match w with
  | .d (.tuple xs) => gAll gs xs ρ
  | .d (.list xs) => gAll gs xs ρ
  | _ => none
def OnlyAt (js : List Nat) (σ σ' : L2.St) : Prop := σ'.length = σ.length ∧ ∀ i, i ∉ js → σ'[i]? = σ[i]?
theorem OnlyAt.refl {js : List Nat} {σ : L2.St} : OnlyAt js σ σ := ⟨rfl, fun _ _ => rfl⟩
theorem OnlyAt.trans {js js' : List Nat} {σ σ' σ'' : L2.St} (a : OnlyAt js σ σ') (b : OnlyAt js' σ' σ'') : OnlyAt (js ++ js') σ σ'' :=
  ⟨b.1.trans a.1, fun i hi => (b.2 i fun z => hi (List.mem_append_right _ z)).trans (a.2 i fun z => hi (List.mem_append_left _ z))⟩
section
variable (K : PySem.W.Frag) (js : List Nat)
def tG (g : Tg) : TG := fun v σ H Q => ∃ μ w ρ ρ', Slots K μ H ρ σ ∧ RepW K μ [] H w v ∧ g w ρ = some ρ' ∧ ∀ σ', Slots K μ H ρ' σ' → OnlyAt js σ σ' → Q σ' H
def tGs (gs : List Tg) : TGs := fun vs σ H Q => ∃ μ xs ρ ρ', Slots K μ H ρ σ ∧ RepDs H μ.fp xs vs ∧ gAll gs xs ρ = some ρ' ∧ ∀ σ', Slots K μ H ρ' σ' → OnlyAt js σ σ' → Q σ' H
end
section
variable {X : Cx} {pos : Pos} {e : Expr} {es : List Expr} {g : Tg} {gs : List Tg} {js js' : List Nat}
theorem PG_imp {t t' : TG} (h : PG X e t) (i : ∀ v σ H Q, t' v σ H Q → t v σ H Q) : PG X e t' := ⟨fun pins s σ H v u Q I r q => h.run pins s σ H v u Q I r (i v σ H Q q)⟩
theorem PGs_imp {t t' : TGs} (h : PGs X es t) (i : ∀ v σ H Q, t' v σ H Q → t v σ H Q) : PGs X es t' := ⟨fun pins s σ H v u Q I r q => h.run pins s σ H v u Q I r (i v σ H Q q)⟩
theorem g_var {i : Nat} {x : Str} (hN : X.N.Nodup) (hi : X.N[i]? = some x) (hx : Loc X.env.scope x) (hf : X.fn x = true ∨ X.env.scope.names.lookup x = some .local) : PG X (.Name x pos) (tG X.K [i] (gVar i)) :=
  PG_imp (pg_name hN hi hx hf) fun v σ H Q ⟨μ, w, ρ, ρ', hs, r, h, q⟩ => by
    cases h
    refine q _ (hs.set r) ⟨List.length_set, fun j hj => ?_⟩
    rw [List.getElem?_set_ne (fun z => hj (by rw [z]; exact List.mem_cons_self))]
theorem gs_nil : PGs X [] (tGs X.K [] []) := PGs_imp pgs_nil fun vs σ H Q ⟨μ, xs, ρ, ρ', hs, r, h, q⟩ => by
  cases r with
  | nil =>
    cases h
    exact ⟨rfl, q _ hs .refl⟩
  | cons a r => cases h
theorem assignEach_cons {e : Expr} (es : List Expr) (env : PySem.Env) (h : isStar e = false) : assignEach (e :: es) env = (false, assign e env) :: assignEach es env := by
  cases e <;> first | rfl | (exact nomatch h)
theorem gs_cons (h1 : PG X e (tG X.K js g)) (h2 : PGs X es (tGs X.K js' gs)) (hs : isStar e = false) : PGs X (e :: es) (tGs X.K (js ++ js') (g :: gs)) :=
  PGs_imp (pgs_cons h1 h2 (by rw [assignEach_cons _ _ hs]; rfl)) fun vs σ H Q ⟨μ, xs, ρ, ρ', hs, r, h, q⟩ => by
    cases r with
    | nil => cases h
    | @cons d v ds vs a r =>
      unfold gAll at h
      cases e1 : g (.d d) ρ with
      | none => rw [e1] at h; cases h
      | some ρ1 =>
        rw [e1] at h
        exact ⟨v, vs, rfl, μ, .d d, ρ, ρ1, hs, ⟨rfl, a⟩, e1, fun σ1 s1 o1 => ⟨μ, ds, ρ1, ρ', s1, r, h, fun σ' s' o' => q σ' s' (o1.trans o')⟩⟩
theorem gAll_len : ∀ {gs : List Tg} {xs : List PyData} {ρ ρ' : Env}, gAll gs xs ρ = some ρ' → xs.length = gs.length
  | [], [], _, _, _ => rfl
  | g :: gs, x :: xs, ρ, ρ', h => by
    unfold gAll at h
    split at h
    · rw [List.length_cons, List.length_cons, gAll_len h]
    · cases h
  | [], _ :: _, _, _, h => nomatch h
  | _ :: _, [], _, _, h => nomatch h
theorem assignEach_len {env : PySem.Env} : ∀ es : List Expr, (assignEach es env).length = es.length
  | [] => rfl
  | e :: es => by
    cases e <;> (show (assignEach es env).length + 1 = es.length + 1; rw [assignEach_len es])
theorem assignEach_nostar {env : PySem.Env} : ∀ {es : List Expr}, es.all (fun e => !isStar e) = true → (assignEach es env).findIdx? (·.1) = none
  | [], _ => rfl
  | e :: es, h => by
    rw [List.all_cons, Bool.and_eq_true] at h
    rw [assignEach_cons es env (by simpa using h.1), List.findIdx?_cons, assignEach_nostar h.2]
    rfl
theorem PG_or {t t' : TG} (h : PG X e t) (h' : PG X e t') : PG X e (fun v σ H Q => t v σ H Q ∨ t' v σ H Q) := ⟨fun pins s σ H v u Q I r q => q.elim (h.run pins s σ H v u Q I r) (h'.run pins s σ H v u Q I r)⟩
theorem g_tup {k : Nat} (hc : X.calm = true) (h : PGs X es (tGs X.K js gs)) (hn : es.length = gs.length) (hst : es.all (fun e => !isStar e) = true) : PG X (.Tuple es k pos) (tG X.K js (gTuple gs)) :=
  PG_imp (PG_or (pg_tup (n := gs.length) hc h (by rw [assignEach_len]; exact hn) (assignEach_nostar hst)) (pg_unl (n := gs.length) hc h (by rw [assignEach_len]; exact hn) (assignEach_nostar hst))) fun v σ H Q ⟨μ, w, ρ, ρ', hs, r, h, q⟩ => by
    unfold gTuple at h
    split at h
    · next xs =>
      obtain ⟨a, vs, rfl, ha, hr⟩ := r.tup
      exact .inl ⟨a, vs, rfl, SqT.of ha, by rw [← hr.length]; exact gAll_len h, μ, xs, ρ, ρ', hs, hr, h, q⟩
    · next xs =>
      obtain ⟨_, r⟩ := r
      cases r with
      | list ha hf hr => exact .inr ⟨_, _, rfl, SqL.of ha, by rw [← hr.length]; exact gAll_len h, μ, xs, ρ, ρ', hs, hr, h, q⟩
    · cases h
end

/-! ### statements -/
inductive Out where
  | nx (ρ : Env)
  | ret (w : W)
def RepO (K : PySem.W.Frag) (μ : Mu) (fr : List Addr) (H : Hp) : Out → L2.St ⊕ V → Prop
  | .nx ρ, .inl σ => fr = [] ∧ Slots K μ H ρ σ
  | .ret w, .inr v => RepW K μ fr H w v
  | _, _ => False
def QD (D : Ends) : L2.St ⊕ V → Hp → Prop
  | .inl σ, H => D.nx σ H
  | .inr v, H => D.rt v H
def tS (K : PySem.W.Frag) (mg : Str → Option Value) (E : XK) (f : Env → M Out) : TS := fun D σ H => ∃ μ ρ st, Slots K μ H ρ σ ∧ SR μ st H ∧ PostG mg E (RepO K) (QD D) (f ρ st) μ H
def sNext : Env → M Out := fun ρ => mret (.nx ρ)
def sSeq (f g : Env → M Out) : Env → M Out := fun ρ => mbind (f ρ) fun o => match o with
  | .nx ρ' => g ρ'
  | .ret w => mret (.ret w)
def sExpr (f : Env → M W) : Env → M Out := fun ρ => mbind (f ρ) fun _ => mret (.nx ρ)
def sRet (f : Env → M W) : Env → M Out := fun ρ => mbind (f ρ) fun w => mret (.ret w)
def sIfS (p : Env → M Bool) (f g : Env → M Out) : Env → M Out := fun ρ => mbind (p ρ) fun b => match b with
  | true => f ρ
  | false => g ρ
/-- target = value, put away -/
def sAsg (f : Env → M W) (g : Tg) : Env → M Out := fun ρ => mbind (f ρ) fun w => match g (frz w) ρ with
  | some ρ' => mret (.nx ρ')
  | none => mfail
/-- name = value: a new list becomes a cell of the store -/
def toCell : W → M W
  | .new xs => fun st => some (.ok (.ref st.length), st ++ [.lst xs])
  | w => mret w
def sCell (i : Nat) (f : Env → M W) : Env → M Out := fun ρ => mbind (f ρ) fun w => mbind (toCell w) fun w' => mret (.nx (ρ.set i (some w')))
section
variable {X : Cx} {mg : Str → Option Value} {E : XK} {f g : Env → M Out} {h : Env → M W} {p : Env → M Bool} {st : Stmt} {rest : List Stmt} {e : Expr} {pos : Pos}
theorem t_next {D : Ends} {σ : L2.St} {H : Hp} {μ₀ μ : Mu} {H₀ : Hp} {fr : List Addr} {st : Store} {ρ : Env} (h : PostG mg E (RepO X.K) (QD D) (some (.ok (.nx ρ), st)) μ₀ H₀) (B : At μ₀ H₀ fr μ st H) (s : Slots X.K μ H ρ σ) : D.nx σ H :=
  show QD D (Sum.inl σ) H from PostG.fin (R := RepO X.K) (y := (Sum.inl σ : L2.St ⊕ V)) h (B.trim (List.nil_sublist _)) (show _ ∧ _ from ⟨rfl, s.trim (B.sub (List.nil_sublist _))⟩)
theorem p_nil : PSs X [] (tS X.K mg E sNext) := PSs_imp pss_nil fun D σ H ⟨μ, ρ, st, hs, hr, h⟩ => t_next h (.start hr) hs
theorem p_pass : PS X (.Pass pos) (tS X.K mg E sNext) := PS_imp ps_pass fun D σ H ⟨μ, ρ, st, hs, hr, h⟩ => t_next h (.start hr) hs
theorem p_cons (h1 : PS X st (tS X.K mg E f)) (h2 : PSs X rest (tS X.K mg E g)) : PSs X (st :: rest) (tS X.K mg E (sSeq f g)) :=
  PSs_imp (pss_cons h1 h2) fun D σ H ⟨μ, ρ, st, hs, hr, h⟩ => by
    refine ⟨μ, ρ, st, hs, hr, (PostG.bind (R := RepO X.K) h (.start hr)).mono fun y H1 ⟨μ1, fr1, o, st1, a1, r1, h1⟩ => ?_⟩
    cases y with
    | inl σ1 =>
      cases o with
      | nx ρ1 =>
        obtain ⟨rfl, s1⟩ := r1
        exact ⟨μ1, ρ1, st1, s1, a1.sr, h1.from a1⟩
      | ret w => exact r1.elim
    | inr v =>
      cases o with
      | nx ρ1 => exact r1.elim
      | ret w => exact (show QD D (Sum.inr v) H1 from PostG.fin (R := RepO X.K) (y := (Sum.inr v : L2.St ⊕ V)) h1 a1 r1)
theorem p_expr (he : PE X e (tE X.K mg E h)) (hs : swapsWith e none pos.line X.env = pure false) : PS X (.Expr e pos) (tS X.K mg E (sExpr h)) :=
  PS_imp (ps_expr he hs) fun D σ H ⟨μ, ρ, st, hs, hr, h⟩ =>
    ⟨μ, ρ, st, hs, hr, (PostG.bind (R := RepW X.K) h (.start hr)).mono fun y H1 ⟨μ1, fr1, o, st1, a1, r1, h1⟩ => t_next h1 a1 (hs.ext a1.ext)⟩
theorem p_ret (he : PE X e (tE X.K mg E h)) : PS X (.Return (some e) pos) (tS X.K mg E (sRet h)) :=
  PS_imp (ps_ret he) fun D σ H ⟨μ, ρ, st, hs, hr, h⟩ =>
    ⟨μ, ρ, st, hs, hr, (PostG.bind (R := RepW X.K) h (.start hr)).mono fun y H1 ⟨μ1, fr1, o, st1, a1, r1, h1⟩ => show QD D (Sum.inr y) H1 from PostG.fin (R := RepO X.K) (y := (Sum.inr y : L2.St ⊕ V)) h1 a1 r1⟩
theorem p_if {c : Expr} {a b : List Stmt} (hc : PT X c (tT X.K mg E p)) (ha : PSs X a (tS X.K mg E f)) (hb : PSs X b (tS X.K mg E g)) : PS X (.If c a b pos) (tS X.K mg E (sIfS p f g)) :=
  PS_imp (ps_if hc ha hb) fun D σ H ⟨μ, ρ, st, hs, hr, h⟩ =>
    ⟨μ, ρ, st, hs, hr, (PostG.bind (R := RepB) h (.start hr)).mono fun y H1 ⟨μ1, fr1, o, st1, a1, r1, h1⟩ => by
      obtain ⟨rfl, rfl⟩ := r1
      cases o with
      | true => exact ⟨μ1, ρ, st1, hs.ext a1.ext, a1.sr, h1.from a1⟩
      | false => exact ⟨μ1, ρ, st1, hs.ext a1.ext, a1.sr, h1.from a1⟩⟩
/-- where a value has been put away -/
theorem At.frz {μ₀ μ : Mu} {H₀ H : Hp} {fr : List Addr} {st : Store} {w : W} {v : V} (B : At μ₀ H₀ fr μ st H) (r : RepW X.K μ fr H w v) : RepW X.K ⟨μ.locs, [] ++ μ₀.own⟩ [] H (Ev.frz w) v :=
  frz_rep (B.sub (List.nil_sublist _)) B.apart r
theorem asg_of {tg : Tg} {js : List Nat} {D : Ends} {σ : L2.St} {H : Hp} (h0 : tS X.K mg E (sAsg h tg) D σ H) : tAsg (tE X.K mg E h) (tG X.K js tg) D σ H := by
  obtain ⟨μ, ρ, st, hs, hr, h0⟩ := h0
  refine ⟨μ, ρ, st, hs, hr, (PostG.bind (R := RepW X.K) h0 (.start hr)).mono fun y H1 ⟨μ1, fr1, o, st1, a1, r1, h1⟩ => ?_⟩
  cases e1 : tg (frz o) ρ with
  | none => rw [e1] at h1; exact h1.elim
  | some ρ' =>
    rw [e1] at h1
    have a0 := a1.trim (List.nil_sublist _)
    exact ⟨⟨μ1.locs, [] ++ μ.own⟩, frz o, ρ, ρ', (hs.ext a0.ext), a1.frz r1, e1, fun σ' s' _ => t_next h1 a0 s'⟩
theorem p_asg {tg : Expr} {g : Tg} {js : List Nat} (he : PE X e (tE X.K mg E h)) (hg : PG X tg (tG X.K js g)) (hs : swapsWithSole [tg] e pos.line X.env = pure false) (hw : swappedStores [tg] e X.env = pure none) (hst : isStar tg = false) :
    PS X (.Assign [tg] e pos) (tS X.K mg E (sAsg h g)) :=
  PS_imp (ps_asg he hg hs hw (by rw [assignEach_cons _ _ hst]; rfl)) fun _ _ _ z => asg_of z
/-! a new list becomes a cell -/
theorem Ext.cell {μ : Mu} {H : Hp} {a : Addr} {O : List Addr} (ho : μ.own = a :: O) : HX H μ.fp H (Mu.mk (μ.locs ++ [a]) O).fp := .sub fun b hb => by
  unfold Mu.fp at hb ⊢
  rw [ho]
  rcases List.mem_append.mp hb with hb | hb
  · rcases List.mem_append.mp hb with hb | hb
    · exact List.mem_append_left _ hb
    · exact List.mem_append_right _ (by rw [List.mem_singleton.mp hb]; exact List.mem_cons_self)
  · exact List.mem_append_right _ (List.mem_cons_of_mem _ hb)
theorem At.cell {μ₀ μ : Mu} {H₀ H : Hp} {a : Addr} {vs : List V} {xs : List PyData} {st : Store} (B : At μ₀ H₀ [a] μ st H) (hH : H a = some (.lst vs)) (r : RepDs H μ.fp xs vs) : At μ₀ H₀ [] ⟨μ.locs ++ [a], μ₀.own⟩ (st ++ [.lst xs]) H := by
  have ho : μ.own = a :: μ₀.own := B.own
  have hx := Ext.cell (H := H) ho
  have hl := B.sr.len
  refine ⟨⟨B.ext.hx.trans hx, fun i c q => ?_, fun c hc => ⟨hc, (B.ext.own c hc).2⟩⟩, rfl, ⟨?_, ?_, fun i ys q => ?_, fun c hc => B.sr.own c (by rw [ho]; exact List.mem_cons_of_mem _ hc)⟩⟩
  · have q' := B.ext.locs i c q
    rw [List.getElem?_append_left (List.getElem?_eq_some_iff.mp q').1]
    exact q'
  · rw [List.length_append, List.length_append, hl]
    rfl
  · have hn := B.sr.nd
    unfold Mu.fp at hn ⊢
    rw [ho] at hn
    rw [List.append_assoc]
    exact hn
  · rw [List.getElem?_append] at q
    split at q
    · next hi =>
      obtain ⟨c, us, h1, h2, h3⟩ := B.sr.cell i ys q
      exact ⟨c, us, by rw [List.getElem?_append_left (by omega)]; exact h1, h2, h3.ext hx⟩
    · next hi =>
      have e : i = st.length := by
        cases q' : i - st.length with
        | zero => omega
        | succ m =>
          rw [q'] at q
          simp at q
      subst e
      rw [Nat.sub_self] at q
      cases q
      refine ⟨a, vs, ?_, hH, r.ext hx⟩
      rw [← hl, List.getElem?_append_right (Nat.le_refl _), Nat.sub_self]
      rfl
theorem p_cell {i : Nat} {x : Str} {pos' : Pos} (hN : X.N.Nodup) (hi : X.N[i]? = some x) (hx : Loc X.env.scope x) (hf : X.fn x = true ∨ X.env.scope.names.lookup x = some .local) (he : PE X e (tE X.K mg E h)) (hs : swapsWith e (some (.Name x pos')) pos.line X.env = pure false) :
    PS X (.Assign [.Name x pos'] e pos) (tS X.K mg E (sCell i h)) :=
  PS_imp (ps_set hN hi hx he hs hf) fun D σ H h0 => cell_of h0
where
  cell_of {i : Nat} {D : Ends} {σ : L2.St} {H : Hp} (h0 : tS X.K mg E (sCell i h) D σ H) : tAsg (tE X.K mg E h) (gName i) D σ H := by
    obtain ⟨μ, ρ, st, hs, hr, h0⟩ := h0
    refine ⟨μ, ρ, st, hs, hr, (PostG.bind (R := RepW X.K) h0 (.start hr)).mono fun y H1 ⟨μ1, fr1, o, st1, a1, r1, h1⟩ => ?_⟩
    cases o with
    | new xs =>
      obtain ⟨a, vs, rfl, rfl, hH, hr'⟩ := r1
      have B := a1.cell hH hr'
      refine t_next h1 B ((hs.ext B.ext).set ⟨rfl, a, ?_, rfl⟩)
      rw [← a1.sr.len, List.getElem?_append_right (Nat.le_refl _), Nat.sub_self]
      rfl
    | d x =>
      obtain ⟨rfl, r⟩ := r1
      exact t_next h1 a1 ((hs.ext a1.ext).set ⟨rfl, r⟩)
    | ref x =>
      obtain ⟨rfl, r⟩ := r1
      exact t_next h1 a1 ((hs.ext a1.ext).set ⟨rfl, r⟩)
    | scr x =>
      obtain ⟨rfl, r⟩ := r1
      exact t_next h1 a1 ((hs.ext a1.ext).set ⟨rfl, r⟩)
end
end Ev

namespace Ev
open PySem PySem.Spec PyProof.Rows L2

/-! ### xs[i] = e -/
def isSlice : Expr → Bool
  | .Slice .. => true
  | _ => false
def opSet (c k : W) (y : PyData) : M Unit := match c, k with
  | .ref j, .d (.int i) => fun st => match st[j]? with
    | some (.lst xs) => (match ixN xs.length i with
      | some n => some (.ok (), st.set j (.lst (xs.set n y)))
      | none => none)
    | none => none
  | _, _ => mfail
def sSetIx (f o i : Env → M W) : Env → M Out := fun ρ => mbind (f ρ) fun v => match frz v with
  | .d y => mbind (o ρ) fun c => mbind (i ρ) fun k => mbind (opSet c k y) fun _ => mret (.nx ρ)
  | _ => mfail
section
variable {X : Cx} {mg : Str → Option Value} {E : XK} {f h k : Env → M W} {e o i : Expr} {pos : Pos}
theorem swapsSole_other {tg e : Expr} {l : Nat} {env : PySem.Env} (h : ∀ x p, tg ≠ .Name x p) : swapsWithSole [tg] e l env = pure false := by
  show swapsWith e (some tg) l env = pure false
  unfold swapsWith
  cases e <;> first
    | rfl
    | (cases tg <;> first | rfl | exact absurd rfl (h _ _))
theorem p_setix {p1 : Pos} (he : PE X e (tE X.K mg E f)) (ho : PE X o (tE X.K mg E h)) (hi : PE X i (tE X.K mg E k)) (hsl : isSlice i = false) : PS X (.Assign [.Subscript o i p1] e pos) (tS X.K mg E (sSetIx f h k)) := by
  refine PS_imp (ps_asg he (pg_sub ho hi set_list (by
    intro v
    cases i <;> first | rfl | exact nomatch hsl)) (swapsSole_other (fun _ _ z => by cases z)) rfl rfl) fun D σ H ⟨μ, ρ, st, hs, hr, h0⟩ => ?_
  refine ⟨μ, ρ, st, hs, hr, (PostG.bind (R := RepW X.K) h0 (.start hr)).mono fun y H1 ⟨μ1, fr1, w, st1, a1, r1, h1⟩ => ?_⟩
  have r1' := a1.frz r1
  have a0 := a1.trim (List.nil_sublist _)
  cases e0 : frz w with
  | d yd =>
    rw [e0] at h1 r1'
    obtain ⟨_, ry⟩ := r1'
    refine ⟨⟨μ1.locs, [] ++ μ.own⟩, ρ, st1, hs.ext a0.ext, a0.sr, (PostG.bind (R := RepW X.K) h1 a0).mono fun c H2 ⟨μ2, fr2, wc, st2, a2, r2, h2⟩ => ?_⟩
    have a02 := a0.trans a2
    refine ⟨μ2, ρ, st2, hs.ext a02.ext, a2.sr, (PostG.bind (R := RepW X.K) h2 a02).mono fun n H3 ⟨μ3, fr3, wn, st3, a3, r3, h3⟩ => ?_⟩
    have a03 := a02.trans a3
    cases wc with
    | ref j =>
      cases wn with
      | d dn =>
        cases dn with
        | int ii =>
          cases r3.int
          obtain ⟨rfl, _⟩ := id r2
          obtain ⟨rfl, _⟩ := id r3
          unfold opSet mbind at h3
          dsimp only at h3
          cases q : st3[j]? with
          | none => rw [q] at h3; exact h3.elim
          | some cc =>
            obtain ⟨xs⟩ := cc
            rw [q] at h3
            dsimp only at h3
            cases q2 : ixN xs.length ii with
            | none => rw [q2] at h3; exact h3.elim
            | some nn =>
              rw [q2] at h3
              dsimp only at h3
              obtain ⟨a, vs, rfl, ha, hH, hr'⟩ := cell_at a3.sr (r2.ext a3.ext (fun _ z => absurd z List.not_mem_nil)) q
              have hry : RepD H3 μ3.fp yd y := (ry.ext a2.ext.hx).ext a3.ext.hx
              rw [hr'.length] at q2
              have B := a03.wrote ha hH (RepDs.set hry nn hr')
              exact ⟨a, vs, _, nn, rfl, rfl, hH, q2, t_next h3 B (hs.ext B.ext)⟩
        | none => exact h3.elim
        | bool _ => exact h3.elim
        | str _ => exact h3.elim
        | list _ => exact h3.elim
        | tuple _ => exact h3.elim
        | dict _ => exact h3.elim
      | ref _ => exact h3.elim
      | scr _ => exact h3.elim
      | new _ => exact h3.elim
    | d _ => exact h3.elim
    | scr _ => exact h3.elim
    | new _ => exact h3.elim
  | ref j => rw [e0] at h1; exact h1.elim
  | scr j => rw [e0] at h1; exact h1.elim
  | new j => rw [e0] at h1; exact h1.elim
end

/-! ### a, b = x, y -/
def storeW (c : Bool) (w : W) : M W := match c with
  | true => toCell w
  | false => mret (frz w)
def storeAll : List (Bool × Nat) → List W → Env → M Env
  | [], [], ρ => mret ρ
  | (c, i) :: cs, w :: ws, ρ => mbind (storeW c w) fun w' => storeAll cs ws (ρ.set i (some w'))
  | _, _, _ => mfail
def setAll : L2.St → List (Bool × Nat) → List V → L2.St
  | σ, (_, i) :: cs, v :: vs => setAll (σ.set i (some v)) cs vs
  | σ, _, _ => σ
def sPar (cs : List (Bool × Nat)) (t : Env → M (List W)) : Env → M Out := fun ρ => mbind (t ρ) fun ws => mbind (storeAll cs ws ρ) fun ρ' => mret (.nx ρ')
section
variable {K : PySem.W.Frag} {μ₀ μ : Mu} {H₀ H : Hp} {l fr : List Addr} {st st' : Store} {c : Bool} {w w' : W} {v : V}
theorem RepW.sub {μ' : Mu} (hl : ∀ (i : Nat) (a : Addr), μ.locs[i]? = some a → μ'.locs[i]? = some a) (hs : ∀ a ∈ μ'.fp, a ∈ μ.fp) : ∀ {w : W} {v : V}, RepW K μ fr H w v → RepW K μ' fr H w v
  | .d _, _, r => ⟨r.1, r.2.ext (.sub hs)⟩
  | .ref _, _, r => let ⟨h, a, h1, h2⟩ := r; ⟨h, a, hl _ _ h1, h2⟩
  | .scr _, _, r => r
  | .new _, _, r => let ⟨a, vs, h1, h2, h3, h4⟩ := r; ⟨a, vs, h1, h2, h3, h4.ext (.sub hs)⟩
theorem RepWs.sub {μ' : Mu} {ws : List W} {vs : List V} (hl : ∀ (i : Nat) (a : Addr), μ.locs[i]? = some a → μ'.locs[i]? = some a) (hs : ∀ a ∈ μ'.fp, a ∈ μ.fp) (r : RepWs K μ fr H ws vs) : RepWs K μ' fr H ws vs := by
  induction r with
  | nil => exact .nil
  | cons a r ih => exact .cons (a.sub hl hs) ih
theorem At.cellMid {a : Addr} {vs : List V} {xs : List PyData} (B : At μ₀ H₀ (l ++ [a]) μ st H) (hH : H a = some (.lst vs)) (r : RepDs H μ.fp xs vs) :
    At μ₀ H₀ l ⟨μ.locs ++ [a], l ++ μ₀.own⟩ (st ++ [.lst xs]) H ∧ ∀ b ∈ (Mu.mk (μ.locs ++ [a]) (l ++ μ₀.own)).fp, b ∈ μ.fp := by
  have ho : μ.own = l ++ (a :: μ₀.own) := by rw [B.own, List.append_assoc]; rfl
  have hsub : ∀ b ∈ (Mu.mk (μ.locs ++ [a]) (l ++ μ₀.own)).fp, b ∈ μ.fp := fun b hb => by
    unfold Mu.fp at hb ⊢
    rw [ho]
    rcases List.mem_append.mp hb with hb | hb
    · rcases List.mem_append.mp hb with hb | hb
      · exact List.mem_append_left _ hb
      · exact List.mem_append_right _ (List.mem_append_right _ (by rw [List.mem_singleton.mp hb]; exact List.mem_cons_self))
    · rcases List.mem_append.mp hb with hb | hb
      · exact List.mem_append_right _ (List.mem_append_left _ hb)
      · exact List.mem_append_right _ (List.mem_append_right _ (List.mem_cons_of_mem _ hb))
  have hx : HX H μ.fp H (Mu.mk (μ.locs ++ [a]) (l ++ μ₀.own)).fp := .sub hsub
  have hl := B.sr.len
  refine ⟨⟨⟨B.ext.hx.trans hx, fun i c q => ?_, fun c hc => ⟨List.mem_append_right _ hc, (B.ext.own c hc).2⟩⟩, rfl, ⟨?_, ?_, fun i ys q => ?_, fun c hc => B.sr.own c ?_⟩⟩, hsub⟩
  · have q' := B.ext.locs i c q
    rw [List.getElem?_append_left (List.getElem?_eq_some_iff.mp q').1]
    exact q'
  · rw [List.length_append, List.length_append, hl]
    rfl
  · have hn := B.sr.nd
    unfold Mu.fp at hn ⊢
    rw [ho] at hn
    refine (List.Perm.nodup_iff ?_).mp hn
    rw [List.append_assoc]
    exact List.Perm.append_left _ List.perm_middle
  · rw [List.getElem?_append] at q
    split at q
    · next hi =>
      obtain ⟨c, us, h1, h2, h3⟩ := B.sr.cell i ys q
      exact ⟨c, us, by rw [List.getElem?_append_left (by omega)]; exact h1, h2, h3.ext hx⟩
    · next hi =>
      have e : i = st.length := by
        cases q' : i - st.length with
        | zero => omega
        | succ m =>
          rw [q'] at q
          simp at q
      subst e
      rw [Nat.sub_self] at q
      cases q
      refine ⟨a, vs, ?_, hH, r.ext hx⟩
      rw [← hl, List.getElem?_append_right (Nat.le_refl _), Nat.sub_self]
      rfl
  · rw [ho]
    rcases List.mem_append.mp hc with hc | hc
    · exact List.mem_append_left _ hc
    · exact List.mem_append_right _ (List.mem_cons_of_mem _ hc)
/-- the first value of some is stored -/
theorem store_of (B : At μ₀ H₀ (l ++ fr) μ st H) (r : RepW K μ fr H w v) (h : storeW c w st = some (.ok w', st')) :
    ∃ μ', At μ₀ H₀ l μ' st' H ∧ (∀ (i : Nat) (a : Addr), μ.locs[i]? = some a → μ'.locs[i]? = some a) ∧ (∀ a ∈ μ'.fp, a ∈ μ.fp) ∧ RepW K μ' [] H w' v := by
  have put : storeW c w st = some (.ok (frz w), st) → ∃ μ', At μ₀ H₀ l μ' st' H ∧ (∀ (i : Nat) (a : Addr), μ.locs[i]? = some a → μ'.locs[i]? = some a) ∧ (∀ a ∈ μ'.fp, a ∈ μ.fp) ∧ RepW K μ' [] H w' v := fun e => by
    rw [h] at e
    cases e
    have hsub : l.Sublist (l ++ fr) := List.sublist_append_left _ _
    refine ⟨_, B.trim hsub, fun _ _ z => z, fp_sub (B.sub hsub), frz_rep (B.sub hsub) (fun a ha => ?_) r⟩
    have hn := B.sr.nd
    unfold Mu.fp at hn
    rw [B.own, List.nodup_append] at hn
    obtain ⟨h1, h2, h3⟩ := hn
    rw [List.append_assoc, List.nodup_append] at h2
    obtain ⟨h4, h5, h6⟩ := h2
    rw [List.nodup_append] at h5
    refine ⟨fun z => h3 a z a (List.mem_append_left _ (List.mem_append_right _ ha)) rfl, fun z => ?_⟩
    rcases List.mem_append.mp z with z | z
    · exact h6 a z a (List.mem_append_left _ ha) rfl
    · exact h5.2.2 a ha a z rfl
  cases c with
  | false => exact put rfl
  | true =>
    cases w with
    | new xs =>
      obtain ⟨a, vs, rfl, rfl, hH, hr⟩ := r
      have e : storeW true (.new xs) st = some (.ok (.ref st.length), st ++ [.lst xs]) := rfl
      rw [h] at e
      cases e
      obtain ⟨B', hs⟩ := B.cellMid hH hr
      refine ⟨_, B', fun i b q => ?_, hs, rfl, a, ?_, rfl⟩
      · rw [List.getElem?_append_left (List.getElem?_eq_some_iff.mp q).1]
        exact q
      · rw [← B.sr.len, List.getElem?_append_right (Nat.le_refl _), Nat.sub_self]
        rfl
    | d x => exact put rfl
    | ref x => exact put rfl
    | scr x => exact put rfl
end
section
variable {X : Cx} {mg : Str → Option Value} {E : XK}
theorem storeAll_of {D : Ends} {H : Hp} {μ₀ : Mu} {H₀ : Hp} : ∀ {cs : List (Bool × Nat)} {ws : List W} {vs : List V} {ρ : Env} {σ : L2.St} {st : Store} {μ : Mu} {fr : List Addr}, At μ₀ H₀ fr μ st H → RepWs X.K μ fr H ws vs → Slots X.K μ H ρ σ →
    PostG mg E (RepO X.K) (QD D) (mbind (storeAll cs ws ρ) (fun ρ' => mret (.nx ρ')) st) μ₀ H₀ → cs.length = vs.length ∧ D.nx (setAll σ cs vs) H := by
  intro cs
  induction cs with
  | nil =>
    intro ws vs ρ σ st μ fr B r s h
    cases r with
    | nil => exact ⟨rfl, t_next h B s⟩
    | cons a r => exact h.elim
  | cons c cs ih =>
    intro ws vs ρ σ st μ fr B r s h
    obtain ⟨c, i⟩ := c
    cases r with
    | nil => exact h.elim
    | @cons _ fr frs w v ws vs a r =>
      cases e : storeW c w st with
      | none =>
        exfalso
        unfold storeAll mbind at h
        rw [e] at h
        exact h
      | some p =>
        obtain ⟨res, st'⟩ := p
        cases res with
        | exc x =>
          exfalso
          unfold storeW at e
          cases c with
          | true => cases w <;> cases e
          | false => cases e
        | ok w' =>
          obtain ⟨μ', B', hl, hs, r'⟩ := store_of B a e
          have h' : PostG mg E (RepO X.K) (QD D) (mbind (storeAll cs ws (ρ.set i (some w'))) (fun ρ' => mret (.nx ρ')) st') μ₀ H₀ := by
            unfold storeAll mbind at h
            rw [e] at h
            exact h
          have r2 : RepWs X.K μ' frs H ws vs := RepWs.sub hl hs r
          have s' : Slots X.K μ' H (ρ.set i (some w')) (σ.set i (some v)) := Slots.set ⟨s.1, fun j u q => let ⟨z, h1, h2⟩ := s.2 j u q; ⟨z, h1, h2.sub hl hs⟩⟩ r'
          obtain ⟨h1, h2⟩ := ih B' r2 s' h'
          exact ⟨by rw [List.length_cons, List.length_cons, h1], h2⟩
theorem par_of {cs : List (Bool × Nat)} {t : Env → M (List W)} {D : Ends} {σ : L2.St} {H : Hp} (h : tS X.K mg E (sPar cs t) D σ H) : tA X.K mg E t σ H fun vs H1 => cs.length = vs.length ∧ D.nx (setAll σ cs vs) H1 := by
  obtain ⟨μ, ρ, st, hs, hr, h⟩ := h
  exact ⟨μ, ρ, st, hs, hr, (PostG.bind (R := RepWs X.K) h (.start hr)).mono fun xs H1 ⟨μ1, fr1, ws, st1, a1, r1, h1⟩ => storeAll_of a1 r1 (hs.ext a1.ext) h1⟩
theorem p_par {i j : Nat} {c1 c2 : Bool} {x y : Str} {a b : Expr} {t : Env → M (List W)} {px py pt pos : Pos} {kt k2 pt2} (hc : X.calm = true) (hN : X.N.Nodup) (hi : X.N[i]? = some x) (hj : X.N[j]? = some y) (hij : i ≠ j)
    (hx : X.env.scope.names.lookup x = some .local) (hy : X.env.scope.names.lookup y = some .local) (ha : PA X [a, b] (tA X.K mg E t))
    (hw : swappedStores [.Tuple [.Name x px, .Name y py] kt pt] (.Tuple [a, b] k2 pt2) X.env = pure (some [x, y])) :
    PS X (.Assign [.Tuple [.Name x px, .Name y py] kt pt] (.Tuple [a, b] k2 pt2) pos) (tS X.K mg E (sPar [(c1, i), (c2, j)] t)) :=
  PS_imp (ps_par hc hN hi hj hij hx hy ha hw rfl) fun D σ H h => by
    have h' := par_of h
    obtain ⟨μ, ρ, st, hs, hr, h'⟩ := h'
    refine ⟨μ, ρ, st, hs, hr, h'.mono fun vs H1 ⟨hl, hd⟩ => ?_⟩
    match vs, hl, hd with
    | [v, w], _, hd => exact ⟨v, w, rfl, hd⟩
theorem p_par3 {i j l : Nat} {c1 c2 c3 : Bool} {x y z : Str} {a b c : Expr} {t : Env → M (List W)} {px py pz pt pos : Pos} {kt k2 pt2} (hc : X.calm = true) (hN : X.N.Nodup) (hi : X.N[i]? = some x) (hj : X.N[j]? = some y) (hl : X.N[l]? = some z) (hij : i ≠ j) (hil : i ≠ l) (hjl : j ≠ l)
    (hx : X.env.scope.names.lookup x = some .local) (hy : X.env.scope.names.lookup y = some .local) (hz : X.env.scope.names.lookup z = some .local) (ha : PA X [a, b, c] (tA X.K mg E t))
    (hw : swappedStores [.Tuple [.Name x px, .Name y py, .Name z pz] kt pt] (.Tuple [a, b, c] k2 pt2) X.env = pure (some [x, y, z])) :
    PS X (.Assign [.Tuple [.Name x px, .Name y py, .Name z pz] kt pt] (.Tuple [a, b, c] k2 pt2) pos) (tS X.K mg E (sPar [(c1, i), (c2, j), (c3, l)] t)) :=
  PS_imp (ps_par3 hc hN hi hj hl hij hil hjl hx hy hz ha hw rfl) fun D σ H h => by
    have h' := par_of h
    obtain ⟨μ, ρ, st, hs, hr, h'⟩ := h'
    refine ⟨μ, ρ, st, hs, hr, h'.mono fun vs H1 ⟨hl, hd⟩ => ?_⟩
    match vs, hl, hd with
    | [u, v, w], _, hd => exact ⟨u, v, w, rfl, hd⟩
end

/-! ### what is walked -/
mutual
def sameD : PyData → PyData → Bool
  | .none, .none => true
  | .bool a, .bool b => a == b
  | .int a, .int b => a == b
  | .str a, .str b => a == b
  | .list a, .list b => sameL a b
  | .tuple a, .tuple b => sameL a b
  | _, _ => false
def sameL : List PyData → List PyData → Bool
  | [], [] => true
  | x :: xs, y :: ys => sameD x y && sameL xs ys
  | _, _ => false
end
mutual
theorem sameD_eq : ∀ {a b : PyData}, sameD a b = true → a = b
  | .none, .none, _ => rfl
  | .bool a, .bool b, h => by unfold sameD at h; rw [beq_iff_eq.mp h]
  | .int a, .int b, h => by unfold sameD at h; rw [beq_iff_eq.mp h]
  | .str a, .str b, h => by unfold sameD at h; rw [beq_iff_eq.mp h]
  | .list a, .list b, h => by unfold sameD at h; rw [sameL_eq h]
  | .tuple a, .tuple b, h => by unfold sameD at h; rw [sameL_eq h]
theorem sameL_eq : ∀ {a b : List PyData}, sameL a b = true → a = b
  | [], [], _ => rfl
  | x :: xs, y :: ys, h => by
    unfold sameL at h
    rw [Bool.and_eq_true] at h
    rw [sameD_eq h.1, sameL_eq h.2]
  | [], _ :: _, h => nomatch h
  | _ :: _, [], h => nomatch h
end
structure Iter where
  items : List W
  locks : List (Nat × List PyData)
def LocksOk (L : List (Nat × List PyData)) (st : Store) : Prop := ∀ p ∈ L, st[p.1]? = some (.lst p.2)
def locksB : List (Nat × List PyData) → Store → Bool
  | [], _ => true
  | (i, xs) :: L, st => match st[i]? with
    | some (.lst ys) => sameL ys xs && locksB L st
    | none => false
theorem locks_of : ∀ {L : List (Nat × List PyData)} {st : Store}, locksB L st = true → LocksOk L st
  | [], _, _ => fun _ h => absurd h List.not_mem_nil
  | (i, xs) :: L, st, h => by
    unfold locksB at h
    split at h
    · next ys e =>
      rw [Bool.and_eq_true] at h
      intro p hp
      rcases List.mem_cons.mp hp with rfl | hp
      · rw [← sameL_eq h.1]; exact e
      · exact locks_of h.2 p hp
    · cases h
structure ItOk (K : PySem.W.Frag) (μ₀ : Mu) (H₀ : Hp) (I : Iter) (J : It) : Prop where
  ex : ∃ G Y, Walk J I.items.length G Y ∧ (∀ μ st H, Ext μ₀ H₀ μ H → SR μ st H → LocksOk I.locks st → G H) ∧
    ∀ (i : Nat) (w : W) (μ : Mu) (st : Store) (H : Hp) (x : V) (H' : Hp), I.items[i]? = some w → Ext μ₀ H₀ μ H → SR μ st H → LocksOk I.locks st → Y i H x H' → Ext μ H μ H' ∧ SR μ st H' ∧ RepW K μ [] H' w x
def RepIt (K : PySem.W.Frag) : Mu → List Addr → Hp → Iter → It → Prop := fun μ fr H I J => fr = [] ∧ ItOk K μ H I J
def tI (K : PySem.W.Frag) (mg : Str → Option Value) (E : XK) (it : Env → M Iter) : TI := fun σ H R => ∃ μ ρ st, Slots K μ H ρ σ ∧ SR μ st H ∧ PostG mg E (RepIt K) R (it ρ st) μ H
theorem PI_imp {X : Cx} {tg e : Expr} {t t' : TI} (h : PI X tg e t) (i : ∀ σ H Q, t' σ H Q → t σ H Q) : PI X tg e t' := ⟨fun pins s σ H Q I q => h.run pins s σ H Q I (i σ H Q q)⟩

/-! ### for -/
def forLoop (L : List (Nat × List PyData)) (g : Tg) (body : Env → M Out) : List W → Env → M Out
  | [], ρ => fun st => if locksB L st = true then some (.ok (.nx ρ), st) else none
  | w :: ws, ρ => fun st => if locksB L st = true then (match g w ρ with
    | some ρ1 => mbind (body ρ1) (fun o => match o with
      | .nx ρ2 => forLoop L g body ws ρ2
      | .ret v => mret (.ret v)) st
    | none => none) else none
def sFor (it : Env → M Iter) (g : Tg) (body : Env → M Out) : Env → M Out := fun ρ => mbind (it ρ) fun I => forLoop I.locks g body I.items ρ
section
variable {X : Cx} {mg : Str → Option Value} {E : XK} {it : Env → M Iter} {g : Tg} {js : List Nat} {body : Env → M Out} {tg iter : Expr} {sts : List Stmt} {pos : Pos}
theorem for_of {D : Ends} {σ : L2.St} {H : Hp} (h : tS X.K mg E (sFor it g body) D σ H) : tFor (tI X.K mg E it) (tG X.K js g) (tS X.K mg E body) D σ H := by
  obtain ⟨μ0, ρ0, st0, hs0, hr0, h⟩ := h
  refine ⟨μ0, ρ0, st0, hs0, hr0, (PostG.bind (R := RepIt X.K) h (.start hr0)).mono fun J H1 ⟨μ1, fr1, I, st1, a1, r1, h1⟩ => ?_⟩
  obtain ⟨rfl, ⟨G, Y, wk, stand, yield⟩⟩ := r1
  have lck : ∀ {ws : List W} {ρ : Env} {st : Store} {μ : Mu} {H : Hp}, PostG mg E (RepO X.K) (QD D) (forLoop I.locks g body ws ρ st) μ H → LocksOk I.locks st := fun {ws ρ st μ H} z => by
    cases ws with
    | nil =>
      unfold forLoop at z
      by_cases q : locksB I.locks st = true
      · exact locks_of q
      · rw [if_neg q] at z; exact z.elim
    | cons w ws =>
      unfold forLoop at z
      by_cases q : locksB I.locks st = true
      · exact locks_of q
      · rw [if_neg q] at z; exact z.elim
  refine for_it wk (fun i σ H => ∃ μ ρ st, At μ1 H1 [] μ st H ∧ Slots X.K μ H ρ σ ∧ PostG mg E (RepO X.K) (QD D) (forLoop I.locks g body (I.items.drop i) ρ st) μ H) ?_ ?_ ?_ ?_
  · exact ⟨μ1, ρ0, st1, .start a1.sr, hs0.ext a1.ext, h1.from a1⟩
  · rintro i σ H hi ⟨μ, ρ, st, B, s, z⟩
    exact stand μ st H B.ext B.sr (lck z)
  · rintro i x σ H H' hi ⟨μ, ρ, st, B, s, z⟩ y
    have hl := lck z
    have ei : I.items.drop i = I.items[i] :: I.items.drop (i + 1) := List.drop_eq_getElem_cons hi
    obtain ⟨e', s', r'⟩ := yield i I.items[i] μ st H x H' (List.getElem?_eq_getElem hi) B.ext B.sr hl y
    rw [ei] at z
    unfold forLoop at z
    by_cases q : locksB I.locks st = true
    · rw [if_pos q] at z
      cases e1 : g I.items[i] ρ with
      | none => rw [e1] at z; exact z.elim
      | some ρ1 =>
        rw [e1] at z
        dsimp only at z
        have B' : At μ H [] μ st H' := ⟨e', rfl, s'⟩
        refine ⟨μ, I.items[i], ρ, ρ1, s.ext e', r', e1, fun σ2 s2 _ => ?_⟩
        refine ⟨μ, ρ1, st, s2, s', (PostG.bind (R := RepO X.K) (z.from B') (.start s')).mono fun yy H3 ⟨μ3, fr3, o, st3, a3, r3, h3⟩ => ?_⟩
        cases yy with
        | inl σ3 =>
          cases o with
          | nx ρ3 =>
            obtain ⟨rfl, s3⟩ := r3
            exact ⟨μ3, ρ3, st3, (B.trans B').trans a3, s3, h3.from a3⟩
          | ret w => exact r3.elim
        | inr v =>
          cases o with
          | nx ρ1 => exact r3.elim
          | ret w => exact (show QD D (Sum.inr v) H3 from PostG.fin (R := RepO X.K) (y := (Sum.inr v : L2.St ⊕ V)) h3 a3 r3)
    · rw [if_neg q] at z; exact z.elim
  · rintro σ H ⟨μ, ρ, st, B, s, z⟩
    rw [List.drop_length] at z
    unfold forLoop at z
    by_cases q : locksB I.locks st = true
    · rw [if_pos q] at z
      exact t_next z (.start B.sr) s
    · rw [if_neg q] at z; exact z.elim
def isSet : Expr → Bool
  | .Set .. => true
  | _ => false
theorem folded_no {iter : Expr} {env : PySem.Env} (h : isSet iter = false) : ∀ x, foldedSetIterable iter env x = pure x := by
  intro x
  cases iter <;> first | rfl | exact nomatch h
theorem p_for (hp : PassesOwn (model X.prog X.w) X.A X.env X.xe) (hc : X.calm = true) (hi : PI X tg iter (tI X.K mg E it)) (hg : PG X tg (tG X.K js g)) (hb : PSs X sts (tS X.K mg E body)) (hset : isSet iter = false) : PS X (.For tg iter sts [] pos) (tS X.K mg E (sFor it g body)) :=
  PS_imp (ps_for hp hc hi hg hb (folded_no hset)) fun _ _ _ h => for_of h

/-! ### while -/
def whileLoop (p : Env → M Bool) (body : Env → M Out) : Nat → Env → M Out
  | 0, _ => mfail
  | n + 1, ρ => mbind (p ρ) fun b => match b with
    | true => mbind (body ρ) fun o => match o with
      | .nx ρ2 => whileLoop p body n ρ2
      | .ret v => mret (.ret v)
    | false => mret (.nx ρ)
theorem p_while {p : Env → M Bool} {c : Expr} {n : Nat} (hp : PassesOwn (model X.prog X.w) X.A X.env X.xe) (hc : PT X c (tT X.K mg E p)) (hb : PSs X sts (tS X.K mg E body)) : PS X (.While c sts [] pos) (tS X.K mg E (whileLoop p body n)) :=
  PS_imp (ps_while hp hc hb) fun D σ H ⟨μ, ρ, st, hs, hr, h⟩ => by
    refine ⟨fun m σ H => ∃ μ ρ st, Slots X.K μ H ρ σ ∧ SR μ st H ∧ PostG mg E (RepO X.K) (QD D) (whileLoop p body m ρ st) μ H, ⟨n, μ, ρ, st, hs, hr, h⟩, ?_⟩
    rintro m σ H ⟨μ, ρ, st, hs, hr, h⟩
    cases m with
    | zero => exact h.elim
    | succ m =>
      refine ⟨μ, ρ, st, hs, hr, (PostG.bind (R := RepB) h (.start hr)).mono fun b H1 ⟨μ1, fr1, o, st1, a1, r1, h1⟩ => ?_⟩
      obtain ⟨rfl, rfl⟩ := r1
      cases o with
      | false =>
        rw [if_neg (by decide)]
        exact t_next h1 a1 (hs.ext a1.ext)
      | true =>
        rw [if_pos rfl]
        refine ⟨fun σ H => ∃ μ ρ st, Slots X.K μ H ρ σ ∧ SR μ st H ∧ PostG mg E (RepO X.K) (QD D) (whileLoop p body m ρ st) μ H, fun σ' H' z => ⟨m, Nat.lt_succ_self _, z⟩, ?_⟩
        refine ⟨μ1, ρ, st1, hs.ext a1.ext, a1.sr, (PostG.bind (R := RepO X.K) (h1.from a1) (.start a1.sr)).mono fun yy H3 ⟨μ3, fr3, o, st3, a3, r3, h3⟩ => ?_⟩
        cases yy with
        | inl σ3 =>
          cases o with
          | nx ρ3 =>
            obtain ⟨rfl, s3⟩ := r3
            exact ⟨μ3, ρ3, st3, s3, a3.sr, h3.from a3⟩
          | ret w => exact r3.elim
        | inr v =>
          cases o with
          | nx ρ1 => exact r3.elim
          | ret w => exact (show QD D (Sum.inr v) H3 from PostG.fin (R := RepO X.K) (y := (Sum.inr v : L2.St ⊕ V)) h3 a3 r3)
end
end Ev

namespace Ev
open PySem PySem.Spec PyProof.Rows L2

/-! ### list comprehensions -/
def wipeG {α : Type} (σ : List (Option α)) : List Nat → List (Option α)
  | [] => σ
  | v :: vs => (wipeG σ vs).set v none
theorem wipeG_wipe (σ : L2.St) : ∀ vs : List Nat, wipeG σ vs = wipe σ vs
  | [] => rfl
  | v :: vs => by unfold wipeG wipe; rw [wipeG_wipe σ vs]
theorem wipeG_length {α : Type} (σ : List (Option α)) : ∀ vs : List Nat, (wipeG σ vs).length = σ.length
  | [] => rfl
  | v :: vs => by unfold wipeG; rw [List.length_set, wipeG_length σ vs]
theorem wipeG_some {α : Type} {σ : List (Option α)} {i : Nat} {x : α} : ∀ {vs : List Nat}, (wipeG σ vs)[i]? = some (some x) → σ[i]? = some (some x) ∧ i ∉ vs
  | [], h => ⟨h, List.not_mem_nil⟩
  | v :: vs, h => by
    unfold wipeG at h
    by_cases e : v = i
    · subst e
      rw [List.getElem?_set] at h
      simp at h
    · rw [List.getElem?_set_ne e] at h
      obtain ⟨h1, h2⟩ := wipeG_some h
      exact ⟨h1, fun z => (List.mem_cons.mp z).elim (fun q => e q.symm) h2⟩
theorem wipe_get {σ : L2.St} {i : Nat} : ∀ {vs : List Nat}, (wipe σ vs)[i]? = if i ∈ vs then (σ[i]?).map (fun _ => none) else σ[i]?
  | [] => by simp [wipe]
  | v :: vs => by
    unfold wipe
    rw [List.getElem?_set, wipe_length]
    by_cases e : v = i
    · subst e
      rw [if_pos rfl, if_pos List.mem_cons_self]
      split
      · next h => rw [List.getElem?_eq_getElem h]; rfl
      · next h => rw [List.getElem?_eq_none (by omega)]; rfl
    · rw [if_neg e, wipe_get]
      by_cases q : i ∈ vs
      · rw [if_pos q, if_pos (List.mem_cons_of_mem _ q)]
      · rw [if_neg q, if_neg (fun z => (List.mem_cons.mp z).elim (fun t => e t.symm) q)]
theorem wipe_only {js vs : List Nat} {σ σ' : L2.St} (o : OnlyAt js (wipe σ vs) σ') (h : ∀ j ∈ js, j ∈ vs) : wipe σ' vs = wipe σ vs := by
  apply List.ext_getElem?
  intro i
  rw [wipe_get, wipe_get]
  by_cases q : i ∈ vs
  · rw [if_pos q, if_pos q]
    have hl : σ'.length = σ.length := by rw [o.1, wipe_length]
    by_cases hi : i < σ.length
    · rw [List.getElem?_eq_getElem hi, List.getElem?_eq_getElem (by omega)]; rfl
    · rw [List.getElem?_eq_none (by omega), List.getElem?_eq_none (by omega)]
  · rw [if_neg q, if_neg q, o.2 i (fun z => q (h i z)), wipe_get, if_neg q]
theorem Slots.wipe {K : PySem.W.Frag} {μ : Mu} {H : Hp} {ρ : Env} {σ : L2.St} (h : Slots K μ H ρ σ) (vs : List Nat) : Slots K μ H (wipeG ρ vs) (L2.wipe σ vs) := by
  refine ⟨by rw [wipeG_length, wipe_length]; exact h.1, fun i w q => ?_⟩
  obtain ⟨h1, h2⟩ := wipeG_some q
  obtain ⟨v, h3, h4⟩ := h.2 i w h1
  exact ⟨v, by rw [wipe_get, if_neg h2]; exact h3, h4⟩
/-- one turn: the target, the test, the element; no error leaves it -/
def lcTurn (g : Tg) (p : Env → M Bool) (f : Env → M W) (ρ : Env) (w : W) (acc : List PyData) (st : Store) : Option (List PyData × Store) :=
  match g w ρ with
  | none => none
  | some ρ1 => match p ρ1 st with
    | some (.ok false, st1) => some (acc, st1)
    | some (.ok true, st1) => (match f ρ1 st1 with
      | some (.ok y, st2) => (match frz y with
        | .d x => if acc.length < sizeLine then some (acc ++ [x], st2) else none
        | _ => none)
      | _ => none)
    | _ => none
def lcLoop (L : List (Nat × List PyData)) (g : Tg) (p : Env → M Bool) (f : Env → M W) (ρ : Env) : List W → List PyData → Store → Option (List PyData × Store)
  | [], acc, st => if locksB L st = true then some (acc, st) else none
  | w :: ws, acc, st => if locksB L st = true then (match lcTurn g p f ρ w acc st with
    | some (acc', st') => lcLoop L g p f ρ ws acc' st'
    | none => none) else none
def sLc (it : Env → M Iter) (vs : List Nat) (g : Tg) (p : Env → M Bool) (f : Env → M W) : Env → M W := fun ρ => mbind (it ρ) fun I => fun st => match lcLoop I.locks g p f (wipeG ρ vs) I.items [] st with
  | some (xs, st') => some (.ok (.new xs), st')
  | none => none
def sYes : Env → M Bool := fun _ => mret true

section
variable {X : Cx} {mg : Str → Option Value} {E : XK} {it : Env → M Iter} {g : Tg} {js vs : List Nat} {p : Env → M Bool} {f : Env → M W}
/-- the comprehension's list at D, in flight, while an element is reckoned -/
theorem lc_of {σ : L2.St} {H : Hp} {Q : VK} (hj : ∀ j ∈ js, j ∈ vs) (h : tE X.K mg E (sLc it vs g p f) σ H Q) : tLc (tI X.K mg E it) (tG X.K js g) (tT X.K mg (fun _ _ _ => False) p) (tE X.K mg (fun _ _ _ => False) f) vs σ H Q := by
  obtain ⟨μ0, ρ0, st0, hs0, hr0, h⟩ := h
  refine ⟨μ0, ρ0, st0, hs0, hr0, (PostG.bind (R := RepIt X.K) h (.start hr0)).mono fun J H1 ⟨μ1, fr1, I, st1, a1, r1, h1⟩ => ?_⟩
  obtain ⟨rfl, ⟨G, Y, wk, stand, yield⟩⟩ := r1
  intro D hD
  have sD := a1.sr.push (vs := []) hD
  have eD := Ext.push (vs := []) a1.sr hD
  have hs1 : Slots X.K μ1 H1 ρ0 σ := hs0.ext a1.ext
  have lck : ∀ {ws : List W} {acc : List PyData} {st : Store} {r : List PyData × Store}, lcLoop I.locks g p f (wipeG ρ0 vs) ws acc st = some r → LocksOk I.locks st := fun {ws acc st r} z => by
    cases ws with
    | nil =>
      unfold lcLoop at z
      by_cases q : locksB I.locks st = true
      · exact locks_of q
      · rw [if_neg q] at z; cases z
    | cons w ws =>
      unfold lcLoop at z
      by_cases q : locksB I.locks st = true
      · exact locks_of q
      · rw [if_neg q] at z; cases z
  cases e0 : lcLoop I.locks g p f (wipeG ρ0 vs) I.items [] st1 with
  | none => rw [e0] at h1; exact h1.elim
  | some r =>
    obtain ⟨out, stF⟩ := r
    rw [e0] at h1
    refine lc_it wk (fun i H => ∃ μ st acc us, At μ1 H1 [D] μ st H ∧ H D = some (.lst us) ∧ RepDs H μ.fp acc us ∧ lcLoop I.locks g p f (wipeG ρ0 vs) (I.items.drop i) acc st = some (out, stF)) ?_ ?_ ?_ ?_
    · exact ⟨⟨μ1.locs, D :: μ1.own⟩, st1, [], [], ⟨eD, rfl, sD⟩, upd_same, .nil, e0⟩
    · rintro i H hi ⟨μ, st, acc, us, B, hH, hr, z⟩
      exact stand μ st H B.ext B.sr (lck z)
    · rintro i x H H' hi ⟨μ, st, acc, us, B, hH, hr, z⟩ y
      have hl := lck z
      have ei : I.items.drop i = I.items[i] :: I.items.drop (i + 1) := List.drop_eq_getElem_cons hi
      obtain ⟨e', s', r'⟩ := yield i I.items[i] μ st H x H' (List.getElem?_eq_getElem hi) B.ext B.sr hl y
      have B' : At μ1 H1 [D] μ st H' := ⟨B.ext.trans e', B.own, s'⟩
      have Dm : D ∈ μ.own := B.mem D List.mem_cons_self
      rw [ei] at z
      unfold lcLoop at z
      by_cases q : locksB I.locks st = true
      · rw [if_pos q] at z
        cases et : lcTurn g p f (wipeG ρ0 vs) I.items[i] acc st with
        | none => rw [et] at z; cases z
        | some r2 =>
          obtain ⟨acc2, stt⟩ := r2
          rw [et] at z
          dsimp only at z
          unfold lcTurn at et
          cases eg : g I.items[i] (wipeG ρ0 vs) with
          | none => rw [eg] at et; cases et
          | some ρ1 =>
            rw [eg] at et
            dsimp only at et
            have hsw : Slots X.K μ H' (wipeG ρ0 vs) (L2.wipe σ vs) := (hs1.wipe vs).ext B'.ext
            refine ⟨μ, I.items[i], wipeG ρ0 vs, ρ1, hsw, r', eg, fun σ2 s2 o2 => ⟨wipe_only o2 hj, ?_⟩⟩
            refine ⟨μ, ρ1, st, s2, s', ?_⟩
            cases ep : p ρ1 st with
            | none => rw [ep] at et; cases et
            | some rp =>
              obtain ⟨rp, stp⟩ := rp
              rw [ep] at et
              cases rp with
              | exc x => cases et
              | ok b =>
                intro μ3 fr3 b' H3 e3 o3 s3 rb
                obtain ⟨rfl, rfl⟩ := rb
                have Bp : At μ1 H1 [D] μ3 stp H3 := ⟨B'.ext.trans e3, by rw [o3, B'.own]; rfl, s3⟩
                have hH3 : H3 D = some (.lst us) := by rw [(e3.own D Dm).2, (e'.own D Dm).2]; exact hH
                have hr3 : RepDs H3 μ3.fp acc us := (hr.ext e'.hx).ext e3.hx
                cases b with
                | false =>
                  rw [if_neg (by decide)]
                  have e5 : acc2 = acc ∧ stt = stp := by
                    cases et
                    exact ⟨rfl, rfl⟩
                  rw [e5.1, e5.2] at z
                  exact ⟨μ3, stp, acc, us, Bp, hH3, hr3, z⟩
                | true =>
                  rw [if_pos rfl]
                  refine ⟨μ3, ρ1, stp, s2.ext e3, s3, ?_⟩
                  dsimp only at et
                  cases ef : f ρ1 stp with
                  | none => rw [ef] at et; cases et
                  | some rf =>
                    obtain ⟨rf, st4⟩ := rf
                    rw [ef] at et
                    cases rf with
                    | exc x => cases et
                    | ok yw =>
                      intro μ4 fr4 yv H4 e4 o4 s4 ry
                      dsimp only at et
                      cases ey : frz yw with
                      | d xd =>
                        rw [ey] at et
                        dsimp only at et
                        by_cases hlen : acc.length < sizeLine
                        · rw [if_pos hlen] at et
                          have e5 : acc2 = acc ++ [xd] ∧ stt = st4 := by
                            cases et
                            exact ⟨rfl, rfl⟩
                          rw [e5.1, e5.2] at z
                          have B4 : At μ1 H1 (fr4 ++ [D]) μ4 st4 H4 := ⟨Bp.ext.trans e4, by rw [o4, Bp.own, List.append_assoc], s4⟩
                          have Dm3 : D ∈ μ3.own := Bp.mem D List.mem_cons_self
                          have hH4 : H4 D = some (.lst us) := by rw [(e4.own D Dm3).2]; exact hH3
                          have hsub : [D].Sublist (fr4 ++ [D]) := List.sublist_append_right _ _
                          have B5 := B4.trim hsub
                          have hry : RepW X.K ⟨μ4.locs, [D] ++ μ1.own⟩ [] H4 (frz yw) yv := frz_rep (B4.sub hsub) (fun a ha => by
                            have hn := B4.sr.nd
                            unfold Mu.fp at hn
                            rw [B4.own, List.append_assoc, List.nodup_append] at hn
                            obtain ⟨n1, n2, n3⟩ := hn
                            refine ⟨fun zz => n3 a zz a (List.mem_append_left _ ha) rfl, fun zz => ?_⟩
                            rw [List.nodup_append] at n2
                            exact n2.2.2 a ha a zz rfl) ry
                          rw [ey] at hry
                          have hr4 : RepDs H4 (Mu.mk μ4.locs ([D] ++ μ1.own)).fp acc us := (hr3.ext e4.hx).ext (.sub (fp_sub (B4.sub hsub)))
                          have hl4 := hr4.length
                          refine ⟨us, hH4, by omega, ?_⟩
                          -- the list grows: nobody else looks at it
                          have hmem : D ∈ (Mu.mk μ4.locs ([D] ++ μ1.own)).fp := List.mem_append_right _ List.mem_cons_self
                          have hx6 : HX H4 (Mu.mk μ4.locs ([D] ++ μ1.own)).fp (upd H4 D (.lst (us ++ [yv]))) (Mu.mk μ4.locs ([D] ++ μ1.own)).fp := .write hH4 hmem
                          have nD : ∀ b ∈ μ1.own, b ≠ D := fun b hb e => by
                            subst e
                            exact a1.sr.fresh hD (List.mem_append_right _ hb)
                          have hn5 := B5.sr.nd
                          have nL : ∀ b ∈ μ4.locs, b ≠ D := fun b hb e => by
                            subst e
                            unfold Mu.fp at hn5
                            exact (List.nodup_append.mp hn5).2.2 b hb b List.mem_cons_self rfl
                          refine ⟨⟨μ4.locs, [D] ++ μ1.own⟩, st4, acc ++ [xd], us ++ [yv], ⟨⟨B5.ext.hx.trans hx6, B5.ext.locs, fun b hb => ⟨(B5.ext.own b hb).1, ?_⟩⟩, rfl, ⟨B5.sr.len, hn5, fun j ys qj => ?_, fun b hb => ?_⟩⟩, upd_same, (hr4.append (.cons hry.2 .nil)).ext hx6, z⟩
                          · rw [upd_ne (nD b hb)]
                            exact (B5.ext.own b hb).2
                          · obtain ⟨b, ws', k1, k2, k3⟩ := B5.sr.cell j ys qj
                            exact ⟨b, ws', k1, by rw [upd_ne (nL b (List.mem_of_getElem? k1))]; exact k2, k3.ext hx6⟩
                          · by_cases eb : b = D
                            · subst eb
                              exact ⟨_, upd_same⟩
                            · rw [upd_ne eb]
                              exact B5.sr.own b hb
                        · rw [if_neg hlen] at et
                          cases et
                      | ref j => rw [ey] at et; cases et
                      | scr j => rw [ey] at et; cases et
                      | new j => rw [ey] at et; cases et
      · rw [if_neg q] at z; cases z
    · rintro H ⟨μ, st, acc, us, B, hH, hr, z⟩
      rw [List.drop_length] at z
      unfold lcLoop at z
      by_cases q : locksB I.locks st = true
      · rw [if_pos q] at z
        cases z
        exact PostG.fin (R := RepW X.K) h1 (a1.trans B) ⟨D, us, rfl, rfl, hH, hr⟩
      · rw [if_neg q] at z; cases z
theorem r_lc {elt tg iter : Expr} {ifs : List Expr} {scope : Scope} {own : List (Str × Nat)} {pos : Pos} (hc : X.calm = true) (hN : X.N.Nodup) (hi : PI X tg iter (tI X.K mg E it)) (ok : BlkOk X.N X.env.scope scope own)
    (hg : ∀ (s : Shared) (H : Hp) (C : Addr) (cl : List (Str × Addr)) (fp : List Addr), PG (X.blk s H scope (compEnvC scope cl C X.env) fp) tg (tG X.K js g))
    (ht : ∀ (s : Shared) (H : Hp) (C : Addr) (cl : List (Str × Addr)) (fp : List Addr), PTs (X.blk s H scope (compEnvC scope cl C X.env) fp) ifs (tT X.K mg (fun _ _ _ => False) p))
    (he : ∀ (s : Shared) (H : Hp) (C : Addr) (cl : List (Str × Addr)) (fp : List Addr), PE (X.blk s H scope (compEnvC scope cl C X.env) fp) elt (tE X.K mg (fun _ _ _ => False) f)) (hset : isSet iter = false) (hj : ∀ j ∈ js, j ∈ own.map (·.2)) :
    PE X (.ListComp elt [⟨tg, iter, ifs, 0⟩] scope pos) (tE X.K mg E (sLc it (own.map (·.2)) g p f)) :=
  PE_imp (pe_lc hc hN hi ok hg ht he (folded_no hset)) fun _ _ _ h => lc_of hj h
end
end Ev

namespace Ev
open PySem PySem.Spec PyProof.Rows L2

/-! ### iterators -/
def iAny (K : PySem.W.Frag) (tl : TE) : TI := fun σ H R => tl σ H fun x H1 =>
  (∃ a, x = .ref a ∧ (∃ xs, SqL K H1 a xs) ∧ R (Itl K a) H1) ∨ (∃ a, x = .ref a ∧ (∃ xs, SqT K H1 a xs) ∧ R (Itt K a) H1) ∨ ∃ z, x = .str z ∧ R (Its z) H1
section
variable {X : Cx} {tg : Expr}
theorem pi_any {l : Expr} {tl : TE} (hl : PE X l tl) : PI X tg l (iAny X.K tl) := by
  refine ⟨fun pins s σ H R I h => ?_⟩
  refine thn (hl.run pins s σ H _ I h) fun v s1 ⟨x, H1, I1, r1, q1⟩ => ?_
  rcases q1 with ⟨a, e, ⟨xs, hq⟩, q⟩ | ⟨a, e, ⟨xs, hq⟩, q⟩ | ⟨x, e, q⟩
  · subst e
    cases r1
    obtain ⟨its, rv, p, hz⟩ := I1.list hq
    refine wpAny_pyIter_list p.isList ?_
    refine ⟨s1.heap.objs.size, [s1.heap.objs.size], _, _, H1, rfl, I1.kept (t' := s1.toks) fun b o e => Heap.get?_push_of_some _ e, turn_list a _, ⟨_, Heap.get?_push_size _ rfl, rfl, rfl⟩, fun b hb => ?_, q⟩
    have e : b = s1.heap.objs.size := by simpa using hb
    subst e
    exact I1.fpOk (Nat.le_refl _) (I1.hok.fresh (Nat.le_refl _))
  · subst e
    cases r1
    obtain ⟨its, rv, p, hz⟩ := I1.tuple hq
    refine wpAny_pyIter_tuple (show s1.heap.IsTuple a its.toArray from p) ?_
    refine ⟨s1.heap.objs.size, [s1.heap.objs.size], _, _, H1, rfl, I1.kept (t' := s1.toks) fun b o e => Heap.get?_push_of_some _ e, turn_tuple a _, ⟨_, Heap.get?_push_size _ rfl, rfl, rfl⟩, fun b hb => ?_, q⟩
    have e : b = s1.heap.objs.size := by simpa using hb
    subst e
    exact I1.fpOk (Nat.le_refl _) (I1.hok.fresh (Nat.le_refl _))
  · subst e
    obtain ⟨t, rfl⟩ := r1
    cases ha : x.cps.all (· < 128)
    · exact wpAny_pyIter_wide ha (pi_one (tk := s1.toks) I1 _ (turn_str _ x t "str_iterator" (.inr rfl)) ⟨_, Heap.get?_push_size _ rfl, rfl, rfl⟩ q)
    · exact wpAny_pyIter_ascii ha (pi_one (tk := s1.toks) I1 _ (turn_str _ x t "str_ascii_iterator" (.inl rfl)) ⟨_, Heap.get?_push_size _ rfl, rfl, rfl⟩ q)
end
def iterOf : W → M Iter
  | .d (.str z) => mret ⟨z.cps.toList.map fun c => .d (.str ⟨#[c]⟩), []⟩
  | .ref i => fun st => match st[i]? with
    | some (.lst xs) => some (.ok ⟨xs.map .d, [(i, xs)]⟩, st)
    | none => none
  | w => fun st => match asSeq w st with
    | some xs => some (.ok ⟨xs.map .d, []⟩, st)
    | none => none
def sIter (f : Env → M W) : Env → M Iter := fun ρ => mbind (f ρ) iterOf
/-- a walk over items that stand at a -/
def Fixed (K : PySem.W.Frag) (μ : Mu) (H : Hp) (L : List (Nat × List PyData)) (a : Addr) (xs : List PyData) : Prop :=
  (∀ μ' st' H', Ext μ H μ' H' → SR μ' st' H' → LocksOk L st' → ∃ vs, (SqL K H' a vs) ∧ RepDs H' μ'.fp xs vs)
theorem map_get {xs : List PyData} {i : Nat} {w : W} (h : (xs.map W.d)[i]? = some w) : ∃ x, xs[i]? = some x ∧ w = .d x := by
  rw [List.getElem?_map] at h
  cases e : xs[i]? with
  | none => rw [e] at h; cases h
  | some x =>
    rw [e] at h
    cases h
    exact ⟨x, rfl, rfl⟩
theorem walk_now {K : PySem.W.Frag} {a : Addr} {n : Nat} : Walk (Itl K a) n (fun H => ∃ vs, SqL K H a vs ∧ vs.length = n) (fun i H x H' => H' = H ∧ ∀ vs, SqL K H a vs → vs[i]? = some x) :=
  ⟨fun i H hi ⟨vs, h1, h2⟩ => ⟨vs, vs[i], h1, List.getElem?_eq_getElem (by omega)⟩, fun H ⟨vs, h1, h2⟩ => ⟨vs, h1, by omega⟩, fun i H x H' hi _ y => y⟩
theorem ItOk.list {K : PySem.W.Frag} {μ : Mu} {H : Hp} {L : List (Nat × List PyData)} {a : Addr} {xs : List PyData} (h : Fixed K μ H L a xs) : ItOk K μ H ⟨xs.map .d, L⟩ (Itl K a) := by
  refine ⟨_, _, walk_now, fun μ' st' H' e s l => ?_, fun i w μ' st' H' x H2 hw e s l y => ?_⟩
  · obtain ⟨vs, h1, h2⟩ := h μ' st' H' e s l
    exact ⟨vs, h1, by rw [← h2.length, List.length_map]⟩
  · obtain ⟨rfl, y⟩ := y
    obtain ⟨d, hd, rfl⟩ := map_get hw
    obtain ⟨vs, h1, h2⟩ := h μ' st' H2 e s l
    obtain ⟨v, h3, h4⟩ := h2.get hd
    have e3 := y vs h1
    rw [h3] at e3
    cases e3
    exact ⟨.refl, s, rfl, h4⟩
theorem ItOk.tup {K : PySem.W.Frag} {μ : Mu} {H : Hp} {L : List (Nat × List PyData)} {a : Addr} {xs : List PyData} {vs : List V} (ha : H a = some (.tup vs)) (hr : RepDs H μ.fp xs vs) : ItOk K μ H ⟨xs.map .d, L⟩ (Itt K a) := by
  have hl : (xs.map W.d).length = vs.length := by rw [List.length_map, hr.length]
  refine ⟨fun H' => SqT K H' a vs, YAt vs, ?_, fun μ' st' H' e s l => SqT.of (e.hx.tup _ _ ha), fun i w μ' st' H' x H2 hw e s l y => ?_⟩
  · show Walk (Itt K a) (xs.map W.d).length _ _
    rw [hl]
    exact walk_tup
  · obtain ⟨rfl, y⟩ := y
    obtain ⟨d, hd, rfl⟩ := map_get hw
    obtain ⟨v, h3, h4⟩ := hr.get hd
    rw [h3] at y
    cases y
    exact ⟨.refl, s, rfl, h4.ext e.hx⟩
theorem fixed_lst {K : PySem.W.Frag} {μ : Mu} {H : Hp} {a : Addr} {xs : List PyData} {vs : List V} {L : List (Nat × List PyData)} (ha : H a = some (.lst vs)) (hf : a ∉ μ.fp) (hr : RepDs H μ.fp xs vs) : Fixed K μ H L a xs :=
  fun μ' st' H' e s l => ⟨vs, SqL.of (e.hx.lst _ _ ha hf).1, hr.ext e.hx⟩
theorem fixed_scr {K : PySem.W.Frag} {μ : Mu} {H : Hp} {a : Addr} {ns : List Int} {L : List (Nat × List PyData)} (h : ScrAt K H a ns) : Fixed K μ H L a (ns.map PyData.int) :=
  fun μ' st' H' e s l => by
    refine ⟨ns.map V.int, ?_, RepDs.ofInts _⟩
    rcases h with ⟨o, h⟩ | h
    · exact .inl (.inr ⟨o, e.hx.frz _ _ _ h⟩)
    · exact .inr h
theorem fixed_ref {K : PySem.W.Frag} {μ : Mu} {H : Hp} {i : Nat} {a : Addr} {xs : List PyData} {L : List (Nat × List PyData)} (ha : μ.locs[i]? = some a) (hL : (i, xs) ∈ L) : Fixed K μ H L a xs :=
  fun μ' st' H' e s l => by
    obtain ⟨a', vs, h1, h2, h3⟩ := s.cell i xs (l _ hL)
    rw [e.locs i a ha] at h1
    cases h1
    exact ⟨vs, SqL.of h2, h3⟩
section
variable {X : Cx} {mg : Str → Option Value} {E : XK} {e : Expr} {es : List Expr} {f : Env → M W} {tg : Expr} {p pos : Pos}
theorem iter_of {μ₀ μ : Mu} {H₀ H : Hp} {fr : List Addr} {st : Store} {w : W} {x : V} {R : It → Hp → Prop} (B : At μ₀ H₀ fr μ st H) (r : RepW X.K μ fr H w x) (h : PostG mg E (RepIt X.K) R (iterOf w st) μ₀ H₀) :
    (∃ a, x = .ref a ∧ (∃ xs, SqL X.K H a xs) ∧ R (Itl X.K a) H) ∨ (∃ a, x = .ref a ∧ (∃ xs, SqT X.K H a xs) ∧ R (Itt X.K a) H) ∨ ∃ z, x = .str z ∧ R (Its z) H := by
  have B0 := B.trim (List.nil_sublist _)
  have r0 := B.frz r
  cases w with
  | ref i =>
    obtain ⟨rfl, a, ha, rfl⟩ := r
    have hl : i < st.length := by rw [← B.sr.len]; exact (List.getElem?_eq_some_iff.mp ha).1
    obtain ⟨⟨xs⟩, hc⟩ : ∃ c, st[i]? = some c := ⟨_, List.getElem?_eq_getElem hl⟩
    unfold iterOf at h
    dsimp only at h
    rw [hc] at h
    obtain ⟨a', vs, h1, h2, h3⟩ := B.sr.cell i xs hc
    rw [ha] at h1
    cases h1
    exact .inl ⟨a, rfl, ⟨vs, SqL.of h2⟩, PostG.fin (R := RepIt X.K) h B0 ⟨rfl, .list (fixed_ref (i := i) ha List.mem_cons_self)⟩⟩
  | scr ns =>
    obtain ⟨_, a, rfl, hs⟩ := r0
    exact .inl ⟨a, rfl, ⟨_, hs.sq⟩, PostG.fin (R := RepIt X.K) h B0 ⟨rfl, .list (fixed_scr hs)⟩⟩
  | new xs =>
    obtain ⟨_, r0⟩ := r0
    cases r0 with
    | list h1 h2 h3 => exact .inl ⟨_, rfl, ⟨_, SqL.of h1⟩, PostG.fin (R := RepIt X.K) h B0 ⟨rfl, .list (fixed_lst h1 h2 h3)⟩⟩
  | d x =>
    obtain ⟨_, r0⟩ := r0
    cases r0 with
    | none => exact h.elim
    | bool b => exact h.elim
    | int i => exact h.elim
    | str z =>
      refine .inr (.inr ⟨z, rfl, PostG.fin (R := RepIt X.K) h B0 ⟨rfl, fun _ => True, (fun i H v H' => H' = H ∧ ∃ c, z.cps[i]? = some c ∧ v = .str ⟨#[c]⟩), ?_, fun _ _ _ _ _ _ => trivial, fun i w μ' st' H' x H2 hw e s l y => ?_⟩⟩)
      · have hl : (z.cps.toList.map fun c => W.d (.str ⟨#[c]⟩)).length = z.cps.size := by rw [List.length_map, Array.length_toList]
        show Walk (Its z) (z.cps.toList.map fun c => W.d (.str ⟨#[c]⟩)).length _ _
        rw [hl]
        exact walk_str
      · obtain ⟨rfl, c, hc, rfl⟩ := y
        rw [List.getElem?_map, Array.getElem?_toList, hc] at hw
        cases hw
        exact ⟨.refl, s, rfl, .str _⟩
    | list h1 h2 h3 => exact .inl ⟨_, rfl, ⟨_, SqL.of h1⟩, PostG.fin (R := RepIt X.K) h B0 ⟨rfl, .list (fixed_lst h1 h2 h3)⟩⟩
    | tuple h1 h3 => exact .inr (.inl ⟨_, rfl, ⟨_, SqT.of h1⟩, PostG.fin (R := RepIt X.K) h B0 ⟨rfl, .tup h1 h3⟩⟩)
theorem i_any (he : PE X e (tE X.K mg E f)) : PI X tg e (tI X.K mg E (sIter f)) :=
  PI_imp (pi_any he) fun σ H R ⟨μ, ρ, st, hs, hr, h⟩ =>
    ⟨μ, ρ, st, hs, hr, (PostG.bind (R := RepW X.K) h (.start hr)).mono fun x H1 ⟨μ1, fr1, w1, st1, a1, r1, h1⟩ => iter_of a1 r1 h1⟩
/-! range -/
def rangeItems (lo : Int) (n : Nat) : List W := (List.range n).map fun (k : Nat) => .d (.int (lo + k))
def downItems (lo : Int) (n : Nat) : List W := (List.range n).map fun (k : Nat) => .d (.int (lo + k * (-1)))
def inLong (i : Int) : Bool := decide (-(2 ^ 62) ≤ i) && decide (i < 2 ^ 62)
theorem inLong_iff {i : Int} (h : inLong i = true) : -(2 ^ 62) ≤ i ∧ i < 2 ^ 62 := by
  unfold inLong at h
  rw [Bool.and_eq_true] at h
  exact ⟨of_decide_eq_true h.1, of_decide_eq_true h.2⟩
def opRange1 : List W → M Iter
  | [.d (.int j)] => if inLong j = true then mret ⟨rangeItems 0 j.toNat, []⟩ else mfail
  | _ => mfail
def opRange2 : List W → M Iter
  | [.d (.int i), .d (.int j)] => if (inLong i && inLong j) = true then mret ⟨rangeItems i (j - i).toNat, []⟩ else mfail
  | _ => mfail
def opRange3 : List W → M Iter
  | [.d (.int i), .d (.int j), .d (.int c)] => if (inLong i && inLong j && decide (c = -1)) = true then mret ⟨downItems i (i - j).toNat, []⟩ else mfail
  | _ => mfail
theorem ItOk.range {K : PySem.W.Frag} {μ : Mu} {H : Hp} {lo : Int} {n : Nat} : ItOk K μ H ⟨rangeItems lo n, []⟩ (Itr lo n) := by
  refine ⟨fun _ => True, YFn fun i => .int (lo + i), ?_, fun _ _ _ _ _ _ => trivial, fun i w μ' st' H' x H2 hw e s l y => ?_⟩
  · have hl : (rangeItems lo n).length = n := by unfold rangeItems; rw [List.length_map, List.length_range]
    show Walk (Itr lo n) (rangeItems lo n).length _ _
    rw [hl]
    exact walk_range
  · obtain ⟨rfl, rfl⟩ := y
    have hw' : (rangeItems lo n)[i]? = some w := hw
    unfold rangeItems at hw'
    rw [List.getElem?_map] at hw'
    cases q : (List.range n)[i]? with
    | none => rw [q] at hw'; cases hw'
    | some k =>
      rw [q] at hw'
      cases hw'
      rw [List.getElem?_eq_some_iff] at q
      obtain ⟨_, q⟩ := q
      rw [List.getElem_range] at q
      subst q
      exact ⟨.refl, s, rfl, .int _⟩
theorem ItOk.down {K : PySem.W.Frag} {μ : Mu} {H : Hp} {lo : Int} {n : Nat} : ItOk K μ H ⟨downItems lo n, []⟩ (Itc lo (-1) n) := by
  refine ⟨fun _ => True, YFn fun i => .int (lo + (i : Nat) * (-1)), ?_, fun _ _ _ _ _ _ => trivial, fun i w μ' st' H' x H2 hw e s l y => ?_⟩
  · have hl : (downItems lo n).length = n := by unfold downItems; rw [List.length_map, List.length_range]
    show Walk (Itc lo (-1) n) (downItems lo n).length _ _
    rw [hl]
    exact walk_rangeC
  · obtain ⟨rfl, rfl⟩ := y
    have hw' : (downItems lo n)[i]? = some w := hw
    unfold downItems at hw'
    rw [List.getElem?_map] at hw'
    cases q : (List.range n)[i]? with
    | none => rw [q] at hw'; cases hw'
    | some k =>
      rw [q] at hw'
      cases hw'
      rw [List.getElem?_eq_some_iff] at q
      obtain ⟨_, q⟩ := q
      rw [List.getElem_range] at q
      subst q
      exact ⟨.refl, s, rfl, .int _⟩
def sIterC (op : List W → M Iter) (t : Env → M (List W)) : Env → M Iter := fun ρ => mbind (t ρ) op
theorem i_range1 {a : Expr} {t : Env → M (List W)} (hg : Gl X "range") (hm : X.mg "range" = none) (ha : PA X [a] (tA X.K mg E t)) (hs : isStar a = false) : PI X tg (.Call (.Name "range" p) [a] [] pos) (tI X.K mg E (sIterC opRange1 t)) :=
  PI_imp (pi_range1 hg hm ha (star_cons _ _ hs)) fun σ H R ⟨μ, ρ, st, hs, hr, h⟩ =>
    ⟨μ, ρ, st, hs, hr, (PostG.bind (R := RepWs X.K) h (.start hr)).mono fun vs H1 ⟨μ1, fr1, ws, st1, a1, r1, h1⟩ => by
      unfold opRange1 at h1
      split at h1
      · next j =>
        obtain ⟨v, rfl, r2⟩ := r1.one
        cases r2.int
        split at h1
        · next hj =>
          obtain ⟨hj1, hj2⟩ := inLong_iff hj
          exact ⟨j, rfl, hj1, hj2, PostG.fin (R := RepIt X.K) h1 (a1.trim (List.nil_sublist _)) ⟨rfl, .range⟩⟩
        · exact h1.elim
      · exact h1.elim⟩
theorem i_range2 {a b : Expr} {t : Env → M (List W)} (hg : Gl X "range") (hm : X.mg "range" = none) (ha : PA X [a, b] (tA X.K mg E t)) (hs : isStar a = false) (hs2 : isStar b = false) : PI X tg (.Call (.Name "range" p) [a, b] [] pos) (tI X.K mg E (sIterC opRange2 t)) :=
  PI_imp (pi_range2 hg hm ha (by rw [star_cons _ _ hs, star_cons _ _ hs2]; rfl) (star_cons _ _ hs2)) fun σ H R ⟨μ, ρ, st, hs, hr, h⟩ =>
    ⟨μ, ρ, st, hs, hr, (PostG.bind (R := RepWs X.K) h (.start hr)).mono fun vs H1 ⟨μ1, fr1, ws, st1, a1, r1, h1⟩ => by
      unfold opRange2 at h1
      split at h1
      · next i j =>
        obtain ⟨v, v', _, _, rfl, _, r2, r3⟩ := r1.two
        cases r2.int
        cases r3.int
        split at h1
        · next hj =>
          rw [Bool.and_eq_true] at hj
          obtain ⟨hi1, hi2⟩ := inLong_iff hj.1
          obtain ⟨hj1, hj2⟩ := inLong_iff hj.2
          exact ⟨i, j, rfl, ⟨hi1, hi2, hj1, hj2⟩, PostG.fin (R := RepIt X.K) h1 (a1.trim (List.nil_sublist _)) ⟨rfl, .range⟩⟩
        · exact h1.elim
      · exact h1.elim⟩
theorem RepWs.three {K : PySem.W.Frag} {μ : Mu} {fr : List Addr} {H : Hp} {w u z : W} {vs : List V} (r : RepWs K μ fr H [w, u, z] vs) : ∃ v v' v'' fr1 fr2 fr3, vs = [v, v', v''] ∧ RepW K μ fr1 H w v ∧ RepW K μ fr2 H u v' ∧ RepW K μ fr3 H z v'' := by
  cases r with
  | cons a r =>
    cases r with
    | cons b r =>
      cases r with
      | cons c r => cases r; exact ⟨_, _, _, _, _, _, rfl, a, b, c⟩
theorem i_range3 {a b c : Expr} {t : Env → M (List W)} (hg : Gl X "range") (hm : X.mg "range" = none) (ha : PA X [a, b, c] (tA X.K mg E t)) (hs : isStar a = false) (hs2 : [b, c].all (fun e => !isStar e) = true) : PI X tg (.Call (.Name "range" p) [a, b, c] [] pos) (tI X.K mg E (sIterC opRange3 t)) :=
  PI_imp (pi_range3 hg hm ha (star_cons _ _ hs) (star_any hs2)) fun σ H R ⟨μ, ρ, st, hs, hr, h⟩ =>
    ⟨μ, ρ, st, hs, hr, (PostG.bind (R := RepWs X.K) h (.start hr)).mono fun vs H1 ⟨μ1, fr1, ws, st1, a1, r1, h1⟩ => by
      unfold opRange3 at h1
      split at h1
      · next i j c =>
        obtain ⟨v, v', v'', _, _, _, rfl, r2, r3, r4⟩ := r1.three
        cases r2.int
        cases r3.int
        cases r4.int
        split at h1
        · next hj =>
          rw [Bool.and_eq_true, Bool.and_eq_true] at hj
          obtain ⟨hi1, hi2⟩ := inLong_iff hj.1.1
          obtain ⟨hj1, hj2⟩ := inLong_iff hj.1.2
          have hc : c = -1 := of_decide_eq_true hj.2
          subst hc
          exact ⟨i, j, -1, (i - j).toNat, rfl, RgC.neg hi1 hi2 hj1 hj2, PostG.fin (R := RepIt X.K) h1 (a1.trim (List.nil_sublist _)) ⟨rfl, .down⟩⟩
        · exact h1.elim
      · exact h1.elim⟩
end

/-! ### the body of a def -/
/-- what is handed back; the callee's own cells are let go -/
def leave (n : Nat) : Option (Res Out × Store) → Option (Res W × Store)
  | some (.ok (.nx _), st) => some (.ok (.d .none), st.take n)
  | some (.ok (.ret (.ref i)), st) => if i < n then some (.ok (.ref i), st.take n) else (match st[i]? with
    | some (.lst xs) => some (.ok (.new xs), st.take n)
    | none => none)
  | some (.ok (.ret w), st) => some (.ok w, st.take n)
  | some (.exc e, st) => some (.exc e, st.take n)
  | none => none
def fnSem (n slots : Nat) (body : Env → M Out) : List W → M W := fun ws st => if ws.length = n then leave st.length (body (ws.map some ++ List.replicate (slots - n) none) st) else none
section
variable {K : PySem.W.Frag} {mg : Str → Option Value}
theorem slots_start {μ : Mu} {H : Hp} {ws : List W} {vs : List V} {N : List Str} {n : Nat} (r : Reps K μ H ws vs) (hn : ws.length = n) : Slots K μ H (ws.map some ++ List.replicate (N.length - n) none) (L2.start N vs) := by
  have hl := r.length
  refine ⟨by unfold L2.start; simp [hl, ← hn], fun i w q => ?_⟩
  rw [List.getElem?_append] at q
  split at q
  · next hi =>
    rw [List.length_map] at hi
    rw [List.getElem?_map] at q
    cases e : ws[i]? with
    | none => rw [e] at q; cases q
    | some w' =>
      rw [e] at q
      cases q
      obtain ⟨v, h1, h2⟩ := r.get e
      refine ⟨v, ?_, h2⟩
      unfold L2.start
      rw [List.getElem?_append_left (by rw [List.length_map]; omega), List.getElem?_map, h1]
      rfl
  · next hi =>
    rw [List.getElem?_replicate] at q
    split at q <;> cases q
theorem take_sub {μ : Mu} {n : Nat} : ∀ a ∈ (Mu.mk (μ.locs.take n) μ.own).fp, a ∈ μ.fp := fun a ha => by
  rcases List.mem_append.mp ha with h | h
  · exact List.mem_append_left _ (List.mem_of_mem_take h)
  · exact List.mem_append_right _ h
/-- the callee's own cells are let go -/
theorem At.leave {μ₀ μ : Mu} {H₀ H : Hp} {fr : List Addr} {st : Store} (B : At μ₀ H₀ fr μ st H) : At μ₀ H₀ fr ⟨μ.locs.take μ₀.locs.length, μ.own⟩ (st.take μ₀.locs.length) H := by
  have hl := B.sr.len
  refine ⟨⟨B.ext.hx.trans (.sub take_sub), fun i a q => ?_, B.ext.own⟩, B.own, ⟨?_, ?_, fun i xs q => ?_, B.sr.own⟩⟩
  · have hi := (List.getElem?_eq_some_iff.mp q).1
    show (μ.locs.take μ₀.locs.length)[i]? = some a
    rw [List.getElem?_take, if_pos hi]
    exact B.ext.locs i a q
  · show (μ.locs.take μ₀.locs.length).length = (st.take μ₀.locs.length).length
    rw [List.length_take, List.length_take, hl]
  · exact ((List.take_sublist _ _).append (List.Sublist.refl _)).nodup B.sr.nd
  · rw [List.getElem?_take] at q
    split at q
    · next hi =>
      obtain ⟨a, vs, h1, h2, h3⟩ := B.sr.cell i xs q
      refine ⟨a, vs, ?_, h2, h3.ext (.sub take_sub)⟩
      show (μ.locs.take μ₀.locs.length)[i]? = some a
      rw [List.getElem?_take, if_pos hi]
      exact h1
    · cases q
theorem leave_of {E : XK} {Q : VK} {μ : Mu} {H : Hp} {st : Store} {out : Option (Res Out × Store)} (sr : SR μ st H) (h : PostG mg E (RepW K) Q (leave st.length out) μ H) :
    PostG mg E (RepO K) (QD { nx := fun _ H' => Q .non H', rt := Q }) out μ H := by
  have hn : μ.locs.length = st.length := sr.len
  rw [← hn] at h
  match out, h with
  | some (.exc e, st'), h =>
    intro μ' H' c d e' s' x
    have B : At μ H [] ⟨μ'.locs, μ'.own⟩ st' H' → True := fun _ => trivial
    have hl := s'.len
    refine h ⟨μ'.locs.take μ.locs.length, μ'.own⟩ H' c d ⟨e'.hx.trans (.sub take_sub), fun i a q => ?_, e'.own⟩ ⟨?_, ?_, fun i xs q => ?_, s'.own⟩ ?_
    · have hi := (List.getElem?_eq_some_iff.mp q).1
      show (μ'.locs.take μ.locs.length)[i]? = some a
      rw [List.getElem?_take, if_pos hi]
      exact e'.locs i a q
    · show (μ'.locs.take μ.locs.length).length = (st'.take μ.locs.length).length
      rw [List.length_take, List.length_take, hl]
    · exact ((List.take_sublist _ _).append (List.Sublist.refl _)).nodup s'.nd
    · rw [List.getElem?_take] at q
      split at q
      · next hi =>
        obtain ⟨a, vs, h1, h2, h3⟩ := s'.cell i xs q
        refine ⟨a, vs, ?_, h2, h3.ext (.sub take_sub)⟩
        show (μ'.locs.take μ.locs.length)[i]? = some a
        rw [List.getElem?_take, if_pos hi]
        exact h1
      · cases q
    · refine ⟨x.1, ?_⟩
      have x2 := x.2
      unfold PayAt at x2 ⊢
      split at x2
      · exact x2
      · obtain ⟨a, fs, h1, h2, h3⟩ := x2
        exact ⟨a, fs, h1, h2, fun f y hy => let ⟨v, k1, k2⟩ := h3 f y hy; ⟨v, k1, k2.ext (.sub take_sub)⟩⟩
  | some (.ok (.nx ρ), st'), h =>
    intro μ' fr y H' e' o' s' r
    have B := At.leave (μ₀ := μ) (H₀ := H) ⟨e', o', s'⟩
    cases y with
    | inl σ => exact PostG.non h B
    | inr v => exact r.elim
  | some (.ok (.ret w), st'), h =>
    intro μ' fr y H' e' o' s' r
    have B0 : At μ H fr μ' st' H' := ⟨e', o', s'⟩
    have B := B0.leave
    cases y with
    | inl σ => exact r.elim
    | inr v =>
      show Q v H'
      have r' : RepW K μ' fr H' w v := r
      cases w with
      | d x =>
        obtain ⟨rfl, r'⟩ := r'
        exact PostG.data h B (r'.ext (.sub take_sub))
      | scr ns => exact PostG.fin (R := RepW K) h B r'
      | new xs =>
        obtain ⟨a, vs, rfl, rfl, h1, h2⟩ := r'
        exact PostG.fin (R := RepW K) h B ⟨a, vs, rfl, rfl, h1, h2.ext (.sub take_sub)⟩
      | ref i =>
        obtain ⟨rfl, a, ha, rfl⟩ := r'
        unfold leave at h
        dsimp only at h
        by_cases hi : i < μ.locs.length
        · rw [if_pos hi] at h
          refine PostG.fin (R := RepW K) h B ⟨rfl, a, ?_, rfl⟩
          show (μ'.locs.take μ.locs.length)[i]? = some a
          rw [List.getElem?_take, if_pos hi]
          exact ha
        · rw [if_neg hi] at h
          cases q : st'[i]? with
          | none => rw [q] at h; exact h.elim
          | some c =>
            obtain ⟨xs⟩ := c
            rw [q] at h
            dsimp only at h
            obtain ⟨a', vs, k1, k2, k3⟩ := s'.cell i xs q
            rw [ha] at k1
            cases k1
            -- the cell is handed back: it is in flight from now on
            have hnd := s'.nd
            have hlt : i < μ'.locs.length := (List.getElem?_eq_some_iff.mp ha).1
            have hmem : a ∈ μ'.locs.drop μ.locs.length := by
              refine List.mem_of_getElem? (i := i - μ.locs.length) ?_
              rw [List.getElem?_drop, show μ.locs.length + (i - μ.locs.length) = i by omega]
              exact ha
            have hnot : a ∉ μ'.locs.take μ.locs.length := fun z => by
              have hl' : μ'.locs.Nodup := (List.nodup_append.mp hnd).1
              rw [← List.take_append_drop μ.locs.length μ'.locs, List.nodup_append] at hl'
              exact hl'.2.2 a z a hmem rfl
            have hno : a ∉ μ'.own := fun z => (List.nodup_append.mp hnd).2.2 a (List.mem_of_getElem? ha) a z rfl
            have hsub : ∀ b ∈ (Mu.mk (μ'.locs.take μ.locs.length) (a :: μ'.own)).fp, b ∈ μ'.fp := fun b hb => by
              rcases List.mem_append.mp hb with hb | hb
              · exact List.mem_append_left _ (List.mem_of_mem_take hb)
              · rcases List.mem_cons.mp hb with hb | hb
                · rw [hb]; exact List.mem_append_left _ (List.mem_of_getElem? ha)
                · exact List.mem_append_right _ hb
            have B2 : At μ H [a] ⟨μ'.locs.take μ.locs.length, a :: μ'.own⟩ (st'.take μ.locs.length) H' := by
              refine ⟨⟨e'.hx.trans (.sub hsub), B.ext.locs, fun b hb => ⟨List.mem_cons_of_mem _ (e'.own b hb).1, (e'.own b hb).2⟩⟩, by rw [o']; rfl, ⟨B.sr.len, ?_, fun j ys qj => ?_, fun b hb => ?_⟩⟩
              · have hb := B.sr.nd
                unfold Mu.fp at hb ⊢
                rw [List.nodup_append] at hb ⊢
                refine ⟨hb.1, List.nodup_cons.mpr ⟨hno, hb.2.1⟩, fun c hc d hd => ?_⟩
                rcases List.mem_cons.mp hd with rfl | hd
                · exact fun z => hnot (z ▸ hc)
                · exact hb.2.2 c hc d hd
              · rw [List.getElem?_take] at qj
                split at qj
                · next hj =>
                  obtain ⟨b, us, m1, m2, m3⟩ := s'.cell j ys qj
                  refine ⟨b, us, ?_, m2, m3.ext (.sub hsub)⟩
                  show (μ'.locs.take μ.locs.length)[j]? = some b
                  rw [List.getElem?_take, if_pos hj]
                  exact m1
                · cases qj
              · rcases List.mem_cons.mp hb with rfl | hb
                · exact ⟨vs, k2⟩
                · exact s'.own b hb
            exact PostG.fin (R := RepW K) h B2 ⟨a, vs, rfl, rfl, k2, k3.ext (.sub hsub)⟩
end
end Ev

namespace Ev
open PySem PySem.Spec PyProof.Rows L2 RZ

/-! ### zip -/
section
variable {K : PySem.W.Frag} {a b : Addr} {xs ys : List V}
theorem walk_zipT {n : Nat} (hn : n = min xs.length ys.length) : Walk (ItzT K a b) n (fun H => SqT K H a xs ∧ SqT K H b ys) (YPair (fun i => xs[i]?) (fun i => ys[i]?)) := by
  subst hn
  refine ⟨fun i _ hi q => ?_, fun _ q => ⟨xs, ys, q.1, q.2, by omega⟩, fun i H v H' _ q y => ?_⟩
  · have h1 : i < xs.length := by omega
    have h2 : i < ys.length := by omega
    exact ⟨xs, ys, xs[i], ys[i], q.1, q.2, by simp [h1], by simp [h2]⟩
  · obtain ⟨T, x, z, h1, h2, h3, h4, h5⟩ := y
    exact ⟨T, x, z, h1, h2, h3, h4 xs q.1, h5 ys q.2⟩
end
def zipItems : List PyData → List PyData → List W
  | x :: xs, y :: ys => .d (.tuple [x, y]) :: zipItems xs ys
  | _, _ => []
theorem zipItems_len : ∀ xs ys : List PyData, (zipItems xs ys).length = min xs.length ys.length
  | [], _ => by simp [zipItems]
  | _ :: _, [] => by simp [zipItems]
  | x :: xs, y :: ys => by simp [zipItems, zipItems_len xs ys]
theorem zipItems_get : ∀ {xs ys : List PyData} {i : Nat} {w : W}, (zipItems xs ys)[i]? = some w → ∃ x y, xs[i]? = some x ∧ ys[i]? = some y ∧ w = .d (.tuple [x, y])
  | [], _, _, _, h => by simp [zipItems] at h
  | _ :: _, [], _, _, h => by simp [zipItems] at h
  | x :: xs, y :: ys, 0, w, h => by
    simp [zipItems] at h
    exact ⟨x, y, rfl, rfl, h.symm⟩
  | x :: xs, y :: ys, i + 1, w, h => by
    simp only [zipItems, List.getElem?_cons_succ] at h
    obtain ⟨p, q, h1, h2, h3⟩ := zipItems_get h
    exact ⟨p, q, by simpa using h1, by simpa using h2, h3⟩
def asFrzL : W → Option (List PyData)
  | .d (.list xs) => some xs
  | .new xs => some xs
  | _ => none
def asTupW : W → Option (List PyData)
  | .d (.tuple xs) => some xs
  | _ => none
def opZip : List W → M Iter
  | [u, w] => match asTupW u, asTupW w with
    | some xs, some ys => mret ⟨zipItems xs ys, []⟩
    | _, _ => (match asFrzL u, asFrzL w with
      | some xs, some ys => mret ⟨zipItems xs ys, []⟩
      | _, _ => mfail)
  | _ => mfail
section
variable {K : PySem.W.Frag} {μ : Mu} {H : Hp} {a b : Addr} {xs ys : List PyData} {us vs : List V}
theorem pair_rep {st : Store} {μ' : Mu} {H' H2 : Hp} {T : Addr} {x y : V} {p q : PyData} (s : SR μ' st H') (hT : H' T = none) (h2 : H2 = upd H' T (.tup [x, y])) (rp : RepD H' μ'.fp p x) (rq : RepD H' μ'.fp q y) : Ext μ' H' μ' H2 ∧ SR μ' st H2 ∧ RepW K μ' [] H2 (.d (.tuple [p, q])) (.ref T) := by
  subst h2
  refine ⟨Ext.laid s hT, s.laid hT, rfl, .tuple upd_same (.cons (rp.ext (HX.laid hT)) (.cons (rq.ext (HX.laid hT)) .nil))⟩
theorem ItOk.zipT {L : List (Nat × List PyData)} (ha : H a = some (.tup us)) (hb : H b = some (.tup vs)) (ra : RepDs H μ.fp xs us) (rb : RepDs H μ.fp ys vs) : ItOk K μ H ⟨zipItems xs ys, L⟩ (ItzT K a b) := by
  refine ⟨fun H' => SqT K H' a us ∧ SqT K H' b vs, YPair (fun i => us[i]?) (fun i => vs[i]?), walk_zipT (by rw [zipItems_len, ra.length, rb.length]), fun μ' st' H' e s l => ⟨SqT.of (e.hx.tup _ _ ha), SqT.of (e.hx.tup _ _ hb)⟩, fun i w μ' st' H' x H2 hw e s l y => ?_⟩
  obtain ⟨T, u, v, rfl, hT, h2, hu, hv⟩ := y
  obtain ⟨p, q, hp, hq, rfl⟩ := zipItems_get hw
  obtain ⟨u', e1, r1⟩ := ra.get hp
  obtain ⟨v', e2, r2⟩ := rb.get hq
  have hu' : us[i]? = some u := hu
  have hv' : vs[i]? = some v := hv
  rw [e1] at hu'
  rw [e2] at hv'
  cases hu'
  cases hv'
  exact pair_rep s hT h2 (r1.ext e.hx) (r2.ext e.hx)
theorem ItOk.zipL {L : List (Nat × List PyData)} (ha : H a = some (.lst us)) (fa : a ∉ μ.fp) (hb : H b = some (.lst vs)) (fb : b ∉ μ.fp) (ra : RepDs H μ.fp xs us) (rb : RepDs H μ.fp ys vs) : ItOk K μ H ⟨zipItems xs ys, L⟩ (Itz K a b) := by
  refine ⟨fun H' => SqL K H' a us ∧ SqL K H' b vs, YPair (fun i => us[i]?) (fun i => vs[i]?), walk_zip (by rw [zipItems_len, ra.length, rb.length]), fun μ' st' H' e s l => ⟨SqL.of (e.hx.lst _ _ ha fa).1, SqL.of (e.hx.lst _ _ hb fb).1⟩, fun i w μ' st' H' x H2 hw e s l y => ?_⟩
  obtain ⟨T, u, v, rfl, hT, h2, hu, hv⟩ := y
  obtain ⟨p, q, hp, hq, rfl⟩ := zipItems_get hw
  obtain ⟨u', e1, r1⟩ := ra.get hp
  obtain ⟨v', e2, r2⟩ := rb.get hq
  have hu' : us[i]? = some u := hu
  have hv' : vs[i]? = some v := hv
  rw [e1] at hu'
  rw [e2] at hv'
  cases hu'
  cases hv'
  exact pair_rep s hT h2 (r1.ext e.hx) (r2.ext e.hx)
end
theorem asTupW_eq {w : W} {xs : List PyData} (h : asTupW w = some xs) : w = .d (.tuple xs) := by
  unfold asTupW at h
  split at h
  · cases h; rfl
  · cases h
theorem asFrzL_rep {K : PySem.W.Frag} {μ : Mu} {H : Hp} {w : W} {v : V} {xs : List PyData} (h : asFrzL w = some xs) (r : RepW K μ [] H (frz w) v) : ∃ a vs, v = .ref a ∧ H a = some (.lst vs) ∧ a ∉ μ.fp ∧ RepDs H μ.fp xs vs := by
  have e : frz w = .d (.list xs) := by
    unfold asFrzL at h
    split at h
    · cases h; rfl
    · cases h; rfl
    · cases h
  rw [e] at r
  obtain ⟨_, r⟩ := r
  cases r with
  | list h1 h2 h3 => exact ⟨_, _, rfl, h1, h2, h3⟩
section
variable {X : Cx} {mg : Str → Option Value} {E : XK} {p pos tpos : Pos} {elts : List Expr} {kk : Nat}
theorem i_zip {e e2 : Expr} {t : Env → M (List W)} (hg : Gl X "zip") (hm : X.mg "zip" = none) (ha : PA X [e, e2] (tA X.K mg E t)) (hs : [e, e2].all (fun e => !isStar e) = true) : PI X (.Tuple elts kk tpos) (.Call (.Name "zip" p) [e, e2] [] pos) (tI X.K mg E (sIterC opZip t)) := by
  rw [List.all_cons, Bool.and_eq_true] at hs
  refine PI_imp (pi_zipA hg hm ha (star_cons _ _ (by simpa using hs.1)) (star_any hs.2)) fun σ H R ⟨μ, ρ, st, hs, hr, h⟩ => ?_
  refine ⟨μ, ρ, st, hs, hr, (PostG.bind (R := RepWs X.K) h (.start hr)).mono fun vs H1 ⟨μ1, fr1, ws, st1, a1, r1, h1⟩ => ?_⟩
  unfold opZip at h1
  split at h1
  · next u w =>
    have a0 := a1.trim (List.nil_sublist _)
    have r0 := frz_reps (a1.sub (List.nil_sublist _)) a1.apart r1
    cases r0 with
    | @cons _ v1 _ _ ru r0 =>
      cases r0 with
      | @cons _ v2 _ _ rw' r0 =>
        cases r0
        cases e1 : asTupW u with
        | some xs =>
          rw [e1] at h1
          cases e2 : asTupW w with
          | some ys =>
            rw [e2] at h1
            rw [asTupW_eq e1] at ru
            rw [asTupW_eq e2] at rw'
            obtain ⟨a, us, rfl, ha, hra⟩ := RepW.tup ru
            obtain ⟨b, vs, rfl, hb, hrb⟩ := RepW.tup rw'
            exact ⟨a, b, us, vs, rfl, .inr ⟨SqT.of ha, SqT.of hb, PostG.fin (R := RepIt X.K) h1 a0 ⟨rfl, .zipT ha hb hra hrb⟩⟩⟩
          | none =>
            rw [e2] at h1
            rw [asTupW_eq e1] at h1
            exact h1.elim
        | none =>
          rw [e1] at h1
          cases e3 : asFrzL u with
          | none => rw [e3] at h1; exact h1.elim
          | some xs =>
            cases e4 : asFrzL w with
            | none => rw [e3, e4] at h1; exact h1.elim
            | some ys =>
              rw [e3, e4] at h1
              obtain ⟨a, us, rfl, ha, fa, hra⟩ := asFrzL_rep e3 ru
              obtain ⟨b, vs, rfl, hb, fb, hrb⟩ := asFrzL_rep e4 rw'
              exact ⟨a, b, us, vs, rfl, .inl ⟨SqL.of ha, SqL.of hb, PostG.fin (R := RepIt X.K) h1 a0 ⟨rfl, .zipL ha fa hb fb hra hrb⟩⟩⟩
  · exact h1.elim
end

/-! ### enumerate -/
def Itet (K : PySem.W.Frag) (a : Addr) : It :=
  ⟨fun i H => ∃ (xs : List V) (x : V), SqT K H a xs ∧ xs[i]? = some x, fun i H v H' => ∃ T x, v = .ref T ∧ H T = none ∧ H' = upd H T (.tup [.int (i : Nat), x]) ∧ ∀ xs, SqT K H a xs → xs[i]? = some x, fun i H => ∃ xs : List V, SqT K H a xs ∧ xs.length ≤ i⟩
theorem meets_enumerate_newT (l : Addr) (items : Array Value) (n : Nat) (dct : Option Addr) (sl : Array (Option Value)) :
    Meets (Builtin.«enumerate.__new__» ⟨[.type "enumerate", .ref l], []⟩) (fun _ R s => s.heap.get? l = some { cls := .type "tuple", dict := dct, data := .seq items n, slots := sl } ∧
      R (.ok (.ret (.ref (s.heap.push { cls := .type "tuple_iterator", data := .fields #[.ref l, .int 0 0] }).objs.size)))
        { s with heap := (s.heap.push { cls := .type "tuple_iterator", data := .fields #[.ref l, .int 0 0] }).push { cls := .type "enumerate", data := .fields #[.none, .bool false, .ref s.heap.objs.size, rawInt 0, .none, .none] } }) :=
  .of_wp fun prog w A R s h => by
    obtain ⟨hp, g, d, tk, os⟩ := s; obtain ⟨hl, h⟩ := h
    have hsub := sub_enumerate
    have hL : Heap.IsTuple (Shared.heap ⟨hp, g, d, tk, os⟩) l items := ⟨_, hl, rfl, n, rfl⟩
    wp_walk using AutoSeq1.wpAny_loadPart' hl
    refine wpAny_stack_any fun st => wpAny_pure ?_
    split
    · rename_i c _ _ _ _ _
      cases (c == Value.type "enumerate")
      · wp_walk using AutoSeq1.wpAny_loadPart' hl, wpAny_pyIter_tuple hL
        exact ⟨_, rfl, h⟩
      · wp_walk using AutoSeq1.wpAny_loadPart' hl, wpAny_pyIter_tuple hL
        exact ⟨_, rfl, h⟩
    · wp_walk using AutoSeq1.wpAny_loadPart' hl, wpAny_pyIter_tuple hL
      exact ⟨_, rfl, h⟩
theorem call_enumerate_tuple {prog : Program} {w : World} {A : Around} {E : Value → Shared → Prop} {s : Shared} {l : Addr} {items : Array Value} {Q : Value → Shared → Prop} (hL : s.heap.IsTuple l items)
    (h : ∀ h', IsEnum h' (s.heap.objs.size + 1) s.heap.objs.size 0 .none → h'.IsTupleIter s.heap.objs.size l 0 → h'.objs.size = s.heap.objs.size + 2 →
      (∀ b o, s.heap.get? b = some o → h'.get? b = some o) → Q (.ref (s.heap.objs.size + 1)) { s with heap := h' }) :
    wpAny (model prog w) A (call (.type "enumerate") [.ref l]) Q E s := by
  obtain ⟨⟨c, dct, dt, sl⟩, hl, hc, n, hd⟩ := hL
  replace hc : c = .type "tuple" := hc
  replace hd : dt = .seq items n := hd
  subst hc hd
  refine callType_new F.called_enumerate (by decide) (F.typeCall_enumerate_1 _) (F.newCall_enumerate_1 _) (fun obj => F.args_object_init_2 obj _) F.entry_enumerate_new
    (meets_enumerate_newT l items n dct sl) ⟨hl, ?_⟩
  have hz : (s.heap.push { cls := .type "tuple_iterator", data := .fields #[.ref l, .int 0 0] }).objs.size = s.heap.objs.size + 1 := Heap.size_push ..
  show _ ∧ _
  rw [hz]
  have he : IsEnum ((s.heap.push { cls := .type "tuple_iterator", data := .fields #[.ref l, .int 0 0] }).push
      { cls := .type "enumerate", data := .fields #[.none, .bool false, .ref s.heap.objs.size, rawInt 0, .none, .none] }) (s.heap.objs.size + 1) s.heap.objs.size 0 .none := by
    have := Heap.get?_push_size (s.heap.push { cls := .type "tuple_iterator", data := .fields #[.ref l, .int 0 0] })
      (o := { cls := .type "enumerate", data := .fields #[.none, .bool false, .ref s.heap.objs.size, rawInt 0, .none, .none] }) rfl
    rw [hz] at this; exact this
  refine ⟨⟨_, he, rfl⟩, h _ he ⟨_, Heap.get?_push_of_some _ (Heap.get?_push_size _ rfl), rfl, rfl⟩ (by rw [Heap.size_push, hz]) fun b o x => Heap.get?_push_of_some _ (Heap.get?_push_of_some _ x)⟩
theorem wpAny_pyNext_enum_endT {prog : Program} {w : World} {A : Around} {E : Value → Shared → Prop} {s : Shared} {e it l : Addr} {i : Nat} {items : Array Value} {old : Value} {Q : Option Value → Shared → Prop} (hh : A.handled = none)
    (he : IsEnum s.heap e it i old) (hit : s.heap.IsTupleIter it l i) (hl : s.heap.IsTuple l items) (hx : items[i]? = none)
    (hQ : ∀ h', Heap.ExtBut it s.heap h' → Q none { s with heap := h' }) : wpAny (model prog w) A (pyNext (.ref e)) Q E s := by
  have hT : s.TypeIs (.ref e) "enumerate" := ⟨_, he, rfl⟩
  unfold pyNext
  refine wpAny_bind (wpAny_attempt (wpAny_callSpecial?_slot (name := Str.ofString "__next__") hT F.slot_enumerate_next
    (wpAny_call_entry F.slot_enumerate_next hT F.entry_enumerate_next ?_ (F.args_enumerate_next_1 _))))
  show wpAny _ _ (field (.ref e) 2 >>= _) _ _ _
  refine wpAny_bind (wpAny_field he rfl (x := .ref it) rfl ?_)
  refine wpAny_bind (wpAny_nextOf_tuple_end hh hit hl hx fun h' x he' hx' => ?_)
  obtain ⟨o, ho, hc⟩ := hx'
  refine wpAny_bind (wpAny_isInstance (T := "StopIteration") (b := true) ⟨o, ho, hc⟩ isSubtype_stop ?_)
  exact wpAny_pure (hQ _ he')
theorem turn_enumT {P : Program} {w : World} {K : PySem.W.Frag} {elts : List Expr} {kk : Nat} {tpos : Pos} (a e it : Addr) (hai : a ≠ it) (hae : a ≠ e) :
    Turn P w K (.Tuple elts kk tpos) (Itet K a) [e, it] e (fun i h => (∃ old, IsEnum h e it ((i : Nat) : Int) old) ∧ h.IsTupleIter it a i ∧ e ≠ it) where
  mem := by simp
  obj := fun i h st b hb => by
    obtain ⟨⟨old, he⟩, ⟨o, ho, hc, hd⟩, _⟩ := st
    have e' : b = e ∨ b = it := by simpa using hb
    rcases e' with z | z
    · rw [z]; exact ⟨_, he, fun v q => nomatch q⟩
    · rw [z]; exact ⟨o, ho, fun v q => by rw [hd] at q; cases q⟩
  keep := fun i h h' st k => let ⟨⟨old, he⟩, hi, hne⟩ := st; ⟨⟨old, k e (by simp) _ he⟩, hi.at fun o q => k it (by simp) o q, hne⟩
  item := by
    intro X hP hw hK hc i pins s σ H E I hf st hg
    subst hP hw hK
    obtain ⟨⟨old, he⟩, hit, hne⟩ := st
    obtain ⟨xs, x, hq, hx⟩ := hg
    obtain ⟨its, rv, p, hz⟩ := I.tuple hq
    obtain ⟨u, hu, ru⟩ := rv.get hx
    have hel : e < s.heap.objs.size := Heap.lt_size he
    have hil : it < s.heap.objs.size := by obtain ⟨_, q, _⟩ := hit; exact Heap.lt_size q
    have hlt : i < its.toArray.size := by
      rw [List.size_toArray]
      exact (List.getElem?_eq_some_iff.mp hu).1
    refine wpAny_pyNext_enum_itemD (Draws.tuple (A := X.A.in1) (I.ok.hd hc) it a hai its.toArray) he ⟨hit, p⟩ hlt hne (by simp [hne, Ne.symm hae]) fun x' h' tk hx' ho hst hT hsz hk => ?_
    have hxu : x' = u := by
      have : its.toArray[i]? = some x' := hx'
      rw [List.getElem?_toArray, hu] at this
      cases this
      rfl
    subst hxu
    refine ⟨_, rfl, wpAny_letOwnedTupleGo_enum (s := { s with heap := h', toks := tk + 1 }) ho fun h'' he' sb => ?_⟩
    have hT2 : h''.get? s.heap.objs.size = some { cls := .type "tuple", data := .seq #[.int i tk, x'] } := (sb.2 _ (Nat.ne_of_gt hel)).trans hT
    have new : ObjOk X.prog X.w (upd H s.heap.objs.size (.tup [.int (i : Nat), x])) h'' s.heap.objs.size (.tup [.int (i : Nat), x]) :=
      ⟨by show 2 ≤ sizeLine; decide, [.int i tk, x'], .cons ⟨_, rfl⟩ (.cons ru .nil), ⟨_, hT2, rfl, _, rfl⟩⟩
    have I1 : L2.Inv X pins σ (upd H s.heap.objs.size (.tup [.int (i : Nat), x])) { s with heap := h'', toks := tk + 1 } :=
      I.turnedNew (ch := [e, it]) (fun b ob hb q => (sb.2 b (fun z => hb (by simp [z]))).trans (hk b ob (fun z => hb (by simp [z])) (fun z => hb (by simp [z])) q)) hf (Nat.le_refl _) new
    refine ⟨.ref s.heap.objs.size, _, I1, rfl, ⟨_, x, rfl, I.hok.fresh (Nat.le_refl _), rfl, fun ys hy => by rw [I.tuple_inj hy hq]; exact hx⟩, ⟨⟨x', ?_⟩, hst.1.at fun o q => (sb.2 it (Ne.symm hne)).trans q, hne⟩, fun b hb => ?_⟩
    · have e1 : ((i + 1 : Nat) : Int) = (i : Int) + 1 := by omega
      rw [e1]; exact he'
    · have hb' : b < s.heap.objs.size := by
        have e' : b = e ∨ b = it := by simpa using hb
        rcases e' with z | z
        · rw [z]; exact hel
        · rw [z]; exact hil
      rw [upd_ne (Nat.ne_of_lt hb')]
      exact (hf b hb).1
  done := by
    intro X hP hw hK hc i pins s σ H E I hf st hg
    subst hP hw hK
    obtain ⟨⟨old, he⟩, hit, hne⟩ := st
    obtain ⟨xs, hq, hx⟩ := hg
    obtain ⟨its, rv, p, hz⟩ := I.tuple hq
    obtain ⟨f0, f1, f2, f3, f4, f5⟩ := hf it (by simp)
    have hl := rv.length
    exact wpAny_pyNext_enum_endT (I.ok.hd hc) he hit p (by simp; omega) fun h' eb => ⟨rfl, I.turned (t' := s.toks) (fun b o hb q => eb b o hb q) f0 f1 f3 f4 f5⟩
  self := fun A i s Q E st h => let ⟨⟨_, he⟩, _⟩ := st; wpAny_pyIter_enum he h
def iEnumA (K : PySem.W.Frag) (ta : TA) : TI := fun σ H R => ta σ H fun vs H1 => ∃ a xs, vs = [.ref a] ∧ ((SqL K H1 a xs ∧ R (Ite K a) H1) ∨ (SqT K H1 a xs ∧ R (Itet K a) H1))
theorem pi_enumA {X : Cx} {e : Expr} {ta : TA} {p pos tpos : Pos} {elts : List Expr} {kk : Nat} (hg : Gl X "enumerate") (hm : X.mg "enumerate" = none) (ha : PA X [e] ta) (hs : starEach [e] X.env = [(false, eval e X.env)]) :
    PI X (.Tuple elts kk tpos) (.Call (.Name "enumerate" p) [e] [] pos) (iEnumA X.K ta) := by
  refine ⟨fun pins s σ H R I h => ?_⟩
  refine Call_ (ld_blt I hg hm boot_enumerate (PyProof.Rows.callWith_type1 (thn (ha.run pos pins s σ H _ I h) fun us s1 ⟨vs, H1, I1, r1, q1⟩ => ?_) hs rfl))
  obtain ⟨a, xs, ex, hq⟩ := q1
  subst ex
  cases r1 with
  | cons r rr =>
    cases rr
    cases r
    have fpo : ∀ b ∈ [s1.heap.objs.size + 1, s1.heap.objs.size], FpOk X pins H1 b := fun b hb => by
      have e' : b = s1.heap.objs.size + 1 ∨ b = s1.heap.objs.size := by simpa using hb
      have hle : s1.heap.objs.size ≤ b := by
        rcases e' with z | z
        · rw [z]; exact Nat.le_add_right _ _
        · rw [z]; exact Nat.le_refl _
      exact I1.fpOk hle (I1.hok.fresh hle)
    rcases hq with ⟨hq, q⟩ | ⟨hq, q⟩
    · obtain ⟨its, rv, p', hz⟩ := I1.list hq
      refine call_enumerate_list p'.isList fun h' he hit hsz hk => wpAny_pyIter_enum he ?_
      have I2 : L2.Inv X pins σ H1 { s1 with heap := h' } := I1.kept (t' := s1.toks) hk
      exact ⟨s1.heap.objs.size + 1, [s1.heap.objs.size + 1, s1.heap.objs.size], _, _, H1, rfl, I2, turn_enum a (s1.heap.objs.size + 1) s1.heap.objs.size, ⟨⟨.none, he⟩, hit, Nat.succ_ne_self _⟩, fpo, q⟩
    · obtain ⟨its, rv, p', hz⟩ := I1.tuple hq
      have hal : a < s1.heap.objs.size := by obtain ⟨_, e, _⟩ := p'; exact Heap.lt_size e
      refine call_enumerate_tuple p' fun h' he hit hsz hk => wpAny_pyIter_enum he ?_
      have I2 : L2.Inv X pins σ H1 { s1 with heap := h' } := I1.kept (t' := s1.toks) hk
      exact ⟨s1.heap.objs.size + 1, [s1.heap.objs.size + 1, s1.heap.objs.size], _, _, H1, rfl, I2, turn_enumT a (s1.heap.objs.size + 1) s1.heap.objs.size (Nat.ne_of_lt hal) (Nat.ne_of_lt (Nat.lt_succ_of_lt hal)), ⟨⟨.none, he⟩, hit, Nat.succ_ne_self _⟩, fpo, q⟩
def enumItems : Nat → List PyData → List W
  | _, [] => []
  | k, x :: xs => .d (.tuple [.int (k : Nat), x]) :: enumItems (k + 1) xs
theorem enumItems_len : ∀ (k : Nat) (xs : List PyData), (enumItems k xs).length = xs.length
  | _, [] => rfl
  | k, x :: xs => by simp [enumItems, enumItems_len (k + 1) xs]
theorem enumItems_get : ∀ {k : Nat} {xs : List PyData} {i : Nat} {w : W}, (enumItems k xs)[i]? = some w → ∃ x, xs[i]? = some x ∧ w = .d (.tuple [.int ((k + i : Nat) : Int), x])
  | _, [], _, _, h => by simp [enumItems] at h
  | k, x :: xs, 0, w, h => by
    simp [enumItems] at h
    exact ⟨x, rfl, h.symm⟩
  | k, x :: xs, i + 1, w, h => by
    simp only [enumItems, List.getElem?_cons_succ] at h
    obtain ⟨y, h1, h2⟩ := enumItems_get h
    exact ⟨y, by simpa using h1, by rw [h2, show k + 1 + i = k + (i + 1) by omega]⟩
def opEnum : List W → M Iter
  | [.ref i] => fun st => match st[i]? with
    | some (.lst xs) => some (.ok ⟨enumItems 0 xs, [(i, xs)]⟩, st)
    | none => none
  | [w] => match asTupW w with
    | some xs => mret ⟨enumItems 0 xs, []⟩
    | none => (match asFrzL w with
      | some xs => mret ⟨enumItems 0 xs, []⟩
      | none => mfail)
  | _ => mfail
theorem walk_enumNow {K : PySem.W.Frag} {a : Addr} {n : Nat} : Walk (Ite K a) n (fun H => ∃ vs, SqL K H a vs ∧ vs.length = n) (fun i H v H' => ∃ T x, v = .ref T ∧ H T = none ∧ H' = upd H T (.tup [.int (i : Nat), x]) ∧ ∀ xs, SqL K H a xs → xs[i]? = some x) :=
  ⟨fun i H hi ⟨vs, h1, h2⟩ => ⟨vs, vs[i], h1, List.getElem?_eq_getElem (by omega)⟩, fun H ⟨vs, h1, h2⟩ => ⟨vs, h1, by omega⟩, fun i H x H' hi _ y => y⟩
theorem ItOk.enumL {K : PySem.W.Frag} {μ : Mu} {H : Hp} {L : List (Nat × List PyData)} {a : Addr} {xs : List PyData} (h : Fixed K μ H L a xs) : ItOk K μ H ⟨enumItems 0 xs, L⟩ (Ite K a) := by
  refine ⟨_, _, walk_enumNow, fun μ' st' H' e s l => ?_, fun i w μ' st' H' x H2 hw e s l y => ?_⟩
  · obtain ⟨vs, h1, h2⟩ := h μ' st' H' e s l
    exact ⟨vs, h1, by rw [← h2.length, enumItems_len]⟩
  · obtain ⟨T, u, rfl, hT, h2, hy⟩ := y
    obtain ⟨d, hd, rfl⟩ := enumItems_get hw
    obtain ⟨vs, h1, h3⟩ := h μ' st' H' e s l
    obtain ⟨v, h4, h5⟩ := h3.get hd
    have e3 := hy vs h1
    rw [h4] at e3
    cases e3
    rw [Nat.zero_add]
    exact pair_rep s hT h2 (.int _) h5
theorem walk_enumT {K : PySem.W.Frag} {a : Addr} {xs : List V} : Walk (Itet K a) xs.length (fun H => SqT K H a xs) (YPair (fun i => some (.int (i : Nat))) (fun i => xs[i]?)) := by
  refine ⟨fun i _ hi q => ⟨xs, xs[i], q, by simp [hi]⟩, fun _ q => ⟨xs, q, Nat.le_refl _⟩, fun i H v H' _ q y => ?_⟩
  obtain ⟨T, x, h1, h2, h3, h4⟩ := y
  exact ⟨T, .int (i : Nat), x, h1, h2, h3, rfl, h4 xs q⟩
theorem ItOk.enumT {K : PySem.W.Frag} {μ : Mu} {H : Hp} {L : List (Nat × List PyData)} {a : Addr} {xs : List PyData} {vs : List V} (ha : H a = some (.tup vs)) (hr : RepDs H μ.fp xs vs) : ItOk K μ H ⟨enumItems 0 xs, L⟩ (Itet K a) := by
  refine ⟨fun H' => SqT K H' a vs, YPair (fun i => some (.int (i : Nat))) (fun i => vs[i]?), ?_, fun μ' st' H' e s l => SqT.of (e.hx.tup _ _ ha), fun i w μ' st' H' x H2 hw e s l y => ?_⟩
  · show Walk (Itet K a) (enumItems 0 xs).length _ _
    rw [enumItems_len, hr.length]
    exact walk_enumT
  · obtain ⟨T, u, v, rfl, hT, h2, hu, hv⟩ := y
    obtain ⟨d, hd, rfl⟩ := enumItems_get hw
    obtain ⟨v', e2, r2⟩ := hr.get hd
    have hv' : vs[i]? = some v := hv
    rw [e2] at hv'
    cases hv'
    have hu' : some (V.int (i : Nat)) = some u := hu
    cases hu'
    rw [Nat.zero_add]
    exact pair_rep s hT h2 (.int _) (r2.ext e.hx)
section
variable {X : Cx} {mg : Str → Option Value} {E : XK} {p pos tpos : Pos} {elts : List Expr} {kk : Nat}
theorem i_enum {e : Expr} {t : Env → M (List W)} (hg : Gl X "enumerate") (hm : X.mg "enumerate" = none) (ha : PA X [e] (tA X.K mg E t)) (hs : isStar e = false) : PI X (.Tuple elts kk tpos) (.Call (.Name "enumerate" p) [e] [] pos) (tI X.K mg E (sIterC opEnum t)) := by
  refine PI_imp (pi_enumA hg hm ha (star_cons _ _ hs)) fun σ H R ⟨μ, ρ, st, hs, hr, h⟩ => ?_
  refine ⟨μ, ρ, st, hs, hr, (PostG.bind (R := RepWs X.K) h (.start hr)).mono fun vs H1 ⟨μ1, fr1, ws, st1, a1, r1, h1⟩ => ?_⟩
  unfold opEnum at h1
  split at h1
  · next i =>
    obtain ⟨v, rfl, r2⟩ := r1.one
    obtain ⟨rfl, a, ha, rfl⟩ := r2
    cases q : st1[i]? with
    | none => rw [q] at h1; exact h1.elim
    | some cc =>
      obtain ⟨xs⟩ := cc
      rw [q] at h1
      obtain ⟨a', us, k1, k2, k3⟩ := a1.sr.cell i xs q
      rw [ha] at k1
      cases k1
      exact ⟨a, us, rfl, .inl ⟨SqL.of k2, PostG.fin (R := RepIt X.K) h1 a1 ⟨rfl, .enumL (fixed_ref (i := i) ha List.mem_cons_self)⟩⟩⟩
  · next w _ =>
    obtain ⟨v, rfl, r2⟩ := r1.one
    have a0 := a1.trim (List.nil_sublist _)
    have r0 := a1.frz r2
    cases e1 : asTupW w with
    | some xs =>
      rw [e1] at h1
      rw [asTupW_eq e1] at r0
      obtain ⟨a, us, rfl, ha, hra⟩ := RepW.tup r0
      exact ⟨a, us, rfl, .inr ⟨SqT.of ha, PostG.fin (R := RepIt X.K) h1 a0 ⟨rfl, .enumT ha hra⟩⟩⟩
    | none =>
      rw [e1] at h1
      dsimp only at h1
      cases e2 : asFrzL w with
      | none => rw [e2] at h1; exact h1.elim
      | some xs =>
        rw [e2] at h1
        obtain ⟨a, us, rfl, ha, fa, hra⟩ := asFrzL_rep e2 r0
        exact ⟨a, us, rfl, .inl ⟨SqL.of ha, PostG.fin (R := RepIt X.K) h1 a0 ⟨rfl, .enumL (fixed_lst ha fa hra)⟩⟩⟩
  · exact h1.elim
end

/-! ### in -/
def flatD : PyData → Bool
  | .none => true
  | .bool _ => true
  | .int _ => true
  | .str _ => true
  | _ => false
theorem flat_rep {H : Hp} {F : List Addr} {d : PyData} {v : V} (r : RepD H F d v) (h : flatD d = true) : flatV v = true := by cases r <;> first | rfl | exact nomatch h
theorem eqV_rep {H : Hp} {F F' : List Addr} {d e : PyData} {v u : V} (r : RepD H F d v) (r' : RepD H F' e u) (h : flatD d = true) (h' : flatD e = true) : eqV v u = PyData.eqv d e := by
  cases r <;> cases r' <;> first
    | rfl
    | exact nomatch h
    | exact nomatch h'
    | (simp [eqV, PyData.eqv])
def inD (x : PyData) (xs : List PyData) : Bool := xs.any fun z => PyData.eqv z x
theorem inV_rep {H : Hp} {F : List Addr} {d : PyData} {v : V} (r : RepD H F d v) (h : flatD d = true) : ∀ {ds : List PyData} {vs : List V}, RepDs H F ds vs → ds.all flatD = true → vs.all flatV = true ∧ inV v vs = inD d ds
  | _, _, .nil, _ => ⟨rfl, rfl⟩
  | _, _, .cons a r2, hh => by
    rw [List.all_cons, Bool.and_eq_true] at hh
    obtain ⟨h1, h2⟩ := inV_rep r h r2 hh.2
    refine ⟨by rw [List.all_cons, flat_rep a hh.1, h1]; rfl, ?_⟩
    unfold inV inD at h2 ⊢
    rw [List.any_cons, List.any_cons, h2, eqV_rep a r hh.1 h]
/-- x in a list or a tuple: of flat things; of data at any depth in a list -/
def opInB (neg : Bool) (x y : W) : M W := fun st => match asData x st, asSeq y st with
  | some d, some xs => if (flatD d && xs.all flatD) = true then some (.ok (.d (.bool (if neg then !inD d xs else inD d xs))), st)
    else (match asList y st with
      | some ys => if (SeqAt.shaped d && SeqAt.shaped (.list ys)) = true then some (.ok (.d (.bool (if neg then !inD d ys else inD d ys))), st) else none
      | none => none)
  | _, _ => none
def opIn : W → W → M W := opInB false
def opNotIn : W → W → M W := opInB true
section
variable {X : Cx} {mg : Str → Option Value} {E : XK}
theorem in_flat {μ : Mu} {fr : List Addr} {H : Hp} {st : Store} {w : W} {v : V} {d : PyData} (e : asData w st = some d) (hf : flatD d = true) (r : RepW X.K μ fr H w v) : RepD H μ.fp d v := by
  cases w with
  | d x => cases e; exact r.2
  | new xs => cases e; simp [flatD] at hf
  | scr ns => cases e
  | ref i =>
    simp only [asData] at e
    cases q : st[i]? with
    | none => rw [q] at e; cases e
    | some cc =>
      obtain ⟨xs⟩ := cc
      rw [q] at e
      cases e
      simp [flatD] at hf
theorem o_in (hu : X.A.units + 65 < cLine) : OpR X (compareOp .In) (rOf X.K mg E opIn) := by
  intro pins s σ H x y v u Q I rx ry ⟨μ₀, H₀, μ, fr, fr', w1, w2, st, B, r1, r2, h⟩
  unfold opIn opInB at h
  split at h
  · next d xs e1 e2 =>
    split at h
    · next hf =>
      rw [Bool.and_eq_true] at hf
      obtain ⟨a, vs, rfl, hq, hr⟩ := asSeq_sq e2 B.sr r2
      have rd := in_flat e1 hf.1 r1
      obtain ⟨h1, h2⟩ := inV_rep rd hf.1 hr hf.2
      refine op_in_seq pins s σ H _ _ v u Q I rx ry ⟨a, vs, rfl, hq, flat_rep rd hf.1, h1, ?_⟩
      rw [h2]
      exact PostG.bool h B
    · split at h
      · next ys e3 =>
        split at h
        · next hs =>
          rw [Bool.and_eq_true] at hs
          obtain ⟨a, vs, rfl, hH, hr⟩ := asList_sq e3 B.sr r2
          exact op_inD hu pins s σ H _ _ v u Q I rx ry ⟨d, ys, asData_dp e1 B.sr r1, .lst (SqL.of hH) hr.dp, hs.1, hs.2, PostG.bool h B⟩
        · exact h.elim
      · exact h.elim
  · exact h.elim
theorem o_notIn (hu : X.A.units + 65 < cLine) : OpR X (compareOp .NotIn) (rOf X.K mg E opNotIn) := by
  intro pins s σ H x y v u Q I rx ry ⟨μ₀, H₀, μ, fr, fr', w1, w2, st, B, r1, r2, h⟩
  unfold opNotIn opInB at h
  split at h
  · next d xs e1 e2 =>
    split at h
    · next hf =>
      rw [Bool.and_eq_true] at hf
      obtain ⟨a, vs, rfl, hq, hr⟩ := asSeq_sq e2 B.sr r2
      have rd := in_flat e1 hf.1 r1
      obtain ⟨h1, h2⟩ := inV_rep rd hf.1 hr hf.2
      refine op_notIn_seq pins s σ H _ _ v u Q I rx ry ⟨a, vs, rfl, hq, flat_rep rd hf.1, h1, ?_⟩
      rw [h2]
      exact PostG.bool h B
    · split at h
      · next ys e3 =>
        split at h
        · next hs =>
          rw [Bool.and_eq_true] at hs
          obtain ⟨a, vs, rfl, hH, hr⟩ := asList_sq e3 B.sr r2
          exact op_notInD hu pins s σ H _ _ v u Q I rx ry ⟨d, ys, asData_dp e1 B.sr r1, .lst (SqL.of hH) hr.dp, hs.1, hs.2, PostG.bool h B⟩
        · exact h.elim
      · exact h.elim
  · exact h.elim
end
end Ev

namespace Ev
open PySem PySem.Spec PyProof.Rows L2

/-! ### sorted, of ints -/
def insI (x : Int) : List Int → List Int
  | [] => [x]
  | y :: ys => if x ≤ y then x :: y :: ys else y :: insI x ys
def isort : List Int → List Int
  | [] => []
  | x :: xs => insI x (isort xs)
theorem insI_perm (x : Int) : ∀ ys, (insI x ys).Perm (x :: ys)
  | [] => .refl _
  | y :: ys => by
    unfold insI
    split
    · exact .refl _
    · exact ((insI_perm x ys).cons y).trans (.swap ..)
theorem isort_perm : ∀ xs, (isort xs).Perm xs
  | [] => .refl _
  | x :: xs => (insI_perm x _).trans ((isort_perm xs).cons x)
theorem insI_sorted (x : Int) : ∀ ys : List Int, ys.Pairwise (· ≤ ·) → (insI x ys).Pairwise (· ≤ ·)
  | [], _ => by simp [insI]
  | y :: ys, h => by
    unfold insI
    rw [List.pairwise_cons] at h
    split
    · next hx =>
      rw [List.pairwise_cons, List.pairwise_cons]
      refine ⟨fun z hz => ?_, h.1, h.2⟩
      rcases List.mem_cons.mp hz with rfl | hz
      · exact hx
      · exact Int.le_trans hx (h.1 z hz)
    · next hx =>
      rw [List.pairwise_cons]
      refine ⟨fun z hz => ?_, insI_sorted x ys h.2⟩
      rcases List.mem_cons.mp ((insI_perm x ys).mem_iff.mp hz) with rfl | hz
      · omega
      · exact h.1 z hz
theorem isort_sorted : ∀ xs : List Int, (isort xs).Pairwise (· ≤ ·)
  | [] => .nil
  | x :: xs => insI_sorted x _ (isort_sorted xs)
theorem isort_unique {ns ms : List Int} (h : ms.Perm ns) (hs : ms.Pairwise (· ≤ ·)) : ms = isort ns :=
  List.Perm.eq_of_pairwise (le := fun a b => a ≤ b) (fun a b _ _ h1 h2 => Int.le_antisymm h1 h2) hs (isort_sorted ns) (h.trans (isort_perm ns).symm)
/-! tuples of small numbers, of one length -/
abbrev tcode (t : List Int) : Int := TS.code 1000 t
def insT (x : List Int) : List (List Int) → List (List Int)
  | [] => [x]
  | y :: ys => if tcode x ≤ tcode y then x :: y :: ys else y :: insT x ys
def tsort : List (List Int) → List (List Int)
  | [] => []
  | x :: xs => insT x (tsort xs)
theorem insT_perm (x : List Int) : ∀ ys, (insT x ys).Perm (x :: ys)
  | [] => .refl _
  | y :: ys => by
    unfold insT
    split
    · exact .refl _
    · exact ((insT_perm x ys).cons y).trans (.swap ..)
theorem tsort_perm : ∀ xs, (tsort xs).Perm xs
  | [] => .refl _
  | x :: xs => (insT_perm x _).trans ((tsort_perm xs).cons x)
theorem insT_sorted (x : List Int) : ∀ ys : List (List Int), ys.Pairwise (fun a b => tcode a ≤ tcode b) → (insT x ys).Pairwise (fun a b => tcode a ≤ tcode b)
  | [], _ => by simp [insT]
  | y :: ys, h => by
    unfold insT
    rw [List.pairwise_cons] at h
    split
    · next hx =>
      rw [List.pairwise_cons, List.pairwise_cons]
      refine ⟨fun z hz => ?_, h.1, h.2⟩
      rcases List.mem_cons.mp hz with rfl | hz
      · exact hx
      · exact Int.le_trans hx (h.1 z hz)
    · next hx =>
      rw [List.pairwise_cons]
      refine ⟨fun z hz => ?_, insT_sorted x ys h.2⟩
      rcases List.mem_cons.mp ((insT_perm x ys).mem_iff.mp hz) with rfl | hz
      · omega
      · exact h.1 z hz
theorem tsort_sorted : ∀ xs : List (List Int), (tsort xs).Pairwise (fun a b => tcode a ≤ tcode b)
  | [] => .nil
  | x :: xs => insT_sorted x _ (tsort_sorted xs)
theorem tcode_inj : ∀ {a b : List Int}, a.length = b.length → TS.Bd 1000 a → TS.Bd 1000 b → tcode a = tcode b → a = b
  | [], [], _, _, _, _ => rfl
  | [], _ :: _, h, _, _, _ => by simp at h
  | _ :: _, [], h, _, _, _ => by simp at h
  | x :: a, y :: b, h, ha, hb, e => by
    have hl : a.length = b.length := by simpa using h
    have e : TS.code 1000 (x :: a) = TS.code 1000 (y :: b) := e
    rcases Int.lt_trichotomy x y with q | q | q
    · have := TS.code_lt hl ha.tail hb.tail q
      omega
    · subst q
      have h1 := TS.code_same (B := 1000) (d := x) hl
      have h2 := TS.code_same (B := 1000) (d := x) hl.symm
      have : TS.code 1000 a = TS.code 1000 b := by
        by_cases p : TS.code 1000 a < TS.code 1000 b
        · have := h1.mpr p; omega
        · by_cases r : TS.code 1000 b < TS.code 1000 a
          · have := h2.mpr r; omega
          · omega
      rw [tcode_inj hl ha.tail hb.tail this]
    · have := TS.code_lt hl.symm hb.tail ha.tail q
      omega
def tupI (t : List Int) : PyData := .tuple (t.map PyData.int)
def asTupI : PyData → Option (List Int)
  | .tuple xs => asInts xs
  | _ => none
def asTups : List PyData → Option (List (List Int))
  | [] => some []
  | x :: xs => match asTupI x, asTups xs with
    | some t, some ts => some (t :: ts)
    | _, _ => none
theorem asTups_eq : ∀ {xs : List PyData} {ts : List (List Int)}, asTups xs = some ts → xs = ts.map tupI
  | [], ts, h => by cases h; rfl
  | x :: xs, ts, h => by
    unfold asTups at h
    split at h
    · next t ts' h1 h2 =>
      cases h
      rw [List.map_cons, ← asTups_eq h2]
      congr 1
      unfold asTupI at h1
      split at h1
      · next ys => rw [tupI, ← asInts_eq h1]
      · cases h1
    · cases h
def tupsOk (ts : List (List Int)) : Bool := match ts with
  | [] => false
  | t :: _ => decide (ts.length < 64) && decide (1 ≤ t.length) && ts.all fun u => decide (u.length = t.length) && u.all fun n => decide (0 ≤ n) && decide (n < 1000)
theorem tupsOk_iff {ts : List (List Int)} (h : tupsOk ts = true) : ts.length < 64 ∧ ∃ d, 1 ≤ d ∧ ∀ u ∈ ts, u.length = d ∧ TS.Bd 1000 u := by
  unfold tupsOk at h
  split at h
  · cases h
  · next t r =>
    rw [Bool.and_eq_true, Bool.and_eq_true, List.all_eq_true] at h
    refine ⟨of_decide_eq_true h.1.1, t.length, of_decide_eq_true h.1.2, fun u hu => ?_⟩
    have := h.2 u hu
    rw [Bool.and_eq_true, List.all_eq_true] at this
    refine ⟨of_decide_eq_true this.1, fun n hn => ?_⟩
    have q := this.2 n hn
    rw [Bool.and_eq_true] at q
    exact ⟨of_decide_eq_true q.1, of_decide_eq_true q.2⟩
def opSorted : List W → M W
  | [x] => fun st => match asList x st with
    | some xs => (match asInts xs with
      | some ns => some (.ok (.new ((isort ns).map PyData.int)), st)
      | none => (match asTups xs with
        | some ts => if tupsOk ts = true then some (.ok (.new ((tsort ts).map tupI)), st) else none
        | none => none))
    | none => none
  | _ => mfail
theorem reps_perm {H : Hp} {F : List Addr} : ∀ {xs ys : List V}, ys.Perm xs → ∀ {ts : List (List Int)}, RepDs H F (ts.map tupI) xs → ∃ us : List (List Int), us.Perm ts ∧ RepDs H F (us.map tupI) ys := by
  intro xs ys h
  induction h with
  | nil => intro ts r; exact ⟨ts, .refl _, r⟩
  | cons x _ ih =>
    intro ts r
    cases ts with
    | nil => cases r
    | cons t ts =>
      cases r with
      | cons a r =>
        obtain ⟨us, h1, h2⟩ := ih r
        exact ⟨t :: us, h1.cons t, .cons a h2⟩
  | swap x y l =>
    intro ts r
    match ts, r with
    | [], r => cases r
    | [t], r => cases r with | cons a r => cases r
    | t :: u :: ts, r =>
      cases r with
      | cons a r =>
        cases r with
        | cons b r => exact ⟨u :: t :: ts, .swap .., .cons b (.cons a r)⟩
  | trans _ _ ih1 ih2 =>
    intro ts r
    obtain ⟨us, h1, h2⟩ := ih2 r
    obtain ⟨vs, h3, h4⟩ := ih1 h2
    exact ⟨vs, h3.trans h1, h4⟩
theorem rep_tupI {K : PySem.W.Frag} {H : Hp} {F : List Addr} {t : List Int} {v : V} (r : RepD H F (tupI t) v) : TupI K H v t := by
  unfold tupI at r
  cases r with
  | tuple h1 h2 =>
    rw [h2.ints] at h1
    exact ⟨_, rfl, SqT.of h1⟩
theorem reps_tupI {K : PySem.W.Frag} {H : Hp} {F : List Addr} : ∀ {ts : List (List Int)} {vs : List V}, RepDs H F (ts.map tupI) vs → (∀ v ∈ vs, ∃ t ∈ ts, TupI K H v t) ∧ (vs.Pairwise (fun x y => ∀ n m, TupI K H x n → TupI K H y m → tcode n ≤ tcode m) → ts.Pairwise fun a b => tcode a ≤ tcode b)
  | [], vs, r => by cases r; simp
  | t :: ts, vs, r => by
    cases r with
    | @cons _ v _ vs a r =>
      obtain ⟨h1, h2⟩ := reps_tupI (K := K) r
      have ht : TupI K H v t := rep_tupI a
      refine ⟨fun x hx => ?_, fun hp => ?_⟩
      · rcases List.mem_cons.mp hx with rfl | hx
        · exact ⟨t, List.mem_cons_self, ht⟩
        · obtain ⟨u, hu, q⟩ := h1 x hx
          exact ⟨u, List.mem_cons_of_mem _ hu, q⟩
      · rw [List.pairwise_cons] at hp ⊢
        refine ⟨fun u hu => ?_, h2 hp.2⟩
        have key : ∀ {ts : List (List Int)} {vs : List V}, RepDs H F (ts.map tupI) vs → ∀ u ∈ ts, ∃ v ∈ vs, TupI K H v u := by
          intro ts
          induction ts with
          | nil => intro vs _ u hu; cases hu
          | cons t' ts' ih =>
            intro vs r u hu
            cases r with
            | @cons _ v' _ vs' a' r' =>
              rcases List.mem_cons.mp hu with rfl | hu
              · exact ⟨v', List.mem_cons_self, rep_tupI a'⟩
              · obtain ⟨x, hx, q⟩ := ih r' u hu
                exact ⟨x, List.mem_cons_of_mem _ hx, q⟩
        obtain ⟨x, hx, q⟩ := key r u hu
        exact hp.1 x hx t u ht q
theorem repInts {H : Hp} {F : List Addr} : ∀ (ns : List Int), RepDs H F (ns.map PyData.int) (ns.map V.int)
  | [] => .nil
  | n :: ns => .cons (.int n) (repInts ns)
section
variable {X : Cx} {mg : Str → Option Value} {E : XK}
theorem c_sorted : CallR X (.builtin "sorted") (cOf X.K mg E opSorted) := by
  intro pins s σ H xs us Q I rv ⟨μ₀, H₀, μ, fr, ws, st, B, r, h⟩
  unfold opSorted at h
  split at h
  · try dsimp only at h
    split at h
    · next e =>
      split at h
      · next ns e2 =>
        obtain ⟨v, rfl, r1⟩ := r.one
        obtain ⟨a, vs, rfl, hq, hr⟩ := asList_sq e B.sr r1
        rw [asInts_eq e2] at hr
        rw [hr.ints] at hq
        refine cr_sortedI pins s σ H _ us Q I rv ⟨a, ns, rfl, SqL.of hq, fun ms p hp hs hn => ?_⟩
        rw [isort_unique hp hs]
        exact PostG.newLst h B (repInts _) p hn
      · split at h
        · next ts e2 =>
          split at h
          · next hok =>
            obtain ⟨v, rfl, r1⟩ := r.one
            obtain ⟨a, vs, rfl, hq, hr⟩ := asList_sq e B.sr r1
            rw [asTups_eq e2] at hr
            obtain ⟨hl, d, hd, hu⟩ := tupsOk_iff hok
            have hlen := hr.length
            rw [List.length_map] at hlen
            refine cr_sortT (d := d) (B := 1000) hd pins s σ H _ us Q I rv ⟨a, vs, rfl, SqL.of hq, by omega, fun x hx => ?_, fun ys p hp hs hn => ?_⟩
            · obtain ⟨t, ht, q⟩ := (reps_tupI (K := X.K) hr).1 x hx
              exact ⟨t, q, hu t ht⟩
            · obtain ⟨us', h1, h2⟩ := reps_perm hp hr
              have h3 := (reps_tupI (K := X.K) h2).2 hs
              have e3 : us' = tsort ts := List.Perm.eq_of_pairwise (le := fun a b => tcode a ≤ tcode b) (fun a b ma mb h1' h2' => by
                have qa := hu a (h1.mem_iff.mp ma)
                have qb := hu b ((tsort_perm ts).mem_iff.mp mb)
                exact tcode_inj (by rw [qa.1, qb.1]) qa.2 qb.2 (Int.le_antisymm h1' h2')) h3 (tsort_sorted ts) (h1.trans (tsort_perm ts).symm)
              rw [e3] at h2
              exact PostG.newLst h B h2 p hn
          · exact h.elim
        · exact h.elim
    · exact h.elim
  · exact h.elim

/-! ### list(range(..)), tuple(range(..)) -/
def rgD (a b : Int) : List PyData := (List.range (b - a).toNat).map fun (i : Nat) => .int (a + i)
def rgB (a b : Int) : Bool := inLong a && inLong b && decide ((b - a).toNat ≤ 16777216)
theorem rgB_ok {a b : Int} (h : rgB a b = true) : RgOk a b := by
  unfold rgB at h
  rw [Bool.and_eq_true, Bool.and_eq_true] at h
  obtain ⟨h1, h2⟩ := inLong_iff h.1.1
  obtain ⟨h3, h4⟩ := inLong_iff h.1.2
  exact ⟨h1, h2, h3, h4, of_decide_eq_true h.2⟩
theorem rep_rg {H : Hp} {F : List Addr} (a b : Int) : RepDs H F (rgD a b) (rgV a b) := by
  unfold rgD rgV
  generalize List.range (b - a).toNat = l
  induction l with
  | nil => exact .nil
  | cons i l ih => exact .cons (.int _) ih
/-- a list (true) or a tuple of the ints a .. b - 1 -/
def mkRg (l : Bool) (a b : Int) : M W := if rgB a b = true then (match l with
  | true => mret (.new (rgD a b))
  | false => mret (.d (.tuple (rgD a b)))) else mfail
def opRg1 (l : Bool) : W → M W
  | .d (.int n) => mkRg l 0 n
  | _ => mfail
def opRg2 (l : Bool) : W → W → M W
  | .d (.int a), .d (.int b) => mkRg l a b
  | _, _ => mfail
variable {a b : Expr} {f g : Env → M W} {p p2 pos pos2 : Pos}
theorem r_lstRg1 (hc : X.calm = true) (hg : Gl X "list") (hm : X.mg "list" = none) (hg2 : Gl X "range") (hm2 : X.mg "range" = none) (ha : PE X a (tE X.K mg E f)) (hs : isStar a = false) : PE X (.Call (.Name "list" p) [.Call (.Name "range" p2) [a] [] pos2] [] pos) (tE X.K mg E (sUn (opRg1 true) f)) :=
  PE_imp (pe_listRg hc hg hm (prg_1 hg2 hm2 ha (star_cons _ _ hs)) (star_cons _ _ rfl)) fun σ H Q ⟨μ, ρ, st, hs, hr, h⟩ =>
    ⟨μ, ρ, st, hs, hr, (PostG.bind (R := RepW X.K) h (.start hr)).mono fun x H1 ⟨μ1, fr1, w1, st1, a1, r1, h1⟩ => by
      unfold opRg1 at h1
      split at h1
      · next n =>
        cases r1.int
        unfold mkRg at h1
        split at h1
        · next hk => exact ⟨n, rfl, rgB_ok hk, fun q hq => PostG.newLst h1 (a1.trim (List.nil_sublist _)) (rep_rg 0 n) q hq⟩
        · exact h1.elim
      · exact h1.elim⟩
theorem r_tupRg1 (hc : X.calm = true) (hg : Gl X "tuple") (hm : X.mg "tuple" = none) (hg2 : Gl X "range") (hm2 : X.mg "range" = none) (ha : PE X a (tE X.K mg E f)) (hs : isStar a = false) : PE X (.Call (.Name "tuple" p) [.Call (.Name "range" p2) [a] [] pos2] [] pos) (tE X.K mg E (sUn (opRg1 false) f)) :=
  PE_imp (pe_tupRg hc hg hm (prg_1 hg2 hm2 ha (star_cons _ _ hs)) (star_cons _ _ rfl)) fun σ H Q ⟨μ, ρ, st, hs, hr, h⟩ =>
    ⟨μ, ρ, st, hs, hr, (PostG.bind (R := RepW X.K) h (.start hr)).mono fun x H1 ⟨μ1, fr1, w1, st1, a1, r1, h1⟩ => by
      unfold opRg1 at h1
      split at h1
      · next n =>
        cases r1.int
        unfold mkRg at h1
        split at h1
        · next hk => exact ⟨n, rfl, rgB_ok hk, fun q hq => PostG.newTup h1 (a1.trim (List.nil_sublist _)) (rep_rg 0 n) q hq⟩
        · exact h1.elim
      · exact h1.elim⟩
theorem r_lstRg2 (hc : X.calm = true) (hg : Gl X "list") (hm : X.mg "list" = none) (hg2 : Gl X "range") (hm2 : X.mg "range" = none) (ha : PE X a (tE X.K mg E f)) (hb : PE X b (tE X.K mg E g)) (hs : isStar a = false) (hs2 : isStar b = false) : PE X (.Call (.Name "list" p) [.Call (.Name "range" p2) [a, b] [] pos2] [] pos) (tE X.K mg E (sBin (opRg2 true) f g)) :=
  PE_imp (pe_listRg hc hg hm (prg_2 hg2 hm2 ha hb (star_cons _ _ hs) (star_cons _ _ hs2) (star_any (by rw [List.all_cons, hs2]; rfl))) (star_cons _ _ rfl)) fun σ H Q ⟨μ, ρ, st, hs, hr, h⟩ =>
    ⟨μ, ρ, st, hs, hr, (PostG.bind (R := RepW X.K) h (.start hr)).mono fun x H1 ⟨μ1, fr1, w1, st1, a1, r1, h1⟩ =>
      ⟨μ1, ρ, st1, hs.ext a1.ext, a1.sr, (PostG.bind (R := RepW X.K) h1 a1).mono fun y H2 ⟨μ2, fr2, w2, st2, a2, r2, h2⟩ => by
      unfold opRg2 at h2
      split at h2
      · next i j _ =>
        cases r1.int
        cases r2.int
        unfold mkRg at h2
        split at h2
        · next hk => exact ⟨i, j, rfl, rfl, rgB_ok hk, fun q hq => PostG.newLst h2 ((a1.trans a2).trim (List.nil_sublist _)) (rep_rg i j) q hq⟩
        · exact h2.elim
      · exact h2.elim⟩⟩
theorem r_tupRg2 (hc : X.calm = true) (hg : Gl X "tuple") (hm : X.mg "tuple" = none) (hg2 : Gl X "range") (hm2 : X.mg "range" = none) (ha : PE X a (tE X.K mg E f)) (hb : PE X b (tE X.K mg E g)) (hs : isStar a = false) (hs2 : isStar b = false) : PE X (.Call (.Name "tuple" p) [.Call (.Name "range" p2) [a, b] [] pos2] [] pos) (tE X.K mg E (sBin (opRg2 false) f g)) :=
  PE_imp (pe_tupRg hc hg hm (prg_2 hg2 hm2 ha hb (star_cons _ _ hs) (star_cons _ _ hs2) (star_any (by rw [List.all_cons, hs2]; rfl))) (star_cons _ _ rfl)) fun σ H Q ⟨μ, ρ, st, hs, hr, h⟩ =>
    ⟨μ, ρ, st, hs, hr, (PostG.bind (R := RepW X.K) h (.start hr)).mono fun x H1 ⟨μ1, fr1, w1, st1, a1, r1, h1⟩ =>
      ⟨μ1, ρ, st1, hs.ext a1.ext, a1.sr, (PostG.bind (R := RepW X.K) h1 a1).mono fun y H2 ⟨μ2, fr2, w2, st2, a2, r2, h2⟩ => by
      unfold opRg2 at h2
      split at h2
      · next i j _ =>
        cases r1.int
        cases r2.int
        unfold mkRg at h2
        split at h2
        · next hk => exact ⟨i, j, rfl, rfl, rgB_ok hk, fun q hq => PostG.newTup h2 ((a1.trans a2).trim (List.nil_sublist _)) (rep_rg i j) q hq⟩
        · exact h2.elim
      · exact h2.elim⟩⟩
end
end Ev

namespace L2
open PySem PySem.Spec PyProof.Rows
/-! ### set(l), l a list of ints, with its order's state -/
abbrev set0 (w : World) : Obj := { cls := .type "set", dict := none, data := .set #[] 0 (.fresh 0 0 (!w.params.followText "set-order")) }
/-- what set(l) is to leave -/
def SetLeft (w : World) (s : Shared) (ns : List Int) (s2 : Shared) : Prop :=
  ∃ h' tk c, s2 = { s with heap := h', toks := tk } ∧ SetR w h' s.heap.objs.size (fun j => decide (j ∈ ns)) c ∧ c ≤ ns.length ∧ ∀ b o, s.heap.get? b = some o → h'.get? b = some o
section
variable {P : Program} {w : World} {A : Around} {E : Value → Shared → Prop} {s : Shared}
/-- the members of l come in one by one -/
theorem set_fill_lst {l : Addr} {items : Array Value} {R : Result → Shared → Prop} (ns : List Int) (hh : A.in1.handled = none) (hl : s.heap.IsList l items) (hit : IntsAre items.toList ns) (hb : ns.length + 1 < scanBound)
    (h : ∀ s2, SetLeft w s ns s2 → R (.ok (.ret .none)) s2) :
    codeAny (model P w) A (.builtin "set.update.loop" ⟨[.ref s.heap.objs.size, .ref (s.heap.push (set0 w)).objs.size], []⟩) R
      { s with heap := (s.heap.push (set0 w)).push { cls := .type "list_iterator", data := .fields #[.ref l, .int 0 0] } } := by
  obtain ⟨ol, hol, hcl, nl, hdl⟩ := id hl
  have hlt : l < s.heap.objs.size := Heap.lt_size hol
  have hz : items.size = ns.length := by have q := IntsAre.length hit; rwa [Array.length_toList] at q
  have hpz : (s.heap.push (set0 w)).objs.size = s.heap.objs.size + 1 := Heap.size_push ..
  have hv : ∀ (i : Nat) (v : Value), items[i]? = some v → ∃ k t, ns[i]? = some k ∧ v = .int k t := by
    intro i v q
    have hi : i < ns.length := hz ▸ (Array.getElem?_eq_some_iff.mp q).1
    obtain ⟨t, e⟩ := PyProof.Rows.IntsAre.int_at hit i v ((Array.getElem?_toList ..).trans q)
    exact ⟨ns[i], t, List.getElem?_eq_getElem hi, by rw [e, List.getD_eq_getElem?_getD, List.getElem?_eq_getElem hi] <;> rfl⟩
  have hS : (s.heap.push (set0 w)).get? s.heap.objs.size = some (set0 w) := Heap.get?_push_size _ rfl
  refine set_update_ints ((Walks.list hh (s.heap.push (set0 w)).objs.size l (by rw [hpz]; exact Nat.ne_of_lt (Nat.lt_succ_of_lt hlt)) items).toS) s.heap.objs.size (fun z => (List.mem_cons.mp z).elim (fun q => absurd (q.trans hpz) (Nat.ne_of_lt (Nat.lt_succ_self _))) fun q => absurd (List.mem_singleton.mp q) (Nat.ne_of_gt hlt)) ns hz hb hv (items.size - 0) 0 _ rfl (Nat.zero_le _) ?_ ?_ ?_
  · exact ⟨⟨_, Heap.get?_push_size _ rfl, rfl, rfl⟩, (hl.push _).push _⟩
  · exact ⟨0, Nat.le_refl 0, setR_new_at (Heap.get?_push_of_some _ hS)⟩
  · intro s' c hm hc hR
    refine h s' ⟨s'.heap, s'.toks, c, ?_, hR, hz ▸ hc, fun b o e => ?_⟩
    · have e1 := hm.gens
      have e2 := hm.drawn
      have e3 := hm.os
      cases s'
      cases s
      cases e1; cases e2; cases e3
      rfl
    · have hbs : b < s.heap.objs.size := Heap.lt_size e
      exact hm.heap b o (fun z => (List.mem_cons.mp z).elim (Nat.ne_of_lt hbs) fun q => absurd ((List.mem_singleton.mp q).trans hpz) (Nat.ne_of_lt (Nat.lt_succ_of_lt hbs))) (Heap.get?_push_of_some _ (Heap.get?_push_of_some _ e))
set_option maxHeartbeats 3200000 in
theorem call_set_lstI {l : Addr} {items : Array Value} (ns : List Int) {Q : Value → Shared → Prop} (hh : A.handled = none) (hl : s.heap.IsList l items) (hit : IntsAre items.toList ns) (hb : ns.length + 1 < scanBound)
    (h : ∀ s2, SetLeft w s ns s2 → Q (.ref s.heap.objs.size) s2) : wpAny (model P w) A (call (.type "set") [.ref l]) Q E s := by
  obtain ⟨c, tl, hmro⟩ := F.called_set.mro
  have g1 := F.called_set.made
  have g2 := F.called_set.sub
  have g3 := F.called_set.notType
  have g4 := F.called_set.canCreate
  have g5 := F.typeCall_set_1 (.ref l)
  refine wpAny_call (codeAny_of_tree ?_)
  show wpAny _ _ (callAny (.type "set") _) _ _ _
  refine wpAny_pure ⟨Code.quiet_builtin _ (by decide +kernel), codeAny_builtin F.entry_type_call ?_⟩
  rw [Around.under_plain (weight_type_call_type "set" [.ref l] []) rfl]
  repeat (any_goals (first | assumption | wp_step))
  refine codeAny_mono (code_set_led1 (.ref l) (E := E) (Q₁ := fun obj s₁ => obj = .ref s.heap.objs.size ∧ s₁ = { s with heap := s.heap.push (set0 w) }) ⟨rfl, rfl⟩) fun r s₁ hr => ?_
  match r, hr with
  | .error e, hr => exact hr
  | .ok (.ret obj), hr =>
    obtain ⟨rfl, rfl⟩ := hr
    have hS : (s.heap.push (set0 w)).get? s.heap.objs.size = some (set0 w) := Heap.get?_push_size _ rfl
    have hT : Shared.TypeIs { s with heap := s.heap.push (set0 w) } (.ref s.heap.objs.size) "set" := ⟨_, hS, rfl⟩
    have g6 := F.called_set.init.lookup
    have g7 := F.called_set.init.bind (.ref s.heap.objs.size)
    repeat (any_goals (first | assumption | wp_step))
    refine codeAny_mono (codeAny_call_builtin (R := wants (fun r s2 => r = .none ∧ SetLeft w s ns s2) E) F.called_set.init.plain F.entry_set_init (check_set_init_1 hT ?_)) fun r2 s2 hr2 => ?_
    · obtain ⟨⟨ocls, odict, odata, oslots⟩, hol, hcl, nl, hdl⟩ := id hl
      simp only at hcl hdl
      subst hcl; subst hdl
      have g8 : (s.heap.push (set0 w)).get? l = some { cls := .type "list", dict := odict, data := .seq items nl, slots := oslots } := Heap.get?_push_of_some _ hol
      have g9 := F.sub_list_set
      have g10 := F.sub_list_frozenset
      have g11 : (Value.type "list" == Value.type "dict") = false := by decide
      unfold Builtin.«set.__init__» noKeywords Builtin.Frozenset.updateFrom
      generalize hPI : pyIter = PI
      wp_walk
      subst hPI
      refine wpAny_pyIter_list (hl.push _) ?_
      refine wpAny_bind (wpAny_runValue ?_)
      refine set_fill_lst ns (by simp [hh]) hl hit hb fun s3 h3 => ?_
      show wpAny _ _ _ _ _ _
      refine wpAny_pure ?_
      show wpAny _ _ (ret Value.none) _ _ _
      exact wpAny_pure ⟨rfl, h3⟩
    · match r2, hr2 with
      | .error e, hr2 => exact hr2
      | .ok (.ret r), hr2 =>
        obtain ⟨rfl, h3⟩ := hr2
        repeat (any_goals (first | assumption | wp_step))
        exact h _ h3
end
end L2

namespace L2
open PySem PySem.Spec PyProof.Rows
/-! ### sorted(set(t)), t a tuple or a list of ints -/
def tSortSetT (K : PySem.W.Frag) (ta : TE) : TE := fun σ H Q => ta σ H fun x H1 => ∃ (l : Addr) (ns : List Int), x = V.ref l ∧ (SqT K H1 l (ns.map V.int) ∨ SqL K H1 l (ns.map V.int)) ∧ ns.length < 64 ∧
  ∀ (ns' : List Int) (p : Addr), ns'.Pairwise (· < ·) → (∀ k : Int, k ∈ ns' ↔ k ∈ ns) → H1 p = none → Q (.ref p) (upd H1 p (.lst (ns'.map V.int)))
theorem pe_sortSetT {X : Cx} {a : Expr} {ta : TE} {p p2 q pos : Pos} (hc : X.calm = true) (hg : Gl X "sorted") (hm : X.mg "sorted" = none) (hg2 : Gl X "set") (hm2 : X.mg "set" = none) (ha : PE X a ta)
    (na : starEach [a] X.env = (false, eval a X.env) :: starEach [] X.env) : PE X (.Call (.Name "sorted" p) [.Call (.Name "set" p2) [a] [] q] [] pos) (tSortSetT X.K ta) := by
  refine ⟨fun pins s σ H Q I h => ?_⟩
  refine Call_ (ld_blt I hg hm PyProof.Rows.boot_sorted ?_)
  refine PyProof.Rows.callWith_builtin1 (PyProof.Rows.args_cons ?_ rfl) rfl rfl
  refine Call_ (ld_blt I hg2 hm2 PyProof.Rows.boot_set ?_)
  refine PyProof.Rows.callWith_type1 (PyProof.Rows.args_cons (thn (ha.run pins s σ H _ I h) fun v s1 ⟨x, H1, I1, r1, q1⟩ => PyProof.Rows.args_nil ?_) na) na rfl
  obtain ⟨l, ns, rfl, hq, h64, q1⟩ := q1
  cases r1
  have fin : ∀ s2, SetLeft X.w s1 ns s2 → wpAny (model X.prog X.w) X.A (call (.builtin "sorted") [.ref s1.heap.objs.size]) (EP X pins σ Q) X.xe s2 := by
    rintro s2 ⟨h', tk, c, rfl, hS, hc', hk⟩
    have I2 : Inv X pins σ H1 { s1 with heap := h', toks := tk } := I1.kept hk
    refine sorted_set hS (I2.ok.hd hc) (by omega) fun s' p out c2 ns' k g o hp hg hi hs hm hl => ?_
    have hlen : (ns'.map V.int).length ≤ sizeLine := by rw [List.length_map, hl, sizeLine_eq]; omega
    have hn : H1 p = none := I2.hok.fresh hp
    have J : Inv X pins σ (upd H1 p (.lst (ns'.map V.int))) { ({ s1 with heap := h', toks := tk } : Shared) with heap := s'.heap, gens := s'.gens, drawn := s'.drawn, toks := s'.toks } :=
      I2.call (ch := []) (Un.laid k hp hn) (I2.hok.laid k hp ⟨hlen, out.toList, c2, vals_of_ints hi, hg⟩) (by rw [g]; exact I2.bare) (fun _ z => nomatch z)
    have e : s' = { ({ s1 with heap := h', toks := tk } : Shared) with heap := s'.heap, gens := s'.gens, drawn := s'.drawn, toks := s'.toks } := by
      cases s'
      cases s1
      cases o
      rfl
    rw [e]
    exact ⟨.ref p, _, J, rfl, q1 ns' p hs (fun k => by rw [hm k, decide_eq_true_iff]) hn⟩
  rcases hq with hq | hq
  · obtain ⟨its, r, pl, hz⟩ := I1.tuple hq
    exact call_set_tupI ns (I1.ok.hd hc) pl (by simpa using ints_of_vals r) (by unfold scanBound; omega) fun h' tk c hS hc' hk => PyProof.Rows.args_nil (fin _ ⟨h', tk, c, rfl, hS, hc', hk⟩)
  · obtain ⟨its, r, pl, hz⟩ := I1.list hq
    exact call_set_lstI ns (I1.ok.hd hc) pl.isList (by simpa using ints_of_vals r) (by unfold scanBound; omega) fun s2 h2 => PyProof.Rows.args_nil (fin _ h2)
/-! ### len(set(l)), l a list of ints -/
theorem firstMet_mem (ns : List Int) : ∀ i, (firstMet (fun i => ns.getD i 0) i).Nodup ∧ ∀ k, k ∈ firstMet (fun i => ns.getD i 0) i ↔ ∃ j, j < i ∧ ns.getD j 0 = k
  | 0 => ⟨List.nodup_nil, fun k => ⟨fun h => (by cases h), fun ⟨j, h, _⟩ => absurd h (Nat.not_lt_zero _)⟩⟩
  | i + 1 => by
    obtain ⟨h1, h2⟩ := firstMet_mem ns i
    rw [firstMet_succ]
    unfold step_dedup
    by_cases h : ((firstMet (fun i => ns.getD i 0) i).any (· == ns.getD i 0)) = true
    · rw [if_pos h]
      refine ⟨h1, fun k => ?_⟩
      rw [h2]
      constructor
      · rintro ⟨j, hj, e⟩
        exact ⟨j, by omega, e⟩
      · rintro ⟨j, hj, e⟩
        by_cases hji : j = i
        · subst hji
          obtain ⟨y, hy, q⟩ := List.any_eq_true.mp h
          rw [beq_iff_eq] at q
          rw [← e, ← q]
          exact (h2 y).mp hy
        · exact ⟨j, by omega, e⟩
    · rw [if_neg h]
      refine ⟨?_, fun k => ?_⟩
      · rw [List.nodup_append]
        refine ⟨h1, by simp, fun x hx y hy e => h (List.any_eq_true.mpr ⟨x, hx, ?_⟩)⟩
        rw [List.mem_singleton] at hy
        rw [e, hy]
        exact beq_self_eq_true _
      · rw [List.mem_append, List.mem_singleton, h2]
        constructor
        · rintro (⟨j, hj, e⟩ | e)
          · exact ⟨j, by omega, e⟩
          · exact ⟨i, by omega, e.symm⟩
        · rintro ⟨j, hj, e⟩
          by_cases hji : j = i
          · subst hji
            exact .inr e.symm
          · exact .inl ⟨j, by omega, e⟩
theorem firstMet_len (ns : List Int) : ∀ i, (firstMet (fun i => ns.getD i 0) i).length ≤ i
  | 0 => Nat.le_refl _
  | i + 1 => by
    have := firstMet_len ns i
    rw [firstMet_succ]
    unfold step_dedup
    split
    · omega
    · rw [List.length_append, List.length_singleton]
      omega
def tLenSetL (K : PySem.W.Frag) (ta : TE) : TE := fun σ H Q => ta σ H fun x H1 => ∃ (l : Addr) (ns : List Int), x = V.ref l ∧ SqL K H1 l (ns.map V.int) ∧ ns.length ≤ 4000 ∧
  ∀ (ds : List Int), ds.Nodup → (∀ k : Int, k ∈ ds ↔ k ∈ ns) → Q (.int (ds.length : Nat)) H1
theorem pe_lenSetL {X : Cx} {a : Expr} {ta : TE} {p p2 q pos : Pos} (hc : X.calm = true) (hg : Gl X "len") (hm : X.mg "len" = none) (hg2 : Gl X "set") (hm2 : X.mg "set" = none) (ha : PE X a ta)
    (na : starEach [a] X.env = (false, eval a X.env) :: starEach [] X.env) : PE X (.Call (.Name "len" p) [.Call (.Name "set" p2) [a] [] q] [] pos) (tLenSetL X.K ta) := by
  refine ⟨fun pins s σ H Q I h => ?_⟩
  refine Call_ (ld_blt I hg hm PySem.boot_len ?_)
  refine PyProof.Rows.callWith_builtin1 (PyProof.Rows.args_cons ?_ rfl) rfl rfl
  refine Call_ (ld_blt I hg2 hm2 PyProof.Rows.boot_set ?_)
  refine PyProof.Rows.callWith_type1 (PyProof.Rows.args_cons (thn (ha.run pins s σ H _ I h) fun v s1 ⟨x, H1, I1, r1, q1⟩ => PyProof.Rows.args_nil ?_) na) na rfl
  obtain ⟨l, ns, rfl, hq, hz, q1⟩ := q1
  cases r1
  obtain ⟨its, r, pl, _⟩ := I1.list hq
  have hl : its.toArray.size = ns.length := by rw [List.size_toArray, ← r.length, List.length_map]
  refine call_set_list (I1.ok.hd hc) pl.isList (ns := ns) (by simpa using ints_of_vals r) (by unfold scanBound; omega) fun h' tk hS hk => ?_
  refine PyProof.Rows.args_nil ?_
  obtain ⟨f1, f2⟩ := firstMet_mem ns its.toArray.size
  have hle := Nat.le_trans (firstMet_len ns its.toArray.size) (show its.toArray.size ≤ 4000 by omega)
  obtain ⟨o, es, ep, t, ho, hex, hd, _, _, _, hf, hn⟩ := hS
  have I2 : Inv X pins σ H1 { s1 with heap := h', toks := tk } := I1.kept fun b o e => hk b o (Heap.lt_size e) e
  refine call_len_set ho hex hd hf (by rw [hn] <;> omega) ⟨.int ((firstMet (fun i => ns.getD i 0) its.toArray.size).length : Nat), H1, I2.tok _, ⟨_, by rw [hn]⟩, q1 _ f1 fun k => ?_⟩
  rw [f2]
  constructor
  · rintro ⟨j, hj, e⟩
    rw [← e, List.getD_eq_getElem?_getD, List.getElem?_eq_getElem (by omega)]
    exact List.getElem_mem _
  · intro hk
    obtain ⟨j, hj, e⟩ := List.getElem_of_mem hk
    exact ⟨j, by omega, by rw [List.getD_eq_getElem?_getD, List.getElem?_eq_getElem hj, ← e]; rfl⟩
end L2
namespace Ev
open PySem PySem.Spec PyProof.Rows L2
/-! ### the members of a list of ints, rising -/
def insU (k : Int) : List Int → List Int
  | [] => [k]
  | x :: xs => if k < x then k :: x :: xs else if k = x then x :: xs else x :: insU k xs
def sortU : List Int → List Int
  | [] => []
  | k :: ks => insU k (sortU ks)
theorem insU_mem {k j : Int} : ∀ {l : List Int}, j ∈ insU k l ↔ j = k ∨ j ∈ l
  | [] => by simp [insU]
  | x :: xs => by
    unfold insU
    split
    · simp
    · split
      · next h => subst h; simp
      · rw [List.mem_cons, insU_mem (l := xs), List.mem_cons]
        constructor
        · rintro (h | h | h)
          · exact .inr (.inl h)
          · exact .inl h
          · exact .inr (.inr h)
        · rintro (h | h | h)
          · exact .inr (.inl h)
          · exact .inl h
          · exact .inr (.inr h)
theorem insU_pw {k : Int} : ∀ {l : List Int}, l.Pairwise (· < ·) → (insU k l).Pairwise (· < ·)
  | [], _ => by simp [insU]
  | x :: xs, h => by
    have h' := List.pairwise_cons.mp h
    unfold insU
    split
    · next hk =>
      refine List.pairwise_cons.mpr ⟨fun y hy => ?_, h⟩
      rcases List.mem_cons.mp hy with rfl | hy
      · exact hk
      · exact Int.lt_trans hk (h'.1 y hy)
    · split
      · exact h
      · refine List.pairwise_cons.mpr ⟨fun y hy => ?_, insU_pw h'.2⟩
        rcases insU_mem.mp hy with rfl | hy
        · omega
        · exact h'.1 y hy
theorem sortU_mem {j : Int} : ∀ {l : List Int}, j ∈ sortU l ↔ j ∈ l
  | [] => Iff.rfl
  | k :: ks => by rw [sortU, insU_mem, sortU_mem (l := ks), List.mem_cons]
theorem sortU_pw : ∀ {l : List Int}, (sortU l).Pairwise (· < ·)
  | [] => .nil
  | k :: ks => insU_pw sortU_pw
theorem rise_eq : ∀ {a b : List Int}, a.Pairwise (· < ·) → b.Pairwise (· < ·) → (∀ k, k ∈ a ↔ k ∈ b) → a = b
  | [], [], _, _, _ => rfl
  | [], y :: ys, _, _, h => absurd ((h y).mpr List.mem_cons_self) List.not_mem_nil
  | x :: xs, [], _, _, h => absurd ((h x).mp List.mem_cons_self) List.not_mem_nil
  | x :: xs, y :: ys, ha, hb, h => by
    have ha' := List.pairwise_cons.mp ha
    have hb' := List.pairwise_cons.mp hb
    have e : x = y := by
      rcases List.mem_cons.mp ((h x).mp List.mem_cons_self) with e | e
      · exact e
      · rcases List.mem_cons.mp ((h y).mpr List.mem_cons_self) with e2 | e2
        · exact e2.symm
        · have := hb'.1 x e
          have := ha'.1 y e2
          omega
    subst e
    congr 1
    refine rise_eq ha'.2 hb'.2 fun k => ⟨fun hk => ?_, fun hk => ?_⟩
    · rcases List.mem_cons.mp ((h k).mp (List.mem_cons_of_mem _ hk)) with e | e
      · subst e
        have := ha'.1 k hk
        omega
      · exact e
    · rcases List.mem_cons.mp ((h k).mpr (List.mem_cons_of_mem _ hk)) with e | e
      · subst e
        have := hb'.1 k hk
        omega
      · exact e
theorem same_len : ∀ {a b : List Int}, a.Nodup → b.Nodup → (∀ k, k ∈ a ↔ k ∈ b) → a.length = b.length
  | [], b, _, _, h => by
    cases b with
    | nil => rfl
    | cons y ys => exact absurd ((h y).mpr List.mem_cons_self) List.not_mem_nil
  | x :: xs, b, ha, hb, h => by
    have ha' := List.nodup_cons.mp ha
    have hx : x ∈ b := (h x).mp List.mem_cons_self
    have e := same_len (a := xs) (b := b.erase x) ha'.2 (hb.erase x) fun k => by
      rw [hb.mem_erase_iff]
      constructor
      · intro hk
        exact ⟨fun e => ha'.1 (e ▸ hk), (h k).mp (List.mem_cons_of_mem _ hk)⟩
      · rintro ⟨h1, h2⟩
        rcases List.mem_cons.mp ((h k).mpr h2) with e | e
        · exact absurd e h1
        · exact e
    have hp : 0 < b.length := List.length_pos_of_mem hx
    rw [List.length_erase_of_mem hx] at e
    rw [List.length_cons, e]
    omega
theorem rise_nodup {a : List Int} (h : a.Pairwise (· < ·)) : a.Nodup := List.nodup_iff_pairwise_ne.mpr (h.imp fun h => by omega)
/-- sorted(set(t)) -/
def opSortSet (x : W) : M W := fun st => match asSeq x st with
  | some xs => (match asInts xs with
    | some ns => if ns.length < 64 then some (.ok (.new ((sortU ns).map PyData.int)), st) else none
    | none => none)
  | none => none
/-- len(set(l)) -/
def opLenSet (x : W) : M W := fun st => match asList x st with
  | some xs => (match asInts xs with
    | some ns => if ns.length ≤ 4000 then some (.ok (.d (.int ((sortU ns).length : Nat))), st) else none
    | none => none)
  | none => none
section
variable {X : Cx} {mg : Str → Option Value} {E : XK} {a : Expr} {f : Env → M W} {p p2 pos pos2 : Pos}
theorem r_sortSet (hc : X.calm = true) (hg : Gl X "sorted") (hm : X.mg "sorted" = none) (hg2 : Gl X "set") (hm2 : X.mg "set" = none) (ha : PE X a (tE X.K mg E f)) (hs : isStar a = false) : PE X (.Call (.Name "sorted" p) [.Call (.Name "set" p2) [a] [] pos2] [] pos) (tE X.K mg E (sUn opSortSet f)) :=
  PE_imp (pe_sortSetT hc hg hm hg2 hm2 ha (star_cons _ _ hs)) fun σ H Q ⟨μ, ρ, st, hs, hr, h⟩ =>
    ⟨μ, ρ, st, hs, hr, (PostG.bind (R := RepW X.K) h (.start hr)).mono fun x H1 ⟨μ1, fr1, w1, st1, a1, r1, h1⟩ => by
      unfold opSortSet at h1
      split at h1
      · next xs e0 =>
        split at h1
        · next ns e =>
          split at h1
          · next hl =>
            obtain ⟨l, us, rfl, hH, hr⟩ := asSeq_sq e0 a1.sr r1
            rw [asInts_eq e] at hr
            rw [hr.ints] at hH
            refine ⟨l, ns, rfl, hH.symm, hl, fun ns' q h1' h2' hq => ?_⟩
            rw [rise_eq h1' (sortU_pw (l := ns)) fun k => by rw [h2', sortU_mem]]
            exact PostG.newLst h1 (a1.trim (List.nil_sublist _)) (repInts _) q hq
          · exact h1.elim
        · exact h1.elim
      · exact h1.elim⟩
theorem r_lenSet (hc : X.calm = true) (hg : Gl X "len") (hm : X.mg "len" = none) (hg2 : Gl X "set") (hm2 : X.mg "set" = none) (ha : PE X a (tE X.K mg E f)) (hs : isStar a = false) : PE X (.Call (.Name "len" p) [.Call (.Name "set" p2) [a] [] pos2] [] pos) (tE X.K mg E (sUn opLenSet f)) :=
  PE_imp (pe_lenSetL hc hg hm hg2 hm2 ha (star_cons _ _ hs)) fun σ H Q ⟨μ, ρ, st, hs, hr, h⟩ =>
    ⟨μ, ρ, st, hs, hr, (PostG.bind (R := RepW X.K) h (.start hr)).mono fun x H1 ⟨μ1, fr1, w1, st1, a1, r1, h1⟩ => by
      unfold opLenSet at h1
      split at h1
      · next xs e0 =>
        split at h1
        · next ns e =>
          split at h1
          · next hl =>
            obtain ⟨l, us, rfl, hH, hr⟩ := asList_sq e0 a1.sr r1
            rw [asInts_eq e] at hr
            rw [hr.ints] at hH
            refine ⟨l, ns, rfl, SqL.of hH, hl, fun ds h1' h2' => ?_⟩
            rw [same_len h1' (rise_nodup (sortU_pw (l := ns))) fun k => by rw [h2', sortU_mem]]
            exact PostG.int h1 a1
          · exact h1.elim
        · exact h1.elim
      · exact h1.elim⟩
end
end Ev

namespace Ev
open PySem PySem.Spec PyProof.Rows L2

/-! ### the compiler: from the text of a def to what it does over data -/
structure Cc where
  sc : Scope
  N : List Str
  cells : List Str
  fnv : Str → Bool
  fns : Str → Option (Nat × (List W → M W))
  blt : Str → Bool
  exc : Str → Bool
  df1 : Str → Option (Int × Str)
/-- the refusals of the package: one base -/
def excSub (x y : Str) : Bool := decide (x = y) || decide (y = Str.ofString "SlipError")
def ixOf : List Str → Str → Option Nat
  | [], _ => none
  | y :: ys, x => if y = x then some 0 else (match ixOf ys x with
    | some i => some (i + 1)
    | none => none)
theorem ixOf_get : ∀ {N : List Str} {x : Str} {i : Nat}, ixOf N x = some i → N[i]? = some x
  | [], _, _, h => nomatch h
  | y :: ys, x, i, h => by
    unfold ixOf at h
    split at h
    · next e => cases h; rw [e]; rfl
    · cases q : ixOf ys x with
      | none => rw [q] at h; cases h
      | some j =>
        rw [q] at h
        cases h
        simpa using ixOf_get q
def kindB (sc : Scope) (x : Str) (k : NameKind) : Bool := decide (sc.names.lookup x = some k)
def Cc.vis (c : Cc) (x : Str) : Bool := kindB c.sc x .local || kindB c.sc x .cell || kindB c.sc x .free
def Cc.loc (c : Cc) (x : Str) : Bool := (kindB c.sc x .local || kindB c.sc x .cell) && (c.fnv x || kindB c.sc x .local)
def Cc.gl (c : Cc) (x : Str) : Bool := kindB c.sc x .globalImplicit
def plainName (x : Str) : Bool := !(x == ("__debug__" : Str)) && !(x == ("__classdict__" : Str)) && !decide (x = ("__name__" : Str))
def binOp : Operator → Option (W → W → M W)
  | .Add => some opAdd
  | .Sub => some opSub
  | .Mult => some opMul
  | .FloorDiv => some opDiv
  | .Mod => some opMod
  | .Pow => some opPow
  | .LShift => some opShl
  | _ => none
def cmpOp : CmpOp → Option (W → W → M W)
  | .Eq => some opEq
  | .NotEq => some opNe
  | .Lt => some opLt
  | .LtE => some opLe
  | .Gt => some opGt
  | .GtE => some opGe
  | .Is => some opIsN
  | .IsNot => some opNotN
  | .In => some opIn
  | .NotIn => some opNotIn
def tyOf (x : Str) : Option Ty :=
  if x = Str.ofString "int" then some .int
  else if x = Str.ofString "bool" then some .bool
  else if x = Str.ofString "str" then some .str
  else if x = Str.ofString "tuple" then some .tuple
  else if x = Str.ofString "list" then some .list
  else none
inductive Blt where
  | len | abs | max | min | sum | all | any | sorted
  deriving DecidableEq
def Blt.name : Blt → String
  | .len => "len" | .abs => "abs" | .max => "max" | .min => "min" | .sum => "sum" | .all => "all" | .any => "any" | .sorted => "sorted"
def Blt.op : Blt → List W → M W
  | .len => opLen | .abs => opAbs | .max => opMax | .min => opMin | .sum => opSum | .all => opAll | .any => opAny | .sorted => opSorted
def bltOf (x : Str) : Option Blt :=
  if x = Str.ofString "len" then some .len
  else if x = Str.ofString "abs" then some .abs
  else if x = Str.ofString "max" then some .max
  else if x = Str.ofString "min" then some .min
  else if x = Str.ofString "sum" then some .sum
  else if x = Str.ofString "all" then some .all
  else if x = Str.ofString "any" then some .any
  else if x = Str.ofString "sorted" then some .sorted
  else none
inductive BTy where
  | tuple | list | int | str
def BTy.name : BTy → String
  | .tuple => "tuple" | .list => "list" | .int => "int" | .str => "str"
def BTy.op : BTy → List W → M W
  | .tuple => opTuple | .list => opList | .int => opInt | .str => opStr
def btyOf (x : Str) : Option BTy :=
  if x = Str.ofString "tuple" then some .tuple
  else if x = Str.ofString "list" then some .list
  else if x = Str.ofString "int" then some .int
  else if x = Str.ofString "str" then some .str
  else none
inductive Mth where
  | append | extend | pop | index | join | split | count
def Mth.op : Mth → W → List W → M W
  | .append => opAppend | .extend => opExtend | .pop => opPop | .index => opIndex | .join => opJoin | .split => opSplit | .count => opCount
def isLst : W → Bool
  | .ref _ => true
  | .new _ => true
  | .d (.list _) => true
  | _ => false
def isStr : W → Bool
  | .d (.str _) => true
  | _ => false
def Mth.rcv : Mth → W → Bool
  | .join => isStr | .split => isStr | _ => isLst
def mthOf (x : Str) : Option Mth :=
  if x = Str.ofString "append" then some .append
  else if x = Str.ofString "extend" then some .extend
  else if x = Str.ofString "pop" then some .pop
  else if x = Str.ofString "index" then some .index
  else if x = Str.ofString "join" then some .join
  else if x = Str.ofString "split" then some .split
  else if x = Str.ofString "count" then some .count
  else none
def plainBase : Expr → Bool
  | .Name .. => true
  | .Constant .. => true
  | .List .. => true
  | .Subscript .. => true
  | .Attribute .. => true
  | _ => false
def plainTest : Expr → Bool
  | .UnaryOp .Not _ _ => false
  | .BoolOp .. => false
  | .IfExp .. => false
  | .Compare .. => false
  | _ => true
def isComp : Expr → Bool
  | .ListComp .. => true
  | .SetComp .. => true
  | .DictComp .. => true
  | _ => false
/-- targets: names, tuples of targets -/
def compGs (f : Expr → Option (List Nat × Tg)) : List Expr → Option (List Nat × List Tg)
  | [] => some ([], [])
  | e :: es => match f e, compGs f es with
    | some (js, g), some (ks, gs) => some (js ++ ks, g :: gs)
    | _, _ => none
def compG (c : Cc) : Nat → Expr → Option (List Nat × Tg)
  | 0, _ => none
  | n + 1, e => match e with
    | .Name x _ => if c.loc x = true then (match ixOf c.N x with
      | some i => some ([i], gVar i)
      | none => none) else none
    | .Tuple es _ _ => if es.all (fun e => !isStar e) = true then (match compGs (compG c n) es with
      | some (js, gs) => some (js, gTuple gs)
      | none => none) else none
    | _ => none
def ownOf (N : List Str) (names : List (Str × NameKind)) : List (Str × Nat) := names.filterMap fun y => match y.2 with
  | .local => (match ixOf N y.1 with
    | some i => some (y.1, i)
    | none => none)
  | .cell => (match ixOf N y.1 with
    | some i => some (y.1, i)
    | none => none)
  | _ => none
def setArg : List Expr → Option Expr
  | [.Call (.Name r _) [a] [] _] => if r = Str.ofString "set" then some a else none
  | _ => none
theorem setArg_eq {es : List Expr} {a : Expr} (h : setArg es = some a) : ∃ p pos, es = [.Call (.Name (Str.ofString "set") p) [a] [] pos] := by
  unfold setArg at h
  split at h
  · split at h
    · next e => cases h; subst e; exact ⟨_, _, rfl⟩
    · cases h
  · cases h
def rgArg : List Expr → Option (List Expr)
  | [.Call (.Name r _) as [] _] => if r = Str.ofString "range" then some as else none
  | _ => none
theorem rgArg_eq {es as : List Expr} (h : rgArg es = some as) : ∃ p pos, es = [.Call (.Name (Str.ofString "range") p) as [] pos] := by
  unfold rgArg at h
  split at h
  · split at h
    · next e => cases h; subst e; exact ⟨_, _, rfl⟩
    · cases h
  · cases h
def lstTup (x : Str) : Option Bool := if x = Str.ofString "list" then some true else if x = Str.ofString "tuple" then some false else none
def isTuple : Expr → Bool
  | .Tuple .. => true
  | _ => false
theorem isTuple_eq {e : Expr} (h : isTuple e = true) : ∃ es k p, e = .Tuple es k p := by
  cases e <;> first | exact ⟨_, _, _, rfl⟩ | exact nomatch h
mutual
def compE (c : Cc) : Nat → Expr → Option (Env → M W)
  | 0, _ => none
  | n + 1, e => match e with
    | .Constant (.int i) _ _ => some (sCon (.int i))
    | .Constant (.bool i) _ _ => some (sCon (.bool i))
    | .Constant (.str i) _ _ => some (sCon (.str i))
    | .Constant .none _ _ => some (sCon .none)
    | .Name x _ => if (c.vis x && plainName x) = true then (match ixOf c.N x with
      | some i => some (sVar i)
      | none => none) else none
    | .BinOp a o b _ => (match binOp o, compE c n a, compE c n b with
      | some op, some f, some g => some (sBin op f g)
      | _, _, _ => none)
    | .UnaryOp .USub a _ => (match compE c n a with
      | some f => some (sUn opNeg f)
      | none => none)
    | .UnaryOp .Not a _ => (match compE c n a with
      | some f => some (sNotV f)
      | none => none)
    | .BoolOp o es _ => compV c n o es
    | .Compare a [o] [b] _ => (match cmpOp o, compE c n a, compE c n b with
      | some op, some f, some g => if behindInMarks o b = false then some (sBin op f g) else none
      | _, _, _ => none)
    | .Compare a [o, o'] [b, d] _ => (match cmpOp o, cmpOp o', compE c n a, compE c n b, compE c n d with
      | some op, some op', some f, some g, some h => if lastMarks [o, o'] [b, d] = false then some (sChain op op' f g h) else none
      | _, _, _, _, _ => none)
    | .IfExp t a b _ => (match compT c n t, compE c n a, compE c n b with
      | some p, some f, some g => some (sIf p f g)
      | _, _, _ => none)
    | .Subscript a (.Slice none none (some (.UnaryOp .USub (.Constant (.int i) _ _) _)) _) _ => if i = 1 then (match compE c n a with
      | some f => some (sUn opRev f)
      | none => none) else none
    | .Subscript a (.Slice lo hi none _) _ => (match compE c n a, compO c n lo, compO c n hi with
      | some f, some l, some u => some (sSlice f l u)
      | _, _, _ => none)
    | .Subscript a i _ => if isSlice i = false then (match compE c n a, compE c n i with
      | some f, some g => some (sBin opIx f g)
      | _, _ => none) else none
    | .Tuple es _ _ => (match compA c n es with
      | some fs => some (sCallB opTup (sArgs fs))
      | none => none)
    | .List es _ => (match compA c n es with
      | some fs => some (sCallB opLst (sArgs fs))
      | none => none)
    | .Call (.Name x _) (a :: as) [] _ => if (c.gl x && plainName x) = true then (match c.fns x with
      | some (k, F) => (match compA c n (a :: as) with
        | some fs => (match c.df1 x with
          | some (z, _) => if (a :: as).length + 1 = k then some (sCallD k F z (sArgs fs)) else some (sCallF k F (sArgs fs))
          | none => some (sCallF k F (sArgs fs)))
        | none => none)
      | none => if c.blt x = true then (match as with
        | [.Name y _] => if x = Str.ofString "isinstance" then (match tyOf y, compE c n a with
            | some ty, some f => if (c.gl y && c.blt y && !isStar a) = true then some (sUn (opIsi ty) f) else none
            | _, _ => none)
          else compB c n x (a :: as)
        | _ => compB c n x (a :: as)) else none) else none
    | .Call (.Name x _) (a :: as) [⟨some y, v, _⟩] _ => if (c.gl x && plainName x) = true then (match c.fns x, c.df1 x, compA c n (a :: as), compE c n v with
      | some (k, F), some (z, y'), some fs, some g => if y = y' then some (sCallK k F (sArgs fs) g) else none
      | _, _, _, _ => none) else none
    | .Call (.Attribute o m p) (a :: as) [] q => (match mthOf m, compE c n o, compA c n (a :: as) with
      | some mt, some f, some fs => if (plainBase o && (p.endLine == q.line) && decide ((a :: as).length < 30)) = true then some (sMeth mt.rcv mt.op f (sArgs fs)) else none
      | _, _, _ => none)
    | .Call (.Attribute o m p) [] [] q => if m = Str.ofString "pop" then (match compE c n o with
      | some f => if (plainBase o && (p.endLine == q.line)) = true then some (sMeth isLst opPop f (sArgs [])) else none
      | none => none) else none
    | .ListComp elt [⟨tg, iter, ifs, 0⟩] scope _ =>
      let own := ownOf c.N scope.names
      let c' : Cc := { c with sc := relS scope c.sc, fnv := fun x => scope.names.lookup x == some .cell }
      if (blkC c.N c.sc scope own && !isSet iter) = true then (match compI c n tg iter, compG c' n tg, compIfs c' n ifs, compE c' n elt with
      | some it, some (js, g), some p, some f => if (js.all fun j => (own.map (·.2)).contains j) = true then some (sLc it (own.map (·.2)) g p f) else none
      | _, _, _, _ => none) else none
    | _ => none
def compV (c : Cc) : Nat → BoolOp → List Expr → Option (Env → M W)
  | 0, _, _ => none
  | n + 1, o, es => match es with
    | [] => none
    | [a] => compE c n a
    | a :: b :: rest => (match compE c n a, compV c n o (b :: rest) with
      | some f, some g => some (match o with
        | .And => sAndV f g
        | .Or => sOrV f g)
      | _, _ => none)
def compB (c : Cc) : Nat → Str → List Expr → Option (Env → M W)
  | 0, _, _ => none
  | n + 1, x, es => (match setArg es with
    | some a => if (c.gl (Str.ofString "set") && c.blt (Str.ofString "set")) = true then (match compE c n a with
      | some f => if isStar a = false then (if x = Str.ofString "sorted" then some (sUn opSortSet f) else if x = Str.ofString "len" then some (sUn opLenSet f) else none) else none
      | none => none) else none
    | none => (match rgArg es with
    | some as => (match lstTup x with
      | some l => if (c.gl (Str.ofString "range") && c.blt (Str.ofString "range")) = true then (match as with
        | [a] => (match compE c n a with
          | some f => if isStar a = false then some (sUn (opRg1 l) f) else none
          | none => none)
        | [a, b] => (match compE c n a, compE c n b with
          | some f, some g => if isStar a = false then (if isStar b = false then some (sBin (opRg2 l) f g) else none) else none
          | _, _ => none)
        | _ => none) else none
      | none => none)
    | none => (match compA c n es with
      | some fs => (match bltOf x with
        | some b => some (sCallB b.op (sArgs fs))
        | none => (match btyOf x with
          | some b => some (sCallB b.op (sArgs fs))
          | none => none))
      | none => none)))
def compO (c : Cc) : Nat → Option Expr → Option (Option (Env → M W))
  | 0, _ => none
  | n + 1, e => match e with
    | none => some none
    | some e => (match compE c n e with
      | some f => some (some f)
      | none => none)
def compA (c : Cc) : Nat → List Expr → Option (List (Env → M W))
  | 0, _ => none
  | n + 1, es => match es with
    | [] => some []
    | e :: es => if isStar e = false then (match compE c n e, compA c n es with
      | some f, some fs => some (f :: fs)
      | _, _ => none) else none
def compT (c : Cc) : Nat → Expr → Option (Env → M Bool)
  | 0, _ => none
  | n + 1, e => match e with
    | .UnaryOp .Not a _ => (match compT c n a with
      | some p => some (sNot p)
      | none => none)
    | .BoolOp o es _ => compW c n o es
    | .Compare a [o] [b] _ => (match cmpOp o, compE c n a, compE c n b with
      | some op, some f, some g => if behindInMarks o b = false then some (sTestB (sBin op f g)) else none
      | _, _, _ => none)
    | .Compare a [o, o'] [b, d] _ => (match cmpOp o, cmpOp o', compE c n a, compE c n b, compE c n d with
      | some op, some op', some f, some g, some h => if lastMarks [o, o'] [b, d] = false then some (sTestB (sChain op op' f g h)) else none
      | _, _, _, _, _ => none)
    | .Compare a [o, o', o2] [b, d, d2] _ => (match cmpOp o, cmpOp o', cmpOp o2, compE c n a, compE c n b, compE c n d, compE c n d2 with
      | some op, some op', some op2, some f, some g, some h, some f4 => if lastMarks [o, o', o2] [b, d, d2] = false then some (sTestB (sChain3 op op' op2 f g h f4)) else none
      | _, _, _, _, _, _, _ => none)
    | e => if plainTest e = true then (match compE c n e with
      | some f => some (sTest f)
      | none => none) else none
def compW (c : Cc) : Nat → BoolOp → List Expr → Option (Env → M Bool)
  | 0, _, _ => none
  | n + 1, o, es => match es with
    | [] => none
    | [a] => compT c n a
    | a :: b :: rest => (match compT c n a, compW c n o (b :: rest) with
      | some f, some g => some (match o with
        | .And => sAnd f g
        | .Or => sOr f g)
      | _, _ => none)
def compIfs (c : Cc) : Nat → List Expr → Option (Env → M Bool)
  | 0, _ => none
  | n + 1, es => match es with
    | [] => some sYes
    | [a] => compT c n a
    | _ => none
def compI (c : Cc) : Nat → Expr → Expr → Option (Env → M Iter)
  | 0, _, _ => none
  | n + 1, tg, e => match e with
    | .Call (.Name x p) as [] q => if x = Str.ofString "range" then (if (c.gl x && c.blt x) = true then (match as, compA c n as with
        | [_], some fs => some (sIterC opRange1 (sArgs fs))
        | [_, _], some fs => some (sIterC opRange2 (sArgs fs))
        | [_, _, _], some fs => some (sIterC opRange3 (sArgs fs))
        | _, _ => none) else none)
      else if x = Str.ofString "zip" then (if (c.gl x && c.blt x && isTuple tg) = true then (match as, compA c n as with
        | [_, _], some fs => some (sIterC opZip (sArgs fs))
        | _, _ => none) else none)
      else if x = Str.ofString "enumerate" then (if (c.gl x && c.blt x && isTuple tg) = true then (match as, compA c n as with
        | [_], some fs => some (sIterC opEnum (sArgs fs))
        | _, _ => none) else none)
      else (match compE c n (.Call (.Name x p) as [] q) with
        | some f => some (sIter f)
        | none => none)
    | e => (match compE c n e with
      | some f => some (sIter f)
      | none => none)
end
end Ev

namespace Ev
open PySem PySem.Spec PyProof.Rows L2

/-- the classes of exceptions, as they stand behind the top -/
structure ExcsOk (K : PySem.W.Frag) (mg : Str → Option Value) (exc : Str → Bool) : Prop where
  cls : ∀ x, exc x = true → ∃ C : Addr, mg x = some (.ref C) ∧ PySem.W.excIn K C [.type "ValueError", .type "Exception", .type "BaseException", .type "object"] "ValueError.__new__" = true ∧ PySem.W.keepIn K (.ref C) = true ∧ PySem.W.subIn K (.ref C) (.type "BaseException") = some true ∧ PySem.W.typeIn K (.ref C) = some (.type "type")
  sub : ∀ x y cx cy, exc x = true → exc y = true → mg x = some cx → mg y = some cy → PySem.W.exmOne K cx cy = some (excSub x y)
structure Ok (X : Cx) (c : Cc) (CX : CXT) (k : Nat) : Prop where
  N : X.N = c.N
  nd : X.N.Nodup
  sc : X.env.scope = c.sc
  calm : X.calm = true
  room : Room k X.A
  fnv : ∀ x, X.fn x = c.fnv x
  own : PassesOwn (model X.prog X.w) X.A X.env X.xe
  fns : ∀ x n F, c.fns x = some (n, F) → FnIn X CX k x n F
  blt : ∀ x, c.blt x = true → X.mg x = none
  no : ∀ outer H s e s', CX outer H s (fun _ _ _ => False) e s' → False
  exs : ExcsOk X.K X.mg c.exc
  dfs : ∀ x n F z y, c.fns x = some (n, F) → c.df1 x = some (z, y) → FnD X CX k x n F z y

section
variable {X : Cx} {c : Cc} {CX : CXT} {k : Nat}
theorem Ok.gl (o : Ok X c CX k) {x : Str} (h : c.gl x = true) : Gl X x := by
  show X.env.scope.names.lookup x = _
  rw [o.sc]
  exact of_decide_eq_true h
theorem Ok.vis (o : Ok X c CX k) {x : Str} (h : c.vis x = true) : Vis X.env.scope x := by
  unfold Vis
  rw [o.sc]
  unfold Cc.vis at h
  rw [Bool.or_eq_true, Bool.or_eq_true] at h
  rcases h with (h | h) | h
  · exact .inl (of_decide_eq_true h)
  · exact .inr (.inl (of_decide_eq_true h))
  · exact .inr (.inr (of_decide_eq_true h))
theorem Ok.loc (o : Ok X c CX k) {x : Str} (h : c.loc x = true) : L2.Loc X.env.scope x ∧ (X.fn x = true ∨ X.env.scope.names.lookup x = some .local) := by
  unfold L2.Loc
  rw [o.sc, o.fnv]
  unfold Cc.loc at h
  rw [Bool.and_eq_true, Bool.or_eq_true, Bool.or_eq_true] at h
  refine ⟨?_, ?_⟩
  · rcases h.1 with h | h
    · exact .inl (of_decide_eq_true h)
    · exact .inr (of_decide_eq_true h)
  · rcases h.2 with h | h
    · exact .inl h
    · exact .inr (of_decide_eq_true h)
theorem Ok.at_ (o : Ok X c CX k) {x : Str} {i : Nat} (h : ixOf c.N x = some i) : X.N[i]? = some x := by rw [o.N]; exact ixOf_get h
theorem Ok.u64 (o : Ok X c CX k) : X.A.units + 64 < cLine := o.room.units
theorem Ok.u65 (o : Ok X c CX k) : X.A.units + 65 < cLine := by have := o.room.un; omega
theorem plain_of {x : Str} (h : plainName x = true) : (x == ("__debug__" : Str)) = false ∧ (x == ("__classdict__" : Str)) = false ∧ x ≠ "__name__" := by
  unfold plainName at h
  rw [Bool.and_eq_true, Bool.and_eq_true] at h
  refine ⟨by simpa using h.1.1, by simpa using h.1.2, ?_⟩
  have := h.2
  simpa using this
theorem o_bin {mg : Str → Option Value} {E : XK} {o : Operator} {op : W → W → M W} (h : binOp o = some op) : OpR X (binaryOp o) (rOf X.K mg E op) := by
  cases o <;> first
    | (cases h; exact o_add)
    | (cases h; exact o_sub)
    | (cases h; exact o_mul)
    | (cases h; exact o_div)
    | (cases h; exact o_mod)
    | (cases h; exact o_pow)
    | (cases h; exact o_shl)
    | cases h
theorem o_cmp {mg : Str → Option Value} {E : XK} {o : CmpOp} {op : W → W → M W} (hu : X.A.units + 65 < cLine) (h : cmpOp o = some op) : OpR X (compareOp o) (rOf X.K mg E op) := by
  cases o <;> first
    | (cases h; exact o_eq (by omega))
    | (cases h; exact o_ne (by omega))
    | (cases h; exact o_lt)
    | (cases h; exact o_le)
    | (cases h; exact o_gt)
    | (cases h; exact o_ge)
    | (cases h; exact o_isN)
    | (cases h; exact o_notN)
    | (cases h; exact o_in hu)
    | (cases h; exact o_notIn hu)
    | cases h
theorem tyOf_eq {x : Str} {t : Ty} (h : tyOf x = some t) : x = Str.ofString t.name := by
  unfold tyOf at h
  split at h
  · next e => cases h; exact e
  · split at h
    · next e => cases h; exact e
    · split at h
      · next e => cases h; exact e
      · split at h
        · next e => cases h; exact e
        · split at h
          · next e => cases h; exact e
          · cases h
theorem bltOf_eq {x : Str} {t : Blt} (h : bltOf x = some t) : x = Str.ofString t.name := by
  unfold bltOf at h
  repeat' split at h
  all_goals first
    | (next e => cases h; exact e)
    | cases h
theorem btyOf_eq {x : Str} {t : BTy} (h : btyOf x = some t) : x = Str.ofString t.name := by
  unfold btyOf at h
  repeat' split at h
  all_goals first
    | (next e => cases h; exact e)
    | cases h
theorem blt_boot (b : Blt) : bootBuiltins (Str.ofString b.name) = some (.builtin b.name) := by cases b <;> decide +kernel
theorem bty_boot (b : BTy) : bootBuiltins (Str.ofString b.name) = some (.type b.name) := by cases b <;> decide +kernel
theorem c_blt {mg : Str → Option Value} {E : XK} (hc : X.calm = true) (b : Blt) : CallR X (.builtin b.name) (cOf X.K mg E b.op) := by
  cases b
  · exact c_len
  · exact c_abs
  · exact c_max hc
  · exact c_min hc
  · exact c_sum hc
  · exact c_all hc
  · exact c_any hc
  · exact c_sorted
theorem c_bty {mg : Str → Option Value} {E : XK} (b : BTy) : CallR X (.type b.name) (cOf X.K mg E b.op) := by
  cases b
  · exact c_tuple
  · exact c_list
  · exact c_int
  · exact c_str
/-- the type that has the method -/
def tyAsk (m : Mth) : String := match m with
  | .join => "str" | .split => "str" | _ => "list"
theorem ty_of {K : PySem.W.Frag} {μ : Mu} {fr : List Addr} {st : Store} {H : Hp} {w : W} {v : V} {m : Mth} (sr : SR μ st H) (r : RepW K μ fr H w v) (h : m.rcv w = true) : tyV K (tyAsk m) v H := by
  have lst : isLst w = true → tyV K "list" v H := fun e => by
    cases w with
    | ref i =>
      obtain ⟨_, a, ha, rfl⟩ := r
      have hl : i < st.length := by rw [← sr.len]; exact (List.getElem?_eq_some_iff.mp ha).1
      obtain ⟨⟨xs⟩, hc⟩ : ∃ c, st[i]? = some c := ⟨_, List.getElem?_eq_getElem hl⟩
      obtain ⟨a', vs, h1, h2, _⟩ := sr.cell i xs hc
      rw [ha] at h1
      cases h1
      exact .inl ⟨rfl, vs, SqL.of h2⟩
    | new xs =>
      obtain ⟨a, vs, _, rfl, h1, _⟩ := r
      exact .inl ⟨rfl, vs, SqL.of h1⟩
    | scr ns => exact nomatch e
    | d x =>
      obtain ⟨_, r⟩ := r
      cases r with
      | list h1 _ _ => exact .inl ⟨rfl, _, SqL.of h1⟩
      | none => exact nomatch e
      | bool _ => exact nomatch e
      | int _ => exact nomatch e
      | str _ => exact nomatch e
      | tuple _ _ => exact nomatch e
  have str : isStr w = true → tyV K "str" v H := fun e => by
    cases w with
    | ref i => exact nomatch e
    | new xs => exact nomatch e
    | scr ns => exact nomatch e
    | d x =>
      obtain ⟨_, r⟩ := r
      cases r with
      | str _ => rfl
      | none => exact nomatch e
      | bool _ => exact nomatch e
      | int _ => exact nomatch e
      | list _ _ _ => exact nomatch e
      | tuple _ _ => exact nomatch e
  cases m
  · exact lst h
  · exact lst h
  · exact lst h
  · exact lst h
  · exact str h
  · exact str h
  · exact lst h
theorem base_of {o : Expr} {m : Str} {env : PySem.Env} (h : plainBase o = true) : attributeBase o m env (eval o env) = eval o env := by
  cases o <;> first | rfl | exact nomatch h
end
section
variable {X : Cx} {mg : Str → Option Value} {E : XK} {o e : Expr} {es : List Expr} {f : Env → M W} {t : Env → M (List W)} {m : Mth} {name : Str} {apos cpos : Pos} {id : String}
theorem tBM_of {σ : L2.St} {H : Hp} {Q : VK} (h : tE X.K mg E (sMeth m.rcv m.op f t) σ H Q) : tBM X.K (tyAsk m) (mOf X.K mg E m.op) (tE X.K mg E f) (tA X.K mg E t) σ H Q := by
  obtain ⟨μ, ρ, st, hs, hr, h⟩ := h
  refine ⟨μ, ρ, st, hs, hr, (PostG.bind (R := RepW X.K) h (.start hr)).mono fun x H1 ⟨μ1, fr1, w1, st1, a1, r1, h1⟩ => ?_⟩
  by_cases hk : m.rcv w1 = true
  · rw [if_pos hk] at h1
    refine ⟨ty_of a1.sr r1 hk, μ1, ρ, st1, hs.ext a1.ext, a1.sr, (PostG.bind (R := RepWs X.K) h1 a1).mono fun xs H2 ⟨μ2, fr2, ws, st2, a2, r2, h2⟩ => ?_⟩
    exact ⟨μ, H, μ2, fr1, fr2, w1, ws, st2, a1.trans a2, r1.ext a2.ext a1.mem, r2, h2⟩
  · rw [if_neg hk] at h1
    exact h1.elim
def Mth.nm : Mth → String
  | .append => "append" | .extend => "extend" | .pop => "pop" | .index => "index" | .join => "join" | .split => "split" | .count => "count"
theorem mthOf_eq {x : Str} (h : mthOf x = some m) : x = Str.ofString m.nm := by
  unfold mthOf at h
  repeat' split at h
  all_goals first
    | (next e => cases h; exact e)
    | cases h
theorem r_meth (hu : X.A.units + 65 < cLine) (hm : mthOf name = some m) (ho : PE X o (tE X.K mg E f)) (ha : PA X (e :: es) (tA X.K mg E t)) (hb : plainBase o = true) (hl : (apos.endLine == cpos.line) = true) (hn : (e :: es).length < 30) (hs : (e :: es).all (fun e => !isStar e) = true) :
    PE X (.Call (.Attribute o name apos) (e :: es) [] cpos) (tE X.K mg E (sMeth m.rcv m.op f t)) := by
  have hs' := hs
  rw [List.all_cons, Bool.and_eq_true] at hs
  have h1 := star_cons (e := e) es X.env (by simpa using hs.1)
  have h2 := star_any (env := X.env) (pos := cpos) hs.2
  have hfew : ((backTo cpos (starEach (e :: es) X.env)).all (fun x => !x.1) && (backToKw cpos (keywordEach [] X.env)).all (fun x => x.1.isSome)
      && decide ((e :: es).length + ([] : List Keyword).length + (if ([] : List Keyword).isEmpty then 0 else 1) < 30)) = true := by
    rw [star_all hs']
    show (true && true && decide ((e :: es).length + 0 + 0 < 30)) = true
    rw [decide_eq_true (by omega)]
    rfl
  have e0 := mthOf_eq hm
  subst e0
  cases m
  · exact PE_imp (pe_bm F.plainAttrs_list F.slot_list_append F.type_list_append m_append ho ha (base_of hb) hfew hl h1 h2) fun _ _ _ h => tBM_of (m := .append) h
  · exact PE_imp (pe_bm F.plainAttrs_list F.slot_list_extend F.type_list_extend m_extend ho ha (base_of hb) hfew hl h1 h2) fun _ _ _ h => tBM_of (m := .extend) h
  · exact PE_imp (pe_bm F.plainAttrs_list F.slot_list_pop F.type_list_pop m_pop ho ha (base_of hb) hfew hl h1 h2) fun _ _ _ h => tBM_of (m := .pop) h
  · exact PE_imp (pe_bm F.plainAttrs_list F.slot_list_index F.type_list_index (m_index hu) ho ha (base_of hb) hfew hl h1 h2) fun _ _ _ h => tBM_of (m := .index) h
  · exact PE_imp (pe_bm F.plainAttrs_str F.slot_str_join F.type_str_join m_join ho ha (base_of hb) hfew hl h1 h2) fun _ _ _ h => tBM_of (m := .join) h
  · exact PE_imp (pe_bm F.plainAttrs_str F.slot_str_split F.type_str_split m_split ho ha (base_of hb) hfew hl h1 h2) fun _ _ _ h => tBM_of (m := .split) h
  · exact PE_imp (pe_bm F.plainAttrs_list F.slot_list_count F.type_list_count (m_count hu) ho ha (base_of hb) hfew hl h1 h2) fun _ _ _ h => tBM_of (m := .count) h
theorem r_pop0 (ho : PE X o (tE X.K mg E f)) (hb : plainBase o = true) (hl : (apos.endLine == cpos.line) = true) :
    PE X (.Call (.Attribute o "pop" apos) [] [] cpos) (tE X.K mg E (sMeth isLst opPop f (sArgs []))) :=
  PE_imp (pe_bm0 F.plainAttrs_list F.slot_list_pop F.type_list_pop m_pop ho (base_of hb) hl) fun σ H Q ⟨μ, ρ, st, hs, hr, h⟩ => by
    refine ⟨μ, ρ, st, hs, hr, (PostG.bind (R := RepW X.K) h (.start hr)).mono fun x H1 ⟨μ1, fr1, w1, st1, a1, r1, h1⟩ => ?_⟩
    by_cases hk : isLst w1 = true
    · rw [if_pos hk] at h1
      exact ⟨ty_of (m := .pop) a1.sr r1 hk, μ, H, μ1, fr1, [], w1, [], st1, a1, r1, .nil, h1⟩
    · rw [if_neg hk] at h1
      exact h1.elim
end
end Ev

namespace Ev
open PySem PySem.Spec PyProof.Rows L2

theorem compG_snd {X : Cx} {c : Cc} {CX : CXT} {k : Nat} (o : Ok X c CX k) : ∀ (n : Nat) (e : Expr) (js : List Nat) (g : Tg), compG c n e = some (js, g) → PG X e (tG X.K js g)
  | 0, _, _, _, h => nomatch h
  | n + 1, e, js, g, h => by
    have ih := compG_snd o n
    unfold compG at h
    split at h
    · next x _ =>
      split at h
      · next hl =>
        cases q : ixOf c.N x with
        | none => rw [q] at h; cases h
        | some i =>
          rw [q] at h
          cases h
          exact g_var o.nd (o.at_ q) (o.loc hl).1 (o.loc hl).2
      · cases h
    · next es _ _ =>
      split at h
      · next hs =>
        have key : ∀ (es : List Expr) (js : List Nat) (gs : List Tg), es.all (fun e => !isStar e) = true → compGs (compG c n) es = some (js, gs) → es.length = gs.length ∧ PGs X es (tGs X.K js gs) := by
          intro es
          induction es with
          | nil =>
            intro js gs _ h
            cases h
            exact ⟨rfl, gs_nil⟩
          | cons e es ihs =>
            intro js gs hst h
            rw [List.all_cons, Bool.and_eq_true] at hst
            unfold compGs at h
            split at h
            · next js1 g1 ks gs1 e1 e2 =>
              cases h
              obtain ⟨hl, hp⟩ := ihs ks gs1 hst.2 e2
              exact ⟨by rw [List.length_cons, List.length_cons, hl], gs_cons (ih e js1 g1 e1) hp (by simpa using hst.1)⟩
            · cases h
        cases q : compGs (compG c n) es with
        | none => rw [q] at h; cases h
        | some r =>
          obtain ⟨js', gs⟩ := r
          rw [q] at h
          cases h
          obtain ⟨hl, hp⟩ := key es js gs hs q
          exact g_tup o.calm hp hl hs
      · cases h
    · cases h

structure IH (n : Nat) : Prop where
  e : ∀ (X : Cx) (c : Cc) (CX : CXT) (k : Nat) (E : XK) (e : Expr) (f : Env → M W), Ok X c CX k → Passes CX X E → compE c n e = some f → PE X e (tE X.K X.mg E f)
  v : ∀ (X : Cx) (c : Cc) (CX : CXT) (k : Nat) (E : XK) (o : BoolOp) (es : List Expr) (pos : Pos) (f : Env → M W), Ok X c CX k → Passes CX X E → compV c n o es = some f → PE X (.BoolOp o es pos) (tE X.K X.mg E f)
  b : ∀ (X : Cx) (c : Cc) (CX : CXT) (k : Nat) (E : XK) (x : Str) (e : Expr) (es : List Expr) (p pos : Pos) (f : Env → M W), Ok X c CX k → Passes CX X E → c.gl x = true → c.blt x = true → plainName x = true → compB c n x (e :: es) = some f → PE X (.Call (.Name x p) (e :: es) [] pos) (tE X.K X.mg E f)
  o : ∀ (X : Cx) (c : Cc) (CX : CXT) (k : Nat) (E : XK) (e : Option Expr) (f : Option (Env → M W)), Ok X c CX k → Passes CX X E → compO c n e = some f → PO X e (tO X.K X.mg E (sPart f))
  a : ∀ (X : Cx) (c : Cc) (CX : CXT) (k : Nat) (E : XK) (es : List Expr) (fs : List (Env → M W)), Ok X c CX k → Passes CX X E → compA c n es = some fs → es.all (fun e => !isStar e) = true ∧ PA X es (tA X.K X.mg E (sArgs fs))
  t : ∀ (X : Cx) (c : Cc) (CX : CXT) (k : Nat) (E : XK) (e : Expr) (f : Env → M Bool), Ok X c CX k → Passes CX X E → compT c n e = some f → PT X e (tT X.K X.mg E f)
  w : ∀ (X : Cx) (c : Cc) (CX : CXT) (k : Nat) (E : XK) (o : BoolOp) (es : List Expr) (pos : Pos) (f : Env → M Bool), Ok X c CX k → Passes CX X E → compW c n o es = some f → PW X (.BoolOp o es pos) (tT X.K X.mg E f)
  ifs : ∀ (X : Cx) (c : Cc) (CX : CXT) (k : Nat) (E : XK) (es : List Expr) (f : Env → M Bool), Ok X c CX k → Passes CX X E → compIfs c n es = some f → PTs X es (tT X.K X.mg E f)
  i : ∀ (X : Cx) (c : Cc) (CX : CXT) (k : Nat) (E : XK) (tg e : Expr) (f : Env → M Iter), Ok X c CX k → Passes CX X E → compI c n tg e = some f → PI X tg e (tI X.K X.mg E f)

theorem ih0 : IH 0 := ⟨fun _ _ _ _ _ _ _ _ _ h => (nomatch h), fun _ _ _ _ _ _ _ _ _ _ _ h => (nomatch h), fun _ _ _ _ _ _ _ _ _ _ _ _ _ _ _ _ h => (nomatch h), fun _ _ _ _ _ _ _ _ _ h => (nomatch h),
  fun _ _ _ _ _ _ _ _ _ h => (nomatch h), fun _ _ _ _ _ _ _ _ _ h => (nomatch h), fun _ _ _ _ _ _ _ _ _ _ _ h => (nomatch h), fun _ _ _ _ _ _ _ _ _ h => (nomatch h), fun _ _ _ _ _ _ _ _ _ _ h => (nomatch h)⟩

/-- a comprehension's block -/
theorem Ok.blk {X : Cx} {c : Cc} {CX : CXT} {k : Nat} (o : Ok X c CX k) (scope : Scope) (s : Shared) (H : Hp) (C : Addr) (cl : List (Str × Addr)) (fp : List Addr) :
    Ok (X.blk s H scope (compEnvC scope cl C X.env) fp) { c with sc := relS scope c.sc, fnv := fun x => scope.names.lookup x == some .cell } CX k where
  N := o.N
  nd := o.nd
  sc := by
    show relabel scope X.env = relS scope c.sc
    rw [← o.sc]
    rfl
  calm := o.calm
  room := o.room
  fnv := fun _ => rfl
  own := .never
  fns := fun x n F h => ⟨(o.fns x n F h).ex⟩
  dfs := fun x n F z y h h' => ⟨(o.dfs x n F z y h h').ex⟩
  blt := o.blt
  no := o.no
  exs := o.exs
theorem Ok.blkP {X : Cx} {c : Cc} {CX : CXT} {k : Nat} (o : Ok X c CX k) (scope : Scope) (s : Shared) (H : Hp) (C : Addr) (cl : List (Str × Addr)) (fp : List Addr) : Passes CX (X.blk s H scope (compEnvC scope cl C X.env) fp) (fun _ _ _ => False) :=
  fun pins σ H' s' e s2 I h => o.no _ _ _ _ _ h

theorem step_v {n : Nat} (ih : IH n) (X : Cx) (c : Cc) (CX : CXT) (k : Nat) (E : XK) (o : BoolOp) (es : List Expr) (pos : Pos) (f : Env → M W) (ok : Ok X c CX k) (hp : Passes CX X E) (h : compV c (n + 1) o es = some f) : PE X (.BoolOp o es pos) (tE X.K X.mg E f) := by
  unfold compV at h
  split at h
  · cases h
  · next a => exact r_oneV (ih.e X c CX k E a f ok hp h)
  · next a b rest =>
    split at h
    · next f1 g1 e1 e2 =>
      have h1 := ih.e X c CX k E a f1 ok hp e1
      have h2 := ih.v X c CX k E o (b :: rest) pos g1 ok hp e2
      cases o with
      | And => cases h; exact r_andV h1 h2
      | Or => cases h; exact r_orV h1 h2
    · cases h
theorem step_w {n : Nat} (ih : IH n) (X : Cx) (c : Cc) (CX : CXT) (k : Nat) (E : XK) (o : BoolOp) (es : List Expr) (pos : Pos) (f : Env → M Bool) (ok : Ok X c CX k) (hp : Passes CX X E) (h : compW c (n + 1) o es = some f) : PW X (.BoolOp o es pos) (tT X.K X.mg E f) := by
  unfold compW at h
  split at h
  · cases h
  · next a =>
    cases o with
    | And => exact r_and1 (ih.t X c CX k E a f ok hp h)
    | Or => exact r_or1 (ih.t X c CX k E a f ok hp h)
  · next a b rest =>
    split at h
    · next f1 g1 e1 e2 =>
      have h1 := ih.t X c CX k E a f1 ok hp e1
      have h2 := ih.w X c CX k E o (b :: rest) pos g1 ok hp e2
      cases o with
      | And => cases h; exact r_and h1 h2
      | Or => cases h; exact r_or h1 h2
    · cases h
theorem step_a {n : Nat} (ih : IH n) (X : Cx) (c : Cc) (CX : CXT) (k : Nat) (E : XK) (es : List Expr) (fs : List (Env → M W)) (ok : Ok X c CX k) (hp : Passes CX X E) (h : compA c (n + 1) es = some fs) : es.all (fun e => !isStar e) = true ∧ PA X es (tA X.K X.mg E (sArgs fs)) := by
  unfold compA at h
  split at h
  · cases h
    exact ⟨rfl, r_args_nil⟩
  · next e es =>
    split at h
    · next hs =>
      split at h
      · next f1 fs1 e1 e2 =>
        cases h
        obtain ⟨h1, h2⟩ := ih.a X c CX k E es fs1 ok hp e2
        exact ⟨by rw [List.all_cons, hs, h1]; rfl, r_args_cons (ih.e X c CX k E e f1 ok hp e1) h2 (star_cons _ _ hs)⟩
      · cases h
    · cases h
theorem step_o {n : Nat} (ih : IH n) (X : Cx) (c : Cc) (CX : CXT) (k : Nat) (E : XK) (e : Option Expr) (f : Option (Env → M W)) (ok : Ok X c CX k) (hp : Passes CX X E) (h : compO c (n + 1) e = some f) : PO X e (tO X.K X.mg E (sPart f)) := by
  unfold compO at h
  split at h
  · cases h
    exact r_part0
  · next e =>
    split at h
    · next f1 e1 =>
      cases h
      exact r_part (ih.e X c CX k E e f1 ok hp e1)
    · cases h
theorem step_b {n : Nat} (ih : IH n) (X : Cx) (c : Cc) (CX : CXT) (k : Nat) (E : XK) (x : Str) (e : Expr) (es : List Expr) (p pos : Pos) (f : Env → M W) (ok : Ok X c CX k) (hp : Passes CX X E) (hg : c.gl x = true) (hb : c.blt x = true) (hpl : plainName x = true) (h : compB c (n + 1) x (e :: es) = some f) : PE X (.Call (.Name x p) (e :: es) [] pos) (tE X.K X.mg E f) := by
  unfold compB at h
  obtain ⟨p1, p2, p3⟩ := plain_of hpl
  split at h
  · next a er =>
    obtain ⟨p', pos', ee⟩ := setArg_eq er
    rw [ee]
    split at h
    · next hr =>
      rw [Bool.and_eq_true] at hr
      have gr := ok.gl hr.1
      have br := ok.blt _ hr.2
      have gx := ok.gl hg
      have bx := ok.blt _ hb
      split at h
      · next f1 e1 =>
        have pa := ih.e X c CX k E a f1 ok hp e1
        split at h
        · next ha =>
          split at h
          · next ex => cases h; subst ex; exact r_sortSet ok.calm gx bx gr br pa ha
          · split at h
            · next ex => cases h; subst ex; exact r_lenSet ok.calm gx bx gr br pa ha
            · cases h
        · cases h
      · cases h
    · cases h
  · split at h
    · next as er =>
      obtain ⟨p', pos', ee⟩ := rgArg_eq er
      rw [ee]
      split at h
      · next l el =>
        split at h
        · next hr =>
          rw [Bool.and_eq_true] at hr
          have gr := ok.gl hr.1
          have br := ok.blt _ hr.2
          have gx := ok.gl hg
          have bx := ok.blt _ hb
          unfold lstTup at el
          split at h
          · next a =>
            split at h
            · next f1 e1 =>
              split at h
              · next ha =>
                cases h
                have pa := ih.e X c CX k E a f1 ok hp e1
                split at el
                · next ex => cases el; subst ex; exact r_lstRg1 ok.calm gx bx gr br pa ha
                · split at el
                  · next ex => cases el; subst ex; exact r_tupRg1 ok.calm gx bx gr br pa ha
                  · cases el
              · cases h
            · cases h
          · next a b =>
            split at h
            · next f1 g1 e1 e2 =>
              split at h
              · next ha =>
                split at h
                · next hb2 =>
                  cases h
                  have pa := ih.e X c CX k E a f1 ok hp e1
                  have pb := ih.e X c CX k E b g1 ok hp e2
                  split at el
                  · next ex => cases el; subst ex; exact r_lstRg2 ok.calm gx bx gr br pa pb ha hb2
                  · split at el
                    · next ex => cases el; subst ex; exact r_tupRg2 ok.calm gx bx gr br pa pb ha hb2
                    · cases el
                · cases h
              · cases h
            · cases h
          · cases h
        · cases h
      · cases h
    · split at h
      · next fs e1 =>
        obtain ⟨h1, h2⟩ := ih.a X c CX k E (e :: es) fs ok hp e1
        split at h
        · next b eb =>
          cases h
          have := bltOf_eq eb
          subst this
          exact r_callB (c_blt ok.calm b) (ok.gl hg) (ok.blt _ hb) (blt_boot b) h2 p3 p1 h1
        · split at h
          · next b eb =>
            cases h
            have := btyOf_eq eb
            subst this
            exact r_callTy (c_bty b) (ok.gl hg) (ok.blt _ hb) (bty_boot b) h2 p3 p1 h1
          · cases h
      · cases h
theorem step_ifs {n : Nat} (ih : IH n) (X : Cx) (c : Cc) (CX : CXT) (k : Nat) (E : XK) (es : List Expr) (f : Env → M Bool) (ok : Ok X c CX k) (hp : Passes CX X E) (h : compIfs c (n + 1) es = some f) : PTs X es (tT X.K X.mg E f) := by
  unfold compIfs at h
  split at h
  · cases h
    refine ⟨fun pins s σ H Q I q => pts_nil.run pins s σ H Q I ?_⟩
    obtain ⟨μ, ρ, st, hs, hr, q⟩ := q
    exact PostG.tt q (.start hr)
  · next a => exact pts_one (ih.t X c CX k E a f ok hp h)
  · cases h
theorem step_i {n : Nat} (ih : IH n) (X : Cx) (c : Cc) (CX : CXT) (k : Nat) (E : XK) (tg e : Expr) (f : Env → M Iter) (ok : Ok X c CX k) (hp : Passes CX X E) (h : compI c (n + 1) tg e = some f) : PI X tg e (tI X.K X.mg E f) := by
  unfold compI at h
  split at h
  · next x p as q =>
    split at h
    · next hx =>
      subst hx
      split at h
      · next hg =>
        rw [Bool.and_eq_true] at hg
        split at h
        · next a fs e1 =>
          cases h
          obtain ⟨h1, h2⟩ := ih.a X c CX k E [a] _ ok hp e1
          rw [List.all_cons, Bool.and_eq_true] at h1
          exact i_range1 (ok.gl hg.1) (ok.blt _ hg.2) h2 (by simpa using h1.1)
        · next a b fs e1 =>
          cases h
          obtain ⟨h1, h2⟩ := ih.a X c CX k E [a, b] _ ok hp e1
          rw [List.all_cons, List.all_cons, Bool.and_eq_true, Bool.and_eq_true] at h1
          exact i_range2 (ok.gl hg.1) (ok.blt _ hg.2) h2 (by simpa using h1.1) (by simpa using h1.2.1)
        · next a b d fs e1 =>
          cases h
          obtain ⟨h1, h2⟩ := ih.a X c CX k E [a, b, d] _ ok hp e1
          rw [List.all_cons, Bool.and_eq_true] at h1
          exact i_range3 (ok.gl hg.1) (ok.blt _ hg.2) h2 (by simpa using h1.1) h1.2
        · cases h
      · cases h
    · split at h
      · next _ hx =>
        subst hx
        split at h
        · next hg =>
          rw [Bool.and_eq_true, Bool.and_eq_true] at hg
          obtain ⟨es, kk, tp, rfl⟩ := isTuple_eq hg.2
          split at h
          · next a b fs e1 =>
            cases h
            obtain ⟨h1, h2⟩ := ih.a X c CX k E [a, b] _ ok hp e1
            exact i_zip (ok.gl hg.1.1) (ok.blt _ hg.1.2) h2 h1
          · cases h
        · cases h
      · split at h
        · next _ _ hx =>
          subst hx
          split at h
          · next hg =>
            rw [Bool.and_eq_true, Bool.and_eq_true] at hg
            obtain ⟨es, kk, tp, rfl⟩ := isTuple_eq hg.2
            split at h
            · next a fs e1 =>
              cases h
              obtain ⟨h1, h2⟩ := ih.a X c CX k E [a] _ ok hp e1
              rw [List.all_cons, Bool.and_eq_true] at h1
              exact i_enum (ok.gl hg.1.1) (ok.blt _ hg.1.2) h2 (by simpa using h1.1)
            · cases h
          · cases h
        · split at h
          · next f1 e1 =>
            cases h
            exact i_any (ih.e X c CX k E _ f1 ok hp e1)
          · cases h
  · split at h
    · next f1 e1 =>
      cases h
      exact i_any (ih.e X c CX k E _ f1 ok hp e1)
    · cases h
theorem test_of {e : Expr} (h : plainTest e = true) (env : PySem.Env) : ∀ whole, isTrue e env whole = (do let v ← whole; standAt e.pos; holding [v] (truthy v)) := by
  intro whole
  cases e with
  | UnaryOp op a p => cases op <;> first | rfl | exact nomatch h
  | BoolOp _ _ _ => exact nomatch h
  | IfExp _ _ _ _ => exact nomatch h
  | Compare _ _ _ _ => exact nomatch h
  | _ => rfl
theorem step_t {n : Nat} (ih : IH n) (X : Cx) (c : Cc) (CX : CXT) (k : Nat) (E : XK) (e : Expr) (f : Env → M Bool) (ok : Ok X c CX k) (hp : Passes CX X E) (h : compT c (n + 1) e = some f) : PT X e (tT X.K X.mg E f) := by
  unfold compT at h
  split at h
  · next a p =>
    split at h
    · next f1 e1 =>
      cases h
      exact r_tnot (ih.t X c CX k E a f1 ok hp e1)
    · cases h
  · next o es p => exact (ih.w X c CX k E o es p f ok hp h).pt
  · next a o b p =>
    split at h
    · next op f1 g1 e1 e2 e3 =>
      split at h
      · next hm =>
        cases h
        exact r_tcmp (o_cmp ok.u65 e1) (ih.e X c CX k E a f1 ok hp e2) (ih.e X c CX k E b g1 ok hp e3) hm
      · cases h
    · cases h
  · next a o o' b d p =>
    split at h
    · next op op' f1 g1 h1 e1 e2 e3 e4 e5 =>
      split at h
      · next hm =>
        cases h
        exact r_tchain (o_cmp ok.u65 e1) (o_cmp ok.u65 e2) (ih.e X c CX k E a f1 ok hp e3) (ih.e X c CX k E b g1 ok hp e4) (ih.e X c CX k E d h1 ok hp e5) hm
      · cases h
    · cases h
  · next a o o' o2 b d d2 p =>
    split at h
    · next op op' op2 f1 g1 h1 k1 e1 e2 e3 e4 e5 e6 e7 =>
      split at h
      · next hm =>
        cases h
        exact r_tchain3 (o_cmp ok.u65 e1) (o_cmp ok.u65 e2) (o_cmp ok.u65 e3) (ih.e X c CX k E a f1 ok hp e4) (ih.e X c CX k E b g1 ok hp e5) (ih.e X c CX k E d h1 ok hp e6) (ih.e X c CX k E d2 k1 ok hp e7) hm
      · cases h
    · cases h
  · split at h
    · next hpl =>
      split at h
      · next f1 e1 =>
        cases h
        exact r_truth (ih.e X c CX k E _ f1 ok hp e1) (test_of hpl X.env)
      · cases h
    · cases h
theorem plainIx_of {i : Expr} (h : isSlice i = false) : PlainIx i := by
  intro o j
  cases i <;> first | rfl | exact nomatch h
theorem step_e {n : Nat} (ih : IH n) (X : Cx) (c : Cc) (CX : CXT) (k : Nat) (E : XK) (e : Expr) (f : Env → M W) (ok : Ok X c CX k) (hp : Passes CX X E) (h : compE c (n + 1) e = some f) : PE X e (tE X.K X.mg E f) := by
  unfold compE at h
  split at h
  · cases h; exact r_int
  · cases h; exact r_bool
  · cases h; exact r_str
  · cases h; exact r_none
  · next x p =>
    split at h
    · next hv =>
      rw [Bool.and_eq_true] at hv
      cases q : ixOf c.N x with
      | none => rw [q] at h; cases h
      | some i =>
        rw [q] at h
        cases h
        obtain ⟨p1, p2, p3⟩ := plain_of hv.2
        exact r_var (ok.at_ q) (ok.vis hv.1) p1 p2
    · cases h
  · next a o b p =>
    split at h
    · next op f1 g1 e1 e2 e3 =>
      cases h
      exact r_bin (o_bin e1) (ih.e X c CX k E a f1 ok hp e2) (ih.e X c CX k E b g1 ok hp e3)
    · cases h
  · next a p =>
    split at h
    · next f1 e1 =>
      cases h
      exact r_un u_neg (ih.e X c CX k E a f1 ok hp e1)
    · cases h
  · next a p =>
    split at h
    · next f1 e1 =>
      cases h
      exact r_notV (ih.e X c CX k E a f1 ok hp e1)
    · cases h
  · next o es p => exact ih.v X c CX k E o es p f ok hp h
  · next a o b p =>
    split at h
    · next op f1 g1 e1 e2 e3 =>
      split at h
      · next hm =>
        cases h
        exact r_cmp (o_cmp ok.u65 e1) (ih.e X c CX k E a f1 ok hp e2) (ih.e X c CX k E b g1 ok hp e3) hm
      · cases h
    · cases h
  · next a o o' b d p =>
    split at h
    · next op op' f1 g1 h1 e1 e2 e3 e4 e5 =>
      split at h
      · next hm =>
        cases h
        exact r_chain (o_cmp ok.u65 e1) (o_cmp ok.u65 e2) (ih.e X c CX k E a f1 ok hp e3) (ih.e X c CX k E b g1 ok hp e4) (ih.e X c CX k E d h1 ok hp e5) hm
      · cases h
    · cases h
  · next t a b p =>
    split at h
    · next q1 f1 g1 e1 e2 e3 =>
      cases h
      exact r_ifexp (ih.t X c CX k E t q1 ok hp e1) (ih.e X c CX k E a f1 ok hp e2) (ih.e X c CX k E b g1 ok hp e3)
    · cases h
  · next a i _ _ _ _ _ =>
    split at h
    · next hi =>
      subst hi
      split at h
      · next f1 e1 =>
        cases h
        exact r_revL (ih.e X c CX k E a f1 ok hp e1)
      · cases h
    · cases h
  · next a lo hi _ _ =>
    split at h
    · next f1 l u e1 e2 e3 =>
      cases h
      exact r_slice (ih.e X c CX k E a f1 ok hp e1) (ih.o X c CX k E lo l ok hp e2) (ih.o X c CX k E hi u ok hp e3)
    · cases h
  · next a i p _ _ =>
    split at h
    · next hs =>
      split at h
      · next f1 g1 e1 e2 =>
        cases h
        exact r_ix i_ix (ih.e X c CX k E a f1 ok hp e1) (ih.e X c CX k E i g1 ok hp e2) (plainIx_of hs)
      · cases h
    · cases h
  · next es _ _ =>
    split at h
    · next fs e1 =>
      cases h
      exact r_tup (ih.a X c CX k E es fs ok hp e1).2
    · cases h
  · next es _ =>
    split at h
    · next fs e1 =>
      cases h
      exact r_lst (ih.a X c CX k E es fs ok hp e1).2
    · cases h
  · next x p a as q =>
    split at h
    · next hg =>
      rw [Bool.and_eq_true] at hg
      obtain ⟨p1, p2, p3⟩ := plain_of hg.2
      split at h
      · next kk F e0 =>
        split at h
        · next fs e1 =>
          obtain ⟨h1, h2⟩ := ih.a X c CX k E (a :: as) fs ok hp e1
          split at h
          · next z y e3 =>
            split at h
            · cases h
              exact r_callD (ok.dfs x kk F z y e0 e3) ok.room (ok.gl hg.1) hp h2 p1 h1
            · cases h
              exact r_call (ok.fns x kk F e0) ok.room (ok.gl hg.1) hp h2 p1 h1
          · cases h
            exact r_call (ok.fns x kk F e0) ok.room (ok.gl hg.1) hp h2 p1 h1
        · cases h
      · split at h
        · next hb =>
          split at h
          · next y py =>
            split at h
            · next hx =>
              subst hx
              split at h
              · next ty f1 e1 e2 =>
                split at h
                · next hy =>
                  cases h
                  rw [Bool.and_eq_true, Bool.and_eq_true] at hy
                  exact r_isi (ok.gl hg.1) (ok.blt _ hb) (tyOf_eq e1) (ok.gl hy.1.1) (ok.blt _ hy.1.2) (ih.e X c CX k E a f1 ok hp e2) (by simpa using hy.2)
                · cases h
              · cases h
            · exact ih.b X c CX k E x a _ p q f ok hp hg.1 hb hg.2 h
          · exact ih.b X c CX k E x a as p q f ok hp hg.1 hb hg.2 h
        · cases h
    · cases h
  · next x p a as y v kp q =>
    split at h
    · next hg =>
      rw [Bool.and_eq_true] at hg
      obtain ⟨p1, p2, p3⟩ := plain_of hg.2
      split at h
      · next kk F z y' fs g e0 e3 e1 e2 =>
        split at h
        · next hy =>
          subst hy
          cases h
          obtain ⟨h1, h2⟩ := ih.a X c CX k E (a :: as) fs ok hp e1
          exact r_callK (ok.dfs x kk F z y e0 e3) ok.room (ok.gl hg.1) hp h2 (ih.e X c CX k E v g ok hp e2) p1 h1
        · cases h
      · cases h
    · cases h
  · next o m p a as q =>
    split at h
    · next mt f1 fs e1 e2 e3 =>
      split at h
      · next hb =>
        cases h
        rw [Bool.and_eq_true, Bool.and_eq_true] at hb
        obtain ⟨h1, h2⟩ := ih.a X c CX k E (a :: as) fs ok hp e3
        exact r_meth ok.u65 e1 (ih.e X c CX k E o f1 ok hp e2) h2 hb.1.1 hb.1.2 (of_decide_eq_true hb.2) h1
      · cases h
    · cases h
  · next o m p q =>
    split at h
    · next hm =>
      subst hm
      split at h
      · next f1 e1 =>
        split at h
        · next hb =>
          cases h
          rw [Bool.and_eq_true] at hb
          exact r_pop0 (ih.e X c CX k E o f1 ok hp e1) hb.1 hb.2
        · cases h
      · cases h
    · cases h
  · next elt tg iter ifs scope p =>
    dsimp only at h
    split at h
    · next hb =>
      rw [Bool.and_eq_true] at hb
      split at h
      · next it js g p1 f1 e1 e2 e3 e4 =>
        split at h
        · next hj =>
          cases h
          refine r_lc (own := ownOf c.N scope.names) ok.calm ok.nd (ih.i X c CX k E tg iter it ok hp e1) ?_ (fun s H C cl fp => compG_snd (ok.blk scope s H C cl fp) n tg js g e2)
            (fun s H C cl fp => ih.ifs _ _ CX k _ ifs p1 (ok.blk scope s H C cl fp) (ok.blkP scope s H C cl fp) e3)
            (fun s H C cl fp => ih.e _ _ CX k _ elt f1 (ok.blk scope s H C cl fp) (ok.blkP scope s H C cl fp) e4) (by simpa using hb.2) (fun j hjm => ?_)
          · rw [ok.N, ok.sc]
            exact blkOk_by hb.1
          · have := List.all_eq_true.mp hj j hjm
            simpa using this
        · cases h
      · cases h
    · cases h
  · cases h
theorem ihs : ∀ n, IH n
  | 0 => ih0
  | n + 1 => ⟨step_e (ihs n), step_v (ihs n), step_b (ihs n), step_o (ihs n), step_a (ihs n), step_t (ihs n), step_w (ihs n), step_ifs (ihs n), step_i (ihs n)⟩
end Ev

namespace L2
open PySem PySem.Spec PyProof.Rows
/-- X() -/
theorem pmk_own0 {X : Cx} {C : Addr} {bmB : List Value} {B newId initId : String} {x : Str} {p pos : Pos} (F : ExcBaseFacts B newId initId bmB) (q : PySem.W.excIn X.K C bmB newId = true) (gC : X.mg x = some (.ref C)) (kC : PySem.W.keepIn X.K (.ref C) = true) (r : Raises X (.ref C)) (hg : Gl X x)
    (hdb : (x == ("__debug__" : Str)) = false) : PMk X (.Call (.Name x p) [] [] pos) (fun _ H Q => Q (.ref C) none H) := by
  intro pins s σ H Q I h
  refine wpAny_Call_Name_kw (ld_glob I hg gC ?_ hdb)
  refine PySem.W.callWith_K0 I.kIn kC ?_
  show wpAny _ _ (call (.ref C) []) _ _ _
  obtain ⟨bm, N, nm, qn, bs, hdct, sn, sub, ab, col, dd, k0, k1, k2, k3, k5, mN, hC, hN, hni, T⟩ := exc_obj I.kIn q
  refine wpAny_call_exc_subT F T hC hN hni (fun h' e hm => ?_) (by show 0 ≤ sizeLine; rw [sizeLine_eq]; omega)
  exact mk_of I hm r h (I.hok.gone hm.new)
end L2
namespace Ev
open PySem PySem.Spec PyProof.Rows L2
/-! ### exceptions -/
def sRaise (x : Str) : Env → M Out := fun _ st => some (.exc ⟨x, []⟩, st)
/-- what is caught is forgotten but for slot i -/
def sTry (n : Nat) (exc : Str → Bool) (f : Env → M Out) (x : Str) (i : Nat) (d : PyData) : Env → M Out := fun ρ st => match f ρ st with
  | some (.exc e, st') => if exc e.cls = true then (match e.pay with
    | [] => if excSub e.cls x = true then some (.ok (.nx ((List.replicate n none).set i (some (.d d)))), st') else some (.exc e, st')
    | _ :: _ => none) else none
  | some (.ok o, st') => some (.ok o, st')
  | none => none
theorem slots_none {K : PySem.W.Frag} {μ : Mu} {H : Hp} {σ : L2.St} {n : Nat} (h : σ.length = n) : Slots K μ H (List.replicate n none) σ :=
  ⟨by rw [List.length_replicate, h], fun i w q => by
    have := (List.mem_replicate.mp (List.mem_of_getElem? q)).2
    cases this⟩
theorem SR.subset {μ : Mu} {st : Store} {H : Hp} {O : List Addr} (s : SR μ st H) (hO : O.Nodup) (h : ∀ a ∈ O, a ∈ μ.own) : SR ⟨μ.locs, O⟩ st H := by
  refine ⟨s.len, ?_, fun i xs q => ?_, fun a ha => s.own a (h a ha)⟩
  · have hn := s.nd
    unfold Mu.fp at hn ⊢
    rw [List.nodup_append] at hn ⊢
    exact ⟨hn.1, hO, fun a ha b hb => hn.2.2 a ha b (h b hb)⟩
  · obtain ⟨a, vs, h1, h2, h3⟩ := s.cell i xs q
    exact ⟨a, vs, h1, h2, h3.ext (.sub (fp_sub h))⟩
section
variable {X : Cx} {c : Cc} {CX : CXT} {k : Nat} {E : XK}
theorem p_raise {x : Str} {p pos pos2 : Pos} (o : Ok X c CX k) (tk : Takes X (fun cls d _ H => E cls d H)) (hg : c.gl x = true) (hx : c.exc x = true) (hn : plainName x = true) : PS X (.Raise (some (.Call (.Name x p) [] [] pos)) none pos2) (tS X.K X.mg E (sRaise x)) := by
  obtain ⟨C, h1, h2, h3, h4, h5⟩ := o.exs.cls x hx
  refine PS_imp (ps_raise o.calm tk (pmk_own0 PySem.F.excBase_ValueError h2 h1 h3 (raises_own h4 h5) (o.gl hg) (plain_of hn).1)) fun D σ H ⟨μ, ρ, st, hs, hr, h⟩ => ?_
  exact h μ H (.ref C) none .refl hr ⟨h1, rfl⟩
theorem p_try {body : List Stmt} {x y : Str} {i : Nat} {np pos pos' py pa : Pos} {e : Expr} {d : PyData} {v : V} {f : Env → M Out} (o : Ok X c CX k) (hst : X.stack = X.env :: X.outer) (hfr : X.env.frame = some X.env.locals) (tk : Takes X (fun cls d _ H => E cls d H)) (hg : c.gl x = true) (hx : c.exc x = true) (hn : plainName x = true)
    (hl : c.loc y = true) (hi : ixOf c.N y = some i) (he : ∀ X : Cx, PE X e (tC v)) (hsw : swapsWith e (some (.Name y py)) pa.line X.env = pure false) (hv : ∀ H F, RepD H F d v)
    (hb : ∀ (E' : XK) (pn : List (Addr × Obj)) (xe : Value → Shared → Prop), Takes (X.tr pn xe) (fun cls d _ H => E' cls d H) → PassesOwn (model X.prog X.w) X.A X.env xe → PSs (X.tr pn xe) body (tS X.K X.mg E' f)) :
    PS X (.Try body [.ExceptHandler (some (.Name x np)) none [.Assign [.Name y py] e pa] pos'] [] [] pos) (tS X.K X.mg E (sTry c.N.length c.exc f x i d)) := by
  obtain ⟨C, h1, h2, h3, h4, h5⟩ := o.exs.cls x hx
  refine PS_imp (ps_try_only (c := .ref C) (Wout := fun cls d _ H => E cls d H) (tb := fun W => tS X.K X.mg (fun cls d H => ∀ σ, W cls d σ H) f) (ts := fun _ _ _ => fun D σ H => σ.length = c.N.length → D.nx (σ.set i (some v)) H) hst hfr ⟨o.gl hg, (plain_of hn).1, .inl h1⟩ tk
    (fun W pn xe t po => hb _ pn xe (t.imp fun cls d σ H w => w σ) po) (fun a oe cls dd pn _ _ => ?_)) fun D σ H ⟨μ, ρ, st, hs, hr, h⟩ => ?_
  · have hp : PSs (X.suite a ((a, oe) :: pn)) [.Assign [.Name y py] e pa] (tAsg (tC v) (gName i)) := pss_one (ps_set (X := X.suite a ((a, oe) :: pn)) o.nd (o.at_ hi) (o.loc hl).1 (he _) hsw (o.loc hl).2)
    exact ⟨fun pins s σ H D I q => hp.run pins s σ H D I (q (by rw [I.len]; exact congrArg List.length o.N))⟩
  · refine ⟨μ, ρ, st, hs, hr, ?_⟩
    unfold sTry at h
    cases hf : f ρ st with
    | none => rw [hf] at h; exact h.elim
    | some r =>
      obtain ⟨r, st'⟩ := r
      cases r with
      | ok out =>
        rw [hf] at h
        exact h
      | exc ex =>
        rw [hf] at h
        dsimp only at h
        intro μ' H' cv dv ex1 sr1 hexc σ'
        obtain ⟨hm, hpay⟩ := hexc
        cases hq : c.exc ex.cls with
        | false => rw [hq] at h; exact h.elim
        | true =>
          rw [hq, if_pos rfl] at h
          cases hpp : ex.pay with
          | cons p ps => rw [hpp] at h; exact h.elim
          | nil =>
            rw [hpp] at h
            dsimp only at h
            refine ⟨excSub ex.cls x, o.exs.sub ex.cls x cv (.ref C) hq hx hm h1, fun hb' a ha hlen => ?_, fun hb' => ?_⟩
            · rw [if_pos hb'] at h
              -- trim what is in flight
              have hnd : μ.own.Nodup := by
                have := hr.nd
                unfold Mu.fp at this
                exact (List.nodup_append.mp this).2.1
              have hsub : ∀ b ∈ μ.own, b ∈ μ'.own := fun b hb => (ex1.own b hb).1
              have sr2 := sr1.subset hnd hsub
              have ex2 : Ext μ H ⟨μ'.locs, μ.own⟩ H' := ex1.trim hsub (fun b hb => hb)
              have at2 : At μ H [] ⟨μ'.locs, μ.own⟩ st' H' := ⟨ex2, rfl, sr2⟩
              refine t_next (X := X) h at2 ?_
              have := (slots_none (K := X.K) (μ := ⟨μ'.locs, μ.own⟩) (H := H') (σ := σ') hlen).set (i := i) (w := .d d) (v := v) ⟨rfl, hv _ _⟩
              exact this
            · rw [if_neg (by rw [hb']; decide)] at h
              exact h μ' H' cv dv ex1 sr1 ⟨hm, by rw [hpp] at hpay ⊢; exact hpay⟩
end
end Ev

namespace Ev
open PySem PySem.Spec PyProof.Rows L2

/-! ### name = [..] -/
section
variable {X : Cx} {mg : Str → Option Value} {E : XK} {it : Env → M Iter} {g : Tg} {js : List Nat} {p : Env → M Bool} {f h : Env → M W}
theorem asgN_of {i : Nat} {D : Ends} {σ : L2.St} {H : Hp} (h0 : tS X.K mg E (sAsg h (gVar i)) D σ H) : tAsg (tE X.K mg E h) (gName i) D σ H := by
  obtain ⟨μ, ρ, st, hs, hr, h0⟩ := h0
  refine ⟨μ, ρ, st, hs, hr, (PostG.bind (R := RepW X.K) h0 (.start hr)).mono fun y H1 ⟨μ1, fr1, o, st1, a1, r1, h1⟩ => ?_⟩
  have a0 := a1.trim (List.nil_sublist _)
  exact t_next h1 a0 ((hs.ext a0.ext).set (a1.frz r1))
theorem p_setLc {i : Nat} {y : Str} {py : Pos} {elt tg iter : Expr} {ifs : List Expr} {scope : Scope} {own : List (Str × Nat)} {pos spos : Pos} {F : Env → M Out} (hc : X.calm = true) (hN : X.N.Nodup) (hy : X.N[i]? = some y) (hyl : X.env.scope.names.lookup y = some .local)
    (hsw : swapsWith (.ListComp elt [⟨tg, iter, ifs, 0⟩] scope pos) (some (.Name y py)) spos.line X.env = pure true) (hi : PI X tg iter (tI X.K mg E it)) (ok : BlkOk X.N X.env.scope scope own)
    (hg : ∀ (s : Shared) (H : Hp) (C : Addr) (cl : List (Str × Addr)) (fp : List Addr), PG (X.blk s H scope (compEnvC scope cl C X.env) fp) tg (tG X.K js g))
    (ht : ∀ (s : Shared) (H : Hp) (C : Addr) (cl : List (Str × Addr)) (fp : List Addr), PTs (X.blk s H scope (compEnvC scope cl C X.env) fp) ifs (tT X.K mg (fun _ _ _ => False) p))
    (he : ∀ (s : Shared) (H : Hp) (C : Addr) (cl : List (Str × Addr)) (fp : List Addr), PE (X.blk s H scope (compEnvC scope cl C X.env) fp) elt (tE X.K mg (fun _ _ _ => False) f)) (hset : isSet iter = false) (hj : ∀ j ∈ js, j ∈ own.map (·.2))
    (hF : ∀ D σ H, tS X.K mg E F D σ H → tAsg (tE X.K mg E (sLc it (own.map (·.2)) g p f)) (gName i) D σ H) :
    PS X (.Assign [.Name y py] (.ListComp elt [⟨tg, iter, ifs, 0⟩] scope pos) spos) (tS X.K mg E F) :=
  PS_imp (ps_setLc hc hN hy hyl hsw hi ok hg ht he (folded_no hset)) fun D σ H z => lc_of hj (hF D σ H z)
end
theorem sw_no {e : Expr} {t : Option Expr} {l : Nat} {env : PySem.Env} (h : isComp e = false) : swapsWith e t l env = pure false := by
  unfold swapsWith
  cases e <;> first | rfl | exact nomatch h
theorem sw_false {elt : Expr} {gs : List Comprehension} {scope : Scope} {pos py : Pos} {y : Str} {l : Nat} {env : PySem.Env} (h : (decide (env.scope.names.lookup y = some .local) && (py.line == pos.line) && !(scope.names.any fun (n, k) => n == y && (k == .local || k == .cell))) = false) :
    swapsWith (.ListComp elt gs scope pos) (some (.Name y py)) l env = pure false := by
  show (pure (env.blockKind == .function && env.kindOf y == some .local && py.line == pos.line && !(scope.names.any fun (n, k) => n == y && (k == .local || k == .cell))) : Sem Bool) = pure false
  congr 1
  have e : (env.kindOf y == some NameKind.local) = decide (env.scope.names.lookup y = some .local) := by
    unfold Env.kindOf
    rw [Bool.eq_iff_iff, beq_iff_eq, decide_eq_true_iff]
  rw [e]
  rw [Bool.and_assoc, Bool.and_assoc]
  rw [Bool.and_assoc] at h
  rw [h, Bool.and_false]
/-- swappedStores, by the scope -/
def sw1 (sc : Scope) (ts vs : List Expr) : Bool := !(ts.length == 2 || ts.length == 3) || vs.length != ts.length || (if sc.kind.isAnnotationScope then ScopeKind.function else sc.kind) != .function
def sw2 (vs : List Expr) : Bool := vs.any fun | .Starred .. => true | _ => false
def swNames (sc : Scope) (ts : List Expr) : List Str := ts.filterMap fun
  | .Name id pos => if sc.names.lookup id == some .local && pos.line == (ts.head?.map (·.pos.line)).getD 0 then some id else none
  | _ => none
def sw3 (sc : Scope) (ts : List Expr) : Bool := (swNames sc ts).length != ts.length || (swNames sc ts).eraseDups.length != (swNames sc ts).length
def swapN (sc : Scope) (ts vs : List Expr) : Option (Option (List Str)) :=
  if sw1 sc ts vs = true then some none
  else if sw2 vs = true then some none
  else if sw3 sc ts = true then some none
  else if vs.all (foldedForSure 8) = true then some none
  else if vs.all (constantsAlone 8) = true then none
  else some (some (swNames sc ts))
theorem swapped_eq (ts vs : List Expr) (k k2 : Nat) (p p2 : Pos) (env : PySem.Env) : swappedStores [.Tuple ts k p] (.Tuple vs k2 p2) env =
  (if sw1 env.scope ts vs = true then pure none
  else if sw2 vs = true then pure none
  else if sw3 env.scope ts = true then pure none
  else if vs.all (foldedForSure 8) = true then pure none
  else if vs.all (constantsAlone 8) = true then (unsupported "assign.tuple-of-constant-expressions:order-of-the-stores" >>= fun (_ : Unit) => pure (some (swNames env.scope ts)))
  else pure (some (swNames env.scope ts))) := by
  unfold swappedStores
  first
    | rfl
    | (split <;> first | rfl | (split <;> first | rfl | (split <;> first | rfl | (split <;> first | rfl | (split <;> rfl)))))
theorem swapN_eq {ts vs : List Expr} {k k2 : Nat} {p p2 : Pos} {env : PySem.Env} {r : Option (List Str)} (h : swapN env.scope ts vs = some r) : swappedStores [.Tuple ts k p] (.Tuple vs k2 p2) env = pure r := by
  rw [swapped_eq]
  unfold swapN at h
  by_cases h1 : sw1 env.scope ts vs = true
  · rw [if_pos h1] at h ⊢; cases h; rfl
  · rw [if_neg h1] at h ⊢
    by_cases h2 : sw2 vs = true
    · rw [if_pos h2] at h ⊢; cases h; rfl
    · rw [if_neg h2] at h ⊢
      by_cases h3 : sw3 env.scope ts = true
      · rw [if_pos h3] at h ⊢; cases h; rfl
      · rw [if_neg h3] at h ⊢
        by_cases h4 : vs.all (foldedForSure 8) = true
        · rw [if_pos h4] at h ⊢; cases h; rfl
        · rw [if_neg h4] at h ⊢
          by_cases h5 : vs.all (constantsAlone 8) = true
          · rw [if_pos h5] at h; cases h
          · rw [if_neg h5] at h ⊢; cases h; rfl
theorem swapped_no {tg e : Expr} {env : PySem.Env} (h : ∀ es k p, e ≠ .Tuple es k p) : swappedStores [tg] e env = pure none := by
  unfold swappedStores
  cases tg <;> cases e <;> first | rfl | exact absurd rfl (h _ _ _)
def isName : Expr → Bool
  | .Name .. => true
  | _ => false

/-! ### statements -/
def wFuel : Nat := 100000
def storeTo (c : Cc) (x : Str) (i : Nat) (f : Env → M W) : Env → M Out := if c.cells.contains x = true then sCell i f else sAsg f (gVar i)
def compNs (c : Cc) : List Expr → Option (List (Bool × Nat))
  | [] => some []
  | .Name x _ :: es => if c.loc x = true then (match ixOf c.N x, compNs c es with
    | some i, some cs => some ((c.cells.contains x, i) :: cs)
    | _, _ => none) else none
  | _ => none
def hasCell (c : Cc) (ts : List Expr) : Bool := ts.any fun
  | .Name x _ => c.cells.contains x
  | _ => false
def gNames (cs : List (Bool × Nat)) : TGs := fun vs σ H Q => vs.length = cs.length ∧ Q (setAll σ cs vs) H
theorem gs_names {X : Cx} {c : Cc} {CX : CXT} {k : Nat} (o : Ok X c CX k) : ∀ {ts : List Expr} {cs : List (Bool × Nat)}, compNs c ts = some cs → PGs X ts (gNames cs) ∧ ts.length = cs.length ∧ ts.all (fun e => !isStar e) = true
  | [], cs, h => by
    cases h
    exact ⟨PGs_imp pgs_nil fun vs σ H Q ⟨h1, h2⟩ => ⟨List.eq_nil_of_length_eq_zero h1, by
      obtain rfl := List.eq_nil_of_length_eq_zero h1
      exact h2⟩, rfl, rfl⟩
  | e :: es, cs, h => by
    unfold compNs at h
    split at h
    · next he => cases he
    · next x p es' he =>
      cases he
      split at h
      · next hl =>
        split at h
        · next i cs' e1 e2 =>
          cases h
          obtain ⟨h1, h2, h3⟩ := gs_names o e2
          refine ⟨PGs_imp (pgs_cons (pg_name o.nd (o.at_ e1) (o.loc hl).1 (o.loc hl).2) h1 (by rw [assignEach_cons _ _ rfl]; rfl)) fun vs σ H Q ⟨h4, h5⟩ => ?_, by rw [List.length_cons, List.length_cons, h2], by rw [List.all_cons, h3]; rfl⟩
          match vs, h4, h5 with
          | v :: vs, h4, h5 => exact ⟨v, vs, rfl, by simpa using h4, h5⟩
        · cases h
      · cases h
    · cases h
theorem p_parT {X : Cx} {c : Cc} {CX : CXT} {k : Nat} {E : XK} {mg : Str → Option Value} (o : Ok X c CX k) {ts vs : List Expr} {cs : List (Bool × Nat)} {t : Env → M (List W)} {kt k2 : Nat} {pt p2 pos : Pos} (hn : compNs c ts = some cs) (hl : cs.length ≤ 8) (ha : PA X vs (tA X.K mg E t)) (hw : swappedStores [.Tuple ts kt pt] (.Tuple vs k2 p2) X.env = pure none) :
    PS X (.Assign [.Tuple ts kt pt] (.Tuple vs k2 p2) pos) (tS X.K mg E (sPar cs t)) := by
  obtain ⟨h1, h2, h3⟩ := gs_names o hn
  refine PS_imp (ps_asg (pe_tup ha) (pg_tup (n := cs.length) o.calm h1 (by rw [assignEach_len]; exact h2) (assignEach_nostar h3)) (swapsSole_other (fun _ _ z => by cases z)) hw (by rw [assignEach_cons _ _ rfl]; rfl)) fun D σ H ⟨μ, ρ, st, hs, hr, h⟩ => ?_
  refine ⟨μ, ρ, st, hs, hr, (PostG.bind (R := RepWs X.K) h (.start hr)).mono fun xs H1 ⟨μ1, fr1, ws, st1, a1, r1, h1⟩ => ?_⟩
  have hlen : cs.length = xs.length := (storeAll_of a1 r1 (hs.ext a1.ext) h1).1
  refine ⟨Nat.le_trans (by omega) (show (8 : Nat) ≤ sizeLine by decide), fun p hp => ⟨p, xs, rfl, SqT.of upd_same, hlen.symm, hlen.symm, ?_⟩⟩
  have e1 : Ext μ1 H1 μ1 (upd H1 p (.tup xs)) := Ext.laid a1.sr hp
  have a2 : At μ H fr1 μ1 st1 (upd H1 p (.tup xs)) := ⟨a1.ext.trans e1, a1.own, a1.sr.laid hp⟩
  exact (storeAll_of a2 (r1.ext e1 a1.mem) (hs.ext a2.ext) h1).2
mutual
def compS (c : Cc) : Nat → Stmt → Option (Env → M Out)
  | 0, _ => none
  | n + 1, s => match s with
    | .Pass _ => some sNext
    | .Expr e _ => if isComp e = false then (match compE c n e with
      | some f => some (sExpr f)
      | none => none) else none
    | .Return (some e) _ => (match compE c n e with
      | some f => some (sRet f)
      | none => none)
    | .If t a b _ => (match compT c n t, compSs c n a, compSs c n b with
      | some p, some f, some g => some (sIfS p f g)
      | _, _, _ => none)
    | .While t a [] _ => (match compT c n t, compSs c n a with
      | some p, some f => some (whileLoop p f wFuel)
      | _, _ => none)
    | .For tg it a [] _ => if isSet it = false then (match compI c n tg it, compG c n tg, compSs c n a with
      | some i, some (_, g), some f => some (sFor i g f)
      | _, _, _ => none) else none
    | .Assign [.Name x p] (.ListComp elt [⟨tg, iter, ifs, 0⟩] scope q) _ => if c.loc x = true then (match ixOf c.N x, compE c (n + 1) (.ListComp elt [⟨tg, iter, ifs, 0⟩] scope q) with
      | some i, some f => some (storeTo c x i f)
      | _, _ => none) else none
    | .Assign [.Name x p] e _ => if (c.loc x && !isComp e) = true then (match ixOf c.N x, compE c n e with
      | some i, some f => some (storeTo c x i f)
      | _, _ => none) else none
    | .Assign [.Subscript o i _] e _ => if isSlice i = false then (match compE c n e, compE c n o, compE c n i with
      | some f, some g, some h => some (sSetIx f g h)
      | _, _, _ => none) else none
    | .Assign [.Tuple ts _ _] (.Tuple vs _ _) _ => (match swapN c.sc ts vs with
      | some (some names) => (match ts, vs, compA c n vs with
        | [.Name x _, .Name y _], [_, _], some fs => if names = [x, y] then (if (kindB c.sc x .local && kindB c.sc y .local) = true then (match ixOf c.N x, ixOf c.N y with
          | some i, some j => if i ≠ j then some (sPar [(c.cells.contains x, i), (c.cells.contains y, j)] (sArgs fs)) else none
          | _, _ => none) else none) else none
        | [.Name x _, .Name y _, .Name z _], [_, _, _], some fs => if names = [x, y, z] then (if (kindB c.sc x .local && kindB c.sc y .local && kindB c.sc z .local) = true then (match ixOf c.N x, ixOf c.N y, ixOf c.N z with
          | some i, some j, some l => if i ≠ j ∧ i ≠ l ∧ j ≠ l then some (sPar [(c.cells.contains x, i), (c.cells.contains y, j), (c.cells.contains z, l)] (sArgs fs)) else none
          | _, _, _ => none) else none) else none
        | _, _, _ => none)
      | some none => if hasCell c ts = true then (match compNs c ts, compA c n vs with
        | some cs, some fs => if cs.length ≤ 8 then some (sPar cs (sArgs fs)) else none
        | _, _ => none) else (match compA c n vs, compG c n (.Tuple ts 0 ⟨0, 0, 0, 0⟩) with
        | some fs, some (_, g) => some (sAsg (sCallB opTup (sArgs fs)) g)
        | _, _ => none)
      | none => none)
    | .Assign [.Tuple ts _ _] e _ => if isTuple e = false then (match compE c n e, compG c n (.Tuple ts 0 ⟨0, 0, 0, 0⟩) with
      | some f, some (_, g) => some (sAsg f g)
      | _, _ => none) else none
    | .Raise (some (.Call (.Name x _) [] [] _)) none _ => if (c.gl x && c.exc x && plainName x) = true then some (sRaise x) else none
    | .Try body [.ExceptHandler (some (.Name x _)) none [.Assign [.Name y _] (.Constant (.str d) _ _) _] _] [] [] _ => if (c.gl x && c.exc x && plainName x && c.loc y) = true then (match ixOf c.N y, compSs c n body with
      | some i, some f => some (sTry c.N.length c.exc f x i (.str d))
      | _, _ => none) else none
    | _ => none
def compSs (c : Cc) : Nat → List Stmt → Option (Env → M Out)
  | 0, _ => none
  | n + 1, ss => match ss with
    | [] => some sNext
    | s :: ss => (match compS c n s, compSs c n ss with
      | some f, some g => some (sSeq f g)
      | _, _ => none)
end
theorem compG_tup {X : Cx} {c : Cc} {CX : CXT} {k : Nat} (o : Ok X c CX k) {n : Nat} {ts : List Expr} {js : List Nat} {g : Tg} {kk : Nat} {p : Pos} (h : compG c n (.Tuple ts 0 ⟨0, 0, 0, 0⟩) = some (js, g)) : PG X (.Tuple ts kk p) (tG X.K js g) := by
  refine compG_snd o n (.Tuple ts kk p) js g ?_
  cases n with
  | zero => cases h
  | succ n => exact h
theorem storeTo_snd {X : Cx} {c : Cc} {CX : CXT} {k : Nat} {E : XK} {x : Str} {i : Nat} {e : Expr} {f : Env → M W} {p q : Pos} (o : Ok X c CX k) (hl : c.loc x = true) (hi : ixOf c.N x = some i) (he : PE X e (tE X.K X.mg E f)) (hs : swapsWith e (some (.Name x p)) q.line X.env = pure false) :
    PS X (.Assign [.Name x p] e q) (tS X.K X.mg E (storeTo c x i f)) := by
  unfold storeTo
  split
  · exact p_cell o.nd (o.at_ hi) (o.loc hl).1 (o.loc hl).2 he hs
  · exact PS_imp (ps_set o.nd (o.at_ hi) (o.loc hl).1 he hs (o.loc hl).2) fun D σ H z => asgN_of z
theorem storeTo_asg {X : Cx} {c : Cc} {mg : Str → Option Value} {E : XK} {x : Str} {i : Nat} {f : Env → M W} {D : Ends} {σ : L2.St} {H : Hp} (h : tS X.K mg E (storeTo c x i f) D σ H) : tAsg (tE X.K mg E f) (gName i) D σ H := by
  unfold storeTo at h
  split at h
  · exact p_cell.cell_of h
  · exact asgN_of h

/-- what a block may let out -/
structure Lets (CX : CXT) (X : Cx) (E : XK) : Prop where
  cx : CX = L2.CX X.prog X.w
  tk : Takes X (fun cls d _ H => E cls d H)
  st : X.stack = X.env :: X.outer
  fr : X.env.frame = some X.env.locals
theorem Lets.p {CX : CXT} {X : Cx} {E : XK} (l : Lets CX X E) : Passes CX X E := by
  rw [l.cx]
  exact passes_call l.tk fun _ _ _ _ h => h
structure IS (n : Nat) : Prop where
  s : ∀ (X : Cx) (c : Cc) (CX : CXT) (k : Nat) (E : XK) (e : Stmt) (f : Env → M Out), Ok X c CX k → X.env.scope.kind = .function → Lets CX X E → compS c n e = some f → PS X e (tS X.K X.mg E f)
  ss : ∀ (X : Cx) (c : Cc) (CX : CXT) (k : Nat) (E : XK) (es : List Stmt) (f : Env → M Out), Ok X c CX k → X.env.scope.kind = .function → Lets CX X E → compSs c n es = some f → PSs X es (tS X.K X.mg E f)
theorem step_ss {n : Nat} (ih : IS n) (X : Cx) (c : Cc) (CX : CXT) (k : Nat) (E : XK) (es : List Stmt) (f : Env → M Out) (ok : Ok X c CX k) (hk : X.env.scope.kind = .function) (hp : Lets CX X E) (h : compSs c (n + 1) es = some f) : PSs X es (tS X.K X.mg E f) := by
  unfold compSs at h
  split at h
  · cases h; exact p_nil
  · next s ss =>
    split at h
    · next f1 g1 e1 e2 =>
      cases h
      exact p_cons (ih.s X c CX k E s f1 ok hk hp e1) (ih.ss X c CX k E ss g1 ok hk hp e2)
    · cases h
theorem lcAsg_snd {n : Nat} {X : Cx} {c : Cc} {CX : CXT} {k : Nat} {E : XK} {x : Str} {i : Nat} {elt tg iter : Expr} {ifs : List Expr} {scope : Scope} {f : Env → M W} {p q r : Pos} (ok : Ok X c CX k) (hp : Passes CX X E) (hl : c.loc x = true) (hi : ixOf c.N x = some i)
    (h : compE c (n + 1) (.ListComp elt [⟨tg, iter, ifs, 0⟩] scope q) = some f) (hk : X.env.scope.kind = .function) : PS X (.Assign [.Name x p] (.ListComp elt [⟨tg, iter, ifs, 0⟩] scope q) r) (tS X.K X.mg E (storeTo c x i f)) := by
  cases hsw : (decide (X.env.scope.names.lookup x = some .local) && (p.line == q.line) && !(scope.names.any fun (n, k) => n == x && (k == .local || k == .cell))) with
  | false => exact storeTo_snd ok hl hi ((ihs (n + 1)).e X c CX k E _ f ok hp h) (sw_false hsw)
  | true =>
    rw [Bool.and_eq_true, Bool.and_eq_true] at hsw
    obtain ⟨⟨s1, s2⟩, s3⟩ := hsw
    have hloc : X.env.scope.names.lookup x = some .local := of_decide_eq_true s1
    have s3' : (scope.names.any fun (n, k) => n == x && (k == .local || k == .cell)) = false := by simpa using s3
    simp only [compE] at h
    split at h
    · next hb =>
      rw [Bool.and_eq_true] at hb
      split at h
      · next it js g p1 f1 e1 e2 e3 e4 =>
        split at h
        · next hj =>
          cases h
          have ih := ihs n
          refine p_setLc (own := ownOf c.N scope.names) ok.calm ok.nd (ok.at_ hi) hloc (sw_true hk hloc s2 s3') (ih.i X c CX k E tg iter it ok hp e1) ?_ (fun s H C cl fp => compG_snd (ok.blk scope s H C cl fp) n tg js g e2)
            (fun s H C cl fp => ih.ifs _ _ CX k _ ifs p1 (ok.blk scope s H C cl fp) (ok.blkP scope s H C cl fp) e3)
            (fun s H C cl fp => ih.e _ _ CX k _ elt f1 (ok.blk scope s H C cl fp) (ok.blkP scope s H C cl fp) e4) (by simpa using hb.2) (fun j hjm => ?_) (fun D σ H z => storeTo_asg z)
          · rw [ok.N, ok.sc]
            exact blkOk_by hb.1
          · have := List.all_eq_true.mp hj j hjm
            simpa using this
        · cases h
      · cases h
    · cases h
theorem step_s {n : Nat} (ih : IS n) (X : Cx) (c : Cc) (CX : CXT) (k : Nat) (E : XK) (e : Stmt) (f : Env → M Out) (ok : Ok X c CX k) (hk : X.env.scope.kind = .function) (hp : Lets CX X E) (h : compS c (n + 1) e = some f) : PS X e (tS X.K X.mg E f) := by
  have ie := ihs n
  unfold compS at h
  split at h
  · cases h; exact p_pass
  · next e p =>
    split at h
    · next hc =>
      split at h
      · next f1 e1 =>
        cases h
        exact p_expr (ie.e X c CX k E e f1 ok hp.p e1) (sw_no hc)
      · cases h
    · cases h
  · next e p =>
    split at h
    · next f1 e1 =>
      cases h
      exact p_ret (ie.e X c CX k E e f1 ok hp.p e1)
    · cases h
  · next t a b p =>
    split at h
    · next q1 f1 g1 e1 e2 e3 =>
      cases h
      exact p_if (ie.t X c CX k E t q1 ok hp.p e1) (ih.ss X c CX k E a f1 ok hk hp e2) (ih.ss X c CX k E b g1 ok hk hp e3)
    · cases h
  · next t a p =>
    split at h
    · next q1 f1 e1 e2 =>
      cases h
      exact p_while ok.own (ie.t X c CX k E t q1 ok hp.p e1) (ih.ss X c CX k E a f1 ok hk hp e2)
    · cases h
  · next tg it a p =>
    split at h
    · next hs =>
      split at h
      · next i js g f1 e1 e2 e3 =>
        cases h
        exact p_for ok.own ok.calm (ie.i X c CX k E tg it i ok hp.p e1) (compG_snd ok n tg js g e2) (ih.ss X c CX k E a f1 ok hk hp e3) hs
      · cases h
    · cases h
  · next x p elt tg iter ifs scope q r =>
    split at h
    · next hl =>
      split at h
      · next i f1 e1 e2 =>
        cases h
        exact lcAsg_snd ok hp.p hl e1 e2 hk
      · cases h
    · cases h
  · next x p e q _ =>
    split at h
    · next hl =>
      rw [Bool.and_eq_true] at hl
      split at h
      · next i f1 e1 e2 =>
        cases h
        exact storeTo_snd ok hl.1 e1 (ie.e X c CX k E e f1 ok hp.p e2) (sw_no (by simpa using hl.2))
      · cases h
    · cases h
  · next o i p e q =>
    split at h
    · next hs =>
      split at h
      · next f1 g1 h1 e1 e2 e3 =>
        cases h
        exact p_setix (ie.e X c CX k E e f1 ok hp.p e1) (ie.e X c CX k E o g1 ok hp.p e2) (ie.e X c CX k E i h1 ok hp.p e3) hs
      · cases h
    · cases h
  · next ts kt pt vs k2 p2 q =>
    split at h
    · next names en =>
      rw [← ok.sc] at en
      split at h
      · next x px y py a b fs e1 =>
        split at h
        · next hn =>
          subst hn
          split at h
          · next hl =>
            rw [Bool.and_eq_true] at hl
            split at h
            · next i j e2 e3 =>
              split at h
              · next hij =>
                cases h
                exact p_par ok.calm ok.nd (ok.at_ e2) (ok.at_ e3) hij (by rw [ok.sc]; exact of_decide_eq_true hl.1) (by rw [ok.sc]; exact of_decide_eq_true hl.2) (ie.a X c CX k E _ fs ok hp.p e1).2 (swapN_eq en)
              · cases h
            · cases h
          · cases h
        · cases h
      · next x px y py z pz a b d fs e1 =>
        split at h
        · next hn =>
          subst hn
          split at h
          · next hl =>
            rw [Bool.and_eq_true, Bool.and_eq_true] at hl
            split at h
            · next i j l e2 e3 e4 =>
              split at h
              · next hij =>
                cases h
                exact p_par3 ok.calm ok.nd (ok.at_ e2) (ok.at_ e3) (ok.at_ e4) hij.1 hij.2.1 hij.2.2 (by rw [ok.sc]; exact of_decide_eq_true hl.1.1) (by rw [ok.sc]; exact of_decide_eq_true hl.1.2) (by rw [ok.sc]; exact of_decide_eq_true hl.2) (ie.a X c CX k E _ fs ok hp.p e1).2 (swapN_eq en)
              · cases h
            · cases h
          · cases h
        · cases h
      · cases h
    · next en =>
      rw [← ok.sc] at en
      split at h
      · split at h
        · next cs fs e1 e2 =>
          split at h
          · next hl =>
            cases h
            exact p_parT ok e1 hl (ie.a X c CX k E vs fs ok hp.p e2).2 (swapN_eq en)
          · cases h
        · cases h
      · split at h
        · next fs js g e1 e2 =>
          cases h
          exact p_asg (r_tup (ie.a X c CX k E vs fs ok hp.p e1).2) (compG_tup ok e2) (swapsSole_other (fun _ _ z => by cases z)) (swapN_eq en) rfl
        · cases h
    · cases h
  · next ts kt pt e q _ =>
    split at h
    · next hs =>
      split at h
      · next f1 js g e1 e2 =>
        cases h
        exact p_asg (ie.e X c CX k E e f1 ok hp.p e1) (compG_tup ok e2) (swapsSole_other (fun _ _ z => by cases z)) (swapped_no (fun _ _ _ z => by subst z; cases hs)) rfl
      · cases h
    · cases h
  · next x p q r =>
    split at h
    · next hx =>
      rw [Bool.and_eq_true, Bool.and_eq_true] at hx
      cases h
      exact p_raise ok hp.tk hx.1.1 hx.1.2 hx.2
    · cases h
  · next body x np y py d dn dp pa pos' q =>
    split at h
    · next hx =>
      rw [Bool.and_eq_true, Bool.and_eq_true, Bool.and_eq_true] at hx
      split at h
      · next i f1 e1 e2 =>
        cases h
        refine p_try (v := .str d) ok hp.st hp.fr hp.tk hx.1.1.1 hx.1.1.2 hx.1.2 hx.2 e1 (fun _ => pe_str) (sw_no rfl) (fun _ _ => .str d) fun E' pn xe tk po => ?_
        have okT : Ok (X.tr pn xe) c CX k := ⟨ok.N, ok.nd, ok.sc, ok.calm, ok.room, ok.fnv, po, fun x n F h => ⟨(ok.fns x n F h).ex⟩, ok.blt, ok.no, ok.exs, fun x n F z y h h' => ⟨(ok.dfs x n F z y h h').ex⟩⟩
        exact ih.ss (X.tr pn xe) c CX k E' body f1 okT hk ⟨hp.cx, tk, hp.st, hp.fr⟩ e2
      · cases h
    · cases h
  · cases h
theorem iss : ∀ n, IS n
  | 0 => ⟨fun _ _ _ _ _ _ _ _ _ _ h => (nomatch h), fun _ _ _ _ _ _ _ _ _ _ h => (nomatch h)⟩
  | n + 1 => ⟨step_s (iss n), step_ss (iss n)⟩

/-! ### the defs of a program -/
structure FnDef where
  name : Str
  ps : List Str
  N : List Str
  cells : List Str
  st : Stmt
  df1 : Option (Int × Str) := none
def cFuel : Nat := 60
/-- what a def does, given what the others do -/
def FnDef.sem (d : FnDef) (blt exc : Str → Bool) (df : Str → Option (Int × Str)) (fns : Str → Option (Nat × (List W → M W))) : List W → M W :=
  match compSs ⟨defScope d.st, d.N, d.cells, fun _ => true, fns, blt, exc, df⟩ cFuel (defBody d.st) with
  | some f => fnSem d.ps.length d.N.length f
  | none => fun _ => mfail
abbrev Prog := List (Str × FnDef)
def dfK (T : Prog) (y : Str) : Option (Int × Str) := match T.lookup y with
  | some e => e.df1
  | none => none
/-- what the defs do, calls nested at most k deep -/
def callK (T : Prog) (blt exc : Str → Bool) : Nat → Str → List W → M W
  | 0, _ => fun _ => mfail
  | k + 1, x => match T.lookup x with
    | some d => d.sem blt exc (dfK T) fun y => match T.lookup y with
      | some e => some (e.ps.length, callK T blt exc k y)
      | none => none
    | none => fun _ => mfail
def fnsK (T : Prog) (blt exc : Str → Bool) (k : Nat) (y : Str) : Option (Nat × (List W → M W)) := match T.lookup y with
  | some e => some (e.ps.length, callK T blt exc k y)
  | none => none
theorem callK_succ (T : Prog) (blt exc : Str → Bool) (k : Nat) (x : Str) (d : FnDef) (h : T.lookup x = some d) : callK T blt exc (k + 1) x = d.sem blt exc (dfK T) (fnsK T blt exc k) := by
  show (match T.lookup x with
    | some d => d.sem blt exc (dfK T) fun y => match T.lookup y with
      | some e => some (e.ps.length, callK T blt exc k y)
      | none => none
    | none => fun _ => mfail) = _
  rw [h]
  rfl
/-- a def of the table as it stands behind the top -/
structure DefAt (K : PySem.W.Frag) (mg : Str → Option Value) (d : FnDef) : Prop where
  ex : ∃ (f : Addr) (fd : FuncData) (dvs : List V), FunD K d.name d.name (defArgs d.st) (defBody d.st) (defScope d.st) dvs [] f fd ∧ mg d.name = some (.ref f) ∧ Binds K fd d.ps [] ∧ ∀ z y, d.df1 = some (z, y) → (∃ ds, Vals [V.int z] ds ∧ Binds K fd d.ps ds) ∧ KBn K fd d.ps (d.ps.length - 1) [y] (fun us ws => us ++ ws) (fun vs zs => vs ++ zs)
  sc : FnScope d.N d.ps (defScope d.st)
theorem callK_ok {P : Program} {w : World} {K : PySem.W.Frag} {mg : Str → Option Value} {base : Heap} {T : Prog} {blt exc : Str → Bool} (hT : ∀ x d, T.lookup x = some d → d.name = x ∧ DefAt K mg d) (hb : ∀ x, blt x = true → mg x = none) (hx : ExcsOk K mg exc) :
    ∀ (k : Nat) (x : Str) (d : FnDef), T.lookup x = some d → ∀ (f : Addr) (fd : FuncData) (dvs : List V), FunD K d.name d.name (defArgs d.st) (defBody d.st) (defScope d.st) dvs [] f fd → FnOk P w K mg base (L2.CX P w) k f fd d.ps (spF K mg d.ps.length (callK T blt exc k x)) := by
  intro k
  induction k with
  | zero =>
    intro x d h f fd dvs F
    exact ⟨fun vs H Q E ⟨μ, ws, st, _, r, hl, q⟩ => q.elim, fun A outer s H args us vs Q E _ _ _ _ ⟨μ, ws, st, _, r, hl, q⟩ => q.elim⟩
  | succ k ih =>
    intro x d h f fd dvs F
    obtain ⟨rfl, D⟩ := hT x d h
    rw [callK_succ T blt exc k d.name d h]
    refine F.ok D.sc (fun vs H Q E ⟨μ, ws, st, _, r, hl, q⟩ => by rw [← r.length]; exact hl) fun cdv A outer s H vs Q E hr ⟨μ, ws, st, sr, r, hl, q⟩ => ?_
    unfold FnDef.sem at q
    cases e : compSs ⟨defScope d.st, d.N, d.cells, fun _ => true, fnsK T blt exc k, blt, exc, dfK T⟩ cFuel (defBody d.st) with
    | none => rw [e] at q; exact q.elim
    | some fb =>
      rw [e] at q
      dsimp only at q
      have okX : Ok (cxOf (L2.CX P w) P w K mg base d.N d.name (defScope d.st) f cdv A outer s H E) ⟨defScope d.st, d.N, d.cells, fun _ => true, fnsK T blt exc k, blt, exc, dfK T⟩ (L2.CX P w) k := by
        refine ⟨rfl, D.sc.nd, rfl, rfl, hr, fun _ => rfl, passes_of (K := fun e s'' => L2.CX P w outer H s E e s'') rfl, fun y n G hy => ?_, hb, fun _ _ _ _ _ ⟨_, _, _, _, _, _, _, _, _, _, _, _, z⟩ => z, hx, fun y n G z yn hy hz => ?_⟩
        rotate_left
        · unfold fnsK at hy
          unfold dfK at hz
          cases e2 : T.lookup y with
          | none => simp [e2] at hy
          | some d2 =>
            simp only [e2, Option.some.injEq, Prod.mk.injEq] at hy hz
            obtain ⟨rfl, rfl⟩ := hy
            obtain ⟨n2, D2⟩ := hT y d2 e2
            obtain ⟨f2, fd2, dv2, F2, m2, b2, q⟩ := D2.ex
            obtain ⟨⟨ds, v1, v2⟩, kb⟩ := q z yn hz
            exact ⟨f2, fd2, d2.ps, ds, by rw [← n2]; exact m2, F2.kp, v1, v2, kb, rfl, ih y d2 e2 f2 fd2 dv2 F2⟩
        unfold fnsK at hy
        cases e2 : T.lookup y with
        | none => simp [e2] at hy
        | some d2 =>
          simp only [e2, Option.some.injEq, Prod.mk.injEq] at hy
          obtain ⟨rfl, rfl⟩ := hy
          obtain ⟨n2, D2⟩ := hT y d2 e2
          obtain ⟨f2, fd2, dv2, F2, m2, b2, _⟩ := D2.ex
          exact ⟨f2, fd2, d2.ps, by rw [← n2]; exact m2, F2.kp, b2, rfl, ih y d2 e2 f2 fd2 dv2 F2⟩
      refine ⟨_, (iss cFuel).ss _ _ (L2.CX P w) k E (defBody d.st) fb okX D.sc.kind ⟨rfl, takes_of rfl rfl rfl rfl, rfl, rfl⟩ e, μ, _, st, slots_start r hl, sr, ?_⟩
      unfold fnSem at q
      rw [if_pos hl] at q
      rw [← hl] at q
      rw [← hl]
      exact leave_of sr (by rw [hl] at q ⊢; exact q)
end Ev

namespace Ev
open PySem PySem.Spec PyProof.Rows L2

/-! ### the end of a law -/
theorem DefAt.of {K : PySem.W.Frag} {h : Heap} {mg : Str → Option Value} {d : FnDef} {f : Addr} {oc : Value} {od an : Option Addr} {osl : Array (Option Value)} {kV doc pm cdv ct : Value} (X : K.In h) (G : h.Ns mainGlobals mg)
    (a : PySem.W.nsIn K mainGlobals d.name = some (some (.ref f))) (l : K.lookup f = some ⟨oc, od, .func (PySem.W.fnOf d.name d.name (defArgs d.st) (defBody d.st) (defScope d.st) .none kV doc pm an cdv ct), osl⟩)
    (c : PySem.W.codeIn K cdv d.name = true) (k : PySem.W.keepIn K (.ref f) = true) (sc : FnScope d.N d.ps (defScope d.st))
    (b : ∀ (kV doc pm : Value) (an : Option Addr) (cdv ct : Value) (us : List Value), us.length = d.ps.length → bindArgs (PySem.W.fnOf d.name d.name (defArgs d.st) (defBody d.st) (defScope d.st) .none kV doc pm an cdv ct) ⟨us, []⟩ = pure (d.ps.zip us)) (hn : d.df1 = none) : DefAt K mg d :=
  have F := fun_mk (st := d.st) l c k
  ⟨⟨f, _, [], ⟨⟨oc, od, .none, kV, doc, pm, an, cdv, ct, osl, rfl, l, c, .inl ⟨rfl, rfl⟩, .inl rfl⟩, k⟩, PySem.W.mg_of X G a, F.binds b, fun z y h => by rw [hn] at h; cases h⟩, sc⟩
/-- a def whose last parameter has a default -/
theorem DefAt.ofD {K : PySem.W.Frag} {h : Heap} {mg : Str → Option Value} {d : FnDef} {f T : Addr} {to : Obj} {oc : Value} {od an : Option Addr} {osl : Array (Option Value)} {kV doc pm cdv ct : Value} {z : Int} {y : Str} (X : K.In h) (G : h.Ns mainGlobals mg)
    (a : PySem.W.nsIn K mainGlobals d.name = some (some (.ref f))) (l : K.lookup f = some ⟨oc, od, .func (PySem.W.fnOf d.name d.name (defArgs d.st) (defBody d.st) (defScope d.st) (.ref T) kV doc pm an cdv ct), osl⟩)
    (c : PySem.W.codeIn K cdv d.name = true) (k : PySem.W.keepIn K (.ref f) = true) (hT : K.lookup T = some to) (hto : ∃ its n, to.data = .seq its.toArray n ∧ Vals [V.int z] its) (sc : FnScope d.N d.ps (defScope d.st)) (hz : d.df1 = some (z, y)) (hps : 1 ≤ d.ps.length)
    (b : ∀ (T : Addr) (kV doc pm : Value) (an : Option Addr) (cdv ct : Value) (us its : List Value), us.length = d.ps.length → its.length = 1 → ∃ k, bindArgs (PySem.W.fnOf d.name d.name (defArgs d.st) (defBody d.st) (defScope d.st) (.ref T) kV doc pm an cdv ct) ⟨us, []⟩ = seqItems? (.ref T) >>= k ∧ k (some its.toArray) = pure (d.ps.zip (us ++ its.drop 1)))
    (b1 : ∀ (T : Addr) (kV doc pm : Value) (an : Option Addr) (cdv ct : Value) (us its : List Value), us.length = d.ps.length - 1 → its.length = 1 → ∃ k, bindArgs (PySem.W.fnOf d.name d.name (defArgs d.st) (defBody d.st) (defScope d.st) (.ref T) kV doc pm an cdv ct) ⟨us, []⟩ = seqItems? (.ref T) >>= k ∧ k (some its.toArray) = pure (d.ps.zip (us ++ its.drop 0)))
    (b2 : ∀ (T : Addr) (kV doc pm : Value) (an : Option Addr) (cdv ct : Value) (us its ws : List Value), us.length = d.ps.length - 1 → its.length = 1 → ws.length = 1 → ∃ k, bindArgs (PySem.W.fnOf d.name d.name (defArgs d.st) (defBody d.st) (defScope d.st) (.ref T) kV doc pm an cdv ct) ⟨us, [y].zip ws⟩ = seqItems? (.ref T) >>= k ∧ k (some its.toArray) = pure (d.ps.zip (us ++ ws))) : DefAt K mg d := by
  obtain ⟨its, n, e1, e2⟩ := hto
  have F : FunD K d.name d.name (defArgs d.st) (defBody d.st) (defScope d.st) [V.int z] [] f (PySem.W.fnOf d.name d.name (defArgs d.st) (defBody d.st) (defScope d.st) (.ref T) kV doc pm an cdv ct) := ⟨⟨oc, od, .ref T, kV, doc, pm, an, cdv, ct, osl, rfl, l, c, .inr ⟨by simp, T, to, its, n, rfl, hT, e1, e2⟩, .inl rfl⟩, k⟩
  obtain ⟨ds, r, bn⟩ := F.binds1 d.ps.length 1 (by simp) (by simp) b
  cases r
  obtain ⟨ds1, r1, bn1⟩ := F.binds1 (d.ps.length - 1) 0 (by simp) (by simp; omega) b1
  refine ⟨⟨f, _, _, F, PySem.W.mg_of X G a, bn, fun z' y' h => ?_⟩, sc⟩
  rw [hz] at h
  cases h
  refine ⟨⟨ds1, r1, bn1⟩, fun s us ws kin h1 h2 => ?_, fun r s => r.append s⟩
  obtain ⟨k, q1, q2⟩ := b2 T kV doc pm an cdv ct us its ws h1 e2.length.symm h2
  refine BindsTo.of_looks fun M => ?_
  rw [q1]
  exact looks_items kin hT e1 (.of_pure q2)
def tableOf (ds : List FnDef) : Prog := ds.map fun d => (d.name, d)
theorem table_mem : ∀ {ds : List FnDef} {x : Str} {d : FnDef}, (tableOf ds).lookup x = some d → d.name = x ∧ d ∈ ds
  | [], _, _, h => nomatch h
  | e :: ds, x, d, h => by
    unfold tableOf at h
    rw [List.map_cons, List.lookup_cons] at h
    split at h
    · next q =>
      cases h
      exact ⟨(beq_iff_eq.mp q).symm, List.mem_cons_self⟩
    · obtain ⟨h1, h2⟩ := table_mem (ds := ds) h
      exact ⟨h1, List.mem_cons_of_mem _ h2⟩
def bltIn (bs : List Str) (x : Str) : Bool := bs.contains x
theorem bind1 {x : Str} {fd : FuncData} (h : ∀ us : List Value, us.length = [x].length → bindArgs fd ⟨us, []⟩ = pure ([x].zip us)) : ∀ (s : Shared) (v : Value), BindsTo s fd ⟨[v], []⟩ [(x, v)] := fun s v => .of_eq (h [v] rfl)
/-- what a law promises, with no module in sight -/
def spLaw (K : PySem.W.Frag) (F : List W → M W) : Sp := fun vs H Q _ => ∃ μ ws st w st', SR μ st H ∧ Reps K μ H ws vs ∧ ws.length = 1 ∧ F ws st = some (.ok w, st') ∧ ∀ μ' fr y H', Ext μ H μ' H' → μ'.own = fr ++ μ.own → SR μ' st' H' → RepW K μ' fr H' w y → Q y H'
theorem spLaw_F {K : PySem.W.Frag} {mg : Str → Option Value} {F : List W → M W} {vs : List V} {H : Hp} {Q : VK} {E : XK} (h : spLaw K F vs H Q E) : spF K mg 1 F vs H Q E := by
  obtain ⟨μ, ws, st, w, st', h1, h2, h3, h4, h5⟩ := h
  refine ⟨μ, ws, st, h1, h2, h3, ?_⟩
  rw [h4]
  exact h5
/-- from the defs' facts -/
theorem law_F {l : PySem.W.OpenLaw} {w : World} {K : PySem.W.Frag} {mg : Str → Option Value} {fa : Addr} {h : Heap} {ds : List FnDef} {bs xs : List Str} {k : Nat} {d : FnDef} (hmg : mg d.name = some (.ref fa)) (hd : (tableOf ds).lookup d.name = some d) (hps : d.ps = [Str.ofString "script"])
    (hD : ∀ e ∈ ds, DefAt K mg e) (hB : ∀ x ∈ bs, mg x = none) (hX : ExcsOk K mg (bltIn xs)) (hlaw : ∃ (f : Addr) (fd : FuncData), Fun K d.name d.name d.st f fd ∧ mg d.name = some (.ref f))
    (hbind : ∀ (kV doc pm : Value) (an : Option Addr) (cdv ct : Value) (s : Shared) (v : Value), BindsTo s (PySem.W.fnOf d.name d.name (defArgs d.st) (defBody d.st) (defScope d.st) .none kV doc pm an cdv ct) ⟨[v], []⟩ [(Str.ofString "script", v)]) :
    ∃ fd : FuncData, (∀ (s : Shared) (u : Value), BindsTo s fd ⟨[u], []⟩ [(Str.ofString "script", u)]) ∧ ∀ base : Heap, K.In base → base.Ns mainGlobals mg → FnOk l.prog w K mg base (L2.CX l.prog w) k fa fd [Str.ofString "script"] (spLaw K (callK (tableOf ds) (bltIn bs) (bltIn xs) k d.name)) := by
  obtain ⟨_, hm⟩ := table_mem hd
  obtain ⟨f, fd, F, hf⟩ := hlaw
  have hall : ∀ x e, (tableOf ds).lookup x = some e → e.name = x ∧ DefAt K mg e := fun x e q => let ⟨a, b⟩ := table_mem q; ⟨a, hD e b⟩
  have ef : f = fa := by
    rw [hmg] at hf
    cases hf
    rfl
  subst ef
  have hok := fun base => callK_ok (P := l.prog) (w := w) (base := base) (blt := bltIn bs) (exc := bltIn xs) hall (fun x hx => hB x (by simpa [bltIn] using hx)) hX k d.name d hd f fd [] (by obtain ⟨oc, od, kV, doc, pm, an, cdv, ct, osl, e, lk, hcd⟩ := F.ex; exact ⟨⟨oc, od, .none, kV, doc, pm, an, cdv, ct, osl, e, lk, hcd, .inl ⟨rfl, rfl⟩, .inl rfl⟩, F.kp⟩)
  obtain ⟨oc, od, kV, doc, pm, an, cdv, ct, osl, rfl, lk, hcd⟩ := F.ex
  refine ⟨_, hbind kV doc pm an cdv ct, fun base _ _ => ?_⟩
  have := hok base
  rw [hps] at this
  exact this.imp fun vs H Q E q => spLaw_F q
theorem law_sp {K : PySem.W.Frag} {F : List W → M W} {H : Hp} {a : Addr} {ns : List Int} (ho : Only H) (hs : SqL K H a (ns.map V.int)) (h : ∃ st, F [.scr ns] [] = some (.ok (.d (.bool true)), st)) :
    spLaw K F [.ref a] H (fun v _ => v = .bl true) fun _ _ _ => False := by
  obtain ⟨st, h⟩ := h
  refine ⟨⟨[], []⟩, [.scr ns], [], .d (.bool true), st, ⟨rfl, List.nodup_nil, fun i xs q => by simp at q, fun a h => absurd h List.not_mem_nil⟩, .cons ⟨rfl, a, rfl, ?_⟩ .nil, rfl, h, ?_⟩
  · rcases hs with (hs | ⟨o, hs⟩) | hs
    · rcases ho a with z | ⟨o, xs, z⟩
      · rw [z] at hs; cases hs
      · rw [z] at hs; cases hs
    · exact .inl ⟨o, hs⟩
    · exact .inr hs
  · intro μ' fr y H' _ _ _ r
    exact r.bool
end Ev

namespace Ev
open PySem
abbrev Call := Str → List W → M W
abbrev I (n : Int) : W := .d (.int n)
abbrev Bo (b : Bool) : W := .d (.bool b)
/-! ### runs -/
abbrev EQ := Exc → Store → Prop
@[irreducible] def Run {α : Type} (r : Option (Res α × Store)) (Q : α → Store → Prop) (E : EQ) : Prop := match r with
  | some (.ok a, st) => Q a st
  | some (.exc e, st) => E e st
  | none => False
def noE : EQ := fun _ _ => False
/-- one of two -/
def two (b : Bool) (A B : Prop) : Prop := match b with
  | true => A
  | false => B
theorem two_t {A B : Prop} : two true A B = A := by with_unfolding_all exact (rfl)
theorem two_f {A B : Prop} : two false A B = B := by with_unfolding_all exact (rfl)
theorem two_congr {b b' : Bool} {A B : Prop} (h : b = b') : two b A B = two b' A B := by rw [h]
theorem two_of {b : Bool} {A B : Prop} (h1 : b = true → A) (h2 : b = false → B) : two b A B := by
  cases b with
  | true => exact h1 rfl
  | false => exact h2 rfl
theorem two_same {b : Bool} {A : Prop} (h : A) : two b A A := by cases b <;> exact h
theorem two_and {a b : Bool} {P : Bool → Prop} (h : P (a && b)) : two a (P b) (P false) := by cases a <;> exact h
theorem two_or {a b : Bool} {P : Bool → Prop} (h : P (a || b)) : two a (P true) (P b) := by cases a <;> exact h
def outN (N : Env → Store → Prop) (R : W → Store → Prop) : Out → Store → Prop
  | .nx ρ, st => N ρ st
  | .ret w, st => R w st
theorem Run_congr {α : Type} {r r' : Option (Res α × Store)} {Q : α → Store → Prop} {E : EQ} (h : r = r') : Run r Q E = Run r' Q E := by with_unfolding_all rw [h]
theorem frz_new {xs : List PyData} : frz (.new xs) = .d (.list xs) := by with_unfolding_all exact (rfl)
theorem frz_d {x : PyData} : frz (.d x) = .d x := by with_unfolding_all exact (rfl)
theorem frz_ref {i : Nat} : frz (.ref i) = .ref i := by with_unfolding_all exact (rfl)
theorem frz_scr {x : List Int} : frz (.scr x) = .scr x := by with_unfolding_all exact (rfl)
section
variable {α β : Type} {st : Store} {ρ : Env} {E : EQ}
theorem Run.mono {r : Option (Res α × Store)} {P Q : α → Store → Prop} {E' : EQ} (h : Run r P E') (k : ∀ a st, P a st → Q a st) (k' : ∀ e st, E' e st → E e st) : Run r Q E := by
  with_unfolding_all
  unfold Run at h ⊢
  split at h
  · exact k _ _ h
  · exact k' _ _ h
  · exact h
theorem Run.to {r : Option (Res α × Store)} {P Q : α → Store → Prop} (h : Run r P noE) (k : ∀ a st, P a st → Q a st) : Run r Q E := h.mono k fun _ _ h => h.elim
theorem Run.toE {r : Option (Res α × Store)} {P Q : α → Store → Prop} (h : Run r P E) (k : ∀ a st, P a st → Q a st) : Run r Q E := h.mono k fun _ _ h => h
theorem run_ok {a : α} {Q : α → Store → Prop} : Run (some (.ok a, st)) Q E = Q a st := by with_unfolding_all exact (rfl)
theorem run_exc {e : Exc} {Q : α → Store → Prop} : Run (some (.exc e, st)) Q E = E e st := by with_unfolding_all exact (rfl)
theorem run_ret {a : α} {Q : α → Store → Prop} : Run (mret a st) Q E = Q a st := by with_unfolding_all exact (rfl)
theorem run_fail {Q : α → Store → Prop} : Run (mfail st) Q E = False := by with_unfolding_all exact (rfl)
theorem run_none {Q : α → Store → Prop} : Run none Q E = False := by with_unfolding_all exact (rfl)
theorem run_bind {m : M α} {k : α → M β} {Q : β → Store → Prop} : Run (mbind m k st) Q E = Run (m st) (fun a s => Run (k a s) Q E) E := by
  with_unfolding_all
  unfold mbind
  cases h : m st with
  | none => rfl
  | some x =>
    obtain ⟨r, s'⟩ := x
    cases r <;> rfl
theorem run_ite {c : Prop} [Decidable c] {m : M α} {Q : α → Store → Prop} : Run ((if c then m else mfail) st) Q E = (c ∧ Run (m st) Q E) := by
  with_unfolding_all
  by_cases h : c
  · rw [if_pos h]; exact propext ⟨fun q => ⟨h, q⟩, fun q => q.2⟩
  · rw [if_neg h]; exact propext ⟨fun q => q.elim, fun q => h q.1⟩
theorem run_ite' {c : Prop} [Decidable c] {a : α} {s : Store} {Q : α → Store → Prop} : Run (if c then some (.ok a, s) else none) Q E = (c ∧ Q a s) := by
  with_unfolding_all
  by_cases h : c
  · rw [if_pos h]; exact propext ⟨fun q => ⟨h, q⟩, fun q => q.2⟩
  · rw [if_neg h]; exact propext ⟨fun q => q.elim, fun q => h q.1⟩
theorem run_match {b : Bool} {m n : M α} {Q : α → Store → Prop} : Run ((match b with | true => m | false => n) st) Q E = two b (Run (m st) Q E) (Run (n st) Q E) := by with_unfolding_all (cases b <;> rfl)
theorem run_eq {a : α} {r : Option (Res α × Store)} (h : Run r (fun x s => x = a ∧ s = st) noE) : r = some (.ok a, st) := by
  with_unfolding_all
  unfold Run at h
  split at h
  · obtain ⟨rfl, rfl⟩ := h; rfl
  · exact h.elim
  · exact h.elim
theorem run_of {a : α} {r : Option (Res α × Store)} {s : Store} {Q : α → Store → Prop} (e : r = some (.ok a, s)) (q : Q a s) : Run r Q E := by with_unfolding_all (rw [e]; exact q)
theorem run_ex {r : Option (Res α × Store)} {P : α → Store → Prop} : Run r P noE ↔ ∃ a s, r = some (.ok a, s) ∧ P a s := by
  with_unfolding_all
  constructor
  · intro h
    unfold Run at h
    split at h
    · exact ⟨_, _, rfl, h⟩
    · exact h.elim
    · exact h.elim
  · rintro ⟨a, s, rfl, h⟩
    exact h

/-! ### expressions -/
theorem run_var0 {w : W} {Q : W → Store → Prop} : Run (sVar 0 (some w :: ρ) st) Q E = Q w st := by with_unfolding_all exact (rfl)
theorem run_varS {o : Option W} {i : Nat} {Q : W → Store → Prop} : Run (sVar (i + 1) (o :: ρ) st) Q E = Run (sVar i ρ st) Q E := by with_unfolding_all exact (rfl)
theorem run_con {x : PyData} {Q : W → Store → Prop} : Run (sCon x ρ st) Q E = Q (.d x) st := by with_unfolding_all exact (rfl)
theorem run_bin {op : W → W → M W} {f g : Env → M W} {Q : W → Store → Prop} : Run (sBin op f g ρ st) Q E = Run (f ρ st) (fun x s => Run (g ρ s) (fun y s => Run (op x y s) Q E) E) E := by
  with_unfolding_all
  unfold sBin
  rw [run_bind]
  congr 1
  funext x s
  rw [run_bind]
theorem run_un {op : W → M W} {f : Env → M W} {Q : W → Store → Prop} : Run (sUn op f ρ st) Q E = Run (f ρ st) (fun x s => Run (op x s) Q E) E := by with_unfolding_all exact run_bind
theorem run_args0 {Q : List W → Store → Prop} : Run (sArgs [] ρ st) Q E = Q [] st := by with_unfolding_all exact (rfl)
theorem run_argsS {f : Env → M W} {fs : List (Env → M W)} {Q : List W → Store → Prop} : Run (sArgs (f :: fs) ρ st) Q E = Run (f ρ st) (fun x s => Run (sArgs fs ρ s) (fun xs s => Q (x :: xs) s) E) E := by
  with_unfolding_all
  show Run (mbind _ _ st) Q E = _
  rw [run_bind]
  congr 1
  funext x s
  rw [run_bind]
  rfl
theorem run_callB {op : List W → M W} {f : Env → M (List W)} {Q : W → Store → Prop} : Run (sCallB op f ρ st) Q E = Run (f ρ st) (fun x s => Run (op x s) Q E) E := by with_unfolding_all exact run_bind
theorem run_meth {rcv : W → Bool} {op : W → List W → M W} {f : Env → M W} {g : Env → M (List W)} {Q : W → Store → Prop} : Run (sMeth rcv op f g ρ st) Q E = Run (f ρ st) (fun x s => rcv x = true ∧ Run (g ρ s) (fun xs s => Run (op x xs s) Q E) E) E := by
  with_unfolding_all
  unfold sMeth
  rw [run_bind]
  congr 1
  funext x s
  rw [run_ite, run_bind]
theorem run_callF {n : Nat} {F : List W → M W} {t : Env → M (List W)} {Q : W → Store → Prop} : Run (sCallF n F t ρ st) Q E = Run (t ρ st) (fun ws s => ws.length = n ∧ Run (F (ws.map frz) s) Q E) E := by
  with_unfolding_all
  unfold sCallF
  rw [run_bind]
  congr 1
  funext x s
  rw [run_ite]
theorem run_test {f : Env → M W} {Q : Bool → Store → Prop} : Run (sTest f ρ st) Q E = Run (f ρ st) (fun x s => Run (truth x s) Q E) E := by with_unfolding_all exact run_bind
theorem run_testB {f : Env → M W} {Q : Bool → Store → Prop} : Run (sTestB f ρ st) Q E = Run (f ρ st) (fun x s => Run (truthB x s) Q E) E := by with_unfolding_all exact run_bind
theorem run_not {p : Env → M Bool} {Q : Bool → Store → Prop} : Run (sNot p ρ st) Q E = Run (p ρ st) (fun b s => Q (!b) s) E := by with_unfolding_all exact run_bind
theorem run_and {p q : Env → M Bool} {Q : Bool → Store → Prop} : Run (sAnd p q ρ st) Q E = Run (p ρ st) (fun b s => two b (Run (q ρ s) Q E) (Q false s)) E := by
  with_unfolding_all
  unfold sAnd
  rw [run_bind]
  congr 1
  funext b s
  cases b <;> rfl
theorem run_or {p q : Env → M Bool} {Q : Bool → Store → Prop} : Run (sOr p q ρ st) Q E = Run (p ρ st) (fun b s => two b (Q true s) (Run (q ρ s) Q E)) E := by
  with_unfolding_all
  unfold sOr
  rw [run_bind]
  congr 1
  funext b s
  cases b <;> rfl
theorem run_if {p : Env → M Bool} {f g : Env → M W} {Q : W → Store → Prop} : Run (sIf p f g ρ st) Q E = Run (p ρ st) (fun b s => two b (Run (f ρ s) Q E) (Run (g ρ s) Q E)) E := by
  with_unfolding_all
  unfold sIf
  rw [run_bind]
  congr 1
  funext b s
  cases b <;> rfl
theorem run_truthB {b : Bool} {Q : Bool → Store → Prop} : Run (truthB (.d (.bool b)) st) Q E = Q b st := by with_unfolding_all exact (rfl)
theorem run_andV {f g : Env → M W} {Q : W → Store → Prop} : Run (sAndV f g ρ st) Q E = Run (f ρ st) (fun x s => Run (truthB x s) (fun b s => two b (Run (g ρ s) Q E) (Q (Bo false) s)) E) E := by
  with_unfolding_all
  unfold sAndV
  rw [run_bind]
  congr 1
  funext x s
  rw [run_bind]
  congr 1
  funext b s
  cases b <;> rfl
theorem run_orV {f g : Env → M W} {Q : W → Store → Prop} : Run (sOrV f g ρ st) Q E = Run (f ρ st) (fun x s => Run (truth x s) (fun b s => two b (Q x s) (Run (g ρ s) Q E)) E) E := by
  with_unfolding_all
  unfold sOrV
  rw [run_bind]
  congr 1
  funext x s
  rw [run_bind]
  congr 1
  funext b s
  cases b <;> rfl
theorem run_notV {p : Env → M W} {Q : W → Store → Prop} : Run (sNotV p ρ st) Q E = Run (p ρ st) (fun x s => Run (truth x s) (fun b s => Q (Bo (!b)) s) E) E := by
  with_unfolding_all
  unfold sNotV
  rw [run_bind]
  congr 1
  funext x s
  rw [run_bind]
  rfl
def asD (w : W) (P : PyData → Prop) : Prop := match w with
  | .d x => P x
  | _ => False
theorem asD_d {x : PyData} {P : PyData → Prop} : asD (.d x) P = P x := by with_unfolding_all exact (rfl)
theorem run_chain {op op' : W → W → M W} {f g h : Env → M W} {Q : W → Store → Prop} : Run (sChain op op' f g h ρ st) Q E = Run (f ρ st) (fun x s => asD x fun xd => Run (g ρ s) (fun y s => asD y fun yd => Run (op (.d xd) (.d yd) s) (fun z s => Run (truthB z s) (fun k s => two k (Run (h ρ s) (fun w s => Run (op' (.d yd) w s) Q E) E) (Q (Bo false) s)) E) E) E) E := by
  with_unfolding_all
  unfold sChain
  rw [run_bind]
  congr 1
  funext x s
  cases x with
  | d xd =>
    simp only [asD]
    rw [run_bind]
    congr 1
    funext y s
    cases y with
    | d yd =>
      simp only [asD]
      rw [run_bind]
      congr 1
      funext z s
      rw [run_bind]
      congr 1
      funext b s
      cases b with
      | true => exact run_bind
      | false => rfl
    | _ => rfl
  | _ => rfl
theorem run_chain3 {op op' op2 : W → W → M W} {f g h k : Env → M W} {Q : W → Store → Prop} : Run (sChain3 op op' op2 f g h k ρ st) Q E = Run (f ρ st) (fun x s => asD x fun xd => Run (g ρ s) (fun y s => asD y fun yd => Run (op (.d xd) (.d yd) s) (fun z s => Run (truthB z s) (fun t s => two t (Run (h ρ s) (fun w s => asD w fun wd => Run (op' (.d yd) (.d wd) s) (fun z s => Run (truthB z s) (fun t s => two t (Run (k ρ s) (fun v s => Run (op2 (.d wd) v s) Q E) E) (Q (Bo false) s)) E) E) E) (Q (Bo false) s)) E) E) E) E := by
  with_unfolding_all
  unfold sChain3
  rw [run_bind]
  congr 1
  funext x s
  cases x with
  | d xd =>
    simp only [asD]
    rw [run_bind]
    congr 1
    funext y s
    cases y with
    | d yd =>
      simp only [asD]
      rw [run_bind]
      congr 1
      funext z s
      rw [run_bind]
      congr 1
      funext b s
      cases b with
      | true =>
        simp only [two]
        rw [run_bind]
        congr 1
        funext w s
        cases w with
        | d wd =>
          simp only [asD]
          rw [run_bind]
          congr 1
          funext z s
          rw [run_bind]
          congr 1
          funext b s
          cases b with
          | true => exact run_bind
          | false => rfl
        | _ => rfl
      | false => rfl
    | _ => rfl
  | _ => rfl
theorem run_part0 {Q : Option Int → Store → Prop} : Run (sPart none ρ st) Q E = Q none st := by with_unfolding_all exact (rfl)
theorem run_part1 {f : Env → M W} {Q : Option Int → Store → Prop} : Run (sPart (some f) ρ st) Q E = Run (f ρ st) (fun x s => asD x fun y => match y with | .int i => Q (some i) s | _ => False) E := by
  with_unfolding_all
  show Run (mbind _ _ st) Q E = _
  rw [run_bind]
  congr 1
  funext x s
  cases x with
  | d y => cases y <;> rfl
  | _ => rfl
theorem run_slice {f : Env → M W} {lo hi : Option (Env → M W)} {Q : W → Store → Prop} : Run (sSlice f lo hi ρ st) Q E = Run (f ρ st) (fun x s => Run (sPart lo ρ s) (fun l s => Run (sPart hi ρ s) (fun u s => Run (opSl x l u s) Q E) E) E) E := by
  with_unfolding_all
  unfold sSlice
  rw [run_bind]
  congr 1
  funext x s
  rw [run_bind]
  congr 1
  funext l s
  rw [run_bind]
theorem run_iter {f : Env → M W} {Q : Iter → Store → Prop} : Run (sIter f ρ st) Q E = Run (f ρ st) (fun x s => Run (iterOf x s) Q E) E := by with_unfolding_all exact run_bind
theorem run_iterC {op : List W → M Iter} {t : Env → M (List W)} {Q : Iter → Store → Prop} : Run (sIterC op t ρ st) Q E = Run (t ρ st) (fun x s => Run (op x s) Q E) E := by with_unfolding_all exact run_bind

/-! ### statements -/
theorem run_next {Q : Out → Store → Prop} : Run (sNext ρ st) Q E = Q (.nx ρ) st := by with_unfolding_all exact (rfl)
theorem outN_nx {N : Env → Store → Prop} {R : W → Store → Prop} : outN N R (.nx ρ) st = N ρ st := by with_unfolding_all exact (rfl)
theorem outN_ret {N : Env → Store → Prop} {R : W → Store → Prop} {w : W} : outN N R (.ret w) st = R w st := by with_unfolding_all exact (rfl)
theorem run_seq {f g : Env → M Out} {Q : Out → Store → Prop} : Run (sSeq f g ρ st) Q E = Run (f ρ st) (outN (fun ρ s => Run (g ρ s) Q E) (fun w s => Q (.ret w) s)) E := by
  with_unfolding_all
  unfold sSeq
  rw [run_bind]
  congr 1
  funext o s
  cases o <;> rfl
theorem run_expr {f : Env → M W} {Q : Out → Store → Prop} : Run (sExpr f ρ st) Q E = Run (f ρ st) (fun _ s => Q (.nx ρ) s) E := by with_unfolding_all exact run_bind
theorem run_retS {f : Env → M W} {Q : Out → Store → Prop} : Run (sRet f ρ st) Q E = Run (f ρ st) (fun w s => Q (.ret w) s) E := by with_unfolding_all exact run_bind
theorem run_ifS {p : Env → M Bool} {f g : Env → M Out} {Q : Out → Store → Prop} : Run (sIfS p f g ρ st) Q E = Run (p ρ st) (fun b s => two b (Run (f ρ s) Q E) (Run (g ρ s) Q E)) E := by
  with_unfolding_all
  unfold sIfS
  rw [run_bind]
  congr 1
  funext b s
  cases b <;> rfl
def setG (o : Option Env) (P : Env → Prop) : Prop := match o with
  | some ρ => P ρ
  | none => False
theorem setG_some {P : Env → Prop} : setG (some ρ) P = P ρ := by with_unfolding_all exact (rfl)
theorem run_asg {f : Env → M W} {g : Tg} {Q : Out → Store → Prop} : Run (sAsg f g ρ st) Q E = Run (f ρ st) (fun w s => setG (g (frz w) ρ) fun ρ' => Q (.nx ρ') s) E := by
  with_unfolding_all
  unfold sAsg
  rw [run_bind]
  congr 1
  funext w s
  cases h : g (frz w) ρ <;> rfl
theorem run_cell {i : Nat} {f : Env → M W} {Q : Out → Store → Prop} : Run (sCell i f ρ st) Q E = Run (f ρ st) (fun w s => Run (toCell w s) (fun w s => Q (.nx (ρ.set i (some w))) s) E) E := by
  with_unfolding_all
  unfold sCell
  rw [run_bind]
  congr 1
  funext w s
  rw [run_bind]
  rfl
theorem run_toNew {xs : List PyData} {Q : W → Store → Prop} : Run (toCell (.new xs) st) Q E = Q (.ref st.length) (st ++ [.lst xs]) := by with_unfolding_all exact (rfl)
theorem run_toD {x : PyData} {Q : W → Store → Prop} : Run (toCell (.d x) st) Q E = Q (.d x) st := by with_unfolding_all exact (rfl)
theorem run_toRef {i : Nat} {Q : W → Store → Prop} : Run (toCell (.ref i) st) Q E = Q (.ref i) st := by with_unfolding_all exact (rfl)
theorem run_store0 {Q : Env → Store → Prop} : Run (storeAll [] [] ρ st) Q E = Q ρ st := by with_unfolding_all exact (rfl)
theorem run_storeF {i : Nat} {cs : List (Bool × Nat)} {w : W} {ws : List W} {Q : Env → Store → Prop} : Run (storeAll ((false, i) :: cs) (w :: ws) ρ st) Q E = Run (storeAll cs ws (ρ.set i (some (frz w))) st) Q E := by with_unfolding_all exact (rfl)
theorem run_storeT {i : Nat} {cs : List (Bool × Nat)} {w : W} {ws : List W} {Q : Env → Store → Prop} : Run (storeAll ((true, i) :: cs) (w :: ws) ρ st) Q E = Run (toCell w st) (fun w s => Run (storeAll cs ws (ρ.set i (some w)) s) Q E) E := by
  with_unfolding_all
  show Run (mbind _ _ st) Q E = _
  rw [run_bind]
  rfl
theorem run_par {cs : List (Bool × Nat)} {t : Env → M (List W)} {Q : Out → Store → Prop} : Run (sPar cs t ρ st) Q E = Run (t ρ st) (fun ws s => Run (storeAll cs ws ρ s) (fun ρ s => Q (.nx ρ) s) E) E := by
  with_unfolding_all
  unfold sPar
  rw [run_bind]
  congr 1
  funext w s
  rw [run_bind]
  rfl
theorem run_setIx {f o i : Env → M W} {Q : Out → Store → Prop} : Run (sSetIx f o i ρ st) Q E = Run (f ρ st) (fun v s => asD (frz v) fun y => Run (o ρ s) (fun c s => Run (i ρ s) (fun k s => Run (opSet c k y s) (fun _ s => Q (.nx ρ) s) E) E) E) E := by
  with_unfolding_all
  unfold sSetIx
  rw [run_bind]
  congr 1
  funext v s
  cases h : frz v with
  | d y =>
    simp only [asD]
    rw [run_bind]
    congr 1
    funext c s
    rw [run_bind]
    congr 1
    funext k s
    rw [run_bind]
    rfl
  | _ => rfl

/-! ### defs -/
def outQ (n : Nat) (Q : W → Store → Prop) : Out → Store → Prop
  | .nx _, st => Q (.d .none) (st.take n)
  | .ret (.ref i), st => if i < n then Q (.ref i) (st.take n) else ∃ xs, st[i]? = some (.lst xs) ∧ Q (.new xs) (st.take n)
  | .ret w, st => Q w (st.take n)
theorem outQ_nx {n : Nat} {Q : W → Store → Prop} : outQ n Q (.nx ρ) st = Q (.d .none) (st.take n) := by with_unfolding_all exact (rfl)
theorem outQ_d {n : Nat} {Q : W → Store → Prop} {x : PyData} : outQ n Q (.ret (.d x)) st = Q (.d x) (st.take n) := by with_unfolding_all exact (rfl)
theorem outQ_new {n : Nat} {Q : W → Store → Prop} {x : List PyData} : outQ n Q (.ret (.new x)) st = Q (.new x) (st.take n) := by with_unfolding_all exact (rfl)
theorem outQ_ref {n i : Nat} {Q : W → Store → Prop} : outQ n Q (.ret (.ref i)) st = if i < n then Q (.ref i) (st.take n) else ∃ xs, st[i]? = some (.lst xs) ∧ Q (.new xs) (st.take n) := by with_unfolding_all exact (rfl)
theorem run_leave {n : Nat} {r : Option (Res Out × Store)} {Q : W → Store → Prop} : Run r (outQ n Q) (fun e s => E e (s.take n)) → Run (leave n r) Q E := by
  with_unfolding_all
  intro h
  unfold Run at h
  split at h
  · next o s =>
    cases o with
    | nx _ => exact h
    | ret w =>
      cases w with
      | ref i =>
        rw [outQ_ref] at h
        unfold leave
        dsimp only
        split at h
        · next hi => rw [if_pos hi]; exact h
        · next hi =>
          obtain ⟨xs, h1, h2⟩ := h
          rw [if_neg hi, h1]
          exact h2
      | _ => exact h
  · exact h
  · exact h.elim
theorem run_fn {n k : Nat} {body : Env → M Out} {ws : List W} {Q : W → Store → Prop} (h : ws.length = n) (q : Run (body (ws.map some ++ List.replicate (k - n) none) st) (outQ st.length Q) (fun e s => E e (s.take st.length))) : Run (fnSem n k body ws st) Q E := by
  with_unfolding_all
  unfold fnSem
  rw [if_pos h]
  exact run_leave q

/-! ### loops -/
theorem run_for {emb : α → W} {L : List (Nat × List PyData)} {it : Env → M Iter} {g : Tg} {body : Env → M Out} {Q : Out → Store → Prop} (all : List α) (Inv : List α → Env → Store → Prop)
    (hit : Run (it ρ st) (fun I s => I = ⟨all.map emb, L⟩ ∧ s = st) noE) (hl : ∀ done ρ st, Inv done ρ st → locksB L st = true) (h0 : Inv [] ρ st)
    (hs : ∀ done a rest ρ st, all = done ++ a :: rest → Inv done ρ st → setG (g (emb a) ρ) fun ρ1 => Run (body ρ1 st) (outN (Inv (done ++ [a])) fun w s => Q (.ret w) s) E)
    (he : ∀ ρ st, Inv all ρ st → Q (.nx ρ) st) : Run (sFor it g body ρ st) Q E := by
  with_unfolding_all
  have key : ∀ (rest done : List α) (ρ : Env) (st : Store), all = done ++ rest → Inv done ρ st → Run (forLoop L g body (rest.map emb) ρ st) Q E := by
    intro rest
    induction rest with
    | nil =>
      intro done ρ st e h
      rw [List.append_nil] at e
      subst e
      have hb := hl _ _ _ h
      simp only [List.map_nil, forLoop, hb, if_true, run_ok]
      exact he _ _ h
    | cons a rest ih =>
      intro done ρ st e h
      have h1 := hs done a rest ρ st e h
      have hb := hl _ _ _ h
      cases hg : g (emb a) ρ with
      | none => rw [hg] at h1; exact h1.elim
      | some ρ1 =>
        rw [hg, setG_some] at h1
        simp only [List.map_cons, forLoop, hb, if_true, hg, run_bind]
        refine h1.toE fun o s h3 => ?_
        cases o with
        | nx ρ2 => exact ih (done ++ [a]) ρ2 s (by rw [e, List.append_assoc]; rfl) h3
        | ret w => exact h3
  unfold sFor
  rw [run_bind, run_eq hit, run_ok]
  exact key all [] ρ st rfl h0
theorem run_while {p : Env → M Bool} {body : Env → M Out} {Q : Out → Store → Prop} (Inv : Nat → Env → Store → Prop)
    (hs : ∀ m ρ st, Inv m ρ st → Run (p ρ st) (fun b s => two b (Run (body ρ s) (outN (fun ρ s => ∃ m', m' < m ∧ Inv m' ρ s) fun w s => Q (.ret w) s) E) (Q (.nx ρ) s)) E) : ∀ (fuel m : Nat) (ρ : Env) (st : Store), Inv m ρ st → m < fuel → Run (whileLoop p body fuel ρ st) Q E := by
  with_unfolding_all
  intro fuel
  induction fuel with
  | zero => intro m ρ st _ h; omega
  | succ fuel ih =>
    intro m ρ st h hf
    rw [whileLoop, run_bind]
    refine (hs m ρ st h).toE fun b s q => ?_
    cases b with
    | false => exact q
    | true =>
      dsimp only
      rw [run_bind]
      refine Run.toE (two_t (A := Run (body ρ s) _ E) (B := Q (.nx ρ) s) ▸ q) fun o s2 q2 => ?_
      cases o with
      | nx ρ2 =>
        obtain ⟨m', h1, h2⟩ := q2
        exact ih m' ρ2 s2 h2 (by omega)
      | ret w => exact q2

/-! ### comprehensions -/
theorem run_lc {emb : α → W} {L : List (Nat × List PyData)} {it : Env → M Iter} {vs : List Nat} {g : Tg} {p : Env → M Bool} {f : Env → M W} {Q : W → Store → Prop} (all : List α) (Inv : List α → List PyData → Store → Prop)
    (hit : Run (it ρ st) (fun I s => I = ⟨all.map emb, L⟩ ∧ s = st) noE) (hz : all.length ≤ sizeLine) (hl : ∀ done acc st, Inv done acc st → locksB L st = true) (h0 : Inv [] [] st)
    (hs : ∀ done a rest acc st, all = done ++ a :: rest → Inv done acc st → setG (g (emb a) (wipeG ρ vs)) fun ρ1 => Run (p ρ1 st) (fun b s => two b (Run (f ρ1 s) (fun v s2 => asD (frz v) fun y => Inv (done ++ [a]) (acc ++ [y]) s2) noE) (Inv (done ++ [a]) acc s)) noE)
    (he : ∀ acc st, Inv all acc st → Q (.new acc) st) : Run (sLc it vs g p f ρ st) Q E := by
  with_unfolding_all
  have key : ∀ (rest done : List α) (acc : List PyData) (st : Store), all = done ++ rest → acc.length ≤ done.length → Inv done acc st → ∃ acc' s', lcLoop L g p f (wipeG ρ vs) (rest.map emb) acc st = some (acc', s') ∧ Inv all acc' s' := by
    intro rest
    induction rest with
    | nil =>
      intro done acc st e hd h
      rw [List.append_nil] at e
      subst e
      have hb := hl _ _ _ h
      exact ⟨acc, st, by simp only [List.map_nil, lcLoop, hb, if_true], h⟩
    | cons a rest ih =>
      intro done acc st e hd h
      have h0 := hs done a rest acc st e h
      cases h1 : g (emb a) (wipeG ρ vs) with
      | none => rw [h1] at h0; exact h0.elim
      | some ρ1 =>
      rw [h1, setG_some] at h0
      obtain ⟨b, s, h2, h3⟩ := run_ex.mp h0
      have hb := hl _ _ _ h
      have e' : all = (done ++ [a]) ++ rest := by rw [e, List.append_assoc]; rfl
      have hlen : done.length < all.length := by rw [e, List.length_append, List.length_cons]; omega
      cases b with
      | false =>
        obtain ⟨acc', s', k1, k2⟩ := ih (done ++ [a]) acc s e' (by rw [List.length_append, List.length_singleton]; omega) h3
        refine ⟨acc', s', ?_, k2⟩
        simp only [List.map_cons, lcLoop, hb, if_true, lcTurn, h1, h2, k1]
      | true =>
        rw [two_t] at h3
        obtain ⟨v, s2, h4, h5⟩ := run_ex.mp h3
        cases hv : frz v with
        | d y =>
          rw [hv, asD_d] at h5
          obtain ⟨acc', s', k1, k2⟩ := ih (done ++ [a]) (acc ++ [y]) s2 e' (by rw [List.length_append, List.length_append, List.length_singleton, List.length_singleton]; omega) h5
          refine ⟨acc', s', ?_, k2⟩
          have hz' : (acc.length < sizeLine) = True := eq_true (by omega)
          simp only [List.map_cons, lcLoop, hb, if_true, lcTurn, h1, h2, h4, hv, hz', k1]
        | _ => rw [hv] at h5; exact h5.elim
  obtain ⟨acc', s', k1, k2⟩ := key all [] [] st rfl (by simp) h0
  unfold sLc
  rw [run_bind, run_eq hit, run_ok]
  refine run_of (a := .new acc') (s := s') ?_ (he _ _ k2)
  rw [k1]
/-- a plain map -/
theorem run_map {emb : α → W} {L : List (Nat × List PyData)} {it : Env → M Iter} {vs : List Nat} {g : Tg} {f : Env → M W} {Q : W → Store → Prop} (all : List α) (φ : α → PyData)
    (hit : Run (it ρ st) (fun I s => I = ⟨all.map emb, L⟩ ∧ s = st) noE) (hz : all.length ≤ sizeLine) (hl : locksB L st = true)
    (hs : ∀ a ∈ all, setG (g (emb a) (wipeG ρ vs)) fun ρ1 => Run (f ρ1 st) (fun v s => frz v = .d (φ a) ∧ s = st) noE)
    (he : Q (.new (all.map φ)) st) : Run (sLc it vs g sYes f ρ st) Q E := by
  with_unfolding_all
  refine run_lc all (fun done acc s => acc = done.map φ ∧ s = st) hit hz (fun _ _ _ h => by rw [h.2]; exact hl) ⟨rfl, rfl⟩ ?_ ?_
  · rintro done a rest acc s e ⟨rfl, rfl⟩
    have := hs a (by rw [e]; simp)
    cases hg : g (emb a) (wipeG ρ vs) with
    | none => rw [hg] at this; exact this.elim
    | some ρ1 =>
      rw [hg] at this
      refine Run.toE (P := fun v s' => frz v = .d (φ a) ∧ s' = s) this fun v s' h => ?_
      rw [h.1]
      refine ⟨?_, h.2⟩
      simp
  · rintro acc s ⟨rfl, rfl⟩
    exact he
/-- a map of what is picked out -/
theorem run_filter {emb : α → W} {L : List (Nat × List PyData)} {it : Env → M Iter} {vs : List Nat} {g : Tg} {p : Env → M Bool} {f : Env → M W} {Q : W → Store → Prop} (all : List α) (π : α → Bool) (φ : α → PyData)
    (hit : Run (it ρ st) (fun I s => I = ⟨all.map emb, L⟩ ∧ s = st) noE) (hz : all.length ≤ sizeLine) (hl : locksB L st = true)
    (hs : ∀ a ∈ all, setG (g (emb a) (wipeG ρ vs)) fun ρ1 => (Run (p ρ1 st) (fun b s => b = π a ∧ s = st) noE) ∧ (π a = true → Run (f ρ1 st) (fun v s => frz v = .d (φ a) ∧ s = st) noE))
    (he : Q (.new ((all.filter π).map φ)) st) : Run (sLc it vs g p f ρ st) Q E := by
  with_unfolding_all
  refine run_lc all (fun done acc s => acc = (done.filter π).map φ ∧ s = st) hit hz (fun _ _ _ h => by rw [h.2]; exact hl) ⟨rfl, rfl⟩ ?_ ?_
  · rintro done a rest acc s e ⟨rfl, rfl⟩
    have := hs a (by rw [e]; simp)
    cases hg : g (emb a) (wipeG ρ vs) with
    | none => rw [hg] at this; exact this.elim
    | some ρ1 =>
      rw [hg, setG_some] at this
      refine Run.toE this.1 fun b s' h => ?_
      obtain ⟨rfl, rfl⟩ := h
      cases hp : π a with
      | false => simp [hp, two]
      | true =>
        refine Run.toE (this.2 hp) fun v s' h => ?_
        rw [h.1]
        refine ⟨?_, h.2⟩
        simp [hp]
  · rintro acc s ⟨rfl, rfl⟩
    exact he
end
end Ev

namespace Ev
open PySem
theorem sz0 : (0 ≤ sizeLine) = True := by decide
theorem sz1 : (1 ≤ sizeLine) = True := by decide
theorem sz2 : (2 ≤ sizeLine) = True := by decide
theorem sz3 : (3 ≤ sizeLine) = True := by decide
theorem sz4 : (4 ≤ sizeLine) = True := by decide
theorem sz5 : (5 ≤ sizeLine) = True := by decide
theorem sz6 : (6 ≤ sizeLine) = True := by decide
theorem sz7 : (7 ≤ sizeLine) = True := by decide
theorem sz8 : (8 ≤ sizeLine) = True := by decide
theorem sz10 : (10 ≤ sizeLine) = True := by decide
theorem isN_none : isNone (.d .none) = true := (rfl)
theorem isN_int {i : Int} : isNone (.d (.int i)) = false := (rfl)
theorem isN_bool {i : Bool} : isNone (.d (.bool i)) = false := (rfl)
theorem isN_str {i : Str} : isNone (.d (.str i)) = false := (rfl)
theorem isN_tup {xs : List PyData} : isNone (.d (.tuple xs)) = false := (rfl)
theorem isN_lst {xs : List PyData} : isNone (.d (.list xs)) = false := (rfl)
theorem isN_ref {i : Nat} : isNone (.ref i) = false := (rfl)
theorem isN_new {xs : List PyData} : isNone (.new xs) = false := (rfl)
theorem szl {n : Nat} (h : n ≤ 16000000) : n ≤ sizeLine := Nat.le_trans h (by decide)
theorem szk {n : Nat} (h : n < 16000000) : n < sizeLine := Nat.lt_of_lt_of_le h (by decide)
theorem shaped_int (i : Int) : SeqAt.shaped (.int i) = true := by simp [SeqAt.shaped, PyData.canLay0, PyData.depth]
theorem shaped_str (i : Str) : SeqAt.shaped (.str i) = PyData.strOk i := by simp [SeqAt.shaped, PyData.canLay0, PyData.depth]
theorem shaped_bool (i : Bool) : SeqAt.shaped (.bool i) = true := by simp [SeqAt.shaped, PyData.canLay0, PyData.depth]
theorem shaped_none : SeqAt.shaped .none = true := by simp [SeqAt.shaped, PyData.canLay0, PyData.depth]
section
variable {st : Store} {ρ : Env} {E : EQ} {Q : W → Store → Prop} {a b i j : Int} {x y : PyData} {xs ys : List PyData} {s t : Str}
theorem run_add : Run (opAdd (.d (.int a)) (.d (.int b)) st) Q E = Q (.d (.int (a + b))) st := by with_unfolding_all exact (rfl)
theorem run_addT : Run (opAdd (.d (.tuple xs)) (.d (.tuple ys)) st) Q E = (xs.length + ys.length ≤ sizeLine ∧ Q (.d (.tuple (xs ++ ys))) st) := by with_unfolding_all exact run_ite
theorem run_addS : Run (opAdd (.d (.str s)) (.d (.str t)) st) Q E = (s.length + t.length ≤ sizeLine ∧ Q (.d (.str (s ++ t))) st) := by with_unfolding_all exact run_ite
theorem run_addLL : Run (opAdd (.d (.list xs)) (.d (.list ys)) st) Q E = (xs.length + ys.length ≤ sizeLine ∧ Q (.new (xs ++ ys)) st) := run_ite'
theorem run_addNN : Run (opAdd (.new xs) (.new ys) st) Q E = (xs.length + ys.length ≤ sizeLine ∧ Q (.new (xs ++ ys)) st) := run_ite'
theorem run_addLN : Run (opAdd (.d (.list xs)) (.new ys) st) Q E = (xs.length + ys.length ≤ sizeLine ∧ Q (.new (xs ++ ys)) st) := run_ite'
theorem run_addNL : Run (opAdd (.new xs) (.d (.list ys)) st) Q E = (xs.length + ys.length ≤ sizeLine ∧ Q (.new (xs ++ ys)) st) := run_ite'
theorem run_sub : Run (opSub (.d (.int a)) (.d (.int b)) st) Q E = Q (.d (.int (a - b))) st := by with_unfolding_all exact (rfl)
theorem run_neg : Run (opNeg (.d (.int a)) st) Q E = Q (.d (.int (-a))) st := by with_unfolding_all exact (rfl)
theorem run_mul : Run (opMul (.d (.int a)) (.d (.int b)) st) Q E = (mulOk a b = true ∧ Q (.d (.int (a * b))) st) := by with_unfolding_all exact run_ite
theorem run_div : Run (opDiv (.d (.int a)) (.d (.int b)) st) Q E = (divOk b = true ∧ Q (.d (.int (a.fdiv b))) st) := by with_unfolding_all exact run_ite
theorem run_mod : Run (opMod (.d (.int a)) (.d (.int b)) st) Q E = (b ≠ 0 ∧ Q (.d (.int (a.fmod b))) st) := by with_unfolding_all exact run_ite
theorem run_mulNI : Run (opMul (.new xs) (.d (.int b)) st) Q E = ((-(2 ^ 63) ≤ b ∧ b < 2 ^ 63 ∧ xs.length * b.toNat ≤ sizeLine) ∧ Q (.new (List.replicate b.toNat xs).flatten) st) := run_ite'
theorem run_mulLI : Run (opMul (.d (.list xs)) (.d (.int b)) st) Q E = ((-(2 ^ 63) ≤ b ∧ b < 2 ^ 63 ∧ xs.length * b.toNat ≤ sizeLine) ∧ Q (.new (List.replicate b.toNat xs).flatten) st) := run_ite'
theorem run_eqD : Run (opEq (.d x) (.d y) st) Q E = ((SeqAt.shaped x && SeqAt.shaped y) = true ∧ Q (.d (.bool (PyData.eqv x y))) st) := run_ite'
theorem run_neD : Run (opNe (.d x) (.d y) st) Q E = ((SeqAt.shaped x && SeqAt.shaped y) = true ∧ Q (.d (.bool (!PyData.eqv x y))) st) := run_ite'
theorem run_eqI : Run (opEq (.d (.int a)) (.d (.int b)) st) Q E = Q (.d (.bool (a == b))) st := by
  with_unfolding_all
  rw [run_eqD]
  simp only [shaped_int, Bool.and_true, true_and]
  rfl
theorem run_neI : Run (opNe (.d (.int a)) (.d (.int b)) st) Q E = Q (.d (.bool (!(a == b)))) st := by
  with_unfolding_all
  rw [run_neD]
  simp only [shaped_int, Bool.and_true, true_and]
  rfl
theorem run_eqS : Run (opEq (.d (.str s)) (.d (.str t)) st) Q E = ((PyData.strOk s && PyData.strOk t) = true ∧ Q (.d (.bool (s == t))) st) := by
  with_unfolding_all
  rw [run_eqD]
  simp only [shaped_str]
  rfl
theorem run_lt : Run (opLt (.d (.int a)) (.d (.int b)) st) Q E = Q (.d (.bool (decide (a < b)))) st := by with_unfolding_all exact (rfl)
theorem run_le : Run (opLe (.d (.int a)) (.d (.int b)) st) Q E = Q (.d (.bool (decide (a ≤ b)))) st := by with_unfolding_all exact (rfl)
theorem run_gt : Run (opGt (.d (.int a)) (.d (.int b)) st) Q E = Q (.d (.bool (decide (b < a)))) st := by with_unfolding_all exact (rfl)
theorem run_ge : Run (opGe (.d (.int a)) (.d (.int b)) st) Q E = Q (.d (.bool (decide (b ≤ a)))) st := by with_unfolding_all exact (rfl)
theorem run_isN {w : W} : Run (opIsN w (.d .none) st) Q E = Q (.d (.bool (isNone w))) st := by with_unfolding_all (cases w <;> rfl)
theorem run_notN {w : W} : Run (opNotN w (.d .none) st) Q E = Q (.d (.bool (!isNone w))) st := by with_unfolding_all (cases w <;> rfl)
theorem run_isB {p q : Bool} : Run (opIsN (.d (.bool p)) (.d (.bool q)) st) Q E = Q (.d (.bool (decide (p = q)))) st := by with_unfolding_all exact (rfl)
theorem run_notB {p q : Bool} : Run (opNotN (.d (.bool p)) (.d (.bool q)) st) Q E = Q (.d (.bool (!decide (p = q)))) st := by with_unfolding_all exact (rfl)
theorem run_ltS : Run (opLt (.d (.str s)) (.d (.str t)) st) Q E = Q (.d (.bool (decide (s.cps.toList < t.cps.toList)))) st := by with_unfolding_all exact (rfl)
theorem run_leS : Run (opLe (.d (.str s)) (.d (.str t)) st) Q E = Q (.d (.bool (!decide (t.cps.toList < s.cps.toList)))) st := by with_unfolding_all exact (rfl)
theorem run_mulTI : Run (opMul (.d (.tuple xs)) (.d (.int b)) st) Q E = ((-(2 ^ 63) ≤ b ∧ b ≤ 1000 ∧ xs.length ≤ 1000 ∧ (xs ≠ [] ∨ b = 1)) ∧ Q (.d (.tuple (List.replicate b.toNat xs).flatten)) st) := by with_unfolding_all exact run_ite
theorem run_isi {ty : Ty} : Run (opIsi ty (.d x) st) Q E = Q (.d (.bool (isTy ty x))) st := by with_unfolding_all exact (rfl)
theorem run_ix0 : Run (opIx (.d (.tuple (x :: xs))) (.d (.int 0)) st) Q E = Q (.d x) st := by
  with_unfolding_all
  have e : L2.atI (x :: xs) 0 = some x := L2.atI_nat (j := 0) rfl
  simp only [opIx, asSeq, e, run_ok]
theorem run_ix1 {y : PyData} : Run (opIx (.d (.tuple (x :: y :: xs))) (.d (.int 1)) st) Q E = Q (.d y) st := by
  with_unfolding_all
  have e : L2.atI (x :: y :: xs) 1 = some y := L2.atI_nat (j := 1) rfl
  simp only [opIx, asSeq, e, run_ok]
theorem run_ix2 {y z : PyData} : Run (opIx (.d (.tuple (x :: y :: z :: xs))) (.d (.int 2)) st) Q E = Q (.d z) st := by
  with_unfolding_all
  have e : L2.atI (x :: y :: z :: xs) 2 = some z := L2.atI_nat (j := 2) rfl
  simp only [opIx, asSeq, e, run_ok]
theorem run_ix3 {y z u : PyData} : Run (opIx (.d (.tuple (x :: y :: z :: u :: xs))) (.d (.int 3)) st) Q E = Q (.d u) st := by
  with_unfolding_all
  have e : L2.atI (x :: y :: z :: u :: xs) 3 = some u := L2.atI_nat (j := 3) rfl
  simp only [opIx, asSeq, e, run_ok]
theorem run_ix0L : Run (opIx (.d (.list (x :: xs))) (.d (.int 0)) st) Q E = Q (.d x) st := by
  with_unfolding_all
  have e : L2.atI (x :: xs) 0 = some x := L2.atI_nat (j := 0) rfl
  simp only [opIx, asSeq, e, run_ok]
theorem run_ix1L {y : PyData} : Run (opIx (.d (.list (x :: y :: xs))) (.d (.int 1)) st) Q E = Q (.d y) st := by
  with_unfolding_all
  have e : L2.atI (x :: y :: xs) 1 = some y := L2.atI_nat (j := 1) rfl
  simp only [opIx, asSeq, e, run_ok]
theorem run_ix0N : Run (opIx (.new (x :: xs)) (.d (.int 0)) st) Q E = Q (.d x) st := by
  with_unfolding_all
  have e : L2.atI (x :: xs) 0 = some x := L2.atI_nat (j := 0) rfl
  simp only [opIx, asSeq, e, run_ok]
/-- at a place that there is -/
theorem run_ixT {α : Type} [Inhabited α] {d : α → PyData} {l : List α} {k : Nat} (h : k < l.length) : Run (opIx (.d (.tuple (l.map d))) (.d (.int k)) st) Q E = Q (.d (d (l[k]!))) st := by
  with_unfolding_all
  have e : L2.atI (l.map d) k = some (d (l[k]!)) := L2.atI_nat (j := k) (by simp [h])
  simp only [opIx, asSeq, e, run_ok]
theorem run_ixL {α : Type} [Inhabited α] {d : α → PyData} {l : List α} {k : Nat} (h : k < l.length) : Run (opIx (.d (.list (l.map d))) (.d (.int k)) st) Q E = Q (.d (d (l[k]!))) st := by
  with_unfolding_all
  have e : L2.atI (l.map d) k = some (d (l[k]!)) := L2.atI_nat (j := k) (by simp [h])
  simp only [opIx, asSeq, e, run_ok]
theorem run_ixR {α : Type} [Inhabited α] {d : α → PyData} {l : List α} {n k : Nat} (hn : st[n]? = some (.lst (l.map d))) (h : k < l.length) : Run (opIx (.ref n) (.d (.int k)) st) Q E = Q (.d (d (l[k]!))) st := by
  with_unfolding_all
  have e : L2.atI (l.map d) k = some (d (l[k]!)) := L2.atI_nat (j := k) (by simp [h])
  simp only [opIx, asSeq, hn, e, run_ok]
theorem run_lenT : Run (opLen [.d (.tuple xs)] st) Q E = Q (.d (.int xs.length)) st := by with_unfolding_all exact (rfl)
theorem run_lenL : Run (opLen [.d (.list xs)] st) Q E = Q (.d (.int xs.length)) st := by with_unfolding_all exact (rfl)
theorem run_lenN : Run (opLen [.new xs] st) Q E = Q (.d (.int xs.length)) st := by with_unfolding_all exact (rfl)
theorem run_tupleN : Run (opTuple [.new xs] st) Q E = Q (.d (.tuple xs)) st := by with_unfolding_all exact (rfl)
theorem run_tupleL : Run (opTuple [.d (.list xs)] st) Q E = Q (.d (.tuple xs)) st := by with_unfolding_all exact (rfl)
theorem run_tupleT : Run (opTuple [.d (.tuple xs)] st) Q E = Q (.d (.tuple xs)) st := by with_unfolding_all exact (rfl)
theorem run_listT : Run (opList [.d (.tuple xs)] st) Q E = Q (.new xs) st := by with_unfolding_all exact (rfl)
theorem run_listN : Run (opList [.new xs] st) Q E = Q (.new xs) st := by with_unfolding_all exact (rfl)
theorem run_listL : Run (opList [.d (.list xs)] st) Q E = Q (.new xs) st := by with_unfolding_all exact (rfl)
theorem run_slT {lo hi : Option Int} : Run (opSl (.d (.tuple xs)) lo hi st) Q E = Q (.d (.tuple (cutG xs lo hi))) st := by with_unfolding_all exact (rfl)
theorem run_slL {lo hi : Option Int} : Run (opSl (.d (.list xs)) lo hi st) Q E = Q (.new (cutG xs lo hi)) st := by with_unfolding_all exact (rfl)
theorem run_slN {lo hi : Option Int} : Run (opSl (.new xs) lo hi st) Q E = Q (.new (cutG xs lo hi)) st := by with_unfolding_all exact (rfl)
theorem run_revT : Run (opRev (.d (.tuple xs)) st) Q E = Q (.d (.tuple xs.reverse)) st := by with_unfolding_all exact (rfl)
theorem run_revN : Run (opRev (.new xs) st) Q E = Q (.new xs.reverse) st := by with_unfolding_all exact (rfl)
theorem run_revL : Run (opRev (.d (.list xs)) st) Q E = Q (.new xs.reverse) st := by with_unfolding_all exact (rfl)
theorem asInts_map : ∀ (ns : List Int), asInts (ns.map PyData.int) = some ns
  | [] => rfl
  | n :: ns => by simp only [List.map_cons, asInts, asInts_map ns]
theorem run_sumN {ns : List Int} : Run (opSum [.new (ns.map PyData.int)] st) Q E = Q (.d (.int ns.sum)) st := by
  with_unfolding_all
  simp only [opSum, intsOf, asSeq, asInts_map, run_ok]
theorem run_sumT {ns : List Int} : Run (opSum [.d (.tuple (ns.map PyData.int))] st) Q E = Q (.d (.int ns.sum)) st := by
  with_unfolding_all
  simp only [opSum, intsOf, asSeq, asInts_map, run_ok]
theorem run_max2 : Run (opMax [.d (.int a), .d (.int b)] st) Q E = Q (.d (.int (if b > a then b else a))) st := by with_unfolding_all exact (rfl)
theorem run_min2 : Run (opMin [.d (.int a), .d (.int b)] st) Q E = Q (.d (.int (if b < a then b else a))) st := by with_unfolding_all exact (rfl)
theorem asBools_id : ∀ {xs : List Bool}, asBools (xs.map PyData.bool) = some xs
  | [] => rfl
  | n :: ns => by simp only [List.map_cons, asBools, asBools_id]
theorem run_allN {bs : List Bool} : Run (opAll [.new (bs.map PyData.bool)] st) Q E = Q (.d (.bool (bs.all id))) st := by
  with_unfolding_all
  simp only [opAll, boolsOf, asList, asBools_id, run_ok]
theorem run_anyN {bs : List Bool} : Run (opAny [.new (bs.map PyData.bool)] st) Q E = Q (.d (.bool (bs.any id))) st := by
  with_unfolding_all
  simp only [opAny, boolsOf, asList, asBools_id, run_ok]
theorem run_rg1 {l : Bool} : Run (opRg1 l (.d (.int a)) st) Q E = (rgB 0 a = true ∧ Q (match l with | true => .new (rgD 0 a) | false => .d (.tuple (rgD 0 a))) st) := by
  with_unfolding_all
  show Run (mkRg l 0 a st) Q E = _
  unfold mkRg
  rw [run_ite]
  cases l <;> rfl
theorem run_rg2 {l : Bool} : Run (opRg2 l (.d (.int a)) (.d (.int b)) st) Q E = (rgB a b = true ∧ Q (match l with | true => .new (rgD a b) | false => .d (.tuple (rgD a b))) st) := by
  with_unfolding_all
  show Run (mkRg l a b st) Q E = _
  unfold mkRg
  rw [run_ite]
  cases l <;> rfl
theorem run_sorted {ns : List Int} : Run (opSorted [.new (ns.map PyData.int)] st) Q E = Q (.new ((isort ns).map PyData.int)) st := by
  with_unfolding_all
  simp only [opSorted, asList, asInts_map, run_ok]
theorem run_append {k : Nat} {l : List PyData} (h : st[k]? = some (.lst l)) : Run (opAppend (.ref k) [.d x] st) Q E = (l.length < sizeLine ∧ Q (.d .none) (st.set k (.lst (l ++ [x])))) := by
  with_unfolding_all
  simp only [opAppend, h, allD]
  exact run_ite'
end
section
variable {st : Store} {ρ : Env} {E : EQ} {Q : Bool → Store → Prop} {a b i j : Int} {x y : PyData} {xs ys : List PyData} {s t : Str}
theorem run_trB {b : Bool} : Run (truth (.d (.bool b)) st) Q E = Q b st := by with_unfolding_all exact (rfl)
theorem run_trI : Run (truth (.d (.int i)) st) Q E = Q (i != 0) st := by with_unfolding_all exact (rfl)
theorem run_trT : Run (truth (.d (.tuple xs)) st) Q E = Q (!xs.isEmpty) st := by with_unfolding_all exact (rfl)
theorem run_trL : Run (truth (.d (.list xs)) st) Q E = Q (!xs.isEmpty) st := by with_unfolding_all exact (rfl)
theorem run_trN : Run (truth (.new xs) st) Q E = Q (!xs.isEmpty) st := by with_unfolding_all exact (rfl)
theorem run_trNone : Run (truth (.d .none) st) Q E = Q false st := by with_unfolding_all exact (rfl)
theorem run_trR {n : Nat} {l : List PyData} (h : st[n]? = some (.lst l)) : Run (truth (.ref n) st) Q E = Q (!l.isEmpty) st := by
  with_unfolding_all
  simp only [truth, asSeq, h, run_ok]
end
section
variable {st : Store} {E : EQ} {Q : Iter → Store → Prop} {a b : Int} {xs ys : List PyData}
theorem run_itT : Run (iterOf (.d (.tuple xs)) st) Q E = Q ⟨xs.map .d, []⟩ st := by with_unfolding_all exact (rfl)
theorem run_itL : Run (iterOf (.d (.list xs)) st) Q E = Q ⟨xs.map .d, []⟩ st := by with_unfolding_all exact (rfl)
theorem run_itN : Run (iterOf (.new xs) st) Q E = Q ⟨xs.map .d, []⟩ st := by with_unfolding_all exact (rfl)
theorem run_range1 : Run (opRange1 [.d (.int a)] st) Q E = (inLong a = true ∧ Q ⟨rangeItems 0 a.toNat, []⟩ st) := by with_unfolding_all exact run_ite
theorem run_range2 : Run (opRange2 [.d (.int a), .d (.int b)] st) Q E = (inLong a = true ∧ inLong b = true ∧ Q ⟨rangeItems a (b - a).toNat, []⟩ st) := by
  with_unfolding_all
  rw [← and_assoc, ← Bool.and_eq_true]
  exact run_ite
theorem run_zipTT : Run (opZip [.d (.tuple xs), .d (.tuple ys)] st) Q E = Q ⟨zipItems xs ys, []⟩ st := by with_unfolding_all exact (rfl)
theorem run_enumT : Run (opEnum [.d (.tuple xs)] st) Q E = Q ⟨enumItems 0 xs, []⟩ st := by with_unfolding_all exact (rfl)
theorem run_enumL : Run (opEnum [.d (.list xs)] st) Q E = Q ⟨enumItems 0 xs, []⟩ st := by with_unfolding_all exact (rfl)
theorem run_enumN : Run (opEnum [.new xs] st) Q E = Q ⟨enumItems 0 xs, []⟩ st := by with_unfolding_all exact (rfl)
end
end Ev

namespace Ev
open PySem
/-- runs to a value, the store as it was -/
def Gives (F : List W → M W) (ws : List W) (w : W) : Prop := ∀ st, F ws st = some (.ok w, st)

/-! ### numbers -/
theorem fmod_pos {a b : Int} (h : 0 < b) : a.fmod b = a % b := Int.fmod_eq_emod_of_nonneg _ (by omega)
theorem fdiv_pos {a b : Int} (h : 0 < b) : a.fdiv b = a / b := Int.fdiv_eq_ediv_of_nonneg _ (by omega)
theorem gcd_step (a b : Int) : Int.gcd b (a % b) = Int.gcd a b := by
  have h := Int.gcd_add_mul_left_right b (a % b) (a / b)
  rw [Int.emod_add_mul_ediv] at h
  rw [← h, Int.gcd_comm]
theorem eu {α : Type} (L : Nat → Int → Int → α) (R : Int → α) (hs : ∀ n a b, b ≠ 0 → L (n + 1) a b = L n b (a.fmod b)) (he : ∀ n a, L (n + 1) a 0 = R a) :
    ∀ (m n : Nat) (a b : Int), 0 < b → b < 2 ^ m → 2 * m + 1 ≤ n → L n a b = R (Int.gcd a b) := by
  intro m
  induction m with
  | zero => intro n a b h1 h2 _; omega
  | succ m ih =>
    intro n a b h1 h2 h3
    obtain ⟨n, rfl⟩ : ∃ j, n = j + 3 := ⟨n - 3, by omega⟩
    rw [hs _ _ _ (by omega), fmod_pos h1]
    have hr := Int.emod_nonneg a (show b ≠ 0 by omega)
    have hr2 := Int.emod_lt_of_pos a h1
    rw [← gcd_step a b]
    by_cases h0 : a % b = 0
    · rw [h0, he, Int.gcd_zero_right]
      congr 1
      omega
    · rw [hs _ _ _ h0, fmod_pos (by omega), ← gcd_step b (a % b)]
      have hp : 0 < a % b := by omega
      have hq := Int.emod_nonneg b (show a % b ≠ 0 by omega)
      have hq2 := Int.emod_lt_of_pos b hp
      by_cases h00 : b % (a % b) = 0
      · rw [h00, he, Int.gcd_zero_right]
        congr 1
        omega
      · refine ih (n + 1) _ _ (by omega) ?_ (by omega)
        have e := Int.emod_add_mul_ediv b (a % b)
        have hd : 1 ≤ b / (a % b) := Int.le_ediv_of_mul_le hp (by omega)
        have hm : a % b * 1 ≤ a % b * (b / (a % b)) := Int.mul_le_mul_of_nonneg_left hd (by omega)
        have h4 : (2 : Int) ^ (m + 1) = 2 * 2 ^ m := by rw [Int.pow_succ]; omega
        omega
theorem log2_lt {a : Int} {n : Nat} (h : a.natAbs < 2 ^ n) (hn : 0 < n) : a.natAbs.log2 < n := by
  by_cases h0 : a.natAbs = 0
  · rw [h0]; simpa using hn
  · exact (Nat.log2_lt h0).mpr h
theorem mulOk_of {a b : Int} (ha : a.natAbs < 2 ^ 400000) (hb : b.natAbs < 2 ^ 400000) : mulOk a b = true := by
  have h1 := log2_lt ha (by decide)
  have h2 := log2_lt hb (by decide)
  unfold mulOk
  exact decide_eq_true (by omega)
theorem divOk_of {b : Int} (h0 : b ≠ 0) (hb : b.natAbs < 2 ^ 9000) : divOk b = true := by
  have h2 := log2_lt hb (by decide)
  unfold divOk
  rw [decide_eq_true h0, decide_eq_true h2]
  rfl

/-! ### fractions -/
def frac (x : Rat) : PyData := .tuple [.int x.num, .int x.den]
def quo (a b : Int) : Rat := (a : Rat) / (b : Rat)
theorem quo_mk {a b : Int} (h : 0 < b) : quo a b = mkRat a b.toNat := by
  rw [Rat.mkRat_eq_div]
  unfold quo
  congr 1
  have : ((b.toNat : Nat) : Int) = b := Int.toNat_of_nonneg (by omega)
  rw [← Rat.intCast_natCast, this]
theorem frac_quo {a b : Int} (h : 0 < b) : frac (quo a b) = .tuple [.int (a / (Int.gcd a b : Nat)), .int (b / (Int.gcd a b : Nat))] := by
  have e : b.toNat.gcd a.natAbs = Int.gcd a b := by
    rw [Nat.gcd_comm]
    show Nat.gcd a.natAbs b.toNat = Nat.gcd a.natAbs b.natAbs
    congr 1
    omega
  have e2 : ((b.toNat : Nat) : Int) = b := Int.toNat_of_nonneg (by omega)
  unfold frac
  rw [quo_mk h, Rat.num_mkRat, Rat.den_mkRat, if_neg (by omega), if_neg (by omega), e]
  rw [Int.natCast_ediv, e2]
end Ev

namespace Ev
open PySem
local macro_rules | `(tactic| dsimp! only [$xs,*]) => `(tactic| simp only [fnSem, leave, sSeq, sRet, sExpr, sNext, sIfS, sAsg, sCell, toCell, sPar, storeAll, storeW, sSetIx, opSet, sVar, sCon, sBin, sUn, sArgs, sCallB, sMeth, sCallF, sTest, sTestB, sNot, sAnd, sOr, sIf, sAndV, sOrV, sNotV, sChain, sSlice, sPart, sFor, sLc, sIter, sIterC, sYes, iterOf, gVar, gTuple, gAll, frz_new, frz_d, frz_ref, frz_scr, isLst, isStr, mbind, mret, mfail, truth, truthB, asSeq, asList, asData, opIsi, isTy, opIsN, opNotN, isNone, allD, opTup, opLst, opLen, List.map_cons, List.map_nil, List.getElem?_cons_zero, List.getElem?_cons_succ, List.set_cons_zero, List.set_cons_succ, List.length_cons, List.length_nil, List.cons_append, List.nil_append, List.replicate, List.take_succ_cons, List.take_zero, List.take_length, Nat.reduceAdd, Nat.reduceSub, Nat.reduceLeDiff, if_true, if_false, ite_true, ite_false, reduceIte, reduceCtorEq, wipeG, Bool.false_eq_true, Bool.not_true, Bool.not_false, sz0, sz1, sz2, sz3, sz4, sz5, sz6, sz7, sz8, $xs,*])
theorem opMul_ok {a b : Int} {st : Store} (h : mulOk a b = true) : opMul (I a) (I b) st = some (.ok (I (a * b)), st) := by
  simp only [opMul, h, if_true, mret]
theorem opDiv_ok {a b : Int} {st : Store} (h : divOk b = true) : opDiv (I a) (I b) st = some (.ok (I (a.fdiv b)), st) := by
  simp only [opDiv, h, if_true, mret]
theorem opMod_ok {a b : Int} {st : Store} (h : b ≠ 0) : opMod (I a) (I b) st = some (.ok (I (a.fmod b)), st) := by
  simp only [opMod, h, ne_eq, not_false_eq_true, if_true, mret]
theorem opAdd_ok {a b : Int} {st : Store} : opAdd (I a) (I b) st = some (.ok (I (a + b)), st) := rfl
theorem opSub_ok {a b : Int} {st : Store} : opSub (I a) (I b) st = some (.ok (I (a - b)), st) := rfl
theorem ix0 {a : PyData} {xs : List PyData} {st : Store} : opIx (.d (.tuple (a :: xs))) (I 0) st = some (.ok (.d a), st) := by
  simp [opIx, asSeq, L2.atI, L2.ixN]
theorem ix1 {a b : PyData} {xs : List PyData} {st : Store} : opIx (.d (.tuple (a :: b :: xs))) (I 1) st = some (.ok (.d b), st) := by
  have e : L2.atI (a :: b :: xs) 1 = some b := L2.atI_nat (j := 1) rfl
  simp only [opIx, asSeq, e]
theorem ix2 {a b c : PyData} {xs : List PyData} {st : Store} : opIx (.d (.tuple (a :: b :: c :: xs))) (I 2) st = some (.ok (.d c), st) := by
  have e : L2.atI (a :: b :: c :: xs) 2 = some c := L2.atI_nat (j := 2) rfl
  simp only [opIx, asSeq, e]

def F_divisor_c1 (C : Str → List Ev.W → Ev.M Ev.W) : Ev.Env → Ev.M Bool := (sTest (sVar 1))
def F_divisor_b1 (C : Str → List Ev.W → Ev.M Ev.W) : Ev.Env → Ev.M Out := (sSeq (sPar [(false, 0), (false, 1)] (sArgs [(sVar 1), (sBin opMod (sVar 0) (sVar 1))])) sNext)
def F_divisor_l1 (C : Str → List Ev.W → Ev.M Ev.W) : Ev.Env → Ev.M Out := (whileLoop (F_divisor_c1 C) (F_divisor_b1 C) wFuel)
def F_divisor (C : Str → List Ev.W → Ev.M Ev.W) : Ev.Env → Ev.M Out := (sSeq (F_divisor_l1 C) (sSeq (sRet (sVar 0)) sNext))
theorem div_step (C : Call) {a b : Int} {n : Nat} {st : Store} (hb : b ≠ 0) : whileLoop (F_divisor_c1 C) (F_divisor_b1 C) (n + 1) [some (I a), some (I b)] st = whileLoop (F_divisor_c1 C) (F_divisor_b1 C) n [some (I b), some (I (a.fmod b))] st := by
  have h1 : (b != 0) = true := by simpa using hb
  rw [whileLoop]
  dsimp! only [F_divisor_c1, F_divisor_b1, I, opMod, h1, hb, ne_eq, not_false_eq_true]
theorem div_end (C : Call) {a : Int} {n : Nat} {st : Store} : whileLoop (F_divisor_c1 C) (F_divisor_b1 C) (n + 1) [some (I a), some (I 0)] st = some (.ok (.nx [some (I a), some (I 0)]), st) := by
  rw [whileLoop]
  dsimp! only [F_divisor_c1, F_divisor_b1, I, bne_self_eq_false]
def SpecDiv (F : List W → M W) : Prop := ∀ (a b : Int), 0 < b → b < 2 ^ 8000 → Gives F [I a, I b] (I (Int.gcd a b))
theorem spec_divisor (C : Call) : SpecDiv (fnSem 2 2 (F_divisor C)) := by
  intro a b h1 h2 st
  have h : F_divisor_l1 C [some (I a), some (I b)] st = _ := eu (fun n a b => whileLoop (F_divisor_c1 C) (F_divisor_b1 C) n [some (I a), some (I b)] st) (fun g => some (.ok (.nx [some (I g), some (I 0)]), st)) (fun n a b h => div_step C h) (fun n a => div_end C) 8000 wFuel a b h1 h2 (by decide)
  dsimp! only [F_divisor, h]
def SpecLow (F : List W → M W) : Prop := ∀ (a b : Int), 0 < b → b < 2 ^ 8000 → Gives F [I a, I b] (.d (frac (quo a b)))
theorem gcd_pos {a b : Int} (h : 0 < b) : (0 : Int) < Int.gcd a b := by
  have : Int.gcd a b ≠ 0 := fun e => by rw [Int.gcd_eq_zero_iff] at e; omega
  omega
theorem gcd_div_ok {a b : Int} (h1 : 0 < b) (h2 : b < 2 ^ 8000) : divOk ((Int.gcd a b : Nat) : Int) = true := by
  have h3 := gcd_pos (a := a) h1
  have h4 : ((Int.gcd a b : Nat) : Int) ≤ b := Int.le_of_dvd h1 (Int.gcd_dvd_right ..)
  have h5 : (2 : Int) ^ 8000 ≤ 2 ^ 9000 := by decide +kernel
  refine divOk_of (by omega) ?_
  have : (((Int.gcd a b : Nat) : Int).natAbs : Int) < ((2 ^ 9000 : Nat) : Int) := by
    rw [Int.natCast_pow]
    show _ < (2 : Int) ^ 9000
    omega
  omega
def F_lowest (C : Str → List Ev.W → Ev.M Ev.W) : Ev.Env → Ev.M Out := (sSeq (sAsg (sCallF 2 (C (Str.ofString "divisor")) (sArgs [(sVar 0), (sVar 1)])) (gVar 2)) (sSeq (sRet (sCallB opTup (sArgs [(sBin opDiv (sVar 0) (sVar 2)), (sBin opDiv (sVar 1) (sVar 2))]))) sNext))
theorem spec_lowest {C : Call} (hd : SpecDiv (C (Str.ofString "divisor"))) : SpecLow (fnSem 2 3 (F_lowest C)) := by
  intro a b h1 h2 st
  have e := hd a b h1 h2 st
  have h3 := gcd_pos (a := a) h1
  have h4 := gcd_div_ok (a := a) h1 h2
  rw [frac_quo h1]
  dsimp! only [F_lowest, e, opDiv, h4, fdiv_pos h3]
def F_law_low_c1 (C : Str → List Ev.W → Ev.M Ev.W) : Ev.Env → Ev.M Bool := (sTestB (sBin opNe (sVar 3) (sCon (.int 0))))
def F_law_low_b1 (C : Str → List Ev.W → Ev.M Ev.W) : Ev.Env → Ev.M Out := (sSeq (sPar [(false, 2), (false, 3)] (sArgs [(sVar 3), (sBin opMod (sVar 2) (sVar 3))])) sNext)
def F_law_low_l1 (C : Str → List Ev.W → Ev.M Ev.W) : Ev.Env → Ev.M Out := (whileLoop (F_law_low_c1 C) (F_law_low_b1 C) wFuel)
def F_law_low (C : Str → List Ev.W → Ev.M Ev.W) : Ev.Env → Ev.M Out := (sSeq (sPar [(false, 2), (false, 3)] (sArgs [(sVar 0), (sVar 1)])) (sSeq (F_law_low_l1 C) (sSeq (sRet (sCallB opTup (sArgs [(sBin opDiv (sVar 0) (sVar 2)), (sBin opDiv (sVar 1) (sVar 2))]))) sNext)))
theorem low_step (C : Call) {a b : Int} {x y : Option W} {n : Nat} {st : Store} (hb : b ≠ 0) : whileLoop (F_law_low_c1 C) (F_law_low_b1 C) (n + 1) [x, y, some (I a), some (I b)] st = whileLoop (F_law_low_c1 C) (F_law_low_b1 C) n [x, y, some (I b), some (I (a.fmod b))] st := by
  have h1 : (b == 0) = false := by simpa using hb
  rw [whileLoop]
  dsimp! only [F_law_low_c1, F_law_low_b1, I, opMod, opNe, h1, shaped_int, hb, ne_eq, not_false_eq_true, PyData.eqv, Bool.and_true]
theorem low_end (C : Call) {a : Int} {x y : Option W} {n : Nat} {st : Store} : whileLoop (F_law_low_c1 C) (F_law_low_b1 C) (n + 1) [x, y, some (I a), some (I 0)] st = some (.ok (.nx [x, y, some (I a), some (I 0)]), st) := by
  rw [whileLoop]
  dsimp! only [F_law_low_c1, F_law_low_b1, I, opMod, opNe, shaped_int, PyData.eqv, Bool.and_true, beq_self_eq_true]
theorem spec_law_low (C : Call) : SpecLow (fnSem 2 4 (F_law_low C)) := by
  intro a b h1 h2 st
  have h : F_law_low_l1 C [some (I a), some (I b), some (I a), some (I b)] st = _ := eu (fun n a' b' => whileLoop (F_law_low_c1 C) (F_law_low_b1 C) n [some (I a), some (I b), some (I a'), some (I b')] st) (fun g => some (.ok (.nx [some (I a), some (I b), some (I g), some (I 0)]), st)) (fun n a b h => low_step C h) (fun n a => low_end C) 8000 wFuel a b h1 h2 (by decide)
  have h3 := gcd_pos (a := a) h1
  have h4 := gcd_div_ok (a := a) h1 h2
  rw [frac_quo h1]
  dsimp! only [F_law_low, h, opDiv, h4, fdiv_pos h3]
end Ev

namespace Ev
open PySem
local macro_rules | `(tactic| dsimp! only [$xs,*]) => `(tactic| simp only [fnSem, leave, sSeq, sRet, sExpr, sNext, sIfS, sAsg, sCell, toCell, sPar, storeAll, storeW, sSetIx, opSet, sVar, sCon, sBin, sUn, sArgs, sCallB, sMeth, sCallF, sTest, sTestB, sNot, sAnd, sOr, sIf, sAndV, sOrV, sNotV, sChain, sSlice, sPart, sFor, sLc, sIter, sIterC, sYes, iterOf, gVar, gTuple, gAll, frz_new, frz_d, frz_ref, frz_scr, isLst, isStr, mbind, mret, mfail, truth, truthB, asSeq, asList, asData, opIsi, isTy, opIsN, opNotN, isNone, allD, opTup, opLst, opLen, List.map_cons, List.map_nil, List.getElem?_cons_zero, List.getElem?_cons_succ, List.set_cons_zero, List.set_cons_succ, List.length_cons, List.length_nil, List.cons_append, List.nil_append, List.replicate, List.take_succ_cons, List.take_zero, List.take_length, Nat.reduceAdd, Nat.reduceSub, Nat.reduceLeDiff, if_true, if_false, ite_true, ite_false, reduceIte, reduceCtorEq, wipeG, Bool.false_eq_true, Bool.not_true, Bool.not_false, sz0, sz1, sz2, sz3, sz4, sz5, sz6, sz7, sz8, $xs,*])
/-! ### comprehensions -/
theorem lc_gen {L : List (Nat × List PyData)} {g : Tg} {f : Env → M W} {ρ : Env} {φ : W → PyData} {st : Store} (hl : locksB L st = true) : ∀ (ws : List W) (acc : List PyData), (∀ w ∈ ws, ∃ ρ1 v, g w ρ = some ρ1 ∧ f ρ1 st = some (.ok v, st) ∧ frz v = .d (φ w)) → acc.length + ws.length ≤ sizeLine → lcLoop L g sYes f ρ ws acc st = some (acc ++ ws.map φ, st)
  | [], acc, _, _ => by simp [lcLoop, hl]
  | w :: ws, acc, h, hz => by
    obtain ⟨ρ1, v, h1, h2, h3⟩ := h w List.mem_cons_self
    rw [List.length_cons] at hz
    rw [lcLoop, if_pos hl]
    simp only [lcTurn, h1, sYes, mret, h2, h3]
    rw [if_pos (by omega)]
    dsimp only
    rw [lc_gen hl ws (acc ++ [φ w]) (fun w hw => h w (List.mem_cons_of_mem _ hw)) (by rw [List.length_append, List.length_singleton]; omega)]
    simp
theorem lc_state {g : Tg} {f : Env → M W} {ρ : Env} {P : Nat → Store → Prop} {R : PyData → Prop} {c lim : Nat} : ∀ (ws : List W) (acc : List PyData) (n : Nat) (st : Store), P n st →
    (∀ w ∈ ws, ∀ n st, P n st → n + c ≤ lim → ∃ ρ1 v y st', g w ρ = some ρ1 ∧ f ρ1 st = some (.ok v, st') ∧ frz v = .d y ∧ R y ∧ P (n + c) st') → n + c * ws.length ≤ lim → acc.length + ws.length ≤ sizeLine →
    ∃ ys st', lcLoop [] g sYes f ρ ws acc st = some (acc ++ ys, st') ∧ ys.length = ws.length ∧ (∀ y ∈ ys, R y) ∧ P (n + c * ws.length) st'
  | [], acc, n, st, hp, _, _, _ => ⟨[], st, by simp [lcLoop, locksB], rfl, fun y hy => absurd hy List.not_mem_nil, by simpa using hp⟩
  | w :: ws, acc, n, st, hp, h, hn, hz => by
    rw [List.length_cons, Nat.mul_succ] at hn
    rw [List.length_cons] at hz
    obtain ⟨ρ1, v, y, st1, h1, h2, h3, h4, h5⟩ := h w List.mem_cons_self n st hp (by omega)
    obtain ⟨ys, st2, k1, k2, k3, k4⟩ := lc_state ws (acc ++ [y]) (n + c) st1 h5 (fun w hw => h w (List.mem_cons_of_mem _ hw)) (by omega) (by rw [List.length_append, List.length_singleton]; omega)
    refine ⟨y :: ys, st2, ?_, by rw [List.length_cons, k2]; rfl, fun z hz => ?_, ?_⟩
    · rw [lcLoop, if_pos (by rfl)]
      simp only [lcTurn, h1, sYes, mret, h2, h3]
      rw [if_pos (by omega)]
      dsimp only
      rw [k1]
      simp
    · rcases List.mem_cons.mp hz with rfl | hz
      · exact h4
      · exact k3 z hz
    · rw [List.length_cons, Nat.mul_succ]
      have e : n + c + c * ws.length = n + (c * ws.length + c) := by omega
      rw [← e]
      exact k4

/-! ### a draw -/
def lim : Nat := 10000000
def Town (rest : Store) (n : Nat) (st : Store) : Prop := ∃ xs, st = .lst xs :: rest ∧ xs.length ≤ n ∧ (xs = [] ∨ ∃ h t, xs = .int h :: t)
def SpecDraw (ns : List Int) (F : List W → M W) : Prop := ∀ (m : Int) (rest : Store) (n : Nat) (st : Store), 0 < m → Town rest n st → n + 2 ≤ lim → ∃ v st', F [.scr ns, .ref 0, I m] st = some (.ok (I v), st') ∧ 0 ≤ v ∧ v < m ∧ Town rest (n + 2) st'
theorem atI0 {α : Type} {a : α} {xs : List α} : L2.atI (a :: xs) 0 = some a := L2.atI_nat (j := 0) rfl
theorem ixN0 {n : Nat} : L2.ixN (n + 1) 0 = some 0 := by simp [L2.ixN]
theorem fmod_bd (a : Int) {b : Int} (h : 0 < b) : 0 ≤ a.fmod b ∧ a.fmod b < b := by
  rw [fmod_pos h]
  exact ⟨Int.emod_nonneg a (by omega), Int.emod_lt_of_pos a h⟩
theorem two64 : 2 ^ 64 ≤ 2 ^ 400000 := Nat.pow_le_pow_right (by decide) (by decide)
theorem mulOk_small {a b : Int} (ha : a.natAbs < 2 ^ 64) (hb : b.natAbs < 2 ^ 64) : mulOk a b = true := mulOk_of (Nat.lt_of_lt_of_le ha two64) (Nat.lt_of_lt_of_le hb two64)
theorem mk1 (a : Int) : mulOk 40503 (a.fmod 65536) = true := by
  have := fmod_bd a (b := 65536) (by decide)
  exact mulOk_small (by decide) (by omega)
theorem mk2 {k : Nat} (h : k ≤ lim) : mulOk 104729 (k : Nat) = true := by
  unfold lim at h
  exact mulOk_small (by decide) (by omega)
theorem mk3 (a : Int) : mulOk (a.fmod 4294967291) (a.fmod 4294967291) = true := by
  have := fmod_bd a (b := 4294967291) (by decide)
  exact mulOk_small (by omega) (by omega)
theorem mk4 (a : Int) : mulOk (a.fmod 4294967279) 48271 = true := by
  have := fmod_bd a (b := 4294967279) (by decide)
  exact mulOk_small (by omega) (by decide)
theorem mk5 (a : Int) : mulOk (a.fmod 4294967279) 69621 = true := by
  have := fmod_bd a (b := 4294967279) (by decide)
  exact mulOk_small (by omega) (by decide)
theorem mk6 (a : Int) : mulOk ((a.fmod 4294967291).fdiv 64) 67108864 = true := by
  have := fmod_bd a (b := 4294967291) (by decide)
  rw [fdiv_pos (by decide)]
  exact mulOk_small (by omega) (by decide)
theorem dk1 : divOk 65536 = true := by decide +kernel
theorem dk2 : divOk 64 = true := by decide +kernel
def F_law_draw_b1 (C : Str → List Ev.W → Ev.M Ev.W) : Ev.Env → Ev.M Ev.W := (sCallB opAbs (sArgs [(sVar 3)]))
def F_law_draw_l1 (C : Str → List Ev.W → Ev.M Ev.W) : Ev.Env → Ev.M Ev.W := (sLc (sIter (sVar 0)) [3] (gVar 3) sYes (F_law_draw_b1 C))
def F_law_draw (C : Str → List Ev.W → Ev.M Ev.W) : Ev.Env → Ev.M Out := (sSeq (sIfS (sNot (sTest (sVar 1))) (sSeq (sExpr (sMeth isLst opAppend (sVar 1) (sArgs [(sCallB opMax (sArgs [(sBin opAdd (F_law_draw_l1 C) (sCallB opLst (sArgs [(sCon (.int 0))])))]))]))) sNext) sNext) (sSeq (sExpr (sMeth isLst opAppend (sVar 1) (sArgs [(sCon (.int 0))]))) (sSeq (sAsg (sCallB opLen (sArgs [(sVar 1)])) (gVar 4)) (sSeq (sAsg (sIf (sTest (sVar 0)) (sBin opIx (sVar 0) (sBin opMod (sVar 4) (sCallB opLen (sArgs [(sVar 0)])))) (sCon (.int 0))) (gVar 3)) (sSeq (sAsg (sBin opMod (sBin opIx (sVar 1) (sCon (.int 0))) (sCon (.int 65536))) (gVar 5)) (sSeq (sSetIx (sBin opDiv (sBin opIx (sVar 1) (sCon (.int 0))) (sCon (.int 65536))) (sVar 1) (sCon (.int 0))) (sSeq (sAsg (sBin opMod (sBin opAdd (sBin opAdd (sVar 3) (sBin opMul (sCon (.int 40503)) (sVar 5))) (sBin opMul (sCon (.int 104729)) (sVar 4))) (sCon (.int 4294967291))) (gVar 6)) (sSeq (sAsg (sBin opMod (sBin opMul (sBin opMod (sBin opMul (sVar 6) (sVar 6)) (sCon (.int 4294967279))) (sCon (.int 48271))) (sCon (.int 4294967291))) (gVar 6)) (sSeq (sAsg (sBin opMod (sBin opMul (sBin opMod (sBin opMul (sVar 6) (sVar 6)) (sCon (.int 4294967279))) (sCon (.int 69621))) (sCon (.int 4294967291))) (gVar 7)) (sSeq (sRet (sBin opMod (sBin opAdd (sBin opMul (sBin opDiv (sVar 6) (sCon (.int 64))) (sCon (.int 67108864))) (sBin opDiv (sVar 7) (sCon (.int 64)))) (sVar 2))) sNext))))))))))
theorem draw_abs (C : Call) {ns : List Int} {x1 x2 x3 x4 x5 x6 x7 : Option W} {st : Store} (h : ns.length ≤ 63) : F_law_draw_l1 C [some (.scr ns), x1, x2, x3, x4, x5, x6, x7] st = some (.ok (.new (ns.map fun i => .int (if i < 0 then -i else i))), st) := by
  have hz : (63 : Nat) ≤ sizeLine := by decide
  have e := lc_gen (L := []) (g := gVar 3) (f := F_law_draw_b1 C) (ρ := [some (.scr ns), x1, x2, none, x4, x5, x6, x7]) (φ := fun w => match w with | .d (.int i) => .int (if i < 0 then -i else i) | _ => .none) (st := st) rfl ((ns.map PyData.int).map W.d) [] (by
    intro w hw
    simp only [List.map_map, List.mem_map] at hw
    obtain ⟨i, _, rfl⟩ := hw
    refine ⟨_, I (if i < 0 then -i else i), rfl, ?_, rfl⟩
    dsimp! only [F_law_draw_b1, opAbs, Function.comp]) (by simp; omega)
  dsimp! only [F_law_draw_l1, e]
  simp [Function.comp_def]
theorem spec_law_draw (C : Call) {ns : List Int} (hns : ns.length ≤ 63) : SpecDraw ns (fnSem 3 8 (F_law_draw C)) := by
  intro m rest n st hm ⟨xs, hst, hlen, hx⟩ hn
  subst hst
  have hz : lim + 10 ≤ sizeLine := by decide
  have cellOk : ∀ k : Int, ns ≠ [] → ∃ c : Int, L2.atI (ns.map PyData.int) (k.fmod (ns.map PyData.int).length) = some (.int c) := by
    intro k h0
    have hl : 0 < ns.length := List.length_pos_iff.mpr h0
    have hb := fmod_bd k (b := ((ns.map PyData.int).length : Nat)) (by rw [List.length_map]; omega)
    obtain ⟨j, hj⟩ : ∃ j : Nat, k.fmod ((ns.map PyData.int).length : Nat) = j := ⟨_, (Int.toNat_of_nonneg hb.1).symm⟩
    rw [hj] at hb ⊢
    rw [List.length_map] at hb
    have hj2 : j < ns.length := by omega
    exact ⟨ns[j], L2.atI_nat (by simp [hj2])⟩
  have main : ∀ (h : Int) (t : List PyData) (c : Int) , t.length + 1 ≤ n + 1 → ∃ v st', leave (rest.length + 1) ((sSeq (sExpr (sMeth isLst opAppend (sVar 1) (sArgs [(sCon (.int 0))]))) (sSeq (sAsg (sCallB opLen (sArgs [(sVar 1)])) (gVar 4)) (sSeq (sAsg (sIf (sTest (sVar 0)) (sBin opIx (sVar 0) (sBin opMod (sVar 4) (sCallB opLen (sArgs [(sVar 0)])))) (sCon (.int 0))) (gVar 3)) (sSeq (sAsg (sBin opMod (sBin opIx (sVar 1) (sCon (.int 0))) (sCon (.int 65536))) (gVar 5)) (sSeq (sSetIx (sBin opDiv (sBin opIx (sVar 1) (sCon (.int 0))) (sCon (.int 65536))) (sVar 1) (sCon (.int 0))) (sSeq (sAsg (sBin opMod (sBin opAdd (sBin opAdd (sVar 3) (sBin opMul (sCon (.int 40503)) (sVar 5))) (sBin opMul (sCon (.int 104729)) (sVar 4))) (sCon (.int 4294967291))) (gVar 6)) (sSeq (sAsg (sBin opMod (sBin opMul (sBin opMod (sBin opMul (sVar 6) (sVar 6)) (sCon (.int 4294967279))) (sCon (.int 48271))) (sCon (.int 4294967291))) (gVar 6)) (sSeq (sAsg (sBin opMod (sBin opMul (sBin opMod (sBin opMul (sVar 6) (sVar 6)) (sCon (.int 4294967279))) (sCon (.int 69621))) (sCon (.int 4294967291))) (gVar 7)) (sSeq (sRet (sBin opMod (sBin opAdd (sBin opMul (sBin opDiv (sVar 6) (sCon (.int 64))) (sCon (.int 67108864))) (sBin opDiv (sVar 7) (sCon (.int 64)))) (sVar 2))) sNext))))))))) [some (.scr ns), some (.ref 0), some (I m), none, none, none, none, none] (.lst (.int h :: t) :: rest)) = some (.ok (I v), st') ∧ 0 ≤ v ∧ v < m ∧ Town rest (n + 2) st' := by
    intro h t c ht
    have a1 : t.length + 1 < sizeLine := by omega
    have mk2' : mulOk 104729 ((t ++ [PyData.int 0]).length + 1 : Nat) = true := mk2 (by rw [List.length_append, List.length_singleton]; omega)
    rcases Decidable.em (ns = []) with h0 | h0
    · subst h0
      dsimp! only [opAppend, a1, atI0, ixN0, opIx, opMod, opDiv, opMul, opAdd, mk1, mk2', mk3, mk4, mk5, mk6, dk1, dk2, List.isEmpty_nil, Int.reduceEq, ne_eq, not_false_eq_true, show ¬ (m = 0) by omega]
      refine ⟨_, _, rfl, (fmod_bd _ hm).1, (fmod_bd _ hm).2, _, rfl, ?_, .inr ⟨_, _, rfl⟩⟩
      simp
      omega
    · obtain ⟨c, hc⟩ := cellOk ((t ++ [PyData.int 0]).length + 1 : Nat) h0
      have e0 : (ns.map PyData.int).isEmpty = false := by simpa using h0
      have e1 : ¬ (((ns.map PyData.int).length : Int) = 0) := by
        have : 0 < ns.length := List.length_pos_iff.mpr h0
        rw [List.length_map]; omega
      dsimp! only [opAppend, a1, atI0, ixN0, opIx, opMod, opDiv, opMul, opAdd, mk1, mk2', mk3, mk4, mk5, mk6, dk1, dk2, e0, hc, e1, Int.reduceEq, ne_eq, not_false_eq_true, show ¬ (m = 0) by omega]
      refine ⟨_, _, rfl, (fmod_bd _ hm).1, (fmod_bd _ hm).2, _, rfl, ?_, .inr ⟨_, _, rfl⟩⟩
      simp
      omega
  rcases hx with rfl | ⟨h, t, rfl⟩
  · have e2 : asInts (ns.map (fun i => PyData.int (if i < 0 then -i else i)) ++ [PyData.int 0]) = some (ns.map (fun i => if i < 0 then -i else i) ++ [0]) := by
      rw [← asInts_map]
      simp [Function.comp_def]
    obtain ⟨v0, vs, e3⟩ : ∃ v0 vs, ns.map (fun i : Int => if i < 0 then -i else i) ++ [0] = v0 :: vs := by
      cases ns with
      | nil => exact ⟨_, _, rfl⟩
      | cons a b => exact ⟨_, _, rfl⟩
    rw [e3] at e2
    have e4 : (ns.map (fun i => PyData.int (if i < 0 then -i else i))).length + 1 ≤ sizeLine := by
      rw [List.length_map]
      have : (64 : Nat) ≤ sizeLine := by decide
      omega
    obtain ⟨v, st', m1, m2, m3, m4⟩ := main (maxL v0 vs) [] 0 (by simp)
    refine ⟨v, st', ?_, m2, m3, m4⟩
    rw [← m1]
    have hz1 : 0 < sizeLine := by decide
    dsimp! only [F_law_draw, draw_abs C hns, opAppend, opMax, intsOf, e2, opAdd, e4, List.isEmpty_nil, hz1]
  · obtain ⟨v, st', m1, m2, m3, m4⟩ := main h t 0 (by simpa using Nat.le_succ_of_le hlen)
    refine ⟨v, st', ?_, m2, m3, m4⟩
    rw [← m1]
    dsimp! only [F_law_draw, List.isEmpty_cons]
end Ev

namespace Ev
open PySem
local macro_rules | `(tactic| dsimp! only [$xs,*]) => `(tactic| simp only [fnSem, leave, sSeq, sRet, sExpr, sNext, sIfS, sAsg, sCell, toCell, sPar, storeAll, storeW, sSetIx, opSet, sVar, sCon, sBin, sUn, sArgs, sCallB, sMeth, sCallF, sTest, sTestB, sNot, sAnd, sOr, sIf, sAndV, sOrV, sNotV, sChain, sSlice, sPart, sFor, sLc, sIter, sIterC, sYes, iterOf, gVar, gTuple, gAll, frz_new, frz_d, frz_ref, frz_scr, isLst, isStr, mbind, mret, mfail, truth, truthB, asSeq, asList, asData, opIsi, isTy, opIsN, opNotN, isNone, allD, opTup, opLst, opLen, List.map_cons, List.map_nil, List.getElem?_cons_zero, List.getElem?_cons_succ, List.set_cons_zero, List.set_cons_succ, List.length_cons, List.length_nil, List.cons_append, List.nil_append, List.replicate, List.take_succ_cons, List.take_zero, List.take_length, Nat.reduceAdd, Nat.reduceSub, Nat.reduceLeDiff, if_true, if_false, ite_true, ite_false, reduceIte, reduceCtorEq, wipeG, Bool.false_eq_true, Bool.not_true, Bool.not_false, sz0, sz1, sz2, sz3, sz4, sz5, sz6, sz7, sz8, $xs,*])
theorem Town.mono {rest : Store} {n m : Nat} {st : Store} (h : Town rest n st) (hm : n ≤ m) : Town rest m st := let ⟨xs, h1, h2, h3⟩ := h; ⟨xs, h1, Nat.le_trans h2 hm, h3⟩
theorem Town.len {rest : Store} {n : Nat} {st : Store} (h : Town rest n st) : st.length = rest.length + 1 := by obtain ⟨xs, rfl, _, _⟩ := h; rfl
theorem Town.take {rest : Store} {n k : Nat} {st : Store} (h : Town rest n st) (hk : k = rest.length + 1) : st.take k = st := by
  rw [hk, ← h.len]
  exact List.take_length
/-- a list or a tuple of data -/
def SeqW (w : W) (xs : List PyData) : Prop := w = .d (.list xs) ∨ w = .d (.tuple xs)
def SpecPick (ns : List Int) (F : List W → M W) : Prop := ∀ (w : W) (xs : List PyData) (rest : Store) (n : Nat) (st : Store), SeqW w xs → xs ≠ [] → Town rest n st → n + 2 ≤ lim → ∃ y st', F [.scr ns, .ref 0, w] st = some (.ok (.d y), st') ∧ y ∈ xs ∧ Town rest (n + 2) st'
def F_law_pick (C : Str → List Ev.W → Ev.M Ev.W) : Ev.Env → Ev.M Out := (sSeq (sRet (sBin opIx (sVar 2) (sCallF 3 (C (Str.ofString "_law_draw")) (sArgs [(sVar 0), (sVar 1), (sCallB opLen (sArgs [(sVar 2)]))])))) sNext)
theorem atI_mem {α : Type} {xs : List α} {v : Int} (h0 : 0 ≤ v) (h1 : v < xs.length) : ∃ y, L2.atI xs v = some y ∧ y ∈ xs := by
  obtain ⟨j, rfl⟩ : ∃ j : Nat, v = j := ⟨_, (Int.toNat_of_nonneg h0).symm⟩
  have hj : j < xs.length := by omega
  exact ⟨xs[j], L2.atI_nat (by simp [hj]), List.getElem_mem hj⟩
theorem spec_law_pick {C : Call} {ns : List Int} (hd : SpecDraw ns (C (Str.ofString "_law_draw"))) : SpecPick ns (fnSem 3 3 (F_law_pick C)) := by
  intro w xs rest n st hw h0 ht hn
  have hl : 0 < xs.length := List.length_pos_iff.mpr h0
  obtain ⟨v, st', e, h1, h2, h3⟩ := hd xs.length rest n st (by omega) ht hn
  obtain ⟨y, hy, hm⟩ := atI_mem h1 h2
  refine ⟨y, st', ?_, hm, h3⟩
  rcases hw with rfl | rfl
  · dsimp! only [F_law_pick, e, opIx, hy, ht.len, h3.take]
  · dsimp! only [F_law_pick, e, opIx, hy, ht.len, h3.take]

/-! ### prices -/
def Price (p : PyData) : Prop := ∃ a b : Int, p = .tuple [.int a, .int b] ∧ 1 ≤ a ∧ a ≤ 1000 ∧ 1 ≤ b ∧ b ≤ 1000 ∧ Int.gcd a b = 1
theorem frac_price {a b : Int} (h1 : 0 < a) (h2 : a ≤ 1000) (h3 : 0 < b) (h4 : b ≤ 1000) : Price (frac (quo a b)) := by
  have hg := gcd_pos (a := a) h3
  have d1 : ((Int.gcd a b : Nat) : Int) ∣ a := Int.gcd_dvd_left ..
  have d2 : ((Int.gcd a b : Nat) : Int) ∣ b := Int.gcd_dvd_right ..
  refine ⟨_, _, frac_quo h3, ?_, ?_, ?_, ?_, ?_⟩
  · exact Int.le_ediv_of_mul_le hg (by rw [Int.one_mul]; exact Int.le_of_dvd h1 d1)
  · exact Int.le_trans (Int.ediv_le_self _ (by omega)) h2
  · exact Int.le_ediv_of_mul_le hg (by rw [Int.one_mul]; exact Int.le_of_dvd h3 d2)
  · exact Int.le_trans (Int.ediv_le_self _ (by omega)) h4
  · exact Int.gcd_ediv_gcd_ediv_gcd (by omega)
def SpecDrawnPrice (ns : List Int) (F : List W → M W) : Prop := ∀ (rest : Store) (n : Nat) (st : Store), Town rest n st → n + 8 ≤ lim → ∃ p st', F [.scr ns, .ref 0] st = some (.ok (.d p), st') ∧ Price p ∧ Town rest (n + 8) st'
def F_law_drawn_price (C : Str → List Ev.W → Ev.M Ev.W) : Ev.Env → Ev.M Out := (sSeq (sIfS (sTestB (sBin opEq (sCallF 3 (C (Str.ofString "_law_draw")) (sArgs [(sVar 0), (sVar 1), (sCon (.int 3))])) (sCon (.int 0)))) (sSeq (sAsg (sCallB opLst (sArgs [(sCallB opTup (sArgs [(sCon (.int 1)), (sCon (.int 1))])), (sCallB opTup (sArgs [(sCon (.int 5)), (sCon (.int 2))])), (sCallB opTup (sArgs [(sCon (.int 1)), (sCon (.int 4))])), (sCallB opTup (sArgs [(sCon (.int 10)), (sCon (.int 11))])), (sCallB opTup (sArgs [(sCon (.int 1000)), (sCon (.int 1))])), (sCallB opTup (sArgs [(sCon (.int 1)), (sCon (.int 1000))])), (sCallB opTup (sArgs [(sCon (.int 100)), (sCon (.int 7))])), (sCallB opTup (sArgs [(sCon (.int 1000)), (sCon (.int 999))])), (sCallB opTup (sArgs [(sCon (.int 333)), (sCon (.int 1000))])), (sCallB opTup (sArgs [(sCon (.int 7)), (sCon (.int 2))]))])) (gVar 2)) (sSeq (sRet (sCallF 3 (C (Str.ofString "_law_pick")) (sArgs [(sVar 0), (sVar 1), (sVar 2)]))) sNext)) sNext) (sSeq (sAsg (sCallF 3 (C (Str.ofString "_law_pick")) (sArgs [(sVar 0), (sVar 1), (sCallB opLst (sArgs [(sCon (.int 3)), (sCon (.int 8)), (sCon (.int 30))]))])) (gVar 3)) (sSeq (sRet (sCallF 2 (C (Str.ofString "_law_low")) (sArgs [(sBin opAdd (sCon (.int 1)) (sCallF 3 (C (Str.ofString "_law_draw")) (sArgs [(sVar 0), (sVar 1), (sVar 3)]))), (sBin opAdd (sCon (.int 1)) (sCallF 3 (C (Str.ofString "_law_draw")) (sArgs [(sVar 0), (sVar 1), (sVar 3)])))]))) sNext)))
theorem spec_law_drawn_price {C : Call} {ns : List Int} (hd : SpecDraw ns (C (Str.ofString "_law_draw"))) (hp : SpecPick ns (C (Str.ofString "_law_pick"))) (hl : SpecLow (C (Str.ofString "_law_low"))) : SpecDrawnPrice ns (fnSem 2 4 (F_law_drawn_price C)) := by
  intro rest n st ht hn
  obtain ⟨v, st1, e1, h1, h2, h3⟩ := hd 3 rest n st (by decide) ht (by omega)
  by_cases hv : v = 0
  · subst hv
    obtain ⟨y, st2, e2, hy, h4⟩ := hp (.d (.list [.tuple [.int 1, .int 1], .tuple [.int 5, .int 2], .tuple [.int 1, .int 4], .tuple [.int 10, .int 11], .tuple [.int 1000, .int 1], .tuple [.int 1, .int 1000], .tuple [.int 100, .int 7], .tuple [.int 1000, .int 999], .tuple [.int 333, .int 1000], .tuple [.int 7, .int 2]])) _ rest (n + 2) st1 (.inl rfl) (by simp) h3 (by omega)
    refine ⟨y, st2, ?_, ?_, h4.mono (by omega)⟩
    · dsimp! only [F_law_drawn_price, e1, e2, opEq, shaped_int, PyData.eqv, beq_self_eq_true, Bool.and_true, ht.len, h4.take, sz10]
    · simp only [List.mem_cons, List.not_mem_nil, or_false] at hy
      rcases hy with rfl | rfl | rfl | rfl | rfl | rfl | rfl | rfl | rfl | rfl <;> exact ⟨_, _, rfl, by decide, by decide, by decide, by decide, by decide⟩
  · have hv' : (v == 0) = false := by simpa using hv
    obtain ⟨y, st2, e2, hy, h4⟩ := hp (.d (.list [.int 3, .int 8, .int 30])) _ rest (n + 2) st1 (.inl rfl) (by simp) h3 (by omega)
    obtain ⟨m, rfl, m1, m2⟩ : ∃ m : Int, y = .int m ∧ 0 < m ∧ m ≤ 30 := by
      simp only [List.mem_cons, List.not_mem_nil, or_false] at hy
      rcases hy with rfl | rfl | rfl <;> exact ⟨_, rfl, by decide, by decide⟩
    obtain ⟨a, st3, e3, a1, a2, h5⟩ := hd m rest (n + 2 + 2) st2 m1 h4 (by omega)
    obtain ⟨b, st4, e4, b1, b2, h6⟩ := hd m rest (n + 2 + 2 + 2) st3 m1 h5 (by omega)
    have e5 := hl (1 + a) (1 + b) (by omega) (Int.lt_of_lt_of_le (show 1 + b < 2 ^ 6 by omega) (by decide +kernel)) st4
    refine ⟨_, st4, ?_, frac_price (a := 1 + a) (b := 1 + b) (by omega) (by omega) (by omega) (by omega), h6.mono (by omega)⟩
    dsimp! only [F_law_drawn_price, e1, e2, e3, e4, e5, opAdd, opEq, shaped_int, PyData.eqv, hv', Bool.and_true, ht.len, h6.take]
end Ev

namespace Ev
open PySem
local macro_rules | `(tactic| dsimp! only [$xs,*]) => `(tactic| simp only [fnSem, leave, sSeq, sRet, sExpr, sNext, sIfS, sAsg, sCell, toCell, sPar, storeAll, storeW, sSetIx, opSet, sVar, sCon, sBin, sUn, sArgs, sCallB, sMeth, sCallF, sTest, sTestB, sNot, sAnd, sOr, sIf, sAndV, sOrV, sNotV, sChain, sSlice, sPart, sFor, sLc, sIter, sIterC, sYes, iterOf, gVar, gTuple, gAll, frz_new, frz_d, frz_ref, frz_scr, isLst, isStr, mbind, mret, mfail, truth, truthB, asSeq, asList, asData, opIsi, isTy, opIsN, opNotN, isNone, allD, opTup, opLst, opLen, List.map_cons, List.map_nil, List.getElem?_cons_zero, List.getElem?_cons_succ, List.set_cons_zero, List.set_cons_succ, List.length_cons, List.length_nil, List.cons_append, List.nil_append, List.replicate, List.take_succ_cons, List.take_zero, List.take_length, Nat.reduceAdd, Nat.reduceSub, Nat.reduceLeDiff, if_true, if_false, ite_true, ite_false, reduceIte, reduceCtorEq, wipeG, Bool.false_eq_true, Bool.not_true, Bool.not_false, sz0, sz1, sz2, sz3, sz4, sz5, sz6, sz7, sz8, $xs,*])
/-! ### fractions as they are reckoned -/
def Small (n : Nat) (x : Rat) : Prop := x.num.natAbs < 2 ^ n ∧ x.den < 2 ^ n
theorem Small.mono {n m : Nat} {x : Rat} (h : Small n x) (hm : n ≤ m) : Small m x :=
  ⟨Nat.lt_of_lt_of_le h.1 (Nat.pow_le_pow_right (by decide) hm), Nat.lt_of_lt_of_le h.2 (Nat.pow_le_pow_right (by decide) hm)⟩
theorem quo_den_le {a b : Int} (h : 0 < b) : (quo a b).den ≤ b.natAbs := by
  rw [quo_mk h, Rat.den_mkRat, if_neg (by omega)]
  exact Nat.le_trans (Nat.div_le_self _ _) (by omega)
theorem quo_num_le {a b : Int} (h : 0 < b) : (quo a b).num.natAbs ≤ a.natAbs := by
  rw [quo_mk h, Rat.num_mkRat, if_neg (by omega), Int.natAbs_ediv_of_dvd]
  · exact Nat.div_le_self _ _
  · have := Nat.gcd_dvd_right b.toNat a.natAbs
    exact Int.ofNat_dvd_left.mpr this
theorem quo_small {a b : Int} {n : Nat} (h : 0 < b) (ha : a.natAbs < 2 ^ n) (hb : b.natAbs < 2 ^ n) : Small n (quo a b) := ⟨Nat.lt_of_le_of_lt (quo_num_le h) ha, Nat.lt_of_le_of_lt (quo_den_le h) hb⟩
theorem den_pos' (x : Rat) : (0 : Int) < x.den := by have := x.den_pos; omega
theorem quo_self (x : Rat) : quo x.num x.den = x := by
  rw [quo_mk (den_pos' x), Int.toNat_natCast]
  exact Rat.mkRat_self x
theorem quo_add (x y : Rat) : quo (x.num * y.den + y.num * x.den) (x.den * y.den) = x + y := by
  rw [quo_mk (Int.mul_pos (den_pos' x) (den_pos' y)), Rat.add_def']
  congr 1
theorem quo_mul (x y : Rat) : quo (x.num * y.num) (x.den * y.den) = x * y := by
  rw [quo_mk (Int.mul_pos (den_pos' x) (den_pos' y)), Rat.mul_def']
  congr 1
theorem quo_div (x : Rat) {y : Rat} (hy : 0 < y.num) : quo (x.num * y.den) (x.den * y.num) = x / y := by
  rw [Rat.div_def, ← quo_mul]
  have e1 : y⁻¹.num = y.den := by
    rw [Rat.num_inv, Int.sign_eq_one_of_pos hy]
    omega
  have e2 : ((y⁻¹.den : Nat) : Int) = y.num := by
    rw [Rat.den_inv, if_neg (by omega)]
    omega
  rw [e1, e2]
theorem natAbs_mul_lt {a b : Int} {n m : Nat} (ha : a.natAbs < 2 ^ n) (hb : b.natAbs < 2 ^ m) : (a * b).natAbs < 2 ^ (n + m) := by
  rw [Int.natAbs_mul, Nat.pow_add]
  exact Nat.mul_lt_mul'' ha hb
theorem natAbs_add_lt {a b : Int} {n : Nat} (ha : a.natAbs < 2 ^ n) (hb : b.natAbs < 2 ^ n) : (a + b).natAbs < 2 ^ (n + 1) := by
  rw [Nat.pow_succ]
  omega
theorem den_natAbs {x : Rat} {n : Nat} (h : Small n x) : ((x.den : Nat) : Int).natAbs < 2 ^ n := by simpa using h.2
theorem pow_up {a n m : Nat} (h : a < 2 ^ n) (hm : n ≤ m) : a < 2 ^ m := Nat.lt_of_lt_of_le h (Nat.pow_le_pow_right (by decide) hm)
theorem int_lt {b : Int} {n m : Nat} (hb : b.natAbs < 2 ^ n) (h : n ≤ m) : b < 2 ^ m := by
  have h1 := pow_up hb h
  have : (b.natAbs : Int) < ((2 ^ m : Nat) : Int) := by omega
  rw [Int.natCast_pow] at this
  have e : ((2 : Nat) : Int) ^ m = 2 ^ m := rfl
  omega
theorem Small.add {x y : Rat} {n m : Nat} (hx : Small n x) (hy : Small m y) : Small (n + m + 1) (x + y) := by
  rw [← quo_add]
  refine quo_small (Int.mul_pos (den_pos' x) (den_pos' y)) (natAbs_add_lt (natAbs_mul_lt hx.1 (den_natAbs hy)) ?_) (pow_up (natAbs_mul_lt (den_natAbs hx) (den_natAbs hy)) (by omega))
  have := natAbs_mul_lt hy.1 (den_natAbs hx)
  rw [Nat.add_comm]
  exact this
theorem Small.mul {x y : Rat} {n m : Nat} (hx : Small n x) (hy : Small m y) : Small (n + m) (x * y) := by
  rw [← quo_mul]
  exact quo_small (Int.mul_pos (den_pos' x) (den_pos' y)) (natAbs_mul_lt hx.1 hy.1) (natAbs_mul_lt (den_natAbs hx) (den_natAbs hy))
theorem Small.div {x y : Rat} {n m : Nat} (hx : Small n x) (hy : Small m y) (h0 : 0 < y.num) : Small (n + m) (x / y) := by
  rw [← quo_div x h0]
  exact quo_small (Int.mul_pos (den_pos' x) h0) (natAbs_mul_lt hx.1 (den_natAbs hy)) (natAbs_mul_lt (den_natAbs hx) hy.1)
theorem Small.mulOk {a b : Int} {n m : Nat} (ha : a.natAbs < 2 ^ n) (hb : b.natAbs < 2 ^ m) (hn : n ≤ 400000) (hm : m ≤ 400000) : mulOk a b = true := mulOk_of (pow_up ha hn) (pow_up hb hm)
def SpecPlus (F : List W → M W) : Prop := ∀ (x y : Rat), Small 3900 x → Small 3900 y → Gives F [.d (frac x), .d (frac y)] (.d (frac (x + y)))
def SpecTimes (F : List W → M W) : Prop := ∀ (x y : Rat), Small 3900 x → Small 3900 y → Gives F [.d (frac x), .d (frac y)] (.d (frac (x * y)))
def SpecOver (F : List W → M W) : Prop := ∀ (x y : Rat), Small 3900 x → Small 3900 y → 0 < y.num → Gives F [.d (frac x), .d (frac y)] (.d (frac (x / y)))
def F_plus (C : Str → List Ev.W → Ev.M Ev.W) : Ev.Env → Ev.M Out := (sSeq (sRet (sCallF 2 (C (Str.ofString "lowest")) (sArgs [(sBin opAdd (sBin opMul (sBin opIx (sVar 0) (sCon (.int 0))) (sBin opIx (sVar 1) (sCon (.int 1)))) (sBin opMul (sBin opIx (sVar 1) (sCon (.int 0))) (sBin opIx (sVar 0) (sCon (.int 1))))), (sBin opMul (sBin opIx (sVar 0) (sCon (.int 1))) (sBin opIx (sVar 1) (sCon (.int 1))))]))) sNext)
theorem spec_plus {C : Call} (hl : SpecLow (C (Str.ofString "lowest"))) : SpecPlus (fnSem 2 2 (F_plus C)) := by
  intro x y hx hy st
  have e := hl (x.num * y.den + y.num * x.den) (x.den * y.den) (Int.mul_pos (den_pos' x) (den_pos' y)) (int_lt (natAbs_mul_lt (den_natAbs hx) (den_natAbs hy)) (by decide)) st
  rw [quo_add] at e
  have m1 := Small.mulOk hx.1 (den_natAbs hy) (by decide) (by decide)
  have m2 := Small.mulOk hy.1 (den_natAbs hx) (by decide) (by decide)
  have m3 := Small.mulOk (den_natAbs hx) (den_natAbs hy) (by decide) (by decide)
  simp only [frac] at e ⊢
  dsimp! only [F_plus, ix0, ix1, opMul, opAdd, m1, m2, m3, e]
def F_times (C : Str → List Ev.W → Ev.M Ev.W) : Ev.Env → Ev.M Out := (sSeq (sRet (sCallF 2 (C (Str.ofString "lowest")) (sArgs [(sBin opMul (sBin opIx (sVar 0) (sCon (.int 0))) (sBin opIx (sVar 1) (sCon (.int 0)))), (sBin opMul (sBin opIx (sVar 0) (sCon (.int 1))) (sBin opIx (sVar 1) (sCon (.int 1))))]))) sNext)
theorem spec_times {C : Call} (hl : SpecLow (C (Str.ofString "lowest"))) : SpecTimes (fnSem 2 2 (F_times C)) := by
  intro x y hx hy st
  have e := hl (x.num * y.num) (x.den * y.den) (Int.mul_pos (den_pos' x) (den_pos' y)) (int_lt (natAbs_mul_lt (den_natAbs hx) (den_natAbs hy)) (by decide)) st
  rw [quo_mul] at e
  have m1 := Small.mulOk hx.1 hy.1 (by decide) (by decide)
  have m3 := Small.mulOk (den_natAbs hx) (den_natAbs hy) (by decide) (by decide)
  simp only [frac] at e ⊢
  dsimp! only [F_times, ix0, ix1, opMul, opAdd, m1, m3, e]
def F_over_by (C : Str → List Ev.W → Ev.M Ev.W) : Ev.Env → Ev.M Out := (sSeq (sRet (sCallF 2 (C (Str.ofString "lowest")) (sArgs [(sBin opMul (sBin opIx (sVar 0) (sCon (.int 0))) (sBin opIx (sVar 1) (sCon (.int 1)))), (sBin opMul (sBin opIx (sVar 0) (sCon (.int 1))) (sBin opIx (sVar 1) (sCon (.int 0))))]))) sNext)
theorem spec_over_by {C : Call} (hl : SpecLow (C (Str.ofString "lowest"))) : SpecOver (fnSem 2 2 (F_over_by C)) := by
  intro x y hx hy h0 st
  have e := hl (x.num * y.den) (x.den * y.num) (Int.mul_pos (den_pos' x) h0) (int_lt (natAbs_mul_lt (den_natAbs hx) hy.1) (by decide)) st
  rw [quo_div x h0] at e
  have m1 := Small.mulOk hx.1 (den_natAbs hy) (by decide) (by decide)
  have m3 := Small.mulOk (den_natAbs hx) hy.1 (by decide) (by decide)
  simp only [frac] at e ⊢
  dsimp! only [F_over_by, ix0, ix1, opMul, opAdd, m1, m3, e]
end Ev

namespace Ev
open PySem
local macro_rules | `(tactic| dsimp! only [$xs,*]) => `(tactic| simp only [fnSem, leave, sSeq, sRet, sExpr, sNext, sIfS, sAsg, sCell, toCell, sPar, storeAll, storeW, sSetIx, opSet, sVar, sCon, sBin, sUn, sArgs, sCallB, sMeth, sCallF, sTest, sTestB, sNot, sAnd, sOr, sIf, sAndV, sOrV, sNotV, sChain, sSlice, sPart, sFor, sLc, sIter, sIterC, sYes, iterOf, gVar, gTuple, gAll, frz_new, frz_d, frz_ref, frz_scr, isLst, isStr, mbind, mret, mfail, truth, truthB, asSeq, asList, asData, opIsi, isTy, opIsN, opNotN, isNone, allD, opTup, opLst, opLen, List.map_cons, List.map_nil, List.getElem?_cons_zero, List.getElem?_cons_succ, List.set_cons_zero, List.set_cons_succ, List.length_cons, List.length_nil, List.cons_append, List.nil_append, List.replicate, List.take_succ_cons, List.take_zero, List.take_length, Nat.reduceAdd, Nat.reduceSub, Nat.reduceLeDiff, if_true, if_false, ite_true, ite_false, reduceIte, reduceCtorEq, wipeG, Bool.false_eq_true, Bool.not_true, Bool.not_false, sz0, sz1, sz2, sz3, sz4, sz5, sz6, sz7, sz8, $xs,*])
/-! ### for -/
theorem for_inv {α : Type} {L : List (Nat × List PyData)} {g : Tg} {body : Env → M Out} {f : α → W} (all : List α) (Inv : List α → Env → Store → Prop) (hl : ∀ done ρ st, Inv done ρ st → locksB L st = true)
    (hs : ∀ done a rest ρ st, all = done ++ a :: rest → Inv done ρ st → ∃ ρ1 ρ2 st2, g (f a) ρ = some ρ1 ∧ body ρ1 st = some (.ok (.nx ρ2), st2) ∧ Inv (done ++ [a]) ρ2 st2) {ρ : Env} {st : Store} (h0 : Inv [] ρ st) :
    ∃ ρ' st', forLoop L g body (all.map f) ρ st = some (.ok (.nx ρ'), st') ∧ Inv all ρ' st' := by
  have key : ∀ (rest done : List α) (ρ : Env) (st : Store), all = done ++ rest → Inv done ρ st → ∃ ρ' st', forLoop L g body (rest.map f) ρ st = some (.ok (.nx ρ'), st') ∧ Inv all ρ' st' := by
    intro rest
    induction rest with
    | nil =>
      intro done ρ st e h
      rw [List.append_nil] at e
      subst e
      refine ⟨ρ, st, ?_, h⟩
      have hb := hl _ _ _ h
      simp only [List.map_nil, forLoop, hb, if_true]
    | cons a rest ih =>
      intro done ρ st e h
      obtain ⟨ρ1, ρ2, st2, h1, h2, h3⟩ := hs done a rest ρ st e h
      obtain ⟨ρ', st', k1, k2⟩ := ih (done ++ [a]) ρ2 st2 (by rw [e, List.append_assoc]; rfl) h3
      refine ⟨ρ', st', ?_, k2⟩
      have hb := hl _ _ _ h
      simp only [List.map_cons, forLoop, hb, if_true, h1, mbind, h2, k1]
  exact key all [] ρ st rfl h0
def rsum (xs : List Rat) : Rat := xs.foldl (· + ·) 0
theorem rsum_snoc (xs : List Rat) (x : Rat) : rsum (xs ++ [x]) = rsum xs + x := by simp [rsum]
theorem small0 : Small 1 (0 : Rat) := ⟨by decide, by decide⟩
theorem rsum_small {s : Nat} {xs : List Rat} (h : ∀ x ∈ xs, Small s x) : Small ((s + 1) * xs.length + 1) (rsum xs) := by
  have key : ∀ (ys zs : List Rat), (∀ x ∈ zs, Small s x) → Small ((s + 1) * ys.length + 1) (rsum ys) → Small ((s + 1) * (ys ++ zs).length + 1) (rsum (ys ++ zs)) := by
    intro ys zs
    induction zs generalizing ys with
    | nil => intro _ h; simpa using h
    | cons z zs ih =>
      intro hz hy
      have := ih (ys ++ [z]) (fun x hx => hz x (List.mem_cons_of_mem _ hx)) (by
        rw [rsum_snoc, List.length_append, List.length_singleton, Nat.mul_succ]
        exact (Small.add hy (hz z List.mem_cons_self)).mono (by omega))
      rw [List.append_assoc] at this
      exact this
  have := key [] xs h (by simpa [rsum] using small0)
  simpa using this
def SpecTotal (F : List W → M W) : Prop := ∀ (s : Nat) (xs : List Rat), (∀ x ∈ xs, Small s x) → (s + 1) * xs.length + s ≤ 3800 → Gives F [.d (.list (xs.map frac))] (.d (frac (rsum xs)))
theorem frac0 : frac 0 = .tuple [.int 0, .int 1] := rfl
def F_total_of_b1 (C : Str → List Ev.W → Ev.M Ev.W) : Ev.Env → Ev.M Out := (sSeq (sAsg (sCallF 2 (C (Str.ofString "plus")) (sArgs [(sVar 1), (sVar 2)])) (gVar 1)) sNext)
def F_total_of_l1 (C : Str → List Ev.W → Ev.M Ev.W) : Ev.Env → Ev.M Out := (sFor (sIter (sVar 0)) (gVar 2) (F_total_of_b1 C))
def F_total_of (C : Str → List Ev.W → Ev.M Ev.W) : Ev.Env → Ev.M Out := (sSeq (sAsg (sCallB opTup (sArgs [(sCon (.int 0)), (sCon (.int 1))])) (gVar 1)) (sSeq (F_total_of_l1 C) (sSeq (sRet (sVar 1)) sNext)))
theorem prefix_len {α : Type} {all done rest : List α} {a : α} (h : all = done ++ a :: rest) : done.length < all.length := by
  rw [h, List.length_append, List.length_cons]; omega
theorem prefix_mem {α : Type} {all done rest : List α} {a : α} (h : all = done ++ a :: rest) : a ∈ all ∧ ∀ x ∈ done, x ∈ all := by
  subst h
  exact ⟨by simp, fun x hx => by simp [hx]⟩
theorem len_le {s : Nat} {n m : Nat} (h : n < m) : (s + 1) * n ≤ (s + 1) * m := Nat.mul_le_mul_left _ (by omega)
theorem spec_total_of {C : Call} (hp : SpecPlus (C (Str.ofString "plus"))) : SpecTotal (fnSem 1 3 (F_total_of C)) := by
  intro s xs hx hs st
  obtain ⟨ρ', st', e, r, e1, e2⟩ := for_inv (L := []) (g := gVar 2) (body := F_total_of_b1 C) (f := fun x => .d (frac x)) xs (fun done ρ st' => ∃ r, ρ = [some (.d (.list (xs.map frac))), some (.d (frac (rsum done))), r] ∧ st' = st) (fun _ _ _ _ => rfl) (by
    rintro done a rest ρ st' he ⟨r, rfl, rfl⟩
    have hl := len_le (s := s) (prefix_len he)
    obtain ⟨ha, hd⟩ := prefix_mem he
    have e := hp (rsum done) a ((rsum_small fun x h => hx x (hd x h)).mono (by omega)) ((hx a ha).mono (by omega)) st'
    refine ⟨_, _, _, rfl, ?_, some (.d (frac a)), rfl, rfl⟩
    rw [rsum_snoc]
    dsimp! only [F_total_of_b1, e]) (ρ := [some (.d (.list (xs.map frac))), some (.d (frac 0)), none]) (st := st) ⟨none, rfl, rfl⟩
  subst e1 e2
  have em : (xs.map frac).map W.d = xs.map fun x => .d (frac x) := by simp [Function.comp_def]
  rw [frac0] at e
  dsimp! only [F_total_of, F_total_of_l1, em, e]
def SpecSummed (F : List W → M W) : Prop := SpecTotal F
def F_law_summed_b1 (C : Str → List Ev.W → Ev.M Ev.W) : Ev.Env → Ev.M Out := (sSeq (sPar [(false, 1), (false, 2)] (sArgs [(sBin opAdd (sBin opMul (sVar 1) (sBin opIx (sVar 3) (sCon (.int 1)))) (sBin opMul (sBin opIx (sVar 3) (sCon (.int 0))) (sVar 2))), (sBin opMul (sVar 2) (sBin opIx (sVar 3) (sCon (.int 1))))])) sNext)
def F_law_summed_l1 (C : Str → List Ev.W → Ev.M Ev.W) : Ev.Env → Ev.M Out := (sFor (sIter (sVar 0)) (gVar 3) (F_law_summed_b1 C))
def F_law_summed (C : Str → List Ev.W → Ev.M Ev.W) : Ev.Env → Ev.M Out := (sSeq (sAsg (sCallB opTup (sArgs [(sCon (.int 0)), (sCon (.int 1))])) (gTuple [(gVar 1), (gVar 2)])) (sSeq (F_law_summed_l1 C) (sSeq (sRet (sCallF 2 (C (Str.ofString "_law_low")) (sArgs [(sVar 1), (sVar 2)]))) sNext)))
theorem quo_add' {a b c d : Int} (hb : 0 < b) (hd : 0 < d) : quo a b + quo c d = quo (a * d + c * b) (b * d) := by
  have e1 : (b.toNat * d.toNat) = (b * d).toNat := by rw [Int.toNat_mul (by omega) (by omega)]
  have e2 : ((b.toNat : Nat) : Int) = b := Int.toNat_of_nonneg (by omega)
  have e3 : ((d.toNat : Nat) : Int) = d := Int.toNat_of_nonneg (by omega)
  rw [quo_mk hb, quo_mk hd, quo_mk (Int.mul_pos hb hd), Rat.mkRat_add_mkRat _ _ (by omega) (by omega), e1, e2, e3]
theorem spec_law_summed {C : Call} (hl : SpecLow (C (Str.ofString "_law_low"))) : SpecSummed (fnSem 1 4 (F_law_summed C)) := by
  intro s xs hx hs st
  obtain ⟨ρ', st', e, r, o, u, e1, e2, k1, k2, k3, k4⟩ := for_inv (L := []) (g := gVar 3) (body := F_law_summed_b1 C) (f := fun x => .d (frac x)) xs (fun done ρ st' => ∃ r o u, ρ = [some (.d (.list (xs.map frac))), some (I o), some (I u), r] ∧ st' = st ∧ 0 < u ∧ quo o u = rsum done ∧ o.natAbs < 2 ^ ((s + 1) * done.length + 1) ∧ u.natAbs < 2 ^ ((s + 1) * done.length + 1)) (fun _ _ _ _ => rfl) (by
    rintro done a rest ρ st' he ⟨r, o, u, rfl, rfl, k1, k2, k3, k4⟩
    have hl := len_le (s := s) (prefix_len he)
    obtain ⟨ha, hd⟩ := prefix_mem he
    have hs := hx a ha
    have m1 := Small.mulOk k3 (den_natAbs hs) (by omega) (by omega)
    have m2 := Small.mulOk hs.1 k4 (by omega) (by omega)
    have m3 := Small.mulOk k4 (den_natAbs hs) (by omega) (by omega)
    refine ⟨_, _, _, rfl, ?_, some (.d (frac a)), o * a.den + a.num * u, u * a.den, rfl, rfl, Int.mul_pos k1 (den_pos' a), ?_, ?_, ?_⟩
    · simp only [frac]
      dsimp! only [F_law_summed_b1, ix0, ix1, opMul, opAdd, m1, m2, m3]
    · rw [rsum_snoc, ← k2, ← quo_add' k1 (den_pos' a), quo_self]
    · rw [List.length_append, List.length_singleton, Nat.mul_succ]
      refine pow_up (natAbs_add_lt (natAbs_mul_lt k3 (den_natAbs hs)) ?_) (m := (s + 1) * done.length + (s + 1) + 1) (by omega)
      have := natAbs_mul_lt hs.1 k4
      rw [Nat.add_comm]
      exact this
    · rw [List.length_append, List.length_singleton, Nat.mul_succ]
      exact pow_up (natAbs_mul_lt k4 (den_natAbs hs)) (by omega)) (ρ := [some (.d (.list (xs.map frac))), some (I 0), some (I 1), none]) (st := st) ⟨none, 0, 1, rfl, rfl, by decide, by decide +kernel, by simp, by simp⟩
  subst e1 e2
  have em : (xs.map frac).map W.d = xs.map fun x => .d (frac x) := by simp [Function.comp_def]
  have e5 := hl o u k1 (int_lt k4 (by omega)) st'
  rw [k2] at e5
  dsimp! only [F_law_summed, F_law_summed_l1, em, e, e5]
end Ev

namespace Ev
open PySem
local macro_rules | `(tactic| dsimp! only [$xs,*]) => `(tactic| simp only [fnSem, leave, sSeq, sRet, sExpr, sNext, sIfS, sAsg, sCell, toCell, sPar, storeAll, storeW, sSetIx, opSet, sVar, sCon, sBin, sUn, sArgs, sCallB, sMeth, sCallF, sTest, sTestB, sNot, sAnd, sOr, sIf, sAndV, sOrV, sNotV, sChain, sSlice, sPart, sFor, sLc, sIter, sIterC, sYes, iterOf, gVar, gTuple, gAll, frz_new, frz_d, frz_ref, frz_scr, isLst, isStr, mbind, mret, mfail, truth, truthB, asSeq, asList, asData, opIsi, isTy, opIsN, opNotN, isNone, allD, opTup, opLst, opLen, List.map_cons, List.map_nil, List.getElem?_cons_zero, List.getElem?_cons_succ, List.set_cons_zero, List.set_cons_succ, List.length_cons, List.length_nil, List.cons_append, List.nil_append, List.replicate, List.take_succ_cons, List.take_zero, List.take_length, Nat.reduceAdd, Nat.reduceSub, Nat.reduceLeDiff, if_true, if_false, ite_true, ite_false, reduceIte, reduceCtorEq, wipeG, Bool.false_eq_true, Bool.not_true, Bool.not_false, sz0, sz1, sz2, sz3, sz4, sz5, sz6, sz7, sz8, $xs,*])
/-! ### an event that is drawn -/
structure EventD (most : Nat) (ps : List PyData) (places part : Int) : Prop where
  lo : 2 ≤ ps.length
  hi : ps.length ≤ most
  pr : ∀ p ∈ ps, Price p
  p1 : 1 ≤ places
  p2 : places ≤ 4
  p3 : places < ps.length
  q1 : 1 ≤ part
  q2 : part ≤ 5
def evD (ps : List PyData) (places part : Int) : PyData := .tuple [.tuple ps, .int places, .int part]
def SpecDrawnEvent (ns : List Int) (F : List W → M W) : Prop := ∀ (most : Nat) (rest : Store) (n : Nat) (st : Store), 2 ≤ most → most ≤ 1000 → Town rest n st → n + (8 * most + 6) ≤ lim →
  ∃ ps places part st', F [.scr ns, .ref 0, I most] st = some (.ok (.d (evD ps places part)), st') ∧ EventD most ps places part ∧ Town rest (n + (8 * most + 6)) st'
theorem rangeItems_length (lo : Int) (n : Nat) : (rangeItems lo n).length = n := by simp [rangeItems]
def F_law_drawn_event_b1 (C : Str → List Ev.W → Ev.M Ev.W) : Ev.Env → Ev.M Ev.W := (sCallF 2 (C (Str.ofString "_law_drawn_price")) (sArgs [(sVar 0), (sVar 1)]))
def F_law_drawn_event_l1 (C : Str → List Ev.W → Ev.M Ev.W) : Ev.Env → Ev.M Ev.W := (sLc (sIterC opRange1 (sArgs [(sVar 3)])) [5] (gVar 5) sYes (F_law_drawn_event_b1 C))
def F_law_drawn_event (C : Str → List Ev.W → Ev.M Ev.W) : Ev.Env → Ev.M Out := (sSeq (sAsg (sBin opAdd (sCon (.int 2)) (sCallF 3 (C (Str.ofString "_law_draw")) (sArgs [(sVar 0), (sVar 1), (sBin opSub (sVar 2) (sCon (.int 1)))]))) (gVar 3)) (sSeq (sAsg (sCallB opTuple (sArgs [(F_law_drawn_event_l1 C)])) (gVar 4)) (sSeq (sRet (sCallB opTup (sArgs [(sVar 4), (sBin opAdd (sCon (.int 1)) (sCallF 3 (C (Str.ofString "_law_draw")) (sArgs [(sVar 0), (sVar 1), (sCallB opMin (sArgs [(sCon (.int 4)), (sBin opSub (sVar 3) (sCon (.int 1)))]))]))), (sBin opAdd (sCon (.int 1)) (sCallF 3 (C (Str.ofString "_law_draw")) (sArgs [(sVar 0), (sVar 1), (sCon (.int 5))])))]))) sNext)))
theorem spec_law_drawn_event {C : Call} {ns : List Int} (hd : SpecDraw ns (C (Str.ofString "_law_draw"))) (hp : SpecDrawnPrice ns (C (Str.ofString "_law_drawn_price"))) : SpecDrawnEvent ns (fnSem 3 6 (F_law_drawn_event C)) := by
  intro most rest n st hm1 hm2 ht hn
  have hz : (1000 : Nat) ≤ sizeLine := by decide
  obtain ⟨v, st1, e1, h1, h2, h3⟩ := hd ((most : Int) - 1) rest n st (by omega) ht (by omega)
  have hin : inLong (2 + v) = true := by
    unfold inLong
    rw [decide_eq_true (by omega), decide_eq_true (by omega)]
    rfl
  obtain ⟨ys, st2, e2, k1, k2, k3⟩ := lc_state (g := gVar 5) (f := F_law_drawn_event_b1 C) (ρ := [some (.scr ns), some (.ref 0), some (I most), some (I (2 + v)), none, none]) (P := Town rest) (R := Price) (c := 8) (lim := lim) (rangeItems 0 (2 + v).toNat) [] (n + 2) st1 h3 (by
    intro w _ m st ht hm
    obtain ⟨p, st', e, k1, k2⟩ := hp rest m st ht hm
    refine ⟨_, .d p, p, st', rfl, ?_, rfl, k1, k2⟩
    dsimp! only [F_law_drawn_event_b1, e]) (by rw [rangeItems_length]; omega) (by rw [rangeItems_length, List.length_nil]; omega)
  rw [rangeItems_length] at k1 k3
  have hmin : (if 2 + v - 1 < 4 then 2 + v - 1 else 4) = min 4 (1 + v) := by omega
  obtain ⟨a, st3, e3, a1, a2, a3⟩ := hd (min 4 (1 + v)) rest _ st2 (by omega) k3 (by omega)
  obtain ⟨b, st4, e4, b1, b2, b3⟩ := hd 5 rest _ st3 (by decide) a3 (by omega)
  refine ⟨ys, 1 + a, 1 + b, st4, ?_, ⟨by omega, by omega, k2, by omega, by omega, by omega, by omega, by omega⟩, b3.mono (by omega)⟩
  dsimp! only [F_law_drawn_event, F_law_drawn_event_l1, e1, opAdd, opSub, opRange1, hin, e2, opTuple, opMin, hmin, e3, e4, ht.len, b3.take, evD]

/-! ### _law_same of a thing and itself -/
def sameOk : Nat → PyData → Bool
  | _, .none => true
  | _, .bool _ => true
  | _, .int _ => true
  | _, .str s => SeqAt.shaped (.str s)
  | n + 1, .tuple xs => decide (xs.length ≤ 1000000) && xs.all (sameOk n)
  | _, _ => false
def SpecSame (n : Nat) (F : List W → M W) : Prop := ∀ x, sameOk n x = true → Gives F [.d x, .d x] (Bo true)
def F_law_same_b1 (C : Str → List Ev.W → Ev.M Ev.W) : Ev.Env → Ev.M Ev.W := (sCallF 2 (C (Str.ofString "_law_same")) (sArgs [(sVar 2), (sVar 3)]))
def F_law_same_l1 (C : Str → List Ev.W → Ev.M Ev.W) : Ev.Env → Ev.M Ev.W := (sLc (sIterC opZip (sArgs [(sVar 0), (sVar 1)])) [2, 3] (gTuple [(gVar 2), (gVar 3)]) sYes (F_law_same_b1 C))
def F_law_same (C : Str → List Ev.W → Ev.M Ev.W) : Ev.Env → Ev.M Out := (sSeq (sIfS (sTestB (sBin opIsN (sVar 1) (sCon .none))) (sSeq (sRet (sBin opIsN (sVar 0) (sCon .none))) sNext) sNext) (sSeq (sIfS (sTest (sUn (opIsi .bool) (sVar 1))) (sSeq (sRet (sAndV (sUn (opIsi .bool) (sVar 0)) (sBin opEq (sVar 0) (sVar 1)))) sNext) sNext) (sSeq (sIfS (sTest (sUn (opIsi .tuple) (sVar 1))) (sSeq (sIfS (sOr (sNot (sTest (sUn (opIsi .tuple) (sVar 0)))) (sTestB (sBin opNe (sCallB opLen (sArgs [(sVar 0)])) (sCallB opLen (sArgs [(sVar 1)]))))) (sSeq (sRet (sCon (.bool false))) sNext) sNext) (sSeq (sRet (sCallB opAll (sArgs [(F_law_same_l1 C)]))) sNext)) sNext) (sSeq (sIfS (sTest (sUn (opIsi .str) (sVar 1))) (sSeq (sRet (sAndV (sUn (opIsi .str) (sVar 0)) (sBin opEq (sVar 0) (sVar 1)))) sNext) sNext) (sSeq (sRet (sAndV (sUn (opIsi .int) (sVar 0)) (sAndV (sNotV (sUn (opIsi .bool) (sVar 0))) (sBin opEq (sVar 0) (sVar 1))))) sNext)))))
theorem asBools_map {α : Type} (f : α → Bool) : ∀ (xs : List α), asBools (xs.map fun x => .bool (f x)) = some (xs.map f)
  | [] => rfl
  | n :: ns => by simp only [List.map_cons, asBools, asBools_map f ns]
theorem zipItems_self : ∀ (xs : List PyData), zipItems xs xs = xs.map fun x => .d (.tuple [x, x])
  | [] => rfl
  | x :: xs => by simp only [zipItems, zipItems_self xs, List.map_cons]
theorem spec_law_same {C : Call} {n : Nat} (h : ∀ m, n = m + 1 → SpecSame m (C (Str.ofString "_law_same"))) : SpecSame n (fnSem 2 4 (F_law_same C)) := by
  intro x hx st
  cases x with
  | none => dsimp! only [F_law_same]
  | bool b => dsimp! only [F_law_same, opEq, shaped_bool, PyData.eqv, beq_self_eq_true, Bool.and_true]
  | int i => dsimp! only [F_law_same, opEq, shaped_int, PyData.eqv, beq_self_eq_true, Bool.and_true]
  | str s =>
    cases n <;> (simp only [sameOk] at hx; dsimp! only [F_law_same, opEq, hx, PyData.eqv, beq_self_eq_true, Bool.and_true])
  | tuple xs =>
    cases n with
    | zero => simp [sameOk] at hx
    | succ n =>
      have hc := h n rfl
      simp only [sameOk, Bool.and_eq_true, decide_eq_true_eq, List.all_eq_true] at hx
      have hz : (1000000 : Nat) ≤ sizeLine := by decide
      have e := lc_gen (L := []) (g := gTuple [gVar 2, gVar 3]) (f := F_law_same_b1 C) (ρ := [some (.d (.tuple xs)), some (.d (.tuple xs)), none, none]) (φ := fun _ => .bool true) (st := st) rfl (zipItems xs xs) [] (by
        intro w hw
        rw [zipItems_self] at hw
        obtain ⟨x, hx1, rfl⟩ := List.mem_map.mp hw
        refine ⟨_, Bo true, rfl, ?_, rfl⟩
        have := hc x (hx.2 x hx1) st
        dsimp! only [F_law_same_b1, this]) (by rw [zipItems_self, List.length_map, List.length_nil]; omega)
      have e2 := asBools_map (fun _ : W => true) (zipItems xs xs)
      dsimp! only [F_law_same, F_law_same_l1, opNe, shaped_int, PyData.eqv, beq_self_eq_true, Bool.and_true, opZip, asTupW, e, opAll, boolsOf, e2]
      simp
  | list xs => cases n <;> simp [sameOk] at hx
  | dict xs => cases n <;> simp [sameOk] at hx
end Ev

namespace Ev
open PySem
local macro_rules | `(tactic| dsimp! only [$xs,*]) => `(tactic| simp only [fnSem, leave, sSeq, sRet, sExpr, sNext, sIfS, sAsg, sCell, toCell, sPar, storeAll, storeW, sSetIx, opSet, sVar, sCon, sBin, sUn, sArgs, sCallB, sMeth, sCallF, sTest, sTestB, sNot, sAnd, sOr, sIf, sAndV, sOrV, sNotV, sChain, sSlice, sPart, sFor, sLc, sIter, sIterC, sYes, iterOf, gVar, gTuple, gAll, frz_new, frz_d, frz_ref, frz_scr, isLst, isStr, mbind, mret, mfail, truth, truthB, asSeq, asList, asData, opIsi, isTy, opIsN, opNotN, isNone, allD, opTup, opLst, opLen, List.map_cons, List.map_nil, List.getElem?_cons_zero, List.getElem?_cons_succ, List.set_cons_zero, List.set_cons_succ, List.length_cons, List.length_nil, List.cons_append, List.nil_append, List.replicate, List.take_succ_cons, List.take_zero, List.take_length, Nat.reduceAdd, Nat.reduceSub, Nat.reduceLeDiff, if_true, if_false, ite_true, ite_false, reduceIte, reduceCtorEq, wipeG, Bool.false_eq_true, Bool.not_true, Bool.not_false, sz0, sz1, sz2, sz3, sz4, sz5, sz6, sz7, sz8, $xs,*])
/-! ### is_whole, is_price, is_event -/
def wholeB : PyData → Bool
  | .int _ => true
  | _ => false
def numB (lo hi : Int) : PyData → Bool
  | .int i => decide (lo ≤ i) && decide (i ≤ hi)
  | _ => false
def priceB : PyData → Bool
  | .tuple [.int a, .int b] => numB 1 1000 (.int a) && numB 1 1000 (.int b) && (((Int.gcd a b : Nat) : Int) == 1)
  | _ => false
def evB : PyData → Bool
  | .tuple [.tuple ps, .int places, .int part] => decide (2 ≤ (ps.length : Int)) && decide ((ps.length : Int) ≤ 8) && ps.all priceB && numB 1 4 (.int places) && !decide ((ps.length : Int) ≤ places) && numB 1 5 (.int part)
  | _ => false
def SpecWhole (F : List W → M W) : Prop := ∀ x, Gives F [.d x] (Bo (wholeB x))
def SpecIsPrice (F : List W → M W) : Prop := ∀ x, Gives F [.d x] (Bo (priceB x))
def SpecIsEvent (F : List W → M W) : Prop := ∀ x, Gives F [.d x] (Bo (evB x))
def SpecIsNum (F : List W → M W) : Prop := ∀ x lo hi, Gives F [.d x, I lo, I hi] (Bo (numB lo hi x))
def F_is_whole (C : Str → List Ev.W → Ev.M Ev.W) : Ev.Env → Ev.M Out := (sSeq (sRet (sAndV (sUn (opIsi .int) (sVar 0)) (sNotV (sUn (opIsi .bool) (sVar 0))))) sNext)
theorem spec_is_whole (C : Call) : SpecWhole (fnSem 1 1 (F_is_whole C)) := by
  intro x st
  cases x <;> dsimp! only [F_is_whole, wholeB]
/-- lo <= x <= hi for an int -/
theorem chain_num {lo hi : Int} {x : PyData} {st : Store} (h : wholeB x = true) {f g k : Env → M W} {ρ : Env} (hf : f ρ st = some (.ok (I lo), st)) (hg : g ρ st = some (.ok (.d x), st)) (hk : k ρ st = some (.ok (I hi), st)) : sChain opLe opLe f g k ρ st = some (.ok (Bo (numB lo hi x)), st) := by
  cases x with
  | int i =>
    by_cases h1 : lo ≤ i
    · simp only [sChain, mbind, hf, hg, opLe, mret, decide_eq_true h1, truthB, hk, numB, Bool.true_and]
    · simp only [sChain, mbind, hf, hg, opLe, mret, decide_eq_false h1, truthB, numB, Bool.false_and]
  | _ => simp [wholeB] at h
theorem numB_whole {lo hi : Int} {x : PyData} (h : wholeB x = false) : numB lo hi x = false := by cases x <;> simp_all [wholeB, numB]
theorem numB_int {lo hi : Int} {x : PyData} (h : numB lo hi x = true) : ∃ i, x = .int i ∧ lo ≤ i ∧ i ≤ hi := by
  cases x <;> simp [numB] at h
  exact ⟨_, rfl, h.1, h.2⟩
def F_law_is_number (C : Str → List Ev.W → Ev.M Ev.W) : Ev.Env → Ev.M Out := (sSeq (sRet (sAndV (sUn (opIsi .int) (sVar 0)) (sAndV (sNotV (sUn (opIsi .bool) (sVar 0))) (sChain opLe opLe (sVar 1) (sVar 0) (sVar 2))))) sNext)
theorem spec_law_is_number (C : Call) : SpecIsNum (fnSem 3 3 (F_law_is_number C)) := by
  intro x lo hi st
  cases x with
  | int i =>
    have e := chain_num (lo := lo) (hi := hi) (x := .int i) (st := st) rfl (f := sVar 1) (g := sVar 0) (k := sVar 2) (ρ := [some (I i), some (I lo), some (I hi)]) rfl rfl rfl
    simp only [F_law_is_number, fnSem, leave, sSeq, sRet, sAndV, sNotV, sUn, sVar, mbind, mret, opIsi, isTy, truthB, truth, List.map_cons, List.map_nil, List.getElem?_cons_zero, List.cons_append, List.nil_append, List.replicate, List.length_cons, List.length_nil, Nat.reduceAdd, Nat.reduceSub, Bool.not_false, if_true, reduceIte]
    simp only [e, mret, List.take_length]
  | _ => dsimp! only [F_law_is_number, numB]
def F_is_price_b1 (C : Str → List Ev.W → Ev.M Ev.W) : Ev.Env → Ev.M Ev.W := (sAndV (sCallF 1 (C (Str.ofString "is_whole")) (sArgs [(sVar 1)])) (sChain opLe opLe (sCon (.int 1)) (sVar 1) (sCon (.int 1000))))
def F_is_price_l1 (C : Str → List Ev.W → Ev.M Ev.W) : Ev.Env → Ev.M Ev.W := (sLc (sIter (sVar 0)) [1] (gVar 1) sYes (F_is_price_b1 C))
def F_is_price (C : Str → List Ev.W → Ev.M Ev.W) : Ev.Env → Ev.M Out := (sSeq (sIfS (sOr (sNot (sTest (sUn (opIsi .tuple) (sVar 0)))) (sTestB (sBin opNe (sCallB opLen (sArgs [(sVar 0)])) (sCon (.int 2))))) (sSeq (sRet (sCon (.bool false))) sNext) sNext) (sSeq (sIfS (sNot (sTest (sCallB opAll (sArgs [(F_is_price_l1 C)])))) (sSeq (sRet (sCon (.bool false))) sNext) sNext) (sSeq (sRet (sBin opEq (sCallF 2 (C (Str.ofString "divisor")) (sArgs [(sBin opIx (sVar 0) (sCon (.int 0))), (sBin opIx (sVar 0) (sCon (.int 1)))])) (sCon (.int 1)))) sNext)))
theorem all2 {a b : PyData} {f : PyData → Bool} {st : Store} : opAll [.new [.bool (f a), .bool (f b)]] st = some (.ok (Bo (f a && f b)), st) := by
  simp [opAll, boolsOf, asList, asBools]
theorem spec_is_price {C : Call} (hw : SpecWhole (C (Str.ofString "is_whole"))) (hd : SpecDiv (C (Str.ofString "divisor"))) : SpecIsPrice (fnSem 1 2 (F_is_price C)) := by
  intro x st
  cases x with
  | tuple xs =>
    by_cases hl : xs.length = 2
    · obtain ⟨a, b, rfl⟩ : ∃ a b, xs = [a, b] := by
        match xs, hl with
        | [a, b], _ => exact ⟨a, b, rfl⟩
      have e := lc_gen (L := []) (g := gVar 1) (f := F_is_price_b1 C) (ρ := [some (.d (.tuple [a, b])), none]) (φ := fun w => match w with | .d y => .bool (numB 1 1000 y) | _ => .none) (st := st) rfl [.d a, .d b] [] (by
        have one : ∀ y, F_is_price_b1 C [some (.d (.tuple [a, b])), some (.d y)] st = some (.ok (Bo (numB 1 1000 y)), st) := by
          intro y
          have h1 := hw y st
          have h2 := fun h => chain_num (lo := 1) (hi := 1000) (x := y) (st := st) h (f := sCon (.int 1)) (g := sVar 1) (k := sCon (.int 1000)) (ρ := [some (.d (.tuple [a, b])), some (.d y)]) rfl rfl rfl
          cases hy : wholeB y with
          | true =>
            rw [hy] at h1
            have h2 := h2 hy
            simp only [F_is_price_b1, sAndV, sCallF, sArgs, sVar, mbind, mret, frz, List.map_cons, List.map_nil, List.getElem?_cons_zero, List.getElem?_cons_succ, List.length_cons, List.length_nil, Nat.reduceAdd, if_true, h1, truthB, reduceIte]
            exact h2
          | false =>
            rw [hy] at h1
            rw [numB_whole hy]
            dsimp! only [F_is_price_b1, h1]
        intro w hw'
        simp only [List.mem_cons, List.not_mem_nil, or_false] at hw'
        rcases hw' with rfl | rfl
        · exact ⟨_, _, rfl, one a, rfl⟩
        · exact ⟨_, _, rfl, one b, rfl⟩) (show 2 ≤ sizeLine by decide)
      simp only [List.map_cons, List.map_nil, List.nil_append] at e
      cases hn : numB 1 1000 a && numB 1 1000 b with
      | false =>
        have hp : priceB (.tuple [a, b]) = false := by
          cases a <;> cases b <;> first | rfl | (simp only [priceB, hn, Bool.false_and])
        have h2 := all2 (a := a) (b := b) (f := numB 1 1000) (st := st)
        rw [hn] at h2
        dsimp! only [F_is_price, F_is_price_l1, opNe, shaped_int, PyData.eqv, e, h2, hp, Bool.and_true, beq_self_eq_true, show ((↑(2:Nat) : Int) == 2) = true from rfl]
      | true =>
        have hn' := hn
        rw [Bool.and_eq_true] at hn'
        obtain ⟨i, rfl, i1, i2⟩ := numB_int hn'.1
        obtain ⟨j, rfl, j1, j2⟩ := numB_int hn'.2
        have h2 := all2 (a := .int i) (b := .int j) (f := numB 1 1000) (st := st)
        rw [hn] at h2
        have h3 := hd i j (by omega) (Int.lt_of_lt_of_le (show j < 2 ^ 10 by omega) (by decide +kernel)) st
        have hp : priceB (.tuple [.int i, .int j]) = (((Int.gcd i j : Nat) : Int) == 1) := by
          simp only [priceB, hn, Bool.true_and]
        dsimp! only [F_is_price, F_is_price_l1, opNe, opEq, shaped_int, PyData.eqv, e, h2, h3, hp, ix0, ix1, Bool.and_true, beq_self_eq_true, show ((↑(2:Nat) : Int) == 2) = true from rfl]
    · have hl' : ((xs.length : Int) == 2) = false := by
        rw [beq_eq_false_iff_ne]; omega
      have hp : priceB (.tuple xs) = false := by
        match xs, hl with
        | [], _ => rfl
        | [a], _ => cases a <;> rfl
        | [a, b], hl => exact absurd rfl hl
        | a :: b :: c :: r, _ => cases a <;> cases b <;> rfl
      dsimp! only [F_is_price, opNe, shaped_int, PyData.eqv, hl', hp, Bool.and_true]
  | _ => dsimp! only [F_is_price, priceB]
theorem wholeB_int {x : PyData} (h : wholeB x = true) : ∃ i, x = .int i := by
  cases x <;> simp [wholeB] at h
  exact ⟨_, rfl⟩
theorem allB {xs : List PyData} {f : PyData → Bool} {st : Store} : opAll [.new (xs.map fun x => .bool (f x))] st = some (.ok (Bo (xs.all f)), st) := by
  simp only [opAll, boolsOf, asList, asBools_map]
  simp [List.all_map]
theorem eq_nat (n m : Nat) : (((n : Nat) : Int) == ((m : Nat) : Int)) = decide (n = m) := by
  by_cases h : n = m
  · rw [h]; simp
  · rw [decide_eq_false h, beq_eq_false_iff_ne]; omega
def F_is_event_b1 (C : Str → List Ev.W → Ev.M Ev.W) : Ev.Env → Ev.M Ev.W := (sCallF 1 (C (Str.ofString "is_price")) (sArgs [(sVar 4)]))
def F_is_event_l1 (C : Str → List Ev.W → Ev.M Ev.W) : Ev.Env → Ev.M Ev.W := (sLc (sIter (sVar 1)) [4] (gVar 4) sYes (F_is_event_b1 C))
def F_is_event (C : Str → List Ev.W → Ev.M Ev.W) : Ev.Env → Ev.M Out := (sSeq (sIfS (sOr (sNot (sTest (sUn (opIsi .tuple) (sVar 0)))) (sOr (sTestB (sBin opNe (sCallB opLen (sArgs [(sVar 0)])) (sCon (.int 3)))) (sNot (sTest (sUn (opIsi .tuple) (sBin opIx (sVar 0) (sCon (.int 0)))))))) (sSeq (sRet (sCon (.bool false))) sNext) sNext) (sSeq (sAsg (sVar 0) (gTuple [(gVar 1), (gVar 2), (gVar 3)])) (sSeq (sIfS (sOr (sNot (sTestB (sChain opLe opLe (sCon (.int 2)) (sCallB opLen (sArgs [(sVar 1)])) (sCon (.int 8))))) (sNot (sTest (sCallB opAll (sArgs [(F_is_event_l1 C)]))))) (sSeq (sRet (sCon (.bool false))) sNext) sNext) (sSeq (sIfS (sOr (sNot (sTest (sCallF 1 (C (Str.ofString "is_whole")) (sArgs [(sVar 2)])))) (sOr (sNot (sTestB (sChain opLe opLe (sCon (.int 1)) (sVar 2) (sCon (.int 4))))) (sTestB (sBin opGe (sVar 2) (sCallB opLen (sArgs [(sVar 1)])))))) (sSeq (sRet (sCon (.bool false))) sNext) sNext) (sSeq (sRet (sAndV (sCallF 1 (C (Str.ofString "is_whole")) (sArgs [(sVar 3)])) (sChain opLe opLe (sCon (.int 1)) (sVar 3) (sCon (.int 5))))) sNext)))))
theorem evB_not {ps : List PyData} {b c : PyData} (h : (decide (2 ≤ (ps.length : Int)) && decide ((ps.length : Int) ≤ 8) && ps.all priceB && numB 1 4 b && (match b with | .int i => !decide ((ps.length : Int) ≤ i) | _ => false) && numB 1 5 c) = false) : evB (.tuple [.tuple ps, b, c]) = false := by
  cases b <;> cases c <;> first | rfl | exact h
theorem evB_len {xs : List PyData} (h : xs.length ≠ 3) : evB (.tuple xs) = false := by
  match xs, h with
  | [], _ => rfl
  | [a], _ => cases a <;> rfl
  | [a, b], _ => cases a <;> cases b <;> rfl
  | [a, b, c], h => exact absurd rfl h
  | a :: b :: c :: d :: r, _ => cases a <;> cases b <;> cases c <;> rfl
theorem spec_is_event {C : Call} (hw : SpecWhole (C (Str.ofString "is_whole"))) (hp : SpecIsPrice (C (Str.ofString "is_price"))) : SpecIsEvent (fnSem 1 5 (F_is_event C)) := by
  intro x st
  cases x with
  | tuple xs =>
    by_cases hl : xs.length = 3
    · obtain ⟨a, b, c, rfl⟩ : ∃ a b c, xs = [a, b, c] := by
        match xs, hl with
        | [a, b, c], _ => exact ⟨a, b, c, rfl⟩
      have h3 : ((↑(3 : Nat) : Int) == 3) = true := rfl
      cases a with
      | tuple ps =>
        by_cases h1 : 2 ≤ (ps.length : Int)
        · by_cases h2 : (ps.length : Int) ≤ 8
          · have hz : (8 : Nat) ≤ sizeLine := by decide
            have e := lc_gen (L := []) (g := gVar 4) (f := F_is_event_b1 C) (ρ := [some (.d (.tuple [.tuple ps, b, c])), some (.d (.tuple ps)), some (.d b), some (.d c), none]) (φ := fun w => match w with | .d y => .bool (priceB y) | _ => .none) (st := st) rfl (ps.map W.d) [] (by
              intro w hw'
              obtain ⟨p, _, rfl⟩ := List.mem_map.mp hw'
              refine ⟨_, Bo (priceB p), rfl, ?_, rfl⟩
              have := hp p st
              dsimp! only [F_is_event_b1, this]) (by rw [List.length_map, List.length_nil]; omega)
            rw [List.map_map] at e
            have e2 := allB (xs := ps) (f := priceB) (st := st)
            simp only [Function.comp_def, List.nil_append] at e
            cases ha : ps.all priceB with
            | false =>
              rw [ha] at e2
              rw [evB_not (by simp [ha])]
              dsimp! only [F_is_event, F_is_event_l1, opNe, shaped_int, PyData.eqv, h3, ix0, opLe, decide_eq_true h1, decide_eq_true h2, e, e2, Bool.and_true]
            | true =>
              rw [ha] at e2
              have wb := hw b st
              cases hb : wholeB b with
              | false =>
                rw [hb] at wb
                rw [evB_not (by simp [numB_whole hb])]
                dsimp! only [F_is_event, F_is_event_l1, opNe, shaped_int, PyData.eqv, h3, ix0, opLe, decide_eq_true h1, decide_eq_true h2, e, e2, wb, Bool.and_true]
              | true =>
                obtain ⟨i, rfl⟩ := wholeB_int hb
                rw [hb] at wb
                by_cases i1 : 1 ≤ i
                · by_cases i2 : i ≤ 4
                  · by_cases i3 : (ps.length : Int) ≤ i
                    · rw [evB_not (by simp [i3])]
                      dsimp! only [F_is_event, F_is_event_l1, opNe, shaped_int, PyData.eqv, h3, ix0, opLe, opGe, decide_eq_true h1, decide_eq_true h2, e, e2, wb, decide_eq_true i1, decide_eq_true i2, decide_eq_true i3, Bool.and_true]
                    · have wc := hw c st
                      cases hc : wholeB c with
                      | false =>
                        rw [hc] at wc
                        rw [evB_not (by simp [numB_whole hc])]
                        dsimp! only [F_is_event, F_is_event_l1, opNe, shaped_int, PyData.eqv, h3, ix0, opLe, opGe, decide_eq_true h1, decide_eq_true h2, e, e2, wb, wc, decide_eq_true i1, decide_eq_true i2, decide_eq_false i3, Bool.and_true]
                      | true =>
                        obtain ⟨j, rfl⟩ := wholeB_int hc
                        rw [hc] at wc
                        have hev : evB (.tuple [.tuple ps, .int i, .int j]) = (decide (1 ≤ j) && decide (j ≤ 5)) := by
                          simp only [evB, numB, decide_eq_true h1, decide_eq_true h2, ha, decide_eq_true i1, decide_eq_true i2, decide_eq_false i3, Bool.true_and, Bool.not_false]
                        rw [hev]
                        by_cases j1 : 1 ≤ j
                        · dsimp! only [F_is_event, F_is_event_l1, opNe, shaped_int, PyData.eqv, h3, ix0, opLe, opGe, decide_eq_true h1, decide_eq_true h2, e, e2, wb, wc, decide_eq_true i1, decide_eq_true i2, decide_eq_false i3, decide_eq_true j1, Bool.and_true, Bool.true_and]
                        · dsimp! only [F_is_event, F_is_event_l1, opNe, shaped_int, PyData.eqv, h3, ix0, opLe, opGe, decide_eq_true h1, decide_eq_true h2, e, e2, wb, wc, decide_eq_true i1, decide_eq_true i2, decide_eq_false i3, decide_eq_false j1, Bool.and_true, Bool.false_and]
                  · rw [evB_not (by simp [numB, i2])]
                    dsimp! only [F_is_event, F_is_event_l1, opNe, shaped_int, PyData.eqv, h3, ix0, opLe, decide_eq_true h1, decide_eq_true h2, e, e2, wb, decide_eq_true i1, decide_eq_false i2, Bool.and_true]
                · rw [evB_not (by simp [numB, i1])]
                  dsimp! only [F_is_event, F_is_event_l1, opNe, shaped_int, PyData.eqv, h3, ix0, opLe, decide_eq_true h1, decide_eq_true h2, e, e2, wb, decide_eq_false i1, Bool.and_true]
          · rw [evB_not (by simp [h2])]
            dsimp! only [F_is_event, opNe, shaped_int, PyData.eqv, h3, ix0, opLe, decide_eq_true h1, decide_eq_false h2, Bool.and_true]
        · rw [evB_not (by simp [h1])]
          dsimp! only [F_is_event, opNe, shaped_int, PyData.eqv, h3, ix0, opLe, decide_eq_false h1, Bool.and_true]
      | _ => dsimp! only [F_is_event, opNe, shaped_int, PyData.eqv, h3, ix0, evB, Bool.and_true]
    · have hl' : ((xs.length : Int) == 3) = false := by
        rw [beq_eq_false_iff_ne]; omega
      rw [evB_len hl]
      dsimp! only [F_is_event, opNe, shaped_int, PyData.eqv, hl', Bool.and_true]
  | _ => dsimp! only [F_is_event, evB]
end Ev

namespace Ev
open PySem
local macro_rules | `(tactic| dsimp! only [$xs,*]) => `(tactic| simp only [fnSem, leave, sSeq, sRet, sExpr, sNext, sIfS, sAsg, sCell, toCell, sPar, storeAll, storeW, sSetIx, opSet, sVar, sCon, sBin, sUn, sArgs, sCallB, sMeth, sCallF, sTest, sTestB, sNot, sAnd, sOr, sIf, sAndV, sOrV, sNotV, sChain, sSlice, sPart, sFor, sLc, sIter, sIterC, sYes, iterOf, gVar, gTuple, gAll, frz_new, frz_d, frz_ref, frz_scr, isLst, isStr, mbind, mret, mfail, truth, truthB, asSeq, asList, asData, opIsi, isTy, opIsN, opNotN, isNone, allD, opTup, opLst, opLen, List.map_cons, List.map_nil, List.getElem?_cons_zero, List.getElem?_cons_succ, List.set_cons_zero, List.set_cons_succ, List.length_cons, List.length_nil, List.cons_append, List.nil_append, List.replicate, List.take_succ_cons, List.take_zero, List.take_length, Nat.reduceAdd, Nat.reduceSub, Nat.reduceLeDiff, if_true, if_false, ite_true, ite_false, reduceIte, reduceCtorEq, wipeG, Bool.false_eq_true, Bool.not_true, Bool.not_false, sz0, sz1, sz2, sz3, sz4, sz5, sz6, sz7, sz8, $xs,*])
theorem lc_filter {L : List (Nat × List PyData)} {g : Tg} {p : Env → M Bool} {f : Env → M W} {ρ : Env} {b : W → Bool} {φ : W → PyData} {st : Store} (hl : locksB L st = true) : ∀ (ws : List W) (acc : List PyData), (∀ w ∈ ws, ∃ ρ1, g w ρ = some ρ1 ∧ p ρ1 st = some (.ok (b w), st) ∧ (b w = true → ∃ v, f ρ1 st = some (.ok v, st) ∧ frz v = .d (φ w))) → acc.length + ws.length ≤ sizeLine → lcLoop L g p f ρ ws acc st = some (acc ++ (ws.filter b).map φ, st)
  | [], acc, _, _ => by simp [lcLoop, hl]
  | w :: ws, acc, h, hz => by
    obtain ⟨ρ1, h1, h2, h3⟩ := h w List.mem_cons_self
    rw [List.length_cons] at hz
    rw [lcLoop, if_pos hl]
    cases hb : b w with
    | false =>
      rw [hb] at h2
      simp only [lcTurn, h1, h2]
      rw [lc_filter hl ws acc (fun w hw => h w (List.mem_cons_of_mem _ hw)) (by omega), List.filter_cons_of_neg (by simp [hb])]
    | true =>
      obtain ⟨v, h4, h5⟩ := h3 hb
      rw [hb] at h2
      simp only [lcTurn, h1, h2, h4, h5]
      rw [if_pos (by omega)]
      dsimp only
      rw [lc_filter hl ws (acc ++ [φ w]) (fun w hw => h w (List.mem_cons_of_mem _ hw)) (by rw [List.length_append, List.length_singleton]; omega), List.filter_cons_of_pos hb]
      simp
def F_law_is_event_c2 (C : Str → List Ev.W → Ev.M Ev.W) : Ev.Env → Ev.M Bool := (sNot (sTest (sCallF 3 (C (Str.ofString "_law_is_number")) (sArgs [(sVar 2), (sCon (.int 1)), (sCon (.int 1000))]))))
def F_law_is_event_b2 (C : Str → List Ev.W → Ev.M Ev.W) : Ev.Env → Ev.M Ev.W := (sVar 2)
def F_law_is_event_l2 (C : Str → List Ev.W → Ev.M Ev.W) : Ev.Env → Ev.M Ev.W := (sLc (sIter (sVar 1)) [2] (gVar 2) (F_law_is_event_c2 C) (F_law_is_event_b2 C))
def F_law_is_event_b1 (C : Str → List Ev.W → Ev.M Ev.W) : Ev.Env → Ev.M Out := (sSeq (sIfS (sOr (sNot (sTest (sUn (opIsi .tuple) (sVar 1)))) (sTestB (sBin opNe (sCallB opLen (sArgs [(sVar 1)])) (sCon (.int 2))))) (sSeq (sRet (sCon (.bool false))) sNext) sNext) (sSeq (sIfS (sOr (sTest (F_law_is_event_l2 C)) (sTestB (sBin opNe (sCallF 2 (C (Str.ofString "_law_low")) (sArgs [(sBin opIx (sVar 1) (sCon (.int 0))), (sBin opIx (sVar 1) (sCon (.int 1)))])) (sVar 1)))) (sSeq (sRet (sCon (.bool false))) sNext) sNext) sNext))
def F_law_is_event_l1 (C : Str → List Ev.W → Ev.M Ev.W) : Ev.Env → Ev.M Out := (sFor (sIter (sBin opIx (sVar 0) (sCon (.int 0)))) (gVar 1) (F_law_is_event_b1 C))
def F_law_is_event (C : Str → List Ev.W → Ev.M Ev.W) : Ev.Env → Ev.M Out := (sSeq (sIfS (sOr (sNot (sTest (sUn (opIsi .tuple) (sVar 0)))) (sOr (sTestB (sBin opNe (sCallB opLen (sArgs [(sVar 0)])) (sCon (.int 3)))) (sNot (sTest (sUn (opIsi .tuple) (sBin opIx (sVar 0) (sCon (.int 0)))))))) (sSeq (sRet (sCon (.bool false))) sNext) sNext) (sSeq (F_law_is_event_l1 C) (sSeq (sAsg (sCallB opLen (sArgs [(sBin opIx (sVar 0) (sCon (.int 0)))])) (gVar 3)) (sSeq (sRet (sAndV (sChain opLt opLt (sCon (.int 1)) (sVar 3) (sCon (.int 9))) (sAndV (sCallF 3 (C (Str.ofString "_law_is_number")) (sArgs [(sBin opIx (sVar 0) (sCon (.int 1))), (sCon (.int 1)), (sCallB opMin (sArgs [(sCon (.int 4)), (sBin opSub (sVar 3) (sCon (.int 1)))]))])) (sCallF 3 (C (Str.ofString "_law_is_number")) (sArgs [(sBin opIx (sVar 0) (sCon (.int 2))), (sCon (.int 1)), (sCon (.int 5))]))))) sNext))))
theorem shaped_pair (i j : Int) : SeqAt.shaped (.tuple [.int i, .int j]) = true := by
  simp [SeqAt.shaped, PyData.canLay0, PyData.depth, PyData.canLayAll0, PyData.depthAll]
theorem low_self {i j : Int} (h1 : 1 ≤ i) (h2 : 1 ≤ j) : PyData.eqv (frac (quo i j)) (.tuple [.int i, .int j]) = (((Int.gcd i j : Nat) : Int) == 1) := by
  rw [frac_quo (by omega)]
  have hg := gcd_pos (a := i) (b := j) (by omega)
  simp only [PyData.eqv, PyData.eqvAll, Bool.and_true]
  generalize ((Int.gcd i j : Nat) : Int) = g at hg
  by_cases h : g = 1
  · subst h; simp
  · have e1 : (g == 1) = false := by simpa using h
    have e2 : (i / g == i) = false := by
      rw [beq_eq_false_iff_ne]
      have h3 : i * 2 ≤ i * g := Int.mul_le_mul_of_nonneg_left (by omega) (by omega)
      have : i / g < i := Int.ediv_lt_of_lt_mul hg (by omega)
      omega
    rw [e1, e2]
    rfl
theorem len2_ne {xs : List PyData} (h : xs.length ≠ 2) : ((xs.length : Int) == 2) = false ∧ priceB (.tuple xs) = false := by
  refine ⟨by rw [beq_eq_false_iff_ne]; omega, ?_⟩
  match xs, h with
  | [], _ => rfl
  | [a], _ => cases a <;> rfl
  | [a, b], hl => exact absurd rfl hl
  | a :: b :: c :: r, _ => cases a <;> cases b <;> rfl
theorem lie_body {C : Call} (hn : SpecIsNum (C (Str.ofString "_law_is_number"))) (hl : SpecLow (C (Str.ofString "_law_low"))) (x : Option W) (p : PyData) (st : Store) :
    F_law_is_event_b1 C [x, some (.d p), none, none] st = some (.ok (if priceB p = true then .nx [x, some (.d p), none, none] else .ret (Bo false)), st) := by
  have h2 : ((↑(2 : Nat) : Int) == 2) = true := rfl
  cases p with
  | tuple xs =>
    by_cases hx : xs.length = 2
    · obtain ⟨a, b, rfl⟩ : ∃ a b, xs = [a, b] := by
        match xs, hx with
        | [a, b], _ => exact ⟨a, b, rfl⟩
      have e := lc_filter (L := []) (g := gVar 2) (p := F_law_is_event_c2 C) (f := F_law_is_event_b2 C) (ρ := [x, some (.d (.tuple [a, b])), none, none]) (b := fun w => match w with | .d y => !numB 1 1000 y | _ => false) (φ := fun w => match w with | .d y => y | _ => .none) (st := st) rfl [.d a, .d b] [] (by
        intro w hw
        have one : ∀ y, F_law_is_event_c2 C [x, some (.d (.tuple [a, b])), some (.d y), none] st = some (.ok (!numB 1 1000 y), st) := by
          intro y
          have := hn y 1 1000 st
          dsimp! only [F_law_is_event_c2, this]
        simp only [List.mem_cons, List.not_mem_nil, or_false] at hw
        rcases hw with rfl | rfl
        · exact ⟨_, rfl, one a, fun _ => ⟨_, rfl, rfl⟩⟩
        · exact ⟨_, rfl, one b, fun _ => ⟨_, rfl, rfl⟩⟩) (show 2 ≤ sizeLine by decide)
      cases hab : numB 1 1000 a && numB 1 1000 b with
      | false =>
        have hp : priceB (.tuple [a, b]) = false := by
          cases a <;> cases b <;> first | rfl | (simp only [priceB, hab, Bool.false_and])
        obtain ⟨z, zs, hf⟩ : ∃ z zs, ([] : List PyData) ++ (([W.d a, W.d b].filter fun w => match w with | .d y => !numB 1 1000 y | _ => false).map fun w => match w with | .d y => y | _ => .none) = z :: zs := by
          cases h1 : numB 1 1000 a <;> cases h3 : numB 1 1000 b <;> simp [h1, h3] at hab ⊢
        rw [hf] at e
        dsimp! only [F_law_is_event_b1, F_law_is_event_l2, opNe, shaped_int, PyData.eqv, h2, hp, e, Bool.and_true, List.isEmpty_cons]
      | true =>
        have hab' := hab
        rw [Bool.and_eq_true] at hab'
        have hf : ([] : List PyData) ++ (([W.d a, W.d b].filter fun w => match w with | .d y => !numB 1 1000 y | _ => false).map fun w => match w with | .d y => y | _ => .none) = [] := by simp [hab'.1, hab'.2]
        rw [hf] at e
        obtain ⟨i, rfl, i1, i2⟩ := numB_int hab'.1
        obtain ⟨j, rfl, j1, j2⟩ := numB_int hab'.2
        have e3 := hl i j (by omega) (Int.lt_of_lt_of_le (show j < 2 ^ 10 by omega) (by decide +kernel)) st
        have e4 := low_self i1 j1
        have e5 : SeqAt.shaped (frac (quo i j)) = true := by
          rw [frac_quo (by omega)]; exact shaped_pair _ _
        have hp : priceB (.tuple [.int i, .int j]) = (((Int.gcd i j : Nat) : Int) == 1) := by
          simp only [priceB, hab, Bool.true_and]
        rw [hp]
        cases hg : (((Int.gcd i j : Nat) : Int) == 1) with
        | true =>
          rw [hg] at e4
          dsimp! only [F_law_is_event_b1, F_law_is_event_l2, opNe, shaped_int, h2, e, e3, e4, e5, ix0, ix1, shaped_pair, show PyData.eqv (.int ↑(2:Nat)) (.int 2) = true from rfl, Bool.and_true, List.isEmpty_nil]
        | false =>
          rw [hg] at e4
          dsimp! only [F_law_is_event_b1, F_law_is_event_l2, opNe, shaped_int, h2, e, e3, e4, e5, ix0, ix1, shaped_pair, show PyData.eqv (.int ↑(2:Nat)) (.int 2) = true from rfl, Bool.and_true, List.isEmpty_nil]
    · obtain ⟨h1, hp⟩ := len2_ne hx
      dsimp! only [F_law_is_event_b1, opNe, shaped_int, PyData.eqv, h1, hp, Bool.and_true]
  | _ => dsimp! only [F_law_is_event_b1, priceB]
theorem lie_loop {C : Call} (hn : SpecIsNum (C (Str.ofString "_law_is_number"))) (hl : SpecLow (C (Str.ofString "_law_low"))) (x : Option W) (st : Store) : ∀ (ps : List PyData) (r : Option W), ∃ r', forLoop [] (gVar 1) (F_law_is_event_b1 C) (ps.map W.d) [x, r, none, none] st = some (.ok (if ps.all priceB = true then .nx [x, r', none, none] else .ret (Bo false)), st)
  | [], r => ⟨r, by simp [forLoop, locksB]⟩
  | p :: ps, r => by
    obtain ⟨r', e⟩ := lie_loop hn hl x st ps (some (.d p))
    have eb := lie_body hn hl x p st
    refine ⟨r', ?_⟩
    rw [List.all_cons]
    cases hp : priceB p with
    | true =>
      simp only [hp, if_true] at eb
      simp only [List.map_cons, forLoop, locksB, if_true, gVar, List.set_cons_succ, List.set_cons_zero, mbind, eb, Bool.true_and]
      exact e
    | false =>
      simp only [hp, Bool.false_eq_true, if_false] at eb
      simp only [List.map_cons, forLoop, locksB, if_true, gVar, List.set_cons_succ, List.set_cons_zero, mbind, eb, Bool.false_and, mret, Bool.false_eq_true, if_false]
theorem spec_law_is_event {C : Call} (hn : SpecIsNum (C (Str.ofString "_law_is_number"))) (hl : SpecLow (C (Str.ofString "_law_low"))) : SpecIsEvent (fnSem 1 4 (F_law_is_event C)) := by
  intro x st
  cases x with
  | tuple xs =>
    by_cases hx : xs.length = 3
    · obtain ⟨a, b, c, rfl⟩ : ∃ a b c, xs = [a, b, c] := by
        match xs, hx with
        | [a, b, c], _ => exact ⟨a, b, c, rfl⟩
      have h3 : ((↑(3 : Nat) : Int) == 3) = true := rfl
      cases a with
      | tuple ps =>
        obtain ⟨r', e⟩ := lie_loop hn hl (some (.d (.tuple [.tuple ps, b, c]))) st ps none
        cases ha : ps.all priceB with
        | false =>
          simp only [ha, Bool.false_eq_true, if_false] at e
          rw [evB_not (by simp [ha])]
          dsimp! only [F_law_is_event, F_law_is_event_l1, opNe, shaped_int, PyData.eqv, h3, ix0, e, Bool.and_true]
        | true =>
          simp only [ha, if_true] at e
          have hmin : (if (ps.length : Int) - 1 < 4 then (ps.length : Int) - 1 else 4) = min 4 ((ps.length : Int) - 1) := by omega
          have e1 := hn b 1 (min 4 ((ps.length : Int) - 1)) st
          have e2 := hn c 1 5 st
          by_cases h1 : 1 < (ps.length : Int)
          · by_cases h2 : (ps.length : Int) < 9
            · cases hb : numB 1 (min 4 ((ps.length : Int) - 1)) b with
              | false =>
                have hev : evB (.tuple [.tuple ps, b, c]) = false := by
                  refine evB_not ?_
                  cases b with
                  | int i =>
                    simp only [numB, Bool.and_eq_false_iff, decide_eq_false_iff_not] at hb ⊢
                    simp
                    omega
                  | _ => simp
                rw [hb] at e1
                rw [hev]
                dsimp! only [F_law_is_event, F_law_is_event_l1, opNe, shaped_int, PyData.eqv, h3, ix0, ix1, ix2, e, opLt, opSub, opMin, hmin, e1, decide_eq_true h1, decide_eq_true h2, Bool.and_true]
              | true =>
                obtain ⟨i, rfl, i1, i2⟩ := numB_int hb
                have hev : evB (.tuple [.tuple ps, .int i, c]) = numB 1 5 c := by
                  cases c with
                  | int j =>
                    simp only [evB, numB, ha]
                    rw [decide_eq_true (show 2 ≤ (ps.length : Int) by omega), decide_eq_true (show (ps.length : Int) ≤ 8 by omega), decide_eq_true i1, decide_eq_true (show i ≤ 4 by omega), decide_eq_false (show ¬ (ps.length : Int) ≤ i by omega)]
                    simp
                  | _ => simp [evB, numB]
                rw [hb] at e1
                rw [hev]
                dsimp! only [F_law_is_event, F_law_is_event_l1, opNe, shaped_int, PyData.eqv, h3, ix0, ix1, ix2, e, opLt, opSub, opMin, hmin, e1, e2, decide_eq_true h1, decide_eq_true h2, Bool.and_true]
            · rw [evB_not (by simp; omega)]
              dsimp! only [F_law_is_event, F_law_is_event_l1, opNe, shaped_int, PyData.eqv, h3, ix0, e, opLt, decide_eq_true h1, decide_eq_false h2, Bool.and_true]
          · rw [evB_not (by simp; omega)]
            dsimp! only [F_law_is_event, F_law_is_event_l1, opNe, shaped_int, PyData.eqv, h3, ix0, e, opLt, decide_eq_false h1, Bool.and_true]
      | _ => dsimp! only [F_law_is_event, opNe, shaped_int, PyData.eqv, h3, ix0, evB, Bool.and_true]
    · have hl' : ((xs.length : Int) == 3) = false := by
        rw [beq_eq_false_iff_ne]; omega
      rw [evB_len hx]
      dsimp! only [F_law_is_event, opNe, shaped_int, PyData.eqv, hl', Bool.and_true]
  | _ => dsimp! only [F_law_is_event, evB]
end Ev

namespace Ev
open PySem
local macro_rules | `(tactic| dsimp! only [$xs,*]) => `(tactic| simp only [fnSem, leave, sSeq, sRet, sExpr, sNext, sIfS, sAsg, sCell, toCell, sPar, storeAll, storeW, sSetIx, opSet, sVar, sCon, sBin, sUn, sArgs, sCallB, sMeth, sCallF, sTest, sTestB, sNot, sAnd, sOr, sIf, sAndV, sOrV, sNotV, sChain, sSlice, sPart, sFor, sLc, sIter, sIterC, sYes, iterOf, gVar, gTuple, gAll, frz_new, frz_d, frz_ref, frz_scr, isLst, isStr, mbind, mret, mfail, truth, truthB, asSeq, asList, asData, opIsi, isTy, opIsN, opNotN, isNone, allD, opTup, opLst, opLen, List.map_cons, List.map_nil, List.getElem?_cons_zero, List.getElem?_cons_succ, List.set_cons_zero, List.set_cons_succ, List.length_cons, List.length_nil, List.cons_append, List.nil_append, List.replicate, List.take_succ_cons, List.take_zero, List.take_length, Nat.reduceAdd, Nat.reduceSub, Nat.reduceLeDiff, if_true, if_false, ite_true, ite_false, reduceIte, reduceCtorEq, wipeG, Bool.false_eq_true, Bool.not_true, Bool.not_false, sz0, sz1, sz2, sz3, sz4, sz5, sz6, sz7, sz8, $xs,*])
/-! ### shares -/
def shareQ : PyData → Rat
  | .tuple [.int a, .int b] => quo b (a + b)
  | _ => 0
def SpecShare (F : List W → M W) : Prop := ∀ p, Price p → Gives F [.d p] (.d (frac (shareQ p)))
def F_share_of (C : Str → List Ev.W → Ev.M Ev.W) : Ev.Env → Ev.M Out := (sSeq (sRet (sCallF 2 (C (Str.ofString "lowest")) (sArgs [(sBin opIx (sVar 0) (sCon (.int 1))), (sBin opAdd (sBin opIx (sVar 0) (sCon (.int 0))) (sBin opIx (sVar 0) (sCon (.int 1))))]))) sNext)
theorem spec_share_of {C : Call} (hl : SpecLow (C (Str.ofString "lowest"))) : SpecShare (fnSem 1 1 (F_share_of C)) := by
  rintro p ⟨a, b, rfl, a1, a2, b1, b2, _⟩ st
  have e := hl b (a + b) (by omega) (Int.lt_of_lt_of_le (show a + b < 2 ^ 11 by omega) (by decide +kernel)) st
  dsimp! only [F_share_of, ix0, ix1, opAdd, e, shareQ]
theorem share_small {p : PyData} (h : Price p) : Small 11 (shareQ p) := by
  obtain ⟨a, b, rfl, a1, a2, b1, b2, _⟩ := h
  exact quo_small (by omega) (by omega) (by omega)
theorem rat_pos {x : Rat} : 0 < x ↔ 0 < x.num := by
  rw [Rat.lt_iff]
  simp
theorem quo_pos {a b : Int} (ha : 0 < a) (hb : 0 < b) : 0 < quo a b := by
  rw [rat_pos, quo_mk hb, Rat.num_mkRat, if_neg (by omega)]
  have hd : ((b.toNat.gcd a.natAbs : Nat) : Int) ∣ a := Int.ofNat_dvd_left.mpr (Nat.gcd_dvd_right ..)
  have hg : 0 < b.toNat.gcd a.natAbs := Nat.gcd_pos_of_pos_left _ (by omega)
  exact Int.le_ediv_of_mul_le (by omega) (by rw [Int.zero_add, Int.one_mul]; exact Int.le_of_dvd ha hd)
theorem share_pos {p : PyData} (h : Price p) : 0 < shareQ p := by
  obtain ⟨a, b, rfl, a1, a2, b1, b2, _⟩ := h
  exact quo_pos (by omega) (by omega)
theorem foldl_add_pos : ∀ (xs : List Rat) (a : Rat), 0 ≤ a → (∀ x ∈ xs, 0 < x) → (xs ≠ [] ∨ 0 < a) → 0 < xs.foldl (· + ·) a
  | [], a, _, _, h => by
    rcases h with h | h
    · exact absurd rfl h
    · exact h
  | x :: xs, a, ha, hx, _ => by
    have h1 := hx x List.mem_cons_self
    have h2 : 0 < a + x := by grind
    exact foldl_add_pos xs (a + x) (by grind) (fun y hy => hx y (List.mem_cons_of_mem _ hy)) (.inr h2)
theorem rsum_pos {xs : List Rat} (h : ∀ x ∈ xs, 0 < x) (h0 : xs ≠ []) : 0 < rsum xs := foldl_add_pos xs 0 (by decide) h (.inl h0)
def SpecRound (F : List W → M W) : Prop := ∀ (ps : List PyData) (x y : PyData), (∀ p ∈ ps, Price p) → ps.length ≤ 100 → Gives F [.d (.tuple [.tuple ps, x, y])] (.d (frac (rsum (ps.map shareQ))))
def F_round_of_b1 (C : Str → List Ev.W → Ev.M Ev.W) : Ev.Env → Ev.M Ev.W := (sCallF 1 (C (Str.ofString "share_of")) (sArgs [(sVar 1)]))
def F_round_of_l1 (C : Str → List Ev.W → Ev.M Ev.W) : Ev.Env → Ev.M Ev.W := (sLc (sIter (sBin opIx (sVar 0) (sCon (.int 0)))) [1] (gVar 1) sYes (F_round_of_b1 C))
def F_round_of (C : Str → List Ev.W → Ev.M Ev.W) : Ev.Env → Ev.M Out := (sSeq (sRet (sCallF 1 (C (Str.ofString "total_of")) (sArgs [(F_round_of_l1 C)]))) sNext)
theorem spec_round_of {C : Call} (hs : SpecShare (C (Str.ofString "share_of"))) (ht : SpecTotal (C (Str.ofString "total_of"))) : SpecRound (fnSem 1 2 (F_round_of C)) := by
  intro ps x y hp hl st
  have hz : (100 : Nat) ≤ sizeLine := by decide
  have e := lc_gen (L := []) (g := gVar 1) (f := F_round_of_b1 C) (ρ := [some (.d (.tuple [.tuple ps, x, y])), none]) (φ := fun w => match w with | .d y => frac (shareQ y) | _ => .none) (st := st) rfl (ps.map W.d) [] (by
    intro w hw
    obtain ⟨p, hm, rfl⟩ := List.mem_map.mp hw
    refine ⟨_, .d (frac (shareQ p)), rfl, ?_, rfl⟩
    have := hs p (hp p hm) st
    dsimp! only [F_round_of_b1, this]) (by rw [List.length_map, List.length_nil]; omega)
  rw [List.map_map] at e
  simp only [Function.comp_def, List.nil_append] at e
  have e2 := ht 11 (ps.map shareQ) (fun x hx => by obtain ⟨p, hm, rfl⟩ := List.mem_map.mp hx; exact share_small (hp p hm)) (by rw [List.length_map]; omega) st
  rw [List.map_map] at e2
  simp only [Function.comp_def] at e2
  dsimp! only [F_round_of, F_round_of_l1, ix0, e, e2]
def SpecFair (F : List W → M W) : Prop := ∀ (ps : List PyData) (x y : PyData), (∀ p ∈ ps, Price p) → ps ≠ [] → ps.length ≤ 100 → Gives F [.d (.tuple [.tuple ps, x, y])] (.d (.tuple (ps.map fun p => frac (shareQ p / rsum (ps.map shareQ)))))
theorem whole_small {ps : List PyData} (hp : ∀ p ∈ ps, Price p) (hl : ps.length ≤ 100) : Small 1300 (rsum (ps.map shareQ)) := by
  refine (rsum_small (s := 11) (xs := ps.map shareQ) fun x hx => by obtain ⟨p, hm, rfl⟩ := List.mem_map.mp hx; exact share_small (hp p hm)).mono ?_
  rw [List.length_map]
  omega
theorem whole_pos {ps : List PyData} (hp : ∀ p ∈ ps, Price p) (h0 : ps ≠ []) : 0 < rsum (ps.map shareQ) :=
  rsum_pos (fun x hx => by obtain ⟨p, hm, rfl⟩ := List.mem_map.mp hx; exact share_pos (hp p hm)) (by simpa using h0)
def F_fair_shares_b1 (C : Str → List Ev.W → Ev.M Ev.W) : Ev.Env → Ev.M Ev.W := (sCallF 2 (C (Str.ofString "over_by")) (sArgs [(sCallF 1 (C (Str.ofString "share_of")) (sArgs [(sVar 2)])), (sVar 1)]))
def F_fair_shares_l1 (C : Str → List Ev.W → Ev.M Ev.W) : Ev.Env → Ev.M Ev.W := (sLc (sIter (sBin opIx (sVar 0) (sCon (.int 0)))) [2] (gVar 2) sYes (F_fair_shares_b1 C))
def F_fair_shares (C : Str → List Ev.W → Ev.M Ev.W) : Ev.Env → Ev.M Out := (sSeq (sAsg (sCallF 1 (C (Str.ofString "round_of")) (sArgs [(sVar 0)])) (gVar 1)) (sSeq (sRet (sCallB opTuple (sArgs [(F_fair_shares_l1 C)]))) sNext))
theorem spec_fair_shares {C : Call} (hr : SpecRound (C (Str.ofString "round_of"))) (hs : SpecShare (C (Str.ofString "share_of"))) (ho : SpecOver (C (Str.ofString "over_by"))) : SpecFair (fnSem 1 3 (F_fair_shares C)) := by
  intro ps x y hp h0 hl st
  have hz : (100 : Nat) ≤ sizeLine := by decide
  have e0 := hr ps x y hp hl st
  have e := lc_gen (L := []) (g := gVar 2) (f := F_fair_shares_b1 C) (ρ := [some (.d (.tuple [.tuple ps, x, y])), some (.d (frac (rsum (ps.map shareQ)))), none]) (φ := fun w => match w with | .d y => frac (shareQ y / rsum (ps.map shareQ)) | _ => .none) (st := st) rfl (ps.map W.d) [] (by
    intro w hw
    obtain ⟨p, hm, rfl⟩ := List.mem_map.mp hw
    refine ⟨_, .d (frac (shareQ p / rsum (ps.map shareQ))), rfl, ?_, rfl⟩
    have e1 := hs p (hp p hm) st
    have e2 := ho (shareQ p) (rsum (ps.map shareQ)) ((share_small (hp p hm)).mono (by decide)) ((whole_small hp hl).mono (by decide)) (rat_pos.mp (whole_pos hp h0)) st
    dsimp! only [F_fair_shares_b1, e1, e2]) (by rw [List.length_map, List.length_nil]; omega)
  rw [List.map_map] at e
  simp only [Function.comp_def, List.nil_append] at e
  dsimp! only [F_fair_shares, F_fair_shares_l1, ix0, e0, e, opTuple]
theorem foldl_div (w : Rat) : ∀ (xs : List Rat) (a : Rat), (xs.map (· / w)).foldl (· + ·) (a / w) = (xs.foldl (· + ·) a) / w
  | [], a => rfl
  | x :: xs, a => by
    rw [List.map_cons, List.foldl_cons, List.foldl_cons, ← foldl_div w xs (a + x)]
    congr 1
    grind
theorem rsum_div (w : Rat) (xs : List Rat) : rsum (xs.map (· / w)) = rsum xs / w := by
  unfold rsum
  rw [← foldl_div w xs 0]
  congr 1
  grind
theorem rat_div_self {w : Rat} (h : 0 < w) : w / w = 1 := by grind

/-! ### a thing bent -/
def bendOk : Nat → PyData → Bool
  | _, .none => true
  | _, .str _ => true
  | _, .int i => decide (-1000000 ≤ i) && decide (i ≤ 1000000)
  | n + 1, .tuple xs => decide (xs.length ≤ 1000) && xs.all (bendOk n)
  | _, _ => false
def SpecBent (ns : List Int) (k : Nat) (F : List W → M W) : Prop := ∀ (x : PyData) (rest : Store) (n : Nat) (st : Store), bendOk k x = true → Town rest n st → n + 4 * (k + 1) ≤ lim → ∃ y st', F [.scr ns, .ref 0, .d x] st = some (.ok (.d y), st') ∧ Town rest (n + 4 * (k + 1)) st'
theorem cutG_len {α : Type} (xs : List α) (lo hi : Option Int) : (cutG xs lo hi).length ≤ xs.length := by
  unfold cutG
  rw [List.length_take, List.length_drop]
  omega
def F_law_bent (C : Str → List Ev.W → Ev.M Ev.W) : Ev.Env → Ev.M Out := (sSeq (sIfS (sOr (sNot (sTest (sUn (opIsi .tuple) (sVar 2)))) (sOr (sNot (sTest (sVar 2))) (sTestB (sBin opEq (sCallF 3 (C (Str.ofString "_law_draw")) (sArgs [(sVar 0), (sVar 1), (sCon (.int 4))])) (sCon (.int 0)))))) (sSeq (sAsg (sCallB opLst (sArgs [(sCon .none), (sCon (.bool true)), (sCon (.bool false)), (sCon (.int 0)), (sCon (.int 1)), (sUn opNeg (sCon (.int 1))), (sCon (.int 2)), (sCon (.int 3)), (sCon (.int 8)), (sCon (.int 1001)), (sCon (.str (Str.ofString "x"))), (sCallB opTup (sArgs [])), (sCallB opLst (sArgs [])), (sCallB opTup (sArgs [(sCon (.int 1))])), (sCallB opTup (sArgs [(sCon (.int 0))])), (sCallB opTup (sArgs [(sCon (.int 1)), (sCon (.int 2))])), (sCallB opTup (sArgs [(sCon (.int 2)), (sCon (.int 4))])), (sCallB opTup (sArgs [(sCallB opTup (sArgs [(sCon (.int 0)), (sCon (.int 1))]))]))])) (gVar 3)) (sSeq (sIfS (sTest (sUn (opIsi .tuple) (sVar 2))) (sSeq (sAsg (sBin opAdd (sVar 3) (sCallB opLst (sArgs [(sCallB opList (sArgs [(sVar 2)])), (sSlice (sVar 2) none (some (sUn opNeg (sCon (.int 1))))), (sBin opAdd (sVar 2) (sSlice (sVar 2) (some (sUn opNeg (sCon (.int 1)))) none)), (sSlice (sVar 2) (some (sCon (.int 1))) none), (sUn opRev (sVar 2)), (sBin opAdd (sVar 2) (sCallB opTup (sArgs [(sCon .none)])))]))) (gVar 3)) sNext) sNext) (sSeq (sIfS (sTest (sUn (opIsi .int) (sVar 2))) (sSeq (sAsg (sBin opAdd (sVar 3) (sBin opMul (sCallB opLst (sArgs [(sBin opAdd (sVar 2) (sCon (.int 1))), (sBin opSub (sVar 2) (sCon (.int 1))), (sNotV (sVar 2)), (sCallB opTup (sArgs [(sVar 2)])), (sCallB opStr (sArgs [(sVar 2)]))])) (sCon (.int 2)))) (gVar 3)) sNext) sNext) (sSeq (sRet (sCallF 3 (C (Str.ofString "_law_pick")) (sArgs [(sVar 0), (sVar 1), (sVar 3)]))) sNext)))) sNext) (sSeq (sAsg (sCallF 3 (C (Str.ofString "_law_draw")) (sArgs [(sVar 0), (sVar 1), (sCallB opLen (sArgs [(sVar 2)]))])) (gVar 4)) (sSeq (sRet (sBin opAdd (sBin opAdd (sSlice (sVar 2) none (some (sVar 4))) (sCallB opTup (sArgs [(sCallF 3 (C (Str.ofString "_law_bent")) (sArgs [(sVar 0), (sVar 1), (sBin opIx (sVar 2) (sVar 4))]))]))) (sSlice (sVar 2) (some (sBin opAdd (sVar 4) (sCon (.int 1)))) none))) sNext)))
def bend0 : List PyData := [.none, .bool true, .bool false, .int 0, .int 1, .int (-1), .int 2, .int 3, .int 8, .int 1001, .str (Str.ofString "x"), .tuple [], .list [], .tuple [.int 1], .tuple [.int 0], .tuple [.int 1, .int 2], .tuple [.int 2, .int 4], .tuple [.tuple [.int 0, .int 1]]]
end Ev

namespace Ev
open PySem
local macro_rules | `(tactic| dsimp! only [$xs,*]) => `(tactic| simp only [fnSem, leave, sSeq, sRet, sExpr, sNext, sIfS, sAsg, sCell, toCell, sPar, storeAll, storeW, sSetIx, opSet, sVar, sCon, sBin, sUn, sArgs, sCallB, sMeth, sCallF, sTest, sTestB, sNot, sAnd, sOr, sIf, sAndV, sOrV, sNotV, sChain, sSlice, sPart, sFor, sLc, sIter, sIterC, sYes, iterOf, gVar, gTuple, gAll, frz_new, frz_d, frz_ref, frz_scr, isLst, isStr, mbind, mret, mfail, truth, truthB, asSeq, asList, asData, opIsi, isTy, opIsN, opNotN, isNone, allD, opTup, opLst, opLen, List.map_cons, List.map_nil, List.getElem?_cons_zero, List.getElem?_cons_succ, List.set_cons_zero, List.set_cons_succ, List.length_cons, List.length_nil, List.cons_append, List.nil_append, List.replicate, List.take_succ_cons, List.take_zero, List.take_length, Nat.reduceAdd, Nat.reduceSub, Nat.reduceLeDiff, if_true, if_false, ite_true, ite_false, reduceIte, reduceCtorEq, wipeG, Bool.false_eq_true, Bool.not_true, Bool.not_false, sz0, sz1, sz2, sz3, sz4, sz5, sz6, sz7, sz8, $xs,*])
theorem sz18 : (18 ≤ sizeLine) = True := by decide
theorem sz24 : (24 ≤ sizeLine) = True := by decide
theorem sz28 : (28 ≤ sizeLine) = True := by decide
theorem opNeg_ok {a : Int} {st : Store} : opNeg (I a) st = some (.ok (I (-a)), st) := rfl
theorem spec_law_bent {C : Call} {ns : List Int} {k : Nat} (hd : SpecDraw ns (C (Str.ofString "_law_draw"))) (hp : SpecPick ns (C (Str.ofString "_law_pick"))) (hb : ∀ j, k = j + 1 → SpecBent ns j (C (Str.ofString "_law_bent"))) : SpecBent ns k (fnSem 3 5 (F_law_bent C)) := by
  intro x rest n st hx ht hn
  have hz : (100000 : Nat) ≤ sizeLine := by decide
  have plain : ∀ (x : PyData), isTy .tuple x = false → isTy .int x = false → ∃ y st', fnSem 3 5 (F_law_bent C) [.scr ns, .ref 0, .d x] st = some (.ok (.d y), st') ∧ Town rest (n + 4 * (k + 1)) st' := by
    intro x h1 h2
    obtain ⟨y, st', e, _, h3⟩ := hp (.d (.list bend0)) bend0 rest n st (.inl rfl) (by simp [bend0]) ht (by omega)
    refine ⟨y, st', ?_, h3.mono (by omega)⟩
    simp only [bend0] at e
    simp only [F_law_bent, fnSem, leave, sSeq, sRet, sNext, sIfS, sAsg, sVar, sCon, sBin, sUn, sArgs, sCallB, sCallF, sTest, sNot, sOr, gVar, frz, mbind, mret, truth, opIsi, h1, h2, allD, opTup, opLst, opNeg, List.map_cons, List.map_nil, List.getElem?_cons_zero, List.getElem?_cons_succ, List.set_cons_zero, List.set_cons_succ, List.length_cons, List.length_nil, List.cons_append, List.nil_append, List.replicate, Nat.reduceAdd, Nat.reduceSub, if_true, reduceIte, Bool.not_false, sz0, sz1, sz2, sz18, e, ht.len, h3.take, Int.reduceNeg]
  have tup : ∀ (xs : List PyData) (st1 : Store) (m : Nat), xs.length ≤ 1000 → Town rest m st1 → m + 2 ≤ n + 4 * (k + 1) → ∃ y st', C (Str.ofString "_law_pick") [.scr ns, .ref 0, .d (.list (bend0 ++ [.list xs, .tuple (cutG xs none (some (-1))), .tuple (xs ++ cutG xs (some (-1)) none), .tuple (cutG xs (some 1) none), .tuple xs.reverse, .tuple (xs ++ [.none])]))] st1 = some (.ok (.d y), st') ∧ Town rest (n + 4 * (k + 1)) st' := by
    intro xs st1 m hl h1 hm
    obtain ⟨y, st', e, _, h3⟩ := hp (.d (.list (bend0 ++ [.list xs, .tuple (cutG xs none (some (-1))), .tuple (xs ++ cutG xs (some (-1)) none), .tuple (cutG xs (some 1) none), .tuple xs.reverse, .tuple (xs ++ [.none])]))) _ rest m st1 (.inl rfl) (by simp [bend0]) h1 (by omega)
    exact ⟨y, st', e, h3.mono (by omega)⟩
  cases x with
  | none => exact plain _ rfl rfl
  | str s => exact plain _ rfl rfl
  | bool b => cases k <;> simp [bendOk] at hx
  | list b => cases k <;> simp [bendOk] at hx
  | dict b => cases k <;> simp [bendOk] at hx
  | int i =>
    have hi : -1000000 ≤ i ∧ i ≤ 1000000 := by cases k <;> simpa [bendOk] using hx
    have hlog : i.natAbs.log2 < 1920 := Nat.lt_of_lt_of_le (log2_lt (n := 20) (by omega) (by decide)) (by decide)
    obtain ⟨y, st', e, _, h3⟩ := hp (.d (.list (bend0 ++ ([.int (i + 1), .int (i - 1), .bool (!(i != 0)), .tuple [.int i], .str (toString i)] ++ [.int (i + 1), .int (i - 1), .bool (!(i != 0)), .tuple [.int i], .str (toString i)])))) _ rest n st (.inl rfl) (by simp [bend0]) ht (by omega)
    refine ⟨y, st', ?_, h3.mono (by omega)⟩
    simp only [bend0, List.cons_append, List.nil_append] at e
    have hm : (-(2 ^ 63) ≤ (2 : Int) ∧ (2 : Int) < 2 ^ 63 ∧ 5 * 2 ≤ sizeLine) = True := by decide
    have h2 : (2 : Int).toNat = 2 := rfl
    dsimp! only [F_law_bent, opNeg, Int.reduceNeg, opAdd, opSub, opStr, opMul, hlog, hm, h2, List.flatten_cons, List.flatten_nil, List.append_nil, sz18, sz28, e, ht.len, h3.take]
  | tuple xs =>
    cases k with
    | zero => simp [bendOk] at hx
    | succ k =>
      simp only [bendOk, Bool.and_eq_true, decide_eq_true_eq, List.all_eq_true] at hx
      cases xs with
      | nil =>
        obtain ⟨y, st', e, h3⟩ := tup [] st n (by simp) ht (by omega)
        refine ⟨y, st', ?_, h3⟩
        have hc1 : (cutG ([] : List PyData) (some (-1)) none).length ≤ sizeLine := by have := cutG_len ([] : List PyData) (some (-1)) none; simp only [List.length_nil] at this; omega
        simp only [bend0, List.cons_append, List.nil_append] at e
        dsimp! only [F_law_bent, List.isEmpty_nil, opNeg, Int.reduceNeg, opAdd, opList, opSl, opRev, hc1, sz18, sz24, Nat.zero_add, e, ht.len, h3.take]
      | cons a as =>
        obtain ⟨v, st1, e1, v1, v2, h1⟩ := hd 4 rest n st (by decide) ht (by omega)
        by_cases hv : v = 0
        · subst hv
          obtain ⟨y, st', e, h3⟩ := tup (a :: as) st1 (n + 2) hx.1 h1 (by omega)
          refine ⟨y, st', ?_, h3⟩
          have hc1 : as.length + 1 + (cutG (a :: as) (some (-1)) none).length ≤ sizeLine := by have := cutG_len (a :: as) (some (-1)) none; rw [List.length_cons] at this hx; omega
          have hc2 : as.length + 1 + 1 ≤ sizeLine := by rw [List.length_cons] at hx; omega
          simp only [bend0, List.cons_append, List.nil_append] at e
          dsimp! only [F_law_bent, List.isEmpty_cons, e1, opEq, shaped_int, PyData.eqv, beq_self_eq_true, Bool.and_true, opNeg, Int.reduceNeg, opAdd, opList, opSl, opRev, hc1, hc2, sz18, sz24, e, ht.len, h3.take]
        · have hv' : (v == 0) = false := by simpa using hv
          obtain ⟨w, st2, e2, w1, w2, h2⟩ := hd ((a :: as).length : Nat) rest (n + 2) st1 (by rw [List.length_cons]; omega) h1 (by omega)
          obtain ⟨z, ez, hm⟩ := atI_mem w1 w2
          obtain ⟨y, st3, e3, h3⟩ := hb k rfl z rest (n + 2 + 2) st2 (hx.2 z hm) h2 (by omega)
          have c1 : (cutG (a :: as) none (some w)).length + 1 ≤ sizeLine := by have := cutG_len (a :: as) none (some w); omega
          have c2 : (cutG (a :: as) none (some w) ++ [y]).length + (cutG (a :: as) (some (w + 1)) none).length ≤ sizeLine := by
            have := cutG_len (a :: as) none (some w)
            have := cutG_len (a :: as) (some (w + 1)) none
            rw [List.length_append, List.length_singleton]
            omega
          refine ⟨.tuple (cutG (a :: as) none (some w) ++ [y] ++ cutG (a :: as) (some (w + 1)) none), st3, ?_, h3.mono (by omega)⟩
          simp only [List.length_cons] at e2
          dsimp! only [F_law_bent, List.isEmpty_cons, e1, opEq, shaped_int, PyData.eqv, hv', Bool.and_true, e2, opSl, opIx, ez, e3, opAdd, c1, c2, ht.len, h3.take]
end Ev

namespace Ev
open PySem
local macro_rules | `(tactic| dsimp! only [$xs,*]) => `(tactic| simp only [fnSem, leave, sSeq, sRet, sExpr, sNext, sIfS, sAsg, sCell, toCell, sPar, storeAll, storeW, sSetIx, opSet, sVar, sCon, sBin, sUn, sArgs, sCallB, sMeth, sCallF, sTest, sTestB, sNot, sAnd, sOr, sIf, sAndV, sOrV, sNotV, sChain, sSlice, sPart, sFor, sLc, sIter, sIterC, sYes, iterOf, gVar, gTuple, gAll, frz_new, frz_d, frz_ref, frz_scr, isLst, isStr, mbind, mret, mfail, truth, truthB, asSeq, asList, asData, opIsi, isTy, opIsN, opNotN, isNone, allD, opTup, opLst, opLen, List.map_cons, List.map_nil, List.getElem?_cons_zero, List.getElem?_cons_succ, List.set_cons_zero, List.set_cons_succ, List.length_cons, List.length_nil, List.cons_append, List.nil_append, List.replicate, List.take_succ_cons, List.take_zero, List.take_length, Nat.reduceAdd, Nat.reduceSub, Nat.reduceLeDiff, if_true, if_false, ite_true, ite_false, reduceIte, reduceCtorEq, wipeG, Bool.false_eq_true, Bool.not_true, Bool.not_false, sz0, sz1, sz2, sz3, sz4, sz5, sz6, sz7, sz8, $xs,*])
/-! ### cells behind the others -/
section
variable {α : Type} {rest : List α} {a b x : α}
theorem gA : (rest ++ [a, b])[rest.length]? = some a := by simp
theorem gB : (rest ++ [a, b])[rest.length + 1]? = some b := by simp
theorem sA : (rest ++ [a, b]).set rest.length x = rest ++ [x, b] := by simp
theorem sB : (rest ++ [a, b]).set (rest.length + 1) x = rest ++ [a, x] := by simp
theorem gC : (rest ++ [a])[rest.length]? = some a := by simp
theorem sC : (rest ++ [a]).set rest.length x = rest ++ [x] := by simp
end
theorem erase_perm {α : Type} : ∀ {xs : List α} {j : Nat} {y : α}, xs[j]? = some y → (y :: xs.eraseIdx j).Perm xs
  | [], _, _, h => by simp at h
  | x :: xs, 0, y, h => by
    simp at h
    subst h
    exact .refl _
  | x :: xs, j + 1, y, h => by
    simp at h
    rw [List.eraseIdx_cons_succ]
    exact (List.Perm.swap ..).trans ((erase_perm h).cons x)
def SpecMixed (ns : List Int) (F : List W → M W) : Prop := ∀ (w : W) (xs : List PyData) (rest : Store) (n : Nat) (st : Store), SeqW w xs → xs.length ≤ 10000 → Town rest n st → n + 2 * xs.length ≤ lim → ∃ ys st', F [.scr ns, .ref 0, w] st = some (.ok (.new ys), st') ∧ ys.Perm xs ∧ Town rest (n + 2 * xs.length) st'
def F_law_mixed_c1 (C : Str → List Ev.W → Ev.M Ev.W) : Ev.Env → Ev.M Bool := (sTest (sVar 3))
def F_law_mixed_b1 (C : Str → List Ev.W → Ev.M Ev.W) : Ev.Env → Ev.M Out := (sSeq (sExpr (sMeth isLst opAppend (sVar 4) (sArgs [(sMeth isLst opPop (sVar 3) (sArgs [(sCallF 3 (C (Str.ofString "_law_draw")) (sArgs [(sVar 0), (sVar 1), (sCallB opLen (sArgs [(sVar 3)]))]))]))]))) sNext)
def F_law_mixed_l1 (C : Str → List Ev.W → Ev.M Ev.W) : Ev.Env → Ev.M Out := (whileLoop (F_law_mixed_c1 C) (F_law_mixed_b1 C) wFuel)
def F_law_mixed (C : Str → List Ev.W → Ev.M Ev.W) : Ev.Env → Ev.M Out := (sSeq (sPar [(true, 3), (true, 4)] (sArgs [(sCallB opList (sArgs [(sVar 2)])), (sCallB opLst (sArgs []))])) (sSeq (F_law_mixed_l1 C) (sSeq (sRet (sVar 4)) sNext)))
theorem mixed_loop {C : Call} {ns : List Int} (hd : SpecDraw ns (C (Str.ofString "_law_draw"))) (w : Option W) (rest : Store) : ∀ (m : Nat) (A B : List PyData) (n fuel : Nat) (st : Store), A.length = m → m < fuel → B.length + m ≤ 10000 → Town (rest ++ [.lst A, .lst B]) n st → n + 2 * m ≤ lim →
    ∃ B' st', whileLoop (F_law_mixed_c1 C) (F_law_mixed_b1 C) fuel [some (.scr ns), some (.ref 0), w, some (.ref (rest.length + 1)), some (.ref (rest.length + 2))] st = some (.ok (.nx [some (.scr ns), some (.ref 0), w, some (.ref (rest.length + 1)), some (.ref (rest.length + 2))]), st') ∧ B'.Perm (B ++ A) ∧ Town (rest ++ [.lst [], .lst B']) (n + 2 * m) st' := by
  intro m
  induction m with
  | zero =>
    intro A B n fuel st hA hf hB ht hn
    obtain ⟨fuel, rfl⟩ : ∃ j, fuel = j + 1 := ⟨fuel - 1, by omega⟩
    obtain rfl : A = [] := List.length_eq_zero_iff.mp hA
    obtain ⟨t, rfl, h1, h2⟩ := ht
    refine ⟨B, _, ?_, by simp, t, rfl, h1, h2⟩
    rw [whileLoop]
    dsimp! only [F_law_mixed_c1, gA, List.isEmpty_nil]
  | succ m ih =>
    intro A B n fuel st hA hf hB ht hn
    obtain ⟨fuel, rfl⟩ : ∃ j, fuel = j + 1 := ⟨fuel - 1, by omega⟩
    have hz : (100000 : Nat) ≤ sizeLine := by decide
    obtain ⟨v, st1, e, v1, v2, h1⟩ := hd A.length (rest ++ [.lst A, .lst B]) n st (by omega) ht (by omega)
    obtain ⟨t, rfl, _⟩ := ht
    obtain ⟨t1, rfl, k1, k2⟩ := h1
    have hv : v.toNat < A.length := by omega
    have e1 : seqIndex? v A.length = some v.toNat := seqIndex_of v1 v2
    have e2 : A[v.toNat]? = some A[v.toNat] := List.getElem?_eq_getElem hv
    have e3 : (-(2 ^ 63) ≤ v ∧ v < 2 ^ 63) = True := eq_true ⟨by omega, by omega⟩
    have e4 : A.isEmpty = false := by cases A with | nil => simp at hA | cons _ _ => rfl
    have e5 : (B.length < sizeLine) = True := eq_true (by omega)
    have hp := erase_perm e2
    obtain ⟨B', st', g1, g2, g3⟩ := ih (A.eraseIdx v.toNat) (B ++ [A[v.toNat]]) (n + 2) fuel (.lst t1 :: (rest ++ [.lst (A.eraseIdx v.toNat), .lst (B ++ [A[v.toNat]])])) (by rw [List.length_eraseIdx_of_lt hv]; omega) (by omega) (by rw [List.length_append, List.length_singleton]; omega) ⟨t1, rfl, k1, k2⟩ (by omega)
    refine ⟨B', st', ?_, g2.trans ?_, ?_⟩
    · rw [whileLoop, ← g1]
      dsimp! only [F_law_mixed_c1, F_law_mixed_b1, gA, gB, e4, e, opPop, e3, e1, e2, sA, sB, opAppend, e5]
    · rw [List.append_assoc]
      exact (hp.append_left B)
    · have : n + 2 + 2 * m = n + 2 * (m + 1) := by omega
      rw [← this]
      exact g3
theorem spec_law_mixed {C : Call} {ns : List Int} (hd : SpecDraw ns (C (Str.ofString "_law_draw"))) : SpecMixed ns (fnSem 3 5 (F_law_mixed C)) := by
  intro w xs rest n st hw hl ht hn
  obtain ⟨t, rfl, k1, k2⟩ := ht
  obtain ⟨B', st', e, hp, t', rfl, j1, j2⟩ := mixed_loop hd (some w) rest xs.length xs [] n wFuel (.lst t :: (rest ++ [.lst xs, .lst []])) rfl (by unfold wFuel; omega) (by simpa using hl) ⟨t, rfl, k1, k2⟩ hn
  refine ⟨B', .lst t' :: rest, ?_, by simpa using hp, t', rfl, j1, j2⟩
  have e' : F_law_mixed_l1 C [some (.scr ns), some (.ref 0), some w, some (.ref (rest.length + 1)), some (.ref (rest.length + 2))] (.lst t :: (rest ++ [.lst xs, .lst []])) = _ := e
  have hn1 : ¬ (rest.length + 2 < rest.length + 1) := by omega
  have ha : ∀ (x y : Cell), rest ++ [x] ++ [y] = rest ++ [x, y] := fun x y => by simp
  have htk : ∀ (x y : Cell), (rest ++ [x, y]).take rest.length = rest := fun x y => by simp
  rcases hw with rfl | rfl
  · dsimp! only [F_law_mixed, opList, List.length_append, ha, e', hn1, gB, htk]
  · dsimp! only [F_law_mixed, opList, List.length_append, ha, e', hn1, gB, htk]
end Ev

namespace Ev
open PySem
local macro_rules | `(tactic| simp! only [$xs,*]) => `(tactic| simp only [↓run_seq, ↓run_asg, ↓run_next, ↓run_expr, ↓run_retS, ↓run_ifS, ↓run_cell, ↓run_toNew, ↓run_toD, ↓run_toRef, ↓run_par, ↓run_store0, ↓run_storeF, ↓run_storeT, ↓run_setIx, ↓run_ok, ↓run_ret, ↓run_fail, ↓run_none, ↓run_bind, ↓run_var0, ↓run_varS, ↓run_con, ↓run_bin, ↓run_un, ↓run_args0, ↓run_argsS, ↓run_callB, ↓run_meth, ↓run_callF, ↓run_test, ↓run_testB, ↓run_not, ↓run_and, ↓run_or, ↓run_if, ↓run_truthB, ↓run_andV, ↓run_orV, ↓run_notV, ↓run_chain, ↓run_chain3, ↓run_part0, ↓run_part1, ↓run_slice, ↓run_iter, ↓run_iterC, ↓run_add, ↓run_addT, ↓run_addS, ↓run_addLL, ↓run_addNN, ↓run_addLN, ↓run_addNL, ↓run_sub, ↓run_neg, ↓run_mul, ↓run_div, ↓run_mod, ↓run_mulNI, ↓run_mulLI, ↓run_eqI, ↓run_neI, ↓run_eqS, ↓run_lt, ↓run_le, ↓run_gt, ↓run_ge, ↓run_isN, ↓run_notN, ↓run_isi, ↓run_isB, ↓run_notB, ↓run_ltS, ↓run_leS, ↓run_mulTI, ↓run_ix0, ↓run_ix1, ↓run_ix2, ↓run_ix3, ↓run_ix0L, ↓run_ix1L, ↓run_ix0N, ↓run_lenT, ↓run_lenL, ↓run_lenN, ↓run_tupleN, ↓run_tupleL, ↓run_tupleT, ↓run_listT, ↓run_listN, ↓run_listL, ↓run_slT, ↓run_slL, ↓run_slN, ↓run_revT, ↓run_revN, ↓run_revL, ↓run_max2, ↓run_min2, ↓run_rg1, ↓run_rg2, ↓run_trB, ↓run_trI, ↓run_trT, ↓run_trL, ↓run_trN, ↓run_trNone, ↓run_itT, ↓run_itL, ↓run_itN, ↓run_range1, ↓run_range2, ↓run_zipTT, ↓run_enumT, ↓run_enumL, ↓run_enumN, ↓two_t, ↓two_f, ↓outN_nx, ↓outN_ret, ↓outQ_nx, ↓outQ_d, ↓outQ_new, ↓setG_some, ↓asD_d, run_ite, run_ite', gVar, gTuple, gAll, frz_new, frz_d, frz_ref, frz_scr, isLst, isStr, opTup, opLst, allD, isTy, isN_none, isN_int, isN_bool, isN_str, isN_tup, isN_lst, isN_ref, isN_new, wipeG, List.map_cons, List.map_nil, List.set_cons_zero, List.set_cons_succ, List.length_cons, List.length_nil, List.cons_append, List.nil_append, List.replicate, Nat.reduceAdd, Nat.reduceSub, Nat.reduceLeDiff, Nat.reduceEqDiff, Int.reduceEq, reduceCtorEq, Bool.false_eq_true, Bool.not_true, Bool.not_false, ne_eq, not_false_eq_true, not_true_eq_false, true_and, and_true, and_self, sz0, sz1, sz2, sz3, sz4, sz5, sz6, sz7, sz8, sz10, $xs,*])
/-! ### draws, as runs -/
section
variable {ns : List Int} {F : List W → M W} {rest : Store} {n : Nat} {st : Store}
theorem SpecDraw.run (h : SpecDraw ns F) {m : Int} (hm : 0 < m) (ht : Town rest n st) (hn : n + 2 ≤ lim) : Run (F [.scr ns, .ref 0, .d (.int m)] st) (fun w s => ∃ v : Nat, w = .d (.int v) ∧ (v : Int) < m ∧ Town rest (n + 2) s) noE := by
  obtain ⟨v, st', e, h1, h2, h3⟩ := h m rest n st hm ht hn
  exact run_of e ⟨v.toNat, by rw [Int.toNat_of_nonneg h1], by omega, h3⟩
theorem SpecPick.run (h : SpecPick ns F) {w : W} {xs : List PyData} (hw : SeqW w xs) (h0 : xs ≠ []) (ht : Town rest n st) (hn : n + 2 ≤ lim) : Run (F [.scr ns, .ref 0, w] st) (fun w s => ∃ y, w = .d y ∧ y ∈ xs ∧ Town rest (n + 2) s) noE := by
  obtain ⟨y, st', e, h1, h2⟩ := h w xs rest n st hw h0 ht hn
  exact run_of e ⟨y, rfl, h1, h2⟩
theorem SpecMixed.run (h : SpecMixed ns F) {w : W} {xs : List PyData} (hw : SeqW w xs) (hl : xs.length ≤ 10000) (ht : Town rest n st) (hn : n + 2 * xs.length ≤ lim) : Run (F [.scr ns, .ref 0, w] st) (fun w s => ∃ ys, w = .new ys ∧ ys.Perm xs ∧ Town rest (n + 2 * xs.length) s) noE := by
  obtain ⟨y, st', e, h1, h2⟩ := h w xs rest n st hw hl ht hn
  exact run_of e ⟨y, rfl, h1, h2⟩
end
theorem Town.push {rest : Store} {n : Nat} {st : Store} (h : Town rest n st) (c : Cell) : Town (rest ++ [c]) n (st ++ [c]) := by
  obtain ⟨xs, rfl, h1, h2⟩ := h
  exact ⟨xs, rfl, h1, h2⟩
theorem Town.pop {rest more : Store} {n k : Nat} {st : Store} (h : Town (rest ++ more) n st) (hk : k = rest.length + 1) : Town rest n (st.take k) := by
  obtain ⟨xs, rfl, h1, h2⟩ := h
  subst hk
  exact ⟨xs, by simp, h1, h2⟩
theorem Town.keep {rest : Store} {n k : Nat} {st : Store} (h : Town rest n st) (hk : k = rest.length + 1) : Town rest n (st.take k) := by
  rw [h.take hk]
  exact h
theorem Town.get {rest : Store} {n k : Nat} {c : Cell} {st : Store} (h : Town rest n st) (hk : rest[k]? = some c) : st[k + 1]? = some c := by
  obtain ⟨xs, rfl, h1, h2⟩ := h
  simpa using hk
theorem Town.set {rest : Store} {n k : Nat} {c : Cell} {st : Store} (h : Town rest n st) : Town (rest.set k c) n (st.set (k + 1) c) := by
  obtain ⟨xs, rfl, h1, h2⟩ := h
  exact ⟨xs, rfl, h1, h2⟩
theorem app_get {α : Type} {l : List α} {a : α} : (l ++ [a])[l.length]? = some a := by simp
theorem app_set {α : Type} {l : List α} {a b : α} : (l ++ [a]).set l.length b = l ++ [b] := by simp
/-! ### numbers as data -/
abbrev nD (k : Nat) : PyData := .int (k : Int)
def natsD (xs : List Nat) : PyData := .tuple (xs.map nD)
def ranksD (r : List (List Nat)) : PyData := .tuple (r.map natsD)
structure Result where
  gone : List Nat
  ranks : List (List Nat)
def Result.d (r : Result) : PyData := .tuple [natsD r.gone, ranksD r.ranks]
structure Result.Ok (n : Nat) (r : Result) : Prop where
  nd : (r.gone ++ r.ranks.flatten).Nodup
  rg : ∀ x ∈ r.gone ++ r.ranks.flatten, x < n
  ne : ∀ g ∈ r.ranks, g ≠ []
  sg : r.gone.Pairwise (· < ·)
  sr : ∀ g ∈ r.ranks, g.Pairwise (· < ·)
def upN (n : Nat) : List Nat := List.range n
theorem rgD_nat (n : Nat) : rgD 0 n = (List.range n).map nD := by
  unfold rgD
  simp
theorem rgB_nat {n : Nat} (h : n ≤ 1000000) : rgB 0 n = true := by
  unfold rgB inLong
  rw [decide_eq_true (show -(2 ^ 62) ≤ (0 : Int) by decide), decide_eq_true (show (0 : Int) < 2 ^ 62 by decide), decide_eq_true (show -(2 ^ 62) ≤ (n : Int) by omega), decide_eq_true (show (n : Int) < 2 ^ 62 by omega), decide_eq_true (show ((n : Int) - 0).toNat ≤ 16777216 by omega)]
  rfl
theorem rangeItems_nat (n : Nat) : rangeItems 0 (n : Int).toNat = (List.range n).map fun k => W.d (nD k) := by
  unfold rangeItems
  simp
theorem inLong_nat {n : Nat} (h : n ≤ 1000000) : inLong n = true := by
  unfold inLong
  rw [decide_eq_true (show -(2 ^ 62) ≤ (n : Int) by omega), decide_eq_true (show (n : Int) < 2 ^ 62 by omega)]
  rfl
def toN : PyData → Nat
  | .int i => i.toNat
  | _ => 0
theorem perm_nats {ys : List PyData} {l : List Nat} (h : ys.Perm (l.map nD)) : ∃ zs : List Nat, ys = zs.map nD ∧ zs.Perm l := by
  refine ⟨ys.map toN, ?_, ?_⟩
  · rw [List.map_map]
    have : ∀ y ∈ ys, (nD ∘ toN) y = y := by
      intro y hy
      obtain ⟨i, _, rfl⟩ := List.mem_map.mp (h.mem_iff.mp hy)
      simp [toN]
    conv => lhs; rw [← List.map_id ys]
    exact List.map_congr_left fun y hy => (this y hy).symm
  · have := h.map toN
    rw [List.map_map] at this
    have e : l.map (toN ∘ nD) = l := by
      conv => rhs; rw [← List.map_id l]
      apply List.map_congr_left
      intro a _
      simp [toN]
    rw [e] at this
    exact this
/-- sorted, of Nat -/
def nsort (xs : List Nat) : List Nat := (isort (xs.map Int.ofNat)).map Int.toNat
theorem isort_nats (xs : List Nat) : isort (xs.map Int.ofNat) = (nsort xs).map Int.ofNat := by
  unfold nsort
  rw [List.map_map]
  have : ∀ y ∈ isort (xs.map Int.ofNat), (Int.ofNat ∘ Int.toNat) y = y := by
    intro y hy
    obtain ⟨k, _, rfl⟩ := List.mem_map.mp ((isort_perm _).mem_iff.mp hy)
    simp
  conv => lhs; rw [← List.map_id (isort _)]
  exact List.map_congr_left fun y hy => (this y hy).symm
theorem nsort_perm (xs : List Nat) : (nsort xs).Perm xs := by
  have := (isort_perm (xs.map Int.ofNat)).map Int.toNat
  rw [List.map_map] at this
  have e : xs.map (Int.toNat ∘ Int.ofNat) = xs := by
    conv => rhs; rw [← List.map_id xs]
    rfl
  rw [e] at this
  exact this
theorem nsort_le (xs : List Nat) : (nsort xs).Pairwise (· ≤ ·) := by
  have := isort_sorted (xs.map Int.ofNat)
  rw [isort_nats, List.pairwise_map] at this
  exact this.imp fun h => Int.ofNat_le.mp h
theorem nsort_lt {xs : List Nat} (h : xs.Nodup) : (nsort xs).Pairwise (· < ·) := by
  have h1 := nsort_le xs
  have h2 := (nsort_perm xs).nodup_iff.mpr h
  rw [List.nodup_iff_pairwise_ne] at h2
  exact (h1.and h2).imp fun h => Nat.lt_of_le_of_ne h.1 h.2
section
variable {st : Store} {E : EQ} {Q : W → Store → Prop} {xs : List Nat}
theorem asInts_nats : ∀ (ns : List Nat), asInts (ns.map nD) = some (ns.map Int.ofNat)
  | [] => rfl
  | n :: ns => by simp only [List.map_cons, asInts, asInts_nats ns]; rfl
theorem map_nD (xs : List Nat) : (xs.map Int.ofNat).map PyData.int = xs.map nD := by rw [List.map_map]; rfl
theorem run_sortN : Run (opSorted [.new (xs.map nD)] st) Q E = Q (.new ((nsort xs).map nD)) st := by
  rw [← map_nD xs, run_sorted, isort_nats, map_nD]
end
theorem cutG_to {α : Type} (xs : List α) (k : Nat) : cutG xs none (some (k : Int)) = xs.take k := by
  unfold cutG
  rw [HT.sIx_none, Nat.sub_zero, List.drop_zero, HT.sIx_nat]
  by_cases hj : k ≤ xs.length
  · rw [Nat.min_eq_left hj]
  · rw [Nat.min_eq_right (by omega), List.take_length, List.take_of_length_le (by omega)]
theorem cutG_at {α : Type} (xs : List α) (k : Nat) : cutG xs (some (k : Int)) none = xs.drop k := by
  unfold cutG
  rw [HT.sIx_none, HT.sIx_nat]
  by_cases hj : k ≤ xs.length
  · rw [Nat.min_eq_left hj, List.take_of_length_le (by rw [List.length_drop]; omega)]
  · rw [Nat.min_eq_right (by omega), List.drop_of_length_le (Nat.le_refl _), List.drop_of_length_le (by omega)]
    simp
/-- places behind the first -/
theorem get_app {α : Type} {a b : α} {l : List α} {k : Nat} (h : k = l.length) : (a :: (l ++ [b]))[k + 1]? = some b := by subst h; simp
theorem set_app {α : Type} {a b c : α} {l : List α} {k : Nat} (h : k = l.length) : (a :: (l ++ [b])).set (k + 1) c = a :: (l ++ [c]) := by subst h; simp
def SpecDrawnResult (ns : List Int) (F : List W → M W) : Prop := ∀ (ps : List PyData) (x y : PyData) (rest : Store) (n : Nat) (st : Store), ps.length ≤ 1000 → Town rest n st → n + (4 * ps.length + 8) ≤ lim →
  Run (F [.scr ns, .ref 0, .d (.tuple [.tuple ps, x, y])] st) (fun w s => ∃ r : Result, w = .d r.d ∧ r.Ok ps.length ∧ Town rest (n + (4 * ps.length + 8)) s) noE
def F_law_drawn_result_t106 (C : Str → List Ev.W → Ev.M Ev.W) : Ev.Env → Ev.M Out := (sSeq (sRet (sCallB opTup (sArgs [(sCallB opTuple (sArgs [(sVar 5)])), (sCallB opTuple (sArgs [(sVar 6)]))]))) sNext)
def F_law_drawn_result_c2 (C : Str → List Ev.W → Ev.M Ev.W) : Ev.Env → Ev.M Bool := (sTest (sVar 3))
def F_law_drawn_result_b2 (C : Str → List Ev.W → Ev.M Ev.W) : Ev.Env → Ev.M Out := (sSeq (sAsg (sCallF 3 (C (Str.ofString "_law_pick")) (sArgs [(sVar 0), (sVar 1), (sCallB opLst (sArgs [(sCon (.int 1)), (sCon (.int 1)), (sCon (.int 1)), (sCon (.int 2)), (sCon (.int 3))]))])) (gVar 7)) (sSeq (sExpr (sMeth isLst opAppend (sVar 6) (sArgs [(sCallB opTuple (sArgs [(sCallB opSorted (sArgs [(sSlice (sVar 3) none (some (sVar 7)))]))]))]))) (sSeq (sAsg (sSlice (sVar 3) (some (sVar 7)) none) (gVar 3)) sNext)))
def F_law_drawn_result_l2 (C : Str → List Ev.W → Ev.M Ev.W) : Ev.Env → Ev.M Out := (whileLoop (F_law_drawn_result_c2 C) (F_law_drawn_result_b2 C) wFuel)
def F_law_drawn_result_t105 (C : Str → List Ev.W → Ev.M Ev.W) : Ev.Env → Ev.M Out := (sSeq (F_law_drawn_result_l2 C) (F_law_drawn_result_t106 C))
def F_law_drawn_result_t104 (C : Str → List Ev.W → Ev.M Ev.W) : Ev.Env → Ev.M Out := (sSeq (sCell 6 (sCallB opLst (sArgs []))) (F_law_drawn_result_t105 C))
def F_law_drawn_result_t103 (C : Str → List Ev.W → Ev.M Ev.W) : Ev.Env → Ev.M Out := (sSeq (sAsg (sSlice (sVar 3) none (some (sCallF 3 (C (Str.ofString "_law_pick")) (sArgs [(sVar 0), (sVar 1), (sCallB opLst (sArgs [(sCallB opLen (sArgs [(sVar 3)])), (sCallB opLen (sArgs [(sVar 3)])), (sCon (.int 1)), (sCon (.int 2)), (sCallF 3 (C (Str.ofString "_law_draw")) (sArgs [(sVar 0), (sVar 1), (sBin opAdd (sCallB opLen (sArgs [(sVar 3)])) (sCon (.int 1)))]))]))])))) (gVar 3)) (F_law_drawn_result_t104 C))
def F_law_drawn_result_t102 (C : Str → List Ev.W → Ev.M Ev.W) : Ev.Env → Ev.M Out := (sSeq (sPar [(false, 5), (false, 3)] (sArgs [(sCallB opSorted (sArgs [(sSlice (sVar 3) none (some (sVar 4)))])), (sSlice (sVar 3) (some (sVar 4)) none)])) (F_law_drawn_result_t103 C))
def F_law_drawn_result_t101 (C : Str → List Ev.W → Ev.M Ev.W) : Ev.Env → Ev.M Out := (sSeq (sAsg (sCallF 3 (C (Str.ofString "_law_pick")) (sArgs [(sVar 0), (sVar 1), (sCallB opLst (sArgs [(sCon (.int 0)), (sCon (.int 0)), (sCon (.int 0)), (sCon (.int 1)), (sCon (.int 1)), (sCon (.int 2)), (sCallB opLen (sArgs [(sVar 3)]))]))])) (gVar 4)) (F_law_drawn_result_t102 C))
def F_law_drawn_result (C : Str → List Ev.W → Ev.M Ev.W) : Ev.Env → Ev.M Out := (sSeq (sAsg (sCallF 3 (C (Str.ofString "_law_mixed")) (sArgs [(sVar 0), (sVar 1), (sUn (opRg1 true) (sCallB opLen (sArgs [(sBin opIx (sVar 2) (sCon (.int 0)))])))])) (gVar 3)) (F_law_drawn_result_t101 C))
theorem spec_law_drawn_result {C : Call} {ns : List Int} (hd : SpecDraw ns (C (Str.ofString "_law_draw"))) (hp : SpecPick ns (C (Str.ofString "_law_pick"))) (hm : SpecMixed ns (C (Str.ofString "_law_mixed"))) : SpecDrawnResult ns (fnSem 3 8 (F_law_drawn_result C)) := by
  intro ps x y rest n st hl ht hn
  have hrg := rgB_nat (n := ps.length) (by omega)
  refine run_fn (by rfl) ?_
  simp! only [F_law_drawn_result, hrg, rgD_nat]
  refine (hm.run (.inl rfl) (by simp; omega) ht (by simp; omega)).to ?_
  rintro _ s1 ⟨ys, rfl, p1, h1⟩
  obtain ⟨zs, rfl, p2⟩ := perm_nats p1
  have hzl : zs.length = ps.length := by rw [p2.length_eq, List.length_range]
  rw [List.length_map, List.length_range] at h1
  simp! only [F_law_drawn_result_t101]
  refine (hp.run (.inl rfl) (by simp) h1 (by omega)).to ?_
  rintro _ s2 ⟨y1, rfl, hy1, h2⟩
  obtain ⟨m, rfl⟩ : ∃ m : Nat, y1 = nD m := by
    simp only [List.mem_cons, List.not_mem_nil, or_false] at hy1
    rcases hy1 with rfl | rfl | rfl | rfl | rfl | rfl | rfl <;> exact ⟨_, rfl⟩
  simp! only [F_law_drawn_result_t102, cutG_to, cutG_at, ← List.map_take, ← List.map_drop, ↓run_sortN]
  simp! only [F_law_drawn_result_t103]
  refine (hd.run (by omega) h2 (by omega)).to ?_
  rintro _ s3 ⟨d, rfl, hd1, h3⟩
  simp! only []
  refine (hp.run (.inl rfl) (by simp) h3 (by omega)).to ?_
  rintro _ s4 ⟨y2, rfl, hy2, h4⟩
  obtain ⟨q, rfl⟩ : ∃ q : Nat, y2 = nD q := by
    simp only [List.mem_cons, List.not_mem_nil, or_false] at hy2
    rcases hy2 with rfl | rfl | rfl | rfl | rfl <;> exact ⟨_, rfl⟩
  simp! only [F_law_drawn_result_t104, cutG_to, ← List.map_take]
  rw [h4.len]
  have h5 := h4.push (.lst [])
  have hlen : ((zs.drop m).take q).length ≤ ps.length := by rw [List.length_take, List.length_drop]; omega
  simp! only [F_law_drawn_result_t105, F_law_drawn_result_l2]
  refine run_while (fun k ρ s => ∃ (us : List Nat) (acc : List (List Nat)) (a7 : Option W), ρ = [some (.scr ns), some (.ref 0), some (.d (.tuple [.tuple ps, x, y])), some (.d (.list (us.map nD))), some (.d (nD m)), some (.d (.list ((nsort (zs.take m)).map nD))), some (.ref (rest.length + 1)), a7] ∧ us.length = k ∧ k ≤ ps.length ∧ (acc.flatten ++ us).Perm ((zs.drop m).take q) ∧ (∀ g ∈ acc, g ≠ [] ∧ g.Pairwise (· ≤ ·)) ∧ acc.length + k ≤ ps.length ∧ Town (rest ++ [.lst (acc.map natsD)]) (n + 2 * ps.length + 6 + 2 * (ps.length - k)) s) ?_ wFuel ((zs.drop m).take q).length _ _ ⟨_, [], _, rfl, rfl, hlen, by simp, by simp, by simpa using hlen, h5.mono (by omega)⟩ (by unfold wFuel; omega)
  rintro k ρ s ⟨us, acc, a7, rfl, rfl, hk, hpm, hac, hal, hT⟩
  simp! only [F_law_drawn_result_c2]
  by_cases hu : us = []
  · subst hu
    simp! only [List.isEmpty_nil, F_law_drawn_result_t106]
    have e := hT.get app_get
    simp! only [opTuple, asList, e]
    rw [ht.len]
    have hperm : (nsort (zs.take m) ++ acc.flatten).Perm (zs.take m ++ (zs.drop m).take q) := (nsort_perm _).append (by simpa using hpm)
    have hsub : (zs.take m ++ (zs.drop m).take q).Sublist zs := by
      conv => rhs; rw [← List.take_append_drop m zs]
      exact (List.Sublist.refl _).append (List.take_sublist ..)
    have hzn : zs.Nodup := p2.nodup_iff.mpr List.nodup_range
    have hnd := hperm.nodup_iff.mpr (hzn.sublist hsub)
    refine ⟨⟨nsort (zs.take m), acc⟩, rfl, ⟨hnd, ?_, fun g hg => (hac g hg).1, ?_, ?_⟩, (hT.pop rfl).mono (by simp; omega)⟩
    · intro v hv
      exact List.mem_range.mp (p2.mem_iff.mp (hsub.subset (hperm.mem_iff.mp hv)))
    · exact nsort_lt (hzn.sublist (List.take_sublist ..))
    · intro g hg
      have h8 := List.nodup_iff_pairwise_ne.mp ((List.nodup_append.mp hnd).2.1.sublist (List.sublist_flatten_of_mem hg))
      exact ((hac g hg).2.and h8).imp fun h => Nat.lt_of_le_of_ne h.1 h.2
  · have e0 : (us.map nD).isEmpty = false := by simpa using hu
    have hup : 0 < us.length := List.length_pos_iff.mpr hu
    simp! only [e0, F_law_drawn_result_b2]
    refine (hp.run (.inl rfl) (by simp) hT (by omega)).to ?_
    rintro _ s6 ⟨y3, rfl, hy3, h6⟩
    obtain ⟨c, rfl, c1⟩ : ∃ c : Nat, y3 = nD c ∧ 0 < c := by
      simp only [List.mem_cons, List.not_mem_nil, or_false] at hy3
      rcases hy3 with rfl | rfl | rfl | rfl | rfl <;> exact ⟨_, rfl, by decide⟩
    have e := h6.get app_get
    simp! only [cutG_to, cutG_at, ← List.map_take, ← List.map_drop, ↓run_sortN, ↓run_append e]
    refine ⟨szk (by rw [List.length_map]; omega), (us.drop c).length, by rw [List.length_drop]; omega, us.drop c, acc ++ [nsort (us.take c)], _, rfl, rfl, by rw [List.length_drop]; omega, ?_, ?_, by rw [List.length_append, List.length_singleton, List.length_drop]; omega, ?_⟩
    · refine List.Perm.trans ?_ hpm
      rw [List.flatten_append, List.flatten_singleton, List.append_assoc]
      refine List.Perm.append_left _ ?_
      conv => rhs; rw [← List.take_append_drop c us]
      exact (nsort_perm _).append_right _
    · intro g hg
      rcases List.mem_append.mp hg with hg | hg
      · exact hac g hg
      · rw [List.mem_singleton.mp hg]
        refine ⟨fun h => ?_, nsort_le _⟩
        have := (nsort_perm (us.take c)).length_eq
        rw [h, List.length_take] at this
        simp at this
        omega
    · have h7 := h6.set (k := rest.length) (c := .lst ((acc.map natsD) ++ [.tuple ((nsort (us.take c)).map nD)]))
      rw [app_set] at h7
      rw [List.map_append]
      exact h7.mono (by rw [List.length_drop]; omega)
end Ev

namespace Ev
open PySem
local macro_rules | `(tactic| simp! only [$xs,*]) => `(tactic| simp only [↓run_seq, ↓run_asg, ↓run_next, ↓run_expr, ↓run_retS, ↓run_ifS, ↓run_cell, ↓run_toNew, ↓run_toD, ↓run_toRef, ↓run_par, ↓run_store0, ↓run_storeF, ↓run_storeT, ↓run_setIx, ↓run_ok, ↓run_ret, ↓run_fail, ↓run_none, ↓run_bind, ↓run_var0, ↓run_varS, ↓run_con, ↓run_bin, ↓run_un, ↓run_args0, ↓run_argsS, ↓run_callB, ↓run_meth, ↓run_callF, ↓run_test, ↓run_testB, ↓run_not, ↓run_and, ↓run_or, ↓run_if, ↓run_truthB, ↓run_andV, ↓run_orV, ↓run_notV, ↓run_chain, ↓run_chain3, ↓run_part0, ↓run_part1, ↓run_slice, ↓run_iter, ↓run_iterC, ↓run_add, ↓run_addT, ↓run_addS, ↓run_addLL, ↓run_addNN, ↓run_addLN, ↓run_addNL, ↓run_sub, ↓run_neg, ↓run_mul, ↓run_div, ↓run_mod, ↓run_mulNI, ↓run_mulLI, ↓run_eqI, ↓run_neI, ↓run_eqS, ↓run_lt, ↓run_le, ↓run_gt, ↓run_ge, ↓run_isN, ↓run_notN, ↓run_isi, ↓run_isB, ↓run_notB, ↓run_ltS, ↓run_leS, ↓run_mulTI, ↓run_ix0, ↓run_ix1, ↓run_ix2, ↓run_ix3, ↓run_ix0L, ↓run_ix1L, ↓run_ix0N, ↓run_lenT, ↓run_lenL, ↓run_lenN, ↓run_tupleN, ↓run_tupleL, ↓run_tupleT, ↓run_listT, ↓run_listN, ↓run_listL, ↓run_slT, ↓run_slL, ↓run_slN, ↓run_revT, ↓run_revN, ↓run_revL, ↓run_max2, ↓run_min2, ↓run_rg1, ↓run_rg2, ↓run_trB, ↓run_trI, ↓run_trT, ↓run_trL, ↓run_trN, ↓run_trNone, ↓run_itT, ↓run_itL, ↓run_itN, ↓run_range1, ↓run_range2, ↓run_zipTT, ↓run_enumT, ↓run_enumL, ↓run_enumN, ↓two_t, ↓two_f, ↓outN_nx, ↓outN_ret, ↓outQ_nx, ↓outQ_d, ↓outQ_new, ↓setG_some, ↓asD_d, run_ite, run_ite', gVar, gTuple, gAll, frz_new, frz_d, frz_ref, frz_scr, isLst, isStr, opTup, opLst, allD, isTy, isN_none, isN_int, isN_bool, isN_str, isN_tup, isN_lst, isN_ref, isN_new, wipeG, List.map_cons, List.map_nil, List.set_cons_zero, List.set_cons_succ, List.length_cons, List.length_nil, List.cons_append, List.nil_append, List.replicate, Nat.reduceAdd, Nat.reduceSub, Nat.reduceLeDiff, Nat.reduceEqDiff, Int.reduceEq, reduceCtorEq, Bool.false_eq_true, Bool.not_true, Bool.not_false, ne_eq, not_false_eq_true, not_true_eq_false, true_and, and_true, and_self, sz0, sz1, sz2, sz3, sz4, sz5, sz6, sz7, sz8, sz10, $xs,*])
/-! ### prices, events -/
structure PriceQ (q : Rat) : Prop where
  pos : 0 < q
  hn : q.num ≤ 1000
  hd : q.den ≤ 1000
theorem PriceQ.n1 {q : Rat} (h : PriceQ q) : 1 ≤ q.num := by
  have := rat_pos.mp h.pos
  omega
theorem PriceQ.d1 {q : Rat} (h : PriceQ q) : 1 ≤ q.den := q.den_pos
theorem Price.q {p : PyData} (h : Price p) : ∃ q, p = frac q ∧ PriceQ q := by
  obtain ⟨a, b, rfl, a1, a2, b1, b2, hg⟩ := h
  have e := frac_quo (a := a) (b := b) (by omega)
  rw [hg] at e
  simp only [Int.natCast_one, Int.ediv_one] at e
  refine ⟨quo a b, e.symm, ?_⟩
  unfold frac at e
  simp only [PyData.tuple.injEq, List.cons.injEq, PyData.int.injEq, and_true] at e
  exact ⟨rat_pos.mpr (by omega), by omega, by omega⟩
theorem PriceQ.p {q : Rat} (h : PriceQ q) : Price (frac q) := by
  have h1 := h.n1
  have h2 := h.d1
  refine ⟨q.num, q.den, rfl, h1, h.hn, by omega, by have := h.hd; omega, ?_⟩
  have := q.reduced
  rwa [Nat.Coprime] at this
structure Event where
  ps : List Rat
  places : Nat
  part : Nat
  deriving Inhabited
def Event.d (e : Event) : PyData := .tuple [.tuple (e.ps.map frac), nD e.places, nD e.part]
structure Event.Ok (most : Nat) (e : Event) : Prop where
  lo : 2 ≤ e.ps.length
  hi : e.ps.length ≤ most
  pr : ∀ p ∈ e.ps, PriceQ p
  p1 : 1 ≤ e.places
  p2 : e.places ≤ 4
  p3 : e.places < e.ps.length
  q1 : 1 ≤ e.part
  q2 : e.part ≤ 5
theorem map_ex {α β : Type} {f : β → α} {P : β → Prop} : ∀ {l : List α}, (∀ x ∈ l, ∃ y, x = f y ∧ P y) → ∃ m : List β, l = m.map f ∧ ∀ y ∈ m, P y
  | [], _ => ⟨[], rfl, by simp⟩
  | a :: l, h => by
    obtain ⟨y, rfl, hy⟩ := h a List.mem_cons_self
    obtain ⟨m, rfl, hm⟩ := map_ex (l := l) fun x hx => h x (List.mem_cons_of_mem _ hx)
    exact ⟨y :: m, rfl, by
      intro z hz
      rcases List.mem_cons.mp hz with rfl | hz
      · exact hy
      · exact hm z hz⟩
section
variable {ns : List Int} {F : List W → M W} {rest : Store} {n : Nat} {st : Store}
theorem SpecDrawnPrice.run (h : SpecDrawnPrice ns F) (ht : Town rest n st) (hn : n + 8 ≤ lim) : Run (F [.scr ns, .ref 0] st) (fun w s => ∃ q, w = .d (frac q) ∧ PriceQ q ∧ Town rest (n + 8) s) noE := by
  obtain ⟨p, st', e, h1, h2⟩ := h rest n st ht hn
  obtain ⟨q, rfl, hq⟩ := h1.q
  exact run_of e ⟨q, rfl, hq, h2⟩
theorem SpecDrawnEvent.run (h : SpecDrawnEvent ns F) {most : Nat} (h1 : 2 ≤ most) (h2 : most ≤ 1000) (ht : Town rest n st) (hn : n + (8 * most + 6) ≤ lim) : Run (F [.scr ns, .ref 0, .d (nD most)] st) (fun w s => ∃ e : Event, w = .d e.d ∧ e.Ok most ∧ Town rest (n + (8 * most + 6)) s) noE := by
  obtain ⟨ps, places, part, st', e, E, h3⟩ := h most rest n st h1 h2 ht hn
  obtain ⟨qs, rfl, hq⟩ := map_ex (f := frac) (P := PriceQ) (l := ps) fun p hp => (E.pr p hp).q
  have l1 := E.lo
  have l2 := E.hi
  have l3 := E.p1
  have l4 := E.p2
  have l5 := E.p3
  have l6 := E.q1
  have l7 := E.q2
  rw [List.length_map] at l1 l2 l5
  refine run_of e ⟨⟨qs, places.toNat, part.toNat⟩, ?_, ⟨l1, l2, hq, ?_, ?_, ?_, ?_, ?_⟩, h3⟩
  · show W.d (.tuple _) = W.d (.tuple _)
    simp only [nD]
    rw [Int.toNat_of_nonneg (by omega), Int.toNat_of_nonneg (by omega)]
  all_goals (show _ ; simp only; omega)
end
theorem SpecSame.eq {n : Nat} {F : List W → M W} (h : SpecSame n F) {x : PyData} (hx : sameOk n x = true) {st : Store} {Q : W → Store → Prop} {E : EQ} : Run (F [.d x, .d x] st) Q E = Q (.d (.bool true)) st := by
  rw [h x hx st, run_ok]
theorem Gives.run {F : List W → M W} {ws : List W} {w : W} (h : Gives F ws w) {st : Store} {Q : W → Store → Prop} {E : EQ} : Run (F ws st) Q E = Q w st := by
  rw [h st, run_ok]
theorem gives_of {F : List W → M W} {ws : List W} {w : W} (h : ∀ st, Run (F ws st) (fun a s => a = w ∧ s = st) noE) : Gives F ws w := fun st => run_eq (h st)
/-! ### who is in a group -/
theorem inD_nats (i : Nat) (g : List Nat) : inD (nD i) (g.map nD) = decide (i ∈ g) := by
  unfold inD
  rw [List.any_map, Bool.eq_iff_iff, List.any_eq_true, decide_eq_true_iff]
  constructor
  · rintro ⟨x, hx, h⟩
    have : ((x : Int) == (i : Int)) = true := h
    have := eq_of_beq this
    have : x = i := by omega
    rwa [← this]
  · intro h
    exact ⟨i, h, (beq_self_eq_true (i : Int) : _)⟩
theorem flat_nats (g : List Nat) : (g.map nD).all flatD = true := by simp [flatD]
section
variable {st : Store} {E : EQ} {Q : W → Store → Prop} {i : Nat} {g : List Nat}
theorem run_inNats {w : W} (hw : asSeq w st = some (g.map nD)) : Run (opIn (.d (nD i)) w st) Q E = Q (.d (.bool (decide (i ∈ g)))) st := by
  simp only [opIn, opInB, asData, hw, flatD, flat_nats, inD_nats, Bool.and_true, if_true, Bool.false_eq_true, if_false, run_ok]
theorem run_niNats {w : W} (hw : asSeq w st = some (g.map nD)) : Run (opNotIn (.d (nD i)) w st) Q E = Q (.d (.bool (!decide (i ∈ g)))) st := by
  simp only [opNotIn, opInB, asData, hw, flatD, flat_nats, inD_nats, Bool.and_true, if_true, Bool.false_eq_true, if_false, run_ok]
theorem run_inT : Run (opIn (.d (.int (i : Int))) (.d (.tuple (g.map nD))) st) Q E = Q (.d (.bool (decide (i ∈ g)))) st := run_inNats rfl
theorem run_niT : Run (opNotIn (.d (.int (i : Int))) (.d (.tuple (g.map nD))) st) Q E = Q (.d (.bool (!decide (i ∈ g)))) st := run_niNats rfl
theorem run_inL : Run (opIn (.d (.int (i : Int))) (.d (.list (g.map nD))) st) Q E = Q (.d (.bool (decide (i ∈ g)))) st := run_inNats rfl
theorem run_niL : Run (opNotIn (.d (.int (i : Int))) (.d (.list (g.map nD))) st) Q E = Q (.d (.bool (!decide (i ∈ g)))) st := run_niNats rfl
theorem run_inN : Run (opIn (.d (.int (i : Int))) (.new (g.map nD)) st) Q E = Q (.d (.bool (decide (i ∈ g)))) st := run_inNats rfl
end
/-! ### shares of places -/
def winQ (ranks : List (List Nat)) (i : Nat) : Rat := match ranks with
  | [] => 0
  | g :: _ => if i ∈ g then quo 1 g.length else 0
def placeQ (places : Nat) : List (List Nat) → Nat → Nat → Rat
  | [], _, _ => 0
  | g :: gs, ahead, i => if i ∈ g then quo (min (places - ahead) g.length : Nat) g.length else placeQ places gs (ahead + g.length) i
def Ranked (n : Nat) (ranks : List (List Nat)) : Prop := (∀ g ∈ ranks, g ≠ []) ∧ ranks.flatten.length ≤ n
theorem Ranked.len {n : Nat} {ranks : List (List Nat)} (h : Ranked n ranks) : ∀ g ∈ ranks, 0 < g.length ∧ g.length ≤ n := by
  intro g hg
  refine ⟨List.length_pos_iff.mpr (h.1 g hg), Nat.le_trans ?_ h.2⟩
  exact (List.sublist_flatten_of_mem hg).length_le
theorem ranked_len {n : Nat} : ∀ {ranks : List (List Nat)}, Ranked n ranks → ranks.length ≤ n := by
  intro ranks h
  have : ∀ rs : List (List Nat), (∀ g ∈ rs, g ≠ []) → rs.length ≤ rs.flatten.length := by
    intro rs
    induction rs with
    | nil => simp
    | cons g gs ih =>
      intro hg
      have h1 := List.length_pos_iff.mpr (hg g List.mem_cons_self)
      have h2 := ih fun x hx => hg x (List.mem_cons_of_mem _ hx)
      rw [List.length_cons, List.flatten_cons, List.length_append]
      omega
  exact Nat.le_trans (this ranks h.1) h.2
theorem Result.Ok.ranked {n : Nat} {r : Result} (h : r.Ok n) : Ranked n r.ranks := by
  refine ⟨h.ne, ?_⟩
  have h1 : r.ranks.flatten.Nodup := (List.nodup_append.mp h.nd).2.1
  have h2 : r.ranks.flatten ⊆ List.range n := fun x hx => List.mem_range.mpr (h.rg x (List.mem_append_right _ hx))
  have := h1.length_le_of_subset h2
  simpa using this
def SpecWin (F : List W → M W) : Prop := ∀ (gone : PyData) (ranks : List (List Nat)) (i : Nat), Ranked 1000 ranks → Gives F [.d (.tuple [gone, ranksD ranks]), .d (nD i)] (.d (frac (winQ ranks i)))
def SpecPlace (F : List W → M W) : Prop := ∀ (ps : PyData) (places : Nat) (x gone : PyData) (ranks : List (List Nat)) (i : Nat), Ranked 1000 ranks → Gives F [.d (.tuple [ps, nD places, x]), .d (.tuple [gone, ranksD ranks]), .d (nD i)] (.d (frac (placeQ places ranks 0 i)))
theorem frac_zero : frac 0 = .tuple [.int 0, .int 1] := (rfl)
theorem frac_one : frac 1 = .tuple [.int 1, .int 1] := (rfl)
theorem gcd1 (k : Int) : Int.gcd 1 k = 1 := by simp [Int.gcd]
theorem frac_unit {k : Nat} (h : 0 < k) : frac (quo 1 k) = .tuple [.int 1, .int k] := by
  rw [frac_quo (by omega), gcd1]
  simp
def F_win_share (C : Str → List Ev.W → Ev.M Ev.W) : Ev.Env → Ev.M Out := (sSeq (sAsg (sBin opIx (sVar 0) (sCon (.int 1))) (gVar 2)) (sSeq (sIfS (sOr (sNot (sTest (sVar 2))) (sTestB (sBin opNotIn (sVar 1) (sBin opIx (sVar 2) (sCon (.int 0)))))) (sSeq (sRet (sCallB opTup (sArgs [(sCon (.int 0)), (sCon (.int 1))]))) sNext) sNext) (sSeq (sRet (sCallB opTup (sArgs [(sCon (.int 1)), (sCallB opLen (sArgs [(sBin opIx (sVar 2) (sCon (.int 0)))]))]))) sNext)))
theorem spec_win_share (C : Call) : SpecWin (fnSem 2 3 (F_win_share C)) := by
  intro gone ranks i hr
  refine gives_of fun st => run_fn (by rfl) ?_
  cases ranks with
  | nil => simp! only [F_win_share, ranksD, List.isEmpty_nil, List.take_length, winQ, frac_zero]
  | cons g gs =>
    have hg := hr.len g List.mem_cons_self
    simp! only [F_win_share, ranksD, natsD, List.isEmpty_cons, ↓run_niT]
    by_cases h : i ∈ g
    · simp! only [h, decide_true, List.take_length, winQ, if_true, frac_unit hg.1, List.length_map]
    · simp! only [h, decide_false, List.take_length, winQ, if_false, frac_zero]
def SpecFirst (F : List W → M W) : Prop := SpecWin F
def F_law_first_share (C : Str → List Ev.W → Ev.M Ev.W) : Ev.Env → Ev.M Out := (sSeq (sAsg (sCallB opList (sArgs [(sSlice (sBin opIx (sVar 0) (sCon (.int 1))) none (some (sCon (.int 1))))])) (gVar 2)) (sSeq (sRet (sIf (sAnd (sTest (sVar 2)) (sTestB (sBin opIn (sVar 1) (sBin opIx (sVar 2) (sCon (.int 0)))))) (sCallB opTup (sArgs [(sCon (.int 1)), (sCallB opLen (sArgs [(sBin opIx (sVar 2) (sCon (.int 0)))]))])) (sCallB opTup (sArgs [(sCon (.int 0)), (sCon (.int 1))])))) sNext))
theorem spec_law_first_share (C : Call) : SpecFirst (fnSem 2 3 (F_law_first_share C)) := by
  intro gone ranks i hr
  refine gives_of fun st => run_fn (by rfl) ?_
  have e1 : (1 : Int) = ((1 : Nat) : Int) := rfl
  cases ranks with
  | nil => simp! only [F_law_first_share, ranksD, List.isEmpty_nil, List.take_length, winQ, frac_zero, show cutG ([] : List PyData) none (some 1) = [] from rfl]
  | cons g gs =>
    have hg := hr.len g List.mem_cons_self
    have e : cutG (natsD g :: gs.map natsD) none (some 1) = [natsD g] := cutG_to _ 1
    simp! only [F_law_first_share, ranksD, e, List.isEmpty_cons]
    simp! only [natsD, ↓run_inT]
    by_cases h : i ∈ g
    · simp! only [h, decide_true, List.take_length, winQ, if_true, frac_unit hg.1, List.length_map, ite_true]
    · simp! only [h, decide_false, List.take_length, winQ, if_false, frac_zero]
def F_place_share_b1 (C : Str → List Ev.W → Ev.M Ev.W) : Ev.Env → Ev.M Out := (sSeq (sIfS (sTestB (sBin opIn (sVar 2) (sVar 4))) (sSeq (sRet (sCallF 2 (C (Str.ofString "lowest")) (sArgs [(sCallB opMax (sArgs [(sCon (.int 0)), (sCallB opMin (sArgs [(sBin opSub (sBin opIx (sVar 0) (sCon (.int 1))) (sVar 3)), (sCallB opLen (sArgs [(sVar 4)]))]))])), (sCallB opLen (sArgs [(sVar 4)]))]))) sNext) sNext) (sSeq (sAsg (sBin opAdd (sVar 3) (sCallB opLen (sArgs [(sVar 4)]))) (gVar 3)) sNext))
def F_place_share_l1 (C : Str → List Ev.W → Ev.M Ev.W) : Ev.Env → Ev.M Out := (sFor (sIter (sBin opIx (sVar 1) (sCon (.int 1)))) (gVar 4) (F_place_share_b1 C))
def F_place_share (C : Str → List Ev.W → Ev.M Ev.W) : Ev.Env → Ev.M Out := (sSeq (sAsg (sCon (.int 0)) (gVar 3)) (sSeq (F_place_share_l1 C) (sSeq (sRet (sCallB opTup (sArgs [(sCon (.int 0)), (sCon (.int 1))]))) sNext)))
theorem max0 (a b l : Nat) : (if (if (l : Int) < (a : Int) - (b : Int) then (l : Int) else (a : Int) - (b : Int)) > 0 then (if (l : Int) < (a : Int) - (b : Int) then (l : Int) else (a : Int) - (b : Int)) else 0) = ((min (a - b) l : Nat) : Int) := by
  split <;> split at * <;> omega
theorem placeQ_in {places ahead i : Nat} {g : List Nat} {gs : List (List Nat)} (h : i ∈ g) : placeQ places (g :: gs) ahead i = quo (min (places - ahead) g.length : Nat) g.length := by
  simp only [placeQ, h, if_true]
theorem placeQ_out {places ahead i : Nat} {g : List Nat} {gs : List (List Nat)} (h : ¬ i ∈ g) : placeQ places (g :: gs) ahead i = placeQ places gs (ahead + g.length) i := by
  simp only [placeQ, h, if_false]
theorem pow8 {k : Nat} (h : k ≤ 1000000) : (k : Int) < 2 ^ 8000 := Int.lt_of_lt_of_le (show (k : Int) < 2 ^ 20 by omega) (by decide +kernel)
theorem spec_place_share {C : Call} (hl : SpecLow (C (Str.ofString "lowest"))) : SpecPlace (fnSem 3 5 (F_place_share C)) := by
  intro ps places x gone ranks i hr
  refine gives_of fun st => run_fn (by rfl) ?_
  simp! only [F_place_share, F_place_share_l1]
  refine run_for (emb := fun g => W.d (natsD g)) (L := []) ranks (fun done ρ s => s = st ∧ (∃ a4, ρ = [some (.d (.tuple [ps, nD places, x])), some (.d (.tuple [gone, ranksD ranks])), some (.d (nD i)), some (.d (nD done.flatten.length)), a4]) ∧ ∀ rest, ranks = done ++ rest → placeQ places ranks 0 i = placeQ places rest done.flatten.length i) ?_ (fun _ _ _ _ => rfl) ⟨rfl, ⟨_, rfl⟩, fun r e => by simp at e; rw [e]; rfl⟩ ?_ ?_
  · simp! only [ranksD, List.map_map]
    rfl
  · rintro done g rest ρ s e ⟨rfl, ⟨a4, rfl⟩, hq⟩
    have hg := hr.len g (by rw [e]; simp)
    have hq := hq _ e
    simp! only [F_place_share_b1, natsD, ↓run_inT]
    by_cases h : i ∈ g
    · rw [placeQ_in h] at hq
      simp! only [h, decide_true, List.length_map, max0]
      rw [(hl _ _ (by omega) (pow8 (by omega))).run]
      simp! only [List.take_length]
      rw [hq]
    · simp! only [h, decide_false, List.length_map]
      refine ⟨⟨_, by simp only [List.flatten_append, List.flatten_singleton, List.length_append, nD, Int.natCast_add]; rfl⟩, fun r e2 => ?_⟩
      · have : r = rest := by
          rw [e, List.append_assoc] at e2
          simpa using e2.symm
        subst this
        rw [hq, placeQ_out h]
        simp
  · rintro ρ s ⟨rfl, ⟨a4, rfl⟩, hq⟩
    have hq := hq [] (by simp)
    rw [hq]
    simp! only [List.take_length, placeQ, frac_zero]
theorem filter_below (D P n : Nat) : ((List.range n).filter fun (k : Nat) => decide ((D : Int) + k < P)).length = min (P - D) n := by
  induction n with
  | zero => simp
  | succ n ih =>
    rw [List.range_succ, List.filter_append, List.length_append, ih, List.filter_cons, List.filter_nil]
    by_cases h : (D : Int) + n < P
    · rw [decide_eq_true h]
      simp
      omega
    · rw [decide_eq_false h]
      simp
      omega
def SpecPaid (F : List W → M W) : Prop := SpecPlace F
def F_law_paid_share_c2 (C : Str → List Ev.W → Ev.M Ev.W) : Ev.Env → Ev.M Bool := (sTestB (sBin opLt (sVar 6) (sBin opIx (sVar 0) (sCon (.int 1)))))
def F_law_paid_share_b2 (C : Str → List Ev.W → Ev.M Ev.W) : Ev.Env → Ev.M Ev.W := (sVar 6)
def F_law_paid_share_l2 (C : Str → List Ev.W → Ev.M Ev.W) : Ev.Env → Ev.M Ev.W := (sLc (sIterC opRange2 (sArgs [(sVar 3), (sBin opAdd (sVar 3) (sCallB opLen (sArgs [(sVar 4)])))])) [6] (gVar 6) (F_law_paid_share_c2 C) (F_law_paid_share_b2 C))
def F_law_paid_share_b1 (C : Str → List Ev.W → Ev.M Ev.W) : Ev.Env → Ev.M Out := (sSeq (sAsg (F_law_paid_share_l2 C) (gVar 5)) (sSeq (sIfS (sTestB (sBin opIn (sVar 2) (sVar 4))) (sSeq (sRet (sCallF 2 (C (Str.ofString "_law_low")) (sArgs [(sCallB opLen (sArgs [(sVar 5)])), (sCallB opLen (sArgs [(sVar 4)]))]))) sNext) sNext) (sSeq (sAsg (sBin opAdd (sVar 3) (sCallB opLen (sArgs [(sVar 4)]))) (gVar 3)) sNext)))
def F_law_paid_share_l1 (C : Str → List Ev.W → Ev.M Ev.W) : Ev.Env → Ev.M Out := (sFor (sIter (sBin opIx (sVar 1) (sCon (.int 1)))) (gVar 4) (F_law_paid_share_b1 C))
def F_law_paid_share (C : Str → List Ev.W → Ev.M Ev.W) : Ev.Env → Ev.M Out := (sSeq (sAsg (sCon (.int 0)) (gVar 3)) (sSeq (F_law_paid_share_l1 C) (sSeq (sRet (sCallB opTup (sArgs [(sCon (.int 0)), (sCon (.int 1))]))) sNext)))
theorem spec_law_paid_share {C : Call} (hl : SpecLow (C (Str.ofString "_law_low"))) : SpecPaid (fnSem 3 7 (F_law_paid_share C)) := by
  intro ps places x gone ranks i hr
  refine gives_of fun st => run_fn (by rfl) ?_
  simp! only [F_law_paid_share, F_law_paid_share_l1]
  refine run_for (emb := fun g => W.d (natsD g)) (L := []) ranks (fun done ρ s => s = st ∧ (∃ a4 a5 a6, ρ = [some (.d (.tuple [ps, nD places, x])), some (.d (.tuple [gone, ranksD ranks])), some (.d (nD i)), some (.d (nD done.flatten.length)), a4, a5, a6]) ∧ done.flatten.length ≤ 1000 ∧ ∀ rest, ranks = done ++ rest → placeQ places ranks 0 i = placeQ places rest done.flatten.length i) ?_ (fun _ _ _ _ => rfl) ⟨rfl, ⟨_, _, _, rfl⟩, by simp, fun r e => by simp at e; rw [e]; rfl⟩ ?_ ?_
  · simp! only [ranksD, List.map_map]
    rfl
  · rintro done g rest ρ s e ⟨rfl, ⟨a4, a5, a6, rfl⟩, hk, hq⟩
    have hg := hr.len g (by rw [e]; simp)
    have hq := hq _ e
    have hfl : done.flatten.length + g.length ≤ 1000 := by
      have := hr.2
      rw [e] at this
      simp at this ⊢
      omega
    generalize hD : done.flatten.length = D at *
    simp! only [F_law_paid_share_b1, natsD, F_law_paid_share_l2]
    refine run_filter (L := []) (emb := fun (k : Nat) => W.d (.int ((D : Int) + k))) (List.range g.length) (fun k => decide ((D : Int) + k < places)) (fun k => .int ((D : Int) + k)) ?_ (szl (by rw [List.length_range]; omega)) rfl ?_ ?_
    · simp! only [List.length_map, inLong_nat (show D ≤ 1000000 by omega)]
      have e2 : (D : Int) + g.length = ((D + g.length : Nat) : Int) := by omega
      have e3 : (inLong ((D : Int) + g.length) = true) = True := eq_true (by rw [e2]; exact inLong_nat (by omega))
      simp only [e3, true_and]
      unfold rangeItems
      rw [show ((D : Int) + g.length - D).toNat = g.length by omega]
    · intro k hk
      simp! only [F_law_paid_share_c2, F_law_paid_share_b2]
      exact fun _ => trivial
    · simp! only [↓run_inT]
      by_cases h : i ∈ g
      · rw [placeQ_in h] at hq
        simp! only [h, decide_true, List.length_map, filter_below]
        rw [(hl _ _ (by omega) (pow8 (by omega))).run]
        simp! only [List.take_length]
        rw [hq]
      · simp! only [h, decide_false, List.length_map]
        refine ⟨⟨_, _, _, by simp only [List.flatten_append, List.flatten_singleton, List.length_append, nD, Int.natCast_add, hD]; rfl⟩, ?_, fun r e2 => ?_⟩
        · simpa [hD] using hfl
        · have : r = rest := by
            rw [e, List.append_assoc] at e2
            simpa using e2.symm
          subst this
          rw [hq, placeQ_out h]
          simp [hD]
  · rintro ρ s ⟨rfl, ⟨a4, a5, a6, rfl⟩, _, hq⟩
    have hq := hq [] (by simp)
    rw [hq]
    simp! only [List.take_length, placeQ, frac_zero]
end Ev

namespace Ev
open PySem
local macro_rules | `(tactic| simp! only [$xs,*]) => `(tactic| simp only [↓run_seq, ↓run_asg, ↓run_next, ↓run_expr, ↓run_retS, ↓run_ifS, ↓run_cell, ↓run_toNew, ↓run_toD, ↓run_toRef, ↓run_par, ↓run_store0, ↓run_storeF, ↓run_storeT, ↓run_setIx, ↓run_ok, ↓run_ret, ↓run_fail, ↓run_none, ↓run_bind, ↓run_var0, ↓run_varS, ↓run_con, ↓run_bin, ↓run_un, ↓run_args0, ↓run_argsS, ↓run_callB, ↓run_meth, ↓run_callF, ↓run_test, ↓run_testB, ↓run_not, ↓run_and, ↓run_or, ↓run_if, ↓run_truthB, ↓run_andV, ↓run_orV, ↓run_notV, ↓run_chain, ↓run_chain3, ↓run_part0, ↓run_part1, ↓run_slice, ↓run_iter, ↓run_iterC, ↓run_add, ↓run_addT, ↓run_addS, ↓run_addLL, ↓run_addNN, ↓run_addLN, ↓run_addNL, ↓run_sub, ↓run_neg, ↓run_mul, ↓run_div, ↓run_mod, ↓run_mulNI, ↓run_mulLI, ↓run_eqI, ↓run_neI, ↓run_eqS, ↓run_lt, ↓run_le, ↓run_gt, ↓run_ge, ↓run_isN, ↓run_notN, ↓run_isi, ↓run_isB, ↓run_notB, ↓run_ltS, ↓run_leS, ↓run_mulTI, ↓run_ix0, ↓run_ix1, ↓run_ix2, ↓run_ix3, ↓run_ix0L, ↓run_ix1L, ↓run_ix0N, ↓run_lenT, ↓run_lenL, ↓run_lenN, ↓run_tupleN, ↓run_tupleL, ↓run_tupleT, ↓run_listT, ↓run_listN, ↓run_listL, ↓run_slT, ↓run_slL, ↓run_slN, ↓run_revT, ↓run_revN, ↓run_revL, ↓run_max2, ↓run_min2, ↓run_rg1, ↓run_rg2, ↓run_trB, ↓run_trI, ↓run_trT, ↓run_trL, ↓run_trN, ↓run_trNone, ↓run_itT, ↓run_itL, ↓run_itN, ↓run_range1, ↓run_range2, ↓run_zipTT, ↓run_enumT, ↓run_enumL, ↓run_enumN, ↓two_t, ↓two_f, ↓outN_nx, ↓outN_ret, ↓outQ_nx, ↓outQ_d, ↓outQ_new, ↓setG_some, ↓asD_d, run_ite, run_ite', gVar, gTuple, gAll, frz_new, frz_d, frz_ref, frz_scr, isLst, isStr, opTup, opLst, allD, isTy, isN_none, isN_int, isN_bool, isN_str, isN_tup, isN_lst, isN_ref, isN_new, wipeG, List.map_cons, List.map_nil, List.set_cons_zero, List.set_cons_succ, List.length_cons, List.length_nil, List.cons_append, List.nil_append, List.replicate, Nat.reduceAdd, Nat.reduceSub, Nat.reduceLeDiff, Nat.reduceEqDiff, Int.reduceEq, reduceCtorEq, Bool.false_eq_true, Bool.not_true, Bool.not_false, ne_eq, not_false_eq_true, not_true_eq_false, true_and, and_true, and_self, sz0, sz1, sz2, sz3, sz4, sz5, sz6, sz7, sz8, sz10, $xs,*])
/-! ### rows that are walked -/
def LstW (st : Store) (w : W) (xs : List PyData) : Prop := w = .d (.list xs) ∨ w = .d (.tuple xs) ∨ ∃ i, w = .ref i ∧ st[i]? = some (.lst xs)
theorem sameL_of : ∀ {xs : List PyData}, (∀ x ∈ xs, sameD x x = true) → sameL xs xs = true
  | [], _ => rfl
  | x :: xs, h => by
    rw [sameL, h x List.mem_cons_self, sameL_of fun y hy => h y (List.mem_cons_of_mem _ hy)]
    rfl
theorem same_int (i : Int) : sameD (.int i) (.int i) = true := by simp [sameD]
theorem same_bool (i : Bool) : sameD (.bool i) (.bool i) = true := by simp [sameD]
theorem same_str (i : Str) : sameD (.str i) (.str i) = true := by simp [sameD]
theorem same_none : sameD .none .none = true := by simp [sameD]
theorem same_tuple {xs : List PyData} (h : ∀ x ∈ xs, sameD x x = true) : sameD (.tuple xs) (.tuple xs) = true := by rw [sameD]; exact sameL_of h
theorem same_frac (x : Rat) : sameD (frac x) (frac x) = true := same_tuple (by simp [same_int])
theorem sameL_fracs (xs : List Rat) : sameL (xs.map frac) (xs.map frac) = true := sameL_of fun y hy => by obtain ⟨x, _, rfl⟩ := List.mem_map.mp hy; exact same_frac x
theorem LstW.iter {st : Store} {w : W} {xs : List PyData} (h : LstW st w xs) (hp : sameL xs xs = true) : ∃ L, locksB L st = true ∧ ∀ {Q : Iter → Store → Prop} {E : EQ}, Run (iterOf w st) Q E = Q ⟨xs.map .d, L⟩ st := by
  rcases h with rfl | rfl | ⟨i, rfl, hi⟩
  · exact ⟨[], rfl, fun {Q E} => run_itL⟩
  · exact ⟨[], rfl, fun {Q E} => run_itT⟩
  · refine ⟨[(i, xs)], ?_, fun {Q E} => ?_⟩
    · simp only [locksB, hi, hp, Bool.and_true]
    · simp only [iterOf, hi, run_ok]
theorem LstW.mk {st : Store} {xs : List PyData} : LstW st (.d (.list xs)) xs := .inl rfl
theorem LstW.tup {st : Store} {xs : List PyData} : LstW st (.d (.tuple xs)) xs := .inr (.inl rfl)
theorem LstW.ref {st : Store} {i : Nat} {xs : List PyData} (h : st[i]? = some (.lst xs)) : LstW st (.ref i) xs := .inr (.inr ⟨i, rfl, h⟩)
/-! ### sums -/
theorem rsum_sum (xs : List Rat) : rsum xs = xs.sum := by
  have key : ∀ (xs : List Rat) (a : Rat), xs.foldl (· + ·) a = a + xs.sum := by
    intro xs
    induction xs with
    | nil => intro a; simp [Rat.add_zero]
    | cons x xs ih =>
      intro a
      rw [List.foldl_cons, ih, List.sum_cons, Rat.add_assoc]
  unfold rsum
  rw [key, Rat.zero_add]
def SpecSum (F : List W → M W) : Prop := ∀ (s : Nat) (xs : List Rat) (w : W) (st : Store), LstW st w (xs.map frac) → (∀ x ∈ xs, Small s x) → s * xs.length ≤ 7900 → xs.length ≤ 7900 → F [w] st = some (.ok (.d (frac (rsum xs))), st)
theorem spec_sum {C : Call} (hl : SpecLow (C (Str.ofString "_law_low"))) : SpecSum (fnSem 1 4 (F_law_summed C)) := by
  intro s xs w st hw hx hs hz
  refine run_eq (run_fn (by rfl) ?_)
  obtain ⟨L, hL, hit⟩ := hw.iter (sameL_fracs xs)
  have hmul : ∀ {n : Nat}, n < xs.length → s * n + s ≤ 7900 := by
    intro n h
    have := Nat.mul_le_mul_left s (show n + 1 ≤ xs.length from h)
    rw [Nat.mul_succ] at this
    omega
  simp! only [F_law_summed, F_law_summed_l1]
  refine run_for (emb := fun x => W.d (frac x)) (L := L) xs (fun done ρ s' => s' = st ∧ ∃ (a b : Int) (r : Option W), ρ = [some w, some (.d (.int a)), some (.d (.int b)), r] ∧ 0 < b ∧ quo a b = rsum done ∧ b.natAbs < 2 ^ (s * done.length + 1) ∧ a.natAbs < 2 ^ ((s + 1) * done.length + 1)) ?_ (fun _ _ _ h => by rw [h.1]; exact hL) ⟨rfl, 0, 1, _, rfl, by decide, quo_self 0, by simp, by simp⟩ ?_ ?_
  · simp! only [↓hit, List.map_map]
    rfl
  · rintro done x rest ρ s' e ⟨rfl, a, b, r, rfl, hb, hq, hB, hA⟩
    have hlen := hmul (prefix_len e)
    have hlen2 := prefix_len e
    have hxs := hx x (prefix_mem e).1
    have hd := den_pos' x
    have dn := den_natAbs hxs
    have m1 := Small.mulOk hA dn (by rw [Nat.add_mul]; omega) (by omega)
    have m2 := Small.mulOk hxs.1 hB (by omega) (by omega)
    have m3 := Small.mulOk hB dn (by omega) (by omega)
    simp! only [F_law_summed_b1, frac, m1, m2, m3]
    refine ⟨_, _, _, rfl, Int.mul_pos hb hd, ?_, ?_, ?_⟩
    · rw [rsum_snoc, ← hq, ← quo_self x, quo_add' hb hd, quo_self]
    · have := natAbs_mul_lt hB dn
      rw [List.length_append, List.length_singleton, Nat.mul_succ]
      exact pow_up this (by omega)
    · have h1 := natAbs_mul_lt hA dn
      have h2 := natAbs_mul_lt hxs.1 hB
      rw [List.length_append, List.length_singleton, Nat.mul_succ]
      refine pow_up (natAbs_add_lt (n := (s + 1) * done.length + 1 + s) h1 (pow_up h2 ?_)) (by omega)
      rw [Nat.add_mul]
      omega
  · rintro ρ s' ⟨rfl, a, b, r, rfl, hb, hq, hB, hA⟩
    simp! only []
    rw [(hl a b hb (int_lt hB (by omega))).run]
    simp! only [List.take_length, hq]
end Ev

namespace Ev
open PySem
section
variable {α : Type} {l : List α} {a b x : α}
theorem ap2_get1 : (l ++ [a] ++ [b])[l.length]? = some a := by simp
theorem ap2_get2 : (l ++ [a] ++ [b])[l.length + 1]? = some b := by simp
theorem ap2_set1 : (l ++ [a] ++ [b]).set l.length x = l ++ [x] ++ [b] := by simp
theorem ap2_set2 : (l ++ [a] ++ [b]).set (l.length + 1) x = l ++ [a] ++ [x] := by simp
end
/-- fractions side by side -/
theorem frac_lt (x y : Rat) : decide (x.num * y.den < y.num * x.den) = decide (x < y) := by rw [decide_eq_decide]; exact (Rat.lt_iff x y).symm
theorem frac_nat (k : Nat) : frac (k : Rat) = .tuple [.int k, .int 1] := (rfl)
/-! ### data that can be compared -/
def Shp (k : Nat) (x : PyData) : Prop := PyData.canLay0 x = true ∧ PyData.depth x ≤ k
theorem Shp.mono {k m : Nat} {x : PyData} (h : Shp k x) (hm : k ≤ m) : Shp m x := ⟨h.1, Nat.le_trans h.2 hm⟩
theorem Shp.int {i : Int} : Shp 0 (.int i) := ⟨by simp [PyData.canLay0], by simp [PyData.depth]⟩
theorem Shp.bool {i : Bool} : Shp 0 (.bool i) := ⟨by simp [PyData.canLay0], by simp [PyData.depth]⟩
theorem Shp.none : Shp 0 .none := ⟨by simp [PyData.canLay0], by simp [PyData.depth]⟩
theorem Shp.str {s : Str} (h : PyData.strOk s = true) : Shp 0 (.str s) := ⟨by simpa [PyData.canLay0] using h, by simp [PyData.depth]⟩
theorem Shp.all {k : Nat} : ∀ {xs : List PyData}, (∀ x ∈ xs, Shp k x) → PyData.canLayAll0 xs = true ∧ PyData.depthAll xs ≤ k
  | [], _ => ⟨by simp [PyData.canLayAll0], by simp [PyData.depthAll]⟩
  | x :: xs, h => by
    have h1 := h x List.mem_cons_self
    have h2 := Shp.all fun y hy => h y (List.mem_cons_of_mem _ hy)
    simp only [PyData.canLayAll0, PyData.depthAll]
    exact ⟨by rw [h1.1, h2.1]; rfl, Nat.max_le.mpr ⟨h1.2, h2.2⟩⟩
theorem Shp.tuple {k : Nat} {xs : List PyData} (h : ∀ x ∈ xs, Shp k x) : Shp (k + 1) (.tuple xs) := by
  have := Shp.all h
  exact ⟨by simpa [PyData.canLay0] using this.1, by simpa [PyData.depth] using this.2⟩
theorem Shp.list {k : Nat} {xs : List PyData} (h : ∀ x ∈ xs, Shp k x) : Shp (k + 1) (.list xs) := by
  have := Shp.all h
  exact ⟨by simpa [PyData.canLay0] using this.1, by simpa [PyData.depth] using this.2⟩
theorem Shp.shaped {k : Nat} {x : PyData} (h : Shp k x) (hk : k ≤ 63 := by decide) : SeqAt.shaped x = true := by
  unfold SeqAt.shaped
  rw [h.1, decide_eq_true (Nat.le_trans h.2 (Nat.le_trans hk (by decide)))]
  rfl
theorem Shp.eqv {k : Nat} {x : PyData} (h : Shp k x) : PyData.eqv x x = true := SeqAt.eqv_refl x h.1
theorem Shp.map {α : Type} {k : Nat} {f : α → PyData} {xs : List α} (h : ∀ x ∈ xs, Shp k (f x)) : ∀ y ∈ xs.map f, Shp k y := by
  intro y hy
  obtain ⟨x, hx, rfl⟩ := List.mem_map.mp hy
  exact h x hx
theorem Shp.frac {x : Rat} : Shp 1 (frac x) := Shp.tuple (by simp [Shp.int])
theorem Shp.nats {g : List Nat} : Shp 1 (natsD g) := Shp.tuple (Shp.map fun _ _ => Shp.int)
section
variable {st : Store} {E : EQ} {Q : W → Store → Prop}
theorem run_eqF {x y : Rat} : Run (opEq (.d (frac x)) (.d (frac y)) st) Q E = Q (.d (.bool (decide (x = y)))) st := by
  rw [run_eqD, Shp.frac.shaped, Shp.frac.shaped]
  have : PyData.eqv (frac x) (frac y) = decide (x = y) := by
    show ((x.num == y.num) && (((x.den : Int) == (y.den : Int)) && true)) = _
    by_cases h : x = y
    · subst h; simp
    · rw [decide_eq_false h]
      by_cases h1 : x.num = y.num
      · by_cases h2 : x.den = y.den
        · exact absurd (Rat.ext h1 h2) h
        · have : ((x.den : Int) == (y.den : Int)) = false := by rw [beq_eq_false_iff_ne]; omega
          rw [this]; simp
      · have : (x.num == y.num) = false := by rw [beq_eq_false_iff_ne]; exact h1
        rw [this]; rfl
  rw [this]
  simp
theorem run_neF {x y : Rat} : Run (opNe (.d (frac x)) (.d (frac y)) st) Q E = Q (.d (.bool (!decide (x = y)))) st := by
  have h1 := run_eqF (x := x) (y := y) (st := st) (E := E) (Q := fun w s => ∃ b, w = .d (.bool b) ∧ Q (.d (.bool (!b))) s)
  rw [run_eqD] at h1
  rw [run_neD]
  simp only [Shp.frac.shaped, Bool.and_true, true_and, W.d.injEq, PyData.bool.injEq, exists_eq_left'] at h1 ⊢
  exact h1
end
/-! ### plain: sums -/
theorem sum_perm {xs ys : List Rat} (h : xs.Perm ys) : xs.sum = ys.sum := by
  induction h with
  | nil => rfl
  | cons x _ ih => rw [List.sum_cons, List.sum_cons, ih]
  | swap x y l => simp only [List.sum_cons]; rw [← Rat.add_assoc, ← Rat.add_assoc, Rat.add_comm x y]
  | trans _ _ h1 h2 => exact h1.trans h2
theorem sum_zero {xs : List Rat} (h : ∀ x ∈ xs, x = 0) : xs.sum = 0 := by
  induction xs with
  | nil => rfl
  | cons x xs ih =>
    rw [List.sum_cons, h x List.mem_cons_self, ih fun y hy => h y (List.mem_cons_of_mem _ hy), Rat.add_zero]
theorem sum_app (xs ys : List Rat) : (xs ++ ys).sum = xs.sum + ys.sum := by
  induction xs with
  | nil => simp [Rat.zero_add]
  | cons x xs ih => rw [List.cons_append, List.sum_cons, List.sum_cons, ih, Rat.add_assoc]
theorem sum_const {α : Type} {c : Rat} : ∀ (xs : List α), (xs.map fun _ => c).sum = xs.length * c
  | [] => by simp [Rat.zero_mul]
  | x :: xs => by
    rw [List.map_cons, List.sum_cons, sum_const xs, List.length_cons]
    rw [Rat.natCast_add]
    have : ((1 : Nat) : Rat) = 1 := rfl
    grind
theorem sum_sub {n : Nat} {l : List Nat} {f : Nat → Rat} (hn : l.Nodup) (hl : ∀ x ∈ l, x < n) (h0 : ∀ i, i < n → i ∉ l → f i = 0) : ((List.range n).map f).sum = (l.map f).sum := by
  have h1 : ((List.range n).filter (fun i => decide (i ∈ l))).Perm l := by
    rw [List.perm_ext_iff_of_nodup (List.nodup_range.filter _) hn]
    intro a
    rw [List.mem_filter, List.mem_range, decide_eq_true_iff]
    exact ⟨fun h => h.2, fun h => ⟨hl a h, h⟩⟩
  have h2 := List.filter_append_perm (fun i => decide (i ∈ l)) (List.range n)
  rw [← sum_perm (h2.map f), List.map_append, sum_app, sum_perm (h1.map f)]
  rw [sum_zero (xs := ((List.range n).filter fun i => !decide (i ∈ l)).map f), Rat.add_zero]
  intro x hx
  obtain ⟨i, hi, rfl⟩ := List.mem_map.mp hx
  rw [List.mem_filter, List.mem_range] at hi
  exact h0 i hi.1 (by simpa using hi.2)
theorem sum_map_congr {α : Type} {f g : α → Rat} {l : List α} (h : ∀ x ∈ l, f x = g x) : (l.map f).sum = (l.map g).sum := by rw [List.map_congr_left h]
theorem quo_nat_mul {a b : Nat} (h : 0 < b) : (b : Rat) * quo a b = a := by
  unfold quo
  have : (b : Rat) ≠ 0 := Rat.ne_of_gt (Rat.natCast_pos.mpr h)
  rw [Rat.intCast_natCast, Rat.intCast_natCast]
  grind
/-! ### plain: shares of places come to as many as are paid -/
theorem win_sum {n : Nat} {r : Result} (h : r.Ok n) : ((List.range n).map fun i => winQ r.ranks i).sum = ((min r.ranks.flatten.length 1 : Nat) : Rat) := by
  obtain ⟨gone, ranks⟩ := r
  cases ranks with
  | nil =>
    rw [sum_zero (by simp [winQ])]
    simp
  | cons g gs =>
    have hg : 0 < g.length := List.length_pos_iff.mpr (h.ne g (by simp))
    have hnd : g.Nodup := by
      have h1 := (List.nodup_append.mp h.nd).2.1
      rw [List.flatten_cons] at h1
      exact (List.nodup_append.mp h1).1
    rw [sum_sub (l := g) hnd (fun x hx => h.rg x (by simp [hx])) (fun i _ hi => by simp [winQ, hi])]
    rw [sum_map_congr (g := fun _ => quo 1 g.length) (fun x hx => by simp [winQ, hx]), sum_const]
    have := quo_nat_mul (a := 1) hg
    rw [show ((1 : Nat) : Int) = 1 from rfl] at this
    rw [this]
    congr 1
    simp
    omega
theorem place_sum {places : Nat} : ∀ (ranks : List (List Nat)) (ahead : Nat), ranks.flatten.Nodup → (∀ g ∈ ranks, g ≠ []) → (ranks.flatten.map fun i => placeQ places ranks ahead i).sum = ((min (places - ahead) ranks.flatten.length : Nat) : Rat)
  | [], _, _, _ => by simp
  | g :: gs, ahead, hnd, hne => by
    have hg : 0 < g.length := List.length_pos_iff.mpr (hne g (by simp))
    rw [List.flatten_cons] at hnd
    obtain ⟨h1, h2, h3⟩ := List.nodup_append.mp hnd
    rw [List.flatten_cons, List.map_append, sum_app]
    rw [sum_map_congr (g := fun _ => quo (min (places - ahead) g.length : Nat) g.length) (l := g) (fun x hx => placeQ_in hx), sum_const, quo_nat_mul hg]
    rw [sum_map_congr (g := fun i => placeQ places gs (ahead + g.length) i) (l := gs.flatten) (fun x hx => placeQ_out fun hx' => h3 x hx' x hx rfl)]
    rw [place_sum gs _ h2 fun x hx => hne x (List.mem_cons_of_mem _ hx), ← Rat.natCast_add]
    congr 1
    rw [List.length_append]
    omega
theorem placeQ_none {places i : Nat} : ∀ (ranks : List (List Nat)) (ahead : Nat), i ∉ ranks.flatten → placeQ places ranks ahead i = 0
  | [], _, _ => rfl
  | g :: gs, ahead, h => by
    rw [List.flatten_cons, List.mem_append] at h
    rw [placeQ_out fun h' => h (.inl h'), placeQ_none gs _ fun h' => h (.inr h')]
theorem places_sum {n places : Nat} {r : Result} (h : r.Ok n) : ((List.range n).map fun i => placeQ places r.ranks 0 i).sum = ((min places r.ranks.flatten.length : Nat) : Rat) := by
  rw [sum_sub (l := r.ranks.flatten) (List.nodup_append.mp h.nd).2.1 (fun x hx => h.rg x (List.mem_append_right _ hx)) fun i _ hi => placeQ_none _ _ hi]
  rw [place_sum _ _ (List.nodup_append.mp h.nd).2.1 h.ne]
  simp
theorem quo_le_one {a b : Nat} (hb : 0 < b) (h : a ≤ b) : quo a b ≤ 1 := by
  rw [quo, Rat.intCast_natCast, Rat.intCast_natCast]
  have hb' : (0 : Rat) < b := Rat.natCast_pos.mpr hb
  rw [← Rat.not_lt, Rat.lt_div_iff hb', Rat.one_mul, Rat.not_lt]
  exact Rat.natCast_le_natCast.mpr h
theorem quo_nonneg {a b : Nat} : 0 ≤ quo a b := by
  unfold quo
  rw [Rat.intCast_natCast, Rat.intCast_natCast, Rat.div_def]
  refine Rat.mul_nonneg Rat.natCast_nonneg ?_
  rw [← Rat.not_lt]
  intro h
  have h2 : (0 : Rat) ≤ b := Rat.natCast_nonneg
  by_cases h3 : (b : Rat) = 0
  · rw [h3] at h
    have : (0 : Rat)⁻¹ = 0 := by grind
    grind
  · have := Rat.inv_pos.mpr (Rat.lt_of_le_of_ne h2 (Ne.symm h3))
    grind
theorem placeQ_le {places : Nat} : ∀ (ranks : List (List Nat)) (ahead i : Nat), (∀ g ∈ ranks, g ≠ []) → 0 ≤ placeQ places ranks ahead i ∧ placeQ places ranks ahead i ≤ 1 ∧ (places ≤ ahead → placeQ places ranks ahead i = 0)
  | [], _, _, _ => ⟨Rat.le_refl, (by decide : (0 : Rat) ≤ 1), fun _ => rfl⟩
  | g :: gs, ahead, i, hne => by
    have hg : 0 < g.length := List.length_pos_iff.mpr (hne g (by simp))
    by_cases h : i ∈ g
    · rw [placeQ_in h]
      refine ⟨quo_nonneg, quo_le_one hg (by omega), fun hp => ?_⟩
      rw [show min (places - ahead) g.length = 0 by omega]
      simp [quo, Rat.div_def, Rat.zero_mul]
    · rw [placeQ_out h]
      have := placeQ_le (places := places) gs (ahead + g.length) i fun x hx => hne x (List.mem_cons_of_mem _ hx)
      exact ⟨this.1, this.2.1, fun hp => this.2.2 (by omega)⟩
theorem place_best {places x i : Nat} {g : List Nat} {gs : List (List Nat)} (hx : x ∈ g) (hne : ∀ h ∈ g :: gs, h ≠ []) : placeQ places (g :: gs) 0 i ≤ placeQ places (g :: gs) 0 x := by
  have hg : 0 < g.length := List.length_pos_iff.mpr (hne g (by simp))
  rw [placeQ_in hx]
  by_cases h : i ∈ g
  · rw [placeQ_in h]; exact Rat.le_refl
  · have h0 := placeQ_le (places := places) gs (0 + g.length) i fun x hx => hne x (List.mem_cons_of_mem _ hx)
    rw [placeQ_out h]
    by_cases hp : places ≤ g.length
    · rw [h0.2.2 (by omega)]
      exact quo_nonneg
    · rw [show min (places - 0) g.length = g.length by omega]
      refine Rat.le_trans h0.2.1 ?_
      have := quo_nat_mul (a := g.length) hg
      have hb' : (0 : Rat) < g.length := Rat.natCast_pos.mpr hg
      have : quo g.length g.length = 1 := by grind
      rw [this]
      exact Rat.le_refl
theorem small_zero {k : Nat} (h : 1 ≤ k) : Small k 0 := small0.mono h
theorem winQ_small {n k : Nat} {ranks : List (List Nat)} (h : Ranked n ranks) (hn : n < 2 ^ k) (hk : 1 ≤ k) (i : Nat) : Small k (winQ ranks i) := by
  cases ranks with
  | nil => exact small_zero hk
  | cons g gs =>
    have hg := h.len g List.mem_cons_self
    unfold winQ
    simp only
    split
    · refine quo_small (by omega) (by simp; omega) (by simp; omega)
    · exact small_zero hk
theorem placeQ_small {n k places : Nat} (hn : n < 2 ^ k) (hk : 1 ≤ k) (i : Nat) : ∀ (ranks : List (List Nat)) (ahead : Nat), Ranked n ranks → Small k (placeQ places ranks ahead i)
  | [], _, _ => small_zero hk
  | g :: gs, ahead, h => by
    have hg := h.len g List.mem_cons_self
    by_cases hi : i ∈ g
    · rw [placeQ_in hi]
      exact quo_small (by omega) (by simp; omega) (by simp; omega)
    · rw [placeQ_out hi]
      refine placeQ_small hn hk i gs _ ⟨fun x hx => h.1 x (List.mem_cons_of_mem _ hx), ?_⟩
      have := h.2
      rw [List.flatten_cons, List.length_append] at this
      omega
theorem sum_lens (ranks : List (List Nat)) : (ranks.map fun g => (g.length : Int)).sum = (ranks.flatten.length : Nat) := by
  induction ranks with
  | nil => rfl
  | cons g gs ih =>
    rw [List.map_cons, List.sum_cons, ih, List.flatten_cons, List.length_append]
    omega
theorem min_cast (a b : Nat) : (if (b : Int) < (a : Int) then (b : Int) else (a : Int)) = ((min a b : Nat) : Int) := by
  split <;> omega
end Ev

namespace Ev
open PySem
local macro_rules | `(tactic| simp! only [$xs,*]) => `(tactic| simp only [↓run_seq, ↓run_asg, ↓run_next, ↓run_expr, ↓run_retS, ↓run_ifS, ↓run_cell, ↓run_toNew, ↓run_toD, ↓run_toRef, ↓run_par, ↓run_store0, ↓run_storeF, ↓run_storeT, ↓run_setIx, ↓run_ok, ↓run_ret, ↓run_fail, ↓run_none, ↓run_bind, ↓run_var0, ↓run_varS, ↓run_con, ↓run_bin, ↓run_un, ↓run_args0, ↓run_argsS, ↓run_callB, ↓run_meth, ↓run_callF, ↓run_test, ↓run_testB, ↓run_not, ↓run_and, ↓run_or, ↓run_if, ↓run_truthB, ↓run_andV, ↓run_orV, ↓run_notV, ↓run_chain, ↓run_chain3, ↓run_part0, ↓run_part1, ↓run_slice, ↓run_iter, ↓run_iterC, ↓run_add, ↓run_addT, ↓run_addS, ↓run_addLL, ↓run_addNN, ↓run_addLN, ↓run_addNL, ↓run_sub, ↓run_neg, ↓run_mul, ↓run_div, ↓run_mod, ↓run_mulNI, ↓run_mulLI, ↓run_eqI, ↓run_neI, ↓run_eqS, ↓run_lt, ↓run_le, ↓run_gt, ↓run_ge, ↓run_isN, ↓run_notN, ↓run_isi, ↓run_isB, ↓run_notB, ↓run_ltS, ↓run_leS, ↓run_mulTI, ↓run_ix0, ↓run_ix1, ↓run_ix2, ↓run_ix3, ↓run_ix0L, ↓run_ix1L, ↓run_ix0N, ↓run_lenT, ↓run_lenL, ↓run_lenN, ↓run_tupleN, ↓run_tupleL, ↓run_tupleT, ↓run_listT, ↓run_listN, ↓run_listL, ↓run_slT, ↓run_slL, ↓run_slN, ↓run_revT, ↓run_revN, ↓run_revL, ↓run_max2, ↓run_min2, ↓run_rg1, ↓run_rg2, ↓run_trB, ↓run_trI, ↓run_trT, ↓run_trL, ↓run_trN, ↓run_trNone, ↓run_itT, ↓run_itL, ↓run_itN, ↓run_range1, ↓run_range2, ↓run_zipTT, ↓run_enumT, ↓run_enumL, ↓run_enumN, ↓two_t, ↓two_f, ↓outN_nx, ↓outN_ret, ↓outQ_nx, ↓outQ_d, ↓outQ_new, ↓setG_some, ↓asD_d, run_ite, run_ite', gVar, gTuple, gAll, frz_new, frz_d, frz_ref, frz_scr, isLst, isStr, opTup, opLst, allD, isTy, isN_none, isN_int, isN_bool, isN_str, isN_tup, isN_lst, isN_ref, isN_new, wipeG, List.map_cons, List.map_nil, List.set_cons_zero, List.set_cons_succ, List.length_cons, List.length_nil, List.cons_append, List.nil_append, List.replicate, Nat.reduceAdd, Nat.reduceSub, Nat.reduceLeDiff, Nat.reduceEqDiff, Int.reduceEq, reduceCtorEq, Bool.false_eq_true, Bool.not_true, Bool.not_false, ne_eq, not_false_eq_true, not_true_eq_false, true_and, and_true, and_self, sz0, sz1, sz2, sz3, sz4, sz5, sz6, sz7, sz8, sz10, $xs,*])
/-! ### rows that are drawn one by one -/
theorem run_draw {α β : Type} {ρ : Env} {st : Store} {E : EQ} {emb : α → W} {it : Env → M Iter} {vs : List Nat} {g : Tg} {f : Env → M W} {Q : W → Store → Prop} {rest : Store} {n c : Nat} {d : β → PyData} {P : β → Prop} (all : List α)
    (hit : Run (it ρ st) (fun I s => I = ⟨all.map emb, []⟩ ∧ s = st) noE) (hz : all.length ≤ sizeLine) (ht : Town rest n st) (hn : n + c * all.length ≤ lim)
    (hs : ∀ a ∈ all, ∀ m s, Town rest m s → m + c ≤ lim → setG (g (emb a) (wipeG ρ vs)) fun ρ1 => Run (f ρ1 s) (fun v s2 => ∃ b, frz v = .d (d b) ∧ P b ∧ Town rest (m + c) s2) noE)
    (he : ∀ (bs : List β) s, bs.length = all.length → (∀ b ∈ bs, P b) → Town rest (n + c * all.length) s → Q (.new (bs.map d)) s) : Run (sLc it vs g sYes f ρ st) Q E := by
  refine run_lc (emb := emb) (L := []) all (fun done acc s => ∃ bs : List β, acc = bs.map d ∧ bs.length = done.length ∧ (∀ b ∈ bs, P b) ∧ Town rest (n + c * done.length) s) hit hz (fun _ _ _ _ => rfl) ⟨[], rfl, rfl, by simp, by simpa using ht⟩ ?_ ?_
  · rintro done a more acc s e ⟨bs, rfl, hl, hb, hT⟩
    have hlen := prefix_len e
    have hmul := Nat.mul_le_mul_left c (show done.length + 1 ≤ all.length from hlen)
    rw [Nat.mul_succ] at hmul
    have := hs a (prefix_mem e).1 _ s hT (by omega)
    cases hg : g (emb a) (wipeG ρ vs) with
    | none => rw [hg] at this; exact this.elim
    | some ρ1 =>
      rw [hg, setG_some] at this
      simp only [setG_some, sYes, run_ret, two_t]
      refine this.toE fun v s2 h => ?_
      obtain ⟨b, h1, h2, h3⟩ := h
      rw [h1]
      refine ⟨bs ++ [b], by simp, by simp [hl], ?_, ?_⟩
      · intro x hx
        rcases List.mem_append.mp hx with hx | hx
        · exact hb x hx
        · rw [List.mem_singleton.mp hx]; exact h2
      · rw [List.length_append, List.length_singleton, Nat.mul_succ, ← Nat.add_assoc]
        exact h3
  · rintro acc s ⟨bs, rfl, hl, hb, hT⟩
    exact he bs s hl hb hT
theorem run_lcI {ρ : Env} {st : Store} {E : EQ} {it : Env → M Iter} {vs : List Nat} {g : Tg} {p : Env → M Bool} {f : Env → M W} {Q : W → Store → Prop} (h : Run (it ρ st) (fun I s => Run (sLc (fun _ => mret I) vs g p f ρ s) Q E) E) : Run (sLc it vs g p f ρ st) Q E := by
  unfold sLc
  rw [run_bind]
  refine h.toE fun I s h => ?_
  unfold sLc at h
  rw [run_bind, run_ret] at h
  exact h
theorem run_forI {ρ : Env} {st : Store} {E : EQ} {it : Env → M Iter} {g : Tg} {body : Env → M Out} {Q : Out → Store → Prop} (h : Run (it ρ st) (fun I s => Run (sFor (fun _ => mret I) g body ρ s) Q E) E) : Run (sFor it g body ρ st) Q E := by
  unfold sFor
  rw [run_bind]
  refine h.toE fun I s h => ?_
  unfold sFor at h
  rw [run_bind, run_ret] at h
  exact h
/-! ### cards, results of a card, legs -/
def cardD (card : List Event) : PyData := .tuple (card.map Event.d)
def optR : Option Result → PyData
  | none => .none
  | some r => r.d
def resultsD (rs : List (Option Result)) : PyData := .tuple (rs.map optR)
def optF : Option Rat → PyData
  | none => .none
  | some x => frac x
structure Leg where
  ev : Nat
  run : Nat
  price : Rat
  deriving Inhabited
def Leg.d (l : Leg) : PyData := .tuple [nD l.ev, nD l.run, frac l.price]
structure Leg.Ok (card : List Event) (l : Leg) : Prop where
  ev : l.ev < card.length
  run : l.run < (card[l.ev]!).ps.length
  price : PriceQ l.price
structure CardOk (events runners : Nat) (card : List Event) : Prop where
  lo : 1 ≤ card.length
  hi : card.length ≤ events
  ok : ∀ e ∈ card, e.Ok runners
structure ResOk (card : List Event) (rs : List (Option Result)) : Prop where
  len : rs.length = card.length
  ok : ∀ (i : Nat) (r : Result), rs[i]? = some (some r) → r.Ok (card[i]!).ps.length
def SpecDrawnCard (ns : List Int) (F : List W → M W) : Prop := ∀ (events runners : Nat) (rest : Store) (n : Nat) (st : Store), 1 ≤ events → events ≤ 100 → 2 ≤ runners → runners ≤ 100 → Town rest n st → n + (2 + (8 * runners + 6) * events) ≤ lim →
  Run (F [.scr ns, .ref 0, .d (nD events), .d (nD runners)] st) (fun w s => ∃ card, w = .d (cardD card) ∧ CardOk events runners card ∧ Town rest (n + (2 + (8 * runners + 6) * events)) s) noE
def F_law_drawn_card_b1 (C : Str → List Ev.W → Ev.M Ev.W) : Ev.Env → Ev.M Ev.W := (sCallF 3 (C (Str.ofString "_law_drawn_event")) (sArgs [(sVar 0), (sVar 1), (sVar 3)]))
def F_law_drawn_card_l1 (C : Str → List Ev.W → Ev.M Ev.W) : Ev.Env → Ev.M Ev.W := (sLc (sIterC opRange1 (sArgs [(sBin opAdd (sCon (.int 1)) (sCallF 3 (C (Str.ofString "_law_draw")) (sArgs [(sVar 0), (sVar 1), (sVar 2)])))])) [4] (gVar 4) sYes (F_law_drawn_card_b1 C))
def F_law_drawn_card (C : Str → List Ev.W → Ev.M Ev.W) : Ev.Env → Ev.M Out := (sSeq (sRet (sCallB opTuple (sArgs [(F_law_drawn_card_l1 C)]))) sNext)
theorem one_plus (k : Nat) : (1 : Int) + (k : Int) = ((k + 1 : Nat) : Int) := by omega
theorem spec_law_drawn_card {C : Call} {ns : List Int} (hd : SpecDraw ns (C (Str.ofString "_law_draw"))) (he : SpecDrawnEvent ns (C (Str.ofString "_law_drawn_event"))) : SpecDrawnCard ns (fnSem 4 5 (F_law_drawn_card C)) := by
  intro events runners rest n st h1 h2 h3 h4 ht hn
  refine run_fn (by rfl) ?_
  simp! only [F_law_drawn_card, F_law_drawn_card_l1]
  refine run_lcI ?_
  simp! only []
  refine (hd.run (by omega) ht (by omega)).to ?_
  rintro _ s1 ⟨v, rfl, hv, hT⟩
  have hm := Nat.mul_le_mul_left (8 * runners + 6) (show v + 1 ≤ events by omega)
  simp! only [one_plus]
  refine ⟨inLong_nat (by omega), ?_⟩
  refine run_draw (emb := fun k => W.d (nD k)) (c := 8 * runners + 6) (d := Event.d) (P := fun e => e.Ok runners) (List.range (v + 1)) ?_ (szl (by simp; omega)) hT (by rw [List.length_range]; omega) ?_ ?_
  · simp! only [rangeItems_nat]
  · intro a ha m s hT hm
    simp! only [F_law_drawn_card_b1]
    refine (he.run h3 (by omega) hT hm).to ?_
    rintro _ s2 ⟨e, rfl, he, h5⟩
    exact ⟨e, rfl, he, h5⟩
  · intro bs s hl hb hT2
    rw [List.length_range] at hl hT2
    simp! only [ht.len]
    exact ⟨bs, rfl, ⟨by omega, by omega, hb⟩, (hT2.keep rfl).mono (by omega)⟩
def SpecDrawnResults (ns : List Int) (F : List W → M W) : Prop := ∀ (card : List Event) (runners least : Nat) (rest : Store) (n : Nat) (st : Store), (∀ e ∈ card, e.Ok runners) → card.length ≤ 100 → runners ≤ 100 → Town rest n st → n + (4 * runners + 10) * card.length ≤ lim →
  Run (F [.scr ns, .ref 0, .d (cardD card), .d (nD least)] st) (fun w s => ∃ rs, w = .d (resultsD rs) ∧ ResOk card rs ∧ (least = 0 → ∀ r ∈ rs, r ≠ none) ∧ Town rest (n + (4 * runners + 10) * card.length) s) noE
def F_law_drawn_results_b1 (C : Str → List Ev.W → Ev.M Ev.W) : Ev.Env → Ev.M Out := (sSeq (sAsg (sBin opGe (sCallF 3 (C (Str.ofString "_law_draw")) (sArgs [(sVar 0), (sVar 1), (sCon (.int 4))])) (sVar 3)) (gVar 6)) (sSeq (sExpr (sMeth isLst opAppend (sVar 4) (sArgs [(sIf (sTest (sVar 6)) (sCallF 3 (C (Str.ofString "_law_drawn_result")) (sArgs [(sVar 0), (sVar 1), (sVar 5)])) (sCon .none))]))) sNext))
def F_law_drawn_results_l1 (C : Str → List Ev.W → Ev.M Ev.W) : Ev.Env → Ev.M Out := (sFor (sIter (sVar 2)) (gVar 5) (F_law_drawn_results_b1 C))
def F_law_drawn_results (C : Str → List Ev.W → Ev.M Ev.W) : Ev.Env → Ev.M Out := (sSeq (sCell 4 (sCallB opLst (sArgs []))) (sSeq (F_law_drawn_results_l1 C) (sSeq (sRet (sCallB opTuple (sArgs [(sVar 4)]))) sNext)))
theorem spec_law_drawn_results {C : Call} {ns : List Int} (hd : SpecDraw ns (C (Str.ofString "_law_draw"))) (hr : SpecDrawnResult ns (C (Str.ofString "_law_drawn_result"))) : SpecDrawnResults ns (fnSem 4 7 (F_law_drawn_results C)) := by
  intro card runners least rest n st hc hl hru ht hn
  refine run_fn (by rfl) ?_
  simp! only [F_law_drawn_results, F_law_drawn_results_l1, ht.len]
  have h0 := ht.push (.lst [])
  refine run_for (emb := fun e => W.d (Event.d e)) (L := []) card (fun done ρ s => ∃ (rs : List (Option Result)) (a5 a6 : Option W), ρ = [some (.scr ns), some (.ref 0), some (.d (cardD card)), some (.d (nD least)), some (.ref (rest.length + 1)), a5, a6] ∧ rs.length = done.length ∧ (∀ (i : Nat) (r : Result), rs[i]? = some (some r) → r.Ok (card[i]!).ps.length) ∧ (least = 0 → ∀ r ∈ rs, r ≠ none) ∧ Town (rest ++ [.lst (rs.map optR)]) (n + (4 * runners + 10) * done.length) s) ?_ (fun _ _ _ _ => rfl) ⟨[], _, _, rfl, rfl, by simp, by simp, h0⟩ ?_ ?_
  · simp! only [cardD, List.map_map]
    rfl
  · rintro done e more ρ s he ⟨rs, a5, a6, rfl, hrl, hro, hr0, hT⟩
    have hlen := prefix_len he
    have hm := Nat.mul_le_mul_left (4 * runners + 10) (show done.length + 1 ≤ card.length from hlen)
    rw [Nat.mul_succ] at hm
    have hE := hc e (prefix_mem he).1
    have hhi := hE.hi
    have hce : card[done.length]! = e := by rw [he]; simp
    simp! only [F_law_drawn_results_b1]
    refine (hd.run (by decide) hT (by omega)).to ?_
    rintro _ s1 ⟨v, rfl, hv, h1⟩
    simp! only []
    refine two_of (fun hb => ?_) (fun hb => ?_)
    · simp only [Event.d]
      refine (hr _ _ _ _ _ _ (by rw [List.length_map]; omega) h1 (by rw [List.length_map]; omega)).to ?_
      rintro _ s2 ⟨r, rfl, R, h2⟩
      rw [List.length_map] at R h2
      have c1 := h2.get app_get
      have h3 := h2.set (k := rest.length) (c := .lst (rs.map optR ++ [r.d]))
      rw [app_set] at h3
      simp! only [↓run_append c1]
      refine ⟨szk (by rw [List.length_map]; omega), rs ++ [some r], _, _, rfl, by simp [hrl], ?_, ?_, ?_⟩
      · intro i r' hi
        by_cases hil : i < rs.length
        · rw [List.getElem?_append_left hil] at hi
          exact hro i r' hi
        · rw [List.getElem?_append_right (by omega)] at hi
          have : i - rs.length = 0 := by
            have := (List.getElem?_eq_some_iff.mp hi).1
            simp at this
            omega
          rw [this] at hi
          simp at hi
          subst hi
          rw [show i = done.length by omega, hce]
          exact R
      · intro h0 x hx
        rcases List.mem_append.mp hx with hx | hx
        · exact hr0 h0 x hx
        · rw [List.mem_singleton.mp hx]; simp
      · rw [List.map_append, List.length_append, List.length_singleton, Nat.mul_succ]
        exact h3.mono (by omega)
    · have c1 := h1.get app_get
      have h3 := h1.set (k := rest.length) (c := .lst (rs.map optR ++ [.none]))
      rw [app_set] at h3
      have hle : least ≠ 0 := by
        rintro rfl
        simp at hb
      simp! only [↓run_append c1]
      refine ⟨szk (by rw [List.length_map]; omega), rs ++ [none], _, _, rfl, by simp [hrl], ?_, fun h => absurd h hle, ?_⟩
      · intro i r' hi
        by_cases hil : i < rs.length
        · rw [List.getElem?_append_left hil] at hi
          exact hro i r' hi
        · rw [List.getElem?_append_right (by omega)] at hi
          have : i - rs.length = 0 := by
            have := (List.getElem?_eq_some_iff.mp hi).1
            simp at this
            omega
          rw [this] at hi
          simp at hi
      · rw [List.map_append, List.length_append, List.length_singleton, Nat.mul_succ]
        exact h3.mono (by omega)
  · rintro ρ s ⟨rs, a5, a6, rfl, hrl, hro, hr0, hT⟩
    have c1 := hT.get app_get
    simp! only [opTuple, asList, c1, ht.len]
    exact ⟨rs, rfl, ⟨hrl, hro⟩, hr0, hT.pop rfl⟩
/-! ### products -/
def pairD (p : Int × Int) : PyData := .tuple [.int p.1, .int p.2]
theorem frac_pair (x : Rat) : frac x = pairD (x.num, x.den) := (rfl)
def pairQ (p : Int × Int) : Rat := quo p.1 p.2
theorem pairQ_frac (x : Rat) : pairQ (x.num, x.den) = x := quo_self x
structure PairOk (s : Nat) (p : Int × Int) : Prop where
  pos : 0 < p.2
  n : p.1.natAbs < 2 ^ s
  d : p.2.natAbs < 2 ^ s
theorem PairOk.frac {s : Nat} {x : Rat} (h : Small s x) : PairOk s (x.num, x.den) := ⟨den_pos' x, h.1, den_natAbs h⟩
def rprod (xs : List Rat) : Rat := xs.foldl (· * ·) 1
theorem rprod_snoc (xs : List Rat) (x : Rat) : rprod (xs ++ [x]) = rprod xs * x := by simp [rprod]
theorem rprod_cons (xs : List Rat) (x : Rat) : rprod (x :: xs) = x * rprod xs := by
  have key : ∀ (xs : List Rat) (a : Rat), xs.foldl (· * ·) a = a * rprod xs := by
    intro xs
    induction xs with
    | nil => intro a; simp [rprod, Rat.mul_one]
    | cons x xs ih =>
      intro a
      rw [List.foldl_cons, ih]
      have : rprod (x :: xs) = x * rprod xs := by
        unfold rprod
        rw [List.foldl_cons, Rat.one_mul]
        exact ih x
      rw [this, Rat.mul_assoc]
  unfold rprod
  rw [List.foldl_cons, Rat.one_mul]
  exact key xs x
theorem sameL_pairs (ps : List (Int × Int)) : sameL (ps.map pairD) (ps.map pairD) = true := sameL_of fun y hy => by obtain ⟨x, _, rfl⟩ := List.mem_map.mp hy; exact same_tuple (by simp [same_int])
theorem quo_mul' {a b c d : Int} (hb : 0 < b) (hd : 0 < d) : quo a b * quo c d = quo (a * c) (b * d) := by
  unfold quo
  have h1 : (b : Rat) ≠ 0 := Rat.ne_of_gt (Rat.intCast_pos.mpr hb)
  have h2 : (d : Rat) ≠ 0 := Rat.ne_of_gt (Rat.intCast_pos.mpr hd)
  rw [Rat.intCast_mul, Rat.intCast_mul]
  grind
def SpecProd (F : List W → M W) : Prop := ∀ (s : Nat) (ps : List (Int × Int)) (w : W) (st : Store), LstW st w (ps.map pairD) → (∀ p ∈ ps, PairOk s p) → s * ps.length ≤ 7900 → F [w] st = some (.ok (.d (frac (rprod (ps.map pairQ)))), st)
def F_law_product_b1 (C : Str → List Ev.W → Ev.M Ev.W) : Ev.Env → Ev.M Out := (sSeq (sPar [(false, 1), (false, 2)] (sArgs [(sBin opMul (sVar 1) (sBin opIx (sVar 3) (sCon (.int 0)))), (sBin opMul (sVar 2) (sBin opIx (sVar 3) (sCon (.int 1))))])) sNext)
def F_law_product_l1 (C : Str → List Ev.W → Ev.M Ev.W) : Ev.Env → Ev.M Out := (sFor (sIter (sVar 0)) (gVar 3) (F_law_product_b1 C))
def F_law_product (C : Str → List Ev.W → Ev.M Ev.W) : Ev.Env → Ev.M Out := (sSeq (sAsg (sCallB opTup (sArgs [(sCon (.int 1)), (sCon (.int 1))])) (gTuple [(gVar 1), (gVar 2)])) (sSeq (F_law_product_l1 C) (sSeq (sRet (sCallF 2 (C (Str.ofString "_law_low")) (sArgs [(sVar 1), (sVar 2)]))) sNext)))
theorem spec_law_product {C : Call} (hl : SpecLow (C (Str.ofString "_law_low"))) : SpecProd (fnSem 1 4 (F_law_product C)) := by
  intro s ps w st hw hx hs
  refine run_eq (run_fn (by rfl) ?_)
  obtain ⟨L, hL, hit⟩ := hw.iter (sameL_pairs ps)
  have hmul : ∀ {n : Nat}, n < ps.length → s * n + s ≤ 7900 := by
    intro n h
    have := Nat.mul_le_mul_left s (show n + 1 ≤ ps.length from h)
    rw [Nat.mul_succ] at this
    omega
  simp! only [F_law_product, F_law_product_l1]
  refine run_for (emb := fun x => W.d (pairD x)) (L := L) ps (fun done ρ s' => s' = st ∧ ∃ (a b : Int) (r : Option W), ρ = [some w, some (.d (.int a)), some (.d (.int b)), r] ∧ 0 < b ∧ quo a b = rprod (done.map pairQ) ∧ b.natAbs < 2 ^ (s * done.length + 1) ∧ a.natAbs < 2 ^ (s * done.length + 1)) ?_ (fun _ _ _ h => by rw [h.1]; exact hL) ⟨rfl, 1, 1, _, rfl, by decide, quo_self 1, by simp, by simp⟩ ?_ ?_
  · simp! only [↓hit, List.map_map]
    rfl
  · rintro done x rest ρ s' e ⟨rfl, a, b, r, rfl, hb, hq, hB, hA⟩
    have hlen := hmul (prefix_len e)
    have hxs := hx x (prefix_mem e).1
    have m1 := Small.mulOk hA hxs.n (by omega) (by omega)
    have m3 := Small.mulOk hB hxs.d (by omega) (by omega)
    simp! only [F_law_product_b1, pairD, m1, m3]
    refine ⟨_, _, _, rfl, Int.mul_pos hb hxs.pos, ?_, ?_, ?_⟩
    · rw [List.map_append, List.map_singleton, rprod_snoc, ← hq, pairQ, quo_mul' hb hxs.pos]
    · have := natAbs_mul_lt hB hxs.d
      rw [List.length_append, List.length_singleton, Nat.mul_succ]
      exact pow_up this (by omega)
    · have := natAbs_mul_lt hA hxs.n
      rw [List.length_append, List.length_singleton, Nat.mul_succ]
      exact pow_up this (by omega)
  · rintro ρ s' ⟨rfl, a, b, r, rfl, hb, hq, hB, hA⟩
    simp! only []
    rw [(hl a b hb (int_lt hB (by omega))).run]
    simp! only [List.take_length, hq]
end Ev

namespace Ev
open PySem
local macro_rules | `(tactic| simp! only [$xs,*]) => `(tactic| simp only [↓run_seq, ↓run_asg, ↓run_next, ↓run_expr, ↓run_retS, ↓run_ifS, ↓run_cell, ↓run_toNew, ↓run_toD, ↓run_toRef, ↓run_par, ↓run_store0, ↓run_storeF, ↓run_storeT, ↓run_setIx, ↓run_ok, ↓run_ret, ↓run_fail, ↓run_none, ↓run_bind, ↓run_var0, ↓run_varS, ↓run_con, ↓run_bin, ↓run_un, ↓run_args0, ↓run_argsS, ↓run_callB, ↓run_meth, ↓run_callF, ↓run_test, ↓run_testB, ↓run_not, ↓run_and, ↓run_or, ↓run_if, ↓run_truthB, ↓run_andV, ↓run_orV, ↓run_notV, ↓run_chain, ↓run_chain3, ↓run_part0, ↓run_part1, ↓run_slice, ↓run_iter, ↓run_iterC, ↓run_add, ↓run_addT, ↓run_addS, ↓run_addLL, ↓run_addNN, ↓run_addLN, ↓run_addNL, ↓run_sub, ↓run_neg, ↓run_mul, ↓run_div, ↓run_mod, ↓run_mulNI, ↓run_mulLI, ↓run_eqI, ↓run_neI, ↓run_eqS, ↓run_lt, ↓run_le, ↓run_gt, ↓run_ge, ↓run_isN, ↓run_notN, ↓run_isi, ↓run_isB, ↓run_notB, ↓run_ltS, ↓run_leS, ↓run_mulTI, ↓run_ix0, ↓run_ix1, ↓run_ix2, ↓run_ix3, ↓run_ix0L, ↓run_ix1L, ↓run_ix0N, ↓run_lenT, ↓run_lenL, ↓run_lenN, ↓run_tupleN, ↓run_tupleL, ↓run_tupleT, ↓run_listT, ↓run_listN, ↓run_listL, ↓run_slT, ↓run_slL, ↓run_slN, ↓run_revT, ↓run_revN, ↓run_revL, ↓run_max2, ↓run_min2, ↓run_rg1, ↓run_rg2, ↓run_trB, ↓run_trI, ↓run_trT, ↓run_trL, ↓run_trN, ↓run_trNone, ↓run_itT, ↓run_itL, ↓run_itN, ↓run_range1, ↓run_range2, ↓run_zipTT, ↓run_enumT, ↓run_enumL, ↓run_enumN, ↓two_t, ↓two_f, ↓outN_nx, ↓outN_ret, ↓outQ_nx, ↓outQ_d, ↓outQ_new, ↓setG_some, ↓asD_d, run_ite, run_ite', gVar, gTuple, gAll, frz_new, frz_d, frz_ref, frz_scr, isLst, isStr, opTup, opLst, allD, isTy, isN_none, isN_int, isN_bool, isN_str, isN_tup, isN_lst, isN_ref, isN_new, wipeG, List.map_cons, List.map_nil, List.set_cons_zero, List.set_cons_succ, List.length_cons, List.length_nil, List.cons_append, List.nil_append, List.replicate, Nat.reduceAdd, Nat.reduceSub, Nat.reduceLeDiff, Nat.reduceEqDiff, Int.reduceEq, reduceCtorEq, Bool.false_eq_true, Bool.not_true, Bool.not_false, ne_eq, not_false_eq_true, not_true_eq_false, true_and, and_true, and_self, sz0, sz1, sz2, sz3, sz4, sz5, sz6, sz7, sz8, sz10, $xs,*])
theorem enum_from {α : Type} [Inhabited α] (d : α → PyData) : ∀ (l : List α) (k : Nat), enumItems k (l.map d) = (List.range l.length).map fun i => W.d (.tuple [nD (k + i), d (l[i]!)])
  | [], k => rfl
  | a :: l, k => by
    rw [List.map_cons, enumItems, enum_from d l (k + 1), List.length_cons, List.range_succ_eq_map, List.map_cons, List.map_map]
    congr 1
    apply List.map_congr_left
    intro i _
    simp only [Function.comp, List.getElem!_cons_succ]
    rw [show k + 1 + i = k + (i + 1) by omega]
theorem enum_eq {α : Type} [Inhabited α] (d : α → PyData) (l : List α) : enumItems 0 (l.map d) = (List.range l.length).map fun i => W.d (.tuple [nD i, d (l[i]!)]) := by
  rw [enum_from]
  simp
/-! ### what a leg brings -/
def backQ (p : Rat) : Rat := p + 1
def placeBackQ (p : Rat) (part : Nat) : Rat := quo (p.den * part + p.num) (p.den * part)
theorem placeBackQ_eq {p : Rat} {part : Nat} (h : 0 < part) : placeBackQ p part = 1 + p / part := by
  unfold placeBackQ quo
  have h1 : (part : Rat) ≠ 0 := Rat.ne_of_gt (Rat.natCast_pos.mpr h)
  have h2 : (p.den : Rat) ≠ 0 := Rat.ne_of_gt (Rat.natCast_pos.mpr p.den_pos)
  have e : p = (p.num : Rat) / (p.den : Rat) := by
    have := quo_self p
    unfold quo at this
    rw [Rat.intCast_natCast] at this
    exact this.symm
  rw [Rat.intCast_add, Rat.intCast_mul, Rat.intCast_natCast, Rat.intCast_natCast]
  generalize (p.num : Rat) = a at *
  generalize (p.den : Rat) = b at *
  rw [e]
  grind
theorem backQ_quo (p : Rat) : quo (p.num + p.den) p.den = backQ p := by
  have := quo_add p 1
  unfold backQ
  rw [← this]
  show quo _ _ = quo (p.num * 1 + 1 * p.den) (p.den * 1)
  simp
def factorQ (card : List Event) (l : Leg) (rs : List (Option Result)) (placed : Bool) : Option Rat := match rs[l.ev]! with
  | none => none
  | some r => some (if l.run ∈ r.gone then 1 else if placed = true then placeQ (card[l.ev]!).places r.ranks 0 l.run * placeBackQ l.price (card[l.ev]!).part else winQ r.ranks l.run * backQ l.price)
def SpecBackOf (F : List W → M W) : Prop := ∀ p, PriceQ p → Gives F [.d (frac p)] (.d (frac (backQ p)))
def SpecPlaceBack (F : List W → M W) : Prop := ∀ p (part : Nat), PriceQ p → 1 ≤ part → part ≤ 5 → Gives F [.d (frac p), .d (nD part)] (.d (frac (placeBackQ p part)))
theorem n11 {a : Int} (h0 : 0 ≤ a) (h : a < 2048) : a.natAbs < 2 ^ 11 := by omega
theorem PriceQ.mn {q : Rat} (h : PriceQ q) : q.num.natAbs < 2 ^ 10 := by have := h.n1; have := h.hn; omega
theorem PriceQ.md {q : Rat} (h : PriceQ q) : q.den < 2 ^ 10 := by have := h.d1; have := h.hd; omega
theorem PriceQ.mdi {q : Rat} (h : PriceQ q) : ((q.den : Nat) : Int).natAbs < 2 ^ 10 := by have := h.md; omega
theorem PriceQ.small {q : Rat} (h : PriceQ q) : Small 10 q := ⟨h.mn, h.md⟩
def F_back_of (C : Str → List Ev.W → Ev.M Ev.W) : Ev.Env → Ev.M Out := (sSeq (sRet (sCallF 2 (C (Str.ofString "lowest")) (sArgs [(sBin opAdd (sBin opIx (sVar 0) (sCon (.int 0))) (sBin opIx (sVar 0) (sCon (.int 1)))), (sBin opIx (sVar 0) (sCon (.int 1)))]))) sNext)
theorem spec_back_of {C : Call} (hl : SpecLow (C (Str.ofString "lowest"))) : SpecBackOf (fnSem 1 1 (F_back_of C)) := by
  intro p hp
  refine gives_of fun st => run_fn (by rfl) ?_
  have e := hl (p.num + p.den) p.den (den_pos' p) (int_lt hp.mdi (by decide))
  rw [backQ_quo] at e
  simp only [frac] at e ⊢
  simp! only [F_back_of, e.run, List.take_length]
def F_place_back (C : Str → List Ev.W → Ev.M Ev.W) : Ev.Env → Ev.M Out := (sSeq (sRet (sCallF 2 (C (Str.ofString "lowest")) (sArgs [(sBin opAdd (sBin opMul (sBin opIx (sVar 0) (sCon (.int 1))) (sVar 1)) (sBin opIx (sVar 0) (sCon (.int 0)))), (sBin opMul (sBin opIx (sVar 0) (sCon (.int 1))) (sVar 1))]))) sNext)
theorem spec_place_back {C : Call} (hl : SpecLow (C (Str.ofString "lowest"))) : SpecPlaceBack (fnSem 2 2 (F_place_back C)) := by
  intro p part hp h1 h2
  refine gives_of fun st => run_fn (by rfl) ?_
  have hm := natAbs_mul_lt hp.mdi (show ((part : Nat) : Int).natAbs < 2 ^ 3 by omega)
  have e := hl (p.den * part + p.num) (p.den * part) (Int.mul_pos (den_pos' p) (by omega)) (int_lt hm (by decide))
  have m1 := Small.mulOk hp.mdi (show ((part : Nat) : Int).natAbs < 2 ^ 3 by omega) (by decide) (by decide)
  simp only [frac, placeBackQ] at e ⊢
  simp! only [F_place_back, m1, e.run, List.take_length]
theorem backQ_small {p : Rat} (h : PriceQ p) : Small 11 (backQ p) := by
  rw [← backQ_quo]
  have := h.n1
  have := h.hn
  have := h.d1
  have := h.hd
  exact quo_small (den_pos' p) (by omega) (by omega)
theorem placeBackQ_small {p : Rat} {part : Nat} (h : PriceQ p) (h1 : 1 ≤ part) (h2 : part ≤ 5) : Small 14 (placeBackQ p part) := by
  have hm := natAbs_mul_lt h.mdi (show ((part : Nat) : Int).natAbs < 2 ^ 3 by omega)
  unfold placeBackQ
  exact quo_small (Int.mul_pos (den_pos' p) (by omega)) (natAbs_add_lt hm (pow_up h.mn (by decide))) (pow_up hm (by decide))
structure CardG (card : List Event) : Prop where
  ok : ∀ e ∈ card, e.Ok 8
theorem CardOk.g {a b : Nat} {card : List Event} (h : CardOk a b card) (hb : b ≤ 8) : CardG card := ⟨fun e he => let o := h.ok e he; ⟨o.lo, Nat.le_trans o.hi hb, o.pr, o.p1, o.p2, o.p3, o.q1, o.q2⟩⟩
theorem get_mem {α : Type} [Inhabited α] {l : List α} {i : Nat} (h : i < l.length) : l[i]! ∈ l := by
  rw [getElem!_pos l i h]
  exact List.getElem_mem h
theorem get_some {α : Type} [Inhabited α] {l : List α} {i : Nat} (h : i < l.length) : l[i]? = some l[i]! := by
  rw [getElem!_pos l i h]
  exact List.getElem?_eq_getElem h
theorem CardG.at {card : List Event} (h : CardG card) {i : Nat} (hi : i < card.length) : (card[i]!).Ok 8 := h.ok _ (get_mem hi)
def SpecFactor (F : List W → M W) : Prop := ∀ (card : List Event) (l : Leg) (rs : List (Option Result)) (placed : Bool), CardG card → l.Ok card → ResOk card rs → Gives F [.d (cardD card), .d l.d, .d (resultsD rs), .d (.bool placed)] (.d (optF (factorQ card l rs placed)))
section
variable {card : List Event} {l : Leg} {rs : List (Option Result)} {placed : Bool} {r : Result}
theorem res_ok (hl : l.Ok card) (hr : ResOk card rs) (e : rs[l.ev]! = some r) : r.Ok (card[l.ev]!).ps.length := by
  refine hr.ok l.ev r ?_
  have h1 : l.ev < rs.length := by rw [hr.len]; exact hl.ev
  rw [get_some h1, e]
theorem res_ranked (hc : CardG card) (hl : l.Ok card) (hr : ResOk card rs) (e : rs[l.ev]! = some r) : Ranked 8 r.ranks := by
  have h := (res_ok hl hr e).ranked
  exact ⟨h.1, Nat.le_trans h.2 (hc.at hl.ev).hi⟩
theorem Ranked.up {n m : Nat} {x : List (List Nat)} (h : Ranked n x) (hm : n ≤ m) : Ranked m x := ⟨h.1, Nat.le_trans h.2 hm⟩
end
def F_factor (C : Str → List Ev.W → Ev.M Ev.W) : Ev.Env → Ev.M Out := (sSeq (sAsg (sVar 1) (gTuple [(gVar 4), (gVar 5), (gVar 6)])) (sSeq (sAsg (sBin opIx (sVar 2) (sVar 4)) (gVar 7)) (sSeq (sIfS (sTestB (sBin opIsN (sVar 7) (sCon .none))) (sSeq (sRet (sCon .none)) sNext) sNext) (sSeq (sIfS (sTestB (sBin opIn (sVar 5) (sBin opIx (sVar 7) (sCon (.int 0))))) (sSeq (sRet (sCallB opTup (sArgs [(sCon (.int 1)), (sCon (.int 1))]))) sNext) sNext) (sSeq (sIfS (sTest (sVar 3)) (sSeq (sRet (sCallF 2 (C (Str.ofString "times")) (sArgs [(sCallF 3 (C (Str.ofString "place_share")) (sArgs [(sBin opIx (sVar 0) (sVar 4)), (sVar 7), (sVar 5)])), (sCallF 2 (C (Str.ofString "place_back")) (sArgs [(sVar 6), (sBin opIx (sBin opIx (sVar 0) (sVar 4)) (sCon (.int 2)))]))]))) sNext) sNext) (sSeq (sRet (sCallF 2 (C (Str.ofString "times")) (sArgs [(sCallF 2 (C (Str.ofString "win_share")) (sArgs [(sVar 7), (sVar 5)])), (sCallF 1 (C (Str.ofString "back_of")) (sArgs [(sVar 6)]))]))) sNext))))))
theorem spec_factor {C : Call} (ht : SpecTimes (C (Str.ofString "times"))) (hp : SpecPlace (C (Str.ofString "place_share"))) (hb : SpecPlaceBack (C (Str.ofString "place_back"))) (hw : SpecWin (C (Str.ofString "win_share"))) (ho : SpecBackOf (C (Str.ofString "back_of"))) : SpecFactor (fnSem 4 8 (F_factor C)) := by
  intro card l rs placed hc hl hr
  refine gives_of fun st => run_fn (by rfl) ?_
  have h1 : l.ev < rs.length := by rw [hr.len]; exact hl.ev
  have hE := hc.at hl.ev
  simp! only [F_factor, cardD, resultsD, Leg.d, ↓run_ixT h1]
  unfold factorQ
  cases e : rs[l.ev]! with
  | none => simp! only [optR, optF, List.take_length]
  | some r =>
    have hk := res_ranked hc hl hr e
    simp! only [optR, optF, Result.d, natsD, ↓run_inT]
    by_cases hg : l.run ∈ r.gone
    · simp! only [hg, decide_true, if_true, List.take_length, frac_one]
    · cases placed with
      | true =>
        have e1 := hp (.tuple ((card[l.ev]!).ps.map frac)) (card[l.ev]!).places (nD (card[l.ev]!).part) (.tuple (r.gone.map nD)) r.ranks l.run (hk.up (by decide))
        have e2 := hb l.price (card[l.ev]!).part hl.price hE.q1 hE.q2
        have e3 := ht _ _ ((placeQ_small (n := 8) (k := 4) (places := (card[l.ev]!).places) (by decide) (by decide) l.run r.ranks 0 hk).mono (by decide)) ((placeBackQ_small hl.price hE.q1 hE.q2).mono (by decide))
        simp! only [hg, decide_false, if_false, if_true, ↓run_ixT hl.ev, Event.d, e1.run, e2.run, e3.run, List.take_length]
      | false =>
        have e1 := hw (.tuple (r.gone.map nD)) r.ranks l.run (hk.up (by decide))
        have e2 := ho l.price hl.price
        have e3 := ht _ _ ((winQ_small (n := 8) (k := 4) hk (by decide) (by decide) l.run).mono (by decide)) ((backQ_small hl.price).mono (by decide))
        simp! only [hg, decide_false, if_false, e1.run, e2.run, e3.run, List.take_length, Bool.false_eq_true]
def SpecLegFactor (F : List W → M W) : Prop := SpecFactor F
theorem rprod2 (x y : Rat) : rprod [x, y] = x * y := by simp [rprod, Rat.one_mul]
def F_law_leg_factor (C : Str → List Ev.W → Ev.M Ev.W) : Ev.Env → Ev.M Out := (sSeq (sAsg (sVar 1) (gTuple [(gVar 4), (gVar 5), (gTuple [(gVar 6), (gVar 7)])])) (sSeq (sAsg (sBin opIx (sVar 2) (sVar 4)) (gVar 8)) (sSeq (sIfS (sOr (sTestB (sBin opIsN (sVar 8) (sCon .none))) (sTestB (sBin opIn (sVar 5) (sBin opIx (sVar 8) (sCon (.int 0)))))) (sSeq (sRet (sIf (sTestB (sBin opIsN (sVar 8) (sCon .none))) (sCon .none) (sCallB opTup (sArgs [(sCon (.int 1)), (sCon (.int 1))])))) sNext) sNext) (sSeq (sIfS (sTest (sVar 3)) (sSeq (sAsg (sBin opIx (sBin opIx (sVar 0) (sVar 4)) (sCon (.int 2))) (gVar 9)) (sSeq (sRet (sCallF 1 (C (Str.ofString "_law_product")) (sArgs [(sCallB opLst (sArgs [(sCallF 3 (C (Str.ofString "_law_paid_share")) (sArgs [(sBin opIx (sVar 0) (sVar 4)), (sVar 8), (sVar 5)])), (sCallB opTup (sArgs [(sBin opAdd (sBin opMul (sVar 7) (sVar 9)) (sVar 6)), (sBin opMul (sVar 7) (sVar 9))]))]))]))) sNext)) sNext) (sSeq (sRet (sCallF 1 (C (Str.ofString "_law_product")) (sArgs [(sCallB opLst (sArgs [(sCallF 2 (C (Str.ofString "_law_first_share")) (sArgs [(sVar 8), (sVar 5)])), (sCallB opTup (sArgs [(sBin opAdd (sVar 6) (sVar 7)), (sVar 7)]))]))]))) sNext)))))
theorem spec_law_leg_factor {C : Call} (ht : SpecProd (C (Str.ofString "_law_product"))) (hp : SpecPaid (C (Str.ofString "_law_paid_share"))) (hw : SpecFirst (C (Str.ofString "_law_first_share"))) : SpecLegFactor (fnSem 4 10 (F_law_leg_factor C)) := by
  intro card l rs placed hc hl hr
  refine gives_of fun st => run_fn (by rfl) ?_
  have h1 : l.ev < rs.length := by rw [hr.len]; exact hl.ev
  have hE := hc.at hl.ev
  simp! only [F_law_leg_factor, cardD, resultsD, Leg.d, frac, ↓run_ixT h1]
  unfold factorQ
  cases e : rs[l.ev]! with
  | none => simp! only [optR, optF, List.take_length]
  | some r =>
    have hk := res_ranked hc hl hr e
    simp! only [optR, optF, Result.d, natsD, ↓run_inT]
    by_cases hg : l.run ∈ r.gone
    · simp! only [hg, decide_true, if_true, List.take_length, frac_one]
    · cases placed with
      | true =>
        have e1 := hp (.tuple ((card[l.ev]!).ps.map frac)) (card[l.ev]!).places (nD (card[l.ev]!).part) (.tuple (r.gone.map nD)) r.ranks l.run (hk.up (by decide))
        have sm := placeQ_small (n := 8) (k := 4) (places := (card[l.ev]!).places) (by decide) (by decide) l.run r.ranks 0 hk
        generalize hx : placeQ (card[l.ev]!).places r.ranks 0 l.run = x at *
        have p3 : (((card[l.ev]!).part : Nat) : Int).natAbs < 2 ^ 3 := by have := hE.q2; omega
        have hm := natAbs_mul_lt hl.price.mdi p3
        have m1 := Small.mulOk hl.price.mdi p3 (by decide) (by decide)
        have e3 := ht 14 [(x.num, x.den), (l.price.den * (card[l.ev]!).part + l.price.num, l.price.den * (card[l.ev]!).part)] (.d (.list [frac x, .tuple [.int (l.price.den * (card[l.ev]!).part + l.price.num), .int (l.price.den * (card[l.ev]!).part)]])) st .mk (by
          intro p hp
          simp only [List.mem_cons, List.not_mem_nil, or_false] at hp
          rcases hp with rfl | rfl
          · exact PairOk.frac (sm.mono (by decide))
          · exact ⟨Int.mul_pos (den_pos' _) (by have := hE.q1; omega), natAbs_add_lt hm (pow_up hl.price.mn (by decide)), pow_up hm (by decide)⟩) (by simp)
        simp only [List.map_cons, List.map_nil, rprod2, pairQ_frac] at e3
        simp! only [hg, decide_false, if_false, if_true, ↓run_ixT hl.ev, Event.d, e1.run, m1, e3, List.take_length]
        rfl
      | false =>
        have e1 := hw (.tuple (r.gone.map nD)) r.ranks l.run (hk.up (by decide))
        have sm := winQ_small (n := 8) (k := 4) hk (by decide) (by decide) l.run
        generalize hx : winQ r.ranks l.run = x at *
        have e3 := ht 11 [(x.num, x.den), (l.price.num + l.price.den, l.price.den)] (.d (.list [frac x, .tuple [.int (l.price.num + l.price.den), .int l.price.den]])) st .mk (by
          intro p hp
          simp only [List.mem_cons, List.not_mem_nil, or_false] at hp
          rcases hp with rfl | rfl
          · exact PairOk.frac (sm.mono (by decide))
          · have := hl.price.n1
            have := hl.price.hn
            have := hl.price.d1
            have := hl.price.hd
            exact ⟨den_pos' _, by simp only; omega, by simp only; omega⟩) (by simp)
        simp only [List.map_cons, List.map_nil, rprod2, pairQ_frac] at e3
        simp! only [hg, decide_false, if_false, e1.run, e3, List.take_length, Bool.false_eq_true]
        show W.d (frac (x * quo _ _)) = _
        rw [backQ_quo]
theorem sameF (o : Option Rat) : sameOk 4 (optF o) = true := by cases o <;> rfl
end Ev

namespace Ev
open PySem
local macro_rules | `(tactic| simp! only [$xs,*]) => `(tactic| simp only [↓run_seq, ↓run_asg, ↓run_next, ↓run_expr, ↓run_retS, ↓run_ifS, ↓run_cell, ↓run_toNew, ↓run_toD, ↓run_toRef, ↓run_par, ↓run_store0, ↓run_storeF, ↓run_storeT, ↓run_setIx, ↓run_ok, ↓run_ret, ↓run_fail, ↓run_none, ↓run_bind, ↓run_var0, ↓run_varS, ↓run_con, ↓run_bin, ↓run_un, ↓run_args0, ↓run_argsS, ↓run_callB, ↓run_meth, ↓run_callF, ↓run_test, ↓run_testB, ↓run_not, ↓run_and, ↓run_or, ↓run_if, ↓run_truthB, ↓run_andV, ↓run_orV, ↓run_notV, ↓run_chain, ↓run_chain3, ↓run_part0, ↓run_part1, ↓run_slice, ↓run_iter, ↓run_iterC, ↓run_add, ↓run_addT, ↓run_addS, ↓run_addLL, ↓run_addNN, ↓run_addLN, ↓run_addNL, ↓run_sub, ↓run_neg, ↓run_mul, ↓run_div, ↓run_mod, ↓run_mulNI, ↓run_mulLI, ↓run_eqI, ↓run_neI, ↓run_eqS, ↓run_lt, ↓run_le, ↓run_gt, ↓run_ge, ↓run_isN, ↓run_notN, ↓run_isi, ↓run_isB, ↓run_notB, ↓run_ltS, ↓run_leS, ↓run_mulTI, ↓run_ix0, ↓run_ix1, ↓run_ix2, ↓run_ix3, ↓run_ix0L, ↓run_ix1L, ↓run_ix0N, ↓run_lenT, ↓run_lenL, ↓run_lenN, ↓run_tupleN, ↓run_tupleL, ↓run_tupleT, ↓run_listT, ↓run_listN, ↓run_listL, ↓run_slT, ↓run_slL, ↓run_slN, ↓run_revT, ↓run_revN, ↓run_revL, ↓run_max2, ↓run_min2, ↓run_rg1, ↓run_rg2, ↓run_trB, ↓run_trI, ↓run_trT, ↓run_trL, ↓run_trN, ↓run_trNone, ↓run_itT, ↓run_itL, ↓run_itN, ↓run_range1, ↓run_range2, ↓run_zipTT, ↓run_enumT, ↓run_enumL, ↓run_enumN, ↓two_t, ↓two_f, ↓outN_nx, ↓outN_ret, ↓outQ_nx, ↓outQ_d, ↓outQ_new, ↓setG_some, ↓asD_d, run_ite, run_ite', gVar, gTuple, gAll, frz_new, frz_d, frz_ref, frz_scr, isLst, isStr, opTup, opLst, allD, isTy, isN_none, isN_int, isN_bool, isN_str, isN_tup, isN_lst, isN_ref, isN_new, wipeG, List.map_cons, List.map_nil, List.set_cons_zero, List.set_cons_succ, List.length_cons, List.length_nil, List.cons_append, List.nil_append, List.replicate, Nat.reduceAdd, Nat.reduceSub, Nat.reduceLeDiff, Nat.reduceEqDiff, Int.reduceEq, reduceCtorEq, Bool.false_eq_true, Bool.not_true, Bool.not_false, ne_eq, not_false_eq_true, not_true_eq_false, true_and, and_true, and_self, sz0, sz1, sz2, sz3, sz4, sz5, sz6, sz7, sz8, sz10, $xs,*])
/-! ### slips -/
structure Slip where
  legs : List Leg
  sizes : List Nat
  stake : Nat
  both : Bool
def legsD (legs : List Leg) : PyData := .tuple (legs.map Leg.d)
def Slip.d (s : Slip) : PyData := .tuple [legsD s.legs, natsD s.sizes, nD s.stake, .bool s.both]
structure Slip.Ok (card : List Event) (s : Slip) : Prop where
  lo : 1 ≤ s.legs.length
  hi : s.legs.length ≤ card.length
  ev : s.legs.Pairwise fun a b => a.ev < b.ev
  leg : ∀ l ∈ s.legs, l.Ok card
  ne : s.sizes ≠ []
  sz : s.sizes.Pairwise (· < ·)
  sb : ∀ k ∈ s.sizes, 1 ≤ k ∧ k ≤ s.legs.length
  st1 : 1 ≤ s.stake
  st2 : s.stake ≤ 1000000
theorem range_split' {m i : Nat} {done more : List Nat} (h : List.range m = done ++ i :: more) : i = done.length ∧ done.length < m := by
  have hl := congrArg List.length h
  rw [List.length_range, List.length_append, List.length_cons] at hl
  have h1 : (List.range m)[done.length]? = some i := by rw [h]; simp
  rw [List.getElem?_range (by omega)] at h1
  exact ⟨by simpa using h1.symm, by omega⟩
def SpecDrawnSlip (ns : List Int) (F : List W → M W) : Prop := ∀ (card : List Event) (most : Nat) (rest : Store) (n : Nat) (st : Store), CardG card → 1 ≤ card.length → card.length ≤ 100 → 1 ≤ most → most ≤ 100 → Town rest n st → n + (6 + 16 * card.length) ≤ lim →
  Run (F [.scr ns, .ref 0, .d (cardD card), .d (nD most)] st) (fun w s => ∃ sl : Slip, w = .d sl.d ∧ sl.Ok card ∧ sl.legs.length ≤ most ∧ Town rest (n + (6 + 16 * card.length)) s) noE
def F_law_drawn_slip_t106 (C : Str → List Ev.W → Ev.M Ev.W) : Ev.Env → Ev.M Out := (sSeq (sRet (sCallB opTup (sArgs [(sCallB opTuple (sArgs [(sVar 6)])), (sCallB opTuple (sArgs [(sOrV (sVar 10) (sCallB opLst (sArgs [(sCallB opLen (sArgs [(sVar 6)]))])))])), (sVar 12), (sBin opEq (sCallF 3 (C (Str.ofString "_law_draw")) (sArgs [(sVar 0), (sVar 1), (sCon (.int 2))])) (sCon (.int 0)))]))) sNext)
def F_law_drawn_slip_t105 (C : Str → List Ev.W → Ev.M Ev.W) : Ev.Env → Ev.M Out := (sSeq (sAsg (sCallF 3 (C (Str.ofString "_law_pick")) (sArgs [(sVar 0), (sVar 1), (sCallB opLst (sArgs [(sCon (.int 1)), (sCon (.int 2)), (sCon (.int 7)), (sCon (.int 100)), (sCon (.int 250)), (sCon (.int 1000000))]))])) (gVar 12)) (F_law_drawn_slip_t106 C))
def F_law_drawn_slip_c2 (C : Str → List Ev.W → Ev.M Ev.W) : Ev.Env → Ev.M Bool := (sTestB (sBin opEq (sCallF 3 (C (Str.ofString "_law_draw")) (sArgs [(sVar 0), (sVar 1), (sCon (.int 2))])) (sCon (.int 0))))
def F_law_drawn_slip_b2 (C : Str → List Ev.W → Ev.M Ev.W) : Ev.Env → Ev.M Ev.W := (sVar 11)
def F_law_drawn_slip_l2 (C : Str → List Ev.W → Ev.M Ev.W) : Ev.Env → Ev.M Ev.W := (sLc (sIterC opRange2 (sArgs [(sCon (.int 1)), (sBin opAdd (sCallB opLen (sArgs [(sVar 6)])) (sCon (.int 1)))])) [11] (gVar 11) (F_law_drawn_slip_c2 C) (F_law_drawn_slip_b2 C))
def F_law_drawn_slip_t104 (C : Str → List Ev.W → Ev.M Ev.W) : Ev.Env → Ev.M Out := (sSeq (sAsg (F_law_drawn_slip_l2 C) (gVar 10)) (F_law_drawn_slip_t105 C))
def F_law_drawn_slip_t403 (C : Str → List Ev.W → Ev.M Ev.W) : Ev.Env → Ev.M Out := (sSeq (sExpr (sMeth isLst opAppend (sVar 6) (sArgs [(sCallB opTup (sArgs [(sVar 7), (sVar 8), (sVar 9)]))]))) sNext)
def F_law_drawn_slip_t402 (C : Str → List Ev.W → Ev.M Ev.W) : Ev.Env → Ev.M Out := (sSeq (sIfS (sTestB (sBin opEq (sCallF 3 (C (Str.ofString "_law_draw")) (sArgs [(sVar 0), (sVar 1), (sCon (.int 4))])) (sCon (.int 0)))) (sSeq (sAsg (sCallF 2 (C (Str.ofString "_law_drawn_price")) (sArgs [(sVar 0), (sVar 1)])) (gVar 9)) sNext) sNext) (F_law_drawn_slip_t403 C))
def F_law_drawn_slip_t401 (C : Str → List Ev.W → Ev.M Ev.W) : Ev.Env → Ev.M Out := (sSeq (sAsg (sBin opIx (sBin opIx (sBin opIx (sVar 2) (sVar 7)) (sCon (.int 0))) (sVar 8)) (gVar 9)) (F_law_drawn_slip_t402 C))
def F_law_drawn_slip_b3 (C : Str → List Ev.W → Ev.M Ev.W) : Ev.Env → Ev.M Out := (sSeq (sAsg (sCallF 3 (C (Str.ofString "_law_draw")) (sArgs [(sVar 0), (sVar 1), (sCallB opLen (sArgs [(sBin opIx (sBin opIx (sVar 2) (sVar 7)) (sCon (.int 0)))]))])) (gVar 8)) (F_law_drawn_slip_t401 C))
def F_law_drawn_slip_l3 (C : Str → List Ev.W → Ev.M Ev.W) : Ev.Env → Ev.M Out := (sFor (sIter (sVar 5)) (gVar 7) (F_law_drawn_slip_b3 C))
def F_law_drawn_slip_t103 (C : Str → List Ev.W → Ev.M Ev.W) : Ev.Env → Ev.M Out := (sSeq (F_law_drawn_slip_l3 C) (F_law_drawn_slip_t104 C))
def F_law_drawn_slip_t102 (C : Str → List Ev.W → Ev.M Ev.W) : Ev.Env → Ev.M Out := (sSeq (sCell 6 (sCallB opLst (sArgs []))) (F_law_drawn_slip_t103 C))
def F_law_drawn_slip_t101 (C : Str → List Ev.W → Ev.M Ev.W) : Ev.Env → Ev.M Out := (sSeq (sAsg (sCallB opSorted (sArgs [(sSlice (sCallF 3 (C (Str.ofString "_law_mixed")) (sArgs [(sVar 0), (sVar 1), (sUn (opRg1 true) (sCallB opLen (sArgs [(sVar 2)])))])) none (some (sVar 4)))])) (gVar 5)) (F_law_drawn_slip_t102 C))
def F_law_drawn_slip (C : Str → List Ev.W → Ev.M Ev.W) : Ev.Env → Ev.M Out := (sSeq (sAsg (sBin opAdd (sCon (.int 1)) (sCallF 3 (C (Str.ofString "_law_draw")) (sArgs [(sVar 0), (sVar 1), (sCallB opMin (sArgs [(sVar 3), (sCallB opLen (sArgs [(sVar 2)]))]))]))) (gVar 4)) (F_law_drawn_slip_t101 C))
theorem min_nat (a b : Nat) : (if (b : Int) < (a : Int) then (b : Int) else (a : Int)) = ((min a b : Nat) : Int) := min_cast a b
theorem range_from (n : Nat) : rangeItems 1 (((n : Int) + 1) - 1).toNat = (List.range n).map fun k => W.d (nD (k + 1)) := by
  unfold rangeItems
  rw [show ((n : Int) + 1 - 1).toNat = n by omega]
  apply List.map_congr_left
  intro k _
  simp only [nD]
  congr 2
  omega
theorem spec_law_drawn_slip {C : Call} {ns : List Int} (hd : SpecDraw ns (C (Str.ofString "_law_draw"))) (hm : SpecMixed ns (C (Str.ofString "_law_mixed"))) (hp : SpecPick ns (C (Str.ofString "_law_pick"))) (hq : SpecDrawnPrice ns (C (Str.ofString "_law_drawn_price"))) : SpecDrawnSlip ns (fnSem 4 13 (F_law_drawn_slip C)) := by
  intro card most rest n st hg h1 h2 h3 h4 ht hn
  refine run_fn (by rfl) ?_
  simp! only [F_law_drawn_slip, cardD, List.length_map, min_nat]
  refine (hd.run (by omega) ht (by omega)).to ?_
  rintro _ s1 ⟨v, rfl, hv, hT1⟩
  have hrg := rgB_nat (n := card.length) (by omega)
  simp! only [one_plus, F_law_drawn_slip_t101, List.length_map, hrg, rgD_nat]
  refine (hm.run (.inl rfl) (by simp; omega) hT1 (by simp; omega)).to ?_
  rintro _ s2 ⟨ys, rfl, p1, hT2⟩
  obtain ⟨zs, rfl, p2⟩ := perm_nats p1
  rw [List.length_map, List.length_range] at hT2
  simp! only [cutG_to, ← List.map_take, ↓run_sortN]
  simp! only [F_law_drawn_slip_t102, F_law_drawn_slip_t103, F_law_drawn_slip_l3, hT2.len]
  have hT3 := hT2.push (.lst [])
  have hzn : zs.Nodup := p2.nodup_iff.mpr List.nodup_range
  have hzl : zs.length = card.length := by rw [p2.length_eq, List.length_range]
  have hev := nsort_lt (hzn.sublist (List.take_sublist (v + 1) zs))
  have hel : (nsort (zs.take (v + 1))).length = v + 1 := by
    rw [(nsort_perm _).length_eq, List.length_take]
    omega
  have hem : ∀ e ∈ nsort (zs.take (v + 1)), e < card.length := fun e he => List.mem_range.mp (p2.mem_iff.mp (List.mem_of_mem_take ((nsort_perm _).mem_iff.mp he)))
  generalize nsort (zs.take (v + 1)) = evs at *
  refine run_for (emb := fun k => W.d (nD k)) (L := []) evs (fun done ρ s => (∃ a7 a8 a9 : Option W, ∃ legs : List Leg, ρ = [some (.scr ns), some (.ref 0), some (.d (.tuple (card.map Event.d))), some (.d (nD most)), some (.d (nD (v + 1))), some (.d (.list (evs.map nD))), some (.ref (rest.length + 1)), a7, a8, a9, none, none, none] ∧ legs.map Leg.ev = done ∧ (∀ l ∈ legs, l.Ok card) ∧ Town (rest ++ [.lst (legs.map Leg.d)]) (n + 2 + 2 * card.length + 12 * done.length) s)) ?_ (fun _ _ _ _ => rfl) ⟨_, _, _, [], rfl, rfl, by simp, hT3⟩ ?_ ?_
  · simp! only [List.map_map]
    rfl
  · rintro done e more ρ s he ⟨a7, a8, a9, legs, rfl, hle, hlo, hT⟩
    have hlt := prefix_len he
    have hec := hem e (prefix_mem he).1
    have hE := hg.at hec
    have hlo2 := hE.lo
    have hhi8 := hE.hi
    have hll : legs.length = done.length := by rw [← hle, List.length_map]
    simp! only [F_law_drawn_slip_b3, ↓run_ixT hec, Event.d, List.length_map]
    refine (hd.run (by omega) hT (by omega)).to ?_
    rintro _ s4 ⟨ru, rfl, hru, hT4⟩
    have hrl : ru < (card[e]!).ps.length := by omega
    simp! only [F_law_drawn_slip_t401, ↓run_ixT hec, Event.d, ↓run_ixT hrl, F_law_drawn_slip_t402]
    refine (hd.run (by decide) hT4 (by omega)).to ?_
    rintro _ s5 ⟨c, rfl, hc, hT5⟩
    have fin : ∀ (q : Rat) (s : Store) (m : Nat), PriceQ q → m ≤ n + 2 + 2 * card.length + 12 * done.length + 12 → Town (rest ++ [.lst (legs.map Leg.d)]) m s → Run (F_law_drawn_slip_t403 C [some (.scr ns), some (.ref 0), some (.d (.tuple (card.map Event.d))), some (.d (nD most)), some (.d (nD (v + 1))), some (.d (.list (evs.map nD))), some (.ref (rest.length + 1)), some (.d (nD e)), some (.d (nD ru)), some (.d (frac q)), none, none, none] s) (outN (fun ρ s => ∃ a7 a8 a9 : Option W, ∃ legs : List Leg, ρ = [some (.scr ns), some (.ref 0), some (.d (.tuple (card.map Event.d))), some (.d (nD most)), some (.d (nD (v + 1))), some (.d (.list (evs.map nD))), some (.ref (rest.length + 1)), a7, a8, a9, none, none, none] ∧ legs.map Leg.ev = done ++ [e] ∧ (∀ l ∈ legs, l.Ok card) ∧ Town (rest ++ [.lst (legs.map Leg.d)]) (n + 2 + 2 * card.length + 12 * (done ++ [e]).length) s) fun w s => False) noE := by
      intro q s m hq hm hT
      have c1 := hT.get app_get
      have hT2 := hT.set (k := rest.length) (c := .lst (legs.map Leg.d ++ [Leg.d ⟨e, ru, q⟩]))
      rw [app_set] at hT2
      simp! only [F_law_drawn_slip_t403, ↓run_append c1]
      refine ⟨szk (by rw [List.length_map]; omega), _, _, _, legs ++ [⟨e, ru, q⟩], rfl, by rw [List.map_append, hle]; rfl, ?_, ?_⟩
      · intro l hl
        rcases List.mem_append.mp hl with hl | hl
        · exact hlo l hl
        · rw [List.mem_singleton.mp hl]
          exact ⟨hec, hrl, hq⟩
      · rw [List.map_append, List.length_append, List.length_singleton]
        exact hT2.mono (by omega)
    simp! only []
    refine two_of (fun hb => ?_) (fun hb => ?_)
    · refine (hq.run hT5 (by omega)).to ?_
      rintro _ s6 ⟨q, rfl, hqq, hT6⟩
      simp! only []
      refine (fin q s6 _ hqq (by omega) hT6).mono ?_ (fun _ _ h => h.elim)
      intro o s h
      cases o with
      | nx ρ => exact h
      | ret w => exact h.elim
    · refine (fin _ s5 _ (hE.pr _ (get_mem hrl)) (by omega) hT5).mono ?_ (fun _ _ h => h.elim)
      intro o s h
      cases o with
      | nx ρ => exact h
      | ret w => exact h.elim
  · rintro ρ s ⟨a7, a8, a9, legs, rfl, hle, hlo, hT⟩
    have hll : legs.length = v + 1 := by rw [← hel, ← hle, List.length_map]
    have c1 := hT.get app_get
    simp! only [F_law_drawn_slip_t104, F_law_drawn_slip_l2]
    have hi1 : inLong 1 = true := rfl
    refine run_lc (emb := fun k => W.d (nD (k + 1))) (L := []) (List.range legs.length) (fun done acc s => ∃ sz : List Nat, acc = sz.map nD ∧ sz.Pairwise (· < ·) ∧ (∀ k ∈ sz, 1 ≤ k ∧ k ≤ done.length) ∧ Town (rest ++ [.lst (legs.map Leg.d)]) (n + 2 + 2 * card.length + 12 * (v + 1) + 2 * done.length) s) ?_ (szl (by simp; omega)) (fun _ _ _ _ => rfl) ⟨[], rfl, .nil, by simp, by rw [← hel]; exact hT⟩ ?_ ?_
    · simp! only [opLen, asSeq, c1, List.length_map, hi1, range_from]
      rw [show (legs.length : Int) + 1 = ((legs.length + 1 : Nat) : Int) by omega]
      exact inLong_nat (by omega)
    · rintro done k more acc s he ⟨sz, rfl, hsz, hsb, hT⟩
      obtain ⟨rfl, hk⟩ := range_split' he
      simp! only [F_law_drawn_slip_c2, F_law_drawn_slip_b2]
      refine (hd.run (by decide) hT (by omega)).to ?_
      rintro _ s7 ⟨c, rfl, hc, hT7⟩
      simp! only []
      refine two_of (fun hb => ?_) (fun hb => ?_)
      · refine ⟨sz ++ [done.length + 1], by simp, ?_, ?_, ?_⟩
        · rw [List.pairwise_append]
          refine ⟨hsz, List.pairwise_singleton _ _, fun a ha b hb => ?_⟩
          rw [List.mem_singleton.mp hb]
          have := (hsb a ha).2
          omega
        · intro k hk
          rw [List.length_append, List.length_singleton]
          rcases List.mem_append.mp hk with hk | hk
          · have := hsb k hk
            omega
          · rw [List.mem_singleton.mp hk]
            omega
        · rw [List.length_append, List.length_singleton]
          exact hT7.mono (by omega)
      · refine ⟨sz, rfl, hsz, ?_, ?_⟩
        · intro k hk
          rw [List.length_append, List.length_singleton]
          have := hsb k hk
          omega
        · rw [List.length_append, List.length_singleton]
          exact hT7.mono (by omega)
    · rintro acc s ⟨sz, rfl, hsz, hsb, hT⟩
      rw [List.length_range] at hsb hT
      simp! only [F_law_drawn_slip_t105]
      refine (hp.run (.inl rfl) (by simp) hT (by omega)).to ?_
      rintro _ s8 ⟨y, rfl, hy, hT8⟩
      obtain ⟨stk, rfl, hs1, hs2⟩ : ∃ b : Nat, y = nD b ∧ 1 ≤ b ∧ b ≤ 1000000 := by
        simp only [List.mem_cons, List.not_mem_nil, or_false] at hy
        rcases hy with rfl | rfl | rfl | rfl | rfl | rfl <;> exact ⟨_, rfl, by decide, by decide⟩
      have c2 := hT8.get app_get
      have evp : legs.Pairwise fun a b => a.ev < b.ev := by
        rw [← List.pairwise_map (f := Leg.ev) (R := (· < ·)), hle]
        exact hev
      by_cases hz0 : sz = []
      · subst hz0
        simp! only [F_law_drawn_slip_t106, opTuple, asList, c2, List.isEmpty_nil, opLen, asSeq, List.length_map]
        refine (hd.run (by decide) hT8 (by omega)).to ?_
        rintro _ s9 ⟨c, rfl, hc, hT9⟩
        simp! only [ht.len]
        refine ⟨⟨legs, [legs.length], stk, ((c : Int) == 0)⟩, rfl, ⟨by simp only; omega, by simp only; omega, evp, hlo, by simp, by simp, by simp; omega, hs1, hs2⟩, by simp only; omega, (hT9.pop rfl).mono (by omega)⟩
      · have hE : (sz.map nD).isEmpty = false := by simpa using hz0
        simp! only [F_law_drawn_slip_t106, opTuple, asList, c2, hE]
        refine (hd.run (by decide) hT8 (by omega)).to ?_
        rintro _ s9 ⟨c, rfl, hc, hT9⟩
        simp! only [ht.len]
        refine ⟨⟨legs, sz, stk, ((c : Int) == 0)⟩, rfl, ⟨by simp only; omega, by simp only; omega, evp, hlo, hz0, hsz, hsb, hs1, hs2⟩, by simp only; omega, (hT9.pop rfl).mono (by omega)⟩
end Ev

namespace Ev
open PySem
/-! ### plain: sums over all choices -/
def es : Nat → List Rat → Rat
  | 0, _ => 1
  | _ + 1, [] => 0
  | k + 1, x :: xs => x * es k xs + es (k + 1) xs
theorem es_snoc (x : Rat) : ∀ (k : Nat) (xs : List Rat), es (k + 1) (xs ++ [x]) = es (k + 1) xs + es k xs * x
  | 0, [] => by simp [es]; grind
  | k + 1, [] => by simp [es]
  | 0, y :: xs => by
    have h1 := es_snoc x 0 xs
    simp only [List.cons_append, es] at h1 ⊢
    rw [h1]
    grind
  | k + 1, y :: xs => by
    have h1 := es_snoc x (k + 1) xs
    have h2 := es_snoc x k xs
    simp only [List.cons_append, es] at h1 h2 ⊢
    rw [h1, h2]
    grind
theorem es_zero : ∀ (k : Nat) (xs : List Rat), xs.length < k → es k xs = 0
  | 0, _, h => by omega
  | k + 1, [], _ => rfl
  | k + 1, x :: xs, h => by
    rw [List.length_cons] at h
    rw [es, es_zero k xs (by omega), es_zero (k + 1) xs (by omega)]
    grind
/-! ### plain: sizes by a common divisor -/
def Dv (D : Nat) (x : Rat) : Prop := ∃ m : Int, x * (D : Rat) = (m : Rat)
theorem Dv.add {D : Nat} {x y : Rat} (hx : Dv D x) (hy : Dv D y) : Dv D (x + y) := by
  obtain ⟨a, ha⟩ := hx
  obtain ⟨b, hb⟩ := hy
  exact ⟨a + b, by rw [Rat.add_mul, ha, hb, Rat.intCast_add]⟩
theorem Dv.mul {D E : Nat} {x y : Rat} (hx : Dv D x) (hy : Dv E y) : Dv (D * E) (x * y) := by
  obtain ⟨a, ha⟩ := hx
  obtain ⟨b, hb⟩ := hy
  refine ⟨a * b, ?_⟩
  rw [Rat.intCast_mul, ← ha, ← hb, Rat.natCast_mul]
  grind
theorem Dv.zero {D : Nat} : Dv D 0 := ⟨0, by rw [Rat.zero_mul]; rfl⟩
theorem Dv.nat (k : Nat) {D : Nat} : Dv D k := ⟨k * D, by rw [Rat.intCast_mul, Rat.intCast_natCast, Rat.intCast_natCast]⟩
theorem Dv.up {D E : Nat} {x : Rat} (hx : Dv D x) : Dv (D * E) x := by
  have := hx.mul (Dv.nat (D := E) 1)
  have e : x * ((1 : Nat) : Rat) = x := by
    have : ((1 : Nat) : Rat) = 1 := rfl
    rw [this, Rat.mul_one]
  rwa [e] at this
theorem Dv.up' {D E : Nat} {x : Rat} (hx : Dv D x) : Dv (E * D) x := by rw [Nat.mul_comm]; exact hx.up
theorem Dv.self (x : Rat) : Dv x.den x := by
  refine ⟨x.num, ?_⟩
  have h := quo_self x
  unfold quo at h
  rw [Rat.intCast_natCast] at h
  have h2 : (x.den : Rat) ≠ 0 := Rat.ne_of_gt (Rat.natCast_pos.mpr x.den_pos)
  conv => lhs; arg 1; rw [← h]
  exact Rat.div_mul_cancel h2
theorem Dv.small {D M n : Nat} {x : Rat} (h : Dv D x) (hD : 0 < D) (h0 : 0 ≤ x) (hM : x ≤ (M : Rat)) (h1 : D < 2 ^ n) (h2 : M * D < 2 ^ n) : Small n x := by
  obtain ⟨m, hm⟩ := h
  have hD' : (D : Rat) ≠ 0 := Rat.ne_of_gt (Rat.natCast_pos.mpr hD)
  have hx : x = quo m D := by
    unfold quo
    rw [← hm, Rat.intCast_natCast]
    exact (Rat.mul_div_cancel hD').symm
  have hm0 : 0 ≤ m := by
    have : (0 : Rat) ≤ (m : Rat) := by rw [← hm]; exact Rat.mul_nonneg h0 Rat.natCast_nonneg
    exact Rat.intCast_nonneg.mp this
  have hm1 : m ≤ ((M * D : Nat) : Int) := by
    have : (m : Rat) ≤ (((M * D : Nat) : Int) : Rat) := by
      rw [← hm, Rat.intCast_natCast, Rat.natCast_mul]
      exact Rat.mul_le_mul_of_nonneg_right hM Rat.natCast_nonneg
    exact Rat.intCast_le_intCast.mp this
  rw [hx]
  exact quo_small (by omega) (by omega) (by omega)
def dens (xs : List Rat) : Nat := (xs.map fun x => x.den).foldr (· * ·) 1
theorem dens_cons (x : Rat) (xs : List Rat) : dens (x :: xs) = x.den * dens xs := rfl
theorem dens_pos : ∀ xs : List Rat, 0 < dens xs
  | [] => by decide
  | x :: xs => by rw [dens_cons]; exact Nat.mul_pos x.den_pos (dens_pos xs)
theorem dens_lt {s : Nat} : ∀ {xs : List Rat}, (∀ x ∈ xs, Small s x) → dens xs < 2 ^ (s * xs.length + 1)
  | [], _ => by simp [dens]
  | x :: xs, h => by
    have h1 := (h x List.mem_cons_self).2
    have h2 := dens_lt fun y hy => h y (List.mem_cons_of_mem _ hy)
    rw [dens_cons, List.length_cons, show s * (xs.length + 1) + 1 = s + (s * xs.length + 1) by rw [Nat.mul_succ]; omega, Nat.pow_add]
    exact Nat.mul_lt_mul'' h1 h2
theorem es_dv : ∀ (k : Nat) (xs : List Rat), Dv (dens xs) (es k xs)
  | 0, xs => by rw [es]; exact Dv.nat (D := dens xs) 1
  | k + 1, [] => Dv.zero
  | k + 1, x :: xs => by
    rw [es, dens_cons]
    exact ((Dv.self x).mul (es_dv k xs)).add (es_dv (k + 1) xs).up'
theorem small_le {s : Nat} {x : Rat} (h : Small s x) (h0 : 0 ≤ x) : x ≤ ((2 ^ s : Nat) : Rat) := by
  have h1 : x * (x.den : Rat) = (x.num : Rat) := by
    have h := quo_self x
    unfold quo at h
    rw [Rat.intCast_natCast] at h
    have h2 : (x.den : Rat) ≠ 0 := Rat.ne_of_gt (Rat.natCast_pos.mpr x.den_pos)
    conv => lhs; arg 1; rw [← h]
    exact Rat.div_mul_cancel h2
  have h2 : (1 : Rat) ≤ (x.den : Rat) := by
    have : ((1 : Nat) : Rat) ≤ (x.den : Rat) := Rat.natCast_le_natCast.mpr x.den_pos
    exact this
  have h3 : x ≤ (x.num : Rat) := by
    rw [← h1]
    have := Rat.mul_le_mul_of_nonneg_left h2 h0
    rwa [Rat.mul_one] at this
  refine Rat.le_trans h3 ?_
  rw [← Rat.intCast_natCast]
  refine Rat.intCast_le_intCast.mpr ?_
  have := h.1
  omega
theorem es_nonneg : ∀ (k : Nat) (xs : List Rat), (∀ x ∈ xs, 0 ≤ x) → 0 ≤ es k xs
  | 0, _, _ => by rw [es]; decide
  | k + 1, [], _ => by rw [es]; decide
  | k + 1, x :: xs, h => by
    rw [es]
    exact Rat.add_nonneg (Rat.mul_nonneg (h x List.mem_cons_self) (es_nonneg k xs fun y hy => h y (List.mem_cons_of_mem _ hy))) (es_nonneg (k + 1) xs fun y hy => h y (List.mem_cons_of_mem _ hy))
theorem es_le {s : Nat} : ∀ (k : Nat) (xs : List Rat), (∀ x ∈ xs, 0 ≤ x ∧ Small s x) → es k xs ≤ ((2 ^ ((s + 1) * xs.length) : Nat) : Rat)
  | 0, xs, _ => by
    have : ((1 : Nat) : Rat) ≤ ((2 ^ ((s + 1) * xs.length) : Nat) : Rat) := Rat.natCast_le_natCast.mpr Nat.one_le_two_pow
    rw [es]
    exact this
  | k + 1, [], _ => by
    have : ((0 : Nat) : Rat) ≤ ((2 ^ ((s + 1) * ([] : List Rat).length) : Nat) : Rat) := Rat.natCast_le_natCast.mpr (Nat.zero_le _)
    rw [es]
    exact this
  | k + 1, x :: xs, h => by
    have hx := h x List.mem_cons_self
    have h1 := es_le k xs fun y hy => h y (List.mem_cons_of_mem _ hy)
    have h2 := es_le (k + 1) xs fun y hy => h y (List.mem_cons_of_mem _ hy)
    have h3 := es_nonneg k xs fun y hy => (h y (List.mem_cons_of_mem _ hy)).1
    have h4 := small_le hx.2 hx.1
    rw [es]
    generalize hB : 2 ^ ((s + 1) * xs.length) = B at *
    have e : 2 ^ ((s + 1) * (x :: xs).length) = 2 ^ s * B + 2 ^ s * B := by
      rw [List.length_cons, Nat.mul_succ, Nat.pow_add, hB, Nat.pow_succ]
      generalize 2 ^ s = c
      rw [Nat.mul_comm B, Nat.mul_assoc, Nat.mul_comm 2 B, ← Nat.mul_assoc]
      omega
    rw [e, Rat.natCast_add]
    have h5 : x * es k xs ≤ ((2 ^ s * B : Nat) : Rat) := by
      rw [Rat.natCast_mul]
      refine Rat.le_trans (Rat.mul_le_mul_of_nonneg_right h4 h3) ?_
      exact Rat.mul_le_mul_of_nonneg_left h1 Rat.natCast_nonneg
    have h6 : (B : Rat) ≤ ((2 ^ s * B : Nat) : Rat) := Rat.natCast_le_natCast.mpr (Nat.le_mul_of_pos_left _ (Nat.two_pow_pos s))
    grind
theorem es_small {s n k : Nat} {xs : List Rat} (h : ∀ x ∈ xs, 0 ≤ x ∧ Small s x) (hn : (2 * s + 1) * xs.length + 1 ≤ n) : Small n (es k xs) := by
  have h1 := dens_lt fun x hx => (h x hx).2
  have e1 : (2 * s + 1) * xs.length = s * xs.length + (s + 1) * xs.length := by rw [← Nat.add_mul]; congr 1; omega
  refine (es_dv k xs).small (dens_pos xs) (es_nonneg k xs fun x hx => (h x hx).1) (es_le k xs h) (pow_up h1 (by omega)) ?_
  have h2 : 2 ^ ((s + 1) * xs.length) * dens xs < 2 ^ ((s + 1) * xs.length) * 2 ^ (s * xs.length + 1) := Nat.mul_lt_mul_of_pos_left h1 (Nat.two_pow_pos _)
  rw [← Nat.pow_add] at h2
  exact pow_up h2 (by omega)
def esSum (sizes : List Nat) (xs : List Rat) : Rat := rsum (sizes.map fun k => es k xs)
def togQ (sizes : List Nat) (stake : Nat) (xs : List Rat) : Rat := esSum sizes xs * stake
end Ev

namespace Ev
open PySem
local macro_rules | `(tactic| simp! only [$xs,*]) => `(tactic| simp only [↓run_seq, ↓run_asg, ↓run_next, ↓run_expr, ↓run_retS, ↓run_ifS, ↓run_cell, ↓run_toNew, ↓run_toD, ↓run_toRef, ↓run_par, ↓run_store0, ↓run_storeF, ↓run_storeT, ↓run_setIx, ↓run_ok, ↓run_ret, ↓run_fail, ↓run_none, ↓run_bind, ↓run_var0, ↓run_varS, ↓run_con, ↓run_bin, ↓run_un, ↓run_args0, ↓run_argsS, ↓run_callB, ↓run_meth, ↓run_callF, ↓run_test, ↓run_testB, ↓run_not, ↓run_and, ↓run_or, ↓run_if, ↓run_truthB, ↓run_andV, ↓run_orV, ↓run_notV, ↓run_chain, ↓run_chain3, ↓run_part0, ↓run_part1, ↓run_slice, ↓run_iter, ↓run_iterC, ↓run_add, ↓run_addT, ↓run_addS, ↓run_addLL, ↓run_addNN, ↓run_addLN, ↓run_addNL, ↓run_sub, ↓run_neg, ↓run_mul, ↓run_div, ↓run_mod, ↓run_mulNI, ↓run_mulLI, ↓run_eqI, ↓run_neI, ↓run_eqS, ↓run_lt, ↓run_le, ↓run_gt, ↓run_ge, ↓run_isN, ↓run_notN, ↓run_isi, ↓run_isB, ↓run_notB, ↓run_ltS, ↓run_leS, ↓run_mulTI, ↓run_ix0, ↓run_ix1, ↓run_ix2, ↓run_ix3, ↓run_ix0L, ↓run_ix1L, ↓run_ix0N, ↓run_lenT, ↓run_lenL, ↓run_lenN, ↓run_tupleN, ↓run_tupleL, ↓run_tupleT, ↓run_listT, ↓run_listN, ↓run_listL, ↓run_slT, ↓run_slL, ↓run_slN, ↓run_revT, ↓run_revN, ↓run_revL, ↓run_max2, ↓run_min2, ↓run_rg1, ↓run_rg2, ↓run_trB, ↓run_trI, ↓run_trT, ↓run_trL, ↓run_trN, ↓run_trNone, ↓run_itT, ↓run_itL, ↓run_itN, ↓run_range1, ↓run_range2, ↓run_zipTT, ↓run_enumT, ↓run_enumL, ↓run_enumN, ↓two_t, ↓two_f, ↓outN_nx, ↓outN_ret, ↓outQ_nx, ↓outQ_d, ↓outQ_new, ↓setG_some, ↓asD_d, run_ite, run_ite', gVar, gTuple, gAll, frz_new, frz_d, frz_ref, frz_scr, isLst, isStr, opTup, opLst, allD, isTy, isN_none, isN_int, isN_bool, isN_str, isN_tup, isN_lst, isN_ref, isN_new, wipeG, List.map_cons, List.map_nil, List.set_cons_zero, List.set_cons_succ, List.length_cons, List.length_nil, List.cons_append, List.nil_append, List.replicate, Nat.reduceAdd, Nat.reduceSub, Nat.reduceLeDiff, Nat.reduceEqDiff, Int.reduceEq, reduceCtorEq, Bool.false_eq_true, Bool.not_true, Bool.not_false, ne_eq, not_false_eq_true, not_true_eq_false, true_and, and_true, and_self, sz0, sz1, sz2, sz3, sz4, sz5, sz6, sz7, sz8, sz10, $xs,*])
theorem locksB_app {more : Store} : ∀ {L : List (Nat × List PyData)} {st : Store}, locksB L st = true → locksB L (st ++ more) = true
  | [], _, _ => rfl
  | (i, xs) :: L, st, h => by
    unfold locksB at h ⊢
    cases e : st[i]? with
    | none => rw [e] at h; cases h
    | some c =>
      obtain ⟨ys⟩ := c
      rw [e] at h
      have e2 : (st ++ more)[i]? = some (.lst ys) := by rw [List.getElem?_append_left (List.getElem?_eq_some_iff.mp e).1]; exact e
      rw [e2]
      simp only [Bool.and_eq_true] at h ⊢
      exact ⟨h.1, locksB_app h.2⟩
theorem LstW.enum {st : Store} {w : W} {xs : List PyData} (h : LstW st w xs) (hp : sameL xs xs = true) : ∃ L, locksB L st = true ∧ ∀ {more : Store} {Q : Iter → Store → Prop} {E : EQ}, Run (opEnum [w] (st ++ more)) Q E = Q ⟨enumItems 0 xs, L⟩ (st ++ more) := by
  rcases h with rfl | rfl | ⟨i, rfl, hi⟩
  · exact ⟨[], rfl, fun {m Q E} => run_enumL⟩
  · exact ⟨[], rfl, fun {m Q E} => run_enumT⟩
  · refine ⟨[(i, xs)], ?_, fun {m Q E} => ?_⟩
    · simp only [locksB, hi, hp, Bool.and_true]
    · have e2 : (st ++ m)[i]? = some (.lst xs) := by rw [List.getElem?_append_left (List.getElem?_eq_some_iff.mp hi).1]; exact hi
      simp only [opEnum, e2, run_ok]
theorem run_lenLst {st more : Store} {w : W} {xs : List PyData} (h : LstW st w xs) {E : EQ} {Q : W → Store → Prop} : Run (opLen [w] (st ++ more)) Q E = Q (.d (.int xs.length)) (st ++ more) := by
  rcases h with rfl | rfl | ⟨i, rfl, hi⟩
  · exact run_lenL
  · exact run_lenT
  · have e2 : (st ++ more)[i]? = some (.lst xs) := by rw [List.getElem?_append_left (List.getElem?_eq_some_iff.mp hi).1]; exact hi
    simp only [opLen, asSeq, e2, run_ok]
theorem run_lenW {st : Store} {w : W} {xs : List PyData} (h : LstW st w xs) {E : EQ} {Q : W → Store → Prop} : Run (opLen [w] st) Q E = Q (.d (.int xs.length)) st := by
  have := run_lenLst (more := []) h (E := E) (Q := Q)
  rwa [List.append_nil] at this
theorem run_range3 {st : Store} {E : EQ} {Q : Iter → Store → Prop} {a b : Int} : Run (opRange3 [.d (.int a), .d (.int b), .d (.int (-1))] st) Q E = ((inLong a && inLong b && decide ((-1 : Int) = -1)) = true ∧ Q ⟨downItems a (a - b).toNat, []⟩ st) := by
  show Run ((if _ then _ else _ : M Iter) st) Q E = _
  rw [run_ite, run_ret]
theorem down_nat (n : Nat) : downItems ((n : Int) + 1) (((n : Int) + 1) - 0).toNat = (List.range (n + 1)).map fun k => W.d (.int ((n : Int) + 1 + (k : Nat) * (-1))) := by
  unfold downItems
  rw [show ((n : Int) + 1 - 0).toNat = n + 1 by omega]
theorem run_setN' {st : Store} {E : EQ} {Q : Unit → Store → Prop} {k i : Nat} {l : List PyData} {y : PyData} (h : st[k]? = some (.lst l)) (hi : i < l.length) : Run (opSet (.ref k) (.d (.int (i : Int))) y st) Q E = Q () (st.set k (.lst (l.set i y))) := by
  have e : L2.ixN l.length (i : Int) = some i := by
    unfold L2.ixN
    simp [hi]
  simp only [opSet, h, e, run_ok]
theorem set_range' {α : Type} (n i : Nat) (f : Nat → α) (y : α) : ((List.range n).map f).set i y = (List.range n).map fun j => if j = i then y else f j := by
  apply List.ext_getElem
  · simp
  · intro j h1 h2
    simp at h1 h2
    rw [List.getElem_set]
    simp
    split <;> split <;> first | rfl | omega
structure Fc (x : Rat) : Prop where
  nn : 0 ≤ x
  sm : Small 30 x
def SpecTog (F : List W → M W) : Prop := ∀ (x y : PyData) (sizes : List Nat) (stake : Nat) (fs : List Rat) (w : W) (st : Store), LstW st w (fs.map frac) → (∀ f ∈ fs, Fc f) → fs.length ≤ 8 → (∀ k ∈ sizes, k ≤ fs.length) → sizes.length ≤ 8 → stake ≤ 1000000 →
  F [.d (.tuple [x, natsD sizes, nD stake, y]), w] st = some (.ok (.d (frac (togQ sizes stake fs))), st)
def F_together_b1 (C : Str → List Ev.W → Ev.M Ev.W) : Ev.Env → Ev.M Out := (sSeq (sAsg (sCallF 2 (C (Str.ofString "plus")) (sArgs [(sVar 6), (sBin opIx (sVar 2) (sVar 5))])) (gVar 6)) sNext)
def F_together_l1 (C : Str → List Ev.W → Ev.M Ev.W) : Ev.Env → Ev.M Out := (sFor (sIter (sBin opIx (sVar 0) (sCon (.int 1)))) (gVar 5) (F_together_b1 C))
def F_together_b3 (C : Str → List Ev.W → Ev.M Ev.W) : Ev.Env → Ev.M Out := (sSeq (sSetIx (sCallF 2 (C (Str.ofString "plus")) (sArgs [(sBin opIx (sVar 2) (sVar 5)), (sCallF 2 (C (Str.ofString "times")) (sArgs [(sBin opIx (sVar 2) (sBin opSub (sVar 5) (sCon (.int 1)))), (sVar 4)]))])) (sVar 2) (sVar 5)) sNext)
def F_together_l3 (C : Str → List Ev.W → Ev.M Ev.W) : Ev.Env → Ev.M Out := (sFor (sIterC opRange3 (sArgs [(sBin opAdd (sVar 3) (sCon (.int 1))), (sCon (.int 0)), (sUn opNeg (sCon (.int 1)))])) (gVar 5) (F_together_b3 C))
def F_together_b2 (C : Str → List Ev.W → Ev.M Ev.W) : Ev.Env → Ev.M Out := (sSeq (F_together_l3 C) sNext)
def F_together_l2 (C : Str → List Ev.W → Ev.M Ev.W) : Ev.Env → Ev.M Out := (sFor (sIterC opEnum (sArgs [(sVar 1)])) (gTuple [(gVar 3), (gVar 4)]) (F_together_b2 C))
def F_together (C : Str → List Ev.W → Ev.M Ev.W) : Ev.Env → Ev.M Out := (sSeq (sCell 2 (sBin opAdd (sCallB opLst (sArgs [(sCallB opTup (sArgs [(sCon (.int 1)), (sCon (.int 1))]))])) (sBin opMul (sCallB opLst (sArgs [(sCallB opTup (sArgs [(sCon (.int 0)), (sCon (.int 1))]))])) (sCallB opLen (sArgs [(sVar 1)]))))) (sSeq (F_together_l2 C) (sSeq (sAsg (sCallB opTup (sArgs [(sCon (.int 0)), (sCon (.int 1))])) (gVar 6)) (sSeq (F_together_l1 C) (sSeq (sRet (sCallF 2 (C (Str.ofString "times")) (sArgs [(sVar 6), (sCallB opTup (sArgs [(sBin opIx (sVar 0) (sCon (.int 2))), (sCon (.int 1))]))]))) sNext)))))
theorem es_sm {fs : List Rat} {k : Nat} (hf : ∀ f ∈ fs, Fc f) (hl : fs.length ≤ 8) : Small 500 (es k fs) := by
  refine es_small (s := 30) (fun x hx => ⟨(hf x hx).nn, (hf x hx).sm⟩) ?_
  omega
theorem esSum_sm {fs : List Rat} (hf : ∀ f ∈ fs, Fc f) (hl : fs.length ≤ 8) {ks : List Nat} (hk : ks.length ≤ 8) : Small 600 (rsum (ks.map fun k => es k fs)) := by
  rw [rsum_sum]
  have h1 : ∀ ks : List Nat, Dv (dens fs) (ks.map fun k => es k fs).sum ∧ 0 ≤ (ks.map fun k => es k fs).sum ∧ (ks.map fun k => es k fs).sum ≤ ((ks.length * 2 ^ ((30 + 1) * fs.length) : Nat) : Rat) := by
    intro ks
    induction ks with
    | nil => exact ⟨Dv.zero, by simp, by simp⟩
    | cons k ks ih =>
      obtain ⟨i1, i2, i3⟩ := ih
      have h2 := es_le (s := 30) k fs fun x hx => ⟨(hf x hx).nn, (hf x hx).sm⟩
      have h3 := es_nonneg k fs fun x hx => (hf x hx).nn
      rw [List.map_cons, List.sum_cons]
      refine ⟨(es_dv k fs).add i1, Rat.add_nonneg h3 i2, ?_⟩
      rw [List.length_cons, Nat.add_mul, Nat.one_mul, Rat.natCast_add]
      grind
  obtain ⟨a, b, c⟩ := h1 ks
  have hd := dens_lt (s := 30) (xs := fs) fun x hx => (hf x hx).sm
  have hd2 : dens fs < 2 ^ 241 := pow_up hd (by omega)
  have he : ks.length * 2 ^ ((30 + 1) * fs.length) ≤ 8 * 2 ^ 248 := Nat.mul_le_mul hk (Nat.pow_le_pow_right (by decide) (by omega))
  refine a.small (dens_pos fs) b c (pow_up hd2 (by decide)) ?_
  have h5 : ks.length * 2 ^ ((30 + 1) * fs.length) * dens fs ≤ 8 * 2 ^ 248 * 2 ^ 241 := Nat.mul_le_mul he (Nat.le_of_lt hd2)
  refine Nat.lt_of_le_of_lt h5 ?_
  decide +kernel
theorem frac_natI (k : Nat) : PyData.tuple [nD k, .int 1] = frac (k : Rat) := (rfl)
theorem nat_sm {k : Nat} (h : k ≤ 1000000) : Small 20 (k : Rat) := by
  refine ⟨?_, ?_⟩
  · show ((k : Int)).natAbs < 2 ^ 20
    omega
  · show 1 < 2 ^ 20
    decide
theorem range_split2 {m i : Nat} {done more : List Nat} (h : List.range m = done ++ i :: more) : i = done.length ∧ done.length < m ∧ done = List.range done.length := by
  obtain ⟨h1, h2⟩ := range_split' h
  refine ⟨h1, h2, ?_⟩
  have h3 := congrArg (List.take done.length) h
  rw [List.take_range, List.take_left, Nat.min_eq_left (by omega)] at h3
  exact h3.symm
theorem spec_together {C : Call} (hp : SpecPlus (C (Str.ofString "plus"))) (ht : SpecTimes (C (Str.ofString "times"))) : SpecTog (fnSem 2 7 (F_together C)) := by
  intro x y sizes stake fs w st hw hf hl hk hkl hst
  refine run_eq (run_fn (by rfl) ?_)
  obtain ⟨L, hL, hit⟩ := hw.enum (sameL_fracs fs)
  simp! only [F_together, ↓run_lenW hw, List.length_map, Int.toNat_natCast]
  refine ⟨⟨by omega, by omega, szl (by omega)⟩, szl (by simp; omega), ?_⟩
  have e0 : (PyData.tuple [.int 1, .int 1] :: (List.replicate fs.length [PyData.tuple [.int 0, .int 1]]).flatten) = (List.range (fs.length + 1)).map fun k => frac (es k []) := by
    rw [List.range_succ_eq_map, List.map_cons, List.map_map]
    congr 1
    rw [List.flatten_replicate_singleton]
    apply List.ext_getElem
    · simp
    · intro i h1 h2
      simp [es, frac_zero]
  rw [e0]
  simp! only [F_together_l2]
  refine run_for (emb := fun i => W.d (.tuple [nD i, frac (fs[i]!)])) (L := L) (List.range fs.length) (fun done ρ s => s = st ++ [.lst ((List.range (fs.length + 1)).map fun k => frac (es k (fs.take done.length)))] ∧ ∃ a3 a4 a5 : Option W, ρ = [some (.d (.tuple [x, natsD sizes, nD stake, y])), some w, some (.ref st.length), a3, a4, a5, none]) ?_ (fun _ _ _ h => by rw [h.1]; exact locksB_app hL) ⟨rfl, _, _, _, rfl⟩ ?_ ?_
  · simp! only [↓hit, enum_eq]
  · rintro done i more ρ s he ⟨rfl, a3, a4, a5, rfl⟩
    obtain ⟨rfl, hi⟩ := range_split' he
    have hxm := get_mem hi
    generalize hX : fs[done.length]! = X at *
    have hX2 := hf X hxm
    generalize hD : done.length = D at *
    have htk : fs.take (D + 1) = fs.take D ++ [X] := by rw [List.take_succ, get_some hi, hX]; rfl
    have hfD : ∀ f ∈ fs.take D, Fc f := fun f h => hf f (List.mem_of_mem_take h)
    have hlD : (fs.take D).length = D := by rw [List.length_take]; omega
    simp! only [F_together_b2, F_together_l3]
    refine run_for (emb := fun (k : Nat) => W.d (.int ((D : Int) + 1 + (k : Nat) * (-1)))) (L := []) (List.range (D + 1)) (fun don ρ s => s = st ++ [.lst ((List.range (fs.length + 1)).map fun k => frac (if D + 1 < k + don.length then es k (fs.take (D + 1)) else es k (fs.take D)))] ∧ ∃ a5 : Option W, ρ = [some (.d (.tuple [x, natsD sizes, nD stake, y])), some w, some (.ref st.length), some (.d (nD D)), some (.d (frac X)), a5, none]) ?_ (fun _ _ _ _ => rfl) ⟨?_, _, rfl⟩ ?_ ?_
    · have i1 : inLong ((D : Int) + 1) = true := by rw [show (D : Int) + 1 = ((D + 1 : Nat) : Int) by omega]; exact inLong_nat (by omega)
      simp! only [↓run_range3, i1, down_nat, show inLong 0 = true from rfl, decide_true, Bool.and_self]
    · congr 2
      congr 1
      apply List.map_congr_left
      intro k hk2
      split
      · next h =>
        rw [es_zero k (fs.take D) (by rw [hlD]; simp at h; omega), es_zero k (fs.take (D + 1)) (by rw [List.length_take]; simp at h; omega)]
      · rfl
    · rintro don j mor ρ s he2 ⟨rfl, a5, rfl⟩
      obtain ⟨rfl, hj⟩ := range_split' he2
      generalize hJ : don.length = J at *
      obtain ⟨S, hS⟩ : ∃ S, S + J = D := ⟨D - J, by omega⟩
      have c1 : (st ++ [Cell.lst ((List.range (fs.length + 1)).map fun k => frac (if D + 1 < k + J then es k (fs.take (D + 1)) else es k (fs.take D)))])[st.length]? = some (.lst (((List.range (fs.length + 1)).map fun k => if D + 1 < k + J then es k (fs.take (D + 1)) else es k (fs.take D)).map frac)) := by
        rw [List.map_map]
        exact app_get
      have q1 : (D : Int) + 1 + (J : Nat) * (-1) = ((S + 1 : Nat) : Int) := by omega
      have q2 : ((S + 1 : Nat) : Int) - 1 = (S : Nat) := by omega
      have hlR : ∀ k, k ≤ D + 1 → k < ((List.range (fs.length + 1)).map fun k => if D + 1 < k + J then es k (fs.take (D + 1)) else es k (fs.take D)).length := fun k h => by simp; omega
      have g1 : ((List.range (fs.length + 1)).map fun k => if D + 1 < k + J then es k (fs.take (D + 1)) else es k (fs.take D))[S + 1]! = es (S + 1) (fs.take D) := by
        have : S + 1 < fs.length + 1 := by omega
        simp [this]
        omega
      have g2 : ((List.range (fs.length + 1)).map fun k => if D + 1 < k + J then es k (fs.take (D + 1)) else es k (fs.take D))[S]! = es S (fs.take D) := by
        have : S < fs.length + 1 := by omega
        simp [this]
        omega
      have s1 := es_sm (k := S) hfD (by omega)
      have s2 := es_sm (k := S + 1) hfD (by omega)
      have t1 := ht _ _ (s1.mono (by decide)) (hX2.sm.mono (by decide))
      have t2 := hp _ _ (s2.mono (by decide)) ((s1.mul hX2.sm).mono (by decide))
      rw [← es_snoc, ← htk] at t2
      simp! only [F_together_b3, q1, q2, ↓run_ixR c1 (hlR (S + 1) (by omega)), ↓run_ixR c1 (hlR S (by omega)), g1, g2, t1.run, t2.run]
      have c2 : (st ++ [Cell.lst ((List.range (fs.length + 1)).map fun k => frac (if D + 1 < k + J then es k (fs.take (D + 1)) else es k (fs.take D)))])[st.length]? = some (.lst ((List.range (fs.length + 1)).map fun k => frac (if D + 1 < k + J then es k (fs.take (D + 1)) else es k (fs.take D)))) := app_get
      simp! only [↓run_setN' c2 (show S + 1 < ((List.range (fs.length + 1)).map fun k => frac (if D + 1 < k + J then es k (fs.take (D + 1)) else es k (fs.take D))).length by simp; omega), app_set]
      refine ⟨?_, _, rfl⟩
      rw [set_range']
      congr 3
      apply List.map_congr_left
      intro k _
      by_cases hkS : k = S + 1
      · subst hkS
        have : D + 1 < S + 1 + (don ++ [J]).length := by rw [List.length_append, List.length_singleton, hJ]; omega
        simp only [if_true, this]
      · rw [if_neg hkS, List.length_append, List.length_singleton, hJ]
        congr 1
        by_cases h1 : D + 1 < k + J
        · rw [if_pos h1, if_pos (by omega)]
        · rw [if_neg h1, if_neg (by omega)]
    · rintro ρ s ⟨rfl, a5, rfl⟩
      simp! only []
      refine ⟨?_, _, _, _, rfl⟩
      rw [List.length_append, List.length_singleton, hD, List.length_range]
      congr 3
      apply List.map_congr_left
      intro k _
      congr 1
      by_cases h1 : D + 1 < k + (D + 1)
      · rw [if_pos h1]
      · rw [if_neg h1, show k = 0 by omega, es, es]
  · rintro ρ s ⟨rfl, a3, a4, a5, rfl⟩
    rw [List.length_range, List.take_length]
    have c1 : (st ++ [Cell.lst ((List.range (fs.length + 1)).map fun k => frac (es k fs))])[st.length]? = some (.lst (((List.range (fs.length + 1)).map fun k => es k fs).map frac)) := by
      rw [List.map_map]
      exact app_get
    simp! only [F_together_l1]
    refine run_for (emb := fun k => W.d (nD k)) (L := []) sizes (fun done ρ s => s = st ++ [Cell.lst ((List.range (fs.length + 1)).map fun k => frac (es k fs))] ∧ ∃ a5 : Option W, ρ = [some (.d (.tuple [x, natsD sizes, nD stake, y])), some w, some (.ref st.length), a3, a4, a5, some (.d (frac (rsum (done.map fun k => es k fs))))]) ?_ (fun _ _ _ _ => rfl) ⟨rfl, _, rfl⟩ ?_ ?_
    · simp! only [natsD, List.map_map]
      rfl
    · rintro done k more ρ s he ⟨rfl, a5, rfl⟩
      have hkl2 := hk k (prefix_mem he).1
      have hdl := prefix_len he
      have g1 : ((List.range (fs.length + 1)).map fun k => es k fs)[k]! = es k fs := by
        have : k < fs.length + 1 := by omega
        simp [this]
      have t1 := hp _ _ ((esSum_sm hf hl (ks := done) (by omega)).mono (by decide)) ((es_sm (k := k) hf hl).mono (by decide))
      rw [← rsum_snoc, show (done.map fun k => es k fs) ++ [es k fs] = (done ++ [k]).map fun k => es k fs by simp] at t1
      simp! only [F_together_b1, ↓run_ixR c1 (show k < ((List.range (fs.length + 1)).map fun k => es k fs).length by simp; omega), g1, t1.run]
      exact ⟨_, rfl⟩
    · rintro ρ s ⟨rfl, a5, rfl⟩
      have t1 := ht _ _ ((esSum_sm hf hl hkl).mono (by decide)) ((nat_sm hst).mono (by decide))
      simp! only [frac_natI, t1.run, togQ, esSum]
      simp
end Ev

namespace Ev
open PySem
local macro_rules | `(tactic| simp! only [$xs,*]) => `(tactic| simp only [↓run_seq, ↓run_asg, ↓run_next, ↓run_expr, ↓run_retS, ↓run_ifS, ↓run_cell, ↓run_toNew, ↓run_toD, ↓run_toRef, ↓run_par, ↓run_store0, ↓run_storeF, ↓run_storeT, ↓run_setIx, ↓run_ok, ↓run_ret, ↓run_fail, ↓run_none, ↓run_bind, ↓run_var0, ↓run_varS, ↓run_con, ↓run_bin, ↓run_un, ↓run_args0, ↓run_argsS, ↓run_callB, ↓run_meth, ↓run_callF, ↓run_test, ↓run_testB, ↓run_not, ↓run_and, ↓run_or, ↓run_if, ↓run_truthB, ↓run_andV, ↓run_orV, ↓run_notV, ↓run_chain, ↓run_chain3, ↓run_part0, ↓run_part1, ↓run_slice, ↓run_iter, ↓run_iterC, ↓run_add, ↓run_addT, ↓run_addS, ↓run_addLL, ↓run_addNN, ↓run_addLN, ↓run_addNL, ↓run_sub, ↓run_neg, ↓run_mul, ↓run_div, ↓run_mod, ↓run_mulNI, ↓run_mulLI, ↓run_eqI, ↓run_neI, ↓run_eqS, ↓run_lt, ↓run_le, ↓run_gt, ↓run_ge, ↓run_isN, ↓run_notN, ↓run_isi, ↓run_isB, ↓run_notB, ↓run_ltS, ↓run_leS, ↓run_mulTI, ↓run_ix0, ↓run_ix1, ↓run_ix2, ↓run_ix3, ↓run_ix0L, ↓run_ix1L, ↓run_ix0N, ↓run_lenT, ↓run_lenL, ↓run_lenN, ↓run_tupleN, ↓run_tupleL, ↓run_tupleT, ↓run_listT, ↓run_listN, ↓run_listL, ↓run_slT, ↓run_slL, ↓run_slN, ↓run_revT, ↓run_revN, ↓run_revL, ↓run_max2, ↓run_min2, ↓run_rg1, ↓run_rg2, ↓run_trB, ↓run_trI, ↓run_trT, ↓run_trL, ↓run_trN, ↓run_trNone, ↓run_itT, ↓run_itL, ↓run_itN, ↓run_range1, ↓run_range2, ↓run_zipTT, ↓run_enumT, ↓run_enumL, ↓run_enumN, ↓two_t, ↓two_f, ↓outN_nx, ↓outN_ret, ↓outQ_nx, ↓outQ_d, ↓outQ_new, ↓setG_some, ↓asD_d, run_ite, run_ite', gVar, gTuple, gAll, frz_new, frz_d, frz_ref, frz_scr, isLst, isStr, opTup, opLst, allD, isTy, isN_none, isN_int, isN_bool, isN_str, isN_tup, isN_lst, isN_ref, isN_new, wipeG, List.map_cons, List.map_nil, List.set_cons_zero, List.set_cons_succ, List.length_cons, List.length_nil, List.cons_append, List.nil_append, List.replicate, Nat.reduceAdd, Nat.reduceSub, Nat.reduceLeDiff, Nat.reduceEqDiff, Int.reduceEq, reduceCtorEq, Bool.false_eq_true, Bool.not_true, Bool.not_false, ne_eq, not_false_eq_true, not_true_eq_false, true_and, and_true, and_self, sz0, sz1, sz2, sz3, sz4, sz5, sz6, sz7, sz8, sz10, $xs,*])
theorem sum_nats' (xs : List Nat) : (xs.map Int.ofNat).sum = (xs.sum : Nat) := by
  induction xs with
  | nil => rfl
  | cons x xs ih => rw [List.map_cons, List.sum_cons, ih, List.sum_cons]; simp
theorem run_sumNat' {st : Store} {E : EQ} {Q : W → Store → Prop} {xs : List Nat} : Run (opSum [.new (xs.map nD)] st) Q E = Q (.d (nD xs.sum)) st := by
  rw [← map_nD, run_sumN, sum_nats']
theorem divS' {b : Nat} (h0 : 0 < b) (hb : b < 2 ^ 40) : divOk (b : Int) = true := divOk_of (by omega) (pow_up (n := 40) (by omega) (by decide))
theorem fdivN' {a b : Nat} : ((a : Int).fdiv (b : Int)) = ((a / b : Nat) : Int) := by
  rw [Int.fdiv_eq_ediv_of_nonneg _ (by omega)]
  rfl
/-! ### how many choices -/
def chs : Nat → Nat → Nat
  | _, 0 => 1
  | 0, _ + 1 => 0
  | n + 1, k + 1 => chs n k + chs n (k + 1)
theorem chs_zero : ∀ {n k : Nat}, n < k → chs n k = 0
  | 0, k + 1, _ => rfl
  | n + 1, k + 1, h => by rw [chs, chs_zero (n := n) (k := k) (by omega), chs_zero (n := n) (k := k + 1) (by omega)]
theorem chs_step : ∀ (n k : Nat), chs n (k + 1) * (k + 1) = chs n k * (n - k)
  | 0, 0 => rfl
  | 0, k + 1 => by simp [chs]
  | n + 1, 0 => by
    have h := chs_step n 0
    simp only [chs, Nat.zero_add, Nat.mul_one, Nat.one_mul, Nat.sub_zero] at h ⊢
    omega
  | n + 1, j + 1 => by
    have h1 := chs_step n j
    have h2 := chs_step n (j + 1)
    rw [chs, chs, Nat.add_mul, h2, Nat.add_mul]
    by_cases hj : j < n
    · have e1 : n + 1 - (j + 1) = n - j := by omega
      obtain ⟨d, hd⟩ : ∃ d, n - j = d + 1 := ⟨n - j - 1, by omega⟩
      have e2 : n - (j + 1) = d := by omega
      rw [e1, e2, ← h1, hd]
      generalize chs n (j + 1) = a
      rw [Nat.mul_add a (j + 1) 1, Nat.mul_add a d 1]
      omega
    · have hz : chs n (j + 1) = 0 := chs_zero (by omega)
      rw [hz, show n + 1 - (j + 1) = 0 by omega]
      simp
theorem chs_le : ∀ (n k : Nat), chs n k ≤ 2 ^ n
  | 0, 0 => by decide
  | 0, k + 1 => by simp [chs]
  | n + 1, 0 => by rw [chs]; exact Nat.one_le_two_pow
  | n + 1, k + 1 => by
    have h1 := chs_le n k
    have h2 := chs_le n (k + 1)
    rw [chs, Nat.pow_succ]
    omega
def SpecHow (F : List W → M W) : Prop := ∀ many size : Nat, many ≤ 30 → size ≤ 30 → Gives F [.d (nD many), .d (nD size)] (.d (nD (chs many size)))
def F_how_many_b1 (C : Str → List Ev.W → Ev.M Ev.W) : Ev.Env → Ev.M Out := (sSeq (sAsg (sBin opDiv (sBin opMul (sVar 2) (sBin opSub (sVar 0) (sVar 3))) (sBin opAdd (sVar 3) (sCon (.int 1)))) (gVar 2)) sNext)
def F_how_many_l1 (C : Str → List Ev.W → Ev.M Ev.W) : Ev.Env → Ev.M Out := (sFor (sIterC opRange1 (sArgs [(sVar 1)])) (gVar 3) (F_how_many_b1 C))
def F_how_many (C : Str → List Ev.W → Ev.M Ev.W) : Ev.Env → Ev.M Out := (sSeq (sAsg (sCon (.int 1)) (gVar 2)) (sSeq (F_how_many_l1 C) (sSeq (sRet (sVar 2)) sNext)))
theorem spec_how_many (C : Call) : SpecHow (fnSem 2 4 (F_how_many C)) := by
  intro many size hm hs
  refine gives_of fun st => run_fn (by rfl) ?_
  simp! only [F_how_many, F_how_many_l1]
  refine run_for (emb := fun k => W.d (nD k)) (L := []) (List.range size) (fun done ρ s => s = st ∧ ∃ a3 : Option W, ρ = [some (.d (nD many)), some (.d (nD size)), some (.d (nD (chs many done.length))), a3]) ?_ (fun _ _ _ _ => rfl) ⟨rfl, _, by rw [List.length_nil, chs]; rfl⟩ ?_ ?_
  · simp! only [rangeItems_nat, inLong_nat (show size ≤ 1000000 by omega)]
  · rintro done k more ρ s he ⟨rfl, a3, rfl⟩
    obtain ⟨rfl, hk⟩ := range_split' he
    generalize hK : done.length = K at *
    have hb : chs many K ≤ 2 ^ 30 := Nat.le_trans (chs_le _ _) (Nat.pow_le_pow_right (by decide) hm)
    have m1 : mulOk ((chs many K : Nat) : Int) ((many : Int) - K) = true := Small.mulOk (n := 40) (m := 40) (by omega) (by omega) (by decide) (by decide)
    have d1 : divOk ((K : Int) + 1) = true := divS' (b := K + 1) (by omega) (by omega)
    have q : (((chs many K : Nat) : Int) * ((many : Int) - K)).fdiv ((K : Int) + 1) = (chs many (K + 1) : Nat) := by
      by_cases h : K ≤ many
      · rw [show (many : Int) - K = ((many - K : Nat) : Int) by omega, ← Int.natCast_mul, ← chs_step, show (K : Int) + 1 = ((K + 1 : Nat) : Int) by omega, fdivN', Nat.mul_div_cancel _ (by omega)]
      · rw [chs_zero (show many < K by omega), chs_zero (show many < K + 1 by omega)]
        simp
    simp! only [F_how_many_b1, m1, d1, q, List.length_append, hK]
    exact ⟨_, rfl⟩
  · rintro ρ s ⟨rfl, a3, rfl⟩
    simp! only [List.length_range, List.take_length]
/-! ### how a slip stands -/
def cntN (sizes : List Nat) (n : Nat) : Nat := (sizes.map fun k => chs n k).sum
def leftO (fs : List (Option Rat)) : List (Option Rat) := fs.filter fun o => !decide (o = some 0)
def endedO (fs : List (Option Rat)) : List (Option Rat) := (leftO fs).filter fun o => o.isSome
structure Tri where
  a : Int
  b : Int
  c : Int
def Tri.d (t : Tri) : PyData := .tuple [.int t.a, .int t.b, .int t.c]
def Tri.add (s t : Tri) : Tri := ⟨s.a + t.a, s.b + t.b, s.c + t.c⟩
def countQ (sizes : List Nat) (fs : List (Option Rat)) : Tri := ⟨(cntN sizes fs.length : Int) - cntN sizes (leftO fs).length, (cntN sizes (leftO fs).length : Int) - cntN sizes (endedO fs).length, cntN sizes (endedO fs).length⟩
def SpecCounted (F : List W → M W) : Prop := ∀ (x y z : PyData) (sizes : List Nat) (fs : List (Option Rat)), fs.length ≤ 30 → sizes.length ≤ 1000 → (∀ k ∈ sizes, k ≤ 30) → Gives F [.d (.tuple [x, natsD sizes, y, z]), .d (.list (fs.map optF))] (.d (countQ sizes fs).d)
def F_counted_b1 (C : Str → List Ev.W → Ev.M Ev.W) : Ev.Env → Ev.M Ev.W := (sCallF 2 (C (Str.ofString "how_many")) (sArgs [(sCallB opLen (sArgs [(sVar 1)])), (sVar 6)]))
def F_counted_l1 (C : Str → List Ev.W → Ev.M Ev.W) : Ev.Env → Ev.M Ev.W := (sLc (sIter (sBin opIx (sVar 0) (sCon (.int 1)))) [6] (gVar 6) sYes (F_counted_b1 C))
def F_counted_b2 (C : Str → List Ev.W → Ev.M Ev.W) : Ev.Env → Ev.M Ev.W := (sCallF 2 (C (Str.ofString "how_many")) (sArgs [(sCallB opLen (sArgs [(sVar 4)])), (sVar 6)]))
def F_counted_l2 (C : Str → List Ev.W → Ev.M Ev.W) : Ev.Env → Ev.M Ev.W := (sLc (sIter (sBin opIx (sVar 0) (sCon (.int 1)))) [6] (gVar 6) sYes (F_counted_b2 C))
def F_counted_b3 (C : Str → List Ev.W → Ev.M Ev.W) : Ev.Env → Ev.M Ev.W := (sCallF 2 (C (Str.ofString "how_many")) (sArgs [(sCallB opLen (sArgs [(sVar 2)])), (sVar 6)]))
def F_counted_l3 (C : Str → List Ev.W → Ev.M Ev.W) : Ev.Env → Ev.M Ev.W := (sLc (sIter (sBin opIx (sVar 0) (sCon (.int 1)))) [6] (gVar 6) sYes (F_counted_b3 C))
def F_counted_c4 (C : Str → List Ev.W → Ev.M Ev.W) : Ev.Env → Ev.M Bool := (sTestB (sBin opNotN (sVar 3) (sCon .none)))
def F_counted_b4 (C : Str → List Ev.W → Ev.M Ev.W) : Ev.Env → Ev.M Ev.W := (sVar 3)
def F_counted_l4 (C : Str → List Ev.W → Ev.M Ev.W) : Ev.Env → Ev.M Ev.W := (sLc (sIter (sVar 2)) [3] (gVar 3) (F_counted_c4 C) (F_counted_b4 C))
def F_counted_c5 (C : Str → List Ev.W → Ev.M Ev.W) : Ev.Env → Ev.M Bool := (sTestB (sBin opNe (sVar 3) (sCallB opTup (sArgs [(sCon (.int 0)), (sCon (.int 1))]))))
def F_counted_b5 (C : Str → List Ev.W → Ev.M Ev.W) : Ev.Env → Ev.M Ev.W := (sVar 3)
def F_counted_l5 (C : Str → List Ev.W → Ev.M Ev.W) : Ev.Env → Ev.M Ev.W := (sLc (sIter (sVar 1)) [3] (gVar 3) (F_counted_c5 C) (F_counted_b5 C))
def F_counted (C : Str → List Ev.W → Ev.M Ev.W) : Ev.Env → Ev.M Out := (sSeq (sAsg (F_counted_l5 C) (gVar 2)) (sSeq (sAsg (F_counted_l4 C) (gVar 4)) (sSeq (sAsg (sCallB opSum (sArgs [(F_counted_l3 C)])) (gVar 5)) (sSeq (sAsg (sCallB opSum (sArgs [(F_counted_l2 C)])) (gVar 7)) (sSeq (sRet (sCallB opTup (sArgs [(sBin opSub (sCallB opSum (sArgs [(F_counted_l1 C)])) (sVar 5)), (sBin opSub (sVar 5) (sVar 7)), (sVar 7)]))) sNext)))))
theorem eqv_optF (o : Option Rat) : PyData.eqv (optF o) (frac 0) = decide (o = some 0) := by
  cases o with
  | none => rfl
  | some x =>
    have h := run_eqF (x := x) (y := 0) (st := []) (E := noE) (Q := fun w _ => w = .d (.bool (PyData.eqv (frac x) (frac 0))))
    rw [run_eqD] at h
    simp only [Shp.frac.shaped, Bool.and_true, true_and, W.d.injEq, PyData.bool.injEq] at h
    have h2 := h.mp trivial
    show PyData.eqv (frac x) (frac 0) = _
    rw [← h2]
    simp
theorem shaped_optF (o : Option Rat) : SeqAt.shaped (optF o) = true := by
  cases o with
  | none => exact Shp.none.shaped
  | some x => exact Shp.frac.shaped
theorem isN_frac {x : Rat} : isNone (.d (frac x)) = false := (rfl)
theorem isNone_optF (o : Option Rat) : isNone (.d (optF o)) = !o.isSome := by cases o <;> rfl
theorem cnt_run {C : Call} (hh : SpecHow (C (Str.ofString "how_many"))) {sizes : List Nat} (hk : ∀ k ∈ sizes, k ≤ 30) (hl : sizes.length ≤ 1000) {n : Nat} (hn : n ≤ 30) {it : Env → M Iter} {vs : List Nat} {g : Tg} {f : Env → M W} {ρ : Env} {st : Store} {E : EQ} {Q : W → Store → Prop}
    (hit : Run (it ρ st) (fun I s => I = ⟨sizes.map fun k => W.d (nD k), []⟩ ∧ s = st) noE) (hg : ∀ k ∈ sizes, setG (g (W.d (nD k)) (wipeG ρ vs)) fun ρ1 => Run (f ρ1 st) (fun v s => frz v = .d (nD (chs n k)) ∧ s = st) noE) (he : Q (.d (nD (cntN sizes n))) st) :
    Run (sLc it vs g sYes f ρ st) (fun x s => Run (opSum [x] s) Q E) E := by
  refine run_map (L := []) (emb := fun k => W.d (nD k)) sizes (fun k => nD (chs n k)) hit (szl (by omega)) rfl hg ?_
  have e : sizes.map (fun k => nD (chs n k)) = (sizes.map fun k => chs n k).map nD := by rw [List.map_map]; rfl
  rw [e, run_sumNat']
  exact he
theorem spec_counted {C : Call} (hh : SpecHow (C (Str.ofString "how_many"))) : SpecCounted (fnSem 2 8 (F_counted C)) := by
  intro x y z sizes fs hf hl hk
  refine gives_of fun st => run_fn (by rfl) ?_
  simp! only [F_counted, F_counted_l5]
  refine run_filter (L := []) (emb := fun o => W.d (optF o)) fs (fun o => !decide (o = some 0)) optF ?_ (szl (by omega)) rfl ?_ ?_
  · simp! only [List.map_map]
    rfl
  · intro o ho
    simp! only [F_counted_c5, F_counted_b5, ← frac_zero, ↓run_neD, shaped_optF, Shp.frac.shaped, Bool.and_self, eqv_optF]
    exact fun _ => trivial
  simp! only [F_counted_l4]
  have hll : (leftO fs).length ≤ fs.length := List.length_filter_le _ _
  have hle : (endedO fs).length ≤ (leftO fs).length := List.length_filter_le _ _
  refine run_filter (L := []) (emb := fun o => W.d (optF o)) (leftO fs) (fun o => o.isSome) optF ?_ (szl (by omega)) rfl ?_ ?_
  · simp! only [List.map_map]
    rfl
  · intro o ho
    cases o <;> simp! only [F_counted_c4, F_counted_b4, optF, isN_frac, Option.isSome_none, Option.isSome_some]
    all_goals first | exact fun h => trivial | exact fun h => absurd h (by decide) | trivial
  simp! only [F_counted_l3]
  refine cnt_run hh hk hl (n := (leftO fs).length) (by omega) ?_ ?_ ?_
  · simp! only [natsD, List.map_map]
    rfl
  · intro k hk2
    have e := hh (leftO fs).length k (by omega) (hk k hk2)
    have e2 : (List.map optF (List.filter (fun o => !decide (o = some 0)) fs)).length = (leftO fs).length := by rw [List.length_map]; rfl
    simp! only [F_counted_b3, e2, e.run]
  simp! only [F_counted_l2]
  refine cnt_run hh hk hl (n := (endedO fs).length) (by omega) ?_ ?_ ?_
  · simp! only [natsD, List.map_map]
    rfl
  · intro k hk2
    have e := hh (endedO fs).length k (by omega) (hk k hk2)
    have e2 : (List.map optF (List.filter (fun o => o.isSome) (leftO fs))).length = (endedO fs).length := by rw [List.length_map]; rfl
    simp! only [F_counted_b2, e2, e.run]
  simp! only [F_counted_l1]
  refine cnt_run hh hk hl (n := fs.length) (by omega) ?_ ?_ ?_
  · simp! only [natsD, List.map_map]
    rfl
  · intro k hk2
    have e := hh fs.length k (by omega) (hk k hk2)
    simp! only [F_counted_b1, List.length_map, e.run]
  simp! only [List.take_length]
  rfl
end Ev

namespace Ev
open PySem
local macro_rules | `(tactic| simp! only [$xs,*]) => `(tactic| simp only [↓run_seq, ↓run_asg, ↓run_next, ↓run_expr, ↓run_retS, ↓run_ifS, ↓run_cell, ↓run_toNew, ↓run_toD, ↓run_toRef, ↓run_par, ↓run_store0, ↓run_storeF, ↓run_storeT, ↓run_setIx, ↓run_ok, ↓run_ret, ↓run_fail, ↓run_none, ↓run_bind, ↓run_var0, ↓run_varS, ↓run_con, ↓run_bin, ↓run_un, ↓run_args0, ↓run_argsS, ↓run_callB, ↓run_meth, ↓run_callF, ↓run_test, ↓run_testB, ↓run_not, ↓run_and, ↓run_or, ↓run_if, ↓run_truthB, ↓run_andV, ↓run_orV, ↓run_notV, ↓run_chain, ↓run_chain3, ↓run_part0, ↓run_part1, ↓run_slice, ↓run_iter, ↓run_iterC, ↓run_add, ↓run_addT, ↓run_addS, ↓run_addLL, ↓run_addNN, ↓run_addLN, ↓run_addNL, ↓run_sub, ↓run_neg, ↓run_mul, ↓run_div, ↓run_mod, ↓run_mulNI, ↓run_mulLI, ↓run_eqI, ↓run_neI, ↓run_eqS, ↓run_lt, ↓run_le, ↓run_gt, ↓run_ge, ↓run_isN, ↓run_notN, ↓run_isi, ↓run_isB, ↓run_notB, ↓run_ltS, ↓run_leS, ↓run_mulTI, ↓run_ix0, ↓run_ix1, ↓run_ix2, ↓run_ix3, ↓run_ix0L, ↓run_ix1L, ↓run_ix0N, ↓run_lenT, ↓run_lenL, ↓run_lenN, ↓run_tupleN, ↓run_tupleL, ↓run_tupleT, ↓run_listT, ↓run_listN, ↓run_listL, ↓run_slT, ↓run_slL, ↓run_slN, ↓run_revT, ↓run_revN, ↓run_revL, ↓run_max2, ↓run_min2, ↓run_rg1, ↓run_rg2, ↓run_trB, ↓run_trI, ↓run_trT, ↓run_trL, ↓run_trN, ↓run_trNone, ↓run_itT, ↓run_itL, ↓run_itN, ↓run_range1, ↓run_range2, ↓run_zipTT, ↓run_enumT, ↓run_enumL, ↓run_enumN, ↓two_t, ↓two_f, ↓outN_nx, ↓outN_ret, ↓outQ_nx, ↓outQ_d, ↓outQ_new, ↓setG_some, ↓asD_d, run_ite, run_ite', gVar, gTuple, gAll, frz_new, frz_d, frz_ref, frz_scr, isLst, isStr, opTup, opLst, allD, isTy, isN_none, isN_int, isN_bool, isN_str, isN_tup, isN_lst, isN_ref, isN_new, wipeG, List.map_cons, List.map_nil, List.set_cons_zero, List.set_cons_succ, List.length_cons, List.length_nil, List.cons_append, List.nil_append, List.replicate, Nat.reduceAdd, Nat.reduceSub, Nat.reduceLeDiff, Nat.reduceEqDiff, Int.reduceEq, reduceCtorEq, Bool.false_eq_true, Bool.not_true, Bool.not_false, ne_eq, not_false_eq_true, not_true_eq_false, true_and, and_true, and_self, sz0, sz1, sz2, sz3, sz4, sz5, sz6, sz7, sz8, sz10, $xs,*])
/-! ### sides of a slip -/
def sidesB (both : Bool) : List Bool := if both = true then [false, true] else [false]
def SpecSides (F : List W → M W) : Prop := ∀ (x y z : PyData) (both : Bool), Gives F [.d (.tuple [x, y, z, .bool both])] (.d (.tuple ((sidesB both).map PyData.bool)))
def F_sides (C : Str → List Ev.W → Ev.M Ev.W) : Ev.Env → Ev.M Out := (sSeq (sRet (sIf (sTest (sBin opIx (sVar 0) (sCon (.int 3)))) (sCallB opTup (sArgs [(sCon (.bool false)), (sCon (.bool true))])) (sCallB opTup (sArgs [(sCon (.bool false))])))) sNext)
theorem spec_sides (C : Call) : SpecSides (fnSem 1 1 (F_sides C)) := by
  intro x y z both
  refine gives_of fun st => run_fn (by rfl) ?_
  cases both <;> simp! only [F_sides, sidesB, List.take_length, if_true, if_false]
def facO (card : List Event) (legs : List Leg) (rs : List (Option Result)) (placed : Bool) : List (Option Rat) := legs.map fun l => factorQ card l rs placed
def standQ (card : List Event) (s : Slip) (rs : List (Option Result)) : Tri := (sidesB s.both).foldl (fun (t : Tri) p => t.add (countQ s.sizes (facO card s.legs rs p))) ⟨0, 0, 0⟩
structure SlipG (card : List Event) (s : Slip) : Prop where
  leg : ∀ l ∈ s.legs, l.Ok card
  len : s.legs.length ≤ 8
  szl : s.sizes.length ≤ 8
  sz : ∀ k ∈ s.sizes, k ≤ s.legs.length
  stk : s.stake ≤ 1000000
theorem pw_len : ∀ {l : List Nat} {lo m : Nat}, l.Pairwise (· < ·) → (∀ k ∈ l, lo ≤ k ∧ k < lo + m) → l.length ≤ m
  | [], _, _, _, _ => Nat.zero_le _
  | a :: l, lo, m, h, hb => by
    have ha := hb a List.mem_cons_self
    rw [List.pairwise_cons] at h
    have := pw_len (lo := a + 1) (m := lo + m - (a + 1)) h.2 fun k hk => by
      have h1 := h.1 k hk
      have h2 := hb k (List.mem_cons_of_mem _ hk)
      omega
    rw [List.length_cons]
    omega
theorem Slip.Ok.g {card : List Event} {s : Slip} (h : s.Ok card) (hl : s.legs.length ≤ 8) : SlipG card s := by
  refine ⟨h.leg, hl, ?_, fun k hk => (h.sb k hk).2, h.st2⟩
  have := pw_len (lo := 1) (m := s.legs.length) h.sz fun k hk => by have := h.sb k hk; omega
  omega
def SpecStanding (F : List W → M W) : Prop := ∀ (card : List Event) (s : Slip) (rs : List (Option Result)), CardG card → SlipG card s → ResOk card rs → Gives F [.d (cardD card), .d s.d, .d (resultsD rs)] (.d (standQ card s rs).d)
def F_standing_b2 (C : Str → List Ev.W → Ev.M Ev.W) : Ev.Env → Ev.M Ev.W := (sBin opAdd (sVar 7) (sVar 8))
def F_standing_l2 (C : Str → List Ev.W → Ev.M Ev.W) : Ev.Env → Ev.M Ev.W := (sLc (sIterC opZip (sArgs [(sVar 3), (sVar 5)])) [7, 8] (gTuple [(gVar 7), (gVar 8)]) sYes (F_standing_b2 C))
def F_standing_b3 (C : Str → List Ev.W → Ev.M Ev.W) : Ev.Env → Ev.M Ev.W := (sCallF 4 (C (Str.ofString "factor")) (sArgs [(sVar 0), (sVar 6), (sVar 2), (sVar 4)]))
def F_standing_l3 (C : Str → List Ev.W → Ev.M Ev.W) : Ev.Env → Ev.M Ev.W := (sLc (sIter (sBin opIx (sVar 1) (sCon (.int 0)))) [6] (gVar 6) sYes (F_standing_b3 C))
def F_standing_b1 (C : Str → List Ev.W → Ev.M Ev.W) : Ev.Env → Ev.M Out := (sSeq (sAsg (sCallF 2 (C (Str.ofString "counted")) (sArgs [(sVar 1), (F_standing_l3 C)])) (gVar 5)) (sSeq (sAsg (sCallB opTuple (sArgs [(F_standing_l2 C)])) (gVar 3)) sNext))
def F_standing_l1 (C : Str → List Ev.W → Ev.M Ev.W) : Ev.Env → Ev.M Out := (sFor (sIter (sCallF 1 (C (Str.ofString "sides")) (sArgs [(sVar 1)]))) (gVar 4) (F_standing_b1 C))
def F_standing (C : Str → List Ev.W → Ev.M Ev.W) : Ev.Env → Ev.M Out := (sSeq (sAsg (sCallB opTup (sArgs [(sCon (.int 0)), (sCon (.int 0)), (sCon (.int 0))])) (gVar 3)) (sSeq (F_standing_l1 C) (sSeq (sRet (sVar 3)) sNext)))
theorem foldl_snoc {α β : Type} (f : β → α → β) (b : β) (l : List α) (a : α) : (l ++ [a]).foldl f b = f (l.foldl f b) a := by simp
theorem spec_standing {C : Call} (hs : SpecSides (C (Str.ofString "sides"))) (hc : SpecCounted (C (Str.ofString "counted"))) (hf : SpecFactor (C (Str.ofString "factor"))) : SpecStanding (fnSem 3 9 (F_standing C)) := by
  intro card s rs hg hS hr
  refine gives_of fun st => run_fn (by rfl) ?_
  have e1 := hs (legsD s.legs) (natsD s.sizes) (nD s.stake) s.both
  simp! only [F_standing, F_standing_l1]
  refine run_forI ?_
  simp! only [Slip.d, e1.run]
  refine run_for (emb := fun b => W.d (.bool b)) (L := []) (sidesB s.both) (fun done ρ s' => s' = st ∧ ∃ a4 a5 : Option W, ρ = [some (.d (cardD card)), some (.d s.d), some (.d (resultsD rs)), some (.d (done.foldl (fun (t : Tri) p => t.add (countQ s.sizes (facO card s.legs rs p))) ⟨0, 0, 0⟩).d), a4, a5, none, none, none]) ?_ (fun _ _ _ _ => rfl) ⟨rfl, _, _, rfl⟩ ?_ ?_
  · simp! only [List.map_map]
    rfl
  · rintro done p more ρ s' he ⟨rfl, a4, a5, rfl⟩
    simp! only [F_standing_b1, F_standing_l3, Slip.d]
    refine run_map (L := []) (emb := fun l => W.d (Leg.d l)) s.legs (fun l => optF (factorQ card l rs p)) ?_ (szl (by have := hS.len; omega)) rfl ?_ ?_
    · simp! only [legsD, List.map_map]
      rfl
    · intro l hl
      have e := hf card l rs p hg (hS.leg l hl) hr
      simp! only [F_standing_b3, e.run]
    have e2 : s.legs.map (fun l => optF (factorQ card l rs p)) = (facO card s.legs rs p).map optF := by unfold facO; rw [List.map_map]; rfl
    have e3 := hc (legsD s.legs) (nD s.stake) (.bool s.both) s.sizes (facO card s.legs rs p) (by unfold facO; rw [List.length_map]; have := hS.len; omega) (by have := hS.szl; omega) (fun k hk => by have := hS.sz k hk; have := hS.len; omega)
    simp! only [e2, e3.run, F_standing_l2]
    generalize hA : done.foldl (fun (t : Tri) p => t.add (countQ s.sizes (facO card s.legs rs p))) ⟨0, 0, 0⟩ = A
    generalize hB : countQ s.sizes (facO card s.legs rs p) = B
    refine run_map (L := []) (emb := fun (q : Int × Int) => W.d (.tuple [.int q.1, .int q.2])) [(A.a, B.a), (A.b, B.b), (A.c, B.c)] (fun q => .int (q.1 + q.2)) ?_ (szl (by simp)) rfl ?_ ?_
    · simp! only [Tri.d, zipItems]
    · intro q hq
      simp! only [F_standing_b2]
    simp! only [foldl_snoc, hA, hB]
    exact ⟨_, _, rfl⟩
  · rintro ρ s' ⟨rfl, a4, a5, rfl⟩
    simp! only [List.take_length]
    rfl
/-! ### what a slip brings -/
def openQ (card : List Event) (l : Leg) (rs : List (Option Result)) (wins placed : Bool) : Rat := match factorQ card l rs placed with
  | some x => x
  | none => if wins = true then (if placed = true then placeBackQ l.price (card[l.ev]!).part else backQ l.price) else 0
def withQ (card : List Event) (s : Slip) (rs : List (Option Result)) (wins : Bool) : Rat := rsum ((sidesB s.both).map fun p => togQ s.sizes s.stake (s.legs.map fun l => openQ card l rs wins p))
theorem backQ_pos {p : Rat} (h : PriceQ p) : 0 ≤ backQ p := by
  have := h.pos
  unfold backQ
  grind
theorem placeBackQ_pos {p : Rat} {part : Nat} (h : PriceQ p) (h1 : 1 ≤ part) : 0 ≤ placeBackQ p part := by
  rw [placeBackQ_eq h1, Rat.div_def]
  have h2 : (0 : Rat) ≤ (part : Rat)⁻¹ := Rat.le_of_lt (Rat.inv_pos.mpr (Rat.natCast_pos.mpr h1))
  have := Rat.mul_nonneg (Rat.le_of_lt h.pos) h2
  grind
theorem winQ_nn {n : Nat} {ranks : List (List Nat)} (h : Ranked n ranks) (i : Nat) : 0 ≤ winQ ranks i := by
  cases ranks with
  | nil => exact Rat.le_refl
  | cons g gs =>
    unfold winQ
    simp only
    split
    · exact quo_nonneg (a := 1)
    · exact Rat.le_refl
theorem fac_fc {card : List Event} {l : Leg} {rs : List (Option Result)} {placed : Bool} (hg : CardG card) (hl : l.Ok card) (hr : ResOk card rs) {x : Rat} (h : factorQ card l rs placed = some x) : 0 ≤ x ∧ Small 18 x := by
  unfold factorQ at h
  split at h
  · cases h
  · next r e =>
    have hk := res_ranked hg hl hr e
    have hE := hg.at hl.ev
    cases h
    split
    · exact ⟨by decide, by decide, by decide⟩
    · split
      · exact ⟨Rat.mul_nonneg (placeQ_le _ _ _ hk.1).1 (placeBackQ_pos hl.price hE.q1), (placeQ_small (n := 8) (k := 4) (by decide) (by decide) l.run r.ranks 0 hk).mul (placeBackQ_small hl.price hE.q1 hE.q2)⟩
      · exact ⟨Rat.mul_nonneg (winQ_nn hk _) (backQ_pos hl.price), ((winQ_small hk (k := 4) (by decide) (by decide) l.run).mul (backQ_small hl.price)).mono (by decide)⟩
theorem open_fc {card : List Event} {l : Leg} {rs : List (Option Result)} {wins placed : Bool} (hg : CardG card) (hl : l.Ok card) (hr : ResOk card rs) : 0 ≤ openQ card l rs wins placed ∧ Small 18 (openQ card l rs wins placed) := by
  have hE := hg.at hl.ev
  unfold openQ
  split
  · next x e => exact fac_fc hg hl hr e
  · split
    · split
      · exact ⟨placeBackQ_pos hl.price hE.q1, (placeBackQ_small hl.price hE.q1 hE.q2).mono (by decide)⟩
      · exact ⟨backQ_pos hl.price, (backQ_small hl.price).mono (by decide)⟩
    · exact ⟨Rat.le_refl, small_zero (by decide)⟩
def SpecWith (F : List W → M W) : Prop := ∀ (card : List Event) (s : Slip) (rs : List (Option Result)) (wins : Bool), CardG card → SlipG card s → ResOk card rs → Gives F [.d (cardD card), .d s.d, .d (resultsD rs), .d (.bool wins)] (.d (frac (withQ card s rs wins)))
theorem tog_sm {s : Slip} {card : List Event} {fs : List Rat} (hf : ∀ f ∈ fs, Fc f) (hl : fs.length ≤ 8) (hS : SlipG card s) : Small 620 (togQ s.sizes s.stake fs) := (esSum_sm hf hl hS.szl).mul (nat_sm hS.stk)
def F_with_open_b2 (C : Str → List Ev.W → Ev.M Ev.W) : Ev.Env → Ev.M Out := (sSeq (sAsg (sCallF 4 (C (Str.ofString "factor")) (sArgs [(sVar 0), (sVar 7), (sVar 2), (sVar 5)])) (gVar 8)) (sSeq (sIfS (sTestB (sBin opIsN (sVar 8) (sCon .none))) (sSeq (sAsg (sIf (sTest (sVar 5)) (sCallF 2 (C (Str.ofString "place_back")) (sArgs [(sBin opIx (sVar 7) (sCon (.int 2))), (sBin opIx (sBin opIx (sVar 0) (sBin opIx (sVar 7) (sCon (.int 0)))) (sCon (.int 2)))])) (sCallF 1 (C (Str.ofString "back_of")) (sArgs [(sBin opIx (sVar 7) (sCon (.int 2)))]))) (gVar 9)) (sSeq (sAsg (sIf (sTest (sVar 3)) (sVar 9) (sCallB opTup (sArgs [(sCon (.int 0)), (sCon (.int 1))]))) (gVar 8)) sNext)) sNext) (sSeq (sExpr (sMeth isLst opAppend (sVar 6) (sArgs [(sVar 8)]))) sNext)))
def F_with_open_l2 (C : Str → List Ev.W → Ev.M Ev.W) : Ev.Env → Ev.M Out := (sFor (sIter (sBin opIx (sVar 1) (sCon (.int 0)))) (gVar 7) (F_with_open_b2 C))
def F_with_open_b1 (C : Str → List Ev.W → Ev.M Ev.W) : Ev.Env → Ev.M Out := (sSeq (sCell 6 (sCallB opLst (sArgs []))) (sSeq (F_with_open_l2 C) (sSeq (sAsg (sCallF 2 (C (Str.ofString "plus")) (sArgs [(sVar 4), (sCallF 2 (C (Str.ofString "together")) (sArgs [(sVar 1), (sVar 6)]))])) (gVar 4)) sNext)))
def F_with_open_l1 (C : Str → List Ev.W → Ev.M Ev.W) : Ev.Env → Ev.M Out := (sFor (sIter (sCallF 1 (C (Str.ofString "sides")) (sArgs [(sVar 1)]))) (gVar 5) (F_with_open_b1 C))
def F_with_open (C : Str → List Ev.W → Ev.M Ev.W) : Ev.Env → Ev.M Out := (sSeq (sAsg (sCallB opTup (sArgs [(sCon (.int 0)), (sCon (.int 1))])) (gVar 4)) (sSeq (F_with_open_l1 C) (sSeq (sRet (sVar 4)) sNext)))
theorem spec_with_open {C : Call} (hs : SpecSides (C (Str.ofString "sides"))) (hf : SpecFactor (C (Str.ofString "factor"))) (hb : SpecPlaceBack (C (Str.ofString "place_back"))) (ho : SpecBackOf (C (Str.ofString "back_of"))) (hp : SpecPlus (C (Str.ofString "plus"))) (ht : SpecTog (C (Str.ofString "together"))) : SpecWith (fnSem 4 10 (F_with_open C)) := by
  intro card s rs wins hg hS hr
  refine gives_of fun st => run_fn (by rfl) ?_
  have e1 := hs (legsD s.legs) (natsD s.sizes) (nD s.stake) s.both
  have hl8 := hS.len
  simp! only [F_with_open, F_with_open_l1]
  refine run_forI ?_
  simp! only [Slip.d, e1.run]
  refine run_for (emb := fun b => W.d (.bool b)) (L := []) (sidesB s.both) (fun done ρ s' => (∃ more, s' = st ++ more) ∧ ∃ a5 a6 a7 a8 a9 : Option W, ρ = [some (.d (cardD card)), some (.d s.d), some (.d (resultsD rs)), some (.d (.bool wins)), some (.d (frac (rsum (done.map fun p => togQ s.sizes s.stake (s.legs.map fun l => openQ card l rs wins p))))), a5, a6, a7, a8, a9]) ?_ (fun _ _ _ _ => rfl) ⟨⟨[], by simp⟩, _, _, _, _, _, rfl⟩ ?_ ?_
  · simp! only [List.map_map]
    rfl
  · rintro done p rest ρ s' he ⟨⟨more, rfl⟩, a5, a6, a7, a8, a9, rfl⟩
    simp! only [F_with_open_b1, F_with_open_l2]
    generalize hB : st ++ more = B
    refine run_for (emb := fun l => W.d (Leg.d l)) (L := []) s.legs (fun don ρ s' => s' = B ++ [.lst (don.map fun l => frac (openQ card l rs wins p))] ∧ ∃ a7 a8 a9 : Option W, ρ = [some (.d (cardD card)), some (.d s.d), some (.d (resultsD rs)), some (.d (.bool wins)), some (.d (frac (rsum (done.map fun p => togQ s.sizes s.stake (s.legs.map fun l => openQ card l rs wins p))))), some (.d (.bool p)), some (.ref B.length), a7, a8, a9]) ?_ (fun _ _ _ _ => rfl) ⟨rfl, _, _, _, rfl⟩ ?_ ?_
    · simp! only [Slip.d, legsD, List.map_map]
      rfl
    · rintro don l mor ρ s' he2 ⟨rfl, a7, a8, a9, rfl⟩
      have hl := hS.leg l (prefix_mem he2).1
      have hE := hg.at hl.ev
      have hdl := prefix_len he2
      have e2 := hf card l rs p hg hl hr
      have e3 := hb l.price (card[l.ev]!).part hl.price hE.q1 hE.q2
      have e4 := ho l.price hl.price
      have c1 : (B ++ [Cell.lst (don.map fun l => frac (openQ card l rs wins p))])[B.length]? = some (.lst (don.map fun l => frac (openQ card l rs wins p))) := app_get
      have hz : ((don.map fun l => frac (openQ card l rs wins p)).length < sizeLine) = True := eq_true (szk (by rw [List.length_map]; omega))
      have em : ∀ y, y = frac (openQ card l rs wins p) → don.map (fun l => frac (openQ card l rs wins p)) ++ [y] = (don ++ [l]).map fun l => frac (openQ card l rs wins p) := fun y h => by rw [h, List.map_append]; rfl
      simp! only [F_with_open_b2, e2.run]
      cases hq : factorQ card l rs p with
      | some x =>
        have hx : openQ card l rs wins p = x := by unfold openQ; rw [hq]
        simp! only [optF, isN_frac, ↓run_append c1, hz, app_set]
        exact ⟨congrArg (fun z => B ++ [Cell.lst z]) (em _ (by rw [hx])), _, _, _, rfl⟩
      | none =>
        have hx : openQ card l rs wins p = if wins = true then (if p = true then placeBackQ l.price (card[l.ev]!).part else backQ l.price) else 0 := by unfold openQ; rw [hq]
        simp only [Leg.d, cardD, Event.d] at *
        cases p with
        | true =>
          cases wins with
          | true =>
            simp! only [optF, ↓run_ixT hl.ev, Event.d, e3.run, ↓run_append c1, hz, app_set]
            exact ⟨congrArg (fun z => B ++ [Cell.lst z]) (em _ (by rw [hx]; rfl)), _, _, _, rfl⟩
          | false =>
            simp! only [optF, ↓run_ixT hl.ev, Event.d, e3.run, ↓run_append c1, hz, app_set]
            exact ⟨congrArg (fun z => B ++ [Cell.lst z]) (em _ (by rw [hx]; rfl)), _, _, _, rfl⟩
        | false =>
          cases wins with
          | true =>
            simp! only [optF, e4.run, ↓run_append c1, hz, app_set]
            exact ⟨congrArg (fun z => B ++ [Cell.lst z]) (em _ (by rw [hx]; rfl)), _, _, _, rfl⟩
          | false =>
            simp! only [optF, e4.run, ↓run_append c1, hz, app_set]
            exact ⟨congrArg (fun z => B ++ [Cell.lst z]) (em _ (by rw [hx]; rfl)), _, _, _, rfl⟩
    · rintro ρ s' ⟨rfl, a7, a8, a9, rfl⟩
      have c1 : (B ++ [Cell.lst (s.legs.map fun l => frac (openQ card l rs wins p))])[B.length]? = some (.lst ((s.legs.map fun l => openQ card l rs wins p).map frac)) := by rw [List.map_map]; exact app_get
      have hfc : ∀ f ∈ s.legs.map (fun l => openQ card l rs wins p), Fc f := fun f hf => by
        obtain ⟨l, hl, rfl⟩ := List.mem_map.mp hf
        have := open_fc (wins := wins) (placed := p) hg (hS.leg l hl) hr
        exact ⟨this.1, this.2.mono (by decide)⟩
      have t1 := ht (legsD s.legs) (.bool s.both) s.sizes s.stake _ (.ref B.length) _ (.ref c1) hfc (by rw [List.length_map]; exact hl8) (fun k hk => by rw [List.length_map]; exact hS.sz k hk) hS.szl hS.stk
      have smT : ∀ p, Small 620 (togQ s.sizes s.stake (s.legs.map fun l => openQ card l rs wins p)) := fun p => tog_sm (card := card) (fun f hf => by
        obtain ⟨l, hl, rfl⟩ := List.mem_map.mp hf
        have := open_fc (wins := wins) (placed := p) hg (hS.leg l hl) hr
        exact ⟨this.1, this.2.mono (by decide)⟩) (by rw [List.length_map]; exact hl8) hS
      have hdl := prefix_len he
      have hsl : (sidesB s.both).length ≤ 2 := by unfold sidesB; split <;> simp
      have smD : Small 3900 (rsum (done.map fun p => togQ s.sizes s.stake (s.legs.map fun l => openQ card l rs wins p))) := by
        refine (rsum_small (s := 620) (xs := done.map fun p => togQ s.sizes s.stake (s.legs.map fun l => openQ card l rs wins p)) fun x hx => ?_).mono ?_
        · obtain ⟨p, _, rfl⟩ := List.mem_map.mp hx
          exact smT p
        · rw [List.length_map]
          have : (620 + 1) * done.length ≤ (620 + 1) * 2 := Nat.mul_le_mul_left _ (by omega)
          omega
      have t2 := hp _ _ smD ((smT p).mono (by decide))
      rw [← rsum_snoc] at t2
      simp! only [Slip.d, t1, t2.run]
      refine ⟨⟨more ++ [.lst (s.legs.map fun l => frac (openQ card l rs wins p))], by rw [← hB]; simp⟩, _, _, _, _, _, by rw [List.map_append]; rfl⟩
  · rintro ρ s' ⟨⟨more, rfl⟩, a5, a6, a7, a8, a9, rfl⟩
    simp! only []
    simp [withQ]
end Ev

namespace Ev
open PySem
local macro_rules | `(tactic| simp! only [$xs,*]) => `(tactic| simp only [↓run_seq, ↓run_asg, ↓run_next, ↓run_expr, ↓run_retS, ↓run_ifS, ↓run_cell, ↓run_toNew, ↓run_toD, ↓run_toRef, ↓run_par, ↓run_store0, ↓run_storeF, ↓run_storeT, ↓run_setIx, ↓run_ok, ↓run_ret, ↓run_fail, ↓run_none, ↓run_bind, ↓run_var0, ↓run_varS, ↓run_con, ↓run_bin, ↓run_un, ↓run_args0, ↓run_argsS, ↓run_callB, ↓run_meth, ↓run_callF, ↓run_test, ↓run_testB, ↓run_not, ↓run_and, ↓run_or, ↓run_if, ↓run_truthB, ↓run_andV, ↓run_orV, ↓run_notV, ↓run_chain, ↓run_chain3, ↓run_part0, ↓run_part1, ↓run_slice, ↓run_iter, ↓run_iterC, ↓run_add, ↓run_addT, ↓run_addS, ↓run_addLL, ↓run_addNN, ↓run_addLN, ↓run_addNL, ↓run_sub, ↓run_neg, ↓run_mul, ↓run_div, ↓run_mod, ↓run_mulNI, ↓run_mulLI, ↓run_eqI, ↓run_neI, ↓run_eqS, ↓run_lt, ↓run_le, ↓run_gt, ↓run_ge, ↓run_isN, ↓run_notN, ↓run_isi, ↓run_isB, ↓run_notB, ↓run_ltS, ↓run_leS, ↓run_mulTI, ↓run_ix0, ↓run_ix1, ↓run_ix2, ↓run_ix3, ↓run_ix0L, ↓run_ix1L, ↓run_ix0N, ↓run_lenT, ↓run_lenL, ↓run_lenN, ↓run_tupleN, ↓run_tupleL, ↓run_tupleT, ↓run_listT, ↓run_listN, ↓run_listL, ↓run_slT, ↓run_slL, ↓run_slN, ↓run_revT, ↓run_revN, ↓run_revL, ↓run_max2, ↓run_min2, ↓run_rg1, ↓run_rg2, ↓run_trB, ↓run_trI, ↓run_trT, ↓run_trL, ↓run_trN, ↓run_trNone, ↓run_itT, ↓run_itL, ↓run_itN, ↓run_range1, ↓run_range2, ↓run_zipTT, ↓run_enumT, ↓run_enumL, ↓run_enumN, ↓two_t, ↓two_f, ↓outN_nx, ↓outN_ret, ↓outQ_nx, ↓outQ_d, ↓outQ_new, ↓setG_some, ↓asD_d, run_ite, run_ite', gVar, gTuple, gAll, frz_new, frz_d, frz_ref, frz_scr, isLst, isStr, opTup, opLst, allD, isTy, isN_none, isN_int, isN_bool, isN_str, isN_tup, isN_lst, isN_ref, isN_new, wipeG, List.map_cons, List.map_nil, List.set_cons_zero, List.set_cons_succ, List.length_cons, List.length_nil, List.cons_append, List.nil_append, List.replicate, Nat.reduceAdd, Nat.reduceSub, Nat.reduceLeDiff, Nat.reduceEqDiff, Int.reduceEq, reduceCtorEq, Bool.false_eq_true, Bool.not_true, Bool.not_false, ne_eq, not_false_eq_true, not_true_eq_false, true_and, and_true, and_self, sz0, sz1, sz2, sz3, sz4, sz5, sz6, sz7, sz8, sz10, $xs,*])
theorem sides_len (b : Bool) : (sidesB b).length ≤ 2 := by unfold sidesB; split <;> simp
theorem with_sm {card : List Event} {s : Slip} {rs : List (Option Result)} {wins : Bool} (hg : CardG card) (hS : SlipG card s) (hr : ResOk card rs) : Small 1300 (withQ card s rs wins) := by
  refine (rsum_small (s := 620) (xs := (sidesB s.both).map fun p => togQ s.sizes s.stake (s.legs.map fun l => openQ card l rs wins p)) fun x hx => ?_).mono ?_
  · obtain ⟨p, _, rfl⟩ := List.mem_map.mp hx
    refine tog_sm (card := card) (fun f hf => ?_) (by rw [List.length_map]; exact hS.len) hS
    obtain ⟨l, hl, rfl⟩ := List.mem_map.mp hf
    have := open_fc (wins := wins) (placed := p) hg (hS.leg l hl) hr
    exact ⟨this.1, this.2.mono (by decide)⟩
  · rw [List.length_map]
    have : (620 + 1) * (sidesB s.both).length ≤ (620 + 1) * 2 := Nat.mul_le_mul_left _ (sides_len _)
    omega
def bringsQ (card : List Event) (s : Slip) (rs : List (Option Result)) : Option Rat := if 0 < (standQ card s rs).b then none else some (withQ card s rs false)
def SpecBrings (F : List W → M W) : Prop := ∀ (card : List Event) (s : Slip) (rs : List (Option Result)), CardG card → SlipG card s → ResOk card rs → Gives F [.d (cardD card), .d s.d, .d (resultsD rs)] (.d (optF (bringsQ card s rs)))
def F_brings (C : Str → List Ev.W → Ev.M Ev.W) : Ev.Env → Ev.M Out := (sSeq (sIfS (sTestB (sBin opGt (sBin opIx (sCallF 3 (C (Str.ofString "standing")) (sArgs [(sVar 0), (sVar 1), (sVar 2)])) (sCon (.int 1))) (sCon (.int 0)))) (sSeq (sRet (sCon .none)) sNext) sNext) (sSeq (sRet (sCallF 4 (C (Str.ofString "with_open")) (sArgs [(sVar 0), (sVar 1), (sVar 2), (sCon (.bool false))]))) sNext))
theorem spec_brings {C : Call} (hs : SpecStanding (C (Str.ofString "standing"))) (hw : SpecWith (C (Str.ofString "with_open"))) : SpecBrings (fnSem 3 3 (F_brings C)) := by
  intro card s rs hg hS hr
  refine gives_of fun st => run_fn (by rfl) ?_
  have e1 := hs card s rs hg hS hr
  have e2 := hw card s rs false hg hS hr
  simp! only [F_brings, e1.run, Tri.d]
  unfold bringsQ
  by_cases h : 0 < (standQ card s rs).b
  · simp! only [h, decide_true, if_true, optF, List.take_length]
  · simp! only [h, decide_false, if_false, optF, e2.run, List.take_length]
def flr (x : Rat) : Int := x.num / x.den
def SpecRounded (F : List W → M W) : Prop := ∀ x, Small 3900 x → Gives F [.d (frac x)] (.d (.int (flr x)))
def F_rounded (C : Str → List Ev.W → Ev.M Ev.W) : Ev.Env → Ev.M Out := (sSeq (sRet (sBin opDiv (sBin opIx (sVar 0) (sCon (.int 0))) (sBin opIx (sVar 0) (sCon (.int 1))))) sNext)
theorem spec_rounded (C : Call) : SpecRounded (fnSem 1 1 (F_rounded C)) := by
  intro x hx
  refine gives_of fun st => run_fn (by rfl) ?_
  have d1 : divOk (x.den : Nat) = true := divOk_of (by have := x.den_pos; omega) (pow_up (den_natAbs hx) (by decide))
  have q : x.num.fdiv (x.den : Nat) = flr x := Int.fdiv_eq_ediv_of_nonneg _ (by omega)
  simp only [frac]
  simp! only [F_rounded, d1, q, List.take_length]
def optI : Option Int → PyData
  | none => .none
  | some i => .int i
def retQ (card : List Event) (s : Slip) (rs : List (Option Result)) : Option Int := (bringsQ card s rs).map flr
def SpecReturned (F : List W → M W) : Prop := ∀ (card : List Event) (s : Slip) (rs : List (Option Result)), CardG card → SlipG card s → ResOk card rs → Gives F [.d (cardD card), .d s.d, .d (resultsD rs)] (.d (optI (retQ card s rs)))
def F_returned (C : Str → List Ev.W → Ev.M Ev.W) : Ev.Env → Ev.M Out := (sSeq (sAsg (sCallF 3 (C (Str.ofString "brings")) (sArgs [(sVar 0), (sVar 1), (sVar 2)])) (gVar 3)) (sSeq (sRet (sIf (sTestB (sBin opIsN (sVar 3) (sCon .none))) (sCon .none) (sCallF 1 (C (Str.ofString "rounded")) (sArgs [(sVar 3)])))) sNext))
theorem brings_sm {card : List Event} {s : Slip} {rs : List (Option Result)} (hg : CardG card) (hS : SlipG card s) (hr : ResOk card rs) {x : Rat} (h : bringsQ card s rs = some x) : Small 1300 x := by
  unfold bringsQ at h
  split at h
  · cases h
  · cases h
    exact with_sm hg hS hr
theorem spec_returned {C : Call} (hb : SpecBrings (C (Str.ofString "brings"))) (ho : SpecRounded (C (Str.ofString "rounded"))) : SpecReturned (fnSem 3 4 (F_returned C)) := by
  intro card s rs hg hS hr
  refine gives_of fun st => run_fn (by rfl) ?_
  have e1 := hb card s rs hg hS hr
  simp! only [F_returned, e1.run]
  unfold retQ
  cases h : bringsQ card s rs with
  | none => simp! only [optF, Option.map_none, optI, List.take_length]
  | some x =>
    have e2 := ho x ((brings_sm hg hS hr h).mono (by decide))
    simp! only [optF, isN_frac, Option.map_some, optI, e2.run, List.take_length]
def SpecLeast (wins : Bool) (F : List W → M W) : Prop := ∀ (card : List Event) (s : Slip) (rs : List (Option Result)), CardG card → SlipG card s → ResOk card rs → Gives F [.d (cardD card), .d s.d, .d (resultsD rs)] (.d (.int (flr (withQ card s rs wins))))
def F_least_of (C : Str → List Ev.W → Ev.M Ev.W) : Ev.Env → Ev.M Out := (sSeq (sRet (sCallF 1 (C (Str.ofString "rounded")) (sArgs [(sCallF 4 (C (Str.ofString "with_open")) (sArgs [(sVar 0), (sVar 1), (sVar 2), (sCon (.bool false))]))]))) sNext)
theorem spec_least_of {C : Call} (hb : SpecWith (C (Str.ofString "with_open"))) (ho : SpecRounded (C (Str.ofString "rounded"))) : SpecLeast false (fnSem 3 3 (F_least_of C)) := by
  intro card s rs hg hS hr
  refine gives_of fun st => run_fn (by rfl) ?_
  have e1 := hb card s rs false hg hS hr
  have e2 := ho _ ((with_sm (wins := false) hg hS hr).mono (by decide))
  simp! only [F_least_of, e1.run, e2.run, List.take_length]
def F_most_of (C : Str → List Ev.W → Ev.M Ev.W) : Ev.Env → Ev.M Out := (sSeq (sRet (sCallF 1 (C (Str.ofString "rounded")) (sArgs [(sCallF 4 (C (Str.ofString "with_open")) (sArgs [(sVar 0), (sVar 1), (sVar 2), (sCon (.bool true))]))]))) sNext)
theorem spec_most_of {C : Call} (hb : SpecWith (C (Str.ofString "with_open"))) (ho : SpecRounded (C (Str.ofString "rounded"))) : SpecLeast true (fnSem 3 3 (F_most_of C)) := by
  intro card s rs hg hS hr
  refine gives_of fun st => run_fn (by rfl) ?_
  have e1 := hb card s rs true hg hS hr
  have e2 := ho _ ((with_sm (wins := true) hg hS hr).mono (by decide))
  simp! only [F_most_of, e1.run, e2.run, List.take_length]
/-! ### costs -/
def timesN (both : Bool) : Nat := if both = true then 2 else 1
def linesN (s : Slip) : Nat := timesN s.both * cntN s.sizes s.legs.length
def SpecTimesOf (F : List W → M W) : Prop := ∀ (x y z : PyData) (both : Bool), Gives F [.d (.tuple [x, y, z, .bool both])] (.d (nD (timesN both)))
def F_times_of (C : Str → List Ev.W → Ev.M Ev.W) : Ev.Env → Ev.M Out := (sSeq (sRet (sIf (sTest (sBin opIx (sVar 0) (sCon (.int 3)))) (sCon (.int 2)) (sCon (.int 1)))) sNext)
theorem spec_times_of (C : Call) : SpecTimesOf (fnSem 1 1 (F_times_of C)) := by
  intro x y z both
  refine gives_of fun st => run_fn (by rfl) ?_
  cases both <;> simp! only [F_times_of, timesN, List.take_length, if_true, if_false] <;> rfl
structure SizeG (s : Slip) : Prop where
  len : s.legs.length ≤ 30
  szl : s.sizes.length ≤ 30
  sz : ∀ k ∈ s.sizes, k ≤ 30
  stk : s.stake ≤ 1000000
theorem SlipG.sg {card : List Event} {s : Slip} (h : SlipG card s) : SizeG s := ⟨by have := h.len; omega, by have := h.szl; omega, fun k hk => by have := h.sz k hk; have := h.len; omega, h.stk⟩
def SpecLines (F : List W → M W) : Prop := ∀ s : Slip, SizeG s → Gives F [.d s.d] (.d (nD (linesN s)))
def SpecCost (F : List W → M W) : Prop := ∀ s : Slip, SizeG s → Gives F [.d s.d] (.d (nD (s.stake * linesN s)))
theorem sum_le' {k : Nat} : ∀ {xs : List Nat}, (∀ x ∈ xs, x ≤ k) → xs.sum ≤ k * xs.length
  | [], _ => by simp
  | x :: xs, h => by
    have h1 := h x List.mem_cons_self
    have h2 := sum_le' fun y hy => h y (List.mem_cons_of_mem _ hy)
    rw [List.sum_cons, List.length_cons, Nat.mul_succ]
    omega
theorem cnt_le {s : Slip} (h : SizeG s) : cntN s.sizes s.legs.length ≤ 2 ^ 35 := by
  have h1 : cntN s.sizes s.legs.length ≤ 2 ^ 30 * (s.sizes.map fun k => chs s.legs.length k).length := by
    refine sum_le' fun x hx => ?_
    obtain ⟨k, _, rfl⟩ := List.mem_map.mp hx
    exact Nat.le_trans (chs_le _ _) (Nat.pow_le_pow_right (by decide) h.len)
  rw [List.length_map] at h1
  have := h.szl
  omega
theorem mulS' {a b : Nat} (ha : a < 2 ^ 40) (hb : b < 2 ^ 40) : mulOk (a : Int) (b : Int) = true := Small.mulOk (n := 40) (m := 40) (by omega) (by omega) (by decide) (by decide)
theorem lines_le {s : Slip} (h : SizeG s) : linesN s ≤ 2 ^ 36 := by
  have := cnt_le h
  unfold linesN timesN
  split <;> omega
def F_line_count_b1 (C : Str → List Ev.W → Ev.M Ev.W) : Ev.Env → Ev.M Ev.W := (sCallF 2 (C (Str.ofString "how_many")) (sArgs [(sCallB opLen (sArgs [(sBin opIx (sVar 0) (sCon (.int 0)))])), (sVar 1)]))
def F_line_count_l1 (C : Str → List Ev.W → Ev.M Ev.W) : Ev.Env → Ev.M Ev.W := (sLc (sIter (sBin opIx (sVar 0) (sCon (.int 1)))) [1] (gVar 1) sYes (F_line_count_b1 C))
def F_line_count (C : Str → List Ev.W → Ev.M Ev.W) : Ev.Env → Ev.M Out := (sSeq (sRet (sBin opMul (sCallF 1 (C (Str.ofString "times_of")) (sArgs [(sVar 0)])) (sCallB opSum (sArgs [(F_line_count_l1 C)])))) sNext)
theorem spec_line_count {C : Call} (hh : SpecHow (C (Str.ofString "how_many"))) (ht : SpecTimesOf (C (Str.ofString "times_of"))) : SpecLines (fnSem 1 2 (F_line_count C)) := by
  intro s hS
  refine gives_of fun st => run_fn (by rfl) ?_
  have e1 := ht (legsD s.legs) (natsD s.sizes) (nD s.stake) s.both
  simp! only [F_line_count, Slip.d, e1.run, F_line_count_l1]
  refine cnt_run hh hS.sz (by have := hS.szl; omega) (n := s.legs.length) hS.len ?_ ?_ ?_
  · simp! only [natsD, List.map_map]
    rfl
  · intro k hk2
    have e := hh s.legs.length k hS.len (hS.sz k hk2)
    simp! only [F_line_count_b1, legsD, List.length_map, e.run]
  have m1 := mulS' (a := timesN s.both) (b := cntN s.sizes s.legs.length) (by unfold timesN; split <;> omega) (by have := cnt_le hS; omega)
  simp! only [m1, List.take_length, linesN]
  rw [← Int.natCast_mul]
def F_cost (C : Str → List Ev.W → Ev.M Ev.W) : Ev.Env → Ev.M Out := (sSeq (sRet (sBin opMul (sBin opIx (sVar 0) (sCon (.int 2))) (sCallF 1 (C (Str.ofString "line_count")) (sArgs [(sVar 0)])))) sNext)
theorem spec_cost {C : Call} (hl : SpecLines (C (Str.ofString "line_count"))) : SpecCost (fnSem 1 1 (F_cost C)) := by
  intro s hS
  refine gives_of fun st => run_fn (by rfl) ?_
  have e1 := hl s hS
  have m1 := mulS' (a := s.stake) (b := linesN s) (by have := hS.stk; omega) (by have := lines_le hS; omega)
  simp only [Slip.d] at e1 ⊢
  simp! only [F_cost, e1.run, m1, List.take_length]
  rw [← Int.natCast_mul]
end Ev

namespace Ev
open PySem
/-! ### all results told -/
def facQ (card : List Event) (l : Leg) (rs : List (Option Result)) (placed : Bool) : Rat := (factorQ card l rs placed).getD 0
def Told (rs : List (Option Result)) : Prop := ∀ r ∈ rs, r ≠ none
section
variable {card : List Event} {l : Leg} {rs : List (Option Result)} {placed : Bool} {s : Slip}
theorem told_fac (hl : l.Ok card) (hr : ResOk card rs) (ht : Told rs) : factorQ card l rs placed = some (facQ card l rs placed) := by
  have h1 : l.ev < rs.length := by rw [hr.len]; exact hl.ev
  have h2 := ht _ (get_mem h1)
  unfold facQ factorQ
  cases h : rs[l.ev]! with
  | none => exact absurd h h2
  | some r => rfl
theorem told_open (hl : l.Ok card) (hr : ResOk card rs) (ht : Told rs) {wins : Bool} : openQ card l rs wins placed = facQ card l rs placed := by
  unfold openQ
  rw [told_fac hl hr ht]
theorem filter_map_some (xs : List Rat) : (xs.map some).filter (fun o : Option Rat => o.isSome) = xs.map some := by
  rw [List.filter_eq_self]
  intro o ho
  obtain ⟨x, _, rfl⟩ := List.mem_map.mp ho
  rfl
theorem told_count (sizes : List Nat) (xs : List Rat) : (countQ sizes (xs.map some)).b = 0 := by
  have e : endedO (xs.map some) = leftO (xs.map some) := by
    unfold endedO
    rw [List.filter_eq_self]
    intro o ho
    unfold leftO at ho
    obtain ⟨x, _, rfl⟩ := List.mem_map.mp (List.mem_filter.mp ho).1
    rfl
  unfold countQ
  rw [e]
  simp
theorem told_facO (hS : SlipG card s) (hr : ResOk card rs) (ht : Told rs) (p : Bool) : facO card s.legs rs p = (s.legs.map fun l => facQ card l rs p).map some := by
  unfold facO
  rw [List.map_map]
  exact List.map_congr_left fun l hl => told_fac (hS.leg l hl) hr ht
theorem told_stand (hS : SlipG card s) (hr : ResOk card rs) (ht : Told rs) : (standQ card s rs).b = 0 := by
  unfold standQ
  have key : ∀ (ps : List Bool) (t : Tri), t.b = 0 → (ps.foldl (fun (t : Tri) p => t.add (countQ s.sizes (facO card s.legs rs p))) t).b = 0 := by
    intro ps
    induction ps with
    | nil => intro t h; exact h
    | cons p ps ih =>
      intro t h
      rw [List.foldl_cons]
      refine ih _ ?_
      show t.b + (countQ s.sizes (facO card s.legs rs p)).b = 0
      rw [told_facO hS hr ht, told_count, h]
      rfl
  exact key _ _ rfl
def brQ (card : List Event) (s : Slip) (rs : List (Option Result)) : Rat := rsum ((sidesB s.both).map fun p => togQ s.sizes s.stake (s.legs.map fun l => facQ card l rs p))
theorem told_with (hS : SlipG card s) (hr : ResOk card rs) (ht : Told rs) {wins : Bool} : withQ card s rs wins = brQ card s rs := by
  unfold withQ brQ
  congr 1
  apply List.map_congr_left
  intro p _
  congr 1
  exact List.map_congr_left fun l hl => told_open (hS.leg l hl) hr ht
theorem told_brings (hS : SlipG card s) (hr : ResOk card rs) (ht : Told rs) : bringsQ card s rs = some (brQ card s rs) := by
  unfold bringsQ
  rw [told_stand hS hr ht, if_neg (by omega), told_with hS hr ht]
theorem fac_nn (hg : CardG card) (hl : l.Ok card) (hr : ResOk card rs) : 0 ≤ facQ card l rs placed ∧ Small 18 (facQ card l rs placed) := by
  unfold facQ
  cases h : factorQ card l rs placed with
  | none => exact ⟨Rat.le_refl, small_zero (by decide)⟩
  | some x => exact fac_fc hg hl hr h
end
/-! ### plain: es -/
theorem es_perm {xs ys : List Rat} (h : xs.Perm ys) : ∀ k, es k xs = es k ys := by
  induction h with
  | nil => intro k; rfl
  | cons x _ ih =>
    intro k
    cases k with
    | zero => rw [es, es]
    | succ k => rw [es, es, ih k, ih (k + 1)]
  | swap x y l =>
    intro k
    match k with
    | 0 => rw [es, es]
    | 1 => simp only [es]; grind
    | k + 2 => simp only [es]; grind
  | trans _ _ h1 h2 => intro k; rw [h1 k, h2 k]
theorem rsum_append (xs ys : List Rat) : rsum (xs ++ ys) = rsum xs + rsum ys := by rw [rsum_sum, rsum_sum, rsum_sum, sum_app]
theorem rsum_cons (x : Rat) (xs : List Rat) : rsum (x :: xs) = x + rsum xs := by rw [rsum_sum, rsum_sum, List.sum_cons]
theorem rsum_map_add {α : Type} (f g : α → Rat) : ∀ l : List α, rsum (l.map fun x => f x + g x) = rsum (l.map f) + rsum (l.map g)
  | [] => by simp [rsum]; grind
  | a :: l => by
    rw [List.map_cons, List.map_cons, List.map_cons, rsum_cons, rsum_cons, rsum_cons, rsum_map_add f g l]
    grind
theorem rsum_map_mul {α : Type} (c : Rat) (f : α → Rat) : ∀ l : List α, rsum (l.map fun x => f x * c) = rsum (l.map f) * c
  | [] => by simp [rsum, Rat.zero_mul]
  | a :: l => by
    rw [List.map_cons, List.map_cons, rsum_cons, rsum_cons, rsum_map_mul c f l]
    grind
theorem rsum_swap {α β : Type} (f : α → β → Rat) (l : List α) : ∀ m : List β, rsum (l.map fun a => rsum (m.map fun b => f a b)) = rsum (m.map fun b => rsum (l.map fun a => f a b))
  | [] => by
    simp [rsum]
    induction l with
    | nil => rfl
    | cons a l ih => simpa [Rat.add_zero] using ih
  | b :: m => by
    simp only [List.map_cons, rsum_cons]
    rw [rsum_map_add, rsum_swap f l m]
/-- all sizes together -/
theorem es_all : ∀ (xs : List Rat) (n : Nat), xs.length ≤ n → rsum ((List.range (n + 1)).map fun k => es k xs) = rprod (xs.map fun x => x + 1)
  | [], n, _ => by
    rw [List.range_succ_eq_map, List.map_cons, List.map_map, rsum_cons, es]
    have : (List.range n).map ((fun k => es k []) ∘ Nat.succ) = (List.range n).map fun _ => (0 : Rat) := by
      apply List.map_congr_left
      intro k _
      simp [es]
    rw [this, rsum_sum, sum_zero (by simp)]
    simp [rprod, Rat.add_zero]
  | x :: xs, n, h => by
    obtain ⟨n, rfl⟩ : ∃ m, n = m + 1 := ⟨n - 1, by rw [List.length_cons] at h; omega⟩
    rw [List.length_cons] at h
    have ih := es_all xs n (by omega)
    have ih2 := es_all xs (n + 1) (by omega)
    rw [List.map_cons, rprod_cons, ← ih]
    rw [List.range_succ_eq_map, List.map_cons, List.map_map, rsum_cons, es] at ih2 ⊢
    have e : (List.range (n + 1)).map ((fun k => es k (x :: xs)) ∘ Nat.succ) = (List.range (n + 1)).map fun k => es k xs * x + es (k + 1) xs := by
      apply List.map_congr_left
      intro k _
      simp only [Function.comp, Nat.succ_eq_add_one, es]
      rw [Rat.mul_comm]
    rw [e, rsum_map_add, rsum_map_mul]
    have e2 : (List.range (n + 1)).map ((fun k => es k xs) ∘ Nat.succ) = (List.range (n + 1)).map fun k => es (k + 1) xs := rfl
    rw [e2, ← ih] at ih2
    grind
end Ev

namespace Ev
open PySem
/-! ### plain: orders -/
def fct : Nat → Nat
  | 0 => 1
  | n + 1 => (n + 1) * fct n
theorem fct_pos : ∀ n, 0 < fct n
  | 0 => by decide
  | n + 1 => by rw [fct]; exact Nat.mul_pos (by omega) (fct_pos n)
theorem fct_mul (m : Nat) : ∀ n, fct m * fct n ≤ fct (m + n)
  | 0 => by simp [fct]
  | n + 1 => by
    have h := fct_mul m n
    rw [fct, ← Nat.add_assoc, fct, Nat.mul_left_comm]
    exact Nat.mul_le_mul (by omega) h
theorem fct_mono : ∀ {m n : Nat}, m ≤ n → fct m ≤ fct n := by
  intro m n h
  induction h with
  | refl => exact Nat.le_refl _
  | step _ ih =>
    rw [fct]
    exact Nat.le_trans ih (Nat.le_mul_of_pos_left _ (by omega))
section
variable {α : Type} [DecidableEq α]
def insL (t : α) (row : List α) : List (List α) := (List.range (row.length + 1)).map fun at_ => row.take at_ ++ [t] ++ row.drop at_
def ordStep (rows : List (List α)) (t : α) : List (List α) := rows.flatMap (insL t)
def ordersL (g : List α) : List (List α) := g.foldl ordStep [[]]
theorem orders_snoc (g : List α) (t : α) : ordersL (g ++ [t]) = (ordersL g).flatMap (insL t) := by
  unfold ordersL
  rw [List.foldl_append]
  rfl
theorem snoc_ind {P : List α → Prop} (h0 : P []) (h1 : ∀ l a, P l → P (l ++ [a])) (l : List α) : P l := by
  have : ∀ m : List α, P m.reverse := by
    intro m
    induction m with
    | nil => exact h0
    | cons a m ih => rw [List.reverse_cons]; exact h1 _ _ ih
  have h := this l.reverse
  rwa [List.reverse_reverse] at h
theorem ins_perm {t : α} {row o : List α} (h : o ∈ insL t row) : o.Perm (row ++ [t]) := by
  unfold insL at h
  obtain ⟨k, _, rfl⟩ := List.mem_map.mp h
  have h1 : (row.take k ++ [t] ++ row.drop k).Perm (row.take k ++ (row.drop k ++ [t])) := by
    rw [List.append_assoc]
    exact List.Perm.append_left _ List.perm_append_comm
  rw [← List.append_assoc, List.take_append_drop] at h1
  exact h1
theorem orders_perm (g : List α) : ∀ o ∈ ordersL g, o.Perm g := by
  refine snoc_ind (P := fun g => ∀ o ∈ ordersL g, o.Perm g) ?_ ?_ g
  · intro o ho
    simp [ordersL] at ho
    subst ho
    exact List.Perm.refl _
  · intro g t ih o ho
    rw [orders_snoc, List.mem_flatMap] at ho
    obtain ⟨row, h1, h2⟩ := ho
    exact (ins_perm h2).trans ((ih row h1).append_right _)
/-- how many have it among the first c -/
def cntTop (c : Nat) (i : α) (rows : List (List α)) : Nat := (rows.map fun o => if i ∈ o.take c then 1 else 0).sum
theorem cnt_app (c : Nat) (i : α) (a b : List (List α)) : cntTop c i (a ++ b) = cntTop c i a + cntTop c i b := by
  unfold cntTop
  rw [List.map_append, List.sum_append]
theorem cnt_flat (c : Nat) (i : α) (f : List α → List (List α)) : ∀ rows : List (List α), cntTop c i (rows.flatMap f) = (rows.map fun r => cntTop c i (f r)).sum
  | [] => rfl
  | r :: rs => by rw [List.flatMap_cons, cnt_app, cnt_flat c i f rs, List.map_cons, List.sum_cons]
theorem sum_const_nat {β : Type} (k : Nat) (f : β → Nat) : ∀ l : List β, (∀ x ∈ l, f x = k) → (l.map f).sum = l.length * k
  | [], _ => by simp
  | x :: l, h => by
    rw [List.map_cons, List.sum_cons, h x List.mem_cons_self, sum_const_nat k f l fun y hy => h y (List.mem_cons_of_mem _ hy), List.length_cons, Nat.succ_mul]
    omega
theorem orders_len (g : List α) : (ordersL g).length = fct g.length := by
  refine snoc_ind (P := fun g => (ordersL g).length = fct g.length) rfl ?_ g
  intro g t ih
  rw [orders_snoc, List.length_flatMap, sum_const_nat (g.length + 1), ih, List.length_append, List.length_singleton, fct, Nat.mul_comm]
  intro r hr
  rw [insL, List.length_map, List.length_range, (orders_perm g r hr).length_eq]
/-- the thing put in itself -/
theorem ins_self {t : α} {row : List α} (h : t ∉ row) (c : Nat) : cntTop c t (insL t row) = min c (row.length + 1) := by
  unfold cntTop insL
  rw [List.map_map]
  have e : ∀ k ∈ List.range (row.length + 1), ((fun o : List α => if t ∈ o.take c then 1 else 0) ∘ fun at_ => row.take at_ ++ [t] ++ row.drop at_) k = if k < c then 1 else 0 := by
    intro k hk
    rw [List.mem_range] at hk
    simp only [Function.comp]
    by_cases hc : k < c
    · rw [if_pos hc, if_pos]
      rw [List.append_assoc, List.take_append, List.mem_append]
      right
      rw [List.length_take, Nat.min_eq_left (by omega)]
      obtain ⟨d, hd⟩ : ∃ d, c - k = d + 1 := ⟨c - k - 1, by omega⟩
      rw [hd]
      simp
    · rw [if_neg hc, if_neg]
      intro hm
      rw [List.append_assoc, List.take_append_of_le_length (by rw [List.length_take]; omega)] at hm
      exact h (List.mem_of_mem_take (List.mem_of_mem_take hm))
  rw [List.map_congr_left e]
  clear e
  generalize row.length + 1 = n
  induction n with
  | zero => simp
  | succ n ih =>
    rw [List.range_succ, List.map_append, List.sum_append, ih]
    simp
    split <;> omega
/-- another thing put in -/
theorem ins_other {i t : α} {row : List α} (hit : i ≠ t) (hn : row.Nodup) (hi : i ∈ row) (c : Nat) (hc : c ≤ row.length + 1) : cntTop c i (insL t row) = (if i ∈ row.take c then row.length + 1 - c else 0) + (if i ∈ row.take (c - 1) then c else 0) := by
  unfold cntTop insL
  rw [List.map_map]
  have e : ∀ k ∈ List.range (row.length + 1), ((fun o : List α => if i ∈ o.take c then 1 else 0) ∘ fun at_ => row.take at_ ++ [t] ++ row.drop at_) k = if c ≤ k then (if i ∈ row.take c then 1 else 0) else (if i ∈ row.take (c - 1) then 1 else 0) := by
    intro k hk
    rw [List.mem_range] at hk
    simp only [Function.comp]
    by_cases hck : c ≤ k
    · rw [if_pos hck]
      have e1 : (row.take k ++ [t] ++ row.drop k).take c = row.take c := by
        rw [List.append_assoc, List.take_append_of_le_length (by rw [List.length_take]; omega), List.take_take, Nat.min_eq_left hck]
      simp only [e1]
    · rw [if_neg hck]
      have e1 : ((row.take k ++ [t] ++ row.drop k).take c) = row.take k ++ t :: (row.drop k).take (c - k - 1) := by
        rw [List.append_assoc, List.take_append, List.take_of_length_le (by rw [List.length_take]; omega), List.length_take, Nat.min_eq_left (by omega)]
        obtain ⟨d, hd⟩ : ∃ d, c - k = d + 1 := ⟨c - k - 1, by omega⟩
        rw [hd]
        simp
      have e2 : row.take (c - 1) = row.take k ++ (row.drop k).take (c - k - 1) := by
        have : c - 1 = k + (c - k - 1) := by omega
        conv => lhs; rw [this, List.take_add]
      simp only [e1, e2, List.mem_append, List.mem_cons, hit, false_or]
  rw [List.map_congr_left e]
  clear e
  have key : ∀ (A B n : Nat), ((List.range n).map fun k => if c ≤ k then A else B).sum = (n - c) * A + min c n * B := by
    intro A B n
    induction n with
    | zero => simp
    | succ n ih =>
      rw [List.range_succ, List.map_append, List.sum_append, ih]
      simp only [List.map_cons, List.map_nil, List.sum_cons, List.sum_nil]
      by_cases h : c ≤ n
      · rw [if_pos h, Nat.min_eq_left h, Nat.min_eq_left (by omega), show n + 1 - c = (n - c) + 1 by omega, Nat.succ_mul]
        omega
      · rw [if_neg h, Nat.min_eq_right (by omega), Nat.min_eq_right (by omega), show n + 1 - c = 0 by omega, show n - c = 0 by omega, Nat.succ_mul]
        omega
  rw [key, Nat.min_eq_left hc]
  congr 1
  · split <;> simp
  · split <;> simp
/-- each of a group is among the first c as often as the others -/
theorem orders_cnt (g : List α) : g.Nodup → ∀ i ∈ g, ∀ c, c ≤ g.length → cntTop c i (ordersL g) * g.length = c * fct g.length := by
  refine snoc_ind (P := fun g => g.Nodup → ∀ i ∈ g, ∀ c, c ≤ g.length → cntTop c i (ordersL g) * g.length = c * fct g.length) (by simp) ?_ g
  intro g t ih hn i hi c hc
  rw [List.nodup_append] at hn
  obtain ⟨hn1, _, hn2⟩ := hn
  have htg : t ∉ g := fun h => hn2 t h t (by simp) rfl
  rw [List.length_append, List.length_singleton] at hc ⊢
  rw [orders_snoc, cnt_flat]
  by_cases hit : i = t
  · subst hit
    rw [sum_const_nat c, orders_len, fct]
    · simp only [Nat.mul_comm, Nat.mul_left_comm, Nat.mul_assoc]
    · intro r hr
      have hp := orders_perm g r hr
      rw [ins_self (fun h => htg (hp.mem_iff.mp h)), hp.length_eq]
      omega
  · have hig : i ∈ g := by
      rcases List.mem_append.mp hi with h | h
      · exact h
      · exact absurd (List.mem_singleton.mp h) hit
    have h1 : ∀ r ∈ ordersL g, cntTop c i (insL t r) = (if i ∈ r.take c then g.length + 1 - c else 0) + (if i ∈ r.take (c - 1) then c else 0) := by
      intro r hr
      have hp := orders_perm g r hr
      rw [ins_other hit (hp.nodup_iff.mpr hn1) (hp.mem_iff.mpr hig) c (by rw [hp.length_eq]; exact hc), hp.length_eq]
    rw [List.map_congr_left h1]
    have key : ∀ (A B : Nat) (rows : List (List α)), (rows.map fun r => (if i ∈ r.take c then A else 0) + (if i ∈ r.take (c - 1) then B else 0)).sum = cntTop c i rows * A + cntTop (c - 1) i rows * B := by
      intro A B rows
      induction rows with
      | nil => simp [cntTop]
      | cons r rs ih =>
        unfold cntTop at ih ⊢
        simp only [List.map_cons, List.sum_cons]
        rw [ih, Nat.add_mul, Nat.add_mul]
        split <;> split <;> simp <;> omega
    refine (congrArg (· * (g.length + 1)) (key _ _ _)).trans ?_
    show _ * (g.length + 1) = _
    have hg0 : 0 < g.length := List.length_pos_iff.mpr (fun h => by rw [h] at hig; cases hig)
    have i2 := ih hn1 i hig (c - 1) (by omega)
    by_cases hcl : c ≤ g.length
    · have i1 := ih hn1 i hig c hcl
      generalize cntTop c i (ordersL g) = x at *
      generalize cntTop (c - 1) i (ordersL g) = y at *
      rw [fct]
      generalize fct g.length = F at *
      generalize g.length = m at *
      -- x m = c F, y m = (c-1) F; want (x (m+1-c) + y c)(m+1) = c ((m+1) F)
      have h3 : (x * (m + 1 - c) + y * c) * m = c * F * m := by
        rw [Nat.add_mul]
        have a1 : x * (m + 1 - c) * m = c * F * (m + 1 - c) := by rw [Nat.mul_right_comm, i1]
        have a2 : y * c * m = (c - 1) * F * c := by rw [Nat.mul_right_comm, i2]
        rw [a1, a2]
        rcases Nat.eq_zero_or_pos c with h | h
        · subst h; simp
        · obtain ⟨d, rfl⟩ : ∃ d, c = d + 1 := ⟨c - 1, by omega⟩
          obtain ⟨e, rfl⟩ : ∃ e, m = d + 1 + e := ⟨m - (d + 1), by omega⟩
          rw [show d + 1 + e + 1 - (d + 1) = e + 1 by omega, Nat.add_sub_cancel]
          simp only [Nat.add_mul, Nat.mul_add, Nat.one_mul, Nat.mul_one]
          simp only [Nat.mul_comm, Nat.mul_left_comm, Nat.mul_assoc]
          omega
      have h4 := Nat.eq_of_mul_eq_mul_right hg0 h3
      rw [h4]
      simp only [Nat.mul_comm, Nat.mul_left_comm, Nat.mul_assoc]
    · have hce : c = g.length + 1 := by omega
      subst hce
      rw [Nat.add_sub_cancel] at i2 ⊢
      have h5 := Nat.eq_of_mul_eq_mul_right hg0 (i2.trans (Nat.mul_comm _ _))
      rw [h5, fct, Nat.sub_self]
      simp only [Nat.mul_zero, Nat.zero_add]
      simp only [Nat.mul_comm, Nat.mul_left_comm, Nat.mul_assoc]
/-! ### all groups -/
def parStep (rows : List (List α)) (g : List α) : List (List α) := rows.flatMap fun row => (ordersL g).map fun o => row ++ o
def partedL (rs : List (List α)) : List (List α) := rs.foldl parStep [[]]
theorem par_len (rows : List (List α)) (g : List α) : (parStep rows g).length = rows.length * fct g.length := by
  unfold parStep
  rw [List.length_flatMap, sum_const_nat (fct g.length)]
  intro r _
  rw [List.length_map, orders_len]
theorem par_mem {rows : List (List α)} {g : List α} {o : List α} (h : o ∈ parStep rows g) : ∃ r ∈ rows, ∃ q ∈ ordersL g, o = r ++ q := by
  unfold parStep at h
  obtain ⟨r, hr, h⟩ := List.mem_flatMap.mp h
  obtain ⟨q, hq, rfl⟩ := List.mem_map.mp h
  exact ⟨r, hr, q, hq, rfl⟩
theorem foldl_perm : ∀ (gs : List (List α)) (rows : List (List α)) (base : List α), (∀ r ∈ rows, r.Perm base) → ∀ o ∈ gs.foldl parStep rows, o.Perm (base ++ gs.flatten)
  | [], rows, base, h, o, ho => by simpa using h o ho
  | g :: gs, rows, base, h, o, ho => by
    rw [List.flatten_cons, ← List.append_assoc]
    refine foldl_perm gs (parStep rows g) (base ++ g) ?_ o ho
    intro r hr
    obtain ⟨r', h1, q, h2, rfl⟩ := par_mem hr
    exact (h r' h1).append (orders_perm g q h2)
theorem parted_perm {gs : List (List α)} {o : List α} (h : o ∈ partedL gs) : o.Perm gs.flatten := by
  have := foldl_perm gs [[]] [] (by simp) o h
  simpa using this
theorem foldl_len : ∀ (gs : List (List α)) (rows : List (List α)) , (gs.foldl parStep rows).length = rows.length * (gs.foldl parStep [[]]).length
  | [], rows => by simp
  | g :: gs, rows => by
    rw [List.foldl_cons, List.foldl_cons, foldl_len gs (parStep rows g), foldl_len gs (parStep [[]] g), par_len, par_len]
    simp [Nat.mul_assoc]
theorem parted_pos (gs : List (List α)) : 0 < (partedL gs).length := by
  unfold partedL
  induction gs with
  | nil => simp
  | cons g gs ih =>
    rw [List.foldl_cons, foldl_len, par_len]
    exact Nat.mul_pos (Nat.mul_pos (by simp) (fct_pos _)) ih
theorem parted_le (gs : List (List α)) : (partedL gs).length ≤ fct gs.flatten.length := by
  unfold partedL
  induction gs with
  | nil => simp [fct]
  | cons g gs ih =>
    rw [List.foldl_cons, foldl_len, par_len, List.flatten_cons, List.length_append]
    simp only [List.length_singleton, Nat.one_mul]
    exact Nat.le_trans (Nat.mul_le_mul_left _ ih) (fct_mul _ _)
/-- what comes behind does not matter -/
theorem cnt_behind {i : α} {c : Nat} : ∀ (gs : List (List α)) (rows : List (List α)), (∀ r ∈ rows, i ∈ r) → i ∉ gs.flatten → cntTop c i (gs.foldl parStep rows) = cntTop c i rows * (partedL gs).length
  | [], rows, _, _ => by simp [partedL]
  | g :: gs, rows, h, hi => by
    rw [List.flatten_cons, List.mem_append] at hi
    have hig : i ∉ g := fun z => hi (.inl z)
    rw [List.foldl_cons, cnt_behind gs (parStep rows g) ?_ fun z => hi (.inr z)]
    · have e : cntTop c i (parStep rows g) = cntTop c i rows * fct g.length := by
        unfold parStep
        rw [cnt_flat]
        have : ∀ r ∈ rows, cntTop c i ((ordersL g).map fun o => r ++ o) = (if i ∈ r.take c then 1 else 0) * fct g.length := by
          intro r hr
          unfold cntTop
          rw [List.map_map, sum_const_nat (if i ∈ r.take c then 1 else 0), orders_len, Nat.mul_comm]
          intro o ho
          simp only [Function.comp]
          congr 1
          rw [List.take_append, List.mem_append]
          have : i ∉ o.take (c - r.length) := fun z => hig ((orders_perm g o ho).mem_iff.mp (List.mem_of_mem_take z))
          simp [this]
        rw [List.map_congr_left this]
        unfold cntTop
        clear this
        induction rows with
        | nil => simp
        | cons r rs ih => simp only [List.map_cons, List.sum_cons, Nat.add_mul]; rw [ih fun x hx => h x (List.mem_cons_of_mem _ hx)]
      rw [e]
      have e2 : (partedL (g :: gs)).length = fct g.length * (partedL gs).length := by
        unfold partedL
        rw [List.foldl_cons, foldl_len, par_len]
        simp
      rw [e2, Nat.mul_assoc]
    · intro r hr
      obtain ⟨r', h1, q, _, rfl⟩ := par_mem hr
      exact List.mem_append_left _ (h r' h1)
/-- the first group that has it -/
theorem cnt_here {i : α} {c n : Nat} {rows : List (List α)} {g : List α} (hr : ∀ r ∈ rows, r.length = n ∧ i ∉ r) (hi : i ∈ g) (hn : g.Nodup) : cntTop c i (parStep rows g) * g.length = rows.length * fct g.length * min (c - n) g.length := by
  unfold parStep
  rw [cnt_flat]
  have : ∀ r ∈ rows, cntTop c i ((ordersL g).map fun o => r ++ o) = cntTop (min (c - n) g.length) i (ordersL g) := by
    intro r h
    obtain ⟨h1, h2⟩ := hr r h
    unfold cntTop
    rw [List.map_map]
    congr 1
    apply List.map_congr_left
    intro o ho
    simp only [Function.comp]
    congr 1
    rw [List.take_append, List.mem_append, h1]
    have : i ∉ r.take c := fun z => h2 (List.mem_of_mem_take z)
    have e : o.take (min (c - n) g.length) = o.take (c - n) := by
      rw [← (orders_perm g o ho).length_eq]
      by_cases hh : c - n ≤ o.length
      · rw [Nat.min_eq_left hh]
      · rw [Nat.min_eq_right (by omega), List.take_length, List.take_of_length_le (by omega)]
    rw [e]
    simp [this]
  rw [sum_const_nat _ _ _ this, Nat.mul_assoc, orders_cnt g hn i hi _ (Nat.min_le_right ..)]
  simp only [Nat.mul_comm, Nat.mul_left_comm, Nat.mul_assoc]
/-- how many of the parted have it among the first c; num/den by groups -/
theorem cnt_none {i : α} {c : Nat} : ∀ (rows : List (List α)), (∀ r ∈ rows, i ∉ r) → cntTop c i rows = 0
  | [], _ => rfl
  | r :: rs, h => by
    unfold cntTop
    rw [List.map_cons, List.sum_cons, if_neg fun z => h r List.mem_cons_self (List.mem_of_mem_take z)]
    have := cnt_none (c := c) rs fun x hx => h x (List.mem_cons_of_mem _ hx)
    unfold cntTop at this
    rw [this]
end
/-! ### plain: shares are means -/
theorem placeQ_single {c i : Nat} : ∀ (o : List Nat) (a : Nat), placeQ c (o.map fun x => [x]) a i = if i ∈ o.take (c - a) then 1 else 0
  | [], a => by simp [placeQ]
  | x :: o, a => by
    rw [List.map_cons]
    by_cases h : i ∈ [x]
    · rw [placeQ_in h]
      have hx : i = x := by simpa using h
      subst hx
      by_cases hc : a < c
      · obtain ⟨d, hd⟩ : ∃ d, c - a = d + 1 := ⟨c - a - 1, by omega⟩
        rw [hd, if_pos (by simp)]
        rw [show min (d + 1) [i].length = 1 by simp]
        exact quo_self 1
      · rw [show c - a = 0 by omega, if_neg (by simp)]
        rw [show min 0 [i].length = 0 by simp]
        exact quo_self 0
    · rw [placeQ_out h, placeQ_single o]
      have hx : i ≠ x := by simpa using h
      rw [List.length_singleton]
      by_cases hc : a < c
      · obtain ⟨d, hd⟩ : ∃ d, c - a = d + 1 := ⟨c - a - 1, by omega⟩
        rw [hd, show c - (a + 1) = d by omega]
        simp [hx]
      · rw [show c - a = 0 by omega, show c - (a + 1) = 0 by omega]
        simp
theorem winQ_place {ranks : List (List Nat)} {i : Nat} (h : ∀ g ∈ ranks, g ≠ []) : winQ ranks i = placeQ 1 ranks 0 i := by
  cases ranks with
  | nil => rfl
  | cons g gs =>
    have hg : 0 < g.length := List.length_pos_iff.mpr (h g (by simp))
    unfold winQ
    simp only
    by_cases hi : i ∈ g
    · rw [if_pos hi, placeQ_in hi, show min (1 - 0) g.length = 1 by omega]
      rfl
    · rw [if_neg hi, placeQ_out hi]
      exact ((placeQ_le (places := 1) gs (0 + g.length) i fun x hx => h x (List.mem_cons_of_mem _ hx)).2.2 (by omega)).symm
theorem parted_cnt {c i : Nat} : ∀ (gs : List (List Nat)) (rows : List (List Nat)) (n : Nat), (∀ r ∈ rows, r.length = n ∧ i ∉ r) → gs.flatten.Nodup → (∀ g ∈ gs, g ≠ []) →
    ((cntTop c i (gs.foldl parStep rows) : Nat) : Rat) = ((gs.foldl parStep rows).length : Nat) * placeQ c gs n i
  | [], rows, n, h, _, _ => by
    rw [List.foldl_nil, cnt_none rows fun r hr => (h r hr).2]
    simp [placeQ, Rat.mul_zero]
  | g :: gs, rows, n, h, hn, hne => by
    rw [List.flatten_cons] at hn
    obtain ⟨h1, h2, h3⟩ := List.nodup_append.mp hn
    have hg : 0 < g.length := List.length_pos_iff.mpr (hne g (by simp))
    by_cases hi : i ∈ g
    · have hb := cnt_here (c := c) h hi h1
      have hin : ∀ r ∈ parStep rows g, i ∈ r := fun r hr => by
        obtain ⟨r', _, q, hq, rfl⟩ := par_mem hr
        exact List.mem_append_right _ ((orders_perm g q hq).mem_iff.mpr hi)
      rw [List.foldl_cons, cnt_behind gs _ hin fun z => h3 i hi i z rfl, foldl_len gs (parStep rows g), placeQ_in hi]
      rw [show (gs.foldl parStep [[]]).length = (partedL gs).length from rfl]
      have e : ((cntTop c i (parStep rows g) : Nat) : Rat) = ((parStep rows g).length : Nat) * quo (min (c - n) g.length : Nat) g.length := by
        have hq := quo_nat_mul (a := min (c - n) g.length) hg
        have hb' : ((cntTop c i (parStep rows g) : Nat) : Rat) * (g.length : Nat) = ((parStep rows g).length : Nat) * ((min (c - n) g.length : Nat) : Rat) := by
          rw [← Rat.natCast_mul, ← Rat.natCast_mul, hb, par_len]
        have h0 : (g.length : Rat) ≠ 0 := Rat.ne_of_gt (Rat.natCast_pos.mpr hg)
        rw [← hq] at hb'
        have : ((g.length : Nat) : Rat) * ((cntTop c i (parStep rows g) : Nat) : Rat) = (g.length : Nat) * (((parStep rows g).length : Nat) * quo (min (c - n) g.length : Nat) g.length) := by grind
        grind
      rw [Rat.natCast_mul, Rat.natCast_mul, e]
      grind
    · rw [List.foldl_cons, placeQ_out hi]
      refine parted_cnt gs (parStep rows g) (n + g.length) ?_ h2 fun x hx => hne x (List.mem_cons_of_mem _ hx)
      intro r hr
      obtain ⟨r', hr', q, hq, rfl⟩ := par_mem hr
      have hp := orders_perm g q hq
      refine ⟨by rw [List.length_append, (h r' hr').1, hp.length_eq], fun z => ?_⟩
      rcases List.mem_append.mp z with z | z
      · exact (h r' hr').2 z
      · exact hi (hp.mem_iff.mp z)
/-- nobody shares -/
def Result.one (r : Result) (o : List Nat) : Result := ⟨r.gone, o.map fun x => [x]⟩
theorem flat_one (o : List Nat) : (o.map fun x => [x]).flatten = o := by
  induction o with
  | nil => rfl
  | cons x o ih => rw [List.map_cons, List.flatten_cons, ih]; rfl
theorem Result.Ok.one {n : Nat} {r : Result} (h : r.Ok n) {o : List Nat} (ho : o ∈ partedL r.ranks) : (r.one o).Ok n := by
  have hp := parted_perm ho
  have hp2 : (r.gone ++ o).Perm (r.gone ++ r.ranks.flatten) := hp.append_left _
  refine ⟨?_, ?_, ?_, h.sg, ?_⟩
  · show (r.gone ++ (o.map fun x => [x]).flatten).Nodup
    rw [flat_one]
    exact hp2.nodup_iff.mpr h.nd
  · show ∀ x ∈ r.gone ++ (o.map fun x => [x]).flatten, x < n
    rw [flat_one]
    exact fun x hx => h.rg x (hp2.mem_iff.mp hx)
  · intro g hg
    obtain ⟨x, _, rfl⟩ := List.mem_map.mp hg
    simp
  · intro g hg
    obtain ⟨x, _, rfl⟩ := List.mem_map.mp hg
    simp
theorem sum_cast {α : Type} (f : α → Nat) : ∀ l : List α, (((l.map f).sum : Nat) : Rat) = rsum (l.map fun x => (f x : Rat))
  | [] => rfl
  | x :: l => by rw [List.map_cons, List.map_cons, List.sum_cons, rsum_cons, Rat.natCast_add, sum_cast f l]
theorem place_mean {n c i : Nat} {r : Result} (h : r.Ok n) : rsum ((partedL r.ranks).map fun o => placeQ c (r.one o).ranks 0 i) = ((partedL r.ranks).length : Nat) * placeQ c r.ranks 0 i := by
  have h1 := parted_cnt (c := c) (i := i) r.ranks [[]] 0 (by simp) (List.nodup_append.mp h.nd).2.1 h.ne
  rw [show r.ranks.foldl parStep [[]] = partedL r.ranks from rfl] at h1
  rw [← h1]
  unfold cntTop
  rw [sum_cast]
  congr 1
  apply List.map_congr_left
  intro o _
  show placeQ c (o.map fun x => [x]) 0 i = _
  rw [placeQ_single, Nat.sub_zero]
  split <;> rfl
theorem win_mean {n i : Nat} {r : Result} (h : r.Ok n) : rsum ((partedL r.ranks).map fun o => winQ (r.one o).ranks i) = ((partedL r.ranks).length : Nat) * winQ r.ranks i := by
  rw [winQ_place h.ne, ← place_mean h]
  congr 1
  apply List.map_congr_left
  intro o ho
  exact winQ_place (h.one ho).ne
theorem quo_mean {x y : Rat} {n : Nat} (hn : 0 < n) (h : x = (n : Rat) * y) : quo x.num (x.den * n) = y := by
  have hx := quo_self x
  unfold quo at hx ⊢
  rw [Rat.intCast_natCast] at hx
  have h0 : (n : Rat) ≠ 0 := Rat.ne_of_gt (Rat.natCast_pos.mpr hn)
  have h1 : (x.den : Rat) ≠ 0 := Rat.ne_of_gt (Rat.natCast_pos.mpr x.den_pos)
  rw [Rat.intCast_mul, Rat.intCast_natCast, Rat.intCast_natCast]
  have : (x.num : Rat) = x * x.den := by
    have : (x.num : Rat) / x.den * x.den = (x.num : Rat) := Rat.div_mul_cancel h1
    rw [← this, hx]
  rw [this, h]
  rw [Rat.div_def, Rat.inv_mul_rev]
  grind
end Ev

namespace Ev
open PySem
local macro_rules | `(tactic| simp! only [$xs,*]) => `(tactic| simp only [↓run_seq, ↓run_asg, ↓run_next, ↓run_expr, ↓run_retS, ↓run_ifS, ↓run_cell, ↓run_toNew, ↓run_toD, ↓run_toRef, ↓run_par, ↓run_store0, ↓run_storeF, ↓run_storeT, ↓run_setIx, ↓run_ok, ↓run_ret, ↓run_fail, ↓run_none, ↓run_bind, ↓run_var0, ↓run_varS, ↓run_con, ↓run_bin, ↓run_un, ↓run_args0, ↓run_argsS, ↓run_callB, ↓run_meth, ↓run_callF, ↓run_test, ↓run_testB, ↓run_not, ↓run_and, ↓run_or, ↓run_if, ↓run_truthB, ↓run_andV, ↓run_orV, ↓run_notV, ↓run_chain, ↓run_chain3, ↓run_part0, ↓run_part1, ↓run_slice, ↓run_iter, ↓run_iterC, ↓run_add, ↓run_addT, ↓run_addS, ↓run_addLL, ↓run_addNN, ↓run_addLN, ↓run_addNL, ↓run_sub, ↓run_neg, ↓run_mul, ↓run_div, ↓run_mod, ↓run_mulNI, ↓run_mulLI, ↓run_eqI, ↓run_neI, ↓run_eqS, ↓run_lt, ↓run_le, ↓run_gt, ↓run_ge, ↓run_isN, ↓run_notN, ↓run_isi, ↓run_isB, ↓run_notB, ↓run_ltS, ↓run_leS, ↓run_mulTI, ↓run_ix0, ↓run_ix1, ↓run_ix2, ↓run_ix3, ↓run_ix0L, ↓run_ix1L, ↓run_ix0N, ↓run_lenT, ↓run_lenL, ↓run_lenN, ↓run_tupleN, ↓run_tupleL, ↓run_tupleT, ↓run_listT, ↓run_listN, ↓run_listL, ↓run_slT, ↓run_slL, ↓run_slN, ↓run_revT, ↓run_revN, ↓run_revL, ↓run_max2, ↓run_min2, ↓run_rg1, ↓run_rg2, ↓run_trB, ↓run_trI, ↓run_trT, ↓run_trL, ↓run_trN, ↓run_trNone, ↓run_itT, ↓run_itL, ↓run_itN, ↓run_range1, ↓run_range2, ↓run_zipTT, ↓run_enumT, ↓run_enumL, ↓run_enumN, ↓two_t, ↓two_f, ↓outN_nx, ↓outN_ret, ↓outQ_nx, ↓outQ_d, ↓outQ_new, ↓setG_some, ↓asD_d, run_ite, run_ite', gVar, gTuple, gAll, frz_new, frz_d, frz_ref, frz_scr, isLst, isStr, opTup, opLst, allD, isTy, isN_none, isN_int, isN_bool, isN_str, isN_tup, isN_lst, isN_ref, isN_new, wipeG, List.map_cons, List.map_nil, List.set_cons_zero, List.set_cons_succ, List.length_cons, List.length_nil, List.cons_append, List.nil_append, List.replicate, Nat.reduceAdd, Nat.reduceSub, Nat.reduceLeDiff, Nat.reduceEqDiff, Int.reduceEq, reduceCtorEq, Bool.false_eq_true, Bool.not_true, Bool.not_false, ne_eq, not_false_eq_true, not_true_eq_false, true_and, and_true, and_self, sz0, sz1, sz2, sz3, sz4, sz5, sz6, sz7, sz8, sz10, $xs,*])
theorem fct6 {n : Nat} (h : n ≤ 6) : fct n ≤ 720 := Nat.le_trans (fct_mono h) (by decide)
theorem orders_le {g : List Nat} (h : g.length ≤ 6) : (ordersL g).length ≤ 720 := by rw [orders_len]; exact fct6 h
def SpecOrders (F : List W → M W) : Prop := ∀ g : List Nat, g.length ≤ 6 → Gives F [.d (natsD g)] (.d (.list ((ordersL g).map natsD)))
def F_law_orders_b3 (C : Str → List Ev.W → Ev.M Ev.W) : Ev.Env → Ev.M Ev.W := (sBin opAdd (sBin opAdd (sSlice (sVar 4) none (some (sVar 5))) (sCallB opTup (sArgs [(sVar 2)]))) (sSlice (sVar 4) (some (sVar 5)) none))
def F_law_orders_l3 (C : Str → List Ev.W → Ev.M Ev.W) : Ev.Env → Ev.M Ev.W := (sLc (sIterC opRange1 (sArgs [(sBin opAdd (sCallB opLen (sArgs [(sVar 4)])) (sCon (.int 1)))])) [5] (gVar 5) sYes (F_law_orders_b3 C))
def F_law_orders_b2 (C : Str → List Ev.W → Ev.M Ev.W) : Ev.Env → Ev.M Out := (sSeq (sAsg (sBin opAdd (sVar 3) (F_law_orders_l3 C)) (gVar 3)) sNext)
def F_law_orders_l2 (C : Str → List Ev.W → Ev.M Ev.W) : Ev.Env → Ev.M Out := (sFor (sIter (sVar 1)) (gVar 4) (F_law_orders_b2 C))
def F_law_orders_b1 (C : Str → List Ev.W → Ev.M Ev.W) : Ev.Env → Ev.M Out := (sSeq (sAsg (sCallB opLst (sArgs [])) (gVar 3)) (sSeq (F_law_orders_l2 C) (sSeq (sAsg (sVar 3) (gVar 1)) sNext)))
def F_law_orders_l1 (C : Str → List Ev.W → Ev.M Ev.W) : Ev.Env → Ev.M Out := (sFor (sIter (sVar 0)) (gVar 2) (F_law_orders_b1 C))
def F_law_orders (C : Str → List Ev.W → Ev.M Ev.W) : Ev.Env → Ev.M Out := (sSeq (sAsg (sCallB opLst (sArgs [(sCallB opTup (sArgs []))])) (gVar 1)) (sSeq (F_law_orders_l1 C) (sSeq (sRet (sVar 1)) sNext)))
theorem range_plus (n : Nat) : rangeItems 0 ((n : Int) + 1).toNat = (List.range (n + 1)).map fun k => W.d (nD k) := rangeItems_nat (n + 1)
theorem inLong_plus {n : Nat} (h : n ≤ 100000) : inLong ((n : Int) + 1) = true := inLong_nat (n := n + 1) (by omega)
theorem spec_orders (C : Call) : SpecOrders (fnSem 1 6 (F_law_orders C)) := by
  intro g hg
  refine gives_of fun st => run_fn (by rfl) ?_
  simp! only [F_law_orders, F_law_orders_l1]
  refine run_for (emb := fun t => W.d (nD t)) (L := []) g (fun done ρ s => s = st ∧ ∃ a2 a3 a4 : Option W, ρ = [some (.d (natsD g)), some (.d (.list ((ordersL done).map natsD))), a2, a3, a4, none]) ?_ (fun _ _ _ _ => rfl) ⟨rfl, _, _, _, rfl⟩ ?_ ?_
  · simp! only [natsD, List.map_map]
    rfl
  · rintro done t rest ρ s e ⟨rfl, a2, a3, a4, rfl⟩
    have hdl := prefix_len e
    have hbig := orders_le (g := done ++ [t]) (by rw [List.length_append, List.length_singleton]; omega)
    rw [orders_snoc] at hbig
    simp! only [F_law_orders_b1, F_law_orders_l2]
    refine run_for (emb := fun r => W.d (natsD r)) (L := []) (ordersL done) (fun don ρ s' => s' = s ∧ ∃ a4 : Option W, ρ = [some (.d (natsD g)), some (.d (.list ((ordersL done).map natsD))), some (.d (nD t)), some (.d (.list ((don.flatMap (insL t)).map natsD))), a4, none]) ?_ (fun _ _ _ _ => rfl) ⟨rfl, _, rfl⟩ ?_ ?_
    · simp! only [List.map_map]
      rfl
    · rintro don r more ρ s' e2 ⟨rfl, a4, rfl⟩
      have hrl : r.length = done.length := (orders_perm done r (prefix_mem e2).1).length_eq
      have hfl : (don.flatMap (insL t)).length + (insL t r).length ≤ 720 := by
        rw [e2, List.flatMap_append, List.flatMap_cons, List.length_append, List.length_append] at hbig
        omega
      simp! only [F_law_orders_b2, F_law_orders_l3]
      refine run_map (L := []) (emb := fun k => W.d (nD k)) (List.range (r.length + 1)) (fun k => natsD (r.take k ++ [t] ++ r.drop k)) ?_ (szl (by rw [List.length_range]; omega)) rfl ?_ ?_
      · simp! only [natsD, List.length_map, range_plus, inLong_plus (show r.length ≤ 100000 by omega)]
      · intro k hk
        simp! only [F_law_orders_b3, natsD, cutG_to, cutG_at]
        refine ⟨szl (by simp; omega), szl (by simp; omega), ?_⟩
        simp only [List.map_append, List.map_take, List.map_drop, List.map_cons, List.map_nil]
      · have e3 : (List.range (r.length + 1)).map (fun k => natsD (r.take k ++ [t] ++ r.drop k)) = (insL t r).map natsD := by
          unfold insL
          rw [List.map_map]
          rfl
        simp! only [e3]
        refine ⟨szl (by rw [List.length_map, List.length_map]; omega), some (.d (natsD r)), ?_⟩
        rw [List.flatMap_append, List.map_append, List.flatMap_singleton]
    · rintro ρ s' ⟨rfl, a4, rfl⟩
      simp! only []
      exact ⟨_, _, _, by rw [orders_snoc]⟩
  · rintro ρ s ⟨rfl, a2, a3, a4, rfl⟩
    simp! only [List.take_length]
def SpecParted (F : List W → M W) : Prop := ∀ r : Result, r.ranks.flatten.length ≤ 6 → (∀ g ∈ r.ranks, g ≠ []) → Gives F [.d r.d] (.new ((partedL r.ranks).map fun o => (r.one o).d))
def F_law_parted_b2 (C : Str → List Ev.W → Ev.M Ev.W) : Ev.Env → Ev.M Ev.W := (sCallB opTup (sArgs [(sVar 6)]))
def F_law_parted_l2 (C : Str → List Ev.W → Ev.M Ev.W) : Ev.Env → Ev.M Ev.W := (sLc (sIter (sVar 4)) [6] (gVar 6) sYes (F_law_parted_b2 C))
def F_law_parted_b1 (C : Str → List Ev.W → Ev.M Ev.W) : Ev.Env → Ev.M Ev.W := (sCallB opTup (sArgs [(sBin opIx (sVar 0) (sCon (.int 0))), (sCallB opTuple (sArgs [(F_law_parted_l2 C)]))]))
def F_law_parted_l1 (C : Str → List Ev.W → Ev.M Ev.W) : Ev.Env → Ev.M Ev.W := (sLc (sIter (sVar 1)) [4] (gVar 4) sYes (F_law_parted_b1 C))
def F_law_parted_b5 (C : Str → List Ev.W → Ev.M Ev.W) : Ev.Env → Ev.M Ev.W := (sBin opAdd (sVar 4) (sVar 5))
def F_law_parted_l5 (C : Str → List Ev.W → Ev.M Ev.W) : Ev.Env → Ev.M Ev.W := (sLc (sIter (sCallF 1 (C (Str.ofString "_law_orders")) (sArgs [(sVar 2)]))) [5] (gVar 5) sYes (F_law_parted_b5 C))
def F_law_parted_b4 (C : Str → List Ev.W → Ev.M Ev.W) : Ev.Env → Ev.M Out := (sSeq (sAsg (sBin opAdd (sVar 3) (F_law_parted_l5 C)) (gVar 3)) sNext)
def F_law_parted_l4 (C : Str → List Ev.W → Ev.M Ev.W) : Ev.Env → Ev.M Out := (sFor (sIter (sVar 1)) (gVar 4) (F_law_parted_b4 C))
def F_law_parted_b3 (C : Str → List Ev.W → Ev.M Ev.W) : Ev.Env → Ev.M Out := (sSeq (sAsg (sCallB opLst (sArgs [])) (gVar 3)) (sSeq (F_law_parted_l4 C) (sSeq (sAsg (sVar 3) (gVar 1)) sNext)))
def F_law_parted_l3 (C : Str → List Ev.W → Ev.M Ev.W) : Ev.Env → Ev.M Out := (sFor (sIter (sBin opIx (sVar 0) (sCon (.int 1)))) (gVar 2) (F_law_parted_b3 C))
def F_law_parted (C : Str → List Ev.W → Ev.M Ev.W) : Ev.Env → Ev.M Out := (sSeq (sAsg (sCallB opLst (sArgs [(sCallB opTup (sArgs []))])) (gVar 1)) (sSeq (F_law_parted_l3 C) (sSeq (sRet (F_law_parted_l1 C)) sNext)))
theorem partedL_snoc (gs : List (List Nat)) (g : List Nat) : partedL (gs ++ [g]) = (partedL gs).flatMap fun row => (ordersL g).map fun o => row ++ o := by
  unfold partedL
  rw [List.foldl_append]
  rfl
theorem spec_parted {C : Call} (ho : SpecOrders (C (Str.ofString "_law_orders"))) : SpecParted (fnSem 1 7 (F_law_parted C)) := by
  intro r hl hne
  refine gives_of fun st => run_fn (by rfl) ?_
  have hrk := ranked_len (n := 6) ⟨hne, hl⟩
  simp! only [F_law_parted, F_law_parted_l3]
  refine run_for (emb := fun g => W.d (natsD g)) (L := []) r.ranks (fun done ρ s => s = st ∧ ∃ a2 a3 a4 : Option W, ρ = [some (.d r.d), some (.d (.list ((partedL done).map natsD))), a2, a3, a4, none, none]) ?_ (fun _ _ _ _ => rfl) ⟨rfl, _, _, _, rfl⟩ ?_ ?_
  · simp! only [Result.d, ranksD, List.map_map]
    rfl
  · rintro done g rest ρ s e ⟨rfl, a2, a3, a4, rfl⟩
    have hfl : (done.flatten ++ g).length ≤ 6 := by
      rw [e, List.flatten_append, List.flatten_cons, List.length_append, List.length_append] at hl
      rw [List.length_append]
      omega
    have hgl : g.length ≤ 6 := by rw [List.length_append] at hfl; omega
    have hbig : (partedL (done ++ [g])).length ≤ 720 := by
      refine Nat.le_trans (parted_le _) (fct6 ?_)
      rw [List.flatten_append, List.flatten_singleton]
      exact hfl
    rw [partedL_snoc] at hbig
    have e1 := ho g hgl
    simp! only [F_law_parted_b3, F_law_parted_l4]
    refine run_for (emb := fun r => W.d (natsD r)) (L := []) (partedL done) (fun don ρ s' => s' = s ∧ ∃ a4 : Option W, ρ = [some (.d r.d), some (.d (.list ((partedL done).map natsD))), some (.d (natsD g)), some (.d (.list ((don.flatMap fun row => (ordersL g).map fun o => row ++ o).map natsD))), a4, none, none]) ?_ (fun _ _ _ _ => rfl) ⟨rfl, _, rfl⟩ ?_ ?_
    · simp! only [List.map_map]
      rfl
    · rintro don row more ρ s' e2 ⟨rfl, a4, rfl⟩
      have hrl : row.length ≤ 6 := by
        rw [(parted_perm (prefix_mem e2).1).length_eq]
        rw [List.length_append] at hfl
        omega
      have hfl2 : (don.flatMap fun row => (ordersL g).map fun o => row ++ o).length + ((ordersL g).map fun o => row ++ o).length ≤ 720 := by
        rw [e2, List.flatMap_append, List.flatMap_cons, List.length_append, List.length_append] at hbig
        omega
      simp! only [F_law_parted_b4, F_law_parted_l5]
      refine run_map (L := []) (emb := fun k => W.d (natsD k)) (ordersL g) (fun o => natsD (row ++ o)) ?_ (szl (by have := orders_le hgl; omega)) rfl ?_ ?_
      · simp! only [e1.run, List.map_map]
        rfl
      · intro o hom
        have hol := (orders_perm g o hom).length_eq
        simp! only [F_law_parted_b5, natsD]
        refine ⟨szl (by simp; omega), ?_⟩
        simp only [List.map_append]
      · simp! only []
        refine ⟨szl ?_, some (.d (natsD row)), ?_⟩
        · rw [List.length_map, List.length_map]
          rw [List.length_map] at hfl2
          omega
        · rw [List.flatMap_append, List.map_append, List.flatMap_singleton, List.map_map]
          rfl
    · rintro ρ s' ⟨rfl, a4, rfl⟩
      simp! only []
      exact ⟨_, _, _, by rw [partedL_snoc]⟩
  · rintro ρ s ⟨rfl, a2, a3, a4, rfl⟩
    simp! only [F_law_parted_l1]
    have hpl : (partedL r.ranks).length ≤ 720 := Nat.le_trans (parted_le _) (fct6 hl)
    refine run_map (L := []) (emb := fun k => W.d (natsD k)) (partedL r.ranks) (fun o => (r.one o).d) ?_ (szl (by omega)) rfl ?_ ?_
    · simp! only [List.map_map]
      rfl
    · intro o hom
      have hol := (parted_perm hom).length_eq
      simp! only [F_law_parted_b1, Result.d, F_law_parted_l2]
      refine run_map (L := []) (emb := fun k => W.d (nD k)) o (fun k => natsD [k]) ?_ (szl (by omega)) rfl ?_ ?_
      · simp! only [natsD, List.map_map]
        rfl
      · intro k hk
        simp! only [F_law_parted_b2, natsD]
      · simp! only [Result.one, ranksD, List.map_map]
        rfl
    · simp! only [List.take_length]
/-! ### results that are none of the bad ones -/
def SpecRising (F : List W → M W) : Prop := ∀ (g : List Nat) (n : Nat), g.Pairwise (· < ·) → (∀ x ∈ g, x < n) → Gives F [.d (natsD g), .d (nD n)] (Bo true)
def F_is_rising_b1 (C : Str → List Ev.W → Ev.M Ev.W) : Ev.Env → Ev.M Out := (sSeq (sIfS (sOr (sNot (sTest (sCallF 1 (C (Str.ofString "is_whole")) (sArgs [(sVar 3)])))) (sNot (sTestB (sChain opLt opLt (sVar 2) (sVar 3) (sVar 1))))) (sSeq (sRet (sCon (.bool false))) sNext) sNext) (sSeq (sAsg (sVar 3) (gVar 2)) sNext))
def F_is_rising_l1 (C : Str → List Ev.W → Ev.M Ev.W) : Ev.Env → Ev.M Out := (sFor (sIter (sVar 0)) (gVar 3) (F_is_rising_b1 C))
def F_is_rising (C : Str → List Ev.W → Ev.M Ev.W) : Ev.Env → Ev.M Out := (sSeq (sAsg (sUn opNeg (sCon (.int 1))) (gVar 2)) (sSeq (sIfS (sNot (sTest (sUn (opIsi .tuple) (sVar 0)))) (sSeq (sRet (sCon (.bool false))) sNext) sNext) (sSeq (F_is_rising_l1 C) (sSeq (sRet (sCon (.bool true))) sNext))))
theorem spec_rising {C : Call} (hw : SpecWhole (C (Str.ofString "is_whole"))) : SpecRising (fnSem 2 4 (F_is_rising C)) := by
  intro g n hs hb
  refine gives_of fun st => run_fn (by rfl) ?_
  simp! only [F_is_rising, F_is_rising_l1, natsD]
  refine run_for (emb := fun x => W.d (nD x)) (L := []) g (fun done ρ s => s = st ∧ ∃ (l : Int) (a3 : Option W), ρ = [some (.d (.tuple (g.map nD))), some (.d (nD n)), some (.d (.int l)), a3] ∧ ∀ (x : Nat) (rest : List Nat), g = done ++ x :: rest → l < (x : Int)) ?_ (fun _ _ _ _ => rfl) ⟨rfl, -1, none, rfl, fun x _ _ => by omega⟩ ?_ ?_
  · simp! only [List.map_map]
    rfl
  · rintro done x rest ρ s e ⟨rfl, l, a3, rfl, hl⟩
    have h1 : decide (l < (x : Int)) = true := decide_eq_true (hl x rest e)
    have h2 : decide ((x : Int) < (n : Int)) = true := decide_eq_true (by have := hb x (prefix_mem e).1; omega)
    have e1 := hw (nD x)
    simp! only [F_is_rising_b1, e1.run, show wholeB (nD x) = true from rfl, h1, h2]
    refine ⟨(x : Int), _, rfl, fun y more e2 => ?_⟩
    rw [e2, List.append_assoc, List.pairwise_append] at hs
    have := hs.2.1
    rw [List.singleton_append, List.pairwise_cons] at this
    have := this.1 y (by simp)
    omega
  · rintro ρ s ⟨rfl, l, a3, rfl, hl⟩
    simp! only [List.take_length]
theorem run_extT {st : Store} {E : EQ} {Q : W → Store → Prop} {k : Nat} {l xs : List PyData} (h : st[k]? = some (.lst l)) : Run (opExtend (.ref k) [.d (.tuple xs)] st) Q E = (l.length + xs.length ≤ sizeLine ∧ Q (.d .none) (st.set k (.lst (l ++ xs)))) := by
  simp only [opExtend, h]
  exact run_ite'
def SpecIsRes (F : List W → M W) : Prop := ∀ (ps : List PyData) (x y : PyData) (r : Result), r.Ok ps.length → ps.length ≤ 1000 → Gives F [.d (.tuple [.tuple ps, x, y]), .d r.d] (Bo true)
def F_is_result_c2 (C : Str → List Ev.W → Ev.M Ev.W) : Ev.Env → Ev.M Bool := (sTestB (sBin opIn (sVar 7) (sVar 5)))
def F_is_result_b2 (C : Str → List Ev.W → Ev.M Ev.W) : Ev.Env → Ev.M Ev.W := (sVar 7)
def F_is_result_l2 (C : Str → List Ev.W → Ev.M Ev.W) : Ev.Env → Ev.M Ev.W := (sLc (sIter (sVar 6)) [7] (gVar 7) (F_is_result_c2 C) (F_is_result_b2 C))
def F_is_result_b1 (C : Str → List Ev.W → Ev.M Ev.W) : Ev.Env → Ev.M Out := (sSeq (sIfS (sOr (sNot (sTest (sCallF 2 (C (Str.ofString "is_rising")) (sArgs [(sVar 6), (sVar 4)])))) (sOr (sTestB (sBin opEq (sVar 6) (sCallB opTup (sArgs [])))) (sTest (F_is_result_l2 C)))) (sSeq (sRet (sCon (.bool false))) sNext) sNext) (sSeq (sExpr (sMeth isLst opExtend (sVar 5) (sArgs [(sVar 6)]))) sNext))
def F_is_result_l1 (C : Str → List Ev.W → Ev.M Ev.W) : Ev.Env → Ev.M Out := (sFor (sIter (sVar 3)) (gVar 6) (F_is_result_b1 C))
def F_is_result (C : Str → List Ev.W → Ev.M Ev.W) : Ev.Env → Ev.M Out := (sSeq (sIfS (sOr (sNot (sTest (sUn (opIsi .tuple) (sVar 1)))) (sOr (sTestB (sBin opNe (sCallB opLen (sArgs [(sVar 1)])) (sCon (.int 2)))) (sNot (sTest (sUn (opIsi .tuple) (sBin opIx (sVar 1) (sCon (.int 1)))))))) (sSeq (sRet (sCon (.bool false))) sNext) sNext) (sSeq (sAsg (sVar 1) (gTuple [(gVar 2), (gVar 3)])) (sSeq (sAsg (sCallB opLen (sArgs [(sBin opIx (sVar 0) (sCon (.int 0)))])) (gVar 4)) (sSeq (sIfS (sNot (sTest (sCallF 2 (C (Str.ofString "is_rising")) (sArgs [(sVar 2), (sVar 4)])))) (sSeq (sRet (sCon (.bool false))) sNext) sNext) (sSeq (sCell 5 (sCallB opList (sArgs [(sVar 2)]))) (sSeq (F_is_result_l1 C) (sSeq (sRet (sCon (.bool true))) sNext)))))))
theorem spec_is_res {C : Call} (hr : SpecRising (C (Str.ofString "is_rising"))) : SpecIsRes (fnSem 2 8 (F_is_result C)) := by
  intro ps x y r hR hl
  refine gives_of fun st => run_fn (by rfl) ?_
  have e1 := hr r.gone ps.length hR.sg fun z hz => hR.rg z (List.mem_append_left _ hz)
  have hk := hR.ranked
  simp! only [F_is_result, Result.d, ranksD, e1.run, show ((2 : Int) == 2) = true from rfl, F_is_result_l1]
  simp only [natsD] at e1 ⊢
  simp! only [e1.run]
  refine run_for (emb := fun g => W.d (natsD g)) (L := []) r.ranks (fun done ρ s => s = st ++ [.lst ((r.gone ++ done.flatten).map nD)] ∧ ∃ a6 : Option W, ρ = [some (.d (.tuple [.tuple ps, x, y])), some (.d r.d), some (.d (natsD r.gone)), some (.d (ranksD r.ranks)), some (.d (nD ps.length)), some (.ref st.length), a6, none]) ?_ (fun _ _ _ _ => rfl) ⟨by simp, _, rfl⟩ ?_ ?_
  · simp! only [ranksD, List.map_map]
    rfl
  · rintro done g rest ρ s e ⟨rfl, a6, rfl⟩
    have hg := (prefix_mem e).1
    have e2 := hr g ps.length (hR.sr g hg) fun z hz => hR.rg z (List.mem_append_right _ (List.mem_flatten.mpr ⟨g, hg, hz⟩))
    have hgn : g ≠ [] := hR.ne g hg
    have hgl := hk.len g hg
    have hnd : ∀ z ∈ g, z ∉ r.gone ++ done.flatten := by
      intro z hz hm
      have h1 := hR.nd
      rw [e, List.flatten_append, List.flatten_cons, ← List.append_assoc] at h1
      have h2 := (List.nodup_append.mp h1).2.2
      exact h2 z hm z (List.mem_append_left _ hz) rfl
    have hlen : (r.gone ++ done.flatten).length + g.length ≤ ps.length := by
      have h1 := hR.nd
      rw [e, List.flatten_append, List.flatten_cons, ← List.append_assoc, ← List.append_assoc] at h1
      have h2 := (List.nodup_append.mp h1).1
      have h3 := h2.length_le_of_subset (l₂ := List.range ps.length) (fun z hz => List.mem_range.mpr (hR.rg z (by
        rw [e, List.flatten_append, List.flatten_cons, ← List.append_assoc, ← List.append_assoc]
        exact List.mem_append_left _ hz)))
      rw [List.length_range, List.length_append] at h3
      exact h3
    have c1 : (st ++ [Cell.lst ((r.gone ++ done.flatten).map nD)])[st.length]? = some (.lst ((r.gone ++ done.flatten).map nD)) := app_get
    have hq : PyData.eqv (.tuple (g.map nD)) (.tuple []) = false := by
      cases g with
      | nil => exact absurd rfl hgn
      | cons a g => rfl
    have s1 : SeqAt.shaped (.tuple (g.map nD)) = true := (Shp.nats (g := g)).shaped
    have s2 : SeqAt.shaped (.tuple []) = true := by decide
    simp only [natsD] at e2 ⊢
    simp! only [F_is_result_b1, e2.run, ↓run_eqD, s1, s2, Bool.and_true, hq, F_is_result_l2]
    refine run_filter (L := []) (emb := fun k => W.d (nD k)) g (fun _ => false) nD ?_ (szl (by omega)) rfl ?_ ?_
    · simp! only [List.map_map]
      rfl
    · intro z hz
      have hin : ∀ {Q : W → Store → Prop} {E : EQ}, Run (opIn (.d (.int (z : Int))) (.ref st.length) (st ++ [Cell.lst ((r.gone ++ done.flatten).map nD)])) Q E = Q (.d (.bool (decide (z ∈ r.gone ++ done.flatten)))) (st ++ [Cell.lst ((r.gone ++ done.flatten).map nD)]) := run_inNats (by simp only [asSeq, c1])
      simp! only [F_is_result_c2, F_is_result_b2, ↓hin, hnd z hz, decide_false]
      exact fun h => (by cases h)
    · have fz : g.filter (fun _ => false) = [] := by simp
      simp! only [fz, List.map_nil, List.isEmpty_nil, ↓run_extT c1]
      refine ⟨szl (by simp only [List.length_map]; omega), ?_, _, rfl⟩
      rw [app_set, List.flatten_append, List.flatten_singleton, ← List.append_assoc]
      simp only [List.map_append]
  · rintro ρ s ⟨rfl, a6, rfl⟩
    simp! only []
    simp
end Ev

namespace Ev
open PySem
local macro_rules | `(tactic| dsimp! only [$xs,*]) => `(tactic| simp only [fnSem, leave, sSeq, sRet, sExpr, sNext, sIfS, sAsg, sCell, toCell, sPar, storeAll, storeW, sSetIx, opSet, sVar, sCon, sBin, sUn, sArgs, sCallB, sMeth, sCallF, sTest, sTestB, sNot, sAnd, sOr, sIf, sAndV, sOrV, sNotV, sChain, sSlice, sPart, sFor, sLc, sIter, sIterC, sYes, iterOf, gVar, gTuple, gAll, frz_new, frz_d, frz_ref, frz_scr, isLst, isStr, mbind, mret, mfail, truth, truthB, asSeq, asList, asData, opIsi, isTy, opIsN, opNotN, isNone, allD, opTup, opLst, opLen, List.map_cons, List.map_nil, List.getElem?_cons_zero, List.getElem?_cons_succ, List.set_cons_zero, List.set_cons_succ, List.length_cons, List.length_nil, List.cons_append, List.nil_append, List.replicate, List.take_succ_cons, List.take_zero, List.take_length, Nat.reduceAdd, Nat.reduceSub, Nat.reduceLeDiff, if_true, if_false, ite_true, ite_false, reduceIte, reduceCtorEq, wipeG, Bool.false_eq_true, Bool.not_true, Bool.not_false, sz0, sz1, sz2, sz3, sz4, sz5, sz6, sz7, sz8, $xs,*])
/-! ### a thing bent keeps its tuples short -/
def tame (m : Nat) : Nat → PyData → Bool
  | k + 1, .tuple xs => decide (xs.length ≤ m) && xs.all (tame m k)
  | _, _ => true
theorem tame_zero {m : Nat} {x : PyData} : tame m 0 x = true := by cases x <;> rfl
theorem tame_tuple {m k : Nat} {xs : List PyData} : tame m (k + 1) (.tuple xs) = true ↔ xs.length ≤ m ∧ ∀ x ∈ xs, tame m k x = true := by
  rw [tame, Bool.and_eq_true, decide_eq_true_eq, List.all_eq_true]
theorem tame_flat {m k : Nat} {x : PyData} (h : isTy .tuple x = false) : tame m k x = true := by
  cases k <;> cases x <;> first | rfl | exact nomatch h
theorem tame_up {m m' : Nat} (hm : m ≤ m') : ∀ {k : Nat} {x : PyData}, tame m k x = true → tame m' k x = true
  | 0, x, _ => tame_zero
  | k + 1, x, h => by
    cases x with
    | tuple xs =>
      rw [tame_tuple] at h ⊢
      exact ⟨by omega, fun y hy => tame_up hm (h.2 y hy)⟩
    | _ => rfl
theorem tame_bend0 {m k : Nat} (hm : 2 ≤ m) : ∀ y ∈ bend0, tame m k y = true := by
  have t0 : ∀ {k : Nat} {xs : List PyData}, xs.length ≤ 2 → (∀ x ∈ xs, ∀ k, tame m k x = true) → tame m k (.tuple xs) = true := by
    intro k xs h1 h2
    cases k with
    | zero => exact tame_zero
    | succ k => exact tame_tuple.mpr ⟨by omega, fun x hx => h2 x hx k⟩
  have ti : ∀ (i : Int) k, tame m k (.int i) = true := fun i k => tame_flat rfl
  have tI : ∀ (is : List Int) k, is.length ≤ 2 → tame m k (.tuple (is.map PyData.int)) = true := fun is k h => t0 (by simpa using h) (fun x hx k => by obtain ⟨i, _, rfl⟩ := List.mem_map.mp hx; exact ti i k)
  intro y hy
  simp only [bend0, List.mem_cons, List.not_mem_nil, or_false] at hy
  rcases hy with rfl | rfl | rfl | rfl | rfl | rfl | rfl | rfl | rfl | rfl | rfl | rfl | rfl | rfl | rfl | rfl | rfl | rfl
  all_goals first
    | exact tame_flat rfl
    | exact tI [] k (by decide)
    | exact tI [1] k (by decide)
    | exact tI [0] k (by decide)
    | exact tI [1, 2] k (by decide)
    | exact tI [2, 4] k (by decide)
    | exact t0 (by decide) (fun x hx k => by rw [List.mem_singleton] at hx; subst hx; exact tI [0, 1] k (by decide))
theorem cutG_sub {xs : List PyData} {lo hi : Option Int} : ∀ y ∈ cutG xs lo hi, y ∈ xs := by
  intro y hy
  unfold cutG at hy
  exact List.mem_of_mem_drop (List.mem_of_mem_take hy)
def SpecBentT (ns : List Int) (k : Nat) (F : List W → M W) : Prop := ∀ (x : PyData) (rest : Store) (n : Nat) (st : Store), bendOk k x = true → tame 30 (k + 1) x = true → Town rest n st → n + 4 * (k + 1) ≤ lim → ∃ y st', F [.scr ns, .ref 0, .d x] st = some (.ok (.d y), st') ∧ tame 31 (k + 1) y = true ∧ Town rest (n + 4 * (k + 1)) st'
theorem spec_bentT {C : Call} {ns : List Int} {k : Nat} (hd : SpecDraw ns (C (Str.ofString "_law_draw"))) (hp : SpecPick ns (C (Str.ofString "_law_pick"))) (hb : ∀ j, k = j + 1 → SpecBentT ns j (C (Str.ofString "_law_bent"))) : SpecBentT ns k (fnSem 3 5 (F_law_bent C)) := by
  intro x rest n st hx htm ht hn
  have hz : (100000 : Nat) ≤ sizeLine := by decide
  have plain : ∀ (x : PyData), isTy .tuple x = false → isTy .int x = false → ∃ y st', fnSem 3 5 (F_law_bent C) [.scr ns, .ref 0, .d x] st = some (.ok (.d y), st') ∧ tame 31 (k + 1) y = true ∧ Town rest (n + 4 * (k + 1)) st' := by
    intro x h1 h2
    obtain ⟨y, st', e, hy, h3⟩ := hp (.d (.list bend0)) bend0 rest n st (.inl rfl) (by simp [bend0]) ht (by omega)
    refine ⟨y, st', ?_, tame_bend0 (by decide) y hy, h3.mono (by omega)⟩
    simp only [bend0] at e
    simp only [F_law_bent, fnSem, leave, sSeq, sRet, sNext, sIfS, sAsg, sVar, sCon, sBin, sUn, sArgs, sCallB, sCallF, sTest, sNot, sOr, gVar, frz, mbind, mret, truth, opIsi, h1, h2, allD, opTup, opLst, opNeg, List.map_cons, List.map_nil, List.getElem?_cons_zero, List.getElem?_cons_succ, List.set_cons_zero, List.set_cons_succ, List.length_cons, List.length_nil, List.cons_append, List.nil_append, List.replicate, Nat.reduceAdd, Nat.reduceSub, if_true, reduceIte, Bool.not_false, sz0, sz1, sz2, sz18, e, ht.len, h3.take, Int.reduceNeg]
  have tup : ∀ (xs : List PyData) (st1 : Store) (m : Nat), xs.length ≤ 1000 → tame 30 (k + 1) (.tuple xs) = true → Town rest m st1 → m + 2 ≤ n + 4 * (k + 1) → ∃ y st', C (Str.ofString "_law_pick") [.scr ns, .ref 0, .d (.list (bend0 ++ [.list xs, .tuple (cutG xs none (some (-1))), .tuple (xs ++ cutG xs (some (-1)) none), .tuple (cutG xs (some 1) none), .tuple xs.reverse, .tuple (xs ++ [.none])]))] st1 = some (.ok (.d y), st') ∧ tame 31 (k + 1) y = true ∧ Town rest (n + 4 * (k + 1)) st' := by
    intro xs st1 m hl htx h1 hm
    obtain ⟨y, st', e, hy, h3⟩ := hp (.d (.list (bend0 ++ [.list xs, .tuple (cutG xs none (some (-1))), .tuple (xs ++ cutG xs (some (-1)) none), .tuple (cutG xs (some 1) none), .tuple xs.reverse, .tuple (xs ++ [.none])]))) _ rest m st1 (.inl rfl) (by simp [bend0]) h1 (by omega)
    refine ⟨y, st', e, ?_, h3.mono (by omega)⟩
    rw [tame_tuple] at htx
    have tx : ∀ z ∈ xs, tame 31 k z = true := fun z hz => tame_up (by decide) (htx.2 z hz)
    rcases List.mem_append.mp hy with hy | hy
    · exact tame_bend0 (by decide) y hy
    · simp only [List.mem_cons, List.not_mem_nil, or_false] at hy
      rcases hy with rfl | rfl | rfl | rfl | rfl | rfl
      · rfl
      · exact tame_tuple.mpr ⟨by have := cutG_len xs none (some (-1)); omega, fun z hz => tx z (cutG_sub z hz)⟩
      · refine tame_tuple.mpr ⟨?_, fun z hz => tx z ((List.mem_append.mp hz).elim id (cutG_sub z))⟩
        have h2 : (cutG xs (some (-1)) none).length ≤ 1 := by
          have e : HT.sIx xs.length 0 (some (-1)) = xs.length - 1 := by
            simp only [HT.sIx]
            split <;> omega
          unfold cutG
          rw [e, List.length_take, List.length_drop]
          omega
        rw [List.length_append]
        omega
      · exact tame_tuple.mpr ⟨by have := cutG_len xs (some 1) none; omega, fun z hz => tx z (cutG_sub z hz)⟩
      · exact tame_tuple.mpr ⟨by rw [List.length_reverse]; omega, fun z hz => tx z (List.mem_reverse.mp hz)⟩
      · refine tame_tuple.mpr ⟨by rw [List.length_append, List.length_singleton]; omega, fun z hz => ?_⟩
        rcases List.mem_append.mp hz with hz | hz
        · exact tx z hz
        · rw [List.mem_singleton] at hz
          subst hz
          exact tame_flat rfl
  cases x with
  | none => exact plain _ rfl rfl
  | str s => exact plain _ rfl rfl
  | bool b => cases k <;> simp [bendOk] at hx
  | list b => cases k <;> simp [bendOk] at hx
  | dict b => cases k <;> simp [bendOk] at hx
  | int i =>
    have hi : -1000000 ≤ i ∧ i ≤ 1000000 := by cases k <;> simpa [bendOk] using hx
    have hlog : i.natAbs.log2 < 1920 := Nat.lt_of_lt_of_le (log2_lt (n := 20) (by omega) (by decide)) (by decide)
    obtain ⟨y, st', e, hy, h3⟩ := hp (.d (.list (bend0 ++ ([.int (i + 1), .int (i - 1), .bool (!(i != 0)), .tuple [.int i], .str (toString i)] ++ [.int (i + 1), .int (i - 1), .bool (!(i != 0)), .tuple [.int i], .str (toString i)])))) _ rest n st (.inl rfl) (by simp [bend0]) ht (by omega)
    refine ⟨y, st', ?_, ?_, h3.mono (by omega)⟩
    · simp only [bend0, List.cons_append, List.nil_append] at e
      have hm : (-(2 ^ 63) ≤ (2 : Int) ∧ (2 : Int) < 2 ^ 63 ∧ 5 * 2 ≤ sizeLine) = True := by decide
      have h2 : (2 : Int).toNat = 2 := rfl
      dsimp! only [F_law_bent, opNeg, Int.reduceNeg, opAdd, opSub, opStr, opMul, hlog, hm, h2, List.flatten_cons, List.flatten_nil, List.append_nil, sz18, sz28, e, ht.len, h3.take]
    · have one : tame 31 (k + 1) (.tuple [.int i]) = true := tame_tuple.mpr ⟨by simp, fun z hz => by rw [List.mem_singleton] at hz; subst hz; exact tame_flat rfl⟩
      rcases List.mem_append.mp hy with hy | hy
      · exact tame_bend0 (by decide) y hy
      · simp only [List.mem_append, List.mem_cons, List.not_mem_nil, or_false] at hy
        rcases hy with (rfl | rfl | rfl | rfl | rfl) | (rfl | rfl | rfl | rfl | rfl)
        all_goals first | rfl | exact one
  | tuple xs =>
    cases k with
    | zero => simp [bendOk] at hx
    | succ k =>
      simp only [bendOk, Bool.and_eq_true, decide_eq_true_eq, List.all_eq_true] at hx
      cases xs with
      | nil =>
        obtain ⟨y, st', e, hty, h3⟩ := tup [] st n (by simp) htm ht (by omega)
        refine ⟨y, st', ?_, hty, h3⟩
        have hc1 : (cutG ([] : List PyData) (some (-1)) none).length ≤ sizeLine := by have := cutG_len ([] : List PyData) (some (-1)) none; simp only [List.length_nil] at this; omega
        simp only [bend0, List.cons_append, List.nil_append] at e
        dsimp! only [F_law_bent, List.isEmpty_nil, opNeg, Int.reduceNeg, opAdd, opList, opSl, opRev, hc1, sz18, sz24, Nat.zero_add, e, ht.len, h3.take]
      | cons a as =>
        obtain ⟨v, st1, e1, v1, v2, h1⟩ := hd 4 rest n st (by decide) ht (by omega)
        by_cases hv : v = 0
        · subst hv
          obtain ⟨y, st', e, hty, h3⟩ := tup (a :: as) st1 (n + 2) hx.1 htm h1 (by omega)
          refine ⟨y, st', ?_, hty, h3⟩
          have hc1 : as.length + 1 + (cutG (a :: as) (some (-1)) none).length ≤ sizeLine := by have := cutG_len (a :: as) (some (-1)) none; rw [List.length_cons] at this hx; omega
          have hc2 : as.length + 1 + 1 ≤ sizeLine := by rw [List.length_cons] at hx; omega
          simp only [bend0, List.cons_append, List.nil_append] at e
          dsimp! only [F_law_bent, List.isEmpty_cons, e1, opEq, shaped_int, PyData.eqv, beq_self_eq_true, Bool.and_true, opNeg, Int.reduceNeg, opAdd, opList, opSl, opRev, hc1, hc2, sz18, sz24, e, ht.len, h3.take]
        · have hv' : (v == 0) = false := by simpa using hv
          obtain ⟨w, st2, e2, w1, w2, h2⟩ := hd ((a :: as).length : Nat) rest (n + 2) st1 (by rw [List.length_cons]; omega) h1 (by omega)
          obtain ⟨z, ez, hm⟩ := atI_mem w1 w2
          have htt := tame_tuple.mp htm
          obtain ⟨y, st3, e3, hty, h3⟩ := hb k rfl z rest (n + 2 + 2) st2 (hx.2 z hm) (htt.2 z hm) h2 (by omega)
          have c1 : (cutG (a :: as) none (some w)).length + 1 ≤ sizeLine := by have := cutG_len (a :: as) none (some w); omega
          have c2 : (cutG (a :: as) none (some w) ++ [y]).length + (cutG (a :: as) (some (w + 1)) none).length ≤ sizeLine := by
            have := cutG_len (a :: as) none (some w)
            have := cutG_len (a :: as) (some (w + 1)) none
            rw [List.length_append, List.length_singleton]
            omega
          refine ⟨.tuple (cutG (a :: as) none (some w) ++ [y] ++ cutG (a :: as) (some (w + 1)) none), st3, ?_, ?_, h3.mono (by omega)⟩
          · simp only [List.length_cons] at e2
            dsimp! only [F_law_bent, List.isEmpty_cons, e1, opEq, shaped_int, PyData.eqv, hv', Bool.and_true, e2, opSl, opIx, ez, e3, opAdd, c1, c2, ht.len, h3.take]
          · obtain ⟨j, rfl⟩ : ∃ j : Nat, w = j := ⟨w.toNat, by omega⟩
            have hj : ((j : Int) + 1) = ((j + 1 : Nat) : Int) := rfl
            rw [hj, cutG_to, cutG_at]
            refine tame_tuple.mpr ⟨?_, fun q hq => ?_⟩
            · rw [List.length_append, List.length_append, List.length_singleton, List.length_take, List.length_drop]
              have := htt.1
              omega
            · rcases List.mem_append.mp hq with hq | hq
              · rcases List.mem_append.mp hq with hq | hq
                · exact tame_up (by decide) (htt.2 q (List.mem_of_mem_take hq))
                · rw [List.mem_singleton] at hq
                  subst hq
                  exact hty
              · exact tame_up (by decide) (htt.2 q (List.mem_of_mem_drop hq))
end Ev

namespace Ev
open PySem
local macro_rules | `(tactic| simp! only [$xs,*]) => `(tactic| simp only [↓run_seq, ↓run_asg, ↓run_next, ↓run_expr, ↓run_retS, ↓run_ifS, ↓run_cell, ↓run_toNew, ↓run_toD, ↓run_toRef, ↓run_par, ↓run_store0, ↓run_storeF, ↓run_storeT, ↓run_setIx, ↓run_ok, ↓run_ret, ↓run_fail, ↓run_none, ↓run_bind, ↓run_var0, ↓run_varS, ↓run_con, ↓run_bin, ↓run_un, ↓run_args0, ↓run_argsS, ↓run_callB, ↓run_meth, ↓run_callF, ↓run_test, ↓run_testB, ↓run_not, ↓run_and, ↓run_or, ↓run_if, ↓run_truthB, ↓run_andV, ↓run_orV, ↓run_notV, ↓run_chain, ↓run_chain3, ↓run_part0, ↓run_part1, ↓run_slice, ↓run_iter, ↓run_iterC, ↓run_add, ↓run_addT, ↓run_addS, ↓run_addLL, ↓run_addNN, ↓run_addLN, ↓run_addNL, ↓run_sub, ↓run_neg, ↓run_mul, ↓run_div, ↓run_mod, ↓run_mulNI, ↓run_mulLI, ↓run_eqI, ↓run_neI, ↓run_eqS, ↓run_lt, ↓run_le, ↓run_gt, ↓run_ge, ↓run_isN, ↓run_notN, ↓run_isi, ↓run_isB, ↓run_notB, ↓run_ltS, ↓run_leS, ↓run_mulTI, ↓run_ix0, ↓run_ix1, ↓run_ix2, ↓run_ix3, ↓run_ix0L, ↓run_ix1L, ↓run_ix0N, ↓run_lenT, ↓run_lenL, ↓run_lenN, ↓run_tupleN, ↓run_tupleL, ↓run_tupleT, ↓run_listT, ↓run_listN, ↓run_listL, ↓run_slT, ↓run_slL, ↓run_slN, ↓run_revT, ↓run_revN, ↓run_revL, ↓run_max2, ↓run_min2, ↓run_rg1, ↓run_rg2, ↓run_trB, ↓run_trI, ↓run_trT, ↓run_trL, ↓run_trN, ↓run_trNone, ↓run_itT, ↓run_itL, ↓run_itN, ↓run_range1, ↓run_range2, ↓run_zipTT, ↓run_enumT, ↓run_enumL, ↓run_enumN, ↓two_t, ↓two_f, ↓outN_nx, ↓outN_ret, ↓outQ_nx, ↓outQ_d, ↓outQ_new, ↓setG_some, ↓asD_d, run_ite, run_ite', gVar, gTuple, gAll, frz_new, frz_d, frz_ref, frz_scr, isLst, isStr, opTup, opLst, allD, isTy, isN_none, isN_int, isN_bool, isN_str, isN_tup, isN_lst, isN_ref, isN_new, wipeG, List.map_cons, List.map_nil, List.set_cons_zero, List.set_cons_succ, List.length_cons, List.length_nil, List.cons_append, List.nil_append, List.replicate, Nat.reduceAdd, Nat.reduceSub, Nat.reduceLeDiff, Nat.reduceEqDiff, Int.reduceEq, reduceCtorEq, Bool.false_eq_true, Bool.not_true, Bool.not_false, ne_eq, not_false_eq_true, not_true_eq_false, true_and, and_true, and_self, sz0, sz1, sz2, sz3, sz4, sz5, sz6, sz7, sz8, sz10, $xs,*])
/-! ### rising groups -/
def riseB (n : Int) : Int → List PyData → Bool
  | _, [] => true
  | l, .int i :: xs => decide (l < i) && decide (i < n) && riseB n i xs
  | _, _ => false
def groupB (n : Int) : PyData → Bool
  | .tuple xs => riseB n (-1) xs
  | _ => false
theorem riseB_iff {n : Int} : ∀ {xs : List PyData} {l : Int}, riseB n l xs = true ↔ ∃ is : List Int, xs = is.map PyData.int ∧ is.Pairwise (· < ·) ∧ ∀ i ∈ is, l < i ∧ i < n
  | [], l => ⟨fun _ => ⟨[], rfl, .nil, by simp⟩, fun _ => rfl⟩
  | x :: xs, l => by
    cases x with
    | int i =>
      rw [riseB, Bool.and_eq_true, Bool.and_eq_true, decide_eq_true_eq, decide_eq_true_eq, riseB_iff]
      constructor
      · rintro ⟨⟨h1, h2⟩, is, rfl, h3, h4⟩
        refine ⟨i :: is, rfl, List.pairwise_cons.mpr ⟨fun j hj => (h4 j hj).1, h3⟩, fun j hj => ?_⟩
        rcases List.mem_cons.mp hj with rfl | hj
        · exact ⟨h1, h2⟩
        · have := h4 j hj
          omega
      · rintro ⟨is, e, h3, h4⟩
        cases is with
        | nil => cases e
        | cons j js =>
          simp only [List.map_cons, List.cons.injEq, PyData.int.injEq] at e
          obtain ⟨rfl, rfl⟩ := e
          have h5 := List.pairwise_cons.mp h3
          have h6 := h4 i List.mem_cons_self
          exact ⟨h6, js, rfl, h5.2, fun j hj => ⟨h5.1 j hj, (h4 j (List.mem_cons_of_mem _ hj)).2⟩⟩
    | _ =>
      refine ⟨fun h => (nomatch h), fun ⟨is, e, _⟩ => ?_⟩
      cases is with
      | nil => cases e
      | cons j js => simp at e
def SpecRisingG (F : List W → M W) : Prop := ∀ (x : PyData) (n : Nat), Gives F [.d x, .d (nD n)] (Bo (groupB n x))
theorem spec_risingG {C : Call} (hw : SpecWhole (C (Str.ofString "is_whole"))) : SpecRisingG (fnSem 2 4 (F_is_rising C)) := by
  intro x n
  refine gives_of fun st => run_fn (by rfl) ?_
  cases x with
  | tuple xs =>
    simp! only [F_is_rising, F_is_rising_l1, groupB]
    refine run_for (emb := fun x => W.d x) (L := []) xs (fun done ρ s => s = st ∧ ∃ (l : Int) (a3 : Option W), ρ = [some (.d (.tuple xs)), some (.d (nD n)), some (.d (.int l)), a3] ∧ ∀ rest, xs = done ++ rest → riseB n (-1) xs = riseB n l rest) ?_ (fun _ _ _ _ => rfl) ⟨rfl, -1, _, rfl, fun rest e => by rw [e]; rfl⟩ ?_ ?_
    · simp! only []
    · rintro done x rest ρ s e ⟨rfl, l, a3, rfl, hl⟩
      have hr := hl _ e
      have e1 := hw x
      cases x with
      | int i =>
        by_cases h1 : l < i
        · by_cases h2 : i < (n : Int)
          · simp! only [F_is_rising_b1, e1.run, show wholeB (.int i) = true from rfl, decide_eq_true h1, decide_eq_true h2]
            refine ⟨i, _, rfl, fun rest' e' => ?_⟩
            have : rest' = rest := by
              rw [e, List.append_assoc] at e'
              exact (List.cons.inj (List.append_cancel_left e')).2.symm
            rw [this, hr, riseB, decide_eq_true h1, decide_eq_true h2]
            rfl
          · have hf : riseB n (-1) xs = false := by rw [hr, riseB, decide_eq_true h1, decide_eq_false h2]; rfl
            simp! only [F_is_rising_b1, e1.run, show wholeB (.int i) = true from rfl, decide_eq_true h1, decide_eq_false h2, hf, List.take_length]
        · have hf : riseB n (-1) xs = false := by rw [hr, riseB, decide_eq_false h1]; rfl
          simp! only [F_is_rising_b1, e1.run, show wholeB (.int i) = true from rfl, decide_eq_false h1, hf, List.take_length]
      | _ =>
        have hf : riseB n (-1) xs = false := by rw [hr]; rfl
        simp! only [F_is_rising_b1, e1.run, wholeB, hf, List.take_length]
    · rintro ρ s ⟨rfl, l, a3, rfl, hl⟩
      have hr : riseB n (-1) xs = true := (hl [] (by simp)).trans rfl
      simp! only [List.take_length, hr]
  | _ => simp! only [F_is_rising, groupB, List.take_length]
def F_law_is_group_c1 (C : Str → List Ev.W → Ev.M Ev.W) : Ev.Env → Ev.M Bool := (sOr (sNot (sTest (sUn (opIsi .int) (sVar 2)))) (sOr (sTest (sUn (opIsi .bool) (sVar 2))) (sNot (sTestB (sChain opLe opLt (sCon (.int 0)) (sVar 2) (sVar 1))))))
def F_law_is_group_b1 (C : Str → List Ev.W → Ev.M Ev.W) : Ev.Env → Ev.M Ev.W := (sVar 2)
def F_law_is_group_l1 (C : Str → List Ev.W → Ev.M Ev.W) : Ev.Env → Ev.M Ev.W := (sLc (sIter (sVar 0)) [2] (gVar 2) (F_law_is_group_c1 C) (F_law_is_group_b1 C))
def F_law_is_group (C : Str → List Ev.W → Ev.M Ev.W) : Ev.Env → Ev.M Out := (sSeq (sIfS (sNot (sTest (sUn (opIsi .tuple) (sVar 0)))) (sSeq (sRet (sCon (.bool false))) sNext) sNext) (sSeq (sIfS (sTest (F_law_is_group_l1 C)) (sSeq (sRet (sCon (.bool false))) sNext) sNext) (sSeq (sRet (sBin opEq (sCallB opList (sArgs [(sVar 0)])) (sUn opSortSet (sVar 0)))) sNext)))
def SpecGroupG (F : List W → M W) : Prop := ∀ (x : PyData) (n : Nat), tame 40 1 x = true → Gives F [.d x, .d (nD n)] (Bo (groupB n x))
def badB (n : Int) : PyData → Bool
  | .int i => !(decide (0 ≤ i) && decide (i < n))
  | _ => true
theorem group_eq {n : Int} {is : List Int} (h : ∀ i ∈ is, 0 ≤ i ∧ i < n) : riseB n (-1) (is.map PyData.int) = decide (is = sortU is) := by
  rw [Bool.eq_iff_iff, riseB_iff, decide_eq_true_eq]
  constructor
  · rintro ⟨js, e, h1, _⟩
    have : is = js := (List.map_inj_right (fun a b h => PyData.int.inj h)).mp e
    subst this
    exact rise_eq h1 sortU_pw fun k => sortU_mem.symm
  · intro e
    exact ⟨is, rfl, by rw [e]; exact sortU_pw, fun i hi => by have := h i hi; omega⟩
theorem ints_of {n : Int} : ∀ {xs : List PyData}, (∀ y ∈ xs, badB n y = false) → ∃ is : List Int, xs = is.map PyData.int ∧ ∀ i ∈ is, 0 ≤ i ∧ i < n
  | [], _ => ⟨[], rfl, by simp⟩
  | x :: xs, h => by
    obtain ⟨is, rfl, h2⟩ := ints_of (xs := xs) fun y hy => h y (List.mem_cons_of_mem _ hy)
    have hx := h x List.mem_cons_self
    cases x with
    | int i =>
      have : 0 ≤ i ∧ i < n := by simpa [badB] using hx
      exact ⟨i :: is, rfl, fun j hj => by
        rcases List.mem_cons.mp hj with rfl | hj
        · exact this
        · exact h2 j hj⟩
    | _ => exact nomatch hx
theorem asInts_ints : ∀ is : List Int, asInts (is.map PyData.int) = some is
  | [] => rfl
  | i :: is => by simp only [List.map_cons, asInts, asInts_ints is]
theorem eqvAll_ints : ∀ a b : List Int, PyData.eqvAll (a.map PyData.int) (b.map PyData.int) = decide (a = b)
  | [], [] => by simp [PyData.eqvAll]
  | [], _ :: _ => by simp [PyData.eqvAll]
  | _ :: _, [] => by simp [PyData.eqvAll]
  | x :: xs, y :: ys => by
    rw [List.map_cons, List.map_cons, PyData.eqvAll, eqvAll_ints xs ys, PyData.eqv, Bool.eq_iff_iff]
    simp
section
variable {st : Store} {E : EQ} {Q : W → Store → Prop}
theorem run_eqNN' {xs ys : List PyData} : Run (opEq (.new xs) (.new ys) st) Q E = ((SeqAt.shaped (.list xs) && SeqAt.shaped (.list ys)) = true ∧ Q (.d (.bool (PyData.eqv (.list xs) (.list ys)))) st) := run_ite'
theorem run_eqII {a b : List Int} : Run (opEq (.new (a.map PyData.int)) (.new (b.map PyData.int)) st) Q E = Q (.d (.bool (decide (a = b)))) st := by
  have h1 : ∀ a : List Int, SeqAt.shaped (.list (a.map PyData.int)) = true := fun a => (Shp.list (Shp.map fun _ _ => Shp.int)).shaped
  have h2 : PyData.eqv (.list (a.map PyData.int)) (.list (b.map PyData.int)) = decide (a = b) := by rw [PyData.eqv, eqvAll_ints]
  rw [run_eqNN', h1, h1, h2]
  simp
theorem run_sortSet {is : List Int} (h : is.length < 64) : Run (opSortSet (.d (.tuple (is.map PyData.int))) st) Q E = Q (.new ((sortU is).map PyData.int)) st := by
  have e : opSortSet (.d (.tuple (is.map PyData.int))) st = some (.ok (.new ((sortU is).map PyData.int)), st) := by
    unfold opSortSet
    simp only [asSeq, asInts_ints, if_pos h]
  rw [Run_congr e, run_ok]
end
theorem spec_group {C : Call} : SpecGroupG (fnSem 2 3 (F_law_is_group C)) := by
  intro x n ht
  refine gives_of fun st => run_fn (by rfl) ?_
  cases x with
  | tuple xs =>
    have hl := (tame_tuple.mp ht).1
    simp! only [F_law_is_group, F_law_is_group_l1]
    refine run_filter (emb := fun x => W.d x) (L := []) xs (badB n) id ?_ (szl (by omega)) rfl ?_ ?_
    · simp! only []
    · intro y _
      cases y with
      | int i =>
        by_cases h1 : 0 ≤ i
        · by_cases h2 : i < (n : Int)
          · simp! only [F_law_is_group_c1, F_law_is_group_b1, badB, decide_eq_true h1, decide_eq_true h2, Bool.and_self]
            exact fun _ => rfl
          · simp! only [F_law_is_group_c1, F_law_is_group_b1, badB, decide_eq_true h1, decide_eq_false h2, Bool.and_false]
            exact fun _ => rfl
        · simp! only [F_law_is_group_c1, F_law_is_group_b1, badB, decide_eq_false h1, Bool.false_and]
          exact fun _ => rfl
      | _ =>
        simp! only [F_law_is_group_c1, F_law_is_group_b1, badB]
        exact fun _ => rfl
    rw [List.map_id]
    by_cases hb : ∀ y ∈ xs, badB n y = false
    · have hf : xs.filter (badB n) = [] := List.filter_eq_nil_iff.mpr fun y hy => by rw [hb y hy]; decide
      obtain ⟨is, rfl, hi⟩ := ints_of hb
      rw [List.length_map] at hl
      simp only [groupB, group_eq hi]
      simp! only [hf, List.isEmpty_nil, ↓run_sortSet (is := is) (by omega), ↓run_eqII, List.take_length]
    · have hf : (xs.filter (badB n)).isEmpty = false := by
        cases h : xs.filter (badB n) with
        | nil => exact absurd (fun y hy => by have := List.filter_eq_nil_iff.mp h y hy; simpa using this) hb
        | cons a l => rfl
      have hg : groupB n (.tuple xs) = false := by
        cases h : groupB n (.tuple xs) with
        | false => rfl
        | true =>
          obtain ⟨is, rfl, _, h2⟩ := riseB_iff.mp h
          refine absurd (fun y hy => ?_) hb
          obtain ⟨i, hi, rfl⟩ := List.mem_map.mp hy
          have := h2 i hi
          show (!(decide (0 ≤ i) && decide (i < (n : Int)))) = false
          rw [decide_eq_true (show 0 ≤ i by omega), decide_eq_true this.2]
          rfl
      simp! only [hf, hg, List.take_length]
  | _ => simp! only [F_law_is_group, groupB, List.take_length]
end Ev

namespace Ev
open PySem
local macro_rules | `(tactic| simp! only [$xs,*]) => `(tactic| simp only [↓run_seq, ↓run_asg, ↓run_next, ↓run_expr, ↓run_retS, ↓run_ifS, ↓run_cell, ↓run_toNew, ↓run_toD, ↓run_toRef, ↓run_par, ↓run_store0, ↓run_storeF, ↓run_storeT, ↓run_setIx, ↓run_ok, ↓run_ret, ↓run_fail, ↓run_none, ↓run_bind, ↓run_var0, ↓run_varS, ↓run_con, ↓run_bin, ↓run_un, ↓run_args0, ↓run_argsS, ↓run_callB, ↓run_meth, ↓run_callF, ↓run_test, ↓run_testB, ↓run_not, ↓run_and, ↓run_or, ↓run_if, ↓run_truthB, ↓run_andV, ↓run_orV, ↓run_notV, ↓run_chain, ↓run_chain3, ↓run_part0, ↓run_part1, ↓run_slice, ↓run_iter, ↓run_iterC, ↓run_add, ↓run_addT, ↓run_addS, ↓run_addLL, ↓run_addNN, ↓run_addLN, ↓run_addNL, ↓run_sub, ↓run_neg, ↓run_mul, ↓run_div, ↓run_mod, ↓run_mulNI, ↓run_mulLI, ↓run_eqI, ↓run_neI, ↓run_eqS, ↓run_lt, ↓run_le, ↓run_gt, ↓run_ge, ↓run_isN, ↓run_notN, ↓run_isi, ↓run_isB, ↓run_notB, ↓run_ltS, ↓run_leS, ↓run_mulTI, ↓run_ix0, ↓run_ix1, ↓run_ix2, ↓run_ix3, ↓run_ix0L, ↓run_ix1L, ↓run_ix0N, ↓run_lenT, ↓run_lenL, ↓run_lenN, ↓run_tupleN, ↓run_tupleL, ↓run_tupleT, ↓run_listT, ↓run_listN, ↓run_listL, ↓run_slT, ↓run_slL, ↓run_slN, ↓run_revT, ↓run_revN, ↓run_revL, ↓run_max2, ↓run_min2, ↓run_rg1, ↓run_rg2, ↓run_trB, ↓run_trI, ↓run_trT, ↓run_trL, ↓run_trN, ↓run_trNone, ↓run_itT, ↓run_itL, ↓run_itN, ↓run_range1, ↓run_range2, ↓run_zipTT, ↓run_enumT, ↓run_enumL, ↓run_enumN, ↓two_t, ↓two_f, ↓outN_nx, ↓outN_ret, ↓outQ_nx, ↓outQ_d, ↓outQ_new, ↓setG_some, ↓asD_d, run_ite, run_ite', gVar, gTuple, gAll, frz_new, frz_d, frz_ref, frz_scr, isLst, isStr, opTup, opLst, allD, isTy, isN_none, isN_int, isN_bool, isN_str, isN_tup, isN_lst, isN_ref, isN_new, wipeG, List.map_cons, List.map_nil, List.set_cons_zero, List.set_cons_succ, List.length_cons, List.length_nil, List.cons_append, List.nil_append, List.replicate, Nat.reduceAdd, Nat.reduceSub, Nat.reduceLeDiff, Nat.reduceEqDiff, Int.reduceEq, reduceCtorEq, Bool.false_eq_true, Bool.not_true, Bool.not_false, ne_eq, not_false_eq_true, not_true_eq_false, true_and, and_true, and_self, sz0, sz1, sz2, sz3, sz4, sz5, sz6, sz7, sz8, sz10, $xs,*])
theorem group_nats {n : Nat} {x : PyData} : groupB n x = true ↔ ∃ g : List Nat, x = natsD g ∧ g.Pairwise (· < ·) ∧ ∀ z ∈ g, z < n := by
  constructor
  · intro h
    cases x with
    | tuple xs =>
      obtain ⟨is, rfl, h1, h2⟩ := riseB_iff.mp h
      have e : is = (is.map Int.toNat).map Int.ofNat := by
        rw [List.map_map]
        conv => lhs; rw [← List.map_id is]
        apply List.map_congr_left
        intro i hi
        have := h2 i hi
        show i = ((i.toNat : Nat) : Int)
        omega
      refine ⟨is.map Int.toNat, ?_, ?_, ?_⟩
      · unfold natsD
        conv => lhs; rw [e, List.map_map]
        rfl
      · rw [List.pairwise_map]
        refine h1.imp_of_mem fun ha hb hab => ?_
        have := h2 _ ha
        omega
      · intro z hz
        obtain ⟨i, hi, rfl⟩ := List.mem_map.mp hz
        have := h2 i hi
        omega
    | _ => exact nomatch h
  · rintro ⟨g, rfl, h1, h2⟩
    show riseB n (-1) (g.map nD) = true
    refine riseB_iff.mpr ⟨g.map Int.ofNat, by rw [List.map_map]; rfl, ?_, ?_⟩
    · rw [List.pairwise_map]
      exact h1.imp fun h => by
        show (_ : Int) < _
        simp only [Int.ofNat_eq_natCast]
        omega
    · intro i hi
      obtain ⟨z, hz, rfl⟩ := List.mem_map.mp hi
      have := h2 z hz
      simp only [Int.ofNat_eq_natCast]
      omega
def natsOf : PyData → List Nat
  | .tuple xs => xs.map fun x => match x with | .int i => i.toNat | _ => 0
  | _ => []
theorem natsOf_natsD (g : List Nat) : natsOf (natsD g) = g := by
  show (g.map nD).map _ = g
  rw [List.map_map]
  conv => rhs; rw [← List.map_id g]
  apply List.map_congr_left
  intro z _
  rfl
def resB (n : Nat) : PyData → Bool
  | .tuple [g, .tuple rs] => groupB n g && rs.all (fun r => groupB n r && !(natsOf r).isEmpty) && decide ((natsOf g ++ rs.flatMap natsOf).Nodup)
  | _ => false
def SpecResG (F : List W → M W) : Prop := ∀ (ps : List PyData) (x y thing : PyData), ps.length ≤ 1000 → tame 40 3 thing = true → Gives F [.d (.tuple [.tuple ps, x, y]), .d thing] (Bo (resB ps.length thing))
theorem res_noPair {n : Nat} {xs : List PyData} (h : xs.length ≠ 2) : resB n (.tuple xs) = false := by
  match xs, h with
  | [], _ => rfl
  | [a], _ => rfl
  | [a, b], h => exact absurd rfl h
  | a :: b :: c :: l, _ => cases b <;> rfl
theorem spec_resG {C : Call} (hr : SpecRisingG (C (Str.ofString "is_rising"))) : SpecResG (fnSem 2 8 (F_is_result C)) := by
  intro ps x y thing hps htm
  refine gives_of fun st => run_fn (by rfl) ?_
  cases thing with
  | tuple xs =>
    by_cases hl : xs.length = 2
    · match xs, hl with
      | [g, t], _ =>
        cases t with
        | tuple rs =>
          have ht := (tame_tuple.mp htm).2 (.tuple rs) (by simp)
          have hrs := (tame_tuple.mp ht).1
          have e1 := hr g ps.length
          cases hg : groupB ps.length g with
          | false =>
            rw [hg] at e1
            have : resB ps.length (.tuple [g, .tuple rs]) = false := by
              show (groupB ps.length g && _ && _) = false
              rw [hg]
              rfl
            simp! only [F_is_result, show (((2 : Nat) : Int) == 2) = true from rfl, e1.run, this, List.take_length]
          | true =>
            rw [hg] at e1
            obtain ⟨gs, rfl, gp, gn⟩ := group_nats.mp hg
            simp only [natsD] at e1
            simp! only [F_is_result, natsD, show (((2 : Nat) : Int) == 2) = true from rfl, e1.run, F_is_result_l1]
            have bad : ∀ r ∈ rs, (groupB ps.length r && !(natsOf r).isEmpty) = false → resB ps.length (.tuple [.tuple (gs.map nD), .tuple rs]) = false := by
              intro r hr hb
              have : rs.all (fun r => groupB ps.length r && !(natsOf r).isEmpty) = false := by
                cases h : rs.all (fun r => groupB ps.length r && !(natsOf r).isEmpty) with
                | false => rfl
                | true => rw [List.all_eq_true.mp h r hr] at hb; cases hb
              show (_ && rs.all (fun r => groupB ps.length r && !(natsOf r).isEmpty) && _) = false
              rw [this]
              simp
            have nod : ¬ (gs ++ rs.flatMap natsOf).Nodup → resB ps.length (.tuple [.tuple (gs.map nD), .tuple rs]) = false := by
              intro h
              show (_ && _ && decide ((natsOf (natsD gs) ++ rs.flatMap natsOf).Nodup)) = false
              rw [natsOf_natsD, decide_eq_false h, Bool.and_false]
            have good : (∀ r ∈ rs, (groupB ps.length r && !(natsOf r).isEmpty) = true) → (gs ++ rs.flatMap natsOf).Nodup → resB ps.length (.tuple [.tuple (gs.map nD), .tuple rs]) = true := by
              intro h1 h2
              show (groupB ps.length (natsD gs) && rs.all (fun r => groupB ps.length r && !(natsOf r).isEmpty) && decide ((natsOf (natsD gs) ++ rs.flatMap natsOf).Nodup)) = true
              rw [hg, natsOf_natsD, decide_eq_true h2, List.all_eq_true.mpr h1]
              rfl
            refine run_for (emb := fun r => W.d r) (L := []) rs (fun done ρ s => s = st ++ [.lst ((gs ++ done.flatMap natsOf).map nD)] ∧ (∃ a6 : Option W, ρ = [some (.d (.tuple [.tuple ps, x, y])), some (.d (.tuple [.tuple (gs.map nD), .tuple rs])), some (.d (.tuple (gs.map nD))), some (.d (.tuple rs)), some (.d (nD ps.length)), some (.ref st.length), a6, none]) ∧ (∀ r ∈ done, (groupB ps.length r && !(natsOf r).isEmpty) = true) ∧ (gs ++ done.flatMap natsOf).Nodup) ?_ (fun _ _ _ _ => rfl) ⟨by simp, ⟨_, rfl⟩, by simp, by simpa using List.nodup_iff_pairwise_ne.mpr (gp.imp fun h => Nat.ne_of_lt h)⟩ ?_ ?_
            · simp! only []
            · rintro done r rest ρ s e ⟨rfl, ⟨a6, rfl⟩, hd, hnd⟩
              have hrm : r ∈ rs := by rw [e]; simp
              have e2 := hr r ps.length
              cases hgr : groupB ps.length r with
              | false =>
                rw [hgr] at e2
                have := bad r hrm (by rw [hgr]; rfl)
                simp! only [F_is_result_b1, e2.run, this, List.take_left']
              | true =>
                rw [hgr] at e2
                obtain ⟨g, rfl, pp, pn⟩ := group_nats.mp hgr
                have s1 : SeqAt.shaped (.tuple (g.map nD)) = true := (Shp.nats (g := g)).shaped
                have s2 : SeqAt.shaped (.tuple []) = true := by decide
                simp only [natsD] at e2 ⊢
                cases g with
                | nil =>
                  have := bad _ hrm (by rw [natsOf_natsD]; simp)
                  have hq : PyData.eqv (.tuple []) (.tuple []) = true := by decide
                  simp only [List.map_nil] at e2
                  simp! only [F_is_result_b1, e2.run, ↓run_eqD, s2, Bool.and_true, hq, this, List.take_left']
                | cons z zs =>
                  have hq : PyData.eqv (.tuple ((z :: zs).map nD)) (.tuple []) = false := rfl
                  have c1 : (st ++ [Cell.lst ((gs ++ done.flatMap natsOf).map nD)])[st.length]? = some (.lst ((gs ++ done.flatMap natsOf).map nD)) := app_get
                  generalize hzz : z :: zs = g at *
                  simp! only [F_is_result_b1, e2.run, ↓run_eqD, s1, s2, Bool.and_true, hq, F_is_result_l2]
                  refine run_filter (L := []) (emb := fun k => W.d (nD k)) g (fun k => decide (k ∈ gs ++ done.flatMap natsOf)) nD ?_ ?_ rfl ?_ ?_
                  · simp! only [List.map_map]
                    rfl
                  · have := (tame_tuple.mp ((tame_tuple.mp ht).2 _ hrm)).1
                    rw [List.length_map] at this
                    exact szl (by omega)
                  · intro k _
                    have hin : ∀ {Q : W → Store → Prop} {E : EQ}, Run (opIn (.d (.int (k : Int))) (.ref st.length) (st ++ [Cell.lst ((gs ++ done.flatMap natsOf).map nD)])) Q E = Q (.d (.bool (decide (k ∈ gs ++ done.flatMap natsOf)))) (st ++ [Cell.lst ((gs ++ done.flatMap natsOf).map nD)]) := run_inNats (by simp only [asSeq, c1])
                    simp! only [F_is_result_c2, F_is_result_b2, ↓hin]
                    exact fun _ => trivial
                  · have hsub : (gs ++ rs.flatMap natsOf) = (gs ++ done.flatMap natsOf ++ g) ++ rest.flatMap natsOf := by
                      rw [e, List.flatMap_append, List.flatMap_cons, List.append_assoc, List.append_assoc, natsOf_natsD]
                    cases hf : g.filter (fun k => decide (k ∈ gs ++ done.flatMap natsOf)) with
                    | cons k ks =>
                      have hk : k ∈ g.filter (fun k => decide (k ∈ gs ++ done.flatMap natsOf)) := by rw [hf]; exact List.mem_cons_self
                      rw [List.mem_filter, decide_eq_true_eq] at hk
                      have := nod fun h => by
                        rw [hsub] at h
                        exact (List.nodup_append.mp (List.nodup_append.mp h).1).2.2 k hk.2 k hk.1 rfl
                      simp! only [List.isEmpty_cons, this, List.take_left']
                    | nil =>
                      have hno : ∀ k ∈ g, k ∉ gs ++ done.flatMap natsOf := fun k hk => by
                        have := List.filter_eq_nil_iff.mp hf k hk
                        simpa using this
                      have hnew : (gs ++ done.flatMap natsOf ++ g).Nodup := List.nodup_append.mpr ⟨hnd, List.nodup_iff_pairwise_ne.mpr (pp.imp fun h => Nat.ne_of_lt h), fun a ha b hb e => hno b hb (e ▸ ha)⟩
                      have hlen : (gs ++ done.flatMap natsOf ++ g).length ≤ ps.length := by
                        have h3 := hnew.length_le_of_subset (l₂ := List.range ps.length) (fun z hz => List.mem_range.mpr (by
                          rcases List.mem_append.mp hz with hz | hz
                          · rcases List.mem_append.mp hz with hz | hz
                            · exact gn z hz
                            · obtain ⟨r', hr', hz'⟩ := List.mem_flatMap.mp hz
                              obtain ⟨g', rfl, _, pn'⟩ := group_nats.mp (Bool.and_eq_true_iff.mp (hd r' hr')).1
                              rw [natsOf_natsD] at hz'
                              exact pn' z hz'
                          · exact pn z hz))
                        rwa [List.length_range] at h3
                      simp! only [List.map_nil, List.isEmpty_nil, ↓run_extT c1]
                      refine ⟨szl (by rw [List.length_append] at hlen; simp only [List.length_map]; omega), ?_, ⟨_, rfl⟩, ?_, ?_⟩
                      · rw [app_set, List.flatMap_append, List.flatMap_singleton]
                        have : natsOf (.tuple (g.map nD)) = g := natsOf_natsD g
                        rw [this, ← List.append_assoc]
                        simp only [List.map_append]
                      · intro r' hr'
                        rcases List.mem_append.mp hr' with hr' | hr'
                        · exact hd r' hr'
                        · rw [List.mem_singleton] at hr'
                          subst hr'
                          have : natsOf (.tuple (g.map nD)) = g := natsOf_natsD g
                          rw [this, ← hzz]
                          rw [← hzz] at hgr
                          show (groupB ps.length (natsD (z :: zs)) && true) = true
                          rw [hgr]
                          rfl
                      · rw [List.flatMap_append, List.flatMap_singleton]
                        have : natsOf (.tuple (g.map nD)) = g := natsOf_natsD g
                        rw [this, ← List.append_assoc]
                        exact hnew
            · rintro ρ s ⟨rfl, ⟨a6, rfl⟩, hd, hnd⟩
              simp! only [good hd hnd, List.take_left']
        | _ => simp! only [F_is_result, show (((2 : Nat) : Int) == 2) = true from rfl, resB, List.take_length]
    · have l2 : (((xs.length : Nat) : Int) == 2) = false := by rw [beq_eq_false_iff_ne]; omega
      simp! only [F_is_result, l2, res_noPair hl, List.take_length]
  | _ => simp! only [F_is_result, resB, List.take_length]
end Ev

namespace Ev
open PySem
local macro_rules | `(tactic| simp! only [$xs,*]) => `(tactic| simp only [↓run_seq, ↓run_asg, ↓run_next, ↓run_expr, ↓run_retS, ↓run_ifS, ↓run_cell, ↓run_toNew, ↓run_toD, ↓run_toRef, ↓run_par, ↓run_store0, ↓run_storeF, ↓run_storeT, ↓run_setIx, ↓run_ok, ↓run_ret, ↓run_fail, ↓run_none, ↓run_bind, ↓run_var0, ↓run_varS, ↓run_con, ↓run_bin, ↓run_un, ↓run_args0, ↓run_argsS, ↓run_callB, ↓run_meth, ↓run_callF, ↓run_test, ↓run_testB, ↓run_not, ↓run_and, ↓run_or, ↓run_if, ↓run_truthB, ↓run_andV, ↓run_orV, ↓run_notV, ↓run_chain, ↓run_chain3, ↓run_part0, ↓run_part1, ↓run_slice, ↓run_iter, ↓run_iterC, ↓run_add, ↓run_addT, ↓run_addS, ↓run_addLL, ↓run_addNN, ↓run_addLN, ↓run_addNL, ↓run_sub, ↓run_neg, ↓run_mul, ↓run_div, ↓run_mod, ↓run_mulNI, ↓run_mulLI, ↓run_eqI, ↓run_neI, ↓run_eqS, ↓run_lt, ↓run_le, ↓run_gt, ↓run_ge, ↓run_isN, ↓run_notN, ↓run_isi, ↓run_isB, ↓run_notB, ↓run_ltS, ↓run_leS, ↓run_mulTI, ↓run_ix0, ↓run_ix1, ↓run_ix2, ↓run_ix3, ↓run_ix0L, ↓run_ix1L, ↓run_ix0N, ↓run_lenT, ↓run_lenL, ↓run_lenN, ↓run_tupleN, ↓run_tupleL, ↓run_tupleT, ↓run_listT, ↓run_listN, ↓run_listL, ↓run_slT, ↓run_slL, ↓run_slN, ↓run_revT, ↓run_revN, ↓run_revL, ↓run_max2, ↓run_min2, ↓run_rg1, ↓run_rg2, ↓run_trB, ↓run_trI, ↓run_trT, ↓run_trL, ↓run_trN, ↓run_trNone, ↓run_itT, ↓run_itL, ↓run_itN, ↓run_range1, ↓run_range2, ↓run_zipTT, ↓run_enumT, ↓run_enumL, ↓run_enumN, ↓two_t, ↓two_f, ↓outN_nx, ↓outN_ret, ↓outQ_nx, ↓outQ_d, ↓outQ_new, ↓setG_some, ↓asD_d, run_ite, run_ite', gVar, gTuple, gAll, frz_new, frz_d, frz_ref, frz_scr, isLst, isStr, opTup, opLst, allD, isTy, isN_none, isN_int, isN_bool, isN_str, isN_tup, isN_lst, isN_ref, isN_new, wipeG, List.map_cons, List.map_nil, List.set_cons_zero, List.set_cons_succ, List.length_cons, List.length_nil, List.cons_append, List.nil_append, List.replicate, Nat.reduceAdd, Nat.reduceSub, Nat.reduceLeDiff, Nat.reduceEqDiff, Int.reduceEq, reduceCtorEq, Bool.false_eq_true, Bool.not_true, Bool.not_false, ne_eq, not_false_eq_true, not_true_eq_false, true_and, and_true, and_self, sz0, sz1, sz2, sz3, sz4, sz5, sz6, sz7, sz8, sz10, $xs,*])
def F_law_is_result_b1 (C : Str → List Ev.W → Ev.M Ev.W) : Ev.Env → Ev.M Out := (sSeq (sIfS (sNot (sTest (sCallF 2 (C (Str.ofString "_law_is_group")) (sArgs [(sVar 4), (sVar 2)])))) (sSeq (sRet (sCon (.bool false))) sNext) sNext) (sSeq (sExpr (sMeth isLst opExtend (sVar 3) (sArgs [(sVar 4)]))) sNext))
def F_law_is_result_l1 (C : Str → List Ev.W → Ev.M Ev.W) : Ev.Env → Ev.M Out := (sFor (sIter (sBin opAdd (sCallB opTup (sArgs [(sBin opIx (sVar 1) (sCon (.int 0)))])) (sBin opIx (sVar 1) (sCon (.int 1))))) (gVar 4) (F_law_is_result_b1 C))
def F_law_is_result (C : Str → List Ev.W → Ev.M Ev.W) : Ev.Env → Ev.M Out := (sSeq (sIfS (sOr (sNot (sTest (sUn (opIsi .tuple) (sVar 1)))) (sOr (sTestB (sBin opNe (sCallB opLen (sArgs [(sVar 1)])) (sCon (.int 2)))) (sNot (sTest (sUn (opIsi .tuple) (sBin opIx (sVar 1) (sCon (.int 1)))))))) (sSeq (sRet (sCon (.bool false))) sNext) sNext) (sSeq (sPar [(false, 2), (true, 3)] (sArgs [(sCallB opLen (sArgs [(sBin opIx (sVar 0) (sCon (.int 0)))])), (sCallB opLst (sArgs []))])) (sSeq (F_law_is_result_l1 C) (sSeq (sRet (sAndV (sBin opNotIn (sCallB opTup (sArgs [])) (sCallB opList (sArgs [(sBin opIx (sVar 1) (sCon (.int 1)))]))) (sBin opEq (sUn opLenSet (sVar 3)) (sCallB opLen (sArgs [(sVar 3)]))))) sNext))))
theorem insU_len {k : Int} : ∀ {l : List Int}, l.Pairwise (· < ·) → (insU k l).length = if k ∈ l then l.length else l.length + 1
  | [], _ => by simp [insU]
  | x :: xs, h => by
    have h' := List.pairwise_cons.mp h
    unfold insU
    split
    · next hk =>
      have : k ∉ x :: xs := fun hm => by
        rcases List.mem_cons.mp hm with rfl | hm
        · omega
        · have := h'.1 k hm
          omega
      rw [if_neg this]
      rfl
    · split
      · next e => subst e; simp
      · next h1 h2 =>
        rw [List.length_cons, insU_len h'.2, List.length_cons]
        simp only [List.mem_cons, h2, false_or]
        split <;> rfl
theorem sortU_le : ∀ l : List Int, (sortU l).length ≤ l.length
  | [] => Nat.le_refl _
  | k :: ks => by
    have := sortU_le ks
    rw [sortU, insU_len sortU_pw, List.length_cons]
    split <;> omega
theorem sortU_len : ∀ l : List Int, (sortU l).length = l.length ↔ l.Nodup
  | [] => by simp [sortU]
  | k :: ks => by
    have h1 := sortU_le ks
    have h2 := sortU_len ks
    rw [sortU, insU_len sortU_pw, List.length_cons, List.nodup_cons, ← h2]
    constructor
    · intro h
      split at h
      · omega
      · next hm => exact ⟨fun q => hm (sortU_mem.mpr q), by omega⟩
    · rintro ⟨h3, h4⟩
      rw [if_neg (fun q => h3 (sortU_mem.mp q)), h4]
theorem nodup_ints (l : List Nat) : (l.map Int.ofNat).Nodup ↔ l.Nodup := by
  rw [List.nodup_iff_pairwise_ne, List.nodup_iff_pairwise_ne, List.pairwise_map]
  constructor
  · exact fun h => h.imp fun h e => h (congrArg _ e)
  · exact fun h => h.imp fun h e => h (Int.ofNat.inj e)
section
variable {st : Store} {E : EQ} {Q : W → Store → Prop}
theorem run_lenSet {k : Nat} {l : List Nat} (h : st[k]? = some (.lst (l.map nD))) (hl : l.length ≤ 4000) : Run (opLenSet (.ref k) st) Q E = Q (.d (.int ((sortU (l.map Int.ofNat)).length : Nat))) st := by
  have e : opLenSet (.ref k) st = some (.ok (.d (.int ((sortU (l.map Int.ofNat)).length : Nat))), st) := by
    unfold opLenSet
    simp only [asList, h, asInts_nats, List.length_map]
    rw [if_pos hl]
  rw [Run_congr e, run_ok]
theorem run_lenC {k : Nat} {l : List PyData} (h : st[k]? = some (.lst l)) : Run (opLen [.ref k] st) Q E = Q (.d (.int (l.length : Nat))) st := by
  have e : opLen [.ref k] st = some (.ok (.d (.int (l.length : Nat))), st) := by
    simp only [opLen, asSeq, h]
  rw [Run_congr e, run_ok]
theorem run_notNil {rs : List PyData} (h : ∀ r ∈ rs, ∃ g : List Nat, r = natsD g) : Run (opNotIn (.d (.tuple [])) (.new rs) st) Q E = Q (.d (.bool (rs.all fun r => !(natsOf r).isEmpty))) st := by
  have hs : (SeqAt.shaped (.tuple []) && SeqAt.shaped (.list rs)) = true := by
    have : SeqAt.shaped (.list rs) = true := (Shp.list (k := 1) fun r hr => by obtain ⟨g, rfl⟩ := h r hr; exact Shp.nats).shaped
    rw [this]
    decide
  have hq : (!inD (.tuple []) rs) = rs.all fun r => !(natsOf r).isEmpty := by
    unfold inD
    rw [← List.not_any_eq_all_not]
    congr 1
    rw [Bool.eq_iff_iff, List.any_eq_true, List.any_eq_true]
    constructor
    · rintro ⟨r, hr, q⟩
      obtain ⟨g, rfl⟩ := h r hr
      refine ⟨_, hr, ?_⟩
      rw [natsOf_natsD]
      cases g with
      | nil => rfl
      | cons a l => exact nomatch q
    · rintro ⟨r, hr, q⟩
      obtain ⟨g, rfl⟩ := h r hr
      refine ⟨_, hr, ?_⟩
      rw [natsOf_natsD] at q
      cases g with
      | nil => decide
      | cons a l => exact nomatch q
  have e : opNotIn (.d (.tuple [])) (.new rs) st = some (.ok (.d (.bool (rs.all fun r => !(natsOf r).isEmpty))), st) := by
    have hf : ¬ ((flatD (.tuple []) && rs.all flatD) = true) := by simp [flatD]
    unfold opNotIn opInB
    simp only [asData, asSeq, asList]
    rw [if_neg hf, if_pos hs]
    simp only [if_true, hq]
  rw [Run_congr e, run_ok]
end
theorem tame_one {m k : Nat} {x : PyData} (h : tame m (k + 1) x = true) : tame m 1 x = true := by
  cases x with
  | tuple xs => exact tame_tuple.mpr ⟨(tame_tuple.mp h).1, fun _ _ => tame_zero⟩
  | _ => rfl
theorem natsOf_len {x : PyData} (h : tame 40 1 x = true) : (natsOf x).length ≤ 40 := by
  cases x with
  | tuple xs =>
    have := (tame_tuple.mp h).1
    show (xs.map _).length ≤ 40
    rw [List.length_map]
    exact this
  | _ => exact Nat.zero_le _
theorem flat_len : ∀ {l : List PyData}, (∀ r ∈ l, tame 40 1 r = true) → (l.flatMap natsOf).length ≤ 40 * l.length
  | [], _ => Nat.le_refl _
  | x :: xs, h => by
    have h1 := natsOf_len (h x List.mem_cons_self)
    have h2 := flat_len (l := xs) fun r hr => h r (List.mem_cons_of_mem _ hr)
    rw [List.flatMap_cons, List.length_append, List.length_cons]
    omega
theorem res_bad {n : Nat} {g r : PyData} {rs : List PyData} (hr : r ∈ g :: rs) (hb : groupB n r = false) : resB n (.tuple [g, .tuple rs]) = false := by
  show (groupB n g && rs.all (fun r => groupB n r && !(natsOf r).isEmpty) && decide ((natsOf g ++ rs.flatMap natsOf).Nodup)) = false
  rcases List.mem_cons.mp hr with rfl | hr
  · rw [hb]
    rfl
  · have : rs.all (fun r => groupB n r && !(natsOf r).isEmpty) = false := by
      cases h : rs.all (fun r => groupB n r && !(natsOf r).isEmpty) with
      | false => rfl
      | true =>
        have := List.all_eq_true.mp h r hr
        rw [hb] at this
        cases this
    rw [this]
    simp
theorem res_all {n : Nat} {g : PyData} {rs : List PyData} (h : ∀ r ∈ g :: rs, groupB n r = true) : resB n (.tuple [g, .tuple rs]) = (rs.all (fun r => !(natsOf r).isEmpty) && decide ((natsOf g ++ rs.flatMap natsOf).Nodup)) := by
  show (groupB n g && rs.all (fun r => groupB n r && !(natsOf r).isEmpty) && decide ((natsOf g ++ rs.flatMap natsOf).Nodup)) = _
  rw [h g List.mem_cons_self, Bool.true_and]
  congr 1
  rw [Bool.eq_iff_iff, List.all_eq_true, List.all_eq_true]
  constructor
  · intro q r hr
    exact (Bool.and_eq_true_iff.mp (q r hr)).2
  · intro q r hr
    rw [h r (List.mem_cons_of_mem _ hr), q r hr]
    rfl
theorem spec_law_res {C : Call} (hr : SpecGroupG (C (Str.ofString "_law_is_group"))) : SpecResG (fnSem 2 5 (F_law_is_result C)) := by
  intro ps x y thing hps htm
  refine gives_of fun st => run_fn (by rfl) ?_
  cases thing with
  | tuple xs =>
    by_cases hl : xs.length = 2
    · match xs, hl with
      | [g, t], _ =>
        cases t with
        | tuple rs =>
          have ht := (tame_tuple.mp htm).2 (.tuple rs) (by simp)
          have hg := (tame_tuple.mp htm).2 g (by simp)
          have hrs := (tame_tuple.mp ht).1
          have hz : 1 + rs.length ≤ sizeLine := szl (by omega)
          have tm : ∀ r ∈ g :: rs, tame 40 1 r = true := fun r h => by
            rcases List.mem_cons.mp h with rfl | h
            · exact tame_one hg
            · exact (tame_tuple.mp ht).2 r h
          simp! only [F_law_is_result, show (((2 : Nat) : Int) == 2) = true from rfl, F_law_is_result_l1]
          refine run_for (emb := fun r => W.d r) (L := []) (g :: rs) (fun done ρ s => s = st ++ [.lst ((done.flatMap natsOf).map nD)] ∧ (∃ a4 : Option W, ρ = [some (.d (.tuple [.tuple ps, x, y])), some (.d (.tuple [g, .tuple rs])), some (.d (nD ps.length)), some (.ref st.length), a4]) ∧ ∀ r ∈ done, groupB ps.length r = true) ?_ (fun _ _ _ _ => rfl) ⟨by simp, ⟨_, rfl⟩, by simp⟩ ?_ ?_
          · simp! only [hz]
          · rintro done r rest ρ s e ⟨rfl, ⟨a4, rfl⟩, hd⟩
            have hrm : r ∈ g :: rs := by rw [e]; simp
            have e2 := hr r ps.length (tm r hrm)
            cases hgr : groupB ps.length r with
            | false =>
              rw [hgr] at e2
              simp! only [F_law_is_result_b1, e2.run, res_bad hrm hgr, List.take_left']
            | true =>
              rw [hgr] at e2
              obtain ⟨gr, rfl, _, _⟩ := group_nats.mp hgr
              have c1 : (st ++ [Cell.lst ((done.flatMap natsOf).map nD)])[st.length]? = some (.lst ((done.flatMap natsOf).map nD)) := app_get
              have hn : natsOf (.tuple (gr.map nD)) = gr := natsOf_natsD gr
              have l1 := flat_len (l := done) fun r hr => tm r (by rw [e]; exact List.mem_append_left _ hr)
              have l2 := natsOf_len (tm _ hrm)
              rw [natsOf_natsD] at l2
              have l3 := congrArg List.length e
              rw [List.length_append, List.length_cons, List.length_cons] at l3
              have hgr' : groupB ps.length (.tuple (gr.map nD)) = true := hgr
              simp only [natsD] at e2 ⊢
              simp! only [F_law_is_result_b1, e2.run, ↓run_extT c1]
              refine ⟨szl (by simp only [List.length_map]; omega), ?_, ⟨_, rfl⟩, ?_⟩
              · rw [app_set, List.flatMap_append, List.flatMap_singleton, hn]
                simp only [List.map_append]
              · intro r' hr'
                rcases List.mem_append.mp hr' with hr' | hr'
                · exact hd r' hr'
                · rw [List.mem_singleton] at hr'
                  subst hr'
                  exact hgr'
          · rintro ρ s ⟨rfl, ⟨a4, rfl⟩, hd⟩
            have c1 : (st ++ [Cell.lst (((g :: rs).flatMap natsOf).map nD)])[st.length]? = some (.lst (((g :: rs).flatMap natsOf).map nD)) := app_get
            have l1 := flat_len (l := g :: rs) tm
            rw [List.length_cons] at l1
            have hnats : ∀ r ∈ rs, ∃ g : List Nat, r = natsD g := fun r hr => by
              obtain ⟨g', e, _⟩ := group_nats.mp (hd r (List.mem_cons_of_mem _ hr))
              exact ⟨g', e⟩
            have hres := res_all hd
            cases hN : rs.all (fun r => !(natsOf r).isEmpty) with
            | false =>
              rw [hN] at hres
              simp! only [↓run_notNil hnats, hN, hres, Bool.false_and, List.take_left']
            | true =>
              rw [hN] at hres
              have hnd : ((((sortU (((g :: rs).flatMap natsOf).map Int.ofNat)).length : Nat) : Int) == (((((g :: rs).flatMap natsOf).map nD).length : Nat) : Int)) = decide ((natsOf g ++ rs.flatMap natsOf).Nodup) := by
                rw [Bool.eq_iff_iff, beq_iff_eq, decide_eq_true_eq, List.length_map]
                have h1 := sortU_len (((g :: rs).flatMap natsOf).map Int.ofNat)
                rw [nodup_ints, List.length_map] at h1
                rw [Int.natCast_inj]
                exact h1
              simp! only [↓run_notNil hnats, hN, ↓run_lenSet c1 (by omega), ↓run_lenC c1, hnd, hres, Bool.true_and, List.take_left']
        | _ => simp! only [F_law_is_result, show (((2 : Nat) : Int) == 2) = true from rfl, resB, List.take_length]
    · have l2 : (((xs.length : Nat) : Int) == 2) = false := by rw [beq_eq_false_iff_ne]; omega
      simp! only [F_law_is_result, l2, res_noPair hl, List.take_length]
  | _ => simp! only [F_law_is_result, resB, List.take_length]
end Ev

namespace Ev
open PySem
local macro_rules | `(tactic| dsimp! only [$xs,*]) => `(tactic| simp only [fnSem, leave, sSeq, sRet, sExpr, sNext, sIfS, sAsg, sCell, toCell, sPar, storeAll, storeW, sSetIx, opSet, sVar, sCon, sBin, sUn, sArgs, sCallB, sMeth, sCallF, sTest, sTestB, sNot, sAnd, sOr, sIf, sAndV, sOrV, sNotV, sChain, sSlice, sPart, sFor, sLc, sIter, sIterC, sYes, iterOf, gVar, gTuple, gAll, frz_new, frz_d, frz_ref, frz_scr, isLst, isStr, mbind, mret, mfail, truth, truthB, asSeq, asList, asData, opIsi, isTy, opIsN, opNotN, isNone, allD, opTup, opLst, opLen, List.map_cons, List.map_nil, List.getElem?_cons_zero, List.getElem?_cons_succ, List.set_cons_zero, List.set_cons_succ, List.length_cons, List.length_nil, List.cons_append, List.nil_append, List.replicate, List.take_succ_cons, List.take_zero, List.take_length, Nat.reduceAdd, Nat.reduceSub, Nat.reduceLeDiff, if_true, if_false, ite_true, ite_false, reduceIte, reduceCtorEq, wipeG, Bool.false_eq_true, Bool.not_true, Bool.not_false, sz0, sz1, sz2, sz3, sz4, sz5, sz6, sz7, sz8, $xs,*])
/-! ### things bent, with truths in them; short tuples, shaped -/
def bendB : Nat → PyData → Bool
  | _, .none => true
  | _, .bool _ => true
  | _, .str _ => true
  | _, .int i => decide (-1000000 ≤ i) && decide (i ≤ 1000000)
  | n + 1, .tuple xs => decide (xs.length ≤ 1000) && xs.all (bendB n)
  | _, _ => false
theorem Shp.inAll {k : Nat} : ∀ {xs : List PyData}, PyData.canLayAll0 xs = true → PyData.depthAll xs ≤ k → ∀ x ∈ xs, Shp k x
  | [], _, _ => by simp
  | x :: xs, h1, h2 => by
    simp only [PyData.canLayAll0, PyData.depthAll, Bool.and_eq_true] at h1 h2
    have h3 := Nat.max_le.mp h2
    intro y hy
    rcases List.mem_cons.mp hy with rfl | hy
    · exact ⟨h1.1, h3.1⟩
    · exact Shp.inAll h1.2 h3.2 y hy
theorem Shp.inTup {k : Nat} {xs : List PyData} (h : Shp (k + 1) (.tuple xs)) : ∀ x ∈ xs, Shp k x := by
  obtain ⟨h1, h2⟩ := h
  simp only [PyData.canLay0, PyData.depth] at h1 h2
  exact Shp.inAll h1 (by omega)
theorem strOk_of (s : String) : PyData.strOk (Str.ofString s) = true := by
  rw [Str.ofString_eq_toList]
  unfold PyData.strOk
  simp only [List.all_toArray, List.all_eq_true]
  intro x hx
  obtain ⟨c, _, rfl⟩ := List.mem_map.mp hx
  have h : c.val.toNat.isValidChar := c.valid
  have e : c.toNat = c.val.toNat := rfl
  simp only [Nat.isValidChar] at h
  rw [decide_eq_true_eq, e]
  omega
theorem shp_bend0 : ∀ y ∈ bend0, Shp 2 y := by
  have ti : ∀ is : List Int, Shp 2 (.tuple (is.map PyData.int)) := fun is => (Shp.tuple (Shp.map fun _ _ => Shp.int)).mono (by decide)
  intro y hy
  simp only [bend0, List.mem_cons, List.not_mem_nil, or_false] at hy
  rcases hy with rfl | rfl | rfl | rfl | rfl | rfl | rfl | rfl | rfl | rfl | rfl | rfl | rfl | rfl | rfl | rfl | rfl | rfl
  all_goals first
    | exact Shp.none.mono (by decide)
    | exact Shp.bool.mono (by decide)
    | exact Shp.int.mono (by decide)
    | exact (Shp.str (strOk_of _)).mono (by decide)
    | exact ti []
    | exact ti [1]
    | exact ti [0]
    | exact ti [1, 2]
    | exact ti [2, 4]
    | exact (Shp.list (k := 0) (xs := []) (fun _ h => nomatch h)).mono (by decide)
    | exact Shp.tuple (k := 1) (fun x hx => by rw [List.mem_singleton] at hx; subst hx; exact Shp.tuple (k := 0) (by simp [Shp.int]))
structure Bt (m k : Nat) (y : PyData) : Prop where
  t : tame m (k + 1) y = true
  s : Shp (k + 4) y
theorem btT {m k : Nat} {xs : List PyData} (h1 : xs.length ≤ m) (h2 : ∀ z ∈ xs, tame m k z = true ∧ Shp (k + 3) z) : Bt m k (.tuple xs) := ⟨tame_tuple.mpr ⟨h1, fun z hz => (h2 z hz).1⟩, Shp.tuple fun z hz => (h2 z hz).2⟩
theorem bt_bend0 {m k : Nat} (hm : 2 ≤ m) : ∀ y ∈ bend0, Bt m k y := fun y hy => ⟨tame_bend0 hm y hy, (shp_bend0 y hy).mono (by omega)⟩
def SpecBentN (ns : List Int) (k : Nat) (F : List W → M W) : Prop := ∀ (x : PyData) (rest : Store) (n : Nat) (st : Store), bendB k x = true → Bt 30 k x → Town rest n st → n + 4 * (k + 1) ≤ lim → ∃ y st', F [.scr ns, .ref 0, .d x] st = some (.ok (.d y), st') ∧ Bt 31 k y ∧ Town rest (n + 4 * (k + 1)) st'
theorem spec_bentN {C : Call} {ns : List Int} {k : Nat} (hd : SpecDraw ns (C (Str.ofString "_law_draw"))) (hp : SpecPick ns (C (Str.ofString "_law_pick"))) (hb : ∀ j, k = j + 1 → SpecBentN ns j (C (Str.ofString "_law_bent"))) : SpecBentN ns k (fnSem 3 5 (F_law_bent C)) := by
  intro x rest n st hx htm ht hn
  have hz : (100000 : Nat) ≤ sizeLine := by decide
  have plain : ∀ (x : PyData), isTy .tuple x = false → isTy .int x = false → ∃ y st', fnSem 3 5 (F_law_bent C) [.scr ns, .ref 0, .d x] st = some (.ok (.d y), st') ∧ Bt 31 k y ∧ Town rest (n + 4 * (k + 1)) st' := by
    intro x h1 h2
    obtain ⟨y, st', e, hy, h3⟩ := hp (.d (.list bend0)) bend0 rest n st (.inl rfl) (by simp [bend0]) ht (by omega)
    refine ⟨y, st', ?_, bt_bend0 (by decide) y hy, h3.mono (by omega)⟩
    simp only [bend0] at e
    simp only [F_law_bent, fnSem, leave, sSeq, sRet, sNext, sIfS, sAsg, sVar, sCon, sBin, sUn, sArgs, sCallB, sCallF, sTest, sNot, sOr, gVar, frz, mbind, mret, truth, opIsi, h1, h2, allD, opTup, opLst, opNeg, List.map_cons, List.map_nil, List.getElem?_cons_zero, List.getElem?_cons_succ, List.set_cons_zero, List.set_cons_succ, List.length_cons, List.length_nil, List.cons_append, List.nil_append, List.replicate, Nat.reduceAdd, Nat.reduceSub, if_true, reduceIte, Bool.not_false, sz0, sz1, sz2, sz18, e, ht.len, h3.take, Int.reduceNeg]
  have tup : ∀ (xs : List PyData) (st1 : Store) (m : Nat), xs.length ≤ 1000 → Bt 30 k (.tuple xs) → Town rest m st1 → m + 2 ≤ n + 4 * (k + 1) → ∃ y st', C (Str.ofString "_law_pick") [.scr ns, .ref 0, .d (.list (bend0 ++ [.list xs, .tuple (cutG xs none (some (-1))), .tuple (xs ++ cutG xs (some (-1)) none), .tuple (cutG xs (some 1) none), .tuple xs.reverse, .tuple (xs ++ [.none])]))] st1 = some (.ok (.d y), st') ∧ Bt 31 k y ∧ Town rest (n + 4 * (k + 1)) st' := by
    intro xs st1 m hl htx h1 hm
    obtain ⟨y, st', e, hy, h3⟩ := hp (.d (.list (bend0 ++ [.list xs, .tuple (cutG xs none (some (-1))), .tuple (xs ++ cutG xs (some (-1)) none), .tuple (cutG xs (some 1) none), .tuple xs.reverse, .tuple (xs ++ [.none])]))) _ rest m st1 (.inl rfl) (by simp [bend0]) h1 (by omega)
    refine ⟨y, st', e, ?_, h3.mono (by omega)⟩
    have hts := htx.s.inTup
    have htx := tame_tuple.mp htx.t
    have tx : ∀ z ∈ xs, tame 31 k z = true ∧ Shp (k + 3) z := fun z hz => ⟨tame_up (by decide) (htx.2 z hz), hts z hz⟩
    rcases List.mem_append.mp hy with hy | hy
    · exact bt_bend0 (by decide) y hy
    · simp only [List.mem_cons, List.not_mem_nil, or_false] at hy
      rcases hy with rfl | rfl | rfl | rfl | rfl | rfl
      · exact ⟨rfl, Shp.list hts⟩
      · exact btT (by have := cutG_len xs none (some (-1)); omega) (fun z hz => tx z (cutG_sub z hz))
      · refine btT ?_ (fun z hz => tx z ((List.mem_append.mp hz).elim id (cutG_sub z)))
        have h2 : (cutG xs (some (-1)) none).length ≤ 1 := by
          have e : HT.sIx xs.length 0 (some (-1)) = xs.length - 1 := by
            simp only [HT.sIx]
            split <;> omega
          unfold cutG
          rw [e, List.length_take, List.length_drop]
          omega
        rw [List.length_append]
        omega
      · exact btT (by have := cutG_len xs (some 1) none; omega) (fun z hz => tx z (cutG_sub z hz))
      · exact btT (by rw [List.length_reverse]; omega) (fun z hz => tx z (List.mem_reverse.mp hz))
      · refine btT (by rw [List.length_append, List.length_singleton]; omega) (fun z hz => ?_)
        rcases List.mem_append.mp hz with hz | hz
        · exact tx z hz
        · rw [List.mem_singleton] at hz
          subst hz
          exact ⟨tame_flat rfl, Shp.none.mono (by omega)⟩
  cases x with
  | none => exact plain _ rfl rfl
  | str s => exact plain _ rfl rfl
  | list b => cases k <;> simp [bendB] at hx
  | dict b => cases k <;> simp [bendB] at hx
  | bool i =>
    obtain ⟨y, st', e, hy, h3⟩ := hp (.d (.list (bend0 ++ ([.int (PyProof.Rows.b2i i + 1), .int (PyProof.Rows.b2i i - 1), .bool (!i), .tuple [.bool i], .str (if i = true then Str.ofString "True" else Str.ofString "False")] ++ [.int (PyProof.Rows.b2i i + 1), .int (PyProof.Rows.b2i i - 1), .bool (!i), .tuple [.bool i], .str (if i = true then Str.ofString "True" else Str.ofString "False")])))) _ rest n st (.inl rfl) (by simp [bend0]) ht (by omega)
    refine ⟨y, st', ?_, ?_, h3.mono (by omega)⟩
    · simp only [bend0, List.cons_append, List.nil_append] at e
      have hm : (-(2 ^ 63) ≤ (2 : Int) ∧ (2 : Int) < 2 ^ 63 ∧ 5 * 2 ≤ sizeLine) = True := by decide
      have h2 : (2 : Int).toNat = 2 := rfl
      dsimp! only [F_law_bent, opNeg, Int.reduceNeg, opAdd, opSub, opStr, opMul, hm, h2, List.flatten_cons, List.flatten_nil, List.append_nil, sz18, sz28, e, ht.len, h3.take]
    · have one : Bt 31 k (.tuple [.bool i]) := btT (by simp) fun z hz => by rw [List.mem_singleton] at hz; subst hz; exact ⟨tame_flat rfl, Shp.bool.mono (by omega)⟩
      have sb : Shp 0 (.str (if i = true then Str.ofString "True" else Str.ofString "False")) := by split <;> exact Shp.str (strOk_of _)
      rcases List.mem_append.mp hy with hy | hy
      · exact bt_bend0 (by decide) y hy
      · simp only [List.mem_append, List.mem_cons, List.not_mem_nil, or_false] at hy
        rcases hy with (rfl | rfl | rfl | rfl | rfl) | (rfl | rfl | rfl | rfl | rfl)
        all_goals first | exact ⟨rfl, Shp.int.mono (by omega)⟩ | exact ⟨rfl, Shp.bool.mono (by omega)⟩ | exact ⟨rfl, sb.mono (by omega)⟩ | exact one
  | int i =>
    have hi : -1000000 ≤ i ∧ i ≤ 1000000 := by cases k <;> simpa [bendB] using hx
    have hlog : i.natAbs.log2 < 1920 := Nat.lt_of_lt_of_le (log2_lt (n := 20) (by omega) (by decide)) (by decide)
    obtain ⟨y, st', e, hy, h3⟩ := hp (.d (.list (bend0 ++ ([.int (i + 1), .int (i - 1), .bool (!(i != 0)), .tuple [.int i], .str (toString i)] ++ [.int (i + 1), .int (i - 1), .bool (!(i != 0)), .tuple [.int i], .str (toString i)])))) _ rest n st (.inl rfl) (by simp [bend0]) ht (by omega)
    refine ⟨y, st', ?_, ?_, h3.mono (by omega)⟩
    · simp only [bend0, List.cons_append, List.nil_append] at e
      have hm : (-(2 ^ 63) ≤ (2 : Int) ∧ (2 : Int) < 2 ^ 63 ∧ 5 * 2 ≤ sizeLine) = True := by decide
      have h2 : (2 : Int).toNat = 2 := rfl
      dsimp! only [F_law_bent, opNeg, Int.reduceNeg, opAdd, opSub, opStr, opMul, hlog, hm, h2, List.flatten_cons, List.flatten_nil, List.append_nil, sz18, sz28, e, ht.len, h3.take]
    · have one : Bt 31 k (.tuple [.int i]) := btT (by simp) fun z hz => by rw [List.mem_singleton] at hz; subst hz; exact ⟨tame_flat rfl, Shp.int.mono (by omega)⟩
      rcases List.mem_append.mp hy with hy | hy
      · exact bt_bend0 (by decide) y hy
      · simp only [List.mem_append, List.mem_cons, List.not_mem_nil, or_false] at hy
        rcases hy with (rfl | rfl | rfl | rfl | rfl) | (rfl | rfl | rfl | rfl | rfl)
        all_goals first | exact ⟨rfl, Shp.int.mono (by omega)⟩ | exact ⟨rfl, Shp.bool.mono (by omega)⟩ | exact ⟨rfl, (Shp.str (strOk_of _)).mono (by omega)⟩ | exact one
  | tuple xs =>
    cases k with
    | zero => simp [bendB] at hx
    | succ k =>
      simp only [bendB, Bool.and_eq_true, decide_eq_true_eq, List.all_eq_true] at hx
      cases xs with
      | nil =>
        obtain ⟨y, st', e, hty, h3⟩ := tup [] st n (by simp) htm ht (by omega)
        refine ⟨y, st', ?_, hty, h3⟩
        have hc1 : (cutG ([] : List PyData) (some (-1)) none).length ≤ sizeLine := by have := cutG_len ([] : List PyData) (some (-1)) none; simp only [List.length_nil] at this; omega
        simp only [bend0, List.cons_append, List.nil_append] at e
        dsimp! only [F_law_bent, List.isEmpty_nil, opNeg, Int.reduceNeg, opAdd, opList, opSl, opRev, hc1, sz18, sz24, Nat.zero_add, e, ht.len, h3.take]
      | cons a as =>
        obtain ⟨v, st1, e1, v1, v2, h1⟩ := hd 4 rest n st (by decide) ht (by omega)
        by_cases hv : v = 0
        · subst hv
          obtain ⟨y, st', e, hty, h3⟩ := tup (a :: as) st1 (n + 2) hx.1 htm h1 (by omega)
          refine ⟨y, st', ?_, hty, h3⟩
          have hc1 : as.length + 1 + (cutG (a :: as) (some (-1)) none).length ≤ sizeLine := by have := cutG_len (a :: as) (some (-1)) none; rw [List.length_cons] at this hx; omega
          have hc2 : as.length + 1 + 1 ≤ sizeLine := by rw [List.length_cons] at hx; omega
          simp only [bend0, List.cons_append, List.nil_append] at e
          dsimp! only [F_law_bent, List.isEmpty_cons, e1, opEq, shaped_int, PyData.eqv, beq_self_eq_true, Bool.and_true, opNeg, Int.reduceNeg, opAdd, opList, opSl, opRev, hc1, hc2, sz18, sz24, e, ht.len, h3.take]
        · have hv' : (v == 0) = false := by simpa using hv
          obtain ⟨w, st2, e2, w1, w2, h2⟩ := hd ((a :: as).length : Nat) rest (n + 2) st1 (by rw [List.length_cons]; omega) h1 (by omega)
          obtain ⟨z, ez, hm⟩ := atI_mem w1 w2
          have htt := tame_tuple.mp htm.t
          have hts := htm.s.inTup
          obtain ⟨y, st3, e3, hty, h3⟩ := hb k rfl z rest (n + 2 + 2) st2 (hx.2 z hm) ⟨htt.2 z hm, (hts z hm).mono (by omega)⟩ h2 (by omega)
          have c1 : (cutG (a :: as) none (some w)).length + 1 ≤ sizeLine := by have := cutG_len (a :: as) none (some w); omega
          have c2 : (cutG (a :: as) none (some w) ++ [y]).length + (cutG (a :: as) (some (w + 1)) none).length ≤ sizeLine := by
            have := cutG_len (a :: as) none (some w)
            have := cutG_len (a :: as) (some (w + 1)) none
            rw [List.length_append, List.length_singleton]
            omega
          refine ⟨.tuple (cutG (a :: as) none (some w) ++ [y] ++ cutG (a :: as) (some (w + 1)) none), st3, ?_, ?_, h3.mono (by omega)⟩
          · simp only [List.length_cons] at e2
            dsimp! only [F_law_bent, List.isEmpty_cons, e1, opEq, shaped_int, PyData.eqv, hv', Bool.and_true, e2, opSl, opIx, ez, e3, opAdd, c1, c2, ht.len, h3.take]
          · obtain ⟨j, rfl⟩ : ∃ j : Nat, w = j := ⟨w.toNat, by omega⟩
            have hj : ((j : Int) + 1) = ((j + 1 : Nat) : Int) := rfl
            rw [hj, cutG_to, cutG_at]
            refine btT ?_ (fun q hq => ?_)
            · rw [List.length_append, List.length_append, List.length_singleton, List.length_take, List.length_drop]
              have := htt.1
              omega
            · rcases List.mem_append.mp hq with hq | hq
              · rcases List.mem_append.mp hq with hq | hq
                · exact ⟨tame_up (by decide) (htt.2 q (List.mem_of_mem_take hq)), hts q (List.mem_of_mem_take hq)⟩
                · rw [List.mem_singleton] at hq
                  subst hq
                  exact ⟨hty.t, hty.s.mono (by omega)⟩
              · exact ⟨tame_up (by decide) (htt.2 q (List.mem_of_mem_drop hq)), hts q (List.mem_of_mem_drop hq)⟩
end Ev

namespace Ev
open PySem
local macro_rules | `(tactic| simp! only [$xs,*]) => `(tactic| simp only [↓run_seq, ↓run_asg, ↓run_next, ↓run_expr, ↓run_retS, ↓run_ifS, ↓run_cell, ↓run_toNew, ↓run_toD, ↓run_toRef, ↓run_par, ↓run_store0, ↓run_storeF, ↓run_storeT, ↓run_setIx, ↓run_ok, ↓run_ret, ↓run_fail, ↓run_none, ↓run_bind, ↓run_var0, ↓run_varS, ↓run_con, ↓run_bin, ↓run_un, ↓run_args0, ↓run_argsS, ↓run_callB, ↓run_meth, ↓run_callF, ↓run_test, ↓run_testB, ↓run_not, ↓run_and, ↓run_or, ↓run_if, ↓run_truthB, ↓run_andV, ↓run_orV, ↓run_notV, ↓run_chain, ↓run_chain3, ↓run_part0, ↓run_part1, ↓run_slice, ↓run_iter, ↓run_iterC, ↓run_add, ↓run_addT, ↓run_addS, ↓run_addLL, ↓run_addNN, ↓run_addLN, ↓run_addNL, ↓run_sub, ↓run_neg, ↓run_mul, ↓run_div, ↓run_mod, ↓run_mulNI, ↓run_mulLI, ↓run_eqI, ↓run_neI, ↓run_eqS, ↓run_lt, ↓run_le, ↓run_gt, ↓run_ge, ↓run_isN, ↓run_notN, ↓run_isi, ↓run_isB, ↓run_notB, ↓run_ltS, ↓run_leS, ↓run_mulTI, ↓run_ix0, ↓run_ix1, ↓run_ix2, ↓run_ix3, ↓run_ix0L, ↓run_ix1L, ↓run_ix0N, ↓run_lenT, ↓run_lenL, ↓run_lenN, ↓run_tupleN, ↓run_tupleL, ↓run_tupleT, ↓run_listT, ↓run_listN, ↓run_listL, ↓run_slT, ↓run_slL, ↓run_slN, ↓run_revT, ↓run_revN, ↓run_revL, ↓run_max2, ↓run_min2, ↓run_rg1, ↓run_rg2, ↓run_trB, ↓run_trI, ↓run_trT, ↓run_trL, ↓run_trN, ↓run_trNone, ↓run_itT, ↓run_itL, ↓run_itN, ↓run_range1, ↓run_range2, ↓run_zipTT, ↓run_enumT, ↓run_enumL, ↓run_enumN, ↓two_t, ↓two_f, ↓outN_nx, ↓outN_ret, ↓outQ_nx, ↓outQ_d, ↓outQ_new, ↓setG_some, ↓asD_d, run_ite, run_ite', gVar, gTuple, gAll, frz_new, frz_d, frz_ref, frz_scr, isLst, isStr, opTup, opLst, allD, isTy, isN_none, isN_int, isN_bool, isN_str, isN_tup, isN_lst, isN_ref, isN_new, wipeG, List.map_cons, List.map_nil, List.set_cons_zero, List.set_cons_succ, List.length_cons, List.length_nil, List.cons_append, List.nil_append, List.replicate, Nat.reduceAdd, Nat.reduceSub, Nat.reduceLeDiff, Nat.reduceEqDiff, Int.reduceEq, reduceCtorEq, Bool.false_eq_true, Bool.not_true, Bool.not_false, ne_eq, not_false_eq_true, not_true_eq_false, true_and, and_true, and_self, sz0, sz1, sz2, sz3, sz4, sz5, sz6, sz7, sz8, sz10, $xs,*])
/-! ### slips of any shape -/
def F_is_leg (C : Str → List Ev.W → Ev.M Ev.W) : Ev.Env → Ev.M Out := (sSeq (sIfS (sOr (sNot (sTest (sUn (opIsi .tuple) (sVar 1)))) (sOr (sTestB (sBin opNe (sCallB opLen (sArgs [(sVar 1)])) (sCon (.int 3)))) (sOr (sNot (sTest (sCallF 1 (C (Str.ofString "is_whole")) (sArgs [(sBin opIx (sVar 1) (sCon (.int 0)))])))) (sNot (sTest (sCallF 1 (C (Str.ofString "is_whole")) (sArgs [(sBin opIx (sVar 1) (sCon (.int 1)))]))))))) (sSeq (sRet (sCon (.bool false))) sNext) sNext) (sSeq (sIfS (sOr (sNot (sTestB (sChain opLe opLt (sCon (.int 0)) (sBin opIx (sVar 1) (sCon (.int 0))) (sCallB opLen (sArgs [(sVar 0)]))))) (sNot (sTestB (sChain opLe opLt (sCon (.int 0)) (sBin opIx (sVar 1) (sCon (.int 1))) (sCallB opLen (sArgs [(sBin opIx (sBin opIx (sVar 0) (sBin opIx (sVar 1) (sCon (.int 0)))) (sCon (.int 0)))])))))) (sSeq (sRet (sCon (.bool false))) sNext) sNext) (sSeq (sRet (sCallF 1 (C (Str.ofString "is_price")) (sArgs [(sBin opIx (sVar 1) (sCon (.int 2)))]))) sNext)))
def F_are_legs_b1 (C : Str → List Ev.W → Ev.M Ev.W) : Ev.Env → Ev.M Ev.W := (sBin opLt (sBin opIx (sBin opIx (sVar 1) (sVar 3)) (sCon (.int 0))) (sBin opIx (sBin opIx (sVar 1) (sBin opAdd (sVar 3) (sCon (.int 1)))) (sCon (.int 0))))
def F_are_legs_l1 (C : Str → List Ev.W → Ev.M Ev.W) : Ev.Env → Ev.M Ev.W := (sLc (sIterC opRange1 (sArgs [(sBin opSub (sCallB opLen (sArgs [(sVar 1)])) (sCon (.int 1)))])) [3] (gVar 3) sYes (F_are_legs_b1 C))
def F_are_legs_b2 (C : Str → List Ev.W → Ev.M Ev.W) : Ev.Env → Ev.M Ev.W := (sCallF 2 (C (Str.ofString "is_leg")) (sArgs [(sVar 0), (sVar 2)]))
def F_are_legs_l2 (C : Str → List Ev.W → Ev.M Ev.W) : Ev.Env → Ev.M Ev.W := (sLc (sIter (sVar 1)) [2] (gVar 2) sYes (F_are_legs_b2 C))
def F_are_legs (C : Str → List Ev.W → Ev.M Ev.W) : Ev.Env → Ev.M Out := (sSeq (sIfS (sOr (sNot (sTest (sUn (opIsi .tuple) (sVar 1)))) (sOr (sTestB (sBin opEq (sVar 1) (sCallB opTup (sArgs [])))) (sNot (sTest (sCallB opAll (sArgs [(F_are_legs_l2 C)])))))) (sSeq (sRet (sCon (.bool false))) sNext) sNext) (sSeq (sRet (sCallB opAll (sArgs [(F_are_legs_l1 C)]))) sNext))
def F_are_sizes_b1 (C : Str → List Ev.W → Ev.M Ev.W) : Ev.Env → Ev.M Out := (sSeq (sIfS (sOr (sNot (sTest (sCallF 1 (C (Str.ofString "is_whole")) (sArgs [(sVar 3)])))) (sNot (sTestB (sChain opLt opLe (sVar 2) (sVar 3) (sVar 1))))) (sSeq (sRet (sCon (.bool false))) sNext) sNext) (sSeq (sAsg (sVar 3) (gVar 2)) sNext))
def F_are_sizes_l1 (C : Str → List Ev.W → Ev.M Ev.W) : Ev.Env → Ev.M Out := (sFor (sIter (sVar 0)) (gVar 3) (F_are_sizes_b1 C))
def F_are_sizes (C : Str → List Ev.W → Ev.M Ev.W) : Ev.Env → Ev.M Out := (sSeq (sIfS (sOr (sNot (sTest (sUn (opIsi .tuple) (sVar 0)))) (sTestB (sBin opEq (sVar 0) (sCallB opTup (sArgs []))))) (sSeq (sRet (sCon (.bool false))) sNext) sNext) (sSeq (sAsg (sCon (.int 0)) (gVar 2)) (sSeq (F_are_sizes_l1 C) (sSeq (sRet (sCon (.bool true))) sNext))))
def F_is_slip (C : Str → List Ev.W → Ev.M Ev.W) : Ev.Env → Ev.M Out := (sSeq (sIfS (sOr (sNot (sTest (sUn (opIsi .tuple) (sVar 1)))) (sTestB (sBin opNe (sCallB opLen (sArgs [(sVar 1)])) (sCon (.int 4))))) (sSeq (sRet (sCon (.bool false))) sNext) sNext) (sSeq (sAsg (sVar 1) (gTuple [(gVar 2), (gVar 3), (gVar 4), (gVar 5)])) (sSeq (sIfS (sOr (sNot (sTest (sCallF 2 (C (Str.ofString "are_legs")) (sArgs [(sVar 0), (sVar 2)])))) (sNot (sTest (sCallF 2 (C (Str.ofString "are_sizes")) (sArgs [(sVar 3), (sCallB opLen (sArgs [(sVar 2)]))]))))) (sSeq (sRet (sCon (.bool false))) sNext) sNext) (sSeq (sRet (sAndV (sCallF 1 (C (Str.ofString "is_whole")) (sArgs [(sVar 4)])) (sAndV (sChain opLe opLe (sCon (.int 1)) (sVar 4) (sCon (.int 1000000))) (sUn (opIsi .bool) (sVar 5))))) sNext))))
def legB (card : List Event) : PyData → Bool
  | .tuple [.int e, .int r, p] => decide (0 ≤ e) && decide (e < (card.length : Int)) && decide (0 ≤ r) && decide (r < ((card[e.toNat]!).ps.length : Int)) && priceB p
  | _ => false
def evOf : PyData → Int
  | .tuple (.int e :: _) => e
  | _ => 0
def legsB (card : List Event) : PyData → Bool
  | .tuple xs => !xs.isEmpty && xs.all (legB card) && decide ((xs.map evOf).Pairwise (· < ·))
  | _ => false
def sizesB (n : Int) : PyData → Bool
  | .tuple xs => !xs.isEmpty && riseB (n + 1) 0 xs
  | _ => false
def lenOf : PyData → Nat
  | .tuple xs => xs.length
  | _ => 0
def slipB (card : List Event) : PyData → Bool
  | .tuple [l, s, k, .bool _] => legsB card l && sizesB (lenOf l) s && numB 1 1000000 k
  | _ => false
theorem legB_ex {card : List Event} {x : PyData} (h : legB card x = true) : ∃ (e r : Nat) (p : PyData), x = .tuple [nD e, nD r, p] ∧ e < card.length ∧ r < (card[e]!).ps.length ∧ priceB p = true := by
  unfold legB at h
  split at h
  · next e r p =>
    simp only [Bool.and_eq_true, decide_eq_true_eq] at h
    obtain ⟨⟨⟨⟨h1, h2⟩, h3⟩, h4⟩, h5⟩ := h
    refine ⟨e.toNat, r.toNat, p, ?_, by omega, by omega, h5⟩
    rw [show nD e.toNat = .int e from congrArg PyData.int (by omega), show nD r.toNat = .int r from congrArg PyData.int (by omega)]
  · cases h
theorem leg_no3 {card : List Event} {xs : List PyData} (h : xs.length ≠ 3) : legB card (.tuple xs) = false := by
  match xs, h with
  | [], _ => rfl
  | [a], _ => cases a <;> rfl
  | [a, b], _ => cases a <;> cases b <;> rfl
  | [a, b, c], h => exact absurd rfl h
  | a :: b :: c :: d :: l, _ => cases a <;> cases b <;> rfl
def SpecLegG (F : List W → M W) : Prop := ∀ (card : List Event) (x : PyData), Shp 8 x → Gives F [.d (cardD card), .d x] (Bo (legB card x))
theorem spec_is_leg {C : Call} (hw : SpecWhole (C (Str.ofString "is_whole"))) (hp : SpecIsPrice (C (Str.ofString "is_price"))) : SpecLegG (fnSem 2 2 (F_is_leg C)) := by
  intro card x _
  refine gives_of fun st => run_fn (by rfl) ?_
  cases x with
  | tuple xs =>
    by_cases h3 : xs.length = 3
    · match xs, h3 with
      | [a, b, p], _ =>
        have e1 := hw a
        have e2 := hw b
        have e3 := hp p
        cases ha : wholeB a with
        | false =>
          have : legB card (.tuple [a, b, p]) = false := by cases a <;> first | rfl | exact nomatch ha
          rw [ha] at e1
          simp! only [F_is_leg, show (((3 : Nat) : Int) == 3) = true from rfl, e1.run, this, List.take_length]
        | true =>
          rw [ha] at e1
          cases hb : wholeB b with
          | false =>
            have : legB card (.tuple [a, b, p]) = false := by cases a <;> first | rfl | (cases b <;> first | rfl | exact nomatch hb)
            rw [hb] at e2
            simp! only [F_is_leg, show (((3 : Nat) : Int) == 3) = true from rfl, e1.run, e2.run, this, List.take_length]
          | true =>
            rw [hb] at e2
            cases a with
            | int e =>
              cases b with
              | int r =>
                by_cases c1 : 0 ≤ e
                · by_cases c2 : e < (card.length : Int)
                  · obtain ⟨k, rfl⟩ : ∃ k : Nat, e = k := ⟨e.toNat, by omega⟩
                    have hk : k < card.length := by omega
                    have hd : decide ((k : Int) < (card.length : Int)) = true := decide_eq_true c2
                    by_cases c3 : 0 ≤ r
                    · by_cases c4 : r < ((card[k]!).ps.length : Int)
                      · have : legB card (.tuple [.int k, .int r, p]) = priceB p := by
                          simp only [legB, decide_eq_true c1, hd, decide_eq_true c3, Int.toNat_natCast, decide_eq_true c4, Bool.true_and]
                        simp! only [F_is_leg, cardD, Event.d, show (((3 : Nat) : Int) == 3) = true from rfl, e1.run, e2.run, e3.run, List.length_map, decide_eq_true c1, hd, ↓run_ixT hk, decide_eq_true c3, decide_eq_true c4, this, List.take_length]
                      · have : legB card (.tuple [.int k, .int r, p]) = false := by
                          simp only [legB, decide_eq_true c1, hd, decide_eq_true c3, Int.toNat_natCast, decide_eq_false c4, Bool.true_and, Bool.false_and]
                        simp! only [F_is_leg, cardD, Event.d, show (((3 : Nat) : Int) == 3) = true from rfl, e1.run, e2.run, e3.run, List.length_map, decide_eq_true c1, hd, ↓run_ixT hk, decide_eq_true c3, decide_eq_false c4, this, List.take_length]
                    · have : legB card (.tuple [.int k, .int r, p]) = false := by
                        simp only [legB, decide_eq_true c1, hd, decide_eq_false c3, Bool.true_and, Bool.false_and]
                      simp! only [F_is_leg, cardD, show (((3 : Nat) : Int) == 3) = true from rfl, e1.run, e2.run, e3.run, List.length_map, decide_eq_true c1, hd, decide_eq_false c3, this, List.take_length]
                  · have : legB card (.tuple [.int e, .int r, p]) = false := by
                      simp only [legB, decide_eq_true c1, decide_eq_false c2, Bool.true_and, Bool.false_and]
                    simp! only [F_is_leg, cardD, show (((3 : Nat) : Int) == 3) = true from rfl, e1.run, e2.run, List.length_map, decide_eq_true c1, decide_eq_false c2, this, List.take_length]
                · have : legB card (.tuple [.int e, .int r, p]) = false := by
                    simp only [legB, decide_eq_false c1, Bool.false_and]
                  simp! only [F_is_leg, cardD, show (((3 : Nat) : Int) == 3) = true from rfl, e1.run, e2.run, decide_eq_false c1, this, List.take_length]
              | _ => exact nomatch hb
            | _ => exact nomatch ha
    · have l3 : (((xs.length : Nat) : Int) == 3) = false := by rw [beq_eq_false_iff_ne]; omega
      simp! only [F_is_leg, l3, leg_no3 h3, List.take_length]
  | _ => simp! only [F_is_leg, legB, List.take_length]
theorem pw_step : ∀ {l : List Int}, (∀ k, k + 1 < l.length → l[k]! < l[k + 1]!) → l.Pairwise (· < ·)
  | [], _ => .nil
  | [a], _ => List.pairwise_singleton _ _
  | a :: b :: l, h => by
    have h1 : (b :: l).Pairwise (· < ·) := pw_step fun k hk => h (k + 1) (by simp only [List.length_cons] at *; omega)
    have h2 : a < b := h 0 (by simp)
    refine List.pairwise_cons.mpr ⟨fun c hc => ?_, h1⟩
    rcases List.mem_cons.mp hc with rfl | hc
    · exact h2
    · exact Int.lt_trans h2 ((List.pairwise_cons.mp h1).1 c hc)
def SpecLegsG (F : List W → M W) : Prop := ∀ (card : List Event) (x : PyData), Shp 9 x → tame 40 1 x = true → Gives F [.d (cardD card), .d x] (Bo (legsB card x))
theorem eqv_nil {x : PyData} : PyData.eqv x (.tuple []) = (match x with | .tuple [] => true | _ => false) := by
  cases x with
  | tuple xs => cases xs <;> rfl
  | _ => rfl
theorem spec_are_legs {C : Call} (hl : SpecLegG (C (Str.ofString "is_leg"))) : SpecLegsG (fnSem 2 4 (F_are_legs C)) := by
  letI : Inhabited PyData := ⟨.none⟩
  intro card x hs ht
  refine gives_of fun st => run_fn (by rfl) ?_
  cases x with
  | tuple xs =>
    have hx := (tame_tuple.mp ht).1
    have s1 := hs.shaped
    have s2 : SeqAt.shaped (.tuple []) = true := by decide
    cases xs with
    | nil =>
      have hq : PyData.eqv (.tuple []) (.tuple []) = true := by decide
      simp! only [F_are_legs, ↓run_eqD, s1, hq, Bool.and_true, legsB, List.isEmpty_nil, Bool.not_true, Bool.false_and, List.take_length]
    | cons a as =>
      have hq : PyData.eqv (.tuple (a :: as)) (.tuple []) = false := rfl
      generalize hxs : a :: as = xs at *
      have hne : xs.isEmpty = false := by rw [← hxs]; rfl
      have h0 : 0 < xs.length := by rw [← hxs]; simp
      simp! only [F_are_legs, ↓run_eqD, s1, s2, hq, Bool.and_true, F_are_legs_l2]
      refine run_map (emb := fun x => W.d x) (L := []) xs (fun x => .bool (legB card x)) ?_ (szl (by omega)) rfl ?_ ?_
      · simp! only []
      · intro y hy
        have := hl card y (hs.inTup y hy)
        simp! only [F_are_legs_b2, this.run]
      · have e : (xs.map fun x => PyData.bool (legB card x)) = (xs.map (legB card)).map PyData.bool := by rw [List.map_map]; rfl
        have e2 : (xs.map (legB card)).all id = xs.all (legB card) := by rw [List.all_map]; rfl
        rw [e, run_allN, e2]
        cases ha : xs.all (legB card) with
        | false => simp! only [legsB, ha, Bool.and_false, Bool.false_and, List.take_length]
        | true =>
          have hall := List.all_eq_true.mp ha
          simp! only [F_are_legs_l1]
          refine run_map (emb := fun k => W.d (nD k)) (L := []) (List.range (xs.length - 1)) (fun k => .bool (decide ((xs.map evOf)[k]! < (xs.map evOf)[k + 1]!))) ?_ (szl (by rw [List.length_range]; omega)) rfl ?_ ?_
          · simp! only [show ((xs.length : Int) - 1) = ((xs.length - 1 : Nat) : Int) by omega]
            refine ⟨inLong_nat (by omega), ?_⟩
            simp [rangeItems]
          · intro k hk
            have hk := List.mem_range.mp hk
            have hk0 : k < xs.length := by omega
            have hk1 : k + 1 < xs.length := by omega
            obtain ⟨e0, r0, p0, x0, _⟩ := legB_ex (hall xs[k]! (get_mem hk0))
            obtain ⟨e1, r1, p1, x1, _⟩ := legB_ex (hall xs[k + 1]! (get_mem hk1))
            have g0 : ∀ (k : Nat), k < xs.length → (xs.map evOf)[k]! = evOf xs[k]! := fun k hk => by rw [getElem!_pos (xs.map evOf) k (by simpa using hk), getElem!_pos xs k hk, List.getElem_map]
            have m0 : xs.map id = xs := List.map_id xs
            have i0 : ∀ (Q : W → Store → Prop) (E : EQ) (k : Nat), k < xs.length → Run (opIx (.d (.tuple xs)) (.d (.int k)) st) Q E = Q (.d xs[k]!) st := by
              intro Q E k hk
              have := run_ixT (st := st) (Q := Q) (E := E) (d := id) (l := xs) (k := k) hk
              simpa only [List.map_id, id] using this
            simp! only [F_are_legs_b1, show ((k : Int) + 1) = ((k + 1 : Nat) : Int) from rfl, ↓i0 _ _ k hk0, ↓i0 _ _ (k + 1) hk1, x0, x1, g0 k hk0, g0 (k + 1) hk1, evOf]
          · have e : ((List.range (xs.length - 1)).map fun k => PyData.bool (decide ((xs.map evOf)[k]! < (xs.map evOf)[k + 1]!))) = ((List.range (xs.length - 1)).map fun k => decide ((xs.map evOf)[k]! < (xs.map evOf)[k + 1]!)).map PyData.bool := by rw [List.map_map]; rfl
            have e2 : legsB card (.tuple xs) = ((List.range (xs.length - 1)).map fun k => decide ((xs.map evOf)[k]! < (xs.map evOf)[k + 1]!)).all id := by
              simp only [legsB, hne, ha, Bool.not_false, Bool.true_and]
              rw [Bool.eq_iff_iff, decide_eq_true_eq, List.all_map, List.all_eq_true]
              constructor
              · intro h k hk
                have hk := List.mem_range.mp hk
                have l1 : k < (xs.map evOf).length := by rw [List.length_map]; omega
                have l2 : k + 1 < (xs.map evOf).length := by rw [List.length_map]; omega
                show decide _ = true
                rw [decide_eq_true_eq, getElem!_pos (xs.map evOf) k l1, getElem!_pos (xs.map evOf) (k + 1) l2]
                exact List.pairwise_iff_getElem.mp h k (k + 1) l1 l2 (by omega)
              · intro h
                refine pw_step fun k hk => ?_
                rw [List.length_map] at hk
                exact of_decide_eq_true (h k (List.mem_range.mpr (by omega)))
            rw [e, run_allN, e2]
            simp! only [List.take_length]
  | _ => simp! only [F_are_legs, legsB, List.take_length]
end Ev

namespace Ev
open PySem
local macro_rules | `(tactic| simp! only [$xs,*]) => `(tactic| simp only [↓run_seq, ↓run_asg, ↓run_next, ↓run_expr, ↓run_retS, ↓run_ifS, ↓run_cell, ↓run_toNew, ↓run_toD, ↓run_toRef, ↓run_par, ↓run_store0, ↓run_storeF, ↓run_storeT, ↓run_setIx, ↓run_ok, ↓run_ret, ↓run_fail, ↓run_none, ↓run_bind, ↓run_var0, ↓run_varS, ↓run_con, ↓run_bin, ↓run_un, ↓run_args0, ↓run_argsS, ↓run_callB, ↓run_meth, ↓run_callF, ↓run_test, ↓run_testB, ↓run_not, ↓run_and, ↓run_or, ↓run_if, ↓run_truthB, ↓run_andV, ↓run_orV, ↓run_notV, ↓run_chain, ↓run_chain3, ↓run_part0, ↓run_part1, ↓run_slice, ↓run_iter, ↓run_iterC, ↓run_add, ↓run_addT, ↓run_addS, ↓run_addLL, ↓run_addNN, ↓run_addLN, ↓run_addNL, ↓run_sub, ↓run_neg, ↓run_mul, ↓run_div, ↓run_mod, ↓run_mulNI, ↓run_mulLI, ↓run_eqI, ↓run_neI, ↓run_eqS, ↓run_lt, ↓run_le, ↓run_gt, ↓run_ge, ↓run_isN, ↓run_notN, ↓run_isi, ↓run_isB, ↓run_notB, ↓run_ltS, ↓run_leS, ↓run_mulTI, ↓run_ix0, ↓run_ix1, ↓run_ix2, ↓run_ix3, ↓run_ix0L, ↓run_ix1L, ↓run_ix0N, ↓run_lenT, ↓run_lenL, ↓run_lenN, ↓run_tupleN, ↓run_tupleL, ↓run_tupleT, ↓run_listT, ↓run_listN, ↓run_listL, ↓run_slT, ↓run_slL, ↓run_slN, ↓run_revT, ↓run_revN, ↓run_revL, ↓run_max2, ↓run_min2, ↓run_rg1, ↓run_rg2, ↓run_trB, ↓run_trI, ↓run_trT, ↓run_trL, ↓run_trN, ↓run_trNone, ↓run_itT, ↓run_itL, ↓run_itN, ↓run_range1, ↓run_range2, ↓run_zipTT, ↓run_enumT, ↓run_enumL, ↓run_enumN, ↓two_t, ↓two_f, ↓outN_nx, ↓outN_ret, ↓outQ_nx, ↓outQ_d, ↓outQ_new, ↓setG_some, ↓asD_d, run_ite, run_ite', gVar, gTuple, gAll, frz_new, frz_d, frz_ref, frz_scr, isLst, isStr, opTup, opLst, allD, isTy, isN_none, isN_int, isN_bool, isN_str, isN_tup, isN_lst, isN_ref, isN_new, wipeG, List.map_cons, List.map_nil, List.set_cons_zero, List.set_cons_succ, List.length_cons, List.length_nil, List.cons_append, List.nil_append, List.replicate, Nat.reduceAdd, Nat.reduceSub, Nat.reduceLeDiff, Nat.reduceEqDiff, Int.reduceEq, reduceCtorEq, Bool.false_eq_true, Bool.not_true, Bool.not_false, ne_eq, not_false_eq_true, not_true_eq_false, true_and, and_true, and_self, sz0, sz1, sz2, sz3, sz4, sz5, sz6, sz7, sz8, sz10, $xs,*])
def SpecSizesG (F : List W → M W) : Prop := ∀ (x : PyData) (n : Nat), Shp 9 x → Gives F [.d x, .d (nD n)] (Bo (sizesB n x))
theorem spec_are_sizes {C : Call} (hw : SpecWhole (C (Str.ofString "is_whole"))) : SpecSizesG (fnSem 2 4 (F_are_sizes C)) := by
  intro x n hs
  refine gives_of fun st => run_fn (by rfl) ?_
  cases x with
  | tuple xs =>
    have s1 := hs.shaped
    have s2 : SeqAt.shaped (.tuple []) = true := by decide
    cases xs with
    | nil =>
      have hq : PyData.eqv (.tuple []) (.tuple []) = true := by decide
      simp! only [F_are_sizes, ↓run_eqD, s1, hq, Bool.and_true, sizesB, List.isEmpty_nil, Bool.not_true, Bool.false_and, List.take_length]
    | cons a as =>
      have hq : PyData.eqv (.tuple (a :: as)) (.tuple []) = false := rfl
      generalize hxs : a :: as = xs at *
      have hne : xs.isEmpty = false := by rw [← hxs]; rfl
      simp! only [F_are_sizes, ↓run_eqD, s1, s2, hq, Bool.and_true, F_are_sizes_l1, sizesB, hne, Bool.not_false, Bool.true_and]
      refine run_for (emb := fun x => W.d x) (L := []) xs (fun done ρ s => s = st ∧ ∃ (l : Int) (a3 : Option W), ρ = [some (.d (.tuple xs)), some (.d (nD n)), some (.d (.int l)), a3] ∧ ∀ rest, xs = done ++ rest → riseB (n + 1) 0 xs = riseB (n + 1) l rest) ?_ (fun _ _ _ _ => rfl) ⟨rfl, 0, _, rfl, fun rest e => by rw [e]; rfl⟩ ?_ ?_
      · simp! only []
      · rintro done x rest ρ s e ⟨rfl, l, a3, rfl, hl⟩
        have hr := hl _ e
        have e1 := hw x
        cases x with
        | int i =>
          by_cases h1 : l < i
          · by_cases h2 : i ≤ (n : Int)
            · simp! only [F_are_sizes_b1, e1.run, show wholeB (.int i) = true from rfl, decide_eq_true h1, decide_eq_true h2]
              refine ⟨i, _, rfl, fun rest' e' => ?_⟩
              have : rest' = rest := by
                rw [e, List.append_assoc] at e'
                exact (List.cons.inj (List.append_cancel_left e')).2.symm
              rw [this, hr, riseB, decide_eq_true h1, decide_eq_true (show i < (n : Int) + 1 by omega)]
              rfl
            · have hf : riseB (n + 1) 0 xs = false := by rw [hr, riseB, decide_eq_true h1, decide_eq_false (show ¬ i < (n : Int) + 1 by omega)]; rfl
              simp! only [F_are_sizes_b1, e1.run, show wholeB (.int i) = true from rfl, decide_eq_true h1, decide_eq_false h2, hf, List.take_length]
          · have hf : riseB (n + 1) 0 xs = false := by rw [hr, riseB, decide_eq_false h1]; rfl
            simp! only [F_are_sizes_b1, e1.run, show wholeB (.int i) = true from rfl, decide_eq_false h1, hf, List.take_length]
        | _ =>
          have hf : riseB (n + 1) 0 xs = false := by rw [hr]; rfl
          simp! only [F_are_sizes_b1, e1.run, wholeB, hf, List.take_length]
      · rintro ρ s ⟨rfl, l, a3, rfl, hl⟩
        have hr : riseB (n + 1) 0 xs = true := (hl [] (by simp)).trans rfl
        simp! only [List.take_length, hr]
  | _ => simp! only [F_are_sizes, sizesB, List.take_length]
def SpecSlipG (F : List W → M W) : Prop := ∀ (card : List Event) (x : PyData), Shp 10 x → tame 40 2 x = true → Gives F [.d (cardD card), .d x] (Bo (slipB card x))
theorem slip_no4 {card : List Event} {xs : List PyData} (h : xs.length ≠ 4) : slipB card (.tuple xs) = false := by
  match xs, h with
  | [], _ => rfl
  | [a], _ => rfl
  | [a, b], _ => rfl
  | [a, b, c], _ => rfl
  | [a, b, c, d], h => exact absurd rfl h
  | a :: b :: c :: d :: e :: l, _ => cases d <;> rfl
theorem slip_and {card : List Event} {l s k b : PyData} : slipB card (.tuple [l, s, k, b]) = (legsB card l && sizesB (lenOf l) s && numB 1 1000000 k && isTy .bool b) := by
  cases b <;> simp [slipB, isTy]
theorem spec_is_slip {C : Call} (hw : SpecWhole (C (Str.ofString "is_whole"))) (hl : SpecLegsG (C (Str.ofString "are_legs"))) (hz : SpecSizesG (C (Str.ofString "are_sizes"))) : SpecSlipG (fnSem 2 6 (F_is_slip C)) := by
  intro card x hs ht
  refine gives_of fun st => run_fn (by rfl) ?_
  cases x with
  | tuple xs =>
    by_cases h4 : xs.length = 4
    · match xs, h4 with
      | [l, s, k, b], _ =>
        have e1 := hl card l (hs.inTup l (by simp)) ((tame_tuple.mp ht).2 l (by simp))
        rw [slip_and]
        cases hL : legsB card l with
        | false =>
          rw [hL] at e1
          simp! only [F_is_slip, show (((4 : Nat) : Int) == 4) = true from rfl, e1.run, Bool.false_and, List.take_length]
        | true =>
          rw [hL] at e1
          cases l with
          | tuple ls =>
            have e2 := hz s ls.length (hs.inTup s (by simp))
            have e3 := hw k
            show Run _ (outQ _ fun w s' => w = Bo (true && sizesB ls.length s && numB 1 1000000 k && isTy .bool b) ∧ s' = st) _
            cases hS : sizesB ls.length s with
            | false =>
              rw [hS] at e2
              simp! only [F_is_slip, show (((4 : Nat) : Int) == 4) = true from rfl, e1.run, e2.run, Bool.and_false, Bool.false_and, List.take_length]
            | true =>
              rw [hS] at e2
              cases hk : wholeB k with
              | false =>
                rw [hk] at e3
                simp! only [F_is_slip, show (((4 : Nat) : Int) == 4) = true from rfl, e1.run, e2.run, e3.run, numB_whole hk, Bool.and_false, Bool.false_and, List.take_length]
              | true =>
                rw [hk] at e3
                cases k with
                | int i =>
                  by_cases c1 : 1 ≤ i
                  · by_cases c2 : i ≤ 1000000
                    · simp! only [F_is_slip, show (((4 : Nat) : Int) == 4) = true from rfl, e1.run, e2.run, e3.run, numB, decide_eq_true c1, decide_eq_true c2, Bool.and_self, Bool.true_and, List.take_length]
                    · simp! only [F_is_slip, show (((4 : Nat) : Int) == 4) = true from rfl, e1.run, e2.run, e3.run, numB, decide_eq_true c1, decide_eq_false c2, Bool.and_false, Bool.false_and, List.take_length]
                  · simp! only [F_is_slip, show (((4 : Nat) : Int) == 4) = true from rfl, e1.run, e2.run, e3.run, numB, decide_eq_false c1, Bool.and_false, Bool.false_and, List.take_length]
                | _ => exact nomatch hk
          | _ => exact nomatch hL
    · have l4 : (((xs.length : Nat) : Int) == 4) = false := by rw [beq_eq_false_iff_ne]; omega
      simp! only [F_is_slip, l4, slip_no4 h4, List.take_length]
  | _ => simp! only [F_is_slip, slipB, List.take_length]
end Ev

namespace Ev
open PySem
local macro_rules | `(tactic| simp! only [$xs,*]) => `(tactic| simp only [↓run_seq, ↓run_asg, ↓run_next, ↓run_expr, ↓run_retS, ↓run_ifS, ↓run_cell, ↓run_toNew, ↓run_toD, ↓run_toRef, ↓run_par, ↓run_store0, ↓run_storeF, ↓run_storeT, ↓run_setIx, ↓run_ok, ↓run_ret, ↓run_fail, ↓run_none, ↓run_bind, ↓run_var0, ↓run_varS, ↓run_con, ↓run_bin, ↓run_un, ↓run_args0, ↓run_argsS, ↓run_callB, ↓run_meth, ↓run_callF, ↓run_test, ↓run_testB, ↓run_not, ↓run_and, ↓run_or, ↓run_if, ↓run_truthB, ↓run_andV, ↓run_orV, ↓run_notV, ↓run_chain, ↓run_chain3, ↓run_part0, ↓run_part1, ↓run_slice, ↓run_iter, ↓run_iterC, ↓run_add, ↓run_addT, ↓run_addS, ↓run_addLL, ↓run_addNN, ↓run_addLN, ↓run_addNL, ↓run_sub, ↓run_neg, ↓run_mul, ↓run_div, ↓run_mod, ↓run_mulNI, ↓run_mulLI, ↓run_eqI, ↓run_neI, ↓run_eqS, ↓run_lt, ↓run_le, ↓run_gt, ↓run_ge, ↓run_isN, ↓run_notN, ↓run_isi, ↓run_isB, ↓run_notB, ↓run_ltS, ↓run_leS, ↓run_mulTI, ↓run_ix0, ↓run_ix1, ↓run_ix2, ↓run_ix3, ↓run_ix0L, ↓run_ix1L, ↓run_ix0N, ↓run_lenT, ↓run_lenL, ↓run_lenN, ↓run_tupleN, ↓run_tupleL, ↓run_tupleT, ↓run_listT, ↓run_listN, ↓run_listL, ↓run_slT, ↓run_slL, ↓run_slN, ↓run_revT, ↓run_revN, ↓run_revL, ↓run_max2, ↓run_min2, ↓run_rg1, ↓run_rg2, ↓run_trB, ↓run_trI, ↓run_trT, ↓run_trL, ↓run_trN, ↓run_trNone, ↓run_itT, ↓run_itL, ↓run_itN, ↓run_range1, ↓run_range2, ↓run_zipTT, ↓run_enumT, ↓run_enumL, ↓run_enumN, ↓two_t, ↓two_f, ↓outN_nx, ↓outN_ret, ↓outQ_nx, ↓outQ_d, ↓outQ_new, ↓setG_some, ↓asD_d, run_ite, run_ite', gVar, gTuple, gAll, frz_new, frz_d, frz_ref, frz_scr, isLst, isStr, opTup, opLst, allD, isTy, isN_none, isN_int, isN_bool, isN_str, isN_tup, isN_lst, isN_ref, isN_new, wipeG, List.map_cons, List.map_nil, List.set_cons_zero, List.set_cons_succ, List.length_cons, List.length_nil, List.cons_append, List.nil_append, List.replicate, Nat.reduceAdd, Nat.reduceSub, Nat.reduceLeDiff, Nat.reduceEqDiff, Int.reduceEq, reduceCtorEq, Bool.false_eq_true, Bool.not_true, Bool.not_false, ne_eq, not_false_eq_true, not_true_eq_false, true_and, and_true, and_self, sz0, sz1, sz2, sz3, sz4, sz5, sz6, sz7, sz8, sz10, $xs,*])
def F_law_is_leg_c1 (C : Str → List Ev.W → Ev.M Ev.W) : Ev.Env → Ev.M Bool := (sNot (sTest (sCallF 3 (C (Str.ofString "_law_is_number")) (sArgs [(sVar 2), (sCon (.int 1)), (sCon (.int 1000))]))))
def F_law_is_leg_b1 (C : Str → List Ev.W → Ev.M Ev.W) : Ev.Env → Ev.M Ev.W := (sVar 2)
def F_law_is_leg_l1 (C : Str → List Ev.W → Ev.M Ev.W) : Ev.Env → Ev.M Ev.W := (sLc (sIter (sBin opIx (sVar 1) (sCon (.int 2)))) [2] (gVar 2) (F_law_is_leg_c1 C) (F_law_is_leg_b1 C))
def F_law_is_leg (C : Str → List Ev.W → Ev.M Ev.W) : Ev.Env → Ev.M Out := (sSeq (sIfS (sOr (sNot (sTest (sUn (opIsi .tuple) (sVar 1)))) (sOr (sTestB (sBin opNe (sCallB opLen (sArgs [(sVar 1)])) (sCon (.int 3)))) (sNot (sTest (sCallF 3 (C (Str.ofString "_law_is_number")) (sArgs [(sBin opIx (sVar 1) (sCon (.int 0))), (sCon (.int 0)), (sBin opSub (sCallB opLen (sArgs [(sVar 0)])) (sCon (.int 1)))])))))) (sSeq (sRet (sCon (.bool false))) sNext) sNext) (sSeq (sIfS (sNot (sTest (sCallF 3 (C (Str.ofString "_law_is_number")) (sArgs [(sBin opIx (sVar 1) (sCon (.int 1))), (sCon (.int 0)), (sBin opSub (sCallB opLen (sArgs [(sBin opIx (sBin opIx (sVar 0) (sBin opIx (sVar 1) (sCon (.int 0)))) (sCon (.int 0)))])) (sCon (.int 1)))])))) (sSeq (sRet (sCon (.bool false))) sNext) sNext) (sSeq (sIfS (sOr (sNot (sTest (sUn (opIsi .tuple) (sBin opIx (sVar 1) (sCon (.int 2)))))) (sTestB (sBin opNe (sCallB opLen (sArgs [(sBin opIx (sVar 1) (sCon (.int 2)))])) (sCon (.int 2))))) (sSeq (sRet (sCon (.bool false))) sNext) sNext) (sSeq (sIfS (sTest (F_law_is_leg_l1 C)) (sSeq (sRet (sCon (.bool false))) sNext) sNext) (sSeq (sRet (sBin opEq (sCallF 2 (C (Str.ofString "_law_low")) (sArgs [(sBin opIx (sBin opIx (sVar 1) (sCon (.int 2))) (sCon (.int 0))), (sBin opIx (sBin opIx (sVar 1) (sCon (.int 2))) (sCon (.int 1)))])) (sBin opIx (sVar 1) (sCon (.int 2))))) sNext)))))
theorem spec_law_is_leg {C : Call} (hn : SpecIsNum (C (Str.ofString "_law_is_number"))) (hl : SpecLow (C (Str.ofString "_law_low"))) : SpecLegG (fnSem 2 3 (F_law_is_leg C)) := by
  intro card x hs
  refine gives_of fun st => run_fn (by rfl) ?_
  cases x with
  | tuple xs =>
    by_cases h3 : xs.length = 3
    · match xs, h3 with
      | [a, b, p], _ =>
        have t3 : (((3 : Nat) : Int) == 3) = true := rfl
        have e1 := hn a 0 ((card.length : Int) - 1)
        cases h1 : numB 0 ((card.length : Int) - 1) a with
        | false =>
          have : legB card (.tuple [a, b, p]) = false := by
            cases hq : legB card (.tuple [a, b, p]) with
            | false => rfl
            | true =>
              obtain ⟨e, r, p', hx, he, hr, hp⟩ := legB_ex hq
              simp only [PyData.tuple.injEq, List.cons.injEq, and_true] at hx
              obtain ⟨rfl, rfl, rfl⟩ := hx
              have : numB 0 ((card.length : Int) - 1) (.int e) = true := by simp only [numB, Bool.and_eq_true, decide_eq_true_eq]; omega
              exact absurd (this.symm.trans h1) (by decide)
          rw [h1] at e1
          simp! only [F_law_is_leg, cardD, List.length_map, t3, e1.run, this, List.take_length]
        | true =>
          rw [h1] at e1
          obtain ⟨i, rfl, i1, i2⟩ := numB_int h1
          obtain ⟨k, rfl⟩ : ∃ k : Nat, i = k := ⟨i.toNat, by omega⟩
          have hk : k < card.length := by omega
          have e2 := hn b 0 (((card[k]!).ps.length : Int) - 1)
          cases h2 : numB 0 (((card[k]!).ps.length : Int) - 1) b with
          | false =>
            have : legB card (.tuple [.int k, b, p]) = false := by
              cases hq : legB card (.tuple [.int k, b, p]) with
              | false => rfl
              | true =>
                obtain ⟨e, r, p', hx, he, hr, hp⟩ := legB_ex hq
                simp only [PyData.tuple.injEq, List.cons.injEq, and_true] at hx
                obtain ⟨hk', rfl, rfl⟩ := hx
                have hk' : k = e := Int.ofNat.inj (PyData.int.inj hk')
                subst hk'
                have : numB 0 (((card[k]!).ps.length : Int) - 1) (.int r) = true := by simp only [numB, Bool.and_eq_true, decide_eq_true_eq]; omega
                exact absurd (this.symm.trans h2) (by decide)
            rw [h2] at e2
            simp! only [F_law_is_leg, cardD, Event.d, List.length_map, t3, e1.run, ↓run_ixT hk, e2.run, this, List.take_length]
          | true =>
            rw [h2] at e2
            obtain ⟨j, rfl, j1, j2⟩ := numB_int h2
            have hL : legB card (.tuple [.int k, .int j, p]) = priceB p := by
              simp only [legB, Int.toNat_natCast, decide_eq_true (show (0 : Int) ≤ k by omega), decide_eq_true (show (k : Int) < (card.length : Int) by omega), decide_eq_true j1, decide_eq_true (show j < ((card[k]!).ps.length : Int) by omega), Bool.true_and]
            rw [hL]
            have hsp := hs.inTup p (by simp)
            cases p with
            | tuple ps =>
              by_cases hx : ps.length = 2
              · match ps, hx with
                | [u, v], _ =>
                  have t2 : (((2 : Nat) : Int) == 2) = true := rfl
                  simp! only [F_law_is_leg, cardD, Event.d, List.length_map, t3, t2, e1.run, ↓run_ixT hk, e2.run, F_law_is_leg_l1]
                  refine run_filter (emb := fun x => W.d x) (L := []) [u, v] (fun y => !numB 1 1000 y) id ?_ (szl (by simp)) rfl ?_ ?_
                  · simp! only []
                  · intro y _
                    have e3 := hn y 1 1000
                    simp! only [F_law_is_leg_c1, F_law_is_leg_b1, e3.run]
                    exact fun _ => rfl
                  · cases hab : numB 1 1000 u && numB 1 1000 v with
                    | false =>
                      have hp : priceB (.tuple [u, v]) = false := by
                        cases u <;> cases v <;> first | rfl | (simp only [priceB, hab, Bool.false_and])
                      have hf : (([u, v].filter fun y => !numB 1 1000 y).map id).isEmpty = false := by
                        cases h1 : numB 1 1000 u <;> cases h3 : numB 1 1000 v <;> simp [h1, h3] at hab ⊢
                      simp! only [hf, hp, List.take_length]
                    | true =>
                      have hab' := hab
                      rw [Bool.and_eq_true] at hab'
                      have hf : (([u, v].filter fun y => !numB 1 1000 y).map id).isEmpty = true := by simp [hab'.1, hab'.2]
                      obtain ⟨c, rfl, c1, c2⟩ := numB_int hab'.1
                      obtain ⟨d, rfl, d1, d2⟩ := numB_int hab'.2
                      have e3 := hl c d (by omega) (Int.lt_of_lt_of_le (show d < 2 ^ 10 by omega) (by decide +kernel))
                      have e4 := low_self c1 d1
                      have e5 : SeqAt.shaped (frac (quo c d)) = true := Shp.frac.shaped
                      have hp : priceB (.tuple [.int c, .int d]) = (((Int.gcd c d : Nat) : Int) == 1) := by
                        simp only [priceB, hab, Bool.true_and]
                      simp! only [hf, e3.run, ↓run_eqD, e5, hsp.shaped, Bool.and_true, e4, hp, List.take_length]
              · obtain ⟨h5, hp⟩ := len2_ne hx
                simp! only [F_law_is_leg, cardD, Event.d, List.length_map, t3, e1.run, ↓run_ixT hk, e2.run, h5, hp, List.take_length]
            | _ => simp! only [F_law_is_leg, cardD, Event.d, List.length_map, t3, e1.run, ↓run_ixT hk, e2.run, priceB, List.take_length]
    · have l3 : (((xs.length : Nat) : Int) == 3) = false := by rw [beq_eq_false_iff_ne]; omega
      simp! only [F_law_is_leg, l3, leg_no3 h3, List.take_length]
  | _ => simp! only [F_law_is_leg, legB, List.take_length]
end Ev

namespace Ev
open PySem
local macro_rules | `(tactic| simp! only [$xs,*]) => `(tactic| simp only [↓run_seq, ↓run_asg, ↓run_next, ↓run_expr, ↓run_retS, ↓run_ifS, ↓run_cell, ↓run_toNew, ↓run_toD, ↓run_toRef, ↓run_par, ↓run_store0, ↓run_storeF, ↓run_storeT, ↓run_setIx, ↓run_ok, ↓run_ret, ↓run_fail, ↓run_none, ↓run_bind, ↓run_var0, ↓run_varS, ↓run_con, ↓run_bin, ↓run_un, ↓run_args0, ↓run_argsS, ↓run_callB, ↓run_meth, ↓run_callF, ↓run_test, ↓run_testB, ↓run_not, ↓run_and, ↓run_or, ↓run_if, ↓run_truthB, ↓run_andV, ↓run_orV, ↓run_notV, ↓run_chain, ↓run_chain3, ↓run_part0, ↓run_part1, ↓run_slice, ↓run_iter, ↓run_iterC, ↓run_add, ↓run_addT, ↓run_addS, ↓run_addLL, ↓run_addNN, ↓run_addLN, ↓run_addNL, ↓run_sub, ↓run_neg, ↓run_mul, ↓run_div, ↓run_mod, ↓run_mulNI, ↓run_mulLI, ↓run_eqI, ↓run_neI, ↓run_eqS, ↓run_lt, ↓run_le, ↓run_gt, ↓run_ge, ↓run_isN, ↓run_notN, ↓run_isi, ↓run_isB, ↓run_notB, ↓run_ltS, ↓run_leS, ↓run_mulTI, ↓run_ix0, ↓run_ix1, ↓run_ix2, ↓run_ix3, ↓run_ix0L, ↓run_ix1L, ↓run_ix0N, ↓run_lenT, ↓run_lenL, ↓run_lenN, ↓run_tupleN, ↓run_tupleL, ↓run_tupleT, ↓run_listT, ↓run_listN, ↓run_listL, ↓run_slT, ↓run_slL, ↓run_slN, ↓run_revT, ↓run_revN, ↓run_revL, ↓run_max2, ↓run_min2, ↓run_rg1, ↓run_rg2, ↓run_trB, ↓run_trI, ↓run_trT, ↓run_trL, ↓run_trN, ↓run_trNone, ↓run_itT, ↓run_itL, ↓run_itN, ↓run_range1, ↓run_range2, ↓run_zipTT, ↓run_enumT, ↓run_enumL, ↓run_enumN, ↓two_t, ↓two_f, ↓outN_nx, ↓outN_ret, ↓outQ_nx, ↓outQ_d, ↓outQ_new, ↓setG_some, ↓asD_d, run_ite, run_ite', gVar, gTuple, gAll, frz_new, frz_d, frz_ref, frz_scr, isLst, isStr, opTup, opLst, allD, isTy, isN_none, isN_int, isN_bool, isN_str, isN_tup, isN_lst, isN_ref, isN_new, wipeG, List.map_cons, List.map_nil, List.set_cons_zero, List.set_cons_succ, List.length_cons, List.length_nil, List.cons_append, List.nil_append, List.replicate, Nat.reduceAdd, Nat.reduceSub, Nat.reduceLeDiff, Nat.reduceEqDiff, Int.reduceEq, reduceCtorEq, Bool.false_eq_true, Bool.not_true, Bool.not_false, ne_eq, not_false_eq_true, not_true_eq_false, true_and, and_true, and_self, sz0, sz1, sz2, sz3, sz4, sz5, sz6, sz7, sz8, sz10, $xs,*])
def F_law_is_slip_b1 (C : Str → List Ev.W → Ev.M Ev.W) : Ev.Env → Ev.M Ev.W := (sBin opIx (sVar 6) (sCon (.int 0)))
def F_law_is_slip_l1 (C : Str → List Ev.W → Ev.M Ev.W) : Ev.Env → Ev.M Ev.W := (sLc (sIter (sVar 2)) [6] (gVar 6) sYes (F_law_is_slip_b1 C))
def F_law_is_slip_c2 (C : Str → List Ev.W → Ev.M Ev.W) : Ev.Env → Ev.M Bool := (sNot (sTest (sCallF 3 (C (Str.ofString "_law_is_number")) (sArgs [(sVar 7), (sCon (.int 1)), (sCallB opLen (sArgs [(sVar 2)]))]))))
def F_law_is_slip_b2 (C : Str → List Ev.W → Ev.M Ev.W) : Ev.Env → Ev.M Ev.W := (sVar 7)
def F_law_is_slip_l2 (C : Str → List Ev.W → Ev.M Ev.W) : Ev.Env → Ev.M Ev.W := (sLc (sIter (sVar 3)) [7] (gVar 7) (F_law_is_slip_c2 C) (F_law_is_slip_b2 C))
def F_law_is_slip_c3 (C : Str → List Ev.W → Ev.M Ev.W) : Ev.Env → Ev.M Bool := (sNot (sTest (sCallF 2 (C (Str.ofString "_law_is_leg")) (sArgs [(sVar 0), (sVar 6)]))))
def F_law_is_slip_b3 (C : Str → List Ev.W → Ev.M Ev.W) : Ev.Env → Ev.M Ev.W := (sVar 6)
def F_law_is_slip_l3 (C : Str → List Ev.W → Ev.M Ev.W) : Ev.Env → Ev.M Ev.W := (sLc (sIter (sVar 2)) [6] (gVar 6) (F_law_is_slip_c3 C) (F_law_is_slip_b3 C))
def F_law_is_slip (C : Str → List Ev.W → Ev.M Ev.W) : Ev.Env → Ev.M Out := (sSeq (sIfS (sOr (sNot (sTest (sUn (opIsi .tuple) (sVar 1)))) (sOr (sTestB (sBin opNe (sCallB opLen (sArgs [(sVar 1)])) (sCon (.int 4)))) (sOr (sTestB (sBin opEq (sBin opIx (sVar 1) (sCon (.int 0))) (sCallB opTup (sArgs [])))) (sTestB (sBin opEq (sBin opIx (sVar 1) (sCon (.int 1))) (sCallB opTup (sArgs []))))))) (sSeq (sRet (sCon (.bool false))) sNext) sNext) (sSeq (sAsg (sVar 1) (gTuple [(gVar 2), (gVar 3), (gVar 4), (gVar 5)])) (sSeq (sIfS (sOr (sNot (sTest (sUn (opIsi .tuple) (sVar 2)))) (sNot (sTest (sUn (opIsi .tuple) (sVar 3))))) (sSeq (sRet (sCon (.bool false))) sNext) sNext) (sSeq (sIfS (sTest (F_law_is_slip_l3 C)) (sSeq (sRet (sCon (.bool false))) sNext) sNext) (sSeq (sIfS (sTest (F_law_is_slip_l2 C)) (sSeq (sRet (sCon (.bool false))) sNext) sNext) (sSeq (sAsg (F_law_is_slip_l1 C) (gVar 8)) (sSeq (sIfS (sOr (sTestB (sBin opNe (sVar 8) (sUn opSortSet (sVar 8)))) (sTestB (sBin opNe (sCallB opList (sArgs [(sVar 3)])) (sUn opSortSet (sVar 3))))) (sSeq (sRet (sCon (.bool false))) sNext) sNext) (sSeq (sRet (sAndV (sCallF 3 (C (Str.ofString "_law_is_number")) (sArgs [(sVar 4), (sCon (.int 1)), (sCon (.int 1000000))])) (sUn (opIsi .bool) (sVar 5)))) sNext))))))))
theorem eq_sortU {is : List Int} : is = sortU is ↔ is.Pairwise (· < ·) :=
  ⟨fun e => by rw [e]; exact sortU_pw, fun h => rise_eq h sortU_pw fun k => sortU_mem.symm⟩
section
variable {st : Store} {E : EQ} {Q : W → Store → Prop}
theorem shaped_ints (a : List Int) : SeqAt.shaped (.list (a.map PyData.int)) = true := (Shp.list (Shp.map fun _ _ => Shp.int)).shaped
theorem run_neLN {a b : List Int} : Run (opNe (.d (.list (a.map PyData.int))) (.new (b.map PyData.int)) st) Q E = Q (.d (.bool (!decide (a = b)))) st := by
  have h2 : PyData.eqv (.list (a.map PyData.int)) (.list (b.map PyData.int)) = decide (a = b) := by rw [PyData.eqv, eqvAll_ints]
  have e : opNe (.d (.list (a.map PyData.int))) (.new (b.map PyData.int)) st = some (.ok (.d (.bool (!decide (a = b)))), st) := by
    simp only [opNe, asData, shaped_ints, h2, Bool.and_self, if_true]
  rw [Run_congr e, run_ok]
theorem run_neNN {a b : List Int} : Run (opNe (.new (a.map PyData.int)) (.new (b.map PyData.int)) st) Q E = Q (.d (.bool (!decide (a = b)))) st := by
  have h2 : PyData.eqv (.list (a.map PyData.int)) (.list (b.map PyData.int)) = decide (a = b) := by rw [PyData.eqv, eqvAll_ints]
  have e : opNe (.new (a.map PyData.int)) (.new (b.map PyData.int)) st = some (.ok (.d (.bool (!decide (a = b)))), st) := by
    simp only [opNe, asData, shaped_ints, h2, Bool.and_self, if_true]
  rw [Run_congr e, run_ok]
theorem run_sortSetL {is : List Int} (h : is.length < 64) : Run (opSortSet (.d (.list (is.map PyData.int))) st) Q E = Q (.new ((sortU is).map PyData.int)) st := by
  have e : opSortSet (.d (.list (is.map PyData.int))) st = some (.ok (.new ((sortU is).map PyData.int)), st) := by
    unfold opSortSet
    simp only [asSeq, asInts_ints, if_pos h]
  rw [Run_congr e, run_ok]
end
theorem eqv_nil_legs {card : List Event} {x : PyData} (h : PyData.eqv x (.tuple []) = true) : legsB card x = false := by
  cases x with
  | tuple xs => cases xs with
    | nil => rfl
    | cons a l => exact absurd h (by rw [show PyData.eqv (.tuple (a :: l)) (.tuple []) = false from rfl]; decide)
  | _ => rfl
theorem eqv_nil_sizes {n : Int} {x : PyData} (h : PyData.eqv x (.tuple []) = true) : sizesB n x = false := by
  cases x with
  | tuple xs => cases xs with
    | nil => rfl
    | cons a l => exact absurd h (by rw [show PyData.eqv (.tuple (a :: l)) (.tuple []) = false from rfl]; decide)
  | _ => rfl
theorem eqv_nil_ne {xs : List PyData} (h : PyData.eqv (.tuple xs) (.tuple []) = false) : xs.isEmpty = false := by
  cases xs with
  | nil => exact absurd h (by decide)
  | cons a l => rfl
theorem ints_num {lo hi : Int} : ∀ {xs : List PyData}, (∀ y ∈ xs, numB lo hi y = true) → ∃ is : List Int, xs = is.map PyData.int ∧ ∀ i ∈ is, lo ≤ i ∧ i ≤ hi
  | [], _ => ⟨[], rfl, by simp⟩
  | x :: xs, h => by
    obtain ⟨is, rfl, h2⟩ := ints_num (xs := xs) fun y hy => h y (List.mem_cons_of_mem _ hy)
    obtain ⟨i, rfl, i1, i2⟩ := numB_int (h x List.mem_cons_self)
    exact ⟨i :: is, rfl, fun j hj => by
      rcases List.mem_cons.mp hj with rfl | hj
      · exact ⟨i1, i2⟩
      · exact h2 j hj⟩
theorem spec_law_is_slip {C : Call} (hn : SpecIsNum (C (Str.ofString "_law_is_number"))) (hl : SpecLegG (C (Str.ofString "_law_is_leg"))) : SpecSlipG (fnSem 2 9 (F_law_is_slip C)) := by
  intro card x hs ht
  refine gives_of fun st => run_fn (by rfl) ?_
  cases x with
  | tuple xs =>
    by_cases h4 : xs.length = 4
    · match xs, h4 with
      | [l, s, k, b], _ =>
        have t4 : (((4 : Nat) : Int) == 4) = true := rfl
        have s0 : SeqAt.shaped (.tuple []) = true := by decide
        have s1 := (hs.inTup l (by simp)).shaped
        have s2 := (hs.inTup s (by simp)).shaped
        have hsl := hs.inTup l (by simp)
        have tl := (tame_tuple.mp ht).2 l (by simp)
        have tss := (tame_tuple.mp ht).2 s (by simp)
        rw [slip_and]
        cases q1 : PyData.eqv l (.tuple []) with
        | true => simp! only [F_law_is_slip, t4, ↓run_eqD, s0, s1, Bool.and_self, q1, eqv_nil_legs (card := card) q1, Bool.false_and, List.take_length]
        | false =>
          cases q2 : PyData.eqv s (.tuple []) with
          | true => simp! only [F_law_is_slip, t4, ↓run_eqD, s0, s1, s2, Bool.and_self, q1, q2, eqv_nil_sizes (n := lenOf l) q2, Bool.and_false, Bool.false_and, List.take_length]
          | false =>
            cases l with
            | tuple ls =>
              cases s with
              | tuple ss =>
                have n1 := eqv_nil_ne q1
                have n2 := eqv_nil_ne q2
                have c1 := (tame_tuple.mp tl).1
                have c2 := (tame_tuple.mp tss).1
                simp! only [F_law_is_slip, t4, ↓run_eqD, s0, s1, s2, Bool.and_self, q1, q2, F_law_is_slip_l3]
                refine run_filter (emb := fun x => W.d x) (L := []) ls (fun y => !legB card y) id ?_ (szl (by omega)) rfl ?_ ?_
                · simp! only []
                · intro y hy
                  have e3 := hl card y (hsl.inTup y hy)
                  simp! only [F_law_is_slip_c3, F_law_is_slip_b3, e3.run]
                  exact fun _ => rfl
                · rw [List.map_id]
                  cases ha : ls.all (legB card) with
                  | false =>
                    have hf : (ls.filter fun y => !legB card y).isEmpty = false := by
                      cases h : ls.filter fun y => !legB card y with
                      | nil =>
                        have := List.filter_eq_nil_iff.mp h
                        exact absurd (List.all_eq_true.mpr fun y hy => by simpa using this y hy) (by rw [ha]; decide)
                      | cons a l => rfl
                    have hz : legsB card (.tuple ls) = false := by simp only [legsB, ha, Bool.and_false, Bool.false_and]
                    simp! only [hf, hz, Bool.false_and, List.take_length]
                  | true =>
                    have hall := List.all_eq_true.mp ha
                    have hf : (ls.filter fun y => !legB card y).isEmpty = true := by
                      rw [List.filter_eq_nil_iff.mpr fun y hy => by rw [hall y hy]; decide]
                      rfl
                    simp! only [hf, F_law_is_slip_l2]
                    refine run_filter (emb := fun x => W.d x) (L := []) ss (fun y => !numB 1 ls.length y) id ?_ (szl (by omega)) rfl ?_ ?_
                    · simp! only []
                    · intro y hy
                      have e3 := hn y 1 ls.length
                      simp! only [F_law_is_slip_c2, F_law_is_slip_b2, e3.run]
                      exact fun _ => rfl
                    · rw [List.map_id]
                      cases hb : ss.all (numB 1 ls.length) with
                      | false =>
                        have hf : (ss.filter fun y => !numB 1 ls.length y).isEmpty = false := by
                          cases h : ss.filter fun y => !numB 1 ls.length y with
                          | nil =>
                            have := List.filter_eq_nil_iff.mp h
                            exact absurd (List.all_eq_true.mpr fun y hy => by simpa using this y hy) (by rw [hb]; decide)
                          | cons a l => rfl
                        have hz : sizesB (lenOf (.tuple ls)) (.tuple ss) = false := by
                          cases hq : sizesB (lenOf (.tuple ls)) (.tuple ss) with
                          | false => rfl
                          | true =>
                            obtain ⟨is, rfl, _, h5⟩ := riseB_iff.mp (Bool.and_eq_true_iff.mp hq).2
                            refine absurd (List.all_eq_true.mpr fun y hy => ?_) (by rw [hb]; decide)
                            obtain ⟨i, hi, rfl⟩ := List.mem_map.mp hy
                            have := h5 i hi
                            simp only [lenOf] at this
                            simp only [numB, Bool.and_eq_true, decide_eq_true_eq]
                            omega
                        simp! only [hf, hz, Bool.and_false, Bool.false_and, List.take_length]
                      | true =>
                        have hall2 := List.all_eq_true.mp hb
                        have hf : (ss.filter fun y => !numB 1 ls.length y).isEmpty = true := by
                          rw [List.filter_eq_nil_iff.mpr fun y hy => by rw [hall2 y hy]; decide]
                          rfl
                        obtain ⟨is, rfl, his⟩ := ints_num hall2
                        rw [List.length_map] at c2
                        simp! only [hf, F_law_is_slip_l1]
                        refine run_map (emb := fun x => W.d x) (L := []) ls (fun x => .int (evOf x)) ?_ (szl (by omega)) rfl ?_ ?_
                        · simp! only []
                        · intro y hy
                          obtain ⟨e, r, p, rfl, _⟩ := legB_ex (hall y hy)
                          simp! only [F_law_is_slip_b1, evOf]
                        · have em : (ls.map fun x => PyData.int (evOf x)) = (ls.map evOf).map PyData.int := by rw [List.map_map]; rfl
                          rw [em]
                          have hlb : legsB card (.tuple ls) = decide (ls.map evOf = sortU (ls.map evOf)) := by
                            simp only [legsB, n1, ha, Bool.not_false, Bool.true_and]
                            rw [decide_eq_decide, eq_sortU]
                          have hsb : sizesB (lenOf (.tuple ls)) (.tuple (is.map PyData.int)) = decide (is = sortU is) := by
                            simp only [sizesB, n2, Bool.not_false, Bool.true_and]
                            rw [Bool.eq_iff_iff, decide_eq_true_eq, eq_sortU, riseB_iff]
                            constructor
                            · rintro ⟨js, e, h, _⟩
                              rwa [(List.map_inj_right (fun a b h => PyData.int.inj h)).mp e]
                            · intro h
                              refine ⟨is, rfl, h, fun i hi => ?_⟩
                              have := his i hi
                              simp only [lenOf]
                              omega
                          rw [hlb, hsb]
                          have z1 : ∀ {Q : W → Store → Prop} {E : EQ}, Run (opSortSet (.d (.list ((ls.map evOf).map PyData.int))) st) Q E = Q (.new ((sortU (ls.map evOf)).map PyData.int)) st := run_sortSetL (by rw [List.length_map]; omega)
                          have z2 : ∀ {Q : W → Store → Prop} {E : EQ}, Run (opSortSet (.d (.tuple (is.map PyData.int))) st) Q E = Q (.new ((sortU is).map PyData.int)) st := run_sortSet (by omega)
                          generalize ls.map evOf = es at *
                          have e3 := hn k 1 1000000
                          cases d1 : decide (es = sortU es) with
                          | false => simp! only [↓z1, ↓run_neLN, d1, Bool.false_and, List.take_length]
                          | true =>
                            cases d2 : decide (is = sortU is) with
                            | false => simp! only [↓z1, ↓z2, ↓run_neLN, ↓run_neNN, d1, d2, Bool.false_and, Bool.and_false, List.take_length]
                            | true =>
                              cases hk : numB 1 1000000 k with
                              | false =>
                                rw [hk] at e3
                                simp! only [↓z1, ↓z2, ↓run_neLN, ↓run_neNN, d1, d2, e3.run, Bool.false_and, Bool.and_false, List.take_length]
                              | true =>
                                rw [hk] at e3
                                simp! only [↓z1, ↓z2, ↓run_neLN, ↓run_neNN, d1, d2, e3.run, Bool.and_self, Bool.true_and, List.take_length]
              | _ => simp! only [F_law_is_slip, t4, ↓run_eqD, s0, s1, s2, Bool.and_self, q1, q2, sizesB, Bool.and_false, Bool.false_and, List.take_length]
            | _ => simp! only [F_law_is_slip, t4, ↓run_eqD, s0, s1, s2, Bool.and_self, q1, q2, legsB, Bool.false_and, List.take_length]
    · have l4 : (((xs.length : Nat) : Int) == 4) = false := by rw [beq_eq_false_iff_ne]; omega
      simp! only [F_law_is_slip, l4, slip_no4 h4, List.take_length]
  | _ => simp! only [F_law_is_slip, slipB, List.take_length]
end Ev

namespace Ev
open PySem
local macro_rules | `(tactic| dsimp! only [$xs,*]) => `(tactic| simp only [fnSem, leave, sSeq, sRet, sExpr, sNext, sIfS, sAsg, sCell, toCell, sPar, storeAll, storeW, sSetIx, opSet, sVar, sCon, sBin, sUn, sArgs, sCallB, sMeth, sCallF, sTest, sTestB, sNot, sAnd, sOr, sIf, sAndV, sOrV, sNotV, sChain, sSlice, sPart, sFor, sLc, sIter, sIterC, sYes, iterOf, gVar, gTuple, gAll, frz_new, frz_d, frz_ref, frz_scr, isLst, isStr, mbind, mret, mfail, truth, truthB, asSeq, asList, asData, opIsi, isTy, opIsN, opNotN, isNone, allD, opTup, opLst, opLen, List.map_cons, List.map_nil, List.getElem?_cons_zero, List.getElem?_cons_succ, List.set_cons_zero, List.set_cons_succ, List.length_cons, List.length_nil, List.cons_append, List.nil_append, List.replicate, List.take_succ_cons, List.take_zero, List.take_length, Nat.reduceAdd, Nat.reduceSub, Nat.reduceLeDiff, if_true, if_false, ite_true, ite_false, reduceIte, reduceCtorEq, wipeG, Bool.false_eq_true, Bool.not_true, Bool.not_false, sz0, sz1, sz2, sz3, sz4, sz5, sz6, sz7, sz8, $xs,*])
namespace K09
def F_law_drawn_price (C : Str → List Ev.W → Ev.M Ev.W) : Ev.Env → Ev.M Out := (sSeq (sIfS (sTestB (sBin opEq (sCallF 3 (C (Str.ofString "_law_draw")) (sArgs [(sVar 0), (sVar 1), (sCon (.int 3))])) (sCon (.int 0)))) (sSeq (sAsg (sCallB opLst (sArgs [(sCallB opTup (sArgs [(sCon (.int 1)), (sCon (.int 1))])), (sCallB opTup (sArgs [(sCon (.int 5)), (sCon (.int 2))])), (sCallB opTup (sArgs [(sCon (.int 1)), (sCon (.int 4))])), (sCallB opTup (sArgs [(sCon (.int 10)), (sCon (.int 11))])), (sCallB opTup (sArgs [(sCon (.int 1000)), (sCon (.int 1))])), (sCallB opTup (sArgs [(sCon (.int 1)), (sCon (.int 1000))])), (sCallB opTup (sArgs [(sCon (.int 100)), (sCon (.int 7))])), (sCallB opTup (sArgs [(sCon (.int 1000)), (sCon (.int 999))]))])) (gVar 2)) (sSeq (sAsg (sBin opAdd (sVar 2) (sCallB opLst (sArgs [(sCallB opTup (sArgs [(sCon (.int 333)), (sCon (.int 1000))])), (sCallB opTup (sArgs [(sCon (.int 7)), (sCon (.int 2))]))]))) (gVar 2)) (sSeq (sRet (sCallF 3 (C (Str.ofString "_law_pick")) (sArgs [(sVar 0), (sVar 1), (sVar 2)]))) sNext))) sNext) (sSeq (sAsg (sCallF 3 (C (Str.ofString "_law_pick")) (sArgs [(sVar 0), (sVar 1), (sCallB opLst (sArgs [(sCon (.int 3)), (sCon (.int 8)), (sCon (.int 30))]))])) (gVar 3)) (sSeq (sRet (sCallF 2 (C (Str.ofString "_law_low")) (sArgs [(sBin opAdd (sCon (.int 1)) (sCallF 3 (C (Str.ofString "_law_draw")) (sArgs [(sVar 0), (sVar 1), (sVar 3)]))), (sBin opAdd (sCon (.int 1)) (sCallF 3 (C (Str.ofString "_law_draw")) (sArgs [(sVar 0), (sVar 1), (sVar 3)])))]))) sNext)))
theorem spec_drawn_price9 {C : Call} {ns : List Int} (hd : SpecDraw ns (C (Str.ofString "_law_draw"))) (hp : SpecPick ns (C (Str.ofString "_law_pick"))) (hl : SpecLow (C (Str.ofString "_law_low"))) : SpecDrawnPrice ns (fnSem 2 4 (F_law_drawn_price C)) := by
  intro rest n st ht hn
  obtain ⟨v, st1, e1, h1, h2, h3⟩ := hd 3 rest n st (by decide) ht (by omega)
  by_cases hv : v = 0
  · subst hv
    obtain ⟨y, st2, e2, hy, h4⟩ := hp (.d (.list [.tuple [.int 1, .int 1], .tuple [.int 5, .int 2], .tuple [.int 1, .int 4], .tuple [.int 10, .int 11], .tuple [.int 1000, .int 1], .tuple [.int 1, .int 1000], .tuple [.int 100, .int 7], .tuple [.int 1000, .int 999], .tuple [.int 333, .int 1000], .tuple [.int 7, .int 2]])) _ rest (n + 2) st1 (.inl rfl) (by simp) h3 (by omega)
    refine ⟨y, st2, ?_, ?_, h4.mono (by omega)⟩
    · dsimp! only [F_law_drawn_price, e1, e2, opAdd, opEq, shaped_int, PyData.eqv, beq_self_eq_true, Bool.and_true, ht.len, h4.take, sz10]
    · simp only [List.mem_cons, List.not_mem_nil, or_false] at hy
      rcases hy with rfl | rfl | rfl | rfl | rfl | rfl | rfl | rfl | rfl | rfl <;> exact ⟨_, _, rfl, by decide, by decide, by decide, by decide, by decide⟩
  · have hv' : (v == 0) = false := by simpa using hv
    obtain ⟨y, st2, e2, hy, h4⟩ := hp (.d (.list [.int 3, .int 8, .int 30])) _ rest (n + 2) st1 (.inl rfl) (by simp) h3 (by omega)
    obtain ⟨m, rfl, m1, m2⟩ : ∃ m : Int, y = .int m ∧ 0 < m ∧ m ≤ 30 := by
      simp only [List.mem_cons, List.not_mem_nil, or_false] at hy
      rcases hy with rfl | rfl | rfl <;> exact ⟨_, rfl, by decide, by decide⟩
    obtain ⟨a, st3, e3, a1, a2, h5⟩ := hd m rest (n + 2 + 2) st2 m1 h4 (by omega)
    obtain ⟨b, st4, e4, b1, b2, h6⟩ := hd m rest (n + 2 + 2 + 2) st3 m1 h5 (by omega)
    have e5 := hl (1 + a) (1 + b) (by omega) (Int.lt_of_lt_of_le (show 1 + b < 2 ^ 6 by omega) (by decide +kernel)) st4
    refine ⟨_, st4, ?_, frac_price (a := 1 + a) (b := 1 + b) (by omega) (by omega) (by omega) (by omega), h6.mono (by omega)⟩
    dsimp! only [F_law_drawn_price, e1, e2, e3, e4, e5, opAdd, opEq, shaped_int, PyData.eqv, hv', Bool.and_true, ht.len, h6.take]
end K09
end Ev

namespace Ev
open PySem
local macro_rules | `(tactic| simp! only [$xs,*]) => `(tactic| simp only [↓run_seq, ↓run_asg, ↓run_next, ↓run_expr, ↓run_retS, ↓run_ifS, ↓run_cell, ↓run_toNew, ↓run_toD, ↓run_toRef, ↓run_par, ↓run_store0, ↓run_storeF, ↓run_storeT, ↓run_setIx, ↓run_ok, ↓run_ret, ↓run_fail, ↓run_none, ↓run_bind, ↓run_var0, ↓run_varS, ↓run_con, ↓run_bin, ↓run_un, ↓run_args0, ↓run_argsS, ↓run_callB, ↓run_meth, ↓run_callF, ↓run_test, ↓run_testB, ↓run_not, ↓run_and, ↓run_or, ↓run_if, ↓run_truthB, ↓run_andV, ↓run_orV, ↓run_notV, ↓run_chain, ↓run_chain3, ↓run_part0, ↓run_part1, ↓run_slice, ↓run_iter, ↓run_iterC, ↓run_add, ↓run_addT, ↓run_addS, ↓run_addLL, ↓run_addNN, ↓run_addLN, ↓run_addNL, ↓run_sub, ↓run_neg, ↓run_mul, ↓run_div, ↓run_mod, ↓run_mulNI, ↓run_mulLI, ↓run_eqI, ↓run_neI, ↓run_eqS, ↓run_lt, ↓run_le, ↓run_gt, ↓run_ge, ↓run_isN, ↓run_notN, ↓run_isi, ↓run_isB, ↓run_notB, ↓run_ltS, ↓run_leS, ↓run_mulTI, ↓run_ix0, ↓run_ix1, ↓run_ix2, ↓run_ix3, ↓run_ix0L, ↓run_ix1L, ↓run_ix0N, ↓run_lenT, ↓run_lenL, ↓run_lenN, ↓run_tupleN, ↓run_tupleL, ↓run_tupleT, ↓run_listT, ↓run_listN, ↓run_listL, ↓run_slT, ↓run_slL, ↓run_slN, ↓run_revT, ↓run_revN, ↓run_revL, ↓run_max2, ↓run_min2, ↓run_rg1, ↓run_rg2, ↓run_trB, ↓run_trI, ↓run_trT, ↓run_trL, ↓run_trN, ↓run_trNone, ↓run_itT, ↓run_itL, ↓run_itN, ↓run_range1, ↓run_range2, ↓run_zipTT, ↓run_enumT, ↓run_enumL, ↓run_enumN, ↓two_t, ↓two_f, ↓outN_nx, ↓outN_ret, ↓outQ_nx, ↓outQ_d, ↓outQ_new, ↓setG_some, ↓asD_d, run_ite, run_ite', gVar, gTuple, gAll, frz_new, frz_d, frz_ref, frz_scr, isLst, isStr, opTup, opLst, allD, isTy, isN_none, isN_int, isN_bool, isN_str, isN_tup, isN_lst, isN_ref, isN_new, wipeG, List.map_cons, List.map_nil, List.set_cons_zero, List.set_cons_succ, List.length_cons, List.length_nil, List.cons_append, List.nil_append, List.replicate, Nat.reduceAdd, Nat.reduceSub, Nat.reduceLeDiff, Nat.reduceEqDiff, Int.reduceEq, reduceCtorEq, Bool.false_eq_true, Bool.not_true, Bool.not_false, ne_eq, not_false_eq_true, not_true_eq_false, true_and, and_true, and_self, sz0, sz1, sz2, sz3, sz4, sz5, sz6, sz7, sz8, sz10, $xs,*])
namespace K09
def F_law_b3 (C : Str → List Ev.W → Ev.M Ev.W) : Ev.Env → Ev.M Ev.W := (sCallF 2 (C (Str.ofString "_law_same")) (sArgs [(sCallF 2 (C (Str.ofString "is_slip")) (sArgs [(sVar 3), (sVar 11)])), (sCallF 2 (C (Str.ofString "_law_is_slip")) (sArgs [(sVar 3), (sVar 11)]))]))
def F_law_l3 (C : Str → List Ev.W → Ev.M Ev.W) : Ev.Env → Ev.M Ev.W := (sLc (sIter (sVar 9)) [11] (gVar 11) sYes (F_law_b3 C))
def F_law_t216 (C : Str → List Ev.W → Ev.M Ev.W) : Ev.Env → Ev.M Out := (sSeq (sIfS (sNot (sTest (sCallB opAll (sArgs [(F_law_l3 C)])))) (sSeq (sRet (sCon (.bool false))) sNext) sNext) sNext)
def F_law_b4 (C : Str → List Ev.W → Ev.M Ev.W) : Ev.Env → Ev.M Ev.W := (sCallF 3 (C (Str.ofString "_law_bent")) (sArgs [(sVar 0), (sVar 1), (sVar 4)]))
def F_law_l4 (C : Str → List Ev.W → Ev.M Ev.W) : Ev.Env → Ev.M Ev.W := (sLc (sIterC opRange1 (sArgs [(sCon (.int 8))])) [10] (gVar 10) sYes (F_law_b4 C))
def F_law_t215 (C : Str → List Ev.W → Ev.M Ev.W) : Ev.Env → Ev.M Out := (sSeq (sAsg (sBin opAdd (sVar 9) (F_law_l4 C)) (gVar 9)) (F_law_t216 C))
def F_law_t214 (C : Str → List Ev.W → Ev.M Ev.W) : Ev.Env → Ev.M Out := (sSeq (sAsg (sBin opAdd (sVar 9) (sCallB opLst (sArgs [(sCon .none)]))) (gVar 9)) (F_law_t215 C))
def F_law_t213 (C : Str → List Ev.W → Ev.M Ev.W) : Ev.Env → Ev.M Out := (sSeq (sAsg (sBin opAdd (sVar 9) (sCallB opLst (sArgs [(sCallB opTup (sArgs [(sCallB opTup (sArgs [(sCallB opTup (sArgs [(sUn opNeg (sCon (.int 1))), (sCon (.int 0)), (sCallB opTup (sArgs [(sCon (.int 1)), (sCon (.int 1))]))]))])), (sCallB opTup (sArgs [(sCon (.int 1))])), (sCon (.int 1)), (sVar 8)])), (sCallB opTup (sArgs [(sCallB opTup (sArgs [(sCallB opTup (sArgs [(sCon (.int 0)), (sUn opNeg (sCon (.int 1))), (sCallB opTup (sArgs [(sCon (.int 1)), (sCon (.int 1))]))]))])), (sCallB opTup (sArgs [(sCon (.int 1))])), (sCon (.int 1)), (sVar 8)])), (sCallB opList (sArgs [(sVar 4)]))]))) (gVar 9)) (F_law_t214 C))
def F_law_t212 (C : Str → List Ev.W → Ev.M Ev.W) : Ev.Env → Ev.M Out := (sSeq (sAsg (sBin opAdd (sVar 9) (sCallB opLst (sArgs [(sCallB opTup (sArgs [(sCallB opTup (sArgs [(sCallB opTup (sArgs [(sCon (.int 0)), (sCallB opLen (sArgs [(sBin opIx (sBin opIx (sVar 3) (sCon (.int 0))) (sCon (.int 0)))])), (sCallB opTup (sArgs [(sCon (.int 1)), (sCon (.int 1))]))]))])), (sCallB opTup (sArgs [(sCon (.int 1))])), (sCon (.int 1)), (sVar 8)]))]))) (gVar 9)) (F_law_t213 C))
def F_law_t211 (C : Str → List Ev.W → Ev.M Ev.W) : Ev.Env → Ev.M Out := (sSeq (sAsg (sBin opAdd (sVar 9) (sCallB opLst (sArgs [(sCallB opTup (sArgs [(sCallB opTup (sArgs [(sCallB opTup (sArgs [(sCallB opLen (sArgs [(sVar 3)])), (sCon (.int 0)), (sCallB opTup (sArgs [(sCon (.int 1)), (sCon (.int 1))]))]))])), (sCallB opTup (sArgs [(sCon (.int 1))])), (sCon (.int 1)), (sVar 8)]))]))) (gVar 9)) (F_law_t212 C))
def F_law_t210 (C : Str → List Ev.W → Ev.M Ev.W) : Ev.Env → Ev.M Out := (sSeq (sAsg (sBin opAdd (sVar 9) (sCallB opLst (sArgs [(sCallB opTup (sArgs [(sVar 5), (sCallB opTup (sArgs [(sBin opAdd (sCallB opLen (sArgs [(sVar 5)])) (sCon (.int 1)))])), (sVar 7), (sVar 8)]))]))) (gVar 9)) (F_law_t211 C))
def F_law_t209 (C : Str → List Ev.W → Ev.M Ev.W) : Ev.Env → Ev.M Out := (sSeq (sAsg (sBin opAdd (sVar 9) (sCallB opLst (sArgs [(sCallB opTup (sArgs [(sVar 5), (sVar 6), (sCon (.bool true)), (sVar 8)])), (sCallB opTup (sArgs [(sVar 5), (sCallB opTup (sArgs [(sCon (.int 1)), (sCon (.int 1))])), (sVar 7), (sVar 8)]))]))) (gVar 9)) (F_law_t210 C))
def F_law_t208 (C : Str → List Ev.W → Ev.M Ev.W) : Ev.Env → Ev.M Out := (sSeq (sAsg (sBin opAdd (sVar 9) (sCallB opLst (sArgs [(sSlice (sVar 4) none (some (sCon (.int 3))))]))) (gVar 9)) (F_law_t209 C))
def F_law_t207 (C : Str → List Ev.W → Ev.M Ev.W) : Ev.Env → Ev.M Out := (sSeq (sAsg (sBin opAdd (sVar 9) (sCallB opLst (sArgs [(sCallB opTup (sArgs [(sVar 5), (sVar 6), (sCon (.int 0)), (sVar 8)])), (sCallB opTup (sArgs [(sVar 5), (sVar 6), (sCon (.int 1000001)), (sVar 8)])), (sCallB opTup (sArgs [(sVar 5), (sVar 6), (sVar 7), (sCon (.int 1))]))]))) (gVar 9)) (F_law_t208 C))
def F_law_t206 (C : Str → List Ev.W → Ev.M Ev.W) : Ev.Env → Ev.M Out := (sSeq (sAsg (sBin opAdd (sVar 9) (sCallB opLst (sArgs [(sCallB opTup (sArgs [(sVar 5), (sBin opAdd (sVar 6) (sCallB opTup (sArgs [(sCon (.int 9))]))), (sVar 7), (sVar 8)]))]))) (gVar 9)) (F_law_t207 C))
def F_law_t205 (C : Str → List Ev.W → Ev.M Ev.W) : Ev.Env → Ev.M Out := (sSeq (sAsg (sBin opAdd (sVar 9) (sCallB opLst (sArgs [(sCallB opTup (sArgs [(sCallB opTup (sArgs [])), (sCallB opTup (sArgs [(sCon (.int 1))])), (sVar 7), (sVar 8)])), (sCallB opTup (sArgs [(sVar 5), (sBin opAdd (sCallB opTup (sArgs [(sCon (.int 0))])) (sVar 6)), (sVar 7), (sVar 8)]))]))) (gVar 9)) (F_law_t206 C))
def F_law_t204 (C : Str → List Ev.W → Ev.M Ev.W) : Ev.Env → Ev.M Out := (sSeq (sAsg (sBin opAdd (sVar 9) (sCallB opLst (sArgs [(sCallB opTup (sArgs [(sVar 5), (sCallB opTup (sArgs [])), (sVar 7), (sVar 8)]))]))) (gVar 9)) (F_law_t205 C))
def F_law_t203 (C : Str → List Ev.W → Ev.M Ev.W) : Ev.Env → Ev.M Out := (sSeq (sAsg (sCallB opLst (sArgs [(sVar 4), (sCallB opTup (sArgs [(sUn opRev (sVar 5)), (sVar 6), (sVar 7), (sVar 8)])), (sCallB opTup (sArgs [(sBin opAdd (sVar 5) (sSlice (sVar 5) none (some (sCon (.int 1))))), (sVar 6), (sVar 7), (sVar 8)]))])) (gVar 9)) (F_law_t204 C))
def F_law_t202 (C : Str → List Ev.W → Ev.M Ev.W) : Ev.Env → Ev.M Out := (sSeq (sAsg (sVar 4) (gTuple [(gVar 5), (gVar 6), (gVar 7), (gVar 8)])) (F_law_t203 C))
def F_law_t201 (C : Str → List Ev.W → Ev.M Ev.W) : Ev.Env → Ev.M Out := (sSeq (sAsg (sCallF 4 (C (Str.ofString "_law_drawn_slip")) (sArgs [(sVar 0), (sVar 1), (sVar 3), (sCon (.int 5))])) (gVar 4)) (F_law_t202 C))
def F_law_b1 (C : Str → List Ev.W → Ev.M Ev.W) : Ev.Env → Ev.M Out := (sSeq (sAsg (sCallF 4 (C (Str.ofString "_law_drawn_card")) (sArgs [(sVar 0), (sVar 1), (sCon (.int 5)), (sCon (.int 4))])) (gVar 3)) (F_law_t201 C))
def F_law_l1 (C : Str → List Ev.W → Ev.M Ev.W) : Ev.Env → Ev.M Out := (sFor (sIterC opRange1 (sArgs [(sCon (.int 10))])) (gVar 2) (F_law_b1 C))
def F_law (C : Str → List Ev.W → Ev.M Ev.W) : Ev.Env → Ev.M Out := (sSeq (sCell 1 (sCallB opLst (sArgs []))) (sSeq (F_law_l1 C) (sSeq (sRet (sCon (.bool true))) sNext)))
structure Hyp (ns : List Int) (C : Call) : Prop where
  card : SpecDrawnCard ns (C (Str.ofString "_law_drawn_card"))
  slip : SpecDrawnSlip ns (C (Str.ofString "_law_drawn_slip"))
  bent : SpecBentN ns 4 (C (Str.ofString "_law_bent"))
  isr : SpecSlipG (C (Str.ofString "is_slip"))
  lisr : SpecSlipG (C (Str.ofString "_law_is_slip"))
  same : SpecSame 4 (C (Str.ofString "_law_same"))
theorem tame_down {m : Nat} : ∀ {k : Nat} {x : PyData}, tame m (k + 1) x = true → tame m k x = true
  | 0, _, _ => tame_zero
  | k + 1, x, h => by
    cases x with
    | tuple xs =>
      rw [tame_tuple] at h ⊢
      exact ⟨h.1, fun y hy => tame_down (h.2 y hy)⟩
    | _ => rfl
structure Sg (z : PyData) : Prop where
  s : Shp 10 z
  t : tame 40 2 z = true
structure Pc (z : PyData) : Prop where
  s : Shp 9 z
  t : tame 40 1 z = true
theorem sg4 {a b c d : PyData} (ha : Pc a) (hb : Pc b) (hc : Pc c) (hd : Pc d) : Sg (.tuple [a, b, c, d]) := by
  have h : ∀ z ∈ [a, b, c, d], Pc z := fun z hz => by
    simp only [List.mem_cons, List.not_mem_nil, or_false] at hz
    rcases hz with rfl | rfl | rfl | rfl
    · exact ha
    · exact hb
    · exact hc
    · exact hd
  exact ⟨Shp.tuple fun z hz => (h z hz).s, tame_tuple.mpr ⟨by simp, fun z hz => (h z hz).t⟩⟩
theorem pT {xs : List PyData} (h1 : xs.length ≤ 40) (h2 : ∀ x ∈ xs, Shp 8 x) : Pc (.tuple xs) := ⟨Shp.tuple h2, tame_tuple.mpr ⟨h1, fun _ _ => tame_zero⟩⟩
theorem pI (i : Int) : Pc (.int i) := ⟨Shp.int.mono (by decide), rfl⟩
theorem pB (b : Bool) : Pc (.bool b) := ⟨Shp.bool.mono (by decide), rfl⟩
theorem p0 : Pc (.tuple []) := pT (by simp) (by simp)
theorem p1 (i : Int) : Pc (.tuple [.int i]) := pT (by simp) (fun x hx => by rw [List.mem_singleton] at hx; subst hx; exact Shp.int.mono (by decide))
theorem p2 (i j : Int) : Pc (.tuple [.int i, .int j]) := pT (by simp) (fun x hx => by
  simp only [List.mem_cons, List.not_mem_nil, or_false] at hx
  rcases hx with rfl | rfl <;> exact Shp.int.mono (by decide))
theorem p3 (i j : Int) : Pc (.tuple [.tuple [.int i, .int j, .tuple [.int 1, .int 1]]]) := pT (by simp) (fun x hx => by
  rw [List.mem_singleton] at hx
  subst hx
  refine (Shp.tuple (k := 1) fun x hx => ?_).mono (by decide)
  simp only [List.mem_cons, List.not_mem_nil, or_false] at hx
  rcases hx with rfl | rfl | rfl
  · exact Shp.int.mono (by decide)
  · exact Shp.int.mono (by decide)
  · exact Shp.tuple (by simp [Shp.int]))
theorem shp_leg (l : Leg) : Shp 2 l.d := Shp.tuple fun x hx => by
  simp only [List.mem_cons, List.not_mem_nil, or_false] at hx
  rcases hx with rfl | rfl | rfl
  · exact Shp.int.mono (by decide)
  · exact Shp.int.mono (by decide)
  · exact Shp.frac
theorem tame_two {m k : Nat} {i j : Int} (hm : 3 ≤ m) : tame m k (.tuple [.int i, .int j]) = true := by
  cases k with
  | zero => exact tame_zero
  | succ k => exact tame_tuple.mpr ⟨by simp; omega, fun x hx => by
      simp only [List.mem_cons, List.not_mem_nil, or_false] at hx
      rcases hx with rfl | rfl <;> exact tame_flat rfl⟩
theorem tame_leg {k : Nat} (l : Leg) : tame 30 k l.d = true := by
  cases k with
  | zero => exact tame_zero
  | succ k => exact tame_tuple.mpr ⟨by simp, fun x hx => by
      simp only [List.mem_cons, List.not_mem_nil, or_false] at hx
      rcases hx with rfl | rfl | rfl
      · exact tame_flat rfl
      · exact tame_flat rfl
      · exact tame_two (by decide)⟩
section
variable {st : Store} {E : EQ} {Q : W → Store → Prop}
theorem run_allT {xs : List PyData} : Run (opAll [.new (xs.map fun _ => PyData.bool true)] st) Q E = Q (.d (.bool true)) st := by
  have e : (xs.map fun _ => PyData.bool true) = (xs.map fun _ => true).map PyData.bool := by rw [List.map_map]; rfl
  have e2 : (xs.map fun _ => true).all id = true := by simp
  rw [e, run_allN, e2]
end
section
variable {ns : List Int} {C : Call} (H : Hyp ns C)
include H
def Shape (ns : List Int) (ρ : Ev.Env) : Prop := ∃ a2 a3 a4 a5 a6 a7 a8 a9 a10 a11 : Option W, ρ = [some (.scr ns), some (.ref 0), a2, a3, a4, a5, a6, a7, a8, a9, a10, a11]
def c1 : Nat := 500
theorem things_ok {s : Store} {xs : List PyData} {card : List Event} (hx : ∀ z ∈ xs, Sg z) (hl : xs.length ≤ 1000) {Q : W → Store → Prop} {E : EQ} (hq : Q (.new (xs.map fun _ => PyData.bool true)) s) {a0 a1 a2 a4 a5 a6 a7 a8 a10 a11 : Option W} : Run (F_law_l3 C [a0, a1, a2, some (.d (cardD card)), a4, a5, a6, a7, a8, some (.d (.list xs)), a10, a11] s) Q E := by
  simp! only [F_law_l3]
  refine run_map (emb := fun y => W.d y) (L := []) xs (fun _ => .bool true) ?_ (szl (by omega)) rfl ?_ hq
  · simp! only []
  · intro z hz
    have g1 := H.isr card z (hx z hz).s (hx z hz).t
    have g2 := H.lisr card z (hx z hz).s (hx z hz).t
    have g3 := H.same (.bool (slipB card z)) rfl
    simp! only [F_law_b3, g1.run, g2.run, g3.run]
theorem body_ok {st : Store} {n : Nat} {ρ : Ev.Env} (hs : Shape ns ρ) (ht : Town [] n st) (hn : n + c1 ≤ lim) : Run (F_law_b1 C ρ st) (outN (fun ρ s => Shape ns ρ ∧ Town [] (n + c1) s) fun _ _ => False) noE := by
  obtain ⟨a2, a3, a4, a5, a6, a7, a8, a9, a10, a11, rfl⟩ := hs
  unfold c1 at *
  simp! only [F_law_b1]
  refine (H.card 5 4 [] n st (by decide) (by decide) (by decide) (by decide) ht (by omega)).to ?_
  rintro _ s1 ⟨card, rfl, hc, h1⟩
  have hlo := hc.lo
  have hhi := hc.hi
  simp! only [F_law_t201]
  refine (H.slip card 5 [] _ s1 (hc.g (by decide)) hlo (by omega) (by decide) (by decide) h1 (by omega)).to ?_
  rintro _ s2 ⟨sl, rfl, hsl, hm, h2⟩
  have hg := hsl.g (by omega)
  have hzl := hg.szl
  have ix : ∀ (Q : W → Store → Prop) (E : EQ) (s : Store), Run (opIx (.d (cardD card)) (.d (.int 0)) s) Q E = Q (.d (card[0]!).d) s := fun Q E s => run_ixT (st := s) (d := Event.d) (l := card) (k := 0) hlo
  have ln : ∀ (Q : W → Store → Prop) (E : EQ) (s : Store), Run (opLen [.d (cardD card)] s) Q E = Q (.d (.int (card.length : Nat))) s := fun Q E s => by rw [cardD, run_lenT, List.length_map]
  have hcut := cutG_len (sl.legs.map Leg.d) none (some 1)
  rw [List.length_map] at hcut
  have hbo : bendB 4 sl.d = true := by
    simp only [Slip.d, legsD, natsD, bendB, List.all_cons, List.all_nil, List.length_cons, List.length_nil, List.length_map, List.all_map, Bool.and_true, Bool.and_eq_true, decide_eq_true_eq, List.all_eq_true, Function.comp]
    have hk := hg.stk
    refine ⟨by omega, ⟨by omega, fun l hl => ?_⟩, ⟨by omega, fun k hk => ?_⟩, by omega, by omega⟩
    · have o := hg.leg l hl
      have h1 := o.ev
      have h2 := o.run
      have h3 := (hc.ok _ (get_mem h1)).hi
      have h4 := o.price.hn
      have h5 := o.price.hd
      have h6 := o.price.n1
      simp only [Leg.d, frac, bendB, List.all_cons, List.all_nil, List.length_cons, List.length_nil, Bool.and_true, Bool.and_eq_true, decide_eq_true_eq]
      omega
    · have := hg.sz k hk
      omega
  have sL : ∀ x ∈ sl.legs.map Leg.d, Shp 2 x := Shp.map fun l _ => shp_leg l
  have hbt : Bt 30 4 sl.d := by
    refine btT (by simp) fun z hz => ?_
    simp only [List.mem_cons, List.not_mem_nil, or_false] at hz
    rcases hz with rfl | rfl | rfl | rfl
    · exact ⟨tame_tuple.mpr ⟨by rw [List.length_map]; omega, fun z hz => by obtain ⟨l, _, rfl⟩ := List.mem_map.mp hz; exact tame_leg l⟩, (Shp.tuple sL).mono (by decide)⟩
    · exact ⟨tame_tuple.mpr ⟨by rw [List.length_map]; omega, fun z hz => by obtain ⟨l, _, rfl⟩ := List.mem_map.mp hz; exact tame_flat rfl⟩, Shp.nats.mono (by decide)⟩
    · exact ⟨tame_flat rfl, Shp.int.mono (by decide)⟩
    · exact ⟨tame_flat rfl, Shp.bool.mono (by decide)⟩
  simp only [Slip.d, legsD, natsD] at hbo hbt
  simp! only [Slip.d, legsD, natsD, F_law_t202, F_law_t203, F_law_t204, F_law_t205, F_law_t206, F_law_t207, F_law_t208, F_law_t209, F_law_t210, F_law_t211, F_law_t212, F_law_t213, F_law_t214, F_law_t215, F_law_l4, ↓ix, ↓ln, Event.d, List.length_map]
  repeat refine And.intro (by first | decide | exact szl (by omega) | exact szl (by simp only [List.length_append, List.length_map, List.length_cons, List.length_nil]; omega)) ?_
  refine run_lc (emb := fun k => W.d (nD k)) (L := []) (List.range 8) (fun done acc s => acc.length = done.length ∧ (∀ y ∈ acc, Sg y) ∧ Town [] (n + 300 + 20 * done.length) s) ?_ (szl (by simp)) (fun _ _ _ _ => rfl) ⟨rfl, by simp, h2.mono (by simp; omega)⟩ ?_ ?_
  · simp! only [show inLong 8 = true from rfl]
    rfl
  · rintro done j more acc s he ⟨hl, ha, hT⟩
    have hd := prefix_len he
    rw [List.length_range] at hd
    simp! only [F_law_b4, sYes]
    obtain ⟨y, s3, e3, hy, h3⟩ := H.bent _ [] _ s hbo hbt hT (by omega)
    have r3 := run_of (E := noE) (Q := fun w s => w = W.d y ∧ s = s3) e3 ⟨rfl, rfl⟩
    refine r3.to ?_
    rintro _ s' ⟨rfl, hh⟩
    rw [hh]
    clear hh s'
    simp! only []
    refine ⟨by simp [hl], fun z hz => ?_, by rw [List.length_append, List.length_singleton, Nat.mul_succ]; exact h3⟩
    rcases List.mem_append.mp hz with hz | hz
    · exact ha z hz
    · rw [List.mem_singleton] at hz
      subst hz
      exact ⟨hy.s.mono (by decide), tame_down (tame_down (tame_down (tame_up (by decide) hy.t)))⟩
  · rintro acc s ⟨hl, ha, hT⟩
    rw [List.length_range] at hl hT
    simp! only [hl]
    refine ⟨by decide, ?_⟩
    simp! only [F_law_t216]
    have sL8 : ∀ x ∈ sl.legs.map Leg.d, Shp 8 x := fun x hx => (sL x hx).mono (by decide)
    have sN8 : ∀ x ∈ sl.sizes.map nD, Shp 8 x := Shp.map fun _ _ => Shp.int.mono (by decide)
    have pL : Pc (.tuple (sl.legs.map Leg.d)) := pT (by rw [List.length_map]; omega) sL8
    have pS : Pc (.tuple (sl.sizes.map nD)) := pT (by rw [List.length_map]; omega) sN8
    have pLr : Pc (.tuple (sl.legs.map Leg.d).reverse) := pT (by rw [List.length_reverse, List.length_map]; omega) fun x hx => sL8 x (List.mem_reverse.mp hx)
    have pLc : Pc (.tuple (sl.legs.map Leg.d ++ cutG (sl.legs.map Leg.d) none (some 1))) := pT (by rw [List.length_append, List.length_map]; omega) fun x hx => sL8 x ((List.mem_append.mp hx).elim id (cutG_sub x))
    have pS0 : Pc (.tuple (.int 0 :: sl.sizes.map nD)) := pT (by rw [List.length_cons, List.length_map]; omega) fun x hx => by
      rcases List.mem_cons.mp hx with rfl | hx
      · exact Shp.int.mono (by decide)
      · exact sN8 x hx
    have pS9 : Pc (.tuple (sl.sizes.map nD ++ [.int 9])) := pT (by rw [List.length_append, List.length_map, List.length_singleton]; omega) fun x hx => by
      rcases List.mem_append.mp hx with hx | hx
      · exact sN8 x hx
      · rw [List.mem_singleton] at hx
        subst hx
        exact Shp.int.mono (by decide)
    have s4 : ∀ z ∈ [PyData.tuple (sl.legs.map Leg.d), .tuple (sl.sizes.map nD), nD sl.stake, .bool sl.both], Pc z := fun z hz => by
      simp only [List.mem_cons, List.not_mem_nil, or_false] at hz
      rcases hz with rfl | rfl | rfl | rfl
      · exact pL
      · exact pS
      · exact pI _
      · exact pB _
    have pCut : Sg (.tuple (cutG [PyData.tuple (sl.legs.map Leg.d), .tuple (sl.sizes.map nD), nD sl.stake, .bool sl.both] none (some 3))) := ⟨Shp.tuple fun z hz => (s4 z (cutG_sub z hz)).s, tame_tuple.mpr ⟨Nat.le_trans (cutG_len _ _ _) (by simp), fun z hz => (s4 z (cutG_sub z hz)).t⟩⟩
    have pLst : Sg (.list [PyData.tuple (sl.legs.map Leg.d), .tuple (sl.sizes.map nD), nD sl.stake, .bool sl.both]) := ⟨Shp.list fun z hz => (s4 z hz).s, rfl⟩
    have pNo : Sg .none := ⟨Shp.none.mono (by decide), rfl⟩
    refine things_ok H ?_ ?_ ?_
    · intro z hz
      simp only [List.mem_cons, List.mem_append, List.not_mem_nil, or_false] at hz
      rcases hz with rfl | rfl | rfl | rfl | rfl | rfl | rfl | rfl | rfl | rfl | rfl | rfl | rfl | rfl | rfl | rfl | rfl | rfl | rfl | rfl | hz
      all_goals first
        | exact ha _ hz
        | exact pNo
        | exact pCut
        | exact pLst
        | (refine sg4 ?_ ?_ ?_ ?_ <;> first | exact pL | exact pS | exact pLr | exact pLc | exact pS0 | exact pS9 | exact pI _ | exact pB _ | exact p0 | exact p1 _ | exact p2 _ _ | exact p3 _ _)
    · simp only [List.length_cons, List.length_append, List.length_nil, hl]
      decide
    · simp! only [↓run_allT]
      exact ⟨⟨_, _, _, _, _, _, _, _, _, _, rfl⟩, hT.mono (by omega)⟩
theorem law_ok : ∃ st, fnSem 1 12 (F_law C) [.scr ns] [] = some (.ok (Bo true), st) := by
  have h : Run (fnSem 1 12 (F_law C) [.scr ns] []) (fun w s => w = Bo true) noE := by
    refine run_fn (by rfl) ?_
    simp! only [F_law, F_law_l1]
    refine run_for (emb := fun k => W.d (nD k)) (L := []) (List.range 10) (fun done ρ s => Shape ns ρ ∧ Town [] (c1 * done.length) s) ?_ (fun _ _ _ _ => rfl) ⟨⟨_, _, _, _, _, _, _, _, _, _, rfl⟩, [], rfl, by simp, .inl rfl⟩ ?_ ?_
    · simp! only [show inLong 10 = true from rfl]
      rfl
    · rintro done i more ρ s he ⟨⟨a2, a3, a4, a5, a6, a7, a8, a9, a10, a11, rfl⟩, hT⟩
      have hd := prefix_len he
      rw [List.length_range] at hd
      simp! only [List.map_nil]
      refine (body_ok H ⟨_, _, _, _, _, _, _, _, _, _, rfl⟩ hT (by unfold lim c1; omega)).toE ?_
      rintro o s' h
      cases o with
      | ret w => exact h.elim
      | nx ρ' =>
        rw [List.length_append, List.length_singleton, Nat.mul_succ]
        exact h
    · rintro ρ s ⟨⟨a2, a3, a4, a5, a6, a7, a8, a9, a10, a11, rfl⟩, hT⟩
      simp! only [List.map_nil]
  obtain ⟨w, s, e, rfl⟩ := run_ex.mp h
  exact ⟨s, e⟩
end
end K09
end Ev

namespace Tb
open PySem L2 Ev Ev.K09
def topS (i : Nat) : Stmt := PySem.Challenge.pw_slipstall_k09_whole_slips.main.body.getD i (.Pass ⟨0, 0, 0, 0⟩)
def D_is_whole : FnDef := ⟨Str.ofString "is_whole", [Str.ofString "thing"], [Str.ofString "thing"], [], topS 1, none⟩
def D_divisor : FnDef := ⟨Str.ofString "divisor", [Str.ofString "one", Str.ofString "other"], [Str.ofString "one", Str.ofString "other"], [], topS 2, none⟩
def D_is_price : FnDef := ⟨Str.ofString "is_price", [Str.ofString "thing"], [Str.ofString "thing", Str.ofString "one"], [], topS 3, none⟩
def D_is_leg : FnDef := ⟨Str.ofString "is_leg", [Str.ofString "card", Str.ofString "thing"], [Str.ofString "card", Str.ofString "thing"], [], topS 5, none⟩
def D_are_legs : FnDef := ⟨Str.ofString "are_legs", [Str.ofString "card", Str.ofString "things"], [Str.ofString "card", Str.ofString "things", Str.ofString "one", Str.ofString "k"], [], topS 6, none⟩
def D_are_sizes : FnDef := ⟨Str.ofString "are_sizes", [Str.ofString "things", Str.ofString "many"], [Str.ofString "things", Str.ofString "many", Str.ofString "last", Str.ofString "size"], [], topS 7, none⟩
def D_is_slip : FnDef := ⟨Str.ofString "is_slip", [Str.ofString "card", Str.ofString "thing"], [Str.ofString "card", Str.ofString "thing", Str.ofString "legs", Str.ofString "sizes", Str.ofString "stake", Str.ofString "both"], [], topS 8, none⟩
def D_law_same : FnDef := ⟨Str.ofString "_law_same", [Str.ofString "got", Str.ofString "due"], [Str.ofString "got", Str.ofString "due", Str.ofString "one", Str.ofString "other"], [], topS 10, none⟩
def D_law_draw : FnDef := ⟨Str.ofString "_law_draw", [Str.ofString "script", Str.ofString "town", Str.ofString "many"], [Str.ofString "script", Str.ofString "town", Str.ofString "many", Str.ofString "cell", Str.ofString "k", Str.ofString "digits", Str.ofString "number", Str.ofString "more"], [Str.ofString "town"], topS 11, none⟩
def D_law_pick : FnDef := ⟨Str.ofString "_law_pick", [Str.ofString "script", Str.ofString "town", Str.ofString "some"], [Str.ofString "script", Str.ofString "town", Str.ofString "some"], [], topS 12, none⟩
def D_law_low : FnDef := ⟨Str.ofString "_law_low", [Str.ofString "over", Str.ofString "under"], [Str.ofString "over", Str.ofString "under", Str.ofString "one", Str.ofString "other"], [], topS 13, none⟩
def D_law_bent : FnDef := ⟨Str.ofString "_law_bent", [Str.ofString "script", Str.ofString "town", Str.ofString "thing"], [Str.ofString "script", Str.ofString "town", Str.ofString "thing", Str.ofString "some", Str.ofString "at"], [], topS 14, none⟩
def D_law_drawn_price : FnDef := ⟨Str.ofString "_law_drawn_price", [Str.ofString "script", Str.ofString "town"], [Str.ofString "script", Str.ofString "town", Str.ofString "some", Str.ofString "many"], [], topS 15, none⟩
def D_law_drawn_event : FnDef := ⟨Str.ofString "_law_drawn_event", [Str.ofString "script", Str.ofString "town", Str.ofString "most"], [Str.ofString "script", Str.ofString "town", Str.ofString "most", Str.ofString "many", Str.ofString "prices", Str.ofString "k"], [], topS 16, none⟩
def D_law_drawn_card : FnDef := ⟨Str.ofString "_law_drawn_card", [Str.ofString "script", Str.ofString "town", Str.ofString "events", Str.ofString "runners"], [Str.ofString "script", Str.ofString "town", Str.ofString "events", Str.ofString "runners", Str.ofString "k"], [], topS 17, none⟩
def D_law_mixed : FnDef := ⟨Str.ofString "_law_mixed", [Str.ofString "script", Str.ofString "town", Str.ofString "things"], [Str.ofString "script", Str.ofString "town", Str.ofString "things", Str.ofString "rest", Str.ofString "found"], [Str.ofString "found", Str.ofString "rest"], topS 18, none⟩
def D_law_drawn_slip : FnDef := ⟨Str.ofString "_law_drawn_slip", [Str.ofString "script", Str.ofString "town", Str.ofString "card", Str.ofString "most"], [Str.ofString "script", Str.ofString "town", Str.ofString "card", Str.ofString "most", Str.ofString "many", Str.ofString "events", Str.ofString "legs", Str.ofString "event", Str.ofString "runner", Str.ofString "price", Str.ofString "sizes", Str.ofString "size", Str.ofString "stake"], [Str.ofString "legs"], topS 19, none⟩
def D_law_is_number : FnDef := ⟨Str.ofString "_law_is_number", [Str.ofString "thing", Str.ofString "least", Str.ofString "most"], [Str.ofString "thing", Str.ofString "least", Str.ofString "most"], [], topS 20, none⟩
def D_law_is_leg : FnDef := ⟨Str.ofString "_law_is_leg", [Str.ofString "card", Str.ofString "leg"], [Str.ofString "card", Str.ofString "leg", Str.ofString "one"], [], topS 21, none⟩
def D_law_is_slip : FnDef := ⟨Str.ofString "_law_is_slip", [Str.ofString "card", Str.ofString "thing"], [Str.ofString "card", Str.ofString "thing", Str.ofString "legs", Str.ofString "sizes", Str.ofString "stake", Str.ofString "both", Str.ofString "leg", Str.ofString "size", Str.ofString "events"], [], topS 22, none⟩
def D_law : FnDef := ⟨Str.ofString "law", [Str.ofString "script"], [Str.ofString "script", Str.ofString "town", Str.ofString "k", Str.ofString "card", Str.ofString "slip", Str.ofString "legs", Str.ofString "sizes", Str.ofString "stake", Str.ofString "both", Str.ofString "things", Str.ofString "j", Str.ofString "thing"], [Str.ofString "town"], topS 23, none⟩
def defs : List FnDef := [D_is_whole, D_divisor, D_is_price, D_is_leg, D_are_legs, D_are_sizes, D_is_slip, D_law_same, D_law_draw, D_law_pick, D_law_low, D_law_bent, D_law_drawn_price, D_law_drawn_event, D_law_drawn_card, D_law_mixed, D_law_drawn_slip, D_law_is_number, D_law_is_leg, D_law_is_slip, D_law]
def blts : List Str := [Str.ofString "len", Str.ofString "abs", Str.ofString "max", Str.ofString "min", Str.ofString "all", Str.ofString "tuple", Str.ofString "list", Str.ofString "int", Str.ofString "str", Str.ofString "bool", Str.ofString "isinstance", Str.ofString "range", Str.ofString "zip", Str.ofString "sorted", Str.ofString "set"]
def excs : List Str := []
theorem sc_D_is_whole : FnScope D_is_whole.N D_is_whole.ps (defScope D_is_whole.st) := ⟨rfl, rfl, rfl, by decide +kernel, rfl, by decide +kernel, by decide +kernel⟩
theorem sc_D_divisor : FnScope D_divisor.N D_divisor.ps (defScope D_divisor.st) := ⟨rfl, rfl, rfl, by decide +kernel, rfl, by decide +kernel, by decide +kernel⟩
theorem sc_D_is_price : FnScope D_is_price.N D_is_price.ps (defScope D_is_price.st) := ⟨rfl, rfl, rfl, by decide +kernel, rfl, by decide +kernel, by decide +kernel⟩
theorem sc_D_is_leg : FnScope D_is_leg.N D_is_leg.ps (defScope D_is_leg.st) := ⟨rfl, rfl, rfl, by decide +kernel, rfl, by decide +kernel, by decide +kernel⟩
theorem sc_D_are_legs : FnScope D_are_legs.N D_are_legs.ps (defScope D_are_legs.st) := ⟨rfl, rfl, rfl, by decide +kernel, rfl, by decide +kernel, by decide +kernel⟩
theorem sc_D_are_sizes : FnScope D_are_sizes.N D_are_sizes.ps (defScope D_are_sizes.st) := ⟨rfl, rfl, rfl, by decide +kernel, rfl, by decide +kernel, by decide +kernel⟩
theorem sc_D_is_slip : FnScope D_is_slip.N D_is_slip.ps (defScope D_is_slip.st) := ⟨rfl, rfl, rfl, by decide +kernel, rfl, by decide +kernel, by decide +kernel⟩
theorem sc_D_law_same : FnScope D_law_same.N D_law_same.ps (defScope D_law_same.st) := ⟨rfl, rfl, rfl, by decide +kernel, rfl, by decide +kernel, by decide +kernel⟩
theorem sc_D_law_draw : FnScope D_law_draw.N D_law_draw.ps (defScope D_law_draw.st) := ⟨rfl, rfl, rfl, by decide +kernel, rfl, by decide +kernel, by decide +kernel⟩
theorem sc_D_law_pick : FnScope D_law_pick.N D_law_pick.ps (defScope D_law_pick.st) := ⟨rfl, rfl, rfl, by decide +kernel, rfl, by decide +kernel, by decide +kernel⟩
theorem sc_D_law_low : FnScope D_law_low.N D_law_low.ps (defScope D_law_low.st) := ⟨rfl, rfl, rfl, by decide +kernel, rfl, by decide +kernel, by decide +kernel⟩
theorem sc_D_law_bent : FnScope D_law_bent.N D_law_bent.ps (defScope D_law_bent.st) := ⟨rfl, rfl, rfl, by decide +kernel, rfl, by decide +kernel, by decide +kernel⟩
theorem sc_D_law_drawn_price : FnScope D_law_drawn_price.N D_law_drawn_price.ps (defScope D_law_drawn_price.st) := ⟨rfl, rfl, rfl, by decide +kernel, rfl, by decide +kernel, by decide +kernel⟩
theorem sc_D_law_drawn_event : FnScope D_law_drawn_event.N D_law_drawn_event.ps (defScope D_law_drawn_event.st) := ⟨rfl, rfl, rfl, by decide +kernel, rfl, by decide +kernel, by decide +kernel⟩
theorem sc_D_law_drawn_card : FnScope D_law_drawn_card.N D_law_drawn_card.ps (defScope D_law_drawn_card.st) := ⟨rfl, rfl, rfl, by decide +kernel, rfl, by decide +kernel, by decide +kernel⟩
theorem sc_D_law_mixed : FnScope D_law_mixed.N D_law_mixed.ps (defScope D_law_mixed.st) := ⟨rfl, rfl, rfl, by decide +kernel, rfl, by decide +kernel, by decide +kernel⟩
theorem sc_D_law_drawn_slip : FnScope D_law_drawn_slip.N D_law_drawn_slip.ps (defScope D_law_drawn_slip.st) := ⟨rfl, rfl, rfl, by decide +kernel, rfl, by decide +kernel, by decide +kernel⟩
theorem sc_D_law_is_number : FnScope D_law_is_number.N D_law_is_number.ps (defScope D_law_is_number.st) := ⟨rfl, rfl, rfl, by decide +kernel, rfl, by decide +kernel, by decide +kernel⟩
theorem sc_D_law_is_leg : FnScope D_law_is_leg.N D_law_is_leg.ps (defScope D_law_is_leg.st) := ⟨rfl, rfl, rfl, by decide +kernel, rfl, by decide +kernel, by decide +kernel⟩
theorem sc_D_law_is_slip : FnScope D_law_is_slip.N D_law_is_slip.ps (defScope D_law_is_slip.st) := ⟨rfl, rfl, rfl, by decide +kernel, rfl, by decide +kernel, by decide +kernel⟩
theorem sc_D_law : FnScope D_law.N D_law.ps (defScope D_law.st) := ⟨rfl, rfl, rfl, by decide +kernel, rfl, by decide +kernel, by decide +kernel⟩
open PySem PySem.Spec PyProof.Rows L2 in
theorem facts {K : PySem.W.Frag} {h : Heap} {mg : Str → Option Value} (X : K.In h) (G : h.Ns mainGlobals mg)
    {f0 : Addr} {oc0 : Value} {od0 an0 : Option Addr} {sl0 : Array (Option Value)} {kV0 dc0 pm0 cd0 ct0 : Value}
    (a0 : PySem.W.nsIn K mainGlobals "is_whole" = some (some (.ref f0))) (l0 : K.lookup f0 = some ⟨oc0, od0, .func (PySem.W.fnOf "is_whole" "is_whole" (defArgs D_is_whole.st) (defBody D_is_whole.st) (defScope D_is_whole.st) .none kV0 dc0 pm0 an0 cd0 ct0), sl0⟩) (c0 : PySem.W.codeIn K cd0 "is_whole" = true) (k0 : PySem.W.keepIn K (.ref f0) = true)
    {f1 : Addr} {oc1 : Value} {od1 an1 : Option Addr} {sl1 : Array (Option Value)} {kV1 dc1 pm1 cd1 ct1 : Value}
    (a1 : PySem.W.nsIn K mainGlobals "divisor" = some (some (.ref f1))) (l1 : K.lookup f1 = some ⟨oc1, od1, .func (PySem.W.fnOf "divisor" "divisor" (defArgs D_divisor.st) (defBody D_divisor.st) (defScope D_divisor.st) .none kV1 dc1 pm1 an1 cd1 ct1), sl1⟩) (c1 : PySem.W.codeIn K cd1 "divisor" = true) (k1 : PySem.W.keepIn K (.ref f1) = true)
    {f2 : Addr} {oc2 : Value} {od2 an2 : Option Addr} {sl2 : Array (Option Value)} {kV2 dc2 pm2 cd2 ct2 : Value}
    (a2 : PySem.W.nsIn K mainGlobals "is_price" = some (some (.ref f2))) (l2 : K.lookup f2 = some ⟨oc2, od2, .func (PySem.W.fnOf "is_price" "is_price" (defArgs D_is_price.st) (defBody D_is_price.st) (defScope D_is_price.st) .none kV2 dc2 pm2 an2 cd2 ct2), sl2⟩) (c2 : PySem.W.codeIn K cd2 "is_price" = true) (k2 : PySem.W.keepIn K (.ref f2) = true)
    {f3 : Addr} {oc3 : Value} {od3 an3 : Option Addr} {sl3 : Array (Option Value)} {kV3 dc3 pm3 cd3 ct3 : Value}
    (a3 : PySem.W.nsIn K mainGlobals "is_leg" = some (some (.ref f3))) (l3 : K.lookup f3 = some ⟨oc3, od3, .func (PySem.W.fnOf "is_leg" "is_leg" (defArgs D_is_leg.st) (defBody D_is_leg.st) (defScope D_is_leg.st) .none kV3 dc3 pm3 an3 cd3 ct3), sl3⟩) (c3 : PySem.W.codeIn K cd3 "is_leg" = true) (k3 : PySem.W.keepIn K (.ref f3) = true)
    {f4 : Addr} {oc4 : Value} {od4 an4 : Option Addr} {sl4 : Array (Option Value)} {kV4 dc4 pm4 cd4 ct4 : Value}
    (a4 : PySem.W.nsIn K mainGlobals "are_legs" = some (some (.ref f4))) (l4 : K.lookup f4 = some ⟨oc4, od4, .func (PySem.W.fnOf "are_legs" "are_legs" (defArgs D_are_legs.st) (defBody D_are_legs.st) (defScope D_are_legs.st) .none kV4 dc4 pm4 an4 cd4 ct4), sl4⟩) (c4 : PySem.W.codeIn K cd4 "are_legs" = true) (k4 : PySem.W.keepIn K (.ref f4) = true)
    {f5 : Addr} {oc5 : Value} {od5 an5 : Option Addr} {sl5 : Array (Option Value)} {kV5 dc5 pm5 cd5 ct5 : Value}
    (a5 : PySem.W.nsIn K mainGlobals "are_sizes" = some (some (.ref f5))) (l5 : K.lookup f5 = some ⟨oc5, od5, .func (PySem.W.fnOf "are_sizes" "are_sizes" (defArgs D_are_sizes.st) (defBody D_are_sizes.st) (defScope D_are_sizes.st) .none kV5 dc5 pm5 an5 cd5 ct5), sl5⟩) (c5 : PySem.W.codeIn K cd5 "are_sizes" = true) (k5 : PySem.W.keepIn K (.ref f5) = true)
    {f6 : Addr} {oc6 : Value} {od6 an6 : Option Addr} {sl6 : Array (Option Value)} {kV6 dc6 pm6 cd6 ct6 : Value}
    (a6 : PySem.W.nsIn K mainGlobals "is_slip" = some (some (.ref f6))) (l6 : K.lookup f6 = some ⟨oc6, od6, .func (PySem.W.fnOf "is_slip" "is_slip" (defArgs D_is_slip.st) (defBody D_is_slip.st) (defScope D_is_slip.st) .none kV6 dc6 pm6 an6 cd6 ct6), sl6⟩) (c6 : PySem.W.codeIn K cd6 "is_slip" = true) (k6 : PySem.W.keepIn K (.ref f6) = true)
    {f7 : Addr} {oc7 : Value} {od7 an7 : Option Addr} {sl7 : Array (Option Value)} {kV7 dc7 pm7 cd7 ct7 : Value}
    (a7 : PySem.W.nsIn K mainGlobals "_law_same" = some (some (.ref f7))) (l7 : K.lookup f7 = some ⟨oc7, od7, .func (PySem.W.fnOf "_law_same" "_law_same" (defArgs D_law_same.st) (defBody D_law_same.st) (defScope D_law_same.st) .none kV7 dc7 pm7 an7 cd7 ct7), sl7⟩) (c7 : PySem.W.codeIn K cd7 "_law_same" = true) (k7 : PySem.W.keepIn K (.ref f7) = true)
    {f8 : Addr} {oc8 : Value} {od8 an8 : Option Addr} {sl8 : Array (Option Value)} {kV8 dc8 pm8 cd8 ct8 : Value}
    (a8 : PySem.W.nsIn K mainGlobals "_law_draw" = some (some (.ref f8))) (l8 : K.lookup f8 = some ⟨oc8, od8, .func (PySem.W.fnOf "_law_draw" "_law_draw" (defArgs D_law_draw.st) (defBody D_law_draw.st) (defScope D_law_draw.st) .none kV8 dc8 pm8 an8 cd8 ct8), sl8⟩) (c8 : PySem.W.codeIn K cd8 "_law_draw" = true) (k8 : PySem.W.keepIn K (.ref f8) = true)
    {f9 : Addr} {oc9 : Value} {od9 an9 : Option Addr} {sl9 : Array (Option Value)} {kV9 dc9 pm9 cd9 ct9 : Value}
    (a9 : PySem.W.nsIn K mainGlobals "_law_pick" = some (some (.ref f9))) (l9 : K.lookup f9 = some ⟨oc9, od9, .func (PySem.W.fnOf "_law_pick" "_law_pick" (defArgs D_law_pick.st) (defBody D_law_pick.st) (defScope D_law_pick.st) .none kV9 dc9 pm9 an9 cd9 ct9), sl9⟩) (c9 : PySem.W.codeIn K cd9 "_law_pick" = true) (k9 : PySem.W.keepIn K (.ref f9) = true)
    {f10 : Addr} {oc10 : Value} {od10 an10 : Option Addr} {sl10 : Array (Option Value)} {kV10 dc10 pm10 cd10 ct10 : Value}
    (a10 : PySem.W.nsIn K mainGlobals "_law_low" = some (some (.ref f10))) (l10 : K.lookup f10 = some ⟨oc10, od10, .func (PySem.W.fnOf "_law_low" "_law_low" (defArgs D_law_low.st) (defBody D_law_low.st) (defScope D_law_low.st) .none kV10 dc10 pm10 an10 cd10 ct10), sl10⟩) (c10 : PySem.W.codeIn K cd10 "_law_low" = true) (k10 : PySem.W.keepIn K (.ref f10) = true)
    {f11 : Addr} {oc11 : Value} {od11 an11 : Option Addr} {sl11 : Array (Option Value)} {kV11 dc11 pm11 cd11 ct11 : Value}
    (a11 : PySem.W.nsIn K mainGlobals "_law_bent" = some (some (.ref f11))) (l11 : K.lookup f11 = some ⟨oc11, od11, .func (PySem.W.fnOf "_law_bent" "_law_bent" (defArgs D_law_bent.st) (defBody D_law_bent.st) (defScope D_law_bent.st) .none kV11 dc11 pm11 an11 cd11 ct11), sl11⟩) (c11 : PySem.W.codeIn K cd11 "_law_bent" = true) (k11 : PySem.W.keepIn K (.ref f11) = true)
    {f12 : Addr} {oc12 : Value} {od12 an12 : Option Addr} {sl12 : Array (Option Value)} {kV12 dc12 pm12 cd12 ct12 : Value}
    (a12 : PySem.W.nsIn K mainGlobals "_law_drawn_price" = some (some (.ref f12))) (l12 : K.lookup f12 = some ⟨oc12, od12, .func (PySem.W.fnOf "_law_drawn_price" "_law_drawn_price" (defArgs D_law_drawn_price.st) (defBody D_law_drawn_price.st) (defScope D_law_drawn_price.st) .none kV12 dc12 pm12 an12 cd12 ct12), sl12⟩) (c12 : PySem.W.codeIn K cd12 "_law_drawn_price" = true) (k12 : PySem.W.keepIn K (.ref f12) = true)
    {f13 : Addr} {oc13 : Value} {od13 an13 : Option Addr} {sl13 : Array (Option Value)} {kV13 dc13 pm13 cd13 ct13 : Value}
    (a13 : PySem.W.nsIn K mainGlobals "_law_drawn_event" = some (some (.ref f13))) (l13 : K.lookup f13 = some ⟨oc13, od13, .func (PySem.W.fnOf "_law_drawn_event" "_law_drawn_event" (defArgs D_law_drawn_event.st) (defBody D_law_drawn_event.st) (defScope D_law_drawn_event.st) .none kV13 dc13 pm13 an13 cd13 ct13), sl13⟩) (c13 : PySem.W.codeIn K cd13 "_law_drawn_event" = true) (k13 : PySem.W.keepIn K (.ref f13) = true)
    {f14 : Addr} {oc14 : Value} {od14 an14 : Option Addr} {sl14 : Array (Option Value)} {kV14 dc14 pm14 cd14 ct14 : Value}
    (a14 : PySem.W.nsIn K mainGlobals "_law_drawn_card" = some (some (.ref f14))) (l14 : K.lookup f14 = some ⟨oc14, od14, .func (PySem.W.fnOf "_law_drawn_card" "_law_drawn_card" (defArgs D_law_drawn_card.st) (defBody D_law_drawn_card.st) (defScope D_law_drawn_card.st) .none kV14 dc14 pm14 an14 cd14 ct14), sl14⟩) (c14 : PySem.W.codeIn K cd14 "_law_drawn_card" = true) (k14 : PySem.W.keepIn K (.ref f14) = true)
    {f15 : Addr} {oc15 : Value} {od15 an15 : Option Addr} {sl15 : Array (Option Value)} {kV15 dc15 pm15 cd15 ct15 : Value}
    (a15 : PySem.W.nsIn K mainGlobals "_law_mixed" = some (some (.ref f15))) (l15 : K.lookup f15 = some ⟨oc15, od15, .func (PySem.W.fnOf "_law_mixed" "_law_mixed" (defArgs D_law_mixed.st) (defBody D_law_mixed.st) (defScope D_law_mixed.st) .none kV15 dc15 pm15 an15 cd15 ct15), sl15⟩) (c15 : PySem.W.codeIn K cd15 "_law_mixed" = true) (k15 : PySem.W.keepIn K (.ref f15) = true)
    {f16 : Addr} {oc16 : Value} {od16 an16 : Option Addr} {sl16 : Array (Option Value)} {kV16 dc16 pm16 cd16 ct16 : Value}
    (a16 : PySem.W.nsIn K mainGlobals "_law_drawn_slip" = some (some (.ref f16))) (l16 : K.lookup f16 = some ⟨oc16, od16, .func (PySem.W.fnOf "_law_drawn_slip" "_law_drawn_slip" (defArgs D_law_drawn_slip.st) (defBody D_law_drawn_slip.st) (defScope D_law_drawn_slip.st) .none kV16 dc16 pm16 an16 cd16 ct16), sl16⟩) (c16 : PySem.W.codeIn K cd16 "_law_drawn_slip" = true) (k16 : PySem.W.keepIn K (.ref f16) = true)
    {f17 : Addr} {oc17 : Value} {od17 an17 : Option Addr} {sl17 : Array (Option Value)} {kV17 dc17 pm17 cd17 ct17 : Value}
    (a17 : PySem.W.nsIn K mainGlobals "_law_is_number" = some (some (.ref f17))) (l17 : K.lookup f17 = some ⟨oc17, od17, .func (PySem.W.fnOf "_law_is_number" "_law_is_number" (defArgs D_law_is_number.st) (defBody D_law_is_number.st) (defScope D_law_is_number.st) .none kV17 dc17 pm17 an17 cd17 ct17), sl17⟩) (c17 : PySem.W.codeIn K cd17 "_law_is_number" = true) (k17 : PySem.W.keepIn K (.ref f17) = true)
    {f18 : Addr} {oc18 : Value} {od18 an18 : Option Addr} {sl18 : Array (Option Value)} {kV18 dc18 pm18 cd18 ct18 : Value}
    (a18 : PySem.W.nsIn K mainGlobals "_law_is_leg" = some (some (.ref f18))) (l18 : K.lookup f18 = some ⟨oc18, od18, .func (PySem.W.fnOf "_law_is_leg" "_law_is_leg" (defArgs D_law_is_leg.st) (defBody D_law_is_leg.st) (defScope D_law_is_leg.st) .none kV18 dc18 pm18 an18 cd18 ct18), sl18⟩) (c18 : PySem.W.codeIn K cd18 "_law_is_leg" = true) (k18 : PySem.W.keepIn K (.ref f18) = true)
    {f19 : Addr} {oc19 : Value} {od19 an19 : Option Addr} {sl19 : Array (Option Value)} {kV19 dc19 pm19 cd19 ct19 : Value}
    (a19 : PySem.W.nsIn K mainGlobals "_law_is_slip" = some (some (.ref f19))) (l19 : K.lookup f19 = some ⟨oc19, od19, .func (PySem.W.fnOf "_law_is_slip" "_law_is_slip" (defArgs D_law_is_slip.st) (defBody D_law_is_slip.st) (defScope D_law_is_slip.st) .none kV19 dc19 pm19 an19 cd19 ct19), sl19⟩) (c19 : PySem.W.codeIn K cd19 "_law_is_slip" = true) (k19 : PySem.W.keepIn K (.ref f19) = true)
    {f20 : Addr} {oc20 : Value} {od20 an20 : Option Addr} {sl20 : Array (Option Value)} {kV20 dc20 pm20 cd20 ct20 : Value}
    (a20 : PySem.W.nsIn K mainGlobals "law" = some (some (.ref f20))) (l20 : K.lookup f20 = some ⟨oc20, od20, .func (PySem.W.fnOf "law" "law" (defArgs D_law.st) (defBody D_law.st) (defScope D_law.st) .none kV20 dc20 pm20 an20 cd20 ct20), sl20⟩) (c20 : PySem.W.codeIn K cd20 "law" = true) (k20 : PySem.W.keepIn K (.ref f20) = true)
    (z0 : PySem.W.nsIn K mainGlobals "len" = some none)
    (z1 : PySem.W.nsIn K mainGlobals "abs" = some none)
    (z2 : PySem.W.nsIn K mainGlobals "max" = some none)
    (z3 : PySem.W.nsIn K mainGlobals "min" = some none)
    (z4 : PySem.W.nsIn K mainGlobals "all" = some none)
    (z5 : PySem.W.nsIn K mainGlobals "tuple" = some none)
    (z6 : PySem.W.nsIn K mainGlobals "list" = some none)
    (z7 : PySem.W.nsIn K mainGlobals "int" = some none)
    (z8 : PySem.W.nsIn K mainGlobals "str" = some none)
    (z9 : PySem.W.nsIn K mainGlobals "bool" = some none)
    (z10 : PySem.W.nsIn K mainGlobals "isinstance" = some none)
    (z11 : PySem.W.nsIn K mainGlobals "range" = some none)
    (z12 : PySem.W.nsIn K mainGlobals "zip" = some none)
    (z13 : PySem.W.nsIn K mainGlobals "sorted" = some none)
    (z14 : PySem.W.nsIn K mainGlobals "set" = some none)
    : (∀ e ∈ defs, DefAt K mg e) ∧ (∀ x ∈ blts, mg x = none) ∧ ExcsOk K mg (bltIn excs) := by
  refine ⟨fun e he => ?_, fun x hx => ?_, ?_⟩
  · simp only [defs, List.mem_cons, List.not_mem_nil, or_false] at he
    rcases he with rfl | rfl | rfl | rfl | rfl | rfl | rfl | rfl | rfl | rfl | rfl | rfl | rfl | rfl | rfl | rfl | rfl | rfl | rfl | rfl | rfl
    · exact DefAt.of (d := D_is_whole) X G a0 l0 c0 k0 sc_D_is_whole (fun _ _ _ _ _ _ us hl => match us, hl with | [_], _ => rfl) rfl
    · exact DefAt.of (d := D_divisor) X G a1 l1 c1 k1 sc_D_divisor (fun _ _ _ _ _ _ us hl => match us, hl with | [_, _], _ => rfl) rfl
    · exact DefAt.of (d := D_is_price) X G a2 l2 c2 k2 sc_D_is_price (fun _ _ _ _ _ _ us hl => match us, hl with | [_], _ => rfl) rfl
    · exact DefAt.of (d := D_is_leg) X G a3 l3 c3 k3 sc_D_is_leg (fun _ _ _ _ _ _ us hl => match us, hl with | [_, _], _ => rfl) rfl
    · exact DefAt.of (d := D_are_legs) X G a4 l4 c4 k4 sc_D_are_legs (fun _ _ _ _ _ _ us hl => match us, hl with | [_, _], _ => rfl) rfl
    · exact DefAt.of (d := D_are_sizes) X G a5 l5 c5 k5 sc_D_are_sizes (fun _ _ _ _ _ _ us hl => match us, hl with | [_, _], _ => rfl) rfl
    · exact DefAt.of (d := D_is_slip) X G a6 l6 c6 k6 sc_D_is_slip (fun _ _ _ _ _ _ us hl => match us, hl with | [_, _], _ => rfl) rfl
    · exact DefAt.of (d := D_law_same) X G a7 l7 c7 k7 sc_D_law_same (fun _ _ _ _ _ _ us hl => match us, hl with | [_, _], _ => rfl) rfl
    · exact DefAt.of (d := D_law_draw) X G a8 l8 c8 k8 sc_D_law_draw (fun _ _ _ _ _ _ us hl => match us, hl with | [_, _, _], _ => rfl) rfl
    · exact DefAt.of (d := D_law_pick) X G a9 l9 c9 k9 sc_D_law_pick (fun _ _ _ _ _ _ us hl => match us, hl with | [_, _, _], _ => rfl) rfl
    · exact DefAt.of (d := D_law_low) X G a10 l10 c10 k10 sc_D_law_low (fun _ _ _ _ _ _ us hl => match us, hl with | [_, _], _ => rfl) rfl
    · exact DefAt.of (d := D_law_bent) X G a11 l11 c11 k11 sc_D_law_bent (fun _ _ _ _ _ _ us hl => match us, hl with | [_, _, _], _ => rfl) rfl
    · exact DefAt.of (d := D_law_drawn_price) X G a12 l12 c12 k12 sc_D_law_drawn_price (fun _ _ _ _ _ _ us hl => match us, hl with | [_, _], _ => rfl) rfl
    · exact DefAt.of (d := D_law_drawn_event) X G a13 l13 c13 k13 sc_D_law_drawn_event (fun _ _ _ _ _ _ us hl => match us, hl with | [_, _, _], _ => rfl) rfl
    · exact DefAt.of (d := D_law_drawn_card) X G a14 l14 c14 k14 sc_D_law_drawn_card (fun _ _ _ _ _ _ us hl => match us, hl with | [_, _, _, _], _ => rfl) rfl
    · exact DefAt.of (d := D_law_mixed) X G a15 l15 c15 k15 sc_D_law_mixed (fun _ _ _ _ _ _ us hl => match us, hl with | [_, _, _], _ => rfl) rfl
    · exact DefAt.of (d := D_law_drawn_slip) X G a16 l16 c16 k16 sc_D_law_drawn_slip (fun _ _ _ _ _ _ us hl => match us, hl with | [_, _, _, _], _ => rfl) rfl
    · exact DefAt.of (d := D_law_is_number) X G a17 l17 c17 k17 sc_D_law_is_number (fun _ _ _ _ _ _ us hl => match us, hl with | [_, _, _], _ => rfl) rfl
    · exact DefAt.of (d := D_law_is_leg) X G a18 l18 c18 k18 sc_D_law_is_leg (fun _ _ _ _ _ _ us hl => match us, hl with | [_, _], _ => rfl) rfl
    · exact DefAt.of (d := D_law_is_slip) X G a19 l19 c19 k19 sc_D_law_is_slip (fun _ _ _ _ _ _ us hl => match us, hl with | [_, _], _ => rfl) rfl
    · exact DefAt.of (d := D_law) X G a20 l20 c20 k20 sc_D_law (fun _ _ _ _ _ _ us hl => match us, hl with | [_], _ => rfl) rfl
  · simp only [blts, List.mem_cons, List.not_mem_nil, or_false] at hx
    rcases hx with rfl | rfl | rfl | rfl | rfl | rfl | rfl | rfl | rfl | rfl | rfl | rfl | rfl | rfl | rfl
    · exact PySem.W.mg_none_of X G z0
    · exact PySem.W.mg_none_of X G z1
    · exact PySem.W.mg_none_of X G z2
    · exact PySem.W.mg_none_of X G z3
    · exact PySem.W.mg_none_of X G z4
    · exact PySem.W.mg_none_of X G z5
    · exact PySem.W.mg_none_of X G z6
    · exact PySem.W.mg_none_of X G z7
    · exact PySem.W.mg_none_of X G z8
    · exact PySem.W.mg_none_of X G z9
    · exact PySem.W.mg_none_of X G z10
    · exact PySem.W.mg_none_of X G z11
    · exact PySem.W.mg_none_of X G z12
    · exact PySem.W.mg_none_of X G z13
    · exact PySem.W.mg_none_of X G z14
  · exact ⟨fun x h => (by cases h), fun x y cx cy h => (by cases h)⟩
def lev : Nat := 40
def lawF : List Ev.W → Ev.M Ev.W := callK (tableOf defs) (bltIn blts) (bltIn excs) lev (Str.ofString "law")
open PySem PySem.Spec PyProof.Rows L2 in
theorem start {l : PySem.W.OpenLaw} {w : World} {fa : Addr} {K : PySem.W.Frag} {h : Heap} {mg : Str → Option Value} (X : K.In h) (G : h.Ns mainGlobals mg) (hmg : mg (Str.ofString "law") = some (.ref fa))
    {f0 : Addr} {oc0 : Value} {od0 an0 : Option Addr} {sl0 : Array (Option Value)} {kV0 dc0 pm0 cd0 ct0 : Value}
    (a0 : PySem.W.nsIn K mainGlobals "is_whole" = some (some (.ref f0))) (l0 : K.lookup f0 = some ⟨oc0, od0, .func (PySem.W.fnOf "is_whole" "is_whole" (defArgs D_is_whole.st) (defBody D_is_whole.st) (defScope D_is_whole.st) .none kV0 dc0 pm0 an0 cd0 ct0), sl0⟩) (c0 : PySem.W.codeIn K cd0 "is_whole" = true) (k0 : PySem.W.keepIn K (.ref f0) = true)
    {f1 : Addr} {oc1 : Value} {od1 an1 : Option Addr} {sl1 : Array (Option Value)} {kV1 dc1 pm1 cd1 ct1 : Value}
    (a1 : PySem.W.nsIn K mainGlobals "divisor" = some (some (.ref f1))) (l1 : K.lookup f1 = some ⟨oc1, od1, .func (PySem.W.fnOf "divisor" "divisor" (defArgs D_divisor.st) (defBody D_divisor.st) (defScope D_divisor.st) .none kV1 dc1 pm1 an1 cd1 ct1), sl1⟩) (c1 : PySem.W.codeIn K cd1 "divisor" = true) (k1 : PySem.W.keepIn K (.ref f1) = true)
    {f2 : Addr} {oc2 : Value} {od2 an2 : Option Addr} {sl2 : Array (Option Value)} {kV2 dc2 pm2 cd2 ct2 : Value}
    (a2 : PySem.W.nsIn K mainGlobals "is_price" = some (some (.ref f2))) (l2 : K.lookup f2 = some ⟨oc2, od2, .func (PySem.W.fnOf "is_price" "is_price" (defArgs D_is_price.st) (defBody D_is_price.st) (defScope D_is_price.st) .none kV2 dc2 pm2 an2 cd2 ct2), sl2⟩) (c2 : PySem.W.codeIn K cd2 "is_price" = true) (k2 : PySem.W.keepIn K (.ref f2) = true)
    {f3 : Addr} {oc3 : Value} {od3 an3 : Option Addr} {sl3 : Array (Option Value)} {kV3 dc3 pm3 cd3 ct3 : Value}
    (a3 : PySem.W.nsIn K mainGlobals "is_leg" = some (some (.ref f3))) (l3 : K.lookup f3 = some ⟨oc3, od3, .func (PySem.W.fnOf "is_leg" "is_leg" (defArgs D_is_leg.st) (defBody D_is_leg.st) (defScope D_is_leg.st) .none kV3 dc3 pm3 an3 cd3 ct3), sl3⟩) (c3 : PySem.W.codeIn K cd3 "is_leg" = true) (k3 : PySem.W.keepIn K (.ref f3) = true)
    {f4 : Addr} {oc4 : Value} {od4 an4 : Option Addr} {sl4 : Array (Option Value)} {kV4 dc4 pm4 cd4 ct4 : Value}
    (a4 : PySem.W.nsIn K mainGlobals "are_legs" = some (some (.ref f4))) (l4 : K.lookup f4 = some ⟨oc4, od4, .func (PySem.W.fnOf "are_legs" "are_legs" (defArgs D_are_legs.st) (defBody D_are_legs.st) (defScope D_are_legs.st) .none kV4 dc4 pm4 an4 cd4 ct4), sl4⟩) (c4 : PySem.W.codeIn K cd4 "are_legs" = true) (k4 : PySem.W.keepIn K (.ref f4) = true)
    {f5 : Addr} {oc5 : Value} {od5 an5 : Option Addr} {sl5 : Array (Option Value)} {kV5 dc5 pm5 cd5 ct5 : Value}
    (a5 : PySem.W.nsIn K mainGlobals "are_sizes" = some (some (.ref f5))) (l5 : K.lookup f5 = some ⟨oc5, od5, .func (PySem.W.fnOf "are_sizes" "are_sizes" (defArgs D_are_sizes.st) (defBody D_are_sizes.st) (defScope D_are_sizes.st) .none kV5 dc5 pm5 an5 cd5 ct5), sl5⟩) (c5 : PySem.W.codeIn K cd5 "are_sizes" = true) (k5 : PySem.W.keepIn K (.ref f5) = true)
    {f6 : Addr} {oc6 : Value} {od6 an6 : Option Addr} {sl6 : Array (Option Value)} {kV6 dc6 pm6 cd6 ct6 : Value}
    (a6 : PySem.W.nsIn K mainGlobals "is_slip" = some (some (.ref f6))) (l6 : K.lookup f6 = some ⟨oc6, od6, .func (PySem.W.fnOf "is_slip" "is_slip" (defArgs D_is_slip.st) (defBody D_is_slip.st) (defScope D_is_slip.st) .none kV6 dc6 pm6 an6 cd6 ct6), sl6⟩) (c6 : PySem.W.codeIn K cd6 "is_slip" = true) (k6 : PySem.W.keepIn K (.ref f6) = true)
    {f7 : Addr} {oc7 : Value} {od7 an7 : Option Addr} {sl7 : Array (Option Value)} {kV7 dc7 pm7 cd7 ct7 : Value}
    (a7 : PySem.W.nsIn K mainGlobals "_law_same" = some (some (.ref f7))) (l7 : K.lookup f7 = some ⟨oc7, od7, .func (PySem.W.fnOf "_law_same" "_law_same" (defArgs D_law_same.st) (defBody D_law_same.st) (defScope D_law_same.st) .none kV7 dc7 pm7 an7 cd7 ct7), sl7⟩) (c7 : PySem.W.codeIn K cd7 "_law_same" = true) (k7 : PySem.W.keepIn K (.ref f7) = true)
    {f8 : Addr} {oc8 : Value} {od8 an8 : Option Addr} {sl8 : Array (Option Value)} {kV8 dc8 pm8 cd8 ct8 : Value}
    (a8 : PySem.W.nsIn K mainGlobals "_law_draw" = some (some (.ref f8))) (l8 : K.lookup f8 = some ⟨oc8, od8, .func (PySem.W.fnOf "_law_draw" "_law_draw" (defArgs D_law_draw.st) (defBody D_law_draw.st) (defScope D_law_draw.st) .none kV8 dc8 pm8 an8 cd8 ct8), sl8⟩) (c8 : PySem.W.codeIn K cd8 "_law_draw" = true) (k8 : PySem.W.keepIn K (.ref f8) = true)
    {f9 : Addr} {oc9 : Value} {od9 an9 : Option Addr} {sl9 : Array (Option Value)} {kV9 dc9 pm9 cd9 ct9 : Value}
    (a9 : PySem.W.nsIn K mainGlobals "_law_pick" = some (some (.ref f9))) (l9 : K.lookup f9 = some ⟨oc9, od9, .func (PySem.W.fnOf "_law_pick" "_law_pick" (defArgs D_law_pick.st) (defBody D_law_pick.st) (defScope D_law_pick.st) .none kV9 dc9 pm9 an9 cd9 ct9), sl9⟩) (c9 : PySem.W.codeIn K cd9 "_law_pick" = true) (k9 : PySem.W.keepIn K (.ref f9) = true)
    {f10 : Addr} {oc10 : Value} {od10 an10 : Option Addr} {sl10 : Array (Option Value)} {kV10 dc10 pm10 cd10 ct10 : Value}
    (a10 : PySem.W.nsIn K mainGlobals "_law_low" = some (some (.ref f10))) (l10 : K.lookup f10 = some ⟨oc10, od10, .func (PySem.W.fnOf "_law_low" "_law_low" (defArgs D_law_low.st) (defBody D_law_low.st) (defScope D_law_low.st) .none kV10 dc10 pm10 an10 cd10 ct10), sl10⟩) (c10 : PySem.W.codeIn K cd10 "_law_low" = true) (k10 : PySem.W.keepIn K (.ref f10) = true)
    {f11 : Addr} {oc11 : Value} {od11 an11 : Option Addr} {sl11 : Array (Option Value)} {kV11 dc11 pm11 cd11 ct11 : Value}
    (a11 : PySem.W.nsIn K mainGlobals "_law_bent" = some (some (.ref f11))) (l11 : K.lookup f11 = some ⟨oc11, od11, .func (PySem.W.fnOf "_law_bent" "_law_bent" (defArgs D_law_bent.st) (defBody D_law_bent.st) (defScope D_law_bent.st) .none kV11 dc11 pm11 an11 cd11 ct11), sl11⟩) (c11 : PySem.W.codeIn K cd11 "_law_bent" = true) (k11 : PySem.W.keepIn K (.ref f11) = true)
    {f12 : Addr} {oc12 : Value} {od12 an12 : Option Addr} {sl12 : Array (Option Value)} {kV12 dc12 pm12 cd12 ct12 : Value}
    (a12 : PySem.W.nsIn K mainGlobals "_law_drawn_price" = some (some (.ref f12))) (l12 : K.lookup f12 = some ⟨oc12, od12, .func (PySem.W.fnOf "_law_drawn_price" "_law_drawn_price" (defArgs D_law_drawn_price.st) (defBody D_law_drawn_price.st) (defScope D_law_drawn_price.st) .none kV12 dc12 pm12 an12 cd12 ct12), sl12⟩) (c12 : PySem.W.codeIn K cd12 "_law_drawn_price" = true) (k12 : PySem.W.keepIn K (.ref f12) = true)
    {f13 : Addr} {oc13 : Value} {od13 an13 : Option Addr} {sl13 : Array (Option Value)} {kV13 dc13 pm13 cd13 ct13 : Value}
    (a13 : PySem.W.nsIn K mainGlobals "_law_drawn_event" = some (some (.ref f13))) (l13 : K.lookup f13 = some ⟨oc13, od13, .func (PySem.W.fnOf "_law_drawn_event" "_law_drawn_event" (defArgs D_law_drawn_event.st) (defBody D_law_drawn_event.st) (defScope D_law_drawn_event.st) .none kV13 dc13 pm13 an13 cd13 ct13), sl13⟩) (c13 : PySem.W.codeIn K cd13 "_law_drawn_event" = true) (k13 : PySem.W.keepIn K (.ref f13) = true)
    {f14 : Addr} {oc14 : Value} {od14 an14 : Option Addr} {sl14 : Array (Option Value)} {kV14 dc14 pm14 cd14 ct14 : Value}
    (a14 : PySem.W.nsIn K mainGlobals "_law_drawn_card" = some (some (.ref f14))) (l14 : K.lookup f14 = some ⟨oc14, od14, .func (PySem.W.fnOf "_law_drawn_card" "_law_drawn_card" (defArgs D_law_drawn_card.st) (defBody D_law_drawn_card.st) (defScope D_law_drawn_card.st) .none kV14 dc14 pm14 an14 cd14 ct14), sl14⟩) (c14 : PySem.W.codeIn K cd14 "_law_drawn_card" = true) (k14 : PySem.W.keepIn K (.ref f14) = true)
    {f15 : Addr} {oc15 : Value} {od15 an15 : Option Addr} {sl15 : Array (Option Value)} {kV15 dc15 pm15 cd15 ct15 : Value}
    (a15 : PySem.W.nsIn K mainGlobals "_law_mixed" = some (some (.ref f15))) (l15 : K.lookup f15 = some ⟨oc15, od15, .func (PySem.W.fnOf "_law_mixed" "_law_mixed" (defArgs D_law_mixed.st) (defBody D_law_mixed.st) (defScope D_law_mixed.st) .none kV15 dc15 pm15 an15 cd15 ct15), sl15⟩) (c15 : PySem.W.codeIn K cd15 "_law_mixed" = true) (k15 : PySem.W.keepIn K (.ref f15) = true)
    {f16 : Addr} {oc16 : Value} {od16 an16 : Option Addr} {sl16 : Array (Option Value)} {kV16 dc16 pm16 cd16 ct16 : Value}
    (a16 : PySem.W.nsIn K mainGlobals "_law_drawn_slip" = some (some (.ref f16))) (l16 : K.lookup f16 = some ⟨oc16, od16, .func (PySem.W.fnOf "_law_drawn_slip" "_law_drawn_slip" (defArgs D_law_drawn_slip.st) (defBody D_law_drawn_slip.st) (defScope D_law_drawn_slip.st) .none kV16 dc16 pm16 an16 cd16 ct16), sl16⟩) (c16 : PySem.W.codeIn K cd16 "_law_drawn_slip" = true) (k16 : PySem.W.keepIn K (.ref f16) = true)
    {f17 : Addr} {oc17 : Value} {od17 an17 : Option Addr} {sl17 : Array (Option Value)} {kV17 dc17 pm17 cd17 ct17 : Value}
    (a17 : PySem.W.nsIn K mainGlobals "_law_is_number" = some (some (.ref f17))) (l17 : K.lookup f17 = some ⟨oc17, od17, .func (PySem.W.fnOf "_law_is_number" "_law_is_number" (defArgs D_law_is_number.st) (defBody D_law_is_number.st) (defScope D_law_is_number.st) .none kV17 dc17 pm17 an17 cd17 ct17), sl17⟩) (c17 : PySem.W.codeIn K cd17 "_law_is_number" = true) (k17 : PySem.W.keepIn K (.ref f17) = true)
    {f18 : Addr} {oc18 : Value} {od18 an18 : Option Addr} {sl18 : Array (Option Value)} {kV18 dc18 pm18 cd18 ct18 : Value}
    (a18 : PySem.W.nsIn K mainGlobals "_law_is_leg" = some (some (.ref f18))) (l18 : K.lookup f18 = some ⟨oc18, od18, .func (PySem.W.fnOf "_law_is_leg" "_law_is_leg" (defArgs D_law_is_leg.st) (defBody D_law_is_leg.st) (defScope D_law_is_leg.st) .none kV18 dc18 pm18 an18 cd18 ct18), sl18⟩) (c18 : PySem.W.codeIn K cd18 "_law_is_leg" = true) (k18 : PySem.W.keepIn K (.ref f18) = true)
    {f19 : Addr} {oc19 : Value} {od19 an19 : Option Addr} {sl19 : Array (Option Value)} {kV19 dc19 pm19 cd19 ct19 : Value}
    (a19 : PySem.W.nsIn K mainGlobals "_law_is_slip" = some (some (.ref f19))) (l19 : K.lookup f19 = some ⟨oc19, od19, .func (PySem.W.fnOf "_law_is_slip" "_law_is_slip" (defArgs D_law_is_slip.st) (defBody D_law_is_slip.st) (defScope D_law_is_slip.st) .none kV19 dc19 pm19 an19 cd19 ct19), sl19⟩) (c19 : PySem.W.codeIn K cd19 "_law_is_slip" = true) (k19 : PySem.W.keepIn K (.ref f19) = true)
    {f20 : Addr} {oc20 : Value} {od20 an20 : Option Addr} {sl20 : Array (Option Value)} {kV20 dc20 pm20 cd20 ct20 : Value}
    (a20 : PySem.W.nsIn K mainGlobals "law" = some (some (.ref f20))) (l20 : K.lookup f20 = some ⟨oc20, od20, .func (PySem.W.fnOf "law" "law" (defArgs D_law.st) (defBody D_law.st) (defScope D_law.st) .none kV20 dc20 pm20 an20 cd20 ct20), sl20⟩) (c20 : PySem.W.codeIn K cd20 "law" = true) (k20 : PySem.W.keepIn K (.ref f20) = true)
    (z0 : PySem.W.nsIn K mainGlobals "len" = some none)
    (z1 : PySem.W.nsIn K mainGlobals "abs" = some none)
    (z2 : PySem.W.nsIn K mainGlobals "max" = some none)
    (z3 : PySem.W.nsIn K mainGlobals "min" = some none)
    (z4 : PySem.W.nsIn K mainGlobals "all" = some none)
    (z5 : PySem.W.nsIn K mainGlobals "tuple" = some none)
    (z6 : PySem.W.nsIn K mainGlobals "list" = some none)
    (z7 : PySem.W.nsIn K mainGlobals "int" = some none)
    (z8 : PySem.W.nsIn K mainGlobals "str" = some none)
    (z9 : PySem.W.nsIn K mainGlobals "bool" = some none)
    (z10 : PySem.W.nsIn K mainGlobals "isinstance" = some none)
    (z11 : PySem.W.nsIn K mainGlobals "range" = some none)
    (z12 : PySem.W.nsIn K mainGlobals "zip" = some none)
    (z13 : PySem.W.nsIn K mainGlobals "sorted" = some none)
    (z14 : PySem.W.nsIn K mainGlobals "set" = some none)
    : ∃ fd : FuncData, (∀ (s : Shared) (u : Value), BindsTo s fd ⟨[u], []⟩ [(Str.ofString "script", u)]) ∧ ∀ base : Heap, K.In base → base.Ns mainGlobals mg → FnOk l.prog w K mg base (L2.CX l.prog w) lev fa fd [Str.ofString "script"] (spLaw K lawF) := by
  have hf := facts X G a0 l0 c0 k0 a1 l1 c1 k1 a2 l2 c2 k2 a3 l3 c3 k3 a4 l4 c4 k4 a5 l5 c5 k5 a6 l6 c6 k6 a7 l7 c7 k7 a8 l8 c8 k8 a9 l9 c9 k9 a10 l10 c10 k10 a11 l11 c11 k11 a12 l12 c12 k12 a13 l13 c13 k13 a14 l14 c14 k14 a15 l15 c15 k15 a16 l16 c16 k16 a17 l17 c17 k17 a18 l18 c18 k18 a19 l19 c19 k19 a20 l20 c20 k20 z0 z1 z2 z3 z4 z5 z6 z7 z8 z9 z10 z11 z12 z13 z14
  exact law_F (d := D_law) (h := h) hmg (by kernel_rfl) rfl hf.1 hf.2.1 hf.2.2 ⟨_, _, fun_mk (st := D_law.st) l20 c20 k20, PySem.W.mg_of X G a20⟩ (fun _ _ _ _ _ _ s v => .of_eq rfl)
theorem E_law_draw (k : Nat) : callK (tableOf defs) (bltIn blts) (bltIn excs) (k + 1) (Str.ofString "_law_draw") = fnSem 3 8 (F_law_draw (callK (tableOf defs) (bltIn blts) (bltIn excs) k)) := (callK_succ _ _ _ k _ D_law_draw (by kernel_rfl)).trans (by kernel_rfl)
theorem E_law_low (k : Nat) : callK (tableOf defs) (bltIn blts) (bltIn excs) (k + 1) (Str.ofString "_law_low") = fnSem 2 4 (F_law_low (callK (tableOf defs) (bltIn blts) (bltIn excs) k)) := (callK_succ _ _ _ k _ D_law_low (by kernel_rfl)).trans (by kernel_rfl)
theorem E_is_whole (k : Nat) : callK (tableOf defs) (bltIn blts) (bltIn excs) (k + 1) (Str.ofString "is_whole") = fnSem 1 1 (F_is_whole (callK (tableOf defs) (bltIn blts) (bltIn excs) k)) := (callK_succ _ _ _ k _ D_is_whole (by kernel_rfl)).trans (by kernel_rfl)
theorem E_divisor (k : Nat) : callK (tableOf defs) (bltIn blts) (bltIn excs) (k + 1) (Str.ofString "divisor") = fnSem 2 2 (F_divisor (callK (tableOf defs) (bltIn blts) (bltIn excs) k)) := (callK_succ _ _ _ k _ D_divisor (by kernel_rfl)).trans (by kernel_rfl)
theorem E_law_is_number (k : Nat) : callK (tableOf defs) (bltIn blts) (bltIn excs) (k + 1) (Str.ofString "_law_is_number") = fnSem 3 3 (F_law_is_number (callK (tableOf defs) (bltIn blts) (bltIn excs) k)) := (callK_succ _ _ _ k _ D_law_is_number (by kernel_rfl)).trans (by kernel_rfl)
theorem E_law_pick (k : Nat) : callK (tableOf defs) (bltIn blts) (bltIn excs) (k + 1) (Str.ofString "_law_pick") = fnSem 3 3 (F_law_pick (callK (tableOf defs) (bltIn blts) (bltIn excs) k)) := (callK_succ _ _ _ k _ D_law_pick (by kernel_rfl)).trans (by kernel_rfl)
theorem E_law_mixed (k : Nat) : callK (tableOf defs) (bltIn blts) (bltIn excs) (k + 1) (Str.ofString "_law_mixed") = fnSem 3 5 (F_law_mixed (callK (tableOf defs) (bltIn blts) (bltIn excs) k)) := (callK_succ _ _ _ k _ D_law_mixed (by kernel_rfl)).trans (by kernel_rfl)
theorem E_is_price (k : Nat) : callK (tableOf defs) (bltIn blts) (bltIn excs) (k + 1) (Str.ofString "is_price") = fnSem 1 2 (F_is_price (callK (tableOf defs) (bltIn blts) (bltIn excs) k)) := (callK_succ _ _ _ k _ D_is_price (by kernel_rfl)).trans (by kernel_rfl)
theorem E_are_sizes (k : Nat) : callK (tableOf defs) (bltIn blts) (bltIn excs) (k + 1) (Str.ofString "are_sizes") = fnSem 2 4 (F_are_sizes (callK (tableOf defs) (bltIn blts) (bltIn excs) k)) := (callK_succ _ _ _ k _ D_are_sizes (by kernel_rfl)).trans (by kernel_rfl)
theorem E_law_is_leg (k : Nat) : callK (tableOf defs) (bltIn blts) (bltIn excs) (k + 1) (Str.ofString "_law_is_leg") = fnSem 2 3 (F_law_is_leg (callK (tableOf defs) (bltIn blts) (bltIn excs) k)) := (callK_succ _ _ _ k _ D_law_is_leg (by kernel_rfl)).trans (by kernel_rfl)
theorem E_law_drawn_price (k : Nat) : callK (tableOf defs) (bltIn blts) (bltIn excs) (k + 1) (Str.ofString "_law_drawn_price") = fnSem 2 4 (Ev.K09.F_law_drawn_price (callK (tableOf defs) (bltIn blts) (bltIn excs) k)) := (callK_succ _ _ _ k _ D_law_drawn_price (by kernel_rfl)).trans (by kernel_rfl)
theorem E_is_leg (k : Nat) : callK (tableOf defs) (bltIn blts) (bltIn excs) (k + 1) (Str.ofString "is_leg") = fnSem 2 2 (F_is_leg (callK (tableOf defs) (bltIn blts) (bltIn excs) k)) := (callK_succ _ _ _ k _ D_is_leg (by kernel_rfl)).trans (by kernel_rfl)
theorem E_law_is_slip (k : Nat) : callK (tableOf defs) (bltIn blts) (bltIn excs) (k + 1) (Str.ofString "_law_is_slip") = fnSem 2 9 (F_law_is_slip (callK (tableOf defs) (bltIn blts) (bltIn excs) k)) := (callK_succ _ _ _ k _ D_law_is_slip (by kernel_rfl)).trans (by kernel_rfl)
theorem E_law_drawn_event (k : Nat) : callK (tableOf defs) (bltIn blts) (bltIn excs) (k + 1) (Str.ofString "_law_drawn_event") = fnSem 3 6 (F_law_drawn_event (callK (tableOf defs) (bltIn blts) (bltIn excs) k)) := (callK_succ _ _ _ k _ D_law_drawn_event (by kernel_rfl)).trans (by kernel_rfl)
theorem E_law_drawn_slip (k : Nat) : callK (tableOf defs) (bltIn blts) (bltIn excs) (k + 1) (Str.ofString "_law_drawn_slip") = fnSem 4 13 (F_law_drawn_slip (callK (tableOf defs) (bltIn blts) (bltIn excs) k)) := (callK_succ _ _ _ k _ D_law_drawn_slip (by kernel_rfl)).trans (by kernel_rfl)
theorem E_are_legs (k : Nat) : callK (tableOf defs) (bltIn blts) (bltIn excs) (k + 1) (Str.ofString "are_legs") = fnSem 2 4 (F_are_legs (callK (tableOf defs) (bltIn blts) (bltIn excs) k)) := (callK_succ _ _ _ k _ D_are_legs (by kernel_rfl)).trans (by kernel_rfl)
theorem E_law_drawn_card (k : Nat) : callK (tableOf defs) (bltIn blts) (bltIn excs) (k + 1) (Str.ofString "_law_drawn_card") = fnSem 4 5 (F_law_drawn_card (callK (tableOf defs) (bltIn blts) (bltIn excs) k)) := (callK_succ _ _ _ k _ D_law_drawn_card (by kernel_rfl)).trans (by kernel_rfl)
theorem E_is_slip (k : Nat) : callK (tableOf defs) (bltIn blts) (bltIn excs) (k + 1) (Str.ofString "is_slip") = fnSem 2 6 (F_is_slip (callK (tableOf defs) (bltIn blts) (bltIn excs) k)) := (callK_succ _ _ _ k _ D_is_slip (by kernel_rfl)).trans (by kernel_rfl)
theorem E_law_same (k : Nat) : callK (tableOf defs) (bltIn blts) (bltIn excs) (k + 1) (Str.ofString "_law_same") = fnSem 2 4 (F_law_same (callK (tableOf defs) (bltIn blts) (bltIn excs) k)) := (callK_succ _ _ _ k _ D_law_same (by kernel_rfl)).trans (by kernel_rfl)
theorem E_law_bent (k : Nat) : callK (tableOf defs) (bltIn blts) (bltIn excs) (k + 1) (Str.ofString "_law_bent") = fnSem 3 5 (F_law_bent (callK (tableOf defs) (bltIn blts) (bltIn excs) k)) := (callK_succ _ _ _ k _ D_law_bent (by kernel_rfl)).trans (by kernel_rfl)
theorem E_law (k : Nat) : callK (tableOf defs) (bltIn blts) (bltIn excs) (k + 1) (Str.ofString "law") = fnSem 1 12 (F_law (callK (tableOf defs) (bltIn blts) (bltIn excs) k)) := (callK_succ _ _ _ k _ D_law (by kernel_rfl)).trans (by kernel_rfl)
theorem t_law_draw {ns : List Int} (hns : ns.length ≤ 63) (k : Nat) : SpecDraw ns (callK (tableOf defs) (bltIn blts) (bltIn excs) (k + 0 + 1) (Str.ofString "_law_draw")) := by rw [E_law_draw]; exact spec_law_draw _ hns
theorem t_law_pick {ns : List Int} (hns : ns.length ≤ 63) (k : Nat) : SpecPick ns (callK (tableOf defs) (bltIn blts) (bltIn excs) (k + 1 + 1) (Str.ofString "_law_pick")) := by rw [E_law_pick]; exact spec_law_pick (t_law_draw hns (k + 0))
theorem t_law_low {ns : List Int} (hns : ns.length ≤ 63) (k : Nat) : SpecLow (callK (tableOf defs) (bltIn blts) (bltIn excs) (k + 0 + 1) (Str.ofString "_law_low")) := by rw [E_law_low]; exact spec_law_low _
theorem t_law_drawn_price {ns : List Int} (hns : ns.length ≤ 63) (k : Nat) : SpecDrawnPrice ns (callK (tableOf defs) (bltIn blts) (bltIn excs) (k + 2 + 1) (Str.ofString "_law_drawn_price")) := by rw [E_law_drawn_price]; exact spec_drawn_price9 (t_law_draw hns (k + 1)) (t_law_pick hns (k + 0)) (t_law_low hns (k + 1))
theorem t_law_drawn_event {ns : List Int} (hns : ns.length ≤ 63) (k : Nat) : SpecDrawnEvent ns (callK (tableOf defs) (bltIn blts) (bltIn excs) (k + 3 + 1) (Str.ofString "_law_drawn_event")) := by rw [E_law_drawn_event]; exact spec_law_drawn_event (t_law_draw hns (k + 2)) (t_law_drawn_price hns (k + 0))
theorem t_law_drawn_card {ns : List Int} (hns : ns.length ≤ 63) (k : Nat) : SpecDrawnCard ns (callK (tableOf defs) (bltIn blts) (bltIn excs) (k + 4 + 1) (Str.ofString "_law_drawn_card")) := by rw [E_law_drawn_card]; exact spec_law_drawn_card (t_law_draw hns (k + 3)) (t_law_drawn_event hns (k + 0))
theorem t_law_mixed {ns : List Int} (hns : ns.length ≤ 63) (k : Nat) : SpecMixed ns (callK (tableOf defs) (bltIn blts) (bltIn excs) (k + 1 + 1) (Str.ofString "_law_mixed")) := by rw [E_law_mixed]; exact spec_law_mixed (t_law_draw hns (k + 0))
theorem t_law_drawn_slip {ns : List Int} (hns : ns.length ≤ 63) (k : Nat) : SpecDrawnSlip ns (callK (tableOf defs) (bltIn blts) (bltIn excs) (k + 3 + 1) (Str.ofString "_law_drawn_slip")) := by rw [E_law_drawn_slip]; exact spec_law_drawn_slip (t_law_draw hns (k + 2)) (t_law_mixed hns (k + 1)) (t_law_pick hns (k + 1)) (t_law_drawn_price hns (k + 0))
theorem r_law_bent {ns : List Int} (hns : ns.length ≤ 63) (k : Nat) : ∀ j, SpecBentN ns j (callK (tableOf defs) (bltIn blts) (bltIn excs) (k + j + 2 + 1) (Str.ofString "_law_bent"))
  | 0 => by rw [E_law_bent]; exact spec_bentN (t_law_draw hns (k + 1)) (t_law_pick hns (k + 0)) (fun m h => (by cases h))
  | j + 1 => by rw [E_law_bent]; exact spec_bentN (t_law_draw hns (k + (j + 1) + 1)) (t_law_pick hns (k + (j + 1) + 0)) (fun m h => (by cases h; exact r_law_bent hns k j))
theorem t_law_bent {ns : List Int} (hns : ns.length ≤ 63) (k : Nat) : SpecBentN ns 4 (callK (tableOf defs) (bltIn blts) (bltIn excs) (k + 7) (Str.ofString "_law_bent")) := r_law_bent hns k 4
theorem t_is_whole {ns : List Int} (hns : ns.length ≤ 63) (k : Nat) : SpecWhole (callK (tableOf defs) (bltIn blts) (bltIn excs) (k + 0 + 1) (Str.ofString "is_whole")) := by rw [E_is_whole]; exact spec_is_whole _
theorem t_divisor {ns : List Int} (hns : ns.length ≤ 63) (k : Nat) : SpecDiv (callK (tableOf defs) (bltIn blts) (bltIn excs) (k + 0 + 1) (Str.ofString "divisor")) := by rw [E_divisor]; exact spec_divisor _
theorem t_is_price {ns : List Int} (hns : ns.length ≤ 63) (k : Nat) : SpecIsPrice (callK (tableOf defs) (bltIn blts) (bltIn excs) (k + 1 + 1) (Str.ofString "is_price")) := by rw [E_is_price]; exact spec_is_price (t_is_whole hns (k + 0)) (t_divisor hns (k + 0))
theorem t_is_leg {ns : List Int} (hns : ns.length ≤ 63) (k : Nat) : SpecLegG (callK (tableOf defs) (bltIn blts) (bltIn excs) (k + 2 + 1) (Str.ofString "is_leg")) := by rw [E_is_leg]; exact spec_is_leg (t_is_whole hns (k + 1)) (t_is_price hns (k + 0))
theorem t_are_legs {ns : List Int} (hns : ns.length ≤ 63) (k : Nat) : SpecLegsG (callK (tableOf defs) (bltIn blts) (bltIn excs) (k + 3 + 1) (Str.ofString "are_legs")) := by rw [E_are_legs]; exact spec_are_legs (t_is_leg hns (k + 0))
theorem t_are_sizes {ns : List Int} (hns : ns.length ≤ 63) (k : Nat) : SpecSizesG (callK (tableOf defs) (bltIn blts) (bltIn excs) (k + 1 + 1) (Str.ofString "are_sizes")) := by rw [E_are_sizes]; exact spec_are_sizes (t_is_whole hns (k + 0))
theorem t_is_slip {ns : List Int} (hns : ns.length ≤ 63) (k : Nat) : SpecSlipG (callK (tableOf defs) (bltIn blts) (bltIn excs) (k + 4 + 1) (Str.ofString "is_slip")) := by rw [E_is_slip]; exact spec_is_slip (t_is_whole hns (k + 3)) (t_are_legs hns (k + 0)) (t_are_sizes hns (k + 2))
theorem t_law_is_number {ns : List Int} (hns : ns.length ≤ 63) (k : Nat) : SpecIsNum (callK (tableOf defs) (bltIn blts) (bltIn excs) (k + 0 + 1) (Str.ofString "_law_is_number")) := by rw [E_law_is_number]; exact spec_law_is_number _
theorem t_law_is_leg {ns : List Int} (hns : ns.length ≤ 63) (k : Nat) : SpecLegG (callK (tableOf defs) (bltIn blts) (bltIn excs) (k + 1 + 1) (Str.ofString "_law_is_leg")) := by rw [E_law_is_leg]; exact spec_law_is_leg (t_law_is_number hns (k + 0)) (t_law_low hns (k + 0))
theorem t_law_is_slip {ns : List Int} (hns : ns.length ≤ 63) (k : Nat) : SpecSlipG (callK (tableOf defs) (bltIn blts) (bltIn excs) (k + 2 + 1) (Str.ofString "_law_is_slip")) := by rw [E_law_is_slip]; exact spec_law_is_slip (t_law_is_number hns (k + 1)) (t_law_is_leg hns (k + 0))
theorem r_law_same {ns : List Int} (hns : ns.length ≤ 63) (k : Nat) : ∀ j, SpecSame j (callK (tableOf defs) (bltIn blts) (bltIn excs) (k + j + 0 + 1) (Str.ofString "_law_same"))
  | 0 => by rw [E_law_same]; exact spec_law_same  (fun m h => (by cases h))
  | j + 1 => by rw [E_law_same]; exact spec_law_same  (fun m h => (by cases h; exact r_law_same hns k j))
theorem t_law_same {ns : List Int} (hns : ns.length ≤ 63) (k : Nat) : SpecSame 4 (callK (tableOf defs) (bltIn blts) (bltIn excs) (k + 5) (Str.ofString "_law_same")) := r_law_same hns k 4
theorem law_true (ns : List Int) (h : ns.length ≤ 63) : ∃ st, lawF [.scr ns] [] = some (.ok (.d (.bool true)), st) := by
  have H : K09.Hyp ns (callK (tableOf defs) (bltIn blts) (bltIn excs) 39) := ⟨t_law_drawn_card h 34, t_law_drawn_slip h 35, t_law_bent h 32, t_is_slip h 34, t_law_is_slip h 36, t_law_same h 34⟩
  show ∃ st, callK (tableOf defs) (bltIn blts) (bltIn excs) (39 + 1) (Str.ofString "law") [.scr ns] [] = _
  rw [E_law]
  exact K09.law_ok H
end Tb
open PySem PySem.W PyProof.Rows
set_option maxHeartbeats 0 in
theorem PySem.Challenge.cw_slipstall_k09_whole_slips_holds : PySem.Challenge.rw_slipstall_k09_whole_slips.Holds := by
  w_on; o_law; k_head; (case hw => w_witness2)
  k_fill
  refine L2.walk_of (l := PySem.Challenge.rw_slipstall_k09_whole_slips) (n := 63) (k := Tb.lev) (x := Str.ofString "script") (CX := fun w => L2.CX PySem.Challenge.rw_slipstall_k09_whole_slips.prog w) (sp := fun w => Ev.spLaw _ Tb.lawF) rfl (by decide) rfl ⟨rfl, by decide, by decide⟩ (fun w h Y => PySem.W.kIn_of Y) ?F (fun _ _ a ns hl ho hS => Ev.law_sp ho hS (Tb.law_true ns hl)) (fun _ _ _ _ _ h => by obtain ⟨_, _, _, _, _, _, _, _, _, _, _, _, h⟩ := h; exact h)
  case F =>
    intro w mg fa h KX G hmg
    apply Tb.start KX G hmg
    (case a0 => k_is); (case l0 => k_is); (case c0 => k_is); (case k0 => k_is); (case a1 => k_is); (case l1 => k_is); (case c1 => k_is); (case k1 => k_is); (case a2 => k_is); (case l2 => k_is); (case c2 => k_is); (case k2 => k_is); (case a3 => k_is); (case l3 => k_is); (case c3 => k_is); (case k3 => k_is); (case a4 => k_is); (case l4 => k_is); (case c4 => k_is); (case k4 => k_is); (case a5 => k_is); (case l5 => k_is); (case c5 => k_is); (case k5 => k_is); (case a6 => k_is); (case l6 => k_is); (case c6 => k_is); (case k6 => k_is); (case a7 => k_is); (case l7 => k_is); (case c7 => k_is); (case k7 => k_is); (case a8 => k_is); (case l8 => k_is); (case c8 => k_is); (case k8 => k_is); (case a9 => k_is); (case l9 => k_is); (case c9 => k_is); (case k9 => k_is); (case a10 => k_is); (case l10 => k_is); (case c10 => k_is); (case k10 => k_is); (case a11 => k_is); (case l11 => k_is); (case c11 => k_is); (case k11 => k_is); (case a12 => k_is); (case l12 => k_is); (case c12 => k_is); (case k12 => k_is); (case a13 => k_is); (case l13 => k_is); (case c13 => k_is); (case k13 => k_is); (case a14 => k_is); (case l14 => k_is); (case c14 => k_is); (case k14 => k_is); (case a15 => k_is); (case l15 => k_is); (case c15 => k_is); (case k15 => k_is); (case a16 => k_is); (case l16 => k_is); (case c16 => k_is); (case k16 => k_is); (case a17 => k_is); (case l17 => k_is); (case c17 => k_is); (case k17 => k_is); (case a18 => k_is); (case l18 => k_is); (case c18 => k_is); (case k18 => k_is); (case a19 => k_is); (case l19 => k_is); (case c19 => k_is); (case k19 => k_is); (case a20 => k_is); (case l20 => k_is); (case c20 => k_is); (case k20 => k_is); (case z0 => k_is); (case z1 => k_is); (case z2 => k_is); (case z3 => k_is); (case z4 => k_is); (case z5 => k_is); (case z6 => k_is); (case z7 => k_is); (case z8 => k_is); (case z9 => k_is); (case z10 => k_is); (case z11 => k_is); (case z12 => k_is); (case z13 => k_is); (case z14 => k_is)
