import PyProof.Rows.All
import Wide.All
import OpenK.AllK
import Wide.FinOn
import HandS.ForMost
import HandS.TupAny
import HandS.IsInst
import HandS.ForExc
import HandS.Zip
import HandS.CallLocal
import HandS.More
import HandS.Text
import HandS.Ends
import HandS.DictComp
import HandS.Style
import PyProof.ReprRoads
import HandS.SortRule
import HandS.Strs
import PyProof.DictUpdate
import PyProof.Draws
import HandS.ExcField
import HandS.ExcInit
import HandS.TryMany
import HandS.RaiseMore
import KE.KExcSuper
import PySem.Challenge.RW_leantill_k02_shops_that_are_let
set_option Elab.async false
set_option linter.all false
set_option maxRecDepth 100000
set_option maxHeartbeats 2000000
/-! PyM: a monadic mirror of Python over plain data. -/
namespace PyM
open PySem PySem.Spec PyProof.Rows L2

/-- a value of the mirror -/
inductive D where
  | non | bl (b : Bool) | int (i : Int) | str (x : Str) | tup (ds : List D) | lst (ds : List D) | loc (n : Nat) | fn (x : Str) | ty (n : String) | scr (ds : List D) | exo (a dx : Nat) (c : Str) (fn : List Str) (ds : List D)
/-- what is changed in place -/
inductive Cell where
  | lst (ds : List D)
  | dct (kvs : List (Key × D))
abbrev Store := List Cell
/-- the places: of what is changed in place; of lists that are being built -/
structure Pl where
  c : List Addr
  h : List Addr

/-- a list that nobody changes: frozen, or an object of the module -/
def ScrAt (K : PySem.W.Frag) (H : Hp) (a : Addr) (vs : List V) : Prop := (∃ ob, H a = some (.frz ob (.lst vs))) ∨
  ∃ (o : Obj) (its : Array Value) (n : Nat), K.lookup a = some o ∧ o.cls = .type "list" ∧ o.dict = none ∧ o.data = .seq its n ∧ its.size ≤ sizeLine ∧ Vals vs its.toList
mutual
/-- what a value of the layer stands for -/
inductive Den (K : PySem.W.Frag) (mg : Str → Option Value) (μ : Pl) (H : Hp) : V → D → Prop
  | non : Den K mg μ H .non .non
  | bl (b : Bool) : Den K mg μ H (.bl b) (.bl b)
  | int (i : Int) : Den K mg μ H (.int i) (.int i)
  | str (x : Str) : Den K mg μ H (.str x) (.str x)
  | ty (n : String) : Den K mg μ H (.ty n) (.ty n)
  | tup {a : Addr} {vs : List V} {ds : List D} : SqT K H a vs → DenL K mg μ H vs ds → Den K mg μ H (.ref a) (.tup ds)
  | lst {a : Addr} {vs : List V} {ds : List D} : H a = some (.lst vs) → a ∉ μ.c → a ∉ μ.h → DenL K mg μ H vs ds → Den K mg μ H (.ref a) (.lst ds)
  | scr {a : Addr} {vs : List V} {ds : List D} : ScrAt K H a vs → DenL K mg μ H vs ds → Den K mg μ H (.ref a) (.scr ds)
  | loc {n : Nat} {a : Addr} : μ.c[n]? = some a → Den K mg μ H (.ref a) (.loc n)
  | fn {x : Str} {f : Addr} : mg x = some (.ref f) → Den K mg μ H (.ref f) (.fn x)
  | exo0 (a : Addr) {dx : Nat} {c : Str} : Den K mg μ H (.ref a) (.exo a dx c [] [])
  | exo1 (a : Addr) {dx : Addr} {c : Str} {fv : List (Str × V)} {fn : List Str} {ds : List D} : H dx = some (.xd fv) → fv.map (·.1) = fn → DenL K mg μ H (fv.map (·.2)) ds → Den K mg μ H (.ref a) (.exo a dx c fn ds)
inductive DenL (K : PySem.W.Frag) (mg : Str → Option Value) (μ : Pl) (H : Hp) : List V → List D → Prop
  | nil : DenL K mg μ H [] []
  | cons {v : V} {vs : List V} {d : D} {ds : List D} : Den K mg μ H v d → DenL K mg μ H vs ds → DenL K mg μ H (v :: vs) (d :: ds)
end

section
variable {K : PySem.W.Frag} {mg : Str → Option Value} {μ μ' : Pl} {H H' : Hp}
theorem DenL.length : ∀ {vs : List V} {ds : List D}, DenL K mg μ H vs ds → vs.length = ds.length
  | _, _, .nil => rfl
  | _, _, .cons _ t => congrArg (· + 1) t.length
theorem DenL.get : ∀ {vs : List V} {ds : List D} {i : Nat} {d : D}, DenL K mg μ H vs ds → ds[i]? = some d → ∃ v, vs[i]? = some v ∧ Den K mg μ H v d
  | _, _, _, _, .nil, e => by simp at e
  | _, _, 0, _, .cons h _, e => by
    obtain rfl := Option.some.inj e
    exact ⟨_, rfl, h⟩
  | _, _, i + 1, _, .cons _ t, e => by
    obtain ⟨v, a, b⟩ := DenL.get (i := i) t (by simpa using e)
    exact ⟨v, by simpa using a, b⟩
theorem DenL.getV : ∀ {vs : List V} {ds : List D} {i : Nat} {v : V}, DenL K mg μ H vs ds → vs[i]? = some v → ∃ d, ds[i]? = some d ∧ Den K mg μ H v d
  | _, _, _, _, .nil, e => by simp at e
  | _, _, 0, _, .cons h _, e => by
    obtain rfl := Option.some.inj e
    exact ⟨_, rfl, h⟩
  | _, _, i + 1, _, .cons _ t, e => by
    obtain ⟨v, a, b⟩ := DenL.getV (i := i) t (by simpa using e)
    exact ⟨v, by simpa using a, b⟩
theorem DenL.append : ∀ {vs ws : List V} {ds es : List D}, DenL K mg μ H vs ds → DenL K mg μ H ws es → DenL K mg μ H (vs ++ ws) (ds ++ es)
  | _, _, _, _, .nil, s => s
  | _, _, _, _, .cons h t, s => .cons h (DenL.append t s)
theorem DenL.take : ∀ {vs : List V} {ds : List D} (n : Nat), DenL K mg μ H vs ds → DenL K mg μ H (vs.take n) (ds.take n)
  | _, _, 0, _ => .nil
  | _, _, _ + 1, .nil => .nil
  | _, _, n + 1, .cons h t => .cons h (DenL.take n t)
theorem DenL.drop : ∀ {vs : List V} {ds : List D} (n : Nat), DenL K mg μ H vs ds → DenL K mg μ H (vs.drop n) (ds.drop n)
  | _, _, 0, h => h
  | _, _, _ + 1, .nil => .nil
  | _, _, n + 1, .cons _ t => DenL.drop n t
theorem DenL.set {v : V} {d : D} (hd : Den K mg μ H v d) : ∀ {vs : List V} {ds : List D} (i : Nat), DenL K mg μ H vs ds → DenL K mg μ H (vs.set i v) (ds.set i d)
  | _, _, _, .nil => .nil
  | _, _, 0, .cons _ t => .cons hd t
  | _, _, i + 1, .cons h t => .cons h (DenL.set hd i t)
theorem DenL.reverse : ∀ {vs : List V} {ds : List D}, DenL K mg μ H vs ds → DenL K mg μ H vs.reverse ds.reverse
  | _, _, .nil => .nil
  | _, _, .cons h t => by
    rw [List.reverse_cons, List.reverse_cons]
    exact (DenL.reverse t).append (.cons h .nil)

/-- what stands at the place of a cell -/
def CellOk (K : PySem.W.Frag) (mg : Str → Option Value) (μ : Pl) (H : Hp) (a : Addr) : Cell → Prop
  | .lst ds => ∃ vs, H a = some (.lst vs) ∧ DenL K mg μ H vs ds
  | .dct kvs => ∃ ws, H a = some (.dK ws) ∧ ws.map (·.1) = kvs.map (·.1) ∧ DenL K mg μ H (ws.map (·.2)) (kvs.map (·.2))
/-- of the kinds that are changed in place -/
def Chg (o : HO) : Prop := (∃ vs, o = .lst vs) ∨ ∃ ws, o = .dK ws
structure Ok (K : PySem.W.Frag) (mg : Str → Option Value) (μ : Pl) (H : Hp) (S : Store) : Prop where
  len : μ.c.length = S.length
  nd : μ.c.Nodup
  hd : ∀ a ∈ μ.h, a ∉ μ.c ∧ ∃ vs, H a = some (.lst vs)
  at_ : ∀ (n : Nat) (a : Addr) (c : Cell), μ.c[n]? = some a → S[n]? = some c → CellOk K mg μ H a c
/-- values keep what they stand for -/
structure StepD (μ μ' : Pl) (H H' : Hp) : Prop where
  pre : μ.c <+: μ'.c
  keep : ∀ a o, a ∉ μ.c → a ∉ μ.h → (∀ ws, o ≠ .dK ws) → H a = some o → H' a = some o
  new : ∀ a, a ∈ μ'.c ∨ a ∈ μ'.h → a ∈ μ.c ∨ a ∈ μ.h ∨ ∀ xs, H a ≠ some (.lst xs)
structure Step (μ μ' : Pl) (H H' : Hp) : Prop where
  pre : μ.c <+: μ'.c
  hid : μ'.h = μ.h
  keep : ∀ a o, a ∉ μ.c → H a = some o → H' a = some o
  new : ∀ a, a ∈ μ'.c → a ∈ μ.c ∨ H a = none
theorem Step.d (s : Step μ μ' H H') : StepD μ μ' H H' := ⟨s.pre, fun a o h _ _ e => s.keep a o h e, fun a h => by
  rcases h with h | h
  · exact (s.new a h).elim .inl fun z => .inr (.inr fun xs q => by rw [z] at q; cases q)
  · exact .inr (.inl (by rw [← s.hid]; exact h))⟩
theorem Step.refl : Step μ μ H H := ⟨List.prefix_refl μ.c, rfl, fun _ _ _ h => h, fun _ h => .inl h⟩
theorem Step.trans {μ'' : Pl} {H'' : Hp} (a : Step μ μ' H H') (b : Step μ' μ'' H' H'') : Step μ μ'' H H'' where
  pre := a.pre.trans b.pre
  hid := b.hid.trans a.hid
  keep := fun x o hx h => by
    have hx' : x ∉ μ'.c := fun z => by
      rcases a.new x z with z | z
      · exact hx z
      · rw [z] at h; cases h
    exact b.keep x o hx' (a.keep x o hx h)
  new := fun x hx => by
    rcases b.new x hx with z | z
    · exact a.new x z
    · by_cases hm : x ∈ μ.c
      · exact .inl hm
      · refine .inr ?_
        cases e : H x with
        | none => rfl
        | some o => rw [a.keep x o hm e] at z; cases z
/-- something new that is no cell -/
theorem Step.fresh {p : Addr} {o : HO} (hp : H p = none) : Step μ μ H (upd H p o) := ⟨List.prefix_refl μ.c, rfl, fun a u _ h => by
  rw [upd_ne (ne_of_none h hp)]
  exact h, fun _ h => .inl h⟩
def Pl.add (μ : Pl) (p : Addr) : Pl := ⟨μ.c ++ [p], μ.h⟩
/-- a new cell -/
theorem Step.cell {p : Addr} {o : HO} (hp : H p = none) : Step μ (μ.add p) H (upd H p o) := ⟨List.prefix_append μ.c [p], rfl, fun a u _ h => by
  rw [upd_ne (ne_of_none h hp)]
  exact h, fun a h => by
  rcases List.mem_append.mp h with h | h
  · exact .inl h
  · exact .inr (by rw [List.mem_singleton.mp h]; exact hp)⟩
/-- a cell is stored to -/
theorem Step.put {n : Nat} {a : Addr} {o : HO} (ha : μ.c[n]? = some a) : Step μ μ H (upd H a o) := ⟨List.prefix_refl μ.c, rfl, fun b u hb h => by
  rw [upd_ne (fun z => hb (by rw [z]; exact List.mem_of_getElem? ha))]
  exact h, fun _ h => .inl h⟩
theorem Ok.chg {S : Store} (o : Ok K mg μ H S) {a : Addr} (ha : a ∈ μ.c) : ∃ u, H a = some u ∧ Chg u := by
  obtain ⟨n, hn⟩ := List.getElem?_of_mem ha
  have hl : n < S.length := by rw [← o.len]; exact (List.getElem?_eq_some_iff.mp hn).1
  have hc := o.at_ n a S[n] hn (List.getElem?_eq_getElem hl)
  cases e : S[n] with
  | lst ds => rw [e] at hc; obtain ⟨vs, h, _⟩ := hc; exact ⟨_, h, .inl ⟨vs, rfl⟩⟩
  | dct ds => rw [e] at hc; obtain ⟨vs, h, _⟩ := hc; exact ⟨_, h, .inr ⟨vs, rfl⟩⟩
theorem Ok.nofree {S : Store} (o : Ok K mg μ H S) {p : Addr} (hp : H p = none) : p ∉ μ.c ∧ p ∉ μ.h := by
  refine ⟨fun z => ?_, fun z => ?_⟩
  · obtain ⟨u, e, _⟩ := o.chg z
    rw [hp] at e; cases e
  · obtain ⟨_, vs, e⟩ := o.hd p z
    rw [hp] at e; cases e
/-- what is no list and no dict is neither a cell nor hidden -/
theorem Ok.noChg {S : Store} (o : Ok K mg μ H S) {a : Addr} {u : HO} (e : H a = some u) (hu : ¬ Chg u) : a ∉ μ.c ∧ a ∉ μ.h := ⟨fun z => by
  obtain ⟨w, e', hw⟩ := o.chg z
  rw [e] at e'
  obtain rfl := Option.some.inj e'
  exact hu hw, fun z => by
  obtain ⟨_, vs, e'⟩ := o.hd a z
  rw [e] at e'
  obtain rfl := Option.some.inj e'
  exact hu (.inl ⟨vs, rfl⟩)⟩
theorem StepD.trans {μ'' : Pl} {H'' : Hp} {S : Store} (a : StepD μ μ' H H') (b : StepD μ' μ'' H' H'') (o : Ok K mg μ' H' S) : StepD μ μ'' H H'' where
  pre := a.pre.trans b.pre
  keep := fun x u hc hh hu h => by
    have h' := a.keep x u hc hh hu h
    by_cases hl : ∃ xs, u = .lst xs
    · obtain ⟨xs, rfl⟩ := hl
      have z : ¬ (x ∈ μ'.c ∨ x ∈ μ'.h) := fun z => by
        rcases a.new x z with q | q | q
        · exact hc q
        · exact hh q
        · exact q _ h
      exact b.keep x _ (fun q => z (.inl q)) (fun q => z (.inr q)) hu h'
    · obtain ⟨z1, z2⟩ := o.noChg h' (fun z => by
        rcases z with ⟨xs, z⟩ | ⟨ws, z⟩
        · exact hl ⟨xs, z⟩
        · exact hu ws z)
      exact b.keep x u z1 z2 hu h'
  new := fun x hx => by
    rcases b.new x hx with z | z | z
    · exact a.new x (.inl z)
    · exact a.new x (.inr z)
    · by_cases hc : x ∈ μ.c
      · exact .inl hc
      by_cases hh : x ∈ μ.h
      · exact .inr (.inl hh)
      exact .inr (.inr fun xs e => z xs (a.keep x _ hc hh (fun _ q => nomatch q) e))
theorem nd_lst {vs : List V} : ∀ ws : List (Key × V), HO.lst vs ≠ .dK ws := fun _ q => HO.noConfusion q
theorem nd_tup {vs : List V} : ∀ ws : List (Key × V), HO.tup vs ≠ .dK ws := fun _ q => HO.noConfusion q
theorem nd_frz {ob : Obj} {u : HO} : ∀ ws : List (Key × V), HO.frz ob u ≠ .dK ws := fun _ q => HO.noConfusion q
mutual
theorem Den.monoD {S : Store} (o : Ok K mg μ H S) (st : StepD μ μ' H H') : ∀ {v : V} (d : D), Den K mg μ H v d → Den K mg μ' H' v d
  | _, .non, .non => .non
  | _, .bl _, .bl b => .bl b
  | _, .int _, .int i => .int i
  | _, .str _, .str x => .str x
  | _, .ty _, .ty n => .ty n
  | _, .tup ds, .tup (a := a) (vs := vs) h t => .tup (by
      rcases h with (h | ⟨ob, h⟩) | h
      · obtain ⟨z1, z2⟩ := o.noChg h (fun z => by rcases z with ⟨_, z⟩ | ⟨_, z⟩ <;> cases z)
        exact .inl (.inl (st.keep _ _ z1 z2 nd_tup h))
      · obtain ⟨z1, z2⟩ := o.noChg h (fun z => by rcases z with ⟨_, z⟩ | ⟨_, z⟩ <;> cases z)
        exact .inl (.inr ⟨ob, st.keep _ _ z1 z2 nd_frz h⟩)
      · exact .inr h) (DenL.monoD o st ds t)
  | _, .lst ds, .lst (a := a) (vs := vs) h hn hh t => .lst (st.keep _ _ hn hh nd_lst h) (fun z => by
        rcases st.new _ (.inl z) with z | z | z
        · exact hn z
        · exact hh z
        · exact z _ h) (fun z => by
        rcases st.new _ (.inr z) with z | z | z
        · exact hn z
        · exact hh z
        · exact z _ h) (DenL.monoD o st ds t)
  | _, .scr ds, .scr (a := a) (vs := vs) h t => .scr (by
        rcases h with ⟨ob, h⟩ | h
        · obtain ⟨z1, z2⟩ := o.noChg h (fun z => by rcases z with ⟨_, z⟩ | ⟨_, z⟩ <;> cases z)
          exact .inl ⟨ob, st.keep _ _ z1 z2 nd_frz h⟩
        · exact .inr h) (DenL.monoD o st ds t)
  | _, .loc _, .loc h => .loc (by
      obtain ⟨r, hr⟩ := st.pre
      rw [← hr]
      rw [List.getElem?_append_left (List.getElem?_eq_some_iff.mp h).1]
      exact h)
  | _, .fn _, .fn h => .fn h
  | _, .exo _ _ _ _ _, .exo0 a => .exo0 a
  | _, .exo _ _ _ _ ds, .exo1 a h e t => .exo1 a (by
      obtain ⟨z1, z2⟩ := o.noChg h (fun z => by rcases z with ⟨_, z⟩ | ⟨_, z⟩ <;> cases z)
      exact st.keep _ _ z1 z2 (fun _ z => HO.noConfusion z) h) e (DenL.monoD o st ds t)
theorem DenL.monoD {S : Store} (o : Ok K mg μ H S) (st : StepD μ μ' H H') : ∀ {vs : List V} (ds : List D), DenL K mg μ H vs ds → DenL K mg μ' H' vs ds
  | _, [], .nil => .nil
  | _, d :: ds, .cons h t => .cons (Den.monoD o st d h) (DenL.monoD o st ds t)
end
theorem Den.mono {S : Store} (o : Ok K mg μ H S) (st : Step μ μ' H H') {v : V} (d : D) (h : Den K mg μ H v d) : Den K mg μ' H' v d := h.monoD o st.d
theorem DenL.mono {S : Store} (o : Ok K mg μ H S) (st : Step μ μ' H H') {vs : List V} (ds : List D) (h : DenL K mg μ H vs ds) : DenL K mg μ' H' vs ds := h.monoD o st.d
theorem CellOk.monoD {S : Store} (o : Ok K mg μ H S) (st : StepD μ μ' H H') {a : Addr} (ha : H' a = H a) : ∀ {c : Cell}, CellOk K mg μ H a c → CellOk K mg μ' H' a c
  | .lst _, ⟨vs, h, t⟩ => ⟨vs, by rw [ha]; exact h, t.monoD o st⟩
  | .dct _, ⟨ws, h, e, t⟩ => ⟨ws, by rw [ha]; exact h, e, t.monoD o st⟩
theorem Ok.fresh {S : Store} (o : Ok K mg μ H S) {p : Addr} {ob : HO} (hp : H p = none) : Ok K mg μ (upd H p ob) S := ⟨o.len, o.nd, fun a ha => by
  obtain ⟨z, vs, e⟩ := o.hd a ha
  exact ⟨z, vs, by rw [upd_ne (ne_of_none e hp)]; exact e⟩, fun n a c ha hc => by
  obtain ⟨u, e, _⟩ := o.chg (List.mem_of_getElem? ha)
  exact (o.at_ n a c ha hc).monoD o (Step.fresh hp).d (upd_ne (ne_of_none e hp))⟩
/-- a new cell, its content as wanted -/
theorem Ok.cellC {S : Store} (o : Ok K mg μ H S) {p : Addr} {ob : HO} {c : Cell} (hp : H p = none) (hc : CellOk K mg (μ.add p) (upd H p ob) p c) : Ok K mg (μ.add p) (upd H p ob) (S ++ [c]) := by
  obtain ⟨hpm, hph⟩ := o.nofree hp
  refine ⟨by simp [Pl.add, o.len], ?_, fun a ha => ?_, fun n a c' ha hc' => ?_⟩
  · exact List.nodup_append.mpr ⟨o.nd, by simp, fun a ha b hb => by
      rw [List.mem_singleton.mp hb]
      exact fun z => hpm (by rw [← z]; exact ha)⟩
  · obtain ⟨z, vs, e⟩ := o.hd a ha
    refine ⟨fun q => ?_, vs, by rw [upd_ne (ne_of_none e hp)]; exact e⟩
    rcases List.mem_append.mp q with q | q
    · exact z q
    · rw [List.mem_singleton.mp q, hp] at e; cases e
  · unfold Pl.add at ha
    dsimp only at ha
    by_cases hn : n < μ.c.length
    · rw [List.getElem?_append_left hn] at ha
      rw [List.getElem?_append_left (by rw [← o.len]; exact hn)] at hc'
      obtain ⟨u, e, _⟩ := o.chg (List.mem_of_getElem? ha)
      exact (o.at_ n a c' ha hc').monoD o (Step.cell hp).d (upd_ne (ne_of_none e hp))
    · rw [List.getElem?_append_right (by omega)] at ha
      rw [List.getElem?_append_right (by rw [← o.len]; omega)] at hc'
      rw [o.len] at ha
      cases hk : n - S.length with
      | zero =>
        rw [hk] at ha hc'
        obtain rfl : p = a := by simpa using ha
        obtain rfl : c = c' := by simpa using hc'
        exact hc
      | succ k => rw [hk] at ha; simp at ha
theorem Ok.atNew {S : Store} (o : Ok K mg μ H S) {p : Addr} : (μ.add p).c[S.length]? = some p := by
  show (μ.c ++ [p])[S.length]? = some p
  rw [← o.len, List.getElem?_append_right (Nat.le_refl _), Nat.sub_self]
  rfl
theorem Ok.cell {S : Store} (o : Ok K mg μ H S) {p : Addr} {vs : List V} {ds : List D} (hp : H p = none) (t : DenL K mg μ H vs ds) : Ok K mg (μ.add p) (upd H p (.lst vs)) (S ++ [.lst ds]) :=
  o.cellC hp ⟨vs, upd_same, t.mono o (Step.cell hp)⟩
theorem Ok.cellD {S : Store} (o : Ok K mg μ H S) {p : Addr} {ws : List (Key × V)} {kvs : List (Key × D)} (hp : H p = none) (e : ws.map (·.1) = kvs.map (·.1)) (t : DenL K mg μ H (ws.map (·.2)) (kvs.map (·.2))) : Ok K mg (μ.add p) (upd H p (.dK ws)) (S ++ [.dct kvs]) :=
  o.cellC hp ⟨ws, upd_same, e, t.mono o (Step.cell hp)⟩
/-- a cell is stored to -/
theorem Ok.putC {S : Store} (o : Ok K mg μ H S) {n : Nat} {a : Addr} {ob : HO} {c : Cell} (ha : μ.c[n]? = some a) (hc : CellOk K mg μ (upd H a ob) a c) : Ok K mg μ (upd H a ob) (S.set n c) := by
  have hl := (List.getElem?_eq_some_iff.mp ha).1
  refine ⟨by simp [o.len], o.nd, fun b hb => ?_, fun m b c' hb hc' => ?_⟩
  · obtain ⟨z, vs, e⟩ := o.hd b hb
    exact ⟨z, vs, by rw [upd_ne (fun q => z (by rw [q]; exact List.mem_of_getElem? ha))]; exact e⟩
  by_cases hm : m = n
  · subst hm
    rw [ha] at hb
    obtain rfl := Option.some.inj hb
    rw [List.getElem?_set_self (by rw [← o.len]; exact hl)] at hc'
    obtain rfl := Option.some.inj hc'
    exact hc
  · rw [List.getElem?_set_ne (fun z => hm z.symm)] at hc'
    have hab : b ≠ a := fun z => hm (by
      subst z
      exact ((List.getElem?_inj (i := m) (j := n) (List.getElem?_eq_some_iff.mp hb).1 o.nd).mp (by rw [hb, ha])))
    exact (o.at_ m b c' hb hc').monoD o (Step.put ha).d (upd_ne hab)
theorem Ok.put {S : Store} (o : Ok K mg μ H S) {n : Nat} {a : Addr} {vs : List V} {ds : List D} (ha : μ.c[n]? = some a) (t : DenL K mg μ H vs ds) : Ok K mg μ (upd H a (.lst vs)) (S.set n (.lst ds)) :=
  o.putC ha ⟨vs, upd_same, t.mono o (Step.put ha)⟩
theorem Ok.putD {S : Store} (o : Ok K mg μ H S) {n : Nat} {a : Addr} {ws : List (Key × V)} {kvs : List (Key × D)} (ha : μ.c[n]? = some a) (e : ws.map (·.1) = kvs.map (·.1)) (t : DenL K mg μ H (ws.map (·.2)) (kvs.map (·.2))) : Ok K mg μ (upd H a (.dK ws)) (S.set n (.dct kvs)) :=
  o.putC ha ⟨ws, upd_same, e, t.mono o (Step.put ha)⟩
/-! a dict made ahead of its pairs -/
theorem Step.made {p : Addr} {ob : HO} (st : Step μ μ' H H') (hp : H p = none) : Step μ (μ'.add p) H (upd H' p ob) := ⟨st.pre.trans (List.prefix_append _ _), st.hid, fun a u ha e => by
  rw [upd_ne (ne_of_none e hp)]
  exact st.keep a u ha e, fun a h => by
  rcases List.mem_append.mp h with h | h
  · exact st.new a h
  · exact .inr (by rw [List.mem_singleton.mp h]; exact hp)⟩
theorem made_step {p : Addr} {ob : HO} {ws : List (Key × V)} (hp : H p = some (.dK ws)) : StepD μ (μ.add p) H (upd H p ob) := ⟨List.prefix_append _ _, fun a u _ _ hu e => by
  by_cases z : a = p
  · subst z
    rw [hp] at e
    exact absurd (Option.some.inj e).symm (hu ws)
  · rw [upd_ne z]; exact e, fun a h => by
  rcases h with h | h
  · rcases List.mem_append.mp h with h | h
    · exact .inl h
    · exact .inr (.inr fun xs q => by
        rw [List.mem_singleton.mp h, hp] at q; cases q)
  · exact .inr (.inl h)⟩
theorem Ok.made {S : Store} (o : Ok K mg μ H S) {p : Addr} {ob : HO} {c : Cell} {ws : List (Key × V)} (hp : H p = some (.dK ws)) (hn : p ∉ μ.c) (hc : CellOk K mg (μ.add p) (upd H p ob) p c) : Ok K mg (μ.add p) (upd H p ob) (S ++ [c]) := by
  refine ⟨by simp [Pl.add, o.len], ?_, fun a ha => ?_, fun n a c' ha hc' => ?_⟩
  · exact List.nodup_append.mpr ⟨o.nd, by simp, fun a ha b hb => by
      rw [List.mem_singleton.mp hb]
      exact fun z => hn (by rw [← z]; exact ha)⟩
  · obtain ⟨z, vs, e⟩ := o.hd a ha
    have hap : a ≠ p := fun q => by rw [q, hp] at e; cases e
    refine ⟨fun q => ?_, vs, by rw [upd_ne hap]; exact e⟩
    rcases List.mem_append.mp q with q | q
    · exact z q
    · exact hap (List.mem_singleton.mp q)
  · unfold Pl.add at ha
    dsimp only at ha
    by_cases hl : n < μ.c.length
    · rw [List.getElem?_append_left hl] at ha
      rw [List.getElem?_append_left (by rw [← o.len]; exact hl)] at hc'
      exact (o.at_ n a c' ha hc').monoD o (made_step hp) (upd_ne (fun z => hn (by rw [← z]; exact List.mem_of_getElem? ha)))
    · rw [List.getElem?_append_right (by omega)] at ha
      rw [List.getElem?_append_right (by rw [← o.len]; omega)] at hc'
      rw [o.len] at ha
      cases hk : n - S.length with
      | zero =>
        rw [hk] at ha hc'
        obtain rfl : p = a := by simpa using ha
        obtain rfl : c = c' := by simpa using hc'
        exact hc
      | succ k => rw [hk] at ha; simp at ha
/-! a list that is being built -/
def Pl.hide (μ : Pl) (p : Addr) : Pl := ⟨μ.c, p :: μ.h⟩
def Pl.show_ (μ : Pl) (h : List Addr) : Pl := ⟨μ.c, h⟩
theorem hide_step {p : Addr} {o : HO} (hp : H p = none) : StepD μ (μ.hide p) H (upd H p o) := ⟨List.prefix_refl μ.c, fun a u _ _ _ h => by
  rw [upd_ne (ne_of_none h hp)]
  exact h, fun a h => by
  rcases h with h | h
  · exact .inl h
  · rcases List.mem_cons.mp h with h | h
    · exact .inr (.inr fun xs q => by rw [h, hp] at q; cases q)
    · exact .inr (.inl h)⟩
theorem Ok.hide {S : Store} (o : Ok K mg μ H S) {p : Addr} {vs : List V} (hp : H p = none) : Ok K mg (μ.hide p) (upd H p (.lst vs)) S := by
  obtain ⟨hpm, hph⟩ := o.nofree hp
  refine ⟨o.len, o.nd, fun a ha => ?_, fun n a c ha hc => ?_⟩
  · rcases List.mem_cons.mp ha with z | z
    · rw [z]; exact ⟨hpm, vs, upd_same⟩
    · obtain ⟨q, ws, e⟩ := o.hd a z
      exact ⟨q, ws, by rw [upd_ne (ne_of_none e hp)]; exact e⟩
  · obtain ⟨u, e, _⟩ := o.chg (List.mem_of_getElem? ha)
    exact (o.at_ n a c ha hc).monoD o (hide_step hp) (upd_ne (ne_of_none e hp))
/-- the hidden list gets another content -/
theorem grow_step {p : Addr} {o : HO} (hp : p ∈ μ.h) : StepD μ μ H (upd H p o) := ⟨List.prefix_refl μ.c, fun a u _ hh _ h => by
  rw [upd_ne (fun z => hh (by rw [z]; exact hp))]
  exact h, fun a h => h.elim .inl fun z => .inr (.inl z)⟩
theorem Ok.grow {S : Store} (o : Ok K mg μ H S) {p : Addr} {vs : List V} (hp : p ∈ μ.h) : Ok K mg μ (upd H p (.lst vs)) S := by
  refine ⟨o.len, o.nd, fun a ha => ?_, fun n a c ha hc => ?_⟩
  · obtain ⟨q, ws, e⟩ := o.hd a ha
    by_cases z : a = p
    · rw [z]; exact ⟨(o.hd p hp).1, vs, upd_same⟩
    · exact ⟨q, ws, by rw [upd_ne z]; exact e⟩
  · exact (o.at_ n a c ha hc).monoD o (grow_step hp) (upd_ne (fun z => (o.hd p hp).1 (by rw [← z]; exact List.mem_of_getElem? ha)))
mutual
theorem Den.bare {h' : List Addr} (hs : ∀ a ∈ h', a ∈ μ.h) : ∀ {v : V} (d : D), Den K mg μ H v d → Den K mg (μ.show_ h') H v d
  | _, .non, .non => .non
  | _, .bl _, .bl b => .bl b
  | _, .int _, .int i => .int i
  | _, .str _, .str x => .str x
  | _, .ty _, .ty n => .ty n
  | _, .tup ds, .tup h t => .tup h (DenL.bare hs ds t)
  | _, .lst ds, .lst h hn hh t => .lst h hn (fun z => hh (hs _ z)) (DenL.bare hs ds t)
  | _, .scr ds, .scr h t => .scr h (DenL.bare hs ds t)
  | _, .loc _, .loc h => .loc h
  | _, .fn _, .fn h => .fn h
  | _, .exo _ _ _ _ _, .exo0 a => .exo0 a
  | _, .exo _ _ _ _ ds, .exo1 a h e t => .exo1 a h e (DenL.bare hs ds t)
theorem DenL.bare {h' : List Addr} (hs : ∀ a ∈ h', a ∈ μ.h) : ∀ {vs : List V} (ds : List D), DenL K mg μ H vs ds → DenL K mg (μ.show_ h') H vs ds
  | _, [], .nil => .nil
  | _, d :: ds, .cons h t => .cons (Den.bare hs d h) (DenL.bare hs ds t)
end
theorem Ok.bare {S : Store} (o : Ok K mg μ H S) {h' : List Addr} (hs : ∀ a ∈ h', a ∈ μ.h) : Ok K mg (μ.show_ h') H S := ⟨o.len, o.nd, fun a ha => o.hd a (hs a ha), fun n a c ha hc => by
  have := o.at_ n a c ha hc
  cases c with
  | lst ds => obtain ⟨vs, h, t⟩ := this; exact ⟨vs, h, t.bare hs⟩
  | dct ds => obtain ⟨vs, h, e, t⟩ := this; exact ⟨vs, h, e, t.bare hs⟩⟩
end
end PyM
set_option Elab.async false
set_option linter.all false
set_option maxRecDepth 100000
set_option maxHeartbeats 2000000
namespace PyM
open PySem PySem.Spec PyProof.Rows L2

/-! ### results -/
inductive Res (α : Type) where
  | ok (x : α) (S : Store)
  | exc (c : Str) (fs : List (Str × D)) (S : Store)
  | bad
abbrev M (α : Type) := Store → Res α
namespace M
def pure {α : Type} (x : α) : M α := fun S => .ok x S
def bind {α β : Type} (m : M α) (k : α → M β) : M β := fun S => match m S with
  | .ok x S' => k x S'
  | .exc c fs S' => .exc c fs S'
  | .bad => .bad
def bad {α : Type} : M α := fun _ => .bad
def lift {α : Type} (o : Option α) : M α := fun S => match o with
  | some x => .ok x S
  | none => .bad
end M
/-- an operation that reads the store -/
def M.op2 (f : Store → D → D → Option D) (x y : D) : M D := fun S => match f S x y with
  | some d => .ok d S
  | none => .bad
def M.op1 (f : Store → D → Option D) (x : D) : M D := fun S => match f S x with
  | some d => .ok d S
  | none => .bad
abbrev Env' := List (Option D)
def var (ρ : Env') (i : Nat) : M D := match ρ[i]? with
  | some (some d) => M.pure d
  | _ => M.bad

section
variable (K : PySem.W.Frag) (mg : Str → Option Value)
def EnvOk (μ : Pl) (H : Hp) (σ : L2.St) (ρ : Env') : Prop := ρ.length = σ.length ∧ ∀ (i : Nat) (d : D), ρ[i]? = some (some d) → ∃ v, σ[i]? = some (some v) ∧ Den K mg μ H v d
def ExcIs (μ : Pl) (H : Hp) (cls : Value) (d : Option Addr) (c : Str) (fs : List (Str × D)) : Prop := ∃ C : Addr, mg c = some (.ref C) ∧ cls = .ref C ∧
  ((fs = [] ∧ d = none) ∨ ∃ (dx : Addr) (fv : List (Str × V)), d = some dx ∧ H dx = some (.xd fv) ∧ fv.map (·.1) = fs.map (·.1) ∧ DenL K mg μ H (fv.map (·.2)) (fs.map (·.2)))
def XP (μ : Pl) (H : Hp) (E : XK) (c : Str) (fs : List (Str × D)) (S' : Store) : Prop :=
  ∀ cls d H' μ', Step μ μ' H H' → Ok K mg μ' H' S' → ExcIs K mg μ' H' cls d c fs → E cls d H'
def PostD (μ : Pl) (H : Hp) (E : XK) (r : Res D) (Q : VK) : Prop := match r with
  | .ok d S' => ∀ v H' μ', Step μ μ' H H' → Ok K mg μ' H' S' → Den K mg μ' H' v d → Q v H'
  | .exc c fs S' => XP K mg μ H E c fs S'
  | .bad => False
def PostB (μ : Pl) (H : Hp) (E : XK) (r : Res Bool) (Q : Bool → Hp → Prop) : Prop := match r with
  | .ok b S' => ∀ H' μ', Step μ μ' H H' → Ok K mg μ' H' S' → Q b H'
  | .exc c fs S' => XP K mg μ H E c fs S'
  | .bad => False
def PostL (μ : Pl) (H : Hp) (E : XK) (r : Res (List D)) (Q : List V → Hp → Prop) : Prop := match r with
  | .ok ds S' => ∀ vs H' μ', Step μ μ' H H' → Ok K mg μ' H' S' → DenL K mg μ' H' vs ds → Q vs H'
  | .exc c fs S' => XP K mg μ H E c fs S'
  | .bad => False
/-- the readings -/
def tE (E : L2.St → XK) (m : Env' → M D) : TE := fun σ H Q => ∃ ρ μ S, EnvOk K mg μ H σ ρ ∧ Ok K mg μ H S ∧ PostD K mg μ H (E σ) (m ρ S) Q
def tB' (E : L2.St → XK) (m : Env' → M Bool) : TT := fun σ H Q => ∃ ρ μ S, EnvOk K mg μ H σ ρ ∧ Ok K mg μ H S ∧ PostB K mg μ H (E σ) (m ρ S) Q
def tA' (E : L2.St → XK) (m : Env' → M (List D)) : TA := fun σ H Q => ∃ ρ μ S, EnvOk K mg μ H σ ρ ∧ Ok K mg μ H S ∧ PostL K mg μ H (E σ) (m ρ S) Q
end
section
variable {K : PySem.W.Frag} {mg : Str → Option Value} {μ μ' : Pl} {H H' : Hp} {S S' : Store} {σ : L2.St} {ρ : Env'} {E : XK}
theorem EnvOk.mono (e : EnvOk K mg μ H σ ρ) (o : Ok K mg μ H S) (st : Step μ μ' H H') : EnvOk K mg μ' H' σ ρ := ⟨e.1, fun i d h => by
  obtain ⟨v, a, b⟩ := e.2 i d h
  exact ⟨v, a, b.mono o st⟩⟩
theorem XP.of {c : Str} {fs : List (Str × D)} (st : Step μ μ' H H') (h : XP K mg μ H E c fs S) : XP K mg μ' H' E c fs S := fun cls d H2 μ2 s2 o2 x => h cls d H2 μ2 (st.trans s2) o2 x
theorem PostD.of {r : Res D} {Q : VK} (st : Step μ μ' H H') (h : PostD K mg μ H E r Q) : PostD K mg μ' H' E r Q := by
  cases r with
  | ok d S' => exact fun v H2 μ2 s2 o2 x => h v H2 μ2 (st.trans s2) o2 x
  | exc c fs S' => exact XP.of st h
  | bad => exact h
theorem PostB.of {r : Res Bool} {Q : Bool → Hp → Prop} (st : Step μ μ' H H') (h : PostB K mg μ H E r Q) : PostB K mg μ' H' E r Q := by
  cases r with
  | ok d S' => exact fun H2 μ2 s2 o2 => h H2 μ2 (st.trans s2) o2
  | exc c fs S' => exact XP.of st h
  | bad => exact h
theorem PostL.of {r : Res (List D)} {Q : List V → Hp → Prop} (st : Step μ μ' H H') (h : PostL K mg μ H E r Q) : PostL K mg μ' H' E r Q := by
  cases r with
  | ok d S' => exact fun v H2 μ2 s2 o2 x => h v H2 μ2 (st.trans s2) o2 x
  | exc c fs S' => exact XP.of st h
  | bad => exact h
theorem PostD.imp {r : Res D} {Q Q' : VK} (h : PostD K mg μ H E r Q) (k : ∀ d S', r = .ok d S' → ∀ v H' μ', Step μ μ' H H' → Ok K mg μ' H' S' → Den K mg μ' H' v d → Q v H' → Q' v H') : PostD K mg μ H E r Q' := by
  cases r with
  | ok d S' => exact fun v H2 μ2 s2 o2 x => k d S' rfl v H2 μ2 s2 o2 x (h v H2 μ2 s2 o2 x)
  | exc c fs S' => exact h
  | bad => exact h
/-- a part, then the rest -/
theorem PostD.bind {α : Type} {m : M D} {k : D → M α} {S : Store} {R : Res α → Prop} (hx : ∀ c fs S', m S = .exc c fs S' → R (.exc c fs S')) (hok : ∀ d S', m S = .ok d S' → R (k d S')) (hb : R .bad) : R (M.bind m k S) := by
  unfold M.bind
  cases e : m S with
  | ok d S' => exact hok d S' e
  | exc c fs S' => exact hx c fs S' e
  | bad => exact hb
end

/-! ### weakening -/
theorem _root_.L2.PE.weak {X : Cx} {e : Expr} {t t' : TE} (h : PE X e t) (w : ∀ σ H Q, t' σ H Q → t σ H Q) : PE X e t' := ⟨fun pins s σ H Q I q => h.run pins s σ H Q I (w σ H Q q)⟩
theorem _root_.L2.PT.weak {X : Cx} {e : Expr} {t t' : TT} (h : PT X e t) (w : ∀ σ H Q, t' σ H Q → t σ H Q) : PT X e t' := ⟨fun pins s σ H Q I q => h.run pins s σ H Q I (w σ H Q q)⟩
theorem _root_.L2.PW.weak {X : Cx} {e : Expr} {t t' : TT} (h : PW X e t) (w : ∀ σ H Q, t' σ H Q → t σ H Q) : PW X e t' := ⟨fun whole pins s σ H Q I q => h.run whole pins s σ H Q I (w σ H Q q)⟩
theorem _root_.L2.PA.weak {X : Cx} {es : List Expr} {t t' : TA} (h : PA X es t) (w : ∀ σ H Q, t' σ H Q → t σ H Q) : PA X es t' := ⟨fun pos pins s σ H Q I q => h.run pos pins s σ H Q I (w σ H Q q)⟩

abbrev ME (X : Cx) (E : L2.St → XK) (e : Expr) (m : Env' → M D) : Prop := PE X e (tE X.K X.mg E m)
abbrev MT (X : Cx) (E : L2.St → XK) (e : Expr) (m : Env' → M Bool) : Prop := PT X e (tB' X.K X.mg E m)
abbrev MW (X : Cx) (E : L2.St → XK) (e : Expr) (m : Env' → M Bool) : Prop := PW X e (tB' X.K X.mg E m)
abbrev MA (X : Cx) (E : L2.St → XK) (es : List Expr) (m : Env' → M (List D)) : Prop := PA X es (tA' X.K X.mg E m)

section
variable {X : Cx} {E : L2.St → XK} {a b c e : Expr} {es : List Expr} {ma mb mc : Env' → M D} {pos : Pos}

/-- from a reading t of a part with m, for the reading t' of the whole: run the part -/
theorem tE.run {K : PySem.W.Frag} {mg : Str → Option Value} {m : Env' → M D} {σ : L2.St} {H : Hp} {μ : Pl} {ρ : Env'} {S : Store} {α : Type} {k : D → M α} {Q : VK} {R : Res α → Prop}
    (he : EnvOk K mg μ H σ ρ) (ho : Ok K mg μ H S) (hR : R (M.bind (m ρ) k S)) (hx : ∀ c fs S', R (.exc c fs S') → XP K mg μ H (E σ) c fs S') (hb : ¬ R .bad)
    (hk : ∀ d S', m ρ S = .ok d S' → R (k d S') → ∀ v H' μ', Step μ μ' H H' → Ok K mg μ' H' S' → EnvOk K mg μ' H' σ ρ → Den K mg μ' H' v d → Q v H') : tE K mg E m σ H Q := by
  refine ⟨ρ, μ, S, he, ho, ?_⟩
  unfold M.bind at hR
  cases e : m ρ S with
  | ok d S' =>
    rw [e] at hR
    exact fun v H' μ' st o' hd => hk d S' e hR v H' μ' st o' (he.mono ho st) hd
  | exc c fs S' =>
    rw [e] at hR
    exact hx c fs S' hR
  | bad =>
    rw [e] at hR
    exact absurd hR hb

theorem me_var (i : Nat) {x : Str} (hN : X.N[i]? = some x := by rfl) (hv : Vis X.env.scope x := by first | exact Or.inl rfl | exact Or.inr (Or.inl rfl) | exact Or.inr (Or.inr rfl)) (hd : (x == ("__debug__" : Str)) = false := by decide)
    (hcd : (x == ("__classdict__" : Str)) = false := by decide) : ME X E (.Name x pos) (fun ρ => var ρ i) := (pe_var hN hv hd hcd).weak fun σ H Q h => by
  obtain ⟨ρ, μ, S, he, ho, h0⟩ := h
  have h : PostD X.K X.mg μ H (E σ) (var ρ i S) Q := h0
  unfold var at h
  cases e : ρ[i]? with
  | none => rw [e] at h; exact h.elim
  | some o =>
    cases o with
    | none => rw [e] at h; exact h.elim
    | some d =>
      rw [e] at h
      obtain ⟨v, a, b⟩ := he.2 i d e
      exact ⟨v, a, h v H μ .refl ho b⟩
/-- a value that is the same everywhere -/
theorem me_const {v : V} {d : D} (h : PE X e (tC v)) (hd : ∀ μ H, Den X.K X.mg μ H v d) : ME X E e (fun _ => M.pure d) := h.weak fun σ H Q h => by
  obtain ⟨ρ, μ, S, he, ho, h⟩ := h
  exact h v H μ .refl ho (hd μ H)
theorem me_int {i : Int} {j} : ME X E (.Constant (.int i) j pos) (fun _ => M.pure (.int i)) := me_const pe_int fun _ _ => .int i
theorem me_bl {i : Bool} {j} : ME X E (.Constant (.bool i) j pos) (fun _ => M.pure (.bl i)) := me_const pe_bl fun _ _ => .bl i
theorem me_non {j} : ME X E (.Constant .none j pos) (fun _ => M.pure .non) := me_const pe_non fun _ _ => .non
theorem me_str {x : Str} {j} : ME X E (.Constant (.str x) j pos) (fun _ => M.pure (.str x)) := me_const pe_str fun _ _ => .str x
/-- a global that is a def -/
theorem me_fn {x : Str} {f : Addr} (hm : X.mg x = some (.ref f)) (hg : Gl X x := by rfl) (hd : (x == ("__debug__" : Str)) = false := by decide) : ME X E (.Name x pos) (fun _ => M.pure (.fn x)) :=
  me_const (pe_glob (v := .ref f) hg hm rfl hd) fun _ _ => .fn hm
theorem me_glob {x : Str} {v : V} {u : Value} {d : D} (hm : X.mg x = some u) (r : RelV v u) (hd : ∀ μ H, Den X.K X.mg μ H v d) (hg : Gl X x := by rfl) (hdb : (x == ("__debug__" : Str)) = false := by decide) : ME X E (.Name x pos) (fun _ => M.pure d) :=
  me_const (pe_glob hg hm r hdb) hd

/-! ### two-place operations -/
/-- what an operation asks by values -/
def rP2 (K : PySem.W.Frag) (mg : Str → Option Value) (f : Store → D → D → Option D) : R2 := fun v w H Q => ∃ μ S x y d, Ok K mg μ H S ∧ Den K mg μ H v x ∧ Den K mg μ H w y ∧ f S x y = some d ∧
  ∀ v' H', Step μ μ H H' → Ok K mg μ H' S → Den K mg μ H' v' d → Q v' H'
def bin2 (f : Store → D → D → Option D) (ma mb : Env' → M D) : Env' → M D := fun ρ => M.bind (ma ρ) fun x => M.bind (mb ρ) fun y => M.op2 f x y
theorem tOp_of {f : Store → D → D → Option D} {σ : L2.St} {H : Hp} {Q : VK} (h : tE X.K X.mg E (bin2 f ma mb) σ H Q) : tOp (rP2 X.K X.mg f) (tE X.K X.mg E ma) (tE X.K X.mg E mb) σ H Q := by
  obtain ⟨ρ, μ, S, he, ho, h⟩ := h
  refine tE.run (k := fun x => M.bind (mb ρ) fun y => M.op2 f x y) (R := fun r => PostD X.K X.mg μ H (E σ) r Q) he ho h (fun _ _ _ z => z) (fun z => z) fun x S1 _ h1 v H1 μ1 s1 o1 e1 d1 => ?_
  refine tE.run (k := fun y => M.op2 f x y) (R := fun r => PostD X.K X.mg μ1 H1 (E σ) r Q) e1 o1 (PostD.of s1 h1) (fun _ _ _ z => z) (fun z => z) fun y S2 _ h2 w H2 μ2 s2 o2 e2 d2 => ?_
  unfold M.op2 at h2
  cases q : f S2 x y with
  | none => rw [q] at h2; exact h2.elim
  | some d =>
    rw [q] at h2
    exact ⟨μ2, S2, x, y, d, o2, d1.mono o1 s2, d2, q, fun v' H' st o' hd => h2 v' H' μ2 (s2.trans st) o' hd⟩
theorem me_bin {op : Operator} {f : Store → D → D → Option D} (hr : OpR X (binaryOp op) (rP2 X.K X.mg f)) (ha : ME X E a ma) (hb : ME X E b mb) : ME X E (.BinOp a op b pos) (bin2 f ma mb) :=
  (pe_op hr ha hb).weak fun _ _ _ h => tOp_of h
theorem me_cmp {op : CmpOp} {f : Store → D → D → Option D} (hr : OpR X (compareOp op) (rP2 X.K X.mg f)) (ha : ME X E a ma) (hb : ME X E b mb) (hm : behindInMarks op b = false := by rfl) : ME X E (.Compare a [op] [b] pos) (bin2 f ma mb) :=
  (pe_cmpR hr ha hb hm).weak fun _ _ _ h => tOp_of h
end
end PyM
set_option Elab.async false
set_option linter.all false
set_option maxRecDepth 100000
set_option maxHeartbeats 2000000
namespace PyM
open PySem PySem.Spec PyProof.Rows L2

/-! ### operations on values of the mirror -/
/-- a list's items, wherever it is kept -/
def asL (S : Store) : D → Option (List D)
  | .lst ds => some ds
  | .loc n => match S[n]? with
    | some (.lst ds) => some ds
    | _ => none
  | _ => none
def addP (S : Store) : D → D → Option D
  | .int i, .int j => some (.int (i + j))
  | .str x, .str y => if x.length + y.length ≤ sizeLine then some (.str (x ++ y)) else none
  | .tup xs, .tup ys => if xs.length + ys.length ≤ sizeLine then some (.tup (xs ++ ys)) else none
  | x, y => match asL S x, asL S y with
    | some xs, some ys => if xs.length + ys.length ≤ sizeLine then some (.lst (xs ++ ys)) else none
    | _, _ => none
def subP (_ : Store) : D → D → Option D
  | .int i, .int j => some (.int (i - j))
  | _, _ => none
instance (i j : Int) : Decidable (CMul i j) := by unfold CMul; exact inferInstance
instance (i j : Int) : Decidable (CDiv i j) := by unfold CDiv; exact inferInstance
instance (i j : Int) : Decidable (CPow i j) := by unfold CPow; exact inferInstance
def mulP (_ : Store) : D → D → Option D
  | .int i, .int j => if CMul i j then some (.int (i * j)) else none
  | _, _ => none
def divP (_ : Store) : D → D → Option D
  | .int i, .int j => if CDiv i j then some (.int (i / j)) else none
  | _, _ => none
def modP (_ : Store) : D → D → Option D
  | .int i, .int j => if 0 < j then some (.int (i % j)) else none
  | _, _ => none
def powP (_ : Store) : D → D → Option D
  | .int i, .int j => if CPow i j then some (.int (i ^ j.toNat)) else none
  | _, _ => none
/- the plain data -/
mutual
def D.py (S : Store) : D → Option PyData
  | .non => some .none
  | .bl b => some (.bool b)
  | .int i => some (.int i)
  | .str x => some (.str x)
  | .tup ds => (D.pyL S ds).map .tuple
  | .lst ds => (D.pyL S ds).map .list
  | .loc n => match S[n]? with
    | some (.lst ds) => (D.pyF ds).map .list
    | _ => none
  | .fn _ => none
  | .ty _ => none
  | .scr _ => none
  | .exo _ _ _ _ _ => none
def D.pyL (S : Store) : List D → Option (List PyData)
  | [] => some []
  | d :: ds => match D.py S d, D.pyL S ds with
    | some p, some ps => some (p :: ps)
    | _, _ => none
/-- flat items of a cell -/
def D.pyF : List D → Option (List PyData)
  | [] => some []
  | .non :: ds => (D.pyF ds).map (.none :: ·)
  | .bl b :: ds => (D.pyF ds).map (.bool b :: ·)
  | .int i :: ds => (D.pyF ds).map (.int i :: ·)
  | .str x :: ds => (D.pyF ds).map (.str x :: ·)
  | _ :: _ => none
end
def scalD : D → Option V
  | .non => some .non
  | .bl b => some (.bl b)
  | .int i => some (.int i)
  | .str x => some (.str x)
  | _ => none
def scalL : List D → Option (List V)
  | [] => some []
  | d :: ds => match scalD d, scalL ds with
    | some v, some vs => some (v :: vs)
    | _, _ => none
def eqDeep (S : Store) (x y : D) : Option Bool := match x.py S, y.py S with
  | some p, some q => if SeqAt.shaped p && SeqAt.shaped q then some (PyData.eqv p q) else none
  | _, _ => none
def eqQ (S : Store) (x y : D) : Option Bool := match scalD x, scalD y with
  | some v, some w => if scal v w then some (decide (v = w)) else eqDeep S x y
  | _, _ => eqDeep S x y
def eqP (S : Store) (x y : D) : Option D := (eqQ S x y).map .bl
def neP (S : Store) (x y : D) : Option D := (eqQ S x y).map fun b => .bl (!b)
def ltP (_ : Store) : D → D → Option D
  | .int i, .int j => some (.bl (decide (i < j)))
  | .str x, .str y => some (.bl (decide (x.cps.toList < y.cps.toList)))
  | _, _ => none
def leP (_ : Store) : D → D → Option D
  | .int i, .int j => some (.bl (decide (i ≤ j)))
  | _, _ => none
def gtP (_ : Store) : D → D → Option D
  | .int i, .int j => some (.bl (decide (j < i)))
  | _, _ => none
def geP (_ : Store) : D → D → Option D
  | .int i, .int j => some (.bl (decide (j ≤ i)))
  | _, _ => none
def isP (_ : Store) : D → D → Option D
  | .non, .non => some (.bl true)
  | _, .non => some (.bl false)
  | _, _ => none
def isnP (_ : Store) : D → D → Option D
  | .non, .non => some (.bl false)
  | _, .non => some (.bl true)
  | _, _ => none
/-- a list's or a tuple's items -/
def asQ (S : Store) : D → Option (List D)
  | .tup ds => some ds
  | d => asL S d
def inQ (S : Store) : D → D → Option Bool
  | .str x, .str y => match x.cps.toList with
    | [c] => some (decide (c ∈ y.cps.toList))
    | _ => none
  | x, y => match asQ S y with
    | some ds => match scalD x, scalL ds with
      | some v, some vs => some (inV v vs)
      | _, _ => none
    | none => none
def inP (S : Store) (x y : D) : Option D := (inQ S x y).map .bl
def ninP (S : Store) (x y : D) : Option D := (inQ S x y).map fun b => .bl (!b)
section
variable {K : PySem.W.Frag} {mg : Str → Option Value} {μ : Pl} {H : Hp} {S : Store}
theorem asL_den (o : Ok K mg μ H S) {v : V} {d : D} {ds : List D} (h : Den K mg μ H v d) (e : asL S d = some ds) : ∃ (p : Addr) (vs : List V), v = .ref p ∧ H p = some (.lst vs) ∧ DenL K mg μ H vs ds := by
  cases h with
  | lst h1 h2 hh h3 =>
    obtain rfl := Option.some.inj e
    exact ⟨_, _, rfl, h1, h3⟩
  | loc h1 =>
    rename_i n a
    unfold asL at e
    dsimp only at e
    cases q : S[n]? with
    | none => rw [q] at e; cases e
    | some c =>
      cases c with
      | dct kvs => rw [q] at e; cases e
      | lst es =>
        rw [q] at e
        obtain rfl := Option.some.inj e
        obtain ⟨vs, h2, h3⟩ := o.at_ n a _ h1 q
        exact ⟨_, vs, rfl, h2, h3⟩
  | _ => cases e
/-- a new list, a new tuple -/
theorem new_lst (o : Ok K mg μ H S) {p : Addr} {vs : List V} {ds : List D} (hp : H p = none) (t : DenL K mg μ H vs ds) :
    Step μ μ H (upd H p (.lst vs)) ∧ Ok K mg μ (upd H p (.lst vs)) S ∧ Den K mg μ (upd H p (.lst vs)) (.ref p) (.lst ds) :=
  ⟨.fresh hp, o.fresh hp, .lst upd_same (o.nofree hp).1 (o.nofree hp).2 (t.mono o (.fresh hp))⟩
theorem new_tup (o : Ok K mg μ H S) {p : Addr} {vs : List V} {ds : List D} (hp : H p = none) (t : DenL K mg μ H vs ds) :
    Step μ μ H (upd H p (.tup vs)) ∧ Ok K mg μ (upd H p (.tup vs)) S ∧ Den K mg μ (upd H p (.tup vs)) (.ref p) (.tup ds) :=
  ⟨.fresh hp, o.fresh hp, .tup (.inl (.inl upd_same)) (t.mono o (.fresh hp))⟩
theorem addP_inv {x y d : D} (h : addP S x y = some d) : (∃ i j, x = .int i ∧ y = .int j ∧ d = .int (i + j)) ∨ (∃ a b, x = .str a ∧ y = .str b ∧ a.length + b.length ≤ sizeLine ∧ d = .str (a ++ b)) ∨
    (∃ a b, x = .tup a ∧ y = .tup b ∧ a.length + b.length ≤ sizeLine ∧ d = .tup (a ++ b)) ∨ (∃ a b, asL S x = some a ∧ asL S y = some b ∧ a.length + b.length ≤ sizeLine ∧ d = .lst (a ++ b)) := by
  unfold addP at h
  split at h
  · exact .inl ⟨_, _, rfl, rfl, (Option.some.inj h).symm⟩
  · split at h
    · exact .inr (.inl ⟨_, _, rfl, rfl, by assumption, (Option.some.inj h).symm⟩)
    · cases h
  · split at h
    · exact .inr (.inr (.inl ⟨_, _, rfl, rfl, by assumption, (Option.some.inj h).symm⟩))
    · cases h
  · split at h
    · split at h
      · exact .inr (.inr (.inr ⟨_, _, by assumption, by assumption, by assumption, (Option.some.inj h).symm⟩))
      · cases h
    · cases h
end
section
variable {X : Cx}
theorem r_add : OpR X (binaryOp .Add) (rP2 X.K X.mg addP) := by
  intro pins s σ H x y v u Q I rx ry h
  obtain ⟨μ, S, a, b, d, o, da, db, e, k⟩ := h
  rcases addP_inv e with ⟨i, j, rfl, rfl, rfl⟩ | ⟨i, j, rfl, rfl, z, rfl⟩ | ⟨i, j, rfl, rfl, z, rfl⟩ | ⟨i, j, e1, e2, z, rfl⟩
  · cases da; cases db
    exact op_add pins s σ H _ _ v u Q I rx ry ⟨i, j, rfl, rfl, k _ _ .refl o (.int _)⟩
  · cases da; cases db
    exact op_add_str pins s σ H _ _ v u Q I rx ry ⟨i, j, rfl, rfl, z, k _ _ .refl o (.str _)⟩
  · cases da with
    | tup h1 h2 =>
      cases db with
      | tup h3 h4 =>
        rename_i p vs q ws
        have l1 := h2.length
        have l2 := h4.length
        refine op_catA pins s σ H _ _ v u Q I rx ry ⟨p, q, vs, ws, rfl, rfl, h1, h3, by omega, fun ev => ?_, fun _ ew => ?_, fun _ _ p hp => ?_⟩
        · subst ev
          cases h2
          exact k _ _ .refl o (.tup h3 h4)
        · subst ew
          cases h4
          rw [List.append_nil] at k
          exact k _ _ .refl o (.tup h1 h2)
        · obtain ⟨s1, o1, d1⟩ := new_tup o hp (h2.append h4)
          exact k _ _ s1 o1 d1
  · obtain ⟨p, vs, rfl, h1, h2⟩ := asL_den o da e1
    obtain ⟨q, ws, rfl, h3, h4⟩ := asL_den o db e2
    have l1 := h2.length
    have l2 := h4.length
    refine op_cat pins s σ H _ _ v u Q I rx ry ⟨p, q, vs, ws, rfl, rfl, h1, h3, by omega, fun p hp => ?_⟩
    obtain ⟨s1, o1, d1⟩ := new_lst o hp (h2.append h4)
    exact k _ _ s1 o1 d1
theorem r_sub : OpR X (binaryOp .Sub) (rP2 X.K X.mg subP) := by
  intro pins s σ H x y v u Q I rx ry h
  obtain ⟨μ, S, a, b, d, o, da, db, e, k⟩ := h
  unfold subP at e
  split at e
  · obtain rfl := Option.some.inj e
    cases da; cases db
    exact op_sub pins s σ H _ _ v u Q I rx ry ⟨_, _, rfl, rfl, k _ _ .refl o (.int _)⟩
  · cases e
theorem r_mul : OpR X (binaryOp .Mult) (rP2 X.K X.mg mulP) := by
  intro pins s σ H x y v u Q I rx ry h
  obtain ⟨μ, S, a, b, d, o, da, db, e, k⟩ := h
  unfold mulP at e
  split at e
  · split at e
    · obtain rfl := Option.some.inj e
      cases da; cases db
      exact op_mul pins s σ H _ _ v u Q I rx ry ⟨_, _, rfl, rfl, by assumption, k _ _ .refl o (.int _)⟩
    · cases e
  · cases e
theorem r_div : OpR X (binaryOp .FloorDiv) (rP2 X.K X.mg divP) := by
  intro pins s σ H x y v u Q I rx ry h
  obtain ⟨μ, S, a, b, d, o, da, db, e, k⟩ := h
  unfold divP at e
  split at e
  · split at e
    · obtain rfl := Option.some.inj e
      cases da; cases db
      exact op_fdiv pins s σ H _ _ v u Q I rx ry ⟨_, _, rfl, rfl, by assumption, k _ _ .refl o (.int _)⟩
    · cases e
  · cases e
theorem r_mod : OpR X (binaryOp .Mod) (rP2 X.K X.mg modP) := by
  intro pins s σ H x y v u Q I rx ry h
  obtain ⟨μ, S, a, b, d, o, da, db, e, k⟩ := h
  unfold modP at e
  split at e
  · split at e
    · obtain rfl := Option.some.inj e
      cases da; cases db
      exact op_mod pins s σ H _ _ v u Q I rx ry ⟨_, _, rfl, rfl, by assumption, k _ _ .refl o (.int _)⟩
    · cases e
  · cases e
theorem r_pow : OpR X (binaryOp .Pow) (rP2 X.K X.mg powP) := by
  intro pins s σ H x y v u Q I rx ry h
  obtain ⟨μ, S, a, b, d, o, da, db, e, k⟩ := h
  unfold powP at e
  split at e
  · split at e
    · obtain rfl := Option.some.inj e
      cases da; cases db
      exact op_pow pins s σ H _ _ v u Q I rx ry ⟨_, _, rfl, rfl, by assumption, k _ _ .refl o (.int _)⟩
    · cases e
  · cases e
end
section
variable {K : PySem.W.Frag} {mg : Str → Option Value} {μ : Pl} {H : Hp} {S : Store}
theorem scalD_den {v w : V} {d : D} (h : Den K mg μ H v d) (e : scalD d = some w) : v = w := by
  cases h <;> simp [scalD] at e <;> exact e
theorem scalL_den : ∀ {vs ws : List V} {ds : List D}, DenL K mg μ H vs ds → scalL ds = some ws → vs = ws
  | _, _, _, .nil, e => by simp [scalL] at e; exact e.symm ▸ rfl
  | _, _, _, .cons (d := d) (ds := ds) h t, e => by
    unfold scalL at e
    cases e1 : scalD d with
    | none => rw [e1] at e; cases e
    | some v =>
      cases e2 : scalL ds with
      | none => rw [e1, e2] at e; cases e
      | some vs =>
        rw [e1, e2] at e
        rw [← Option.some.inj e, scalD_den h e1, scalL_den t e2]
theorem scalD_flat {d : D} {v : V} (e : scalD d = some v) : flatV v = true := by
  cases d <;> simp [scalD] at e <;> subst e <;> rfl
theorem scalL_flat : ∀ {ds : List D} {vs : List V}, scalL ds = some vs → vs.all flatV = true
  | [], _, e => by simp [scalL] at e; subst e; rfl
  | d :: ds, _, e => by
    unfold scalL at e
    cases e1 : scalD d with
    | none => rw [e1] at e; cases e
    | some v =>
      cases e2 : scalL ds with
      | none => rw [e1, e2] at e; cases e
      | some vs =>
        rw [e1, e2] at e
        obtain rfl := Option.some.inj e
        simp [scalD_flat e1, scalL_flat e2]
theorem pyF_den : ∀ {vs : List V} (ds : List D) {ps : List PyData}, DenL K mg μ H vs ds → D.pyF ds = some ps → DpAll K H vs ps
  | _, [], _, .nil, e => by simp [D.pyF] at e; subst e; exact .nil
  | _, d :: ds, _, .cons h t, e => by
    cases h <;> simp [D.pyF] at e <;> obtain ⟨qs, e, rfl⟩ := e
    · exact .cons .non (pyF_den ds t e)
    · exact .cons (.bl _) (pyF_den ds t e)
    · exact .cons (.int _) (pyF_den ds t e)
    · exact .cons (.str _) (pyF_den ds t e)
mutual
theorem py_den (o : Ok K mg μ H S) : ∀ {v : V} (d : D) {p : PyData}, Den K mg μ H v d → d.py S = some p → Dp K H v p
  | _, .non, _, .non, e => by simp [D.py] at e; subst e; exact .non
  | _, .bl _, _, .bl b, e => by simp [D.py] at e; subst e; exact .bl b
  | _, .int _, _, .int i, e => by simp [D.py] at e; subst e; exact .int i
  | _, .str _, _, .str x, e => by simp [D.py] at e; subst e; exact .str x
  | _, .ty _, _, .ty n, e => by simp [D.py] at e
  | _, .tup ds, _, .tup h t, e => by
    simp [D.py] at e
    obtain ⟨ps, e, rfl⟩ := e
    exact .tup h (pyL_den o ds t e)
  | _, .lst ds, _, .lst h hn _ t, e => by
    simp [D.py] at e
    obtain ⟨ps, e, rfl⟩ := e
    exact .lst (.inl (.inl h)) (pyL_den o ds t e)
  | _, .scr ds, _, .scr h t, e => by simp [D.py] at e
  | _, .loc n, _, .loc (a := a) h, e => by
    unfold D.py at e
    cases q : S[n]? with
    | none => rw [q] at e; cases e
    | some c =>
      cases c with
      | dct kvs => rw [q] at e; cases e
      | lst es =>
        rw [q] at e
        simp at e
        obtain ⟨ps, e, rfl⟩ := e
        obtain ⟨vs, h2, h3⟩ := o.at_ n a _ h q
        exact .lst (.inl (.inl h2)) (pyF_den es h3 e)
  | _, .fn _, _, .fn h, e => by simp [D.py] at e
theorem pyL_den (o : Ok K mg μ H S) : ∀ {vs : List V} (ds : List D) {ps : List PyData}, DenL K mg μ H vs ds → D.pyL S ds = some ps → DpAll K H vs ps
  | _, [], _, .nil, e => by simp [D.pyL] at e; subst e; exact .nil
  | _, d :: ds, _, .cons h t, e => by
    unfold D.pyL at e
    cases e1 : d.py S with
    | none => rw [e1] at e; cases e
    | some p =>
      cases e2 : D.pyL S ds with
      | none => rw [e1, e2] at e; cases e
      | some ps =>
        rw [e1, e2] at e
        obtain rfl := Option.some.inj e
        exact .cons (py_den o d h e1) (pyL_den o ds t e2)
end
theorem asQ_den (o : Ok K mg μ H S) {v : V} {d : D} {ds : List D} (h : Den K mg μ H v d) (e : asQ S d = some ds) : ∃ (p : Addr) (vs : List V), v = .ref p ∧ (SqL K H p vs ∨ SqT K H p vs) ∧ DenL K mg μ H vs ds := by
  cases h with
  | tup h1 h2 =>
    obtain rfl := Option.some.inj e
    exact ⟨_, _, rfl, .inr h1, h2⟩
  | lst h1 h2 hh h3 =>
    obtain rfl := Option.some.inj e
    exact ⟨_, _, rfl, .inl (.inl (.inl h1)), h3⟩
  | loc h1 =>
    obtain ⟨p, vs, e1, h2, h3⟩ := asL_den o (.loc h1) e
    exact ⟨p, vs, e1, .inl (.inl (.inl h2)), h3⟩
  | _ => cases e
end
section
variable {X : Cx}
theorem r_eqQ {pins : List (Addr × Obj)} {s : Shared} {σ : L2.St} {H : Hp} {x y : V} {v u : Value} {Q : VK} {μ : Pl} {S : Store} {a b : D} {k : Bool} (hu : X.A.units + 64 < cLine) (I : Inv X pins σ H s) (rx : RelV x v) (ry : RelV y u)
    (o : Ok X.K X.mg μ H S) (da : Den X.K X.mg μ H x a) (db : Den X.K X.mg μ H y b) (e : eqQ S a b = some k) :
    (Q (.bl k) H → wpAny (model X.prog X.w) X.A (compareOp .Eq v u) (EP X pins σ Q) X.xe s) ∧ (Q (.bl (!k)) H → wpAny (model X.prog X.w) X.A (compareOp .NotEq v u) (EP X pins σ Q) X.xe s) := by
  have deep : eqDeep S a b = some k → (Q (.bl k) H → wpAny (model X.prog X.w) X.A (compareOp .Eq v u) (EP X pins σ Q) X.xe s) ∧ (Q (.bl (!k)) H → wpAny (model X.prog X.w) X.A (compareOp .NotEq v u) (EP X pins σ Q) X.xe s) := by
    intro e
    unfold eqDeep at e
    cases e1 : a.py S with
    | none => rw [e1] at e; cases e
    | some p =>
      cases e2 : b.py S with
      | none => rw [e1, e2] at e; cases e
      | some q =>
        rw [e1, e2] at e
        dsimp only at e
        split at e
        · rename_i hs
          obtain ⟨hs1, hs2⟩ := Bool.and_eq_true_iff.mp hs
          obtain rfl := Option.some.inj e
          exact ⟨fun q' => op_eqD hu pins s σ H x y v u Q I rx ry ⟨p, q, py_den o a da e1, py_den o b db e2, hs1, hs2, q'⟩,
            fun q' => op_neD hu pins s σ H x y v u Q I rx ry ⟨p, q, py_den o a da e1, py_den o b db e2, hs1, hs2, q'⟩⟩
        · cases e
  unfold eqQ at e
  split at e
  · rename_i p q e1 e2
    split at e
    · rename_i hs
      obtain rfl := Option.some.inj e
      obtain rfl := scalD_den da e1
      obtain rfl := scalD_den db e2
      exact ⟨fun q' => op_eq pins s σ H x y v u Q I rx ry ⟨hs, q'⟩, fun q' => op_ne pins s σ H x y v u Q I rx ry ⟨hs, q'⟩⟩
    · exact deep e
  · exact deep e
theorem r_eq (hu : X.A.units + 64 < cLine) : OpR X (compareOp .Eq) (rP2 X.K X.mg eqP) := by
  intro pins s σ H x y v u Q I rx ry h
  obtain ⟨μ, S, a, b, d, o, da, db, e, k⟩ := h
  unfold eqP at e
  cases q : eqQ S a b with
  | none => rw [q] at e; cases e
  | some r =>
    rw [q] at e
    obtain rfl := Option.some.inj e
    exact (r_eqQ hu I rx ry o da db q).1 (k _ _ .refl o (.bl _))
theorem r_ne (hu : X.A.units + 64 < cLine) : OpR X (compareOp .NotEq) (rP2 X.K X.mg neP) := by
  intro pins s σ H x y v u Q I rx ry h
  obtain ⟨μ, S, a, b, d, o, da, db, e, k⟩ := h
  unfold neP at e
  cases q : eqQ S a b with
  | none => rw [q] at e; cases e
  | some r =>
    rw [q] at e
    obtain rfl := Option.some.inj e
    exact (r_eqQ hu I rx ry o da db q).2 (k _ _ .refl o (.bl _))
theorem r_lt : OpR X (compareOp .Lt) (rP2 X.K X.mg ltP) := by
  intro pins s σ H x y v u Q I rx ry h
  obtain ⟨μ, S, a, b, d, o, da, db, e, k⟩ := h
  unfold ltP at e
  split at e
  · obtain rfl := Option.some.inj e
    cases da; cases db
    exact op_lt pins s σ H _ _ v u Q I rx ry ⟨_, _, rfl, rfl, k _ _ .refl o (.bl _)⟩
  · obtain rfl := Option.some.inj e
    cases da; cases db
    exact op_lt_str pins s σ H _ _ v u Q I rx ry ⟨_, _, rfl, rfl, k _ _ .refl o (.bl _)⟩
  · cases e
theorem r_le : OpR X (compareOp .LtE) (rP2 X.K X.mg leP) := by
  intro pins s σ H x y v u Q I rx ry h
  obtain ⟨μ, S, a, b, d, o, da, db, e, k⟩ := h
  unfold leP at e
  split at e
  · obtain rfl := Option.some.inj e
    cases da; cases db
    exact op_le pins s σ H _ _ v u Q I rx ry ⟨_, _, rfl, rfl, k _ _ .refl o (.bl _)⟩
  · cases e
theorem r_gt : OpR X (compareOp .Gt) (rP2 X.K X.mg gtP) := by
  intro pins s σ H x y v u Q I rx ry h
  obtain ⟨μ, S, a, b, d, o, da, db, e, k⟩ := h
  unfold gtP at e
  split at e
  · obtain rfl := Option.some.inj e
    cases da; cases db
    exact op_gt pins s σ H _ _ v u Q I rx ry ⟨_, _, rfl, rfl, k _ _ .refl o (.bl _)⟩
  · cases e
theorem r_ge : OpR X (compareOp .GtE) (rP2 X.K X.mg geP) := by
  intro pins s σ H x y v u Q I rx ry h
  obtain ⟨μ, S, a, b, d, o, da, db, e, k⟩ := h
  unfold geP at e
  split at e
  · obtain rfl := Option.some.inj e
    cases da; cases db
    exact op_ge pins s σ H _ _ v u Q I rx ry ⟨_, _, rfl, rfl, k _ _ .refl o (.bl _)⟩
  · cases e
theorem den_non {K : PySem.W.Frag} {mg : Str → Option Value} {μ : Pl} {H : Hp} {v : V} {d : D} (h : Den K mg μ H v d) : v = .non ↔ d = .non := by
  cases h <;> simp
theorem r_is : OpR X (compareOp .Is) (rP2 X.K X.mg isP) := by
  intro pins s σ H x y v u Q I rx ry h
  obtain ⟨μ, S, a, b, d, o, da, db, e, k⟩ := h
  unfold isP at e
  split at e
  · obtain rfl := Option.some.inj e
    cases da; cases db
    exact op_isN pins s σ H _ _ v u Q I rx ry ⟨rfl, by
      rw [decide_eq_true rfl]
      exact k _ _ .refl o (.bl _)⟩
  · rename_i hn
    obtain rfl := Option.some.inj e
    cases db
    exact op_isN pins s σ H _ _ v u Q I rx ry ⟨rfl, by
      rw [decide_eq_false (fun z => hn ((den_non da).mp z))]
      exact k _ _ .refl o (.bl _)⟩
  · cases e
theorem r_isn : OpR X (compareOp .IsNot) (rP2 X.K X.mg isnP) := by
  intro pins s σ H x y v u Q I rx ry h
  obtain ⟨μ, S, a, b, d, o, da, db, e, k⟩ := h
  unfold isnP at e
  split at e
  · obtain rfl := Option.some.inj e
    cases da; cases db
    exact op_notN pins s σ H _ _ v u Q I rx ry ⟨rfl, by
      rw [decide_eq_true rfl]
      exact k _ _ .refl o (.bl _)⟩
  · rename_i hn
    obtain rfl := Option.some.inj e
    cases db
    exact op_notN pins s σ H _ _ v u Q I rx ry ⟨rfl, by
      rw [decide_eq_false (fun z => hn ((den_non da).mp z))]
      exact k _ _ .refl o (.bl _)⟩
  · cases e
theorem inQ_run {pins : List (Addr × Obj)} {s : Shared} {σ : L2.St} {H : Hp} {x y : V} {v u : Value} {Q : VK} {μ : Pl} {S : Store} {a b : D} {k : Bool} (I : Inv X pins σ H s) (rx : RelV x v) (ry : RelV y u)
    (o : Ok X.K X.mg μ H S) (da : Den X.K X.mg μ H x a) (db : Den X.K X.mg μ H y b) (e : inQ S a b = some k) :
    (Q (.bl k) H → wpAny (model X.prog X.w) X.A (compareOp .In v u) (EP X pins σ Q) X.xe s) ∧ (Q (.bl (!k)) H → wpAny (model X.prog X.w) X.A (compareOp .NotIn v u) (EP X pins σ Q) X.xe s) := by
  unfold inQ at e
  split at e
  · rename_i x y
    split at e
    · rename_i c hc
      obtain rfl := Option.some.inj e
      cases da; cases db
      have ex : x = ⟨#[c]⟩ := by
        have : x.cps = #[c] := by
          rw [← Array.toList_inj]
          exact hc
        cases x
        simp at this
        rw [this]
      exact ⟨fun q => op_in_sign pins s σ H _ _ v u Q I rx ry ⟨c, y, by rw [ex], rfl, q⟩, fun q => op_notIn_sign pins s σ H _ _ v u Q I rx ry ⟨c, y, by rw [ex], rfl, q⟩⟩
    · cases e
  · split at e
    · rename_i ds hq
      split at e
      · rename_i v0 vs e1 e2
        obtain rfl := Option.some.inj e
        obtain ⟨p, ws, rfl, hs, hd⟩ := asQ_den o db hq
        obtain rfl := scalD_den da e1
        obtain rfl := scalL_den hd e2
        exact ⟨fun q => op_in_seq pins s σ H _ _ v u Q I rx ry ⟨p, ws, rfl, hs, scalD_flat e1, scalL_flat e2, q⟩, fun q => op_notIn_seq pins s σ H _ _ v u Q I rx ry ⟨p, ws, rfl, hs, scalD_flat e1, scalL_flat e2, q⟩⟩
      · cases e
    · cases e
theorem r_in : OpR X (compareOp .In) (rP2 X.K X.mg inP) := by
  intro pins s σ H x y v u Q I rx ry h
  obtain ⟨μ, S, a, b, d, o, da, db, e, k⟩ := h
  unfold inP at e
  cases q : inQ S a b with
  | none => rw [q] at e; cases e
  | some r =>
    rw [q] at e
    obtain rfl := Option.some.inj e
    exact (inQ_run I rx ry o da db q).1 (k _ _ .refl o (.bl _))
theorem r_nin : OpR X (compareOp .NotIn) (rP2 X.K X.mg ninP) := by
  intro pins s σ H x y v u Q I rx ry h
  obtain ⟨μ, S, a, b, d, o, da, db, e, k⟩ := h
  unfold ninP at e
  cases q : inQ S a b with
  | none => rw [q] at e; cases e
  | some r =>
    rw [q] at e
    obtain rfl := Option.some.inj e
    exact (inQ_run I rx ry o da db q).2 (k _ _ .refl o (.bl _))
end
end PyM
set_option Elab.async false
set_option linter.all false
set_option maxRecDepth 100000
set_option maxHeartbeats 2000000
namespace PyM
open PySem PySem.Spec PyProof.Rows L2

def asB : D → Option Bool
  | .bl b => some b
  | _ => none
def asI : D → Option Int
  | .int i => some i
  | _ => none
def toB (m : M D) : M Bool := M.bind m fun d => M.lift (asB d)
section
variable {X : Cx} {E : L2.St → XK} {a b c e : Expr} {es rest : List Expr} {ma mb mc : Env' → M D} {ta tb : Env' → M Bool} {pos : Pos}
theorem tB'.run {K : PySem.W.Frag} {mg : Str → Option Value} {m : Env' → M Bool} {σ : L2.St} {H : Hp} {μ : Pl} {ρ : Env'} {S : Store} {α : Type} {k : Bool → M α} {Q : Bool → Hp → Prop} {R : Res α → Prop}
    (he : EnvOk K mg μ H σ ρ) (ho : Ok K mg μ H S) (hR : R (M.bind (m ρ) k S)) (hx : ∀ c fs S', R (.exc c fs S') → XP K mg μ H (E σ) c fs S') (hb : ¬ R .bad)
    (hk : ∀ d S', m ρ S = .ok d S' → R (k d S') → ∀ H' μ', Step μ μ' H H' → Ok K mg μ' H' S' → EnvOk K mg μ' H' σ ρ → Q d H') : tB' K mg E m σ H Q := by
  refine ⟨ρ, μ, S, he, ho, ?_⟩
  unfold M.bind at hR
  cases e : m ρ S with
  | ok d S' =>
    rw [e] at hR
    exact fun H' μ' st o' => hk d S' e hR H' μ' st o' (he.mono ho st)
  | exc c fs S' =>
    rw [e] at hR
    exact hx c fs S' hR
  | bad =>
    rw [e] at hR
    exact absurd hR hb
theorem tA'.run {K : PySem.W.Frag} {mg : Str → Option Value} {m : Env' → M (List D)} {σ : L2.St} {H : Hp} {μ : Pl} {ρ : Env'} {S : Store} {α : Type} {k : List D → M α} {Q : List V → Hp → Prop} {R : Res α → Prop}
    (he : EnvOk K mg μ H σ ρ) (ho : Ok K mg μ H S) (hR : R (M.bind (m ρ) k S)) (hx : ∀ c fs S', R (.exc c fs S') → XP K mg μ H (E σ) c fs S') (hb : ¬ R .bad)
    (hk : ∀ d S', m ρ S = .ok d S' → R (k d S') → ∀ v H' μ', Step μ μ' H H' → Ok K mg μ' H' S' → EnvOk K mg μ' H' σ ρ → DenL K mg μ' H' v d → Q v H') : tA' K mg E m σ H Q := by
  refine ⟨ρ, μ, S, he, ho, ?_⟩
  unfold M.bind at hR
  cases e : m ρ S with
  | ok d S' =>
    rw [e] at hR
    exact fun v H' μ' st o' dd => hk d S' e hR v H' μ' st o' (he.mono ho st) dd
  | exc c fs S' =>
    rw [e] at hR
    exact hx c fs S' hR
  | bad =>
    rw [e] at hR
    exact absurd hR hb
/-- a value of the mirror that is a truth -/
theorem tTest_of {K : PySem.W.Frag} {mg : Str → Option Value} {m : Env' → M D} {σ : L2.St} {H : Hp} {Q : Bool → Hp → Prop} (h : tB' K mg E (fun ρ => toB (m ρ)) σ H Q) : tE K mg E m σ H fun x H1 => ∃ k, x = .bl k ∧ Q k H1 := by
  obtain ⟨ρ, μ, S, he, ho, h⟩ := h
  refine tE.run (k := fun d => M.lift (asB d)) (R := fun r => PostB K mg μ H (E σ) r Q) he ho h (fun _ _ _ z => z) (fun z => z) fun d S1 _ h1 v H1 μ1 s1 o1 e1 d1 => ?_
  cases d1 with
  | bl k => exact ⟨k, rfl, h1 H1 μ1 s1 o1⟩
  | _ => exact h1.elim
theorem mt_val (h : ME X E e ma) (he : ∀ whole, isTrue e X.env whole = (do let v ← whole; standAt e.pos; holding [v] (truthy v)) := by intro _; rfl) : MT X E e (fun ρ => toB (ma ρ)) :=
  (pt_val h he).weak fun _ _ _ h => tTest_of h
theorem mt_cmp {op : CmpOp} {f : Store → D → D → Option D} (hr : OpR X (compareOp op) (rP2 X.K X.mg f)) (ha : ME X E a ma) (hb : ME X E b mb) (hm : behindInMarks op b = false := by rfl) : MT X E (.Compare a [op] [b] pos) (fun ρ => toB (bin2 f ma mb ρ)) :=
  (pt_cmpR hr ha hb hm).weak fun _ _ _ h => tOp_of (tTest_of h)
theorem mt_not (ha : MT X E a ta) : MT X E (.UnaryOp .Not a pos) (fun ρ => M.bind (ta ρ) fun c => M.pure (!c)) := (pt_not ha).weak fun σ H Q h => by
  obtain ⟨ρ, μ, S, he, ho, h⟩ := h
  exact tB'.run (k := fun c => M.pure (!c)) (R := fun r => PostB X.K X.mg μ H (E σ) r Q) he ho h (fun _ _ _ z => z) (fun z => z) fun d S1 _ h1 H1 μ1 s1 o1 e1 => h1 H1 μ1 s1 o1
def andM (ta tb : Env' → M Bool) : Env' → M Bool := fun ρ => M.bind (ta ρ) fun c => if c = true then tb ρ else M.pure false
def orM (ta tb : Env' → M Bool) : Env' → M Bool := fun ρ => M.bind (ta ρ) fun c => if c = true then M.pure true else tb ρ
theorem mw_and1 (ha : MT X E a ta) : MW X E (.BoolOp .And [a] pos) ta := pw_and1 ha
theorem mw_or1 (ha : MT X E a ta) : MW X E (.BoolOp .Or [a] pos) ta := pw_or1 ha
theorem mw_and (ha : MT X E a ta) (hb : MW X E (.BoolOp .And (b :: rest) pos) tb) : MW X E (.BoolOp .And (a :: b :: rest) pos) (andM ta tb) := (pw_and ha hb).weak fun σ H Q h => by
  obtain ⟨ρ, μ, S, he, ho, h⟩ := h
  refine tB'.run (k := fun c => if c = true then tb ρ else M.pure false) (R := fun r => PostB X.K X.mg μ H (E σ) r Q) he ho h (fun _ _ _ z => z) (fun z => z) fun d S1 _ h1 H1 μ1 s1 o1 e1 => ?_
  cases d with
  | true => exact ⟨ρ, μ1, S1, e1, o1, PostB.of s1 h1⟩
  | false => exact h1 H1 μ1 s1 o1
theorem mw_or (ha : MT X E a ta) (hb : MW X E (.BoolOp .Or (b :: rest) pos) tb) : MW X E (.BoolOp .Or (a :: b :: rest) pos) (orM ta tb) := (pw_or ha hb).weak fun σ H Q h => by
  obtain ⟨ρ, μ, S, he, ho, h⟩ := h
  refine tB'.run (k := fun c => if c = true then M.pure true else tb ρ) (R := fun r => PostB X.K X.mg μ H (E σ) r Q) he ho h (fun _ _ _ z => z) (fun z => z) fun d S1 _ h1 H1 μ1 s1 o1 e1 => ?_
  cases d with
  | true => exact h1 H1 μ1 s1 o1
  | false => exact ⟨ρ, μ1, S1, e1, o1, PostB.of s1 h1⟩
theorem mt_bool {op : BoolOp} {l : List Expr} (h : MW X E (.BoolOp op l pos) ta) : MT X E (.BoolOp op l pos) ta := PW.pt h
/-! values -/
def andV (ma mb : Env' → M D) : Env' → M D := fun ρ => M.bind (toB (ma ρ)) fun c => if c = true then mb ρ else M.pure (.bl false)
def orV (ma mb : Env' → M D) : Env' → M D := fun ρ => M.bind (toB (ma ρ)) fun c => if c = true then M.pure (.bl true) else mb ρ
theorem toB_bind {α : Type} {m : M D} {k : Bool → M α} : M.bind (toB m) k = M.bind m fun d => M.bind (M.lift (asB d)) k := by
  funext S
  unfold toB M.bind
  cases m S <;> rfl
theorem me_one {op} (h : ME X E a ma) : ME X E (.BoolOp op [a] pos) ma := pe_one h
theorem me_and (ha : ME X E a ma) (hb : ME X E (.BoolOp .And (b :: rest) pos) mb) : ME X E (.BoolOp .And (a :: b :: rest) pos) (andV ma mb) := (pe_and ha hb).weak fun σ H Q h => by
  obtain ⟨ρ, μ, S, he, ho, h⟩ := h
  unfold andV at h
  rw [toB_bind] at h
  refine tE.run (R := fun r => PostD X.K X.mg μ H (E σ) r Q) he ho h (fun _ _ _ z => z) (fun z => z) fun d S1 _ h1 v H1 μ1 s1 o1 e1 d1 => ?_
  cases d1 with
  | bl k =>
    refine ⟨k, rfl, ?_⟩
    cases k with
    | true => exact ⟨ρ, μ1, S1, e1, o1, PostD.of s1 h1⟩
    | false => exact h1 (.bl false) H1 μ1 s1 o1 (.bl _)
  | _ => exact h1.elim
theorem me_or (ha : ME X E a ma) (hb : ME X E (.BoolOp .Or (b :: rest) pos) mb) : ME X E (.BoolOp .Or (a :: b :: rest) pos) (orV ma mb) := (pe_or ha hb).weak fun σ H Q h => by
  obtain ⟨ρ, μ, S, he, ho, h⟩ := h
  unfold orV at h
  rw [toB_bind] at h
  refine tE.run (R := fun r => PostD X.K X.mg μ H (E σ) r Q) he ho h (fun _ _ _ z => z) (fun z => z) fun d S1 _ h1 v H1 μ1 s1 o1 e1 d1 => ?_
  cases d1 with
  | bl k =>
    refine ⟨k, rfl, ?_⟩
    cases k with
    | true => exact h1 (.bl true) H1 μ1 s1 o1 (.bl _)
    | false => exact ⟨ρ, μ1, S1, e1, o1, PostD.of s1 h1⟩
  | _ => exact h1.elim
def notV (ma : Env' → M D) : Env' → M D := fun ρ => M.bind (toB (ma ρ)) fun c => M.pure (.bl (!c))
theorem me_not (ha : ME X E a ma) : ME X E (.UnaryOp .Not a pos) (notV ma) := (pe_not ha).weak fun σ H Q h => by
  obtain ⟨ρ, μ, S, he, ho, h⟩ := h
  unfold notV at h
  rw [toB_bind] at h
  refine tE.run (R := fun r => PostD X.K X.mg μ H (E σ) r Q) he ho h (fun _ _ _ z => z) (fun z => z) fun d S1 _ h1 v H1 μ1 s1 o1 e1 d1 => ?_
  cases d1 with
  | bl k => exact ⟨k, rfl, h1 _ H1 μ1 s1 o1 (.bl _)⟩
  | _ => exact h1.elim
theorem me_if (hc : MT X E c ta) (ha : ME X E a ma) (hb : ME X E b mb) : ME X E (.IfExp c a b pos) (fun ρ => M.bind (ta ρ) fun k => if k = true then ma ρ else mb ρ) := (pe_ifExp hc ha hb).weak fun σ H Q h => by
  obtain ⟨ρ, μ, S, he, ho, h⟩ := h
  refine tB'.run (k := fun c => if c = true then ma ρ else mb ρ) (R := fun r => PostD X.K X.mg μ H (E σ) r Q) he ho h (fun _ _ _ z => z) (fun z => z) fun d S1 _ h1 H1 μ1 s1 o1 e1 => ?_
  cases d with
  | true => exact ⟨ρ, μ1, S1, e1, o1, PostD.of s1 h1⟩
  | false => exact ⟨ρ, μ1, S1, e1, o1, PostD.of s1 h1⟩
/-! chains a op b op' c -/
def chain2 (f g : Store → D → D → Option D) (ma mb mc : Env' → M D) : Env' → M D := fun ρ => M.bind (ma ρ) fun x => M.bind (mb ρ) fun y => M.bind (M.op2 f x y) fun z => M.bind (M.lift (asB z)) fun k =>
  if k = true then M.bind (mc ρ) fun w => M.op2 g y w else M.pure (.bl false)
theorem tChain_of {f g : Store → D → D → Option D} {σ : L2.St} {H : Hp} {Q : VK} (h : tE X.K X.mg E (chain2 f g ma mb mc) σ H Q) : tChain (rP2 X.K X.mg f) (rP2 X.K X.mg g) (tE X.K X.mg E ma) (tE X.K X.mg E mb) (tE X.K X.mg E mc) σ H Q := by
  obtain ⟨ρ, μ, S, he, ho, h⟩ := h
  refine tE.run (R := fun r => PostD X.K X.mg μ H (E σ) r Q) he ho h (fun _ _ _ z => z) (fun z => z) fun x S1 _ h1 v H1 μ1 s1 o1 e1 d1 => ?_
  refine tE.run (R := fun r => PostD X.K X.mg μ1 H1 (E σ) r Q) e1 o1 (PostD.of s1 h1) (fun _ _ _ z => z) (fun z => z) fun y S2 _ h2 w H2 μ2 s2 o2 e2 d2 => ?_
  have h2' := PostD.of s2 h2
  unfold M.bind M.op2 at h2'
  dsimp only at h2'
  cases q : f S2 x y with
  | none => rw [q] at h2'; exact h2'.elim
  | some d =>
    rw [q] at h2'
    refine ⟨μ2, S2, x, y, d, o2, d1.mono o1 s2, d2, q, fun v' H3 st o3 hd => ?_⟩
    cases hd with
    | bl k =>
      refine ⟨k, rfl, ?_⟩
      cases k with
      | false => exact h2' (.bl false) H3 μ2 st o3 (.bl _)
      | true =>
        have e3 := e2.mono o2 st
        have h3 : PostD X.K X.mg μ2 H2 (E σ) (M.bind (mc ρ) (fun w => M.op2 g y w) S2) Q := h2'
        refine tE.run (R := fun r => PostD X.K X.mg μ2 H3 (E σ) r Q) e3 o3 (PostD.of st h3) (fun _ _ _ z => z) (fun z => z) fun w' S4 _ h4 v4 H4 μ4 s4 o4 e4 d4 => ?_
        unfold M.op2 at h4
        cases q' : g S4 y w' with
        | none => rw [q'] at h4; exact h4.elim
        | some d' =>
          rw [q'] at h4
          exact ⟨μ4, S4, y, w', d', o4, (d2.mono o2 st).mono o3 s4, d4, q', fun v' H' st' o' hd' => h4 v' H' μ4 (s4.trans st') o' hd'⟩
    | _ => exact h2'.elim
theorem me_chain {op op' : CmpOp} {f g : Store → D → D → Option D} (hr : OpR X (compareOp op) (rP2 X.K X.mg f)) (hr' : OpR X (compareOp op') (rP2 X.K X.mg g)) (ha : ME X E a ma) (hb : ME X E b mb) (hc : ME X E c mc)
    (hm : lastMarks [op, op'] [b, c] = false := by with_unfolding_all rfl) : ME X E (.Compare a [op, op'] [b, c] pos) (chain2 f g ma mb mc) := (pe_chain hr hr' ha hb hc hm).weak fun _ _ _ h => tChain_of h
theorem mt_chain {op op' : CmpOp} {f g : Store → D → D → Option D} (hr : OpR X (compareOp op) (rP2 X.K X.mg f)) (hr' : OpR X (compareOp op') (rP2 X.K X.mg g)) (ha : ME X E a ma) (hb : ME X E b mb) (hc : ME X E c mc)
    (hm : lastMarks [op, op'] [b, c] = false := by with_unfolding_all rfl) : MT X E (.Compare a [op, op'] [b, c] pos) (fun ρ => toB (chain2 f g ma mb mc ρ)) := (pt_chain hr hr' ha hb hc hm).weak fun _ _ _ h => tChain_of (tTest_of h)
/-! one-place -/
def rP1 (K : PySem.W.Frag) (mg : Str → Option Value) (f : Store → D → Option D) : V → Hp → VK → Prop := fun v H Q => ∃ μ S x d, Ok K mg μ H S ∧ Den K mg μ H v x ∧ f S x = some d ∧ ∀ v' H', Step μ μ H H' → Ok K mg μ H' S → Den K mg μ H' v' d → Q v' H'
def un1 (f : Store → D → Option D) (ma : Env' → M D) : Env' → M D := fun ρ => M.bind (ma ρ) fun x => M.op1 f x
theorem me_un {op : UnaryOp} {f : Store → D → Option D} (hr : UnR X (unaryOp op) (rP1 X.K X.mg f)) (ha : ME X E a ma) : ME X E (.UnaryOp op a pos) (un1 f ma) := (pe_un hr ha).weak fun σ H Q h => by
  obtain ⟨ρ, μ, S, he, ho, h⟩ := h
  refine tE.run (R := fun r => PostD X.K X.mg μ H (E σ) r Q) he ho h (fun _ _ _ z => z) (fun z => z) fun x S1 _ h1 v H1 μ1 s1 o1 e1 d1 => ?_
  unfold M.op1 at h1
  cases q : f S1 x with
  | none => rw [q] at h1; exact h1.elim
  | some d =>
    rw [q] at h1
    exact ⟨μ1, S1, x, d, o1, d1, q, fun v' H' st o' hd => h1 v' H' μ1 (s1.trans st) o' hd⟩
def negP (_ : Store) : D → Option D
  | .int i => some (.int (-i))
  | _ => none
theorem r_neg : UnR X (unaryOp .USub) (rP1 X.K X.mg negP) := by
  intro pins s σ H x v Q I rx h
  obtain ⟨μ, S, a, d, o, da, e, k⟩ := h
  unfold negP at e
  split at e
  · obtain rfl := Option.some.inj e
    cases da
    exact un_neg pins s σ H _ v Q I rx ⟨_, rfl, k _ _ .refl o (.int _)⟩
  · cases e
/-! argument lists, displays -/
theorem ma_nil : MA X E [] (fun _ => M.pure []) := pa_nil.weak fun σ H Q h => by
  obtain ⟨ρ, μ, S, he, ho, h⟩ := h
  exact h [] H μ .refl ho .nil
theorem ma_cons {ms : Env' → M (List D)} (ha : ME X E a ma) (hr : MA X E es ms) (hs : starEach (a :: es) X.env = (false, eval a X.env) :: starEach es X.env := by rfl) :
    MA X E (a :: es) (fun ρ => M.bind (ma ρ) fun d => M.bind (ms ρ) fun ds => M.pure (d :: ds)) := (pa_cons ha hr hs).weak fun σ H Q h => by
  obtain ⟨ρ, μ, S, he, ho, h⟩ := h
  refine tE.run (R := fun r => PostL X.K X.mg μ H (E σ) r Q) he ho h (fun _ _ _ z => z) (fun z => z) fun x S1 _ h1 v H1 μ1 s1 o1 e1 d1 => ?_
  refine tA'.run (R := fun r => PostL X.K X.mg μ1 H1 (E σ) r Q) e1 o1 (PostL.of s1 h1) (fun _ _ _ z => z) (fun z => z) fun ds S2 _ h2 vs H2 μ2 s2 o2 e2 d2 => ?_
  exact h2 (v :: vs) H2 μ2 s2 o2 (.cons (d1.mono o1 s2) d2)
def tupM (ms : Env' → M (List D)) : Env' → M D := fun ρ => M.bind (ms ρ) fun ds => if ds.length ≤ sizeLine then M.pure (.tup ds) else M.bad
def lstM (ms : Env' → M (List D)) : Env' → M D := fun ρ => M.bind (ms ρ) fun ds => if ds.length ≤ sizeLine then M.pure (.lst ds) else M.bad
/-- a new list that will be changed in place -/
def newCell (ds : List D) : M D := fun S => if ds.length ≤ sizeLine then .ok (.loc S.length) (S ++ [.lst ds]) else .bad
theorem me_tup {x1} {ms : Env' → M (List D)} (h : MA X E es ms) : ME X E (.Tuple es x1 pos) (tupM ms) := (pe_tup h).weak fun σ H Q h => by
  obtain ⟨ρ, μ, S, he, ho, h⟩ := h
  refine tA'.run (R := fun r => PostD X.K X.mg μ H (E σ) r Q) he ho h (fun _ _ _ z => z) (fun z => z) fun ds S1 _ h1 vs H1 μ1 s1 o1 e1 d1 => ?_
  have hl := d1.length
  split at h1
  · refine ⟨by omega, fun p hp => ?_⟩
    obtain ⟨s2, o2, d2⟩ := new_tup o1 hp d1
    exact h1 _ _ μ1 (s1.trans s2) o2 d2
  · exact h1.elim
theorem me_lst {ms : Env' → M (List D)} (h : MA X E es ms) : ME X E (.List es pos) (lstM ms) := (pe_lst h).weak fun σ H Q h => by
  obtain ⟨ρ, μ, S, he, ho, h⟩ := h
  refine tA'.run (R := fun r => PostD X.K X.mg μ H (E σ) r Q) he ho h (fun _ _ _ z => z) (fun z => z) fun ds S1 _ h1 vs H1 μ1 s1 o1 e1 d1 => ?_
  have hl := d1.length
  split at h1
  · refine ⟨by omega, fun p hp => ?_⟩
    obtain ⟨s2, o2, d2⟩ := new_lst o1 hp d1
    exact h1 _ _ μ1 (s1.trans s2) o2 d2
  · exact h1.elim
theorem me_cell {ms : Env' → M (List D)} (h : MA X E es ms) : ME X E (.List es pos) (fun ρ => M.bind (ms ρ) newCell) := (pe_lst h).weak fun σ H Q h => by
  obtain ⟨ρ, μ, S, he, ho, h⟩ := h
  refine tA'.run (R := fun r => PostD X.K X.mg μ H (E σ) r Q) he ho h (fun _ _ _ z => z) (fun z => z) fun ds S1 _ h1 vs H1 μ1 s1 o1 e1 d1 => ?_
  have hl := d1.length
  unfold newCell at h1
  split at h1
  · refine ⟨by omega, fun p hp => ?_⟩
    refine h1 _ _ (μ1.add p) (s1.trans (.cell hp)) (o1.cell hp d1) (.loc o1.atNew)
  · exact h1.elim
end
end PyM
set_option Elab.async false
set_option linter.all false
set_option maxRecDepth 100000
set_option maxHeartbeats 2000000
namespace PyM
open PySem PySem.Spec PyProof.Rows L2

/-! ### a def's promise where no repr is under way -/
structure FnG (P : Program) (w : World) (K : W.Frag) (mg : Str → Option Value) (base : Heap) (CX : CXT) (k : Nat) (f : Addr) (fd : FuncData) (ps : List Str) (sp : Sp) : Prop where
  len : ∀ vs H Q E, sp vs H Q E → vs.length = ps.length
  go : ∀ (A : Around) (outer : List Env) (s : Shared) (H : Hp) (args : Args) (us : List Value) (vs : List V) (Q : VK) (E : XK), A.guards = some [] → Room k A → Env0 P w K mg base A outer s H →
    BindsTo s fd args (ps.zip us) → Vals vs us → sp vs H Q E → codeAny (model P w) A (.call (.ref f) args) (CR CX outer P w H s Q E) s
theorem FnG.mono {P : Program} {w : World} {K : W.Frag} {mg : Str → Option Value} {base : Heap} {CX : CXT} {j k : Nat} {f : Addr} {fd : FuncData} {ps : List Str} {sp : Sp} (F : FnG P w K mg base CX j f fd ps sp) (h : j ≤ k) :
    FnG P w K mg base CX k f fd ps sp := ⟨F.len, fun A o s H a us vs Q E hg hr => F.go A o s H a us vs Q E hg (hr.mono h)⟩
theorem deeper_guards (A : Around) (env : Env) : (A.deeper env).guards = A.guards := rfl
section
variable {CX : CXT} {P : Program} {w : World} {K : W.Frag} {mg : Str → Option Value} {base : Heap} {k : Nat} {f : Addr}
/-- a def keeps its promise, by the reading of its body -/
theorem FnG.mk' {x qual : Str} {st : Stmt} {fd : FuncData} {N ps : List Str} {sp : Sp} (F : Fun K x qual st f fd) (S : FnScope N ps (defScope st)) (hlen : ∀ vs H Q E, sp vs H Q E → vs.length = ps.length)
    (hb : ∀ (cdv : Value) (A : Around) (outer : List Env) (s : Shared) (H : Hp) (vs : List V) (Q : VK) (E : XK), A.guards = some [] → Room k (A.deeper (envOfC qual (defScope st) s.heap.objs.size f cdv)) → sp vs H Q E →
      ∃ t, PSs (cxOf CX P w K mg base N qual (defScope st) f cdv A outer s H E) (defBody st) t ∧ t ⟨fun _ H' => Q .non H', Q, fun _ _ => False, fun _ _ => False⟩ (start N vs) H) :
    FnG P w K mg base CX (k + 1) f fd ps sp := by
  obtain ⟨oc, od, kV, doc, pm, an, cdv, ct, osl, rfl, lk, hcd⟩ := F.ex
  refine ⟨hlen, ?_⟩
  intro A outer s H args us vs Q E hG hr e0 hbind hv hs
  have hl := hlen _ _ _ _ hs
  have inK : K.In s.heap := e0.mod.kin.keeps fun b o e => (e0.bs b o e).1
  have noLim : s.heap.NoLimit := e0.mod.nolimit.keeps fun b o e => (e0.bs b o e).1
  have kinds : ∀ y ∈ ps.zip us, (defScope st).names.lookup y.1 = some .local ∨ ((defScope st).names.lookup y.1 = some .cell ∧ ((cellsFrom (s.heap.objs.size + 1) (defScope st).names []).lookup y.1).isSome = true) := by
    rintro ⟨n, v⟩ hy
    cases S.par n (List.of_mem_zip hy).1 with
    | inl q => exact Or.inl q
    | inr q => exact Or.inr ⟨q, W.cellsFrom_some _ _ _ (Or.inl q)⟩
  refine codeAny_call_function hr.depth (inK _ _ lk) rfl S.co S.gen rfl (W.codeRec_of inK hcd) ?_
  refine hbind _ _ _ _ (wpAny_newFunctionEnv_cells S.kind kinds ?_)
  intro env he s1 x
  subst he
  refine ⟨noLim.keeps x.toInCall.keep, codeAny_func ?_⟩
  obtain ⟨t, ht, hq⟩ := hb cdv A outer s H vs Q E hG (hr.deeper _) hs
  have I := inv_start (CX := CX) (E := E) S hr.hd e0 hl hv x
  refine wpAny_mono (ht.run [] s1 _ H _ I hq) ?_ (fun e s' z => z)
  intro fl s' z
  cases fl with
  | ret u =>
    obtain ⟨v, σ', H', J, rv, q⟩ := z
    exact ⟨v, H', J.os, J.bare, J.base, J.hok, rv, q⟩
  | next =>
    obtain ⟨σ', H', J, q⟩ := z
    exact ⟨.non, H', J.os, J.bare, J.base, J.hok, rfl, q⟩
  | brk =>
    obtain ⟨_, _, _, q⟩ := z
    exact (show False from q).elim
  | cont =>
    obtain ⟨_, _, _, q⟩ := z
    exact (show False from q).elim
end
section
variable {X : Cx} {CX : CXT} {k : Nat} {f : Addr} {fd : FuncData} {ps : List Str} {sp : Sp} {ds : List Value} {dvs : List V}
/-- the callee runs -/
theorem FnG.called {E : XK} {pins : List (Addr × Obj)} {σ : L2.St} {H : Hp} {s : Shared} {Q : VK} {us : List Value} {vs : List V} (F : FnG X.prog X.w X.K X.mg X.base CX k f fd ps sp) (hG : X.A.guards = some []) (hr : Room k X.A)
    (hb : Binds X.K fd ps []) (hx : PassesAt CX X σ E) (I : Inv X pins σ H s) (r : Vals vs us) (h : sp vs H Q E) : wpAny (model X.prog X.w) X.A (call (.ref f) us) (EP X pins σ Q) X.xe s := by
  have hl : us.length = ps.length := by
    rw [← r.length]
    exact F.len _ _ _ _ h
  have hbt := hb s us I.kIn (by rw [List.append_nil]; exact hl)
  rw [List.append_nil] at hbt
  refine wpAny_call (codeAny_mono (F.go X.A X.stack s H ⟨us, []⟩ us vs Q E hG hr I.env0 hbt r h) ?_)
  intro res s' hq
  match res, hq with
  | .error e, hq => exact hx pins H s e s' I hq
  | .ok (.ret u), hq => exact I.after hq
end
/-- a mirror's promise -/
def spM (K : W.Frag) (mg : Str → Option Value) (n : Nat) (Fm : List D → M D) : Sp := fun vs H Q E => vs.length = n ∧ ∃ ds μ S, DenL K mg μ H vs ds ∧ Ok K mg μ H S ∧ PostD K mg μ H E (Fm ds S) Q
section
variable {X : Cx} {E : L2.St → XK} {a b c e : Expr} {es rest : List Expr} {ma mb mc : Env' → M D} {ms : Env' → M (List D)} {pos p : Pos}
/-- f(..), f a def of the text -/
theorem me_call {CX : CXT} {k n : Nat} {f : Addr} {fd : FuncData} {ps : List Str} {Fm : List D → M D} {x : Str} (F : FnG X.prog X.w X.K X.mg X.base CX k f fd ps (spM X.K X.mg n Fm)) (hG : X.A.guards = some []) (hr : Room k X.A)
    (hm : X.mg x = some (.ref f)) (hk : W.keepIn X.K (.ref f) = true) (hb : Binds X.K fd ps []) (hx : ∀ σ, PassesAt CX X σ (E σ)) (ha : MA X E (e :: es) ms) (hlen : ∀ ρ S ds S', ms ρ S = .ok ds S' → ds.length = n)
    (hg : Gl X x := by rfl) (hdb : (x == ("__debug__" : Str)) = false := by decide) (he : starEach (e :: es) X.env = (false, eval e X.env) :: starEach es X.env := by rfl) (hpl : (backTo pos (starEach es X.env)).any (·.1) = false := by rfl) :
    ME X E (.Call (.Name x p) (e :: es) [] pos) (fun ρ => M.bind (ms ρ) Fm) := by
  refine ⟨fun pins s σ H Q I h => ?_⟩
  obtain ⟨ρ, μ, S, hE, hO, h⟩ := h
  have hA : tA' X.K X.mg E ms σ H fun vs H1 => spM X.K X.mg n Fm vs H1 Q (E σ) := tA'.run (k := Fm) (R := fun r => PostD X.K X.mg μ H (E σ) r Q) hE hO h (fun _ _ _ z => z) (fun z => z) fun ds S1 hds h1 vs H1 μ1 s1 o1 e1 d1 =>
    ⟨by rw [d1.length]; exact hlen _ _ _ _ hds, ds, μ1, S1, d1, o1, PostD.of s1 h1⟩
  refine wpAny_Call_Name_kw (ld_glob I hg hm ?_ hdb)
  refine W.callWith_K (h₀ := X.base) I.ok.mod.kin hk (thn (ha.run pos pins s σ H _ I hA) ?_) he hpl
  intro us s1 hz
  obtain ⟨vs, H1, I1, r, q⟩ := hz
  exact ⟨I1.kIn, F.called hG hr hb (hx σ) I1 r q⟩
/-! built-in calls by values -/
def rPL (K : W.Frag) (mg : Str → Option Value) (f : Store → List D → Option D) : List V → Hp → VK → Prop := fun vs H Q => ∃ μ S ds d, Ok K mg μ H S ∧ DenL K mg μ H vs ds ∧ f S ds = some d ∧ ∀ v' H', Step μ μ H H' → Ok K mg μ H' S → Den K mg μ H' v' d → Q v' H'
def M.opL (f : Store → List D → Option D) (ds : List D) : M D := fun S => match f S ds with
  | some d => .ok d S
  | none => .bad
def bltM (f : Store → List D → Option D) (ms : Env' → M (List D)) : Env' → M D := fun ρ => M.bind (ms ρ) fun ds => M.opL f ds
theorem tCB_of {f : Store → List D → Option D} {σ : L2.St} {H : Hp} {Q : VK} (h : tE X.K X.mg E (bltM f ms) σ H Q) : tCB (rPL X.K X.mg f) (tA' X.K X.mg E ms) σ H Q := by
  obtain ⟨ρ, μ, S, hE, hO, h⟩ := h
  refine tA'.run (R := fun r => PostD X.K X.mg μ H (E σ) r Q) hE hO h (fun _ _ _ z => z) (fun z => z) fun ds S1 hds h1 vs H1 μ1 s1 o1 e1 d1 => ?_
  unfold M.opL at h1
  cases q : f S1 ds with
  | none => rw [q] at h1; exact h1.elim
  | some d =>
    rw [q] at h1
    exact ⟨μ1, S1, ds, d, o1, d1, q, fun v' H' st o' hd => h1 v' H' μ1 (s1.trans st) o' hd⟩
theorem me_blt {id : String} {x : Str} {f : Store → List D → Option D} (hc : CallR X (.builtin id) (rPL X.K X.mg f)) (hm : X.mg x = none) (hv : bootBuiltins x = some (.builtin id)) (ha : MA X E (e :: es) ms) (hg : Gl X x := by rfl) (hn : x ≠ "__name__" := by decide)
    (hdb : (x == ("__debug__" : Str)) = false := by decide) (he : starEach (e :: es) X.env = (false, eval e X.env) :: starEach es X.env := by rfl) (hpl : (backTo pos (starEach es X.env)).any (·.1) = false := by rfl) :
    ME X E (.Call (.Name x p) (e :: es) [] pos) (bltM f ms) := (pe_callB hc hg hm hv ha hn hdb he hpl).weak fun _ _ _ h => tCB_of h
theorem me_bty {T : String} {x : Str} {f : Store → List D → Option D} (hc : CallR X (.type T) (rPL X.K X.mg f)) (hm : X.mg x = none) (hv : bootBuiltins x = some (.type T)) (ha : MA X E (e :: es) ms) (hg : Gl X x := by rfl) (hn : x ≠ "__name__" := by decide)
    (hdb : (x == ("__debug__" : Str)) = false := by decide) (he : starEach (e :: es) X.env = (false, eval e X.env) :: starEach es X.env := by rfl) (hpl : (backTo pos (starEach es X.env)).any (·.1) = false := by rfl) :
    ME X E (.Call (.Name x p) (e :: es) [] pos) (bltM f ms) := (pe_callTy hc hg hm hv ha hn hdb he hpl).weak fun _ _ _ h => tCB_of h
/-- a built-in type as a value -/
theorem me_ty {T : String} {x : Str} (hm : X.mg x = none) (hv : bootBuiltins x = some (.type T)) (hg : Gl X x := by rfl) (hn : x ≠ "__name__" := by decide) (hd : (x == ("__debug__" : Str)) = false := by decide) : ME X E (.Name x pos) (fun _ => M.pure (.ty T)) :=
  me_const (pe_bltn (v := .ty T) hg hm hv rfl hn hd) fun _ _ => .ty T
end
section
variable {K : W.Frag} {mg : Str → Option Value} {μ : Pl} {H : Hp} {S : Store}
theorem den1 {vs : List V} {d : D} (h : DenL K mg μ H vs [d]) : ∃ v, vs = [v] ∧ Den K mg μ H v d := by
  cases h with
  | cons a b => cases b; exact ⟨_, rfl, a⟩
theorem den2 {vs : List V} {d d' : D} (h : DenL K mg μ H vs [d, d']) : ∃ v v', vs = [v, v'] ∧ Den K mg μ H v d ∧ Den K mg μ H v' d' := by
  cases h with
  | cons a b =>
    obtain ⟨w, rfl, c⟩ := den1 b
    exact ⟨_, _, rfl, a, c⟩
end
/-! ### len, isinstance, int, abs, tuple, list -/
def lenP (S : Store) : List D → Option D
  | [.str z] => if z.length ≤ sizeLine then some (.int z.length) else none
  | [d] => (asQ S d).map fun ds => .int ds.length
  | _ => none
def tyName (S : Store) : D → Option String
  | .non => some "NoneType"
  | .bl _ => some "bool"
  | .int _ => some "int"
  | .str _ => some "str"
  | .tup _ => some "tuple"
  | .lst _ => some "list"
  | .loc n => match S[n]? with
    | some (.lst _) => some "list"
    | some (.dct _) => some "dict"
    | none => none
  | _ => none
def isiP (S : Store) : List D → Option D
  | [d, .ty n] => match tyName S d with
    | some t => (kitB t n).map .bl
    | none => none
  | _ => none
def intP (_ : Store) : List D → Option D
  | [.int i] => some (.int i)
  | [.bl k] => some (.int (if k then 1 else 0))
  | _ => none
def absP (_ : Store) : List D → Option D
  | [.int i] => some (.int (if i < 0 then -i else i))
  | _ => none
def tupleP (S : Store) : List D → Option D
  | [.tup ds] => some (.tup ds)
  | [d] => (asL S d).map .tup
  | _ => none
def listP (S : Store) : List D → Option D
  | [d] => (asQ S d).map .lst
  | _ => none
section
variable {X : Cx}
theorem c_len : CallR X (.builtin "len") (rPL X.K X.mg lenP) := by
  intro pins s σ H xs us Q I r h
  obtain ⟨μ, S, ds, d, o, dl, e, k⟩ := h
  unfold lenP at e
  split at e
  · split at e
    · obtain rfl := Option.some.inj e
      obtain ⟨v, rfl, dv⟩ := den1 dl
      cases dv
      exact call_len_str pins s σ H _ us Q I r ⟨_, rfl, by assumption, k _ _ .refl o (.int _)⟩
    · cases e
  · rename_i d0 _
    cases q : asQ S d0 with
    | none => rw [q] at e; cases e
    | some es =>
      rw [q] at e
      obtain rfl := Option.some.inj e
      obtain ⟨v, rfl, dv⟩ := den1 dl
      obtain ⟨p, vs, rfl, hs, hd⟩ := asQ_den o dv q
      refine call_len_seq pins s σ H _ us Q I r ⟨p, vs, rfl, hs, ?_⟩
      rw [hd.length]
      exact k _ _ .refl o (.int _)
  · cases e
theorem ty_den {K : W.Frag} {mg : Str → Option Value} {μ : Pl} {H : Hp} {S : Store} (o : Ok K mg μ H S) {v : V} {d : D} {t : String} (h : Den K mg μ H v d) (e : tyName S d = some t) : TyX K H v (.type t) := by
  cases h with
  | non => obtain rfl := Option.some.inj e; exact .base .non
  | bl b => obtain rfl := Option.some.inj e; exact .base (.bl b)
  | int i => obtain rfl := Option.some.inj e; exact .base (.int i)
  | str x => obtain rfl := Option.some.inj e; exact .base (.str x)
  | ty n => cases e
  | scr a b => cases e
  | fn a => cases e
  | exo0 a => cases e
  | exo1 a => cases e
  | lst h1 h2 hh h3 => obtain rfl := Option.some.inj e; exact .base (.lst h1)
  | loc h1 =>
    rename_i n a
    unfold tyName at e
    dsimp only at e
    cases q : S[n]? with
    | none => rw [q] at e; cases e
    | some c =>
      rw [q] at e
      cases c with
      | lst es =>
        obtain rfl := Option.some.inj e
        obtain ⟨vs, h2, _⟩ := o.at_ n a _ h1 q
        exact .base (.lst h2)
      | dct kvs =>
        obtain rfl := Option.some.inj e
        obtain ⟨vs, h2, _⟩ := o.at_ n a _ h1 q
        exact .base (.dK h2)
  | tup h1 h2 =>
    obtain rfl := Option.some.inj e
    rcases h1 with (h1 | ⟨ob, h1⟩) | ⟨ob, its, n, h1, h3, _⟩
    · exact .base (.tup h1)
    · exact .fTuple h1
    · exact .kTuple h1 h3
theorem c_isi : CallR X (.builtin "isinstance") (rPL X.K X.mg isiP) := by
  intro pins s σ H xs us Q I r h
  obtain ⟨μ, S, ds, d, o, dl, e, k⟩ := h
  unfold isiP at e
  split at e
  · rename_i d0 n
    split at e
    · rename_i t ht
      cases q : kitB t n with
      | none => rw [q] at e; cases e
      | some b =>
        rw [q] at e
        obtain rfl := Option.some.inj e
        obtain ⟨v, v', rfl, dv, dv'⟩ := den2 dl
        cases dv'
        exact call_isi pins s σ H _ us Q I r ⟨v, .ty n, .type t, .type n, b, rfl, .ty n, ty_den o dv ht, kit_ty q, k _ _ .refl o (.bl _)⟩
    · cases e
  · cases e
theorem c_int : CallR X (.type "int") (rPL X.K X.mg intP) := by
  intro pins s σ H xs us Q I r h
  obtain ⟨μ, S, ds, d, o, dl, e, k⟩ := h
  unfold intP at e
  split at e
  · obtain rfl := Option.some.inj e
    obtain ⟨v, rfl, dv⟩ := den1 dl
    cases dv
    exact call_int1 pins s σ H _ us Q I r (.inl ⟨_, rfl, k _ _ .refl o (.int _)⟩)
  · obtain rfl := Option.some.inj e
    obtain ⟨v, rfl, dv⟩ := den1 dl
    cases dv
    exact call_int1 pins s σ H _ us Q I r (.inr ⟨_, rfl, k _ _ .refl o (.int _)⟩)
  · cases e
theorem c_abs : CallR X (.builtin "abs") (rPL X.K X.mg absP) := by
  intro pins s σ H xs us Q I r h
  obtain ⟨μ, S, ds, d, o, dl, e, k⟩ := h
  unfold absP at e
  split at e
  · obtain rfl := Option.some.inj e
    obtain ⟨v, rfl, dv⟩ := den1 dl
    cases dv
    exact call_abs pins s σ H _ us Q I r ⟨_, rfl, k _ _ .refl o (.int _)⟩
  · cases e
theorem c_tuple : CallR X (.type "tuple") (rPL X.K X.mg tupleP) := by
  intro pins s σ H xs us Q I r h
  obtain ⟨μ, S, ds, d, o, dl, e, k⟩ := h
  unfold tupleP at e
  split at e
  · obtain rfl := Option.some.inj e
    obtain ⟨v, rfl, dv⟩ := den1 dl
    cases dv with
    | tup h1 h2 => exact call_tuple_of pins s σ H _ us Q I r ⟨_, _, rfl, .inr ⟨h1, k _ _ .refl o (.tup h1 h2)⟩⟩
  · rename_i d0 _
    cases q : asL S d0 with
    | none => rw [q] at e; cases e
    | some es =>
      rw [q] at e
      obtain rfl := Option.some.inj e
      obtain ⟨v, rfl, dv⟩ := den1 dl
      obtain ⟨p, vs, rfl, h1, h2⟩ := asL_den o dv q
      refine call_tuple_of pins s σ H _ us Q I r ⟨p, vs, rfl, .inl ⟨.inl (.inl h1), fun l hl => ?_⟩⟩
      obtain ⟨s2, o2, d2⟩ := new_tup o hl h2
      exact k _ _ s2 o2 d2
  · cases e
theorem c_list : CallR X (.type "list") (rPL X.K X.mg listP) := by
  intro pins s σ H xs us Q I r h
  obtain ⟨μ, S, ds, d, o, dl, e, k⟩ := h
  unfold listP at e
  split at e
  · rename_i d0
    cases q : asQ S d0 with
    | none => rw [q] at e; cases e
    | some es =>
      rw [q] at e
      obtain rfl := Option.some.inj e
      obtain ⟨v, rfl, dv⟩ := den1 dl
      obtain ⟨p, vs, rfl, h1, h2⟩ := asQ_den o dv q
      refine call_list_of pins s σ H _ us Q I r ⟨p, vs, rfl, h1, fun l hl => ?_⟩
      obtain ⟨s2, o2, d2⟩ := new_lst o hl h2
      exact k _ _ s2 o2 d2
  · cases e
end
end PyM
set_option Elab.async false
set_option linter.all false
set_option maxRecDepth 100000
set_option maxHeartbeats 2000000
namespace PyM
open PySem PySem.Spec PyProof.Rows L2

/-! ### statements -/
inductive SR where
  | nx (ρ : Env') (S : Store)
  | rt (d : D) (S : Store)
  | bk (ρ : Env') (S : Store)
  | ct (ρ : Env') (S : Store)
  | exc (ρ : Env') (c : Str) (fs : List (Str × D)) (S : Store)
  | bad
abbrev MSt := Env' → Store → SR
/-- an expression's outcome, then .. -/
def SR.of {α : Type} (r : Res α) (ρ : Env') (k : α → Store → SR) : SR := match r with
  | .ok x S => k x S
  | .exc c fs S => .exc ρ c fs S
  | .bad => .bad
def SR.bind (r : SR) (k : MSt) : SR := match r with
  | .nx ρ S => k ρ S
  | r => r
section
variable (K : W.Frag) (mg : Str → Option Value)
def PostS (μ : Pl) (H : Hp) (E : L2.St → XK) (r : SR) (D : Ends) : Prop := match r with
  | .nx ρ S => ∀ σ' H' μ', Step μ μ' H H' → Ok K mg μ' H' S → EnvOk K mg μ' H' σ' ρ → D.nx σ' H'
  | .bk ρ S => ∀ σ' H' μ', Step μ μ' H H' → Ok K mg μ' H' S → EnvOk K mg μ' H' σ' ρ → D.bk σ' H'
  | .ct ρ S => ∀ σ' H' μ', Step μ μ' H H' → Ok K mg μ' H' S → EnvOk K mg μ' H' σ' ρ → D.ct σ' H'
  | .rt d S => ∀ v H' μ', Step μ μ' H H' → Ok K mg μ' H' S → Den K mg μ' H' v d → D.rt v H'
  | .exc ρ c fs S => ∀ σ' H' μ', Step μ μ' H H' → Ok K mg μ' H' S → EnvOk K mg μ' H' σ' ρ → ∀ cls d, ExcIs K mg μ' H' cls d c fs → E σ' cls d H'
  | .bad => False
def tS (E : L2.St → XK) (m : MSt) : TS := fun D σ H => ∃ ρ μ S, EnvOk K mg μ H σ ρ ∧ Ok K mg μ H S ∧ PostS K mg μ H E (m ρ S) D
end
section
variable {K : W.Frag} {mg : Str → Option Value} {μ μ' : Pl} {H H' : Hp} {S S' : Store} {σ : L2.St} {ρ : Env'} {E : L2.St → XK}
theorem PostS.of {r : SR} {D : Ends} (st : Step μ μ' H H') (h : PostS K mg μ H E r D) : PostS K mg μ' H' E r D := by
  cases r with
  | nx ρ S => exact fun σ' H2 μ2 s2 o2 x => h σ' H2 μ2 (st.trans s2) o2 x
  | bk ρ S => exact fun σ' H2 μ2 s2 o2 x => h σ' H2 μ2 (st.trans s2) o2 x
  | ct ρ S => exact fun σ' H2 μ2 s2 o2 x => h σ' H2 μ2 (st.trans s2) o2 x
  | rt d S => exact fun σ' H2 μ2 s2 o2 x => h σ' H2 μ2 (st.trans s2) o2 x
  | exc ρ c fs S => exact fun σ' H2 μ2 s2 o2 x => h σ' H2 μ2 (st.trans s2) o2 x
  | bad => exact h
/-- an exception out of an expression -/
theorem PostS.xp {D : Ends} {c : Str} {fs : List (Str × PyM.D)} (he : EnvOk K mg μ H σ ρ) (ho : Ok K mg μ H S) (h : PostS K mg μ H E (.exc ρ c fs S') D) : XP K mg μ H (E σ) c fs S' :=
  fun cls d H' μ' st o' x => h σ H' μ' st o' (he.mono ho st) cls d x
theorem EnvOk.set {v : V} {d : D} (he : EnvOk K mg μ H σ ρ) (i : Nat) (hd : Den K mg μ H v d) : EnvOk K mg μ H (σ.set i (some v)) (ρ.set i (some d)) := by
  refine ⟨by simp [he.1], fun j e h => ?_⟩
  by_cases hj : j = i
  · subst hj
    have hl : j < ρ.length := by
      have := (List.getElem?_eq_some_iff.mp h).1
      simpa using this
    rw [List.getElem?_set_self hl] at h
    obtain rfl := Option.some.inj (Option.some.inj h)
    exact ⟨v, by rw [List.getElem?_set_self (by rw [← he.1]; exact hl)], hd⟩
  · rw [List.getElem?_set_ne (fun z => hj z.symm)] at h
    obtain ⟨w, a, b⟩ := he.2 j e h
    exact ⟨w, by rw [List.getElem?_set_ne (fun z => hj z.symm)]; exact a, b⟩
end
theorem _root_.L2.PS.weak {X : Cx} {st : Stmt} {t t' : TS} (h : PS X st t) (w : ∀ D σ H, t' D σ H → t D σ H) : PS X st t' := ⟨fun pins s σ H D I q => h.run pins s σ H D I (w D σ H q)⟩
theorem _root_.L2.PSs.weak {X : Cx} {st : List Stmt} {t t' : TS} (h : PSs X st t) (w : ∀ D σ H, t' D σ H → t D σ H) : PSs X st t' := ⟨fun pins s σ H D I q => h.run pins s σ H D I (w D σ H q)⟩
abbrev MS (X : Cx) (E : L2.St → XK) (st : Stmt) (m : MSt) : Prop := PS X st (tS X.K X.mg E m)
abbrev MSs (X : Cx) (E : L2.St → XK) (st : List Stmt) (m : MSt) : Prop := PSs X st (tS X.K X.mg E m)
section
variable {X : Cx} {E : L2.St → XK} {a b c e : Expr} {es : List Expr} {ma mb mc : Env' → M D} {mt : Env' → M Bool} {ms : Env' → M (List D)} {st : Stmt} {sts rest : List Stmt} {m m1 m2 : MSt} {pos p : Pos}
theorem tE.runS {K : W.Frag} {mg : Str → Option Value} {μ : Pl} {H : Hp} {S : Store} {σ : L2.St} {ρ : Env'} {D : Ends} {k : PyM.D → Store → SR} {Q : VK} {m : Env' → M PyM.D} (he : EnvOk K mg μ H σ ρ) (ho : Ok K mg μ H S)
    (h : PostS K mg μ H E (SR.of (m ρ S) ρ k) D) (hk : ∀ d S', m ρ S = .ok d S' → PostS K mg μ H E (k d S') D → ∀ v H' μ', Step μ μ' H H' → Ok K mg μ' H' S' → EnvOk K mg μ' H' σ ρ → Den K mg μ' H' v d → Q v H') : tE K mg E m σ H Q := by
  refine ⟨ρ, μ, S, he, ho, ?_⟩
  unfold SR.of at h
  cases e : m ρ S with
  | ok d S' =>
    rw [e] at h
    exact fun v H' μ' st o' dd => hk d S' e h v H' μ' st o' (he.mono ho st) dd
  | exc c fs S' => rw [e] at h; exact PostS.xp he ho h
  | bad => rw [e] at h; exact h.elim
theorem tB'.runS {K : W.Frag} {mg : Str → Option Value} {μ : Pl} {H : Hp} {S : Store} {σ : L2.St} {ρ : Env'} {D : Ends} {k : Bool → Store → SR} {Q : Bool → Hp → Prop} {m : Env' → M Bool} (he : EnvOk K mg μ H σ ρ) (ho : Ok K mg μ H S)
    (h : PostS K mg μ H E (SR.of (m ρ S) ρ k) D) (hk : ∀ d S', m ρ S = .ok d S' → PostS K mg μ H E (k d S') D → ∀ H' μ', Step μ μ' H H' → Ok K mg μ' H' S' → EnvOk K mg μ' H' σ ρ → Q d H') : tB' K mg E m σ H Q := by
  refine ⟨ρ, μ, S, he, ho, ?_⟩
  unfold SR.of at h
  cases e : m ρ S with
  | ok d S' =>
    rw [e] at h
    exact fun H' μ' st o' => hk d S' e h H' μ' st o' (he.mono ho st)
  | exc c fs S' => rw [e] at h; exact PostS.xp he ho h
  | bad => rw [e] at h; exact h.elim
theorem mss_nil : MSs X E [] (fun ρ S => .nx ρ S) := pss_nil.weak fun D σ H h => by
  obtain ⟨ρ, μ, S, he, ho, h⟩ := h
  exact h σ H μ .refl ho he
theorem mss_cons (h1 : MS X E st m1) (h2 : MSs X E rest m2) : MSs X E (st :: rest) (fun ρ S => SR.bind (m1 ρ S) m2) := (pss_cons h1 h2).weak fun D σ H h => by
  obtain ⟨ρ, μ, S, he, ho, h⟩ := h
  refine ⟨ρ, μ, S, he, ho, ?_⟩
  dsimp only at h
  unfold SR.bind at h
  cases e : m1 ρ S with
  | nx ρ' S' =>
    rw [e] at h
    exact fun σ' H' μ' st o' e' => ⟨ρ', μ', S', e', o', PostS.of st h⟩
  | _ => rw [e] at h; exact h
theorem mss_one (h1 : MS X E st m1) : MSs X E [st] m1 := pss_one h1
theorem ms_pass : MS X E (.Pass pos) (fun ρ S => .nx ρ S) := ps_pass.weak fun D σ H h => by
  obtain ⟨ρ, μ, S, he, ho, h⟩ := h
  exact h σ H μ .refl ho he
theorem ms_break : MS X E (.Break pos) (fun ρ S => .bk ρ S) := ps_break.weak fun D σ H h => by
  obtain ⟨ρ, μ, S, he, ho, h⟩ := h
  exact h σ H μ .refl ho he
theorem ms_cont : MS X E (.Continue pos) (fun ρ S => .ct ρ S) := ps_continue.weak fun D σ H h => by
  obtain ⟨ρ, μ, S, he, ho, h⟩ := h
  exact h σ H μ .refl ho he
theorem ms_expr (he : ME X E e ma) (hs : swapsWith e none pos.line X.env = pure false := by rfl) : MS X E (.Expr e pos) (fun ρ S => SR.of (ma ρ S) ρ fun _ S' => .nx ρ S') := (ps_expr he hs).weak fun D σ H h => by
  obtain ⟨ρ, μ, S, he, ho, h⟩ := h
  exact tE.runS he ho h fun d S' _ h' v H' μ' st o' e' _ => h' σ H' μ' st o' e'
theorem ms_ret (he : ME X E e ma) : MS X E (.Return (some e) pos) (fun ρ S => SR.of (ma ρ S) ρ fun d S' => .rt d S') := (ps_ret he).weak fun D σ H h => by
  obtain ⟨ρ, μ, S, he, ho, h⟩ := h
  exact tE.runS he ho h fun d S' _ h' v H' μ' st o' e' dd => h' v H' μ' st o' dd
theorem ms_retN : MS X E (.Return none pos) (fun ρ S => .rt .non S) := ps_retN.weak fun D σ H h => by
  obtain ⟨ρ, μ, S, he, ho, h⟩ := h
  exact h .non H μ .refl ho .non
theorem ms_if {sa sb : List Stmt} (hc : MT X E c mt) (ha : MSs X E sa m1) (hb : MSs X E sb m2) : MS X E (.If c sa sb pos) (fun ρ S => SR.of (mt ρ S) ρ fun k S' => if k = true then m1 ρ S' else m2 ρ S') := (ps_if hc ha hb).weak fun D σ H h => by
  obtain ⟨ρ, μ, S, he, ho, h⟩ := h
  refine tB'.runS he ho h fun d S' _ h' H' μ' st o' e' => ?_
  cases d with
  | true => exact ⟨ρ, μ', S', e', o', PostS.of st h'⟩
  | false => exact ⟨ρ, μ', S', e', o', PostS.of st h'⟩
theorem ms_set (i : Nat) {x : Str} {pos' : Pos} (hN : X.N.Nodup) (he : ME X E e ma) (hi : X.N[i]? = some x := by rfl) (hx : Loc X.env.scope x := by first | exact Or.inl rfl | exact Or.inr rfl) (hs : swapsWith e (some (.Name x pos')) pos.line X.env = pure false := by rfl)
    (hf : X.fn x = true ∨ X.env.scope.names.lookup x = some .local := by first | exact .inl rfl | exact .inr rfl) :
    MS X E (.Assign [.Name x pos'] e pos) (fun ρ S => SR.of (ma ρ S) ρ fun d S' => .nx (ρ.set i (some d)) S') := (ps_set hN hi hx he hs hf).weak fun D σ H h => by
  obtain ⟨ρ, μ, S, he, ho, h⟩ := h
  exact tE.runS he ho h fun d S' _ h' v H' μ' st o' e' dd => h' _ H' μ' st o' (e'.set i dd)
/-! ### targets -/
def SameBut (w : List Nat) (σ σ' : L2.St) : Prop := σ'.length = σ.length ∧ ∀ i, i ∉ w → σ'[i]? = σ[i]?
theorem SameBut.refl {w : List Nat} {σ : L2.St} : SameBut w σ σ := ⟨rfl, fun _ _ => rfl⟩
theorem SameBut.trans {w w' : List Nat} {σ σ' σ'' : L2.St} (a : SameBut w σ σ') (b : SameBut w' σ' σ'') : SameBut (w ++ w') σ σ'' := ⟨b.1.trans a.1, fun i hi => (b.2 i fun z => hi (List.mem_append_right _ z)).trans (a.2 i fun z => hi (List.mem_append_left _ z))⟩
def tG (K : W.Frag) (mg : Str → Option Value) (w : List Nat) (g : D → Env' → Option Env') : TG := fun v σ H Q => ∃ ρ μ S d ρ', EnvOk K mg μ H σ ρ ∧ Ok K mg μ H S ∧ Den K mg μ H v d ∧ g d ρ = some ρ' ∧ ∀ σ', SameBut w σ σ' → EnvOk K mg μ H σ' ρ' → Q σ' H
def tGs (K : W.Frag) (mg : Str → Option Value) (w : List Nat) (g : List D → Env' → Option Env') : TGs := fun vs σ H Q => ∃ ρ μ S ds ρ', EnvOk K mg μ H σ ρ ∧ Ok K mg μ H S ∧ DenL K mg μ H vs ds ∧ g ds ρ = some ρ' ∧ ∀ σ', SameBut w σ σ' → EnvOk K mg μ H σ' ρ' → Q σ' H
theorem _root_.L2.PG.weak {X : Cx} {tg : Expr} {t t' : TG} (h : PG X tg t) (w : ∀ v σ H Q, t' v σ H Q → t v σ H Q) : PG X tg t' := ⟨fun pins s σ H v u Q I r q => h.run pins s σ H v u Q I r (w v σ H Q q)⟩
theorem _root_.L2.PGs.weak {X : Cx} {tg : List Expr} {t t' : TGs} (h : PGs X tg t) (w : ∀ v σ H Q, t' v σ H Q → t v σ H Q) : PGs X tg t' := ⟨fun pins s σ H v u Q I r q => h.run pins s σ H v u Q I r (w v σ H Q q)⟩
abbrev MG (X : Cx) (tg : Expr) (w : List Nat) (g : D → Env' → Option Env') : Prop := PG X tg (tG X.K X.mg w g)
abbrev MGs (X : Cx) (tg : List Expr) (w : List Nat) (g : List D → Env' → Option Env') : Prop := PGs X tg (tGs X.K X.mg w g)
def gN (i : Nat) : D → Env' → Option Env' := fun d ρ => some (ρ.set i (some d))
def gT (g : List D → Env' → Option Env') : D → Env' → Option Env' := fun d ρ => match d with
  | .tup ds => g ds ρ
  | _ => none
def gs0 : List D → Env' → Option Env' := fun ds ρ => match ds with
  | [] => some ρ
  | _ => none
def gs1 (g : D → Env' → Option Env') (gs : List D → Env' → Option Env') : List D → Env' → Option Env' := fun ds ρ => match ds with
  | d :: r => (g d ρ).bind (gs r)
  | [] => none
variable {tg : Expr} {tgs : List Expr} {w w' : List Nat} {g : D → Env' → Option Env'} {gs : List D → Env' → Option Env'}
theorem mg_name (i : Nat) {x : Str} (hN : X.N.Nodup) (hi : X.N[i]? = some x := by rfl) (hx : Loc X.env.scope x := by first | exact Or.inl rfl | exact Or.inr rfl) (hf : X.fn x = true ∨ X.env.scope.names.lookup x = some .local := by first | exact .inl rfl | exact .inr rfl) : MG X (.Name x pos) [i] (gN i) :=
  (pg_name hN hi hx hf).weak fun v σ H Q h => by
    obtain ⟨ρ, μ, S, d, ρ', he, ho, dd, eg, k⟩ := h
    obtain rfl := Option.some.inj eg
    refine k _ ⟨by simp, fun j hj => ?_⟩ (he.set i dd)
    rw [List.getElem?_set_ne (fun z => hj (by simp [z]))]
theorem mgs_nil : MGs X [] [] gs0 := pgs_nil.weak fun vs σ H Q h => by
  obtain ⟨ρ, μ, S, ds, ρ', he, ho, dd, eg, k⟩ := h
  cases dd with
  | nil =>
    obtain rfl := Option.some.inj eg
    exact ⟨rfl, k σ .refl he⟩
  | cons _ _ => cases eg
theorem mgs_cons (h1 : MG X tg w g) (h2 : MGs X tgs w' gs) (hs : (assignEach (tg :: tgs) X.env).map (·.2) = assign tg X.env :: (assignEach tgs X.env).map (·.2) := by rfl) : MGs X (tg :: tgs) (w ++ w') (gs1 g gs) := (pgs_cons h1 h2 hs).weak fun vs σ H Q h => by
  obtain ⟨ρ, μ, S, ds, ρ', he, ho, dd, eg, k⟩ := h
  cases dd with
  | nil => cases eg
  | cons d1 d2 =>
    unfold gs1 at eg
    dsimp only at eg
    rename_i v vs d r
    cases q : g d ρ with
    | none => rw [q] at eg; cases eg
    | some ρ1 =>
      rw [q] at eg
      exact ⟨v, vs, rfl, ρ, μ, S, d, ρ1, he, ho, d1, q, fun σ1 sb e1 => ⟨ρ1, μ, S, r, ρ', e1, ho, d2, eg, fun σ2 sb2 e2 => k σ2 (sb.trans sb2) e2⟩⟩
theorem gs_len (n : Nat) (h : ∀ ds ρ ρ', gs ds ρ = some ρ' → ds.length = n) : ∀ ds ρ ρ', gs1 g gs ds ρ = some ρ' → ds.length = n + 1 := fun ds ρ ρ' e => by
  unfold gs1 at e
  cases ds with
  | nil => cases e
  | cons d r =>
    dsimp only at e
    cases q : g d ρ with
    | none => rw [q] at e; cases e
    | some ρ1 => rw [q] at e; simp [h _ _ _ e]
theorem gs0_len : ∀ ds ρ ρ', gs0 ds ρ = some ρ' → ds.length = 0 := fun ds ρ ρ' e => by
  unfold gs0 at e
  cases ds with
  | nil => rfl
  | cons d r => cases e
theorem mg_tup {k : Nat} {n : Nat} (hc : X.calm = true) (h : MGs X tgs w gs) (hl : ∀ ds ρ ρ', gs ds ρ = some ρ' → ds.length = n) (hn : (assignEach tgs X.env).length = n := by rfl) (hst : (assignEach tgs X.env).findIdx? (·.1) = none := by rfl) : MG X (.Tuple tgs k pos) w (gT gs) :=
  (pg_tup hc h hn hst).weak fun v σ H Q h => by
    obtain ⟨ρ, μ, S, d, ρ', he, ho, dd, eg, k⟩ := h
    cases dd with
    | tup h1 h2 => exact ⟨_, _, rfl, h1, by rw [h2.length]; exact hl _ _ _ eg, ρ, μ, S, _, ρ', he, ho, h2, eg, k⟩
    | _ => cases eg
def SR.opt (o : Option Env') (S : Store) : SR := match o with
  | some ρ => .nx ρ S
  | none => .bad
theorem ms_asg (he : ME X E e ma) (hg : MG X tg w g) (hs : swapsWithSole [tg] e pos.line X.env = pure false := by rfl) (hw : swappedStores [tg] e X.env = pure none := by rfl)
    (h1 : (assignEach [tg] X.env).map (·.2) = [assign tg X.env] := by rfl) : MS X E (.Assign [tg] e pos) (fun ρ S => SR.of (ma ρ S) ρ fun d S' => SR.opt (g d ρ) S') := (ps_asg he hg hs hw h1).weak fun D σ H h => by
  obtain ⟨ρ, μ, S, he, ho, h⟩ := h
  refine tE.runS he ho h fun d S' _ h' v H' μ' st o' e' dd => ?_
  unfold SR.opt at h'
  cases q : g d ρ with
  | none => rw [q] at h'; exact h'.elim
  | some ρ1 =>
    rw [q] at h'
    exact ⟨ρ, μ', S', d, ρ1, e', o', dd, q, fun σ' _ e2 => h' σ' H' μ' st o' e2⟩
/-! ### loops -/
structure Src where
  items : List D
  chk : Store → Bool
/-- an iterator walks a source -/
def JOk (K : W.Frag) (mg : Str → Option Value) (J : It) (src : Src) (μ : Pl) (H : Hp) : Prop := ∀ μ' H' S', StepD μ μ' H H' → Ok K mg μ' H' S' → src.chk S' = true → ∀ i, (src.items.length ≤ i → J.stop i H') ∧
  (∀ d, src.items[i]? = some d → J.go i H' ∧ ∀ x H'', J.yld i H' x H'' → Step μ' μ' H' H'' ∧ Ok K mg μ' H'' S' ∧ Den K mg μ' H'' x d)
theorem JOk.mono {K : W.Frag} {mg : Str → Option Value} {J : It} {src : Src} {μ μ' : Pl} {H H' : Hp} {S : Store} (h : JOk K mg J src μ H) (st : Step μ μ' H H') (o : Ok K mg μ' H' S) : JOk K mg J src μ' H' := fun μ2 H2 S2 s2 => h μ2 H2 S2 (st.d.trans s2 o)
def PostI (K : W.Frag) (mg : Str → Option Value) (μ : Pl) (H : Hp) (E : XK) (r : Res Src) (R : It → Hp → Prop) : Prop := match r with
  | .ok src S' => ∀ J H' μ', Step μ μ' H H' → Ok K mg μ' H' S' → JOk K mg J src μ' H' → R J H'
  | .exc c fs S' => XP K mg μ H E c fs S'
  | .bad => False
def tI (K : W.Frag) (mg : Str → Option Value) (E : L2.St → XK) (mi : Env' → M Src) : TI := fun σ H R => ∃ ρ μ S, EnvOk K mg μ H σ ρ ∧ Ok K mg μ H S ∧ PostI K mg μ H (E σ) (mi ρ S) R
theorem _root_.L2.PI.weak {X : Cx} {tg iter : Expr} {t t' : TI} (h : PI X tg iter t) (w : ∀ σ H R, t' σ H R → t σ H R) : PI X tg iter t' := ⟨fun pins s σ H R I q => h.run pins s σ H R I (w σ H R q)⟩
abbrev MI (X : Cx) (E : L2.St → XK) (tg iter : Expr) (mi : Env' → M Src) : Prop := PI X tg iter (tI X.K X.mg E mi)
/-- the turns -/
def loopS (chk : Store → Bool) (g : D → Env' → Option Env') (mb : MSt) : List D → MSt
  | [], ρ, S => if chk S = true then .nx ρ S else .bad
  | d :: ds, ρ, S => if chk S = true then (match g d ρ with
      | none => .bad
      | some ρ' => match mb ρ' S with
        | .nx ρ2 S2 => loopS chk g mb ds ρ2 S2
        | .ct ρ2 S2 => loopS chk g mb ds ρ2 S2
        | .bk ρ2 S2 => .nx ρ2 S2
        | r => r) else .bad
def forM (mi : Env' → M Src) (g : D → Env' → Option Env') (mb : MSt) : MSt := fun ρ S => SR.of (mi ρ S) ρ fun src S' => loopS src.chk g mb src.items ρ S'
theorem ms_for {iter : Expr} {body : List Stmt} {mi : Env' → M Src} {mb : MSt} (hp : PassesOwn (model X.prog X.w) X.A X.env X.xe) (hc : X.calm = true) (hi : MI X E tg iter mi) (hg : MG X tg w g) (hb : MSs X E body mb)
    (hs : ∀ x, foldedSetIterable iter X.env x = pure x := by intro _; rfl) : MS X E (.For tg iter body [] pos) (forM mi g mb) := (ps_for hp hc hi hg hb hs).weak fun D σ H h => by
  obtain ⟨ρ, μ, S, he, ho, h⟩ := h
  refine ⟨ρ, μ, S, he, ho, ?_⟩
  unfold forM SR.of at h
  cases e : mi ρ S with
  | bad => rw [e] at h; exact h.elim
  | exc c fs S' => rw [e] at h; exact PostS.xp he ho h
  | ok src S1 =>
    rw [e] at h
    intro J H1 μ1 s1 o1 j1
    refine ⟨fun i m σ H => m = src.items.length - i ∧ i ≤ src.items.length ∧ ∃ ρ μ S, EnvOk X.K X.mg μ H σ ρ ∧ Ok X.K X.mg μ H S ∧ JOk X.K X.mg J src μ H ∧ PostS X.K X.mg μ H E (loopS src.chk g mb (src.items.drop i) ρ S) D,
      ⟨src.items.length, by simp, Nat.zero_le _, ρ, μ1, S1, he.mono ho s1, o1, j1, PostS.of s1 h⟩, ?_⟩
    rintro i m σ H ⟨rfl, hi, ρ, μ, S, he, ho, hj, h⟩
    by_cases hlt : i < src.items.length
    · rw [List.drop_eq_getElem_cons hlt] at h
      unfold loopS at h
      split at h
      · rename_i hchk
        have hj' := (hj μ H S (Step.refl).d ho hchk i).2 _ (List.getElem?_eq_getElem hlt)
        cases q : g src.items[i] ρ with
        | none => rw [q] at h; exact h.elim
        | some ρ1 =>
          rw [q] at h
          dsimp only at h
          refine .inr ⟨hj'.1, fun σ' H' => ∃ ρ μ S, EnvOk X.K X.mg μ H' σ' ρ ∧ Ok X.K X.mg μ H' S ∧ JOk X.K X.mg J src μ H' ∧ PostS X.K X.mg μ H' E (loopS src.chk g mb (src.items.drop (i + 1)) ρ S) D,
            fun σ' H' p' => ⟨src.items.length - (i + 1), by omega, rfl, hlt, p'⟩, fun x H' y => ?_⟩
          obtain ⟨s2, o2, d2⟩ := hj'.2 x H' y
          have he2 := he.mono ho s2
          refine ⟨ρ, μ, S, _, ρ1, he2, o2, d2, q, fun σ' _ e' => ⟨ρ1, μ, S, e', o2, ?_⟩⟩
          have h2 := PostS.of s2 h
          have hj2 := hj.mono s2 o2
          cases r : mb ρ1 S with
          | nx ρ3 S3 => rw [r] at h2; exact fun σ3 H3 μ3 s3 o3 e3 => ⟨ρ3, μ3, S3, e3, o3, hj2.mono s3 o3, PostS.of s3 h2⟩
          | ct ρ3 S3 => rw [r] at h2; exact fun σ3 H3 μ3 s3 o3 e3 => ⟨ρ3, μ3, S3, e3, o3, hj2.mono s3 o3, PostS.of s3 h2⟩
          | bk ρ3 S3 => rw [r] at h2; exact h2
          | rt d S3 => rw [r] at h2; exact h2
          | exc ρ3 c fs S3 => rw [r] at h2; exact h2
          | bad => rw [r] at h2; exact h2
      · exact h.elim
    · rw [List.drop_eq_nil_of_le (by omega)] at h
      unfold loopS at h
      split at h
      · rename_i hchk
        exact .inl ⟨(hj μ H S (Step.refl).d ho hchk i).1 (by omega), h σ H μ .refl ho he⟩
      · exact h.elim
end
end PyM
set_option Elab.async false
set_option linter.all false
set_option maxRecDepth 100000
set_option maxHeartbeats 2000000
namespace PyM
open PySem PySem.Spec PyProof.Rows L2

/-- a list's items, the frozen one's too -/
def asS (S : Store) : D → Option (List D)
  | .scr ds => some ds
  | d => asL S d
/-- a list's or a tuple's -/
def asA (S : Store) : D → Option (List D)
  | .tup ds => some ds
  | d => asS S d
section
variable {K : W.Frag} {mg : Str → Option Value} {μ μ' : Pl} {H H' : Hp} {S S' : Store} {σ : L2.St} {ρ : Env'}
theorem asS_den (o : Ok K mg μ H S) {v : V} {d : D} {ds : List D} (h : Den K mg μ H v d) (e : asS S d = some ds) : ∃ (p : Addr) (vs : List V), v = .ref p ∧ SqL K H p vs ∧ DenL K mg μ H vs ds := by
  cases h with
  | scr h1 h2 =>
    obtain rfl := Option.some.inj e
    rcases h1 with ⟨ob, h1⟩ | h1
    · exact ⟨_, _, rfl, .inl (.inr ⟨ob, h1⟩), h2⟩
    · exact ⟨_, _, rfl, .inr h1, h2⟩
  | lst h1 h2 h3 h4 =>
    obtain ⟨p, vs, e1, e2, e3⟩ := asL_den o (.lst h1 h2 h3 h4) e
    exact ⟨p, vs, e1, .inl (.inl e2), e3⟩
  | loc h1 =>
    obtain ⟨p, vs, e1, e2, e3⟩ := asL_den o (.loc h1) e
    exact ⟨p, vs, e1, .inl (.inl e2), e3⟩
  | _ => cases e
theorem asA_den (o : Ok K mg μ H S) {v : V} {d : D} {ds : List D} (h : Den K mg μ H v d) (e : asA S d = some ds) : ∃ (p : Addr) (vs : List V), v = .ref p ∧ (SqL K H p vs ∨ SqT K H p vs) ∧ DenL K mg μ H vs ds := by
  cases h with
  | tup h1 h2 =>
    obtain rfl := Option.some.inj e
    exact ⟨_, _, rfl, .inr h1, h2⟩
  | scr h1 h2 =>
    obtain ⟨p, vs, e1, e2, e3⟩ := asS_den o (.scr h1 h2) e
    exact ⟨p, vs, e1, .inl e2, e3⟩
  | lst h1 h2 h3 h4 =>
    obtain ⟨p, vs, e1, e2, e3⟩ := asS_den o (.lst h1 h2 h3 h4) e
    exact ⟨p, vs, e1, .inl e2, e3⟩
  | loc h1 =>
    obtain ⟨p, vs, e1, e2, e3⟩ := asS_den o (.loc h1) e
    exact ⟨p, vs, e1, .inl e2, e3⟩
  | _ => cases e
theorem EnvOk.monoD (e : EnvOk K mg μ H σ ρ) (o : Ok K mg μ H S) (st : StepD μ μ' H H') : EnvOk K mg μ' H' σ ρ := ⟨e.1, fun i d h => by
  obtain ⟨v, a, b⟩ := e.2 i d h
  exact ⟨v, a, b.monoD o st⟩⟩
/-! ### sources -/
mutual
def D.beq : D → D → Bool
  | .non, .non => true
  | .bl a, .bl b => a == b
  | .int a, .int b => a == b
  | .str a, .str b => a == b
  | .tup a, .tup b => D.beqL a b
  | .lst a, .lst b => D.beqL a b
  | .loc a, .loc b => a == b
  | .fn a, .fn b => a == b
  | .exo a x c f ds, .exo b y d g es => a == b && (x == y && (c == d && (f == g && D.beqL ds es)))
  | .ty a, .ty b => a == b
  | .scr a, .scr b => D.beqL a b
  | _, _ => false
def D.beqL : List D → List D → Bool
  | [], [] => true
  | a :: as, b :: bs => D.beq a b && D.beqL as bs
  | _, _ => false
end
mutual
theorem D.eq_of_beq : ∀ (a b : D), D.beq a b = true → a = b
  | .non, b, h => by cases b <;> simp [D.beq] at h <;> rfl
  | .bl a, b, h => by cases b <;> simp [D.beq] at h; rw [h]
  | .int a, b, h => by cases b <;> simp [D.beq] at h; rw [h]
  | .str a, b, h => by cases b <;> simp [D.beq] at h; rw [h]
  | .loc a, b, h => by cases b <;> simp [D.beq] at h; rw [h]
  | .fn a, b, h => by cases b <;> simp [D.beq] at h; rw [h]
  | .exo a x c f ds, b, h => by
    cases b <;> simp [D.beq] at h
    obtain ⟨rfl, rfl, rfl, rfl, h⟩ := h
    rw [D.eq_of_beqL ds _ h]
  | .ty a, b, h => by cases b <;> simp [D.beq] at h; rw [h]
  | .tup a, b, h => by
    cases b <;> simp [D.beq] at h
    rw [D.eq_of_beqL a _ h]
  | .lst a, b, h => by
    cases b <;> simp [D.beq] at h
    rw [D.eq_of_beqL a _ h]
  | .scr a, b, h => by
    cases b <;> simp [D.beq] at h
    rw [D.eq_of_beqL a _ h]
theorem D.eq_of_beqL : ∀ (a b : List D), D.beqL a b = true → a = b
  | [], b, h => by cases b <;> simp [D.beqL] at h; rfl
  | x :: a, b, h => by
    cases b <;> simp [D.beqL] at h
    rw [D.eq_of_beq x _ h.1, D.eq_of_beqL a _ h.2]
end
mutual
theorem D.beq_refl : ∀ (a : D), D.beq a a = true
  | .non => rfl
  | .bl a => by simp [D.beq]
  | .int a => by simp [D.beq]
  | .str a => by simp [D.beq]
  | .loc a => by simp [D.beq]
  | .fn a => by simp [D.beq]
  | .exo a x c f ds => by simp [D.beq, D.beqL_refl ds]
  | .ty a => by simp [D.beq]
  | .tup a => by simp [D.beq, D.beqL_refl a]
  | .lst a => by simp [D.beq, D.beqL_refl a]
  | .scr a => by simp [D.beq, D.beqL_refl a]
theorem D.beqL_refl : ∀ (a : List D), D.beqL a a = true
  | [] => rfl
  | x :: a => by simp [D.beqL, D.beq_refl x, D.beqL_refl a]
end
/-- d's items still are ds -/
def still (d : D) (ds : List D) (S : Store) : Bool := match d with
  | .loc n => (match S[n]? with
    | some (.lst es) => D.beqL es ds
    | _ => false)
  | _ => true
theorem still_as {S S' : Store} {d : D} {ds : List D} (e : asS S d = some ds) (h : still d ds S' = true) : asS S' d = some ds := by
  cases d with
  | loc n =>
    unfold still at h
    dsimp only at h
    split at h
    · rename_i es q
      have := D.eq_of_beqL _ _ h
      subst this
      show (match S'[n]? with
        | some (.lst ds) => some ds
        | _ => none) = some es
      rw [q]
    · cases h
  | _ => exact e
def srcA (d : D) : M Src := fun S => match d with
  | .tup ds => .ok ⟨ds, fun _ => true⟩ S
  | .str x => .ok ⟨x.cps.toList.map fun c => .str ⟨#[c]⟩, fun _ => true⟩ S
  | d => match asS S d with
    | some ds => .ok ⟨ds, still d ds⟩ S
    | none => .bad
theorem jok_tup {a : Addr} {d : D} {ds : List D} (o : Ok K mg μ H S) (h : Den K mg μ H (.ref a) (.tup ds)) : JOk K mg (Itt K a) ⟨ds, fun _ => true⟩ μ H := by
  intro μ' H' S' st o' _ i
  have h' := h.monoD o st
  cases h' with
  | tup h1 h2 =>
    refine ⟨fun hi => ⟨_, h1, by rw [h2.length]; exact hi⟩, fun d hd => ?_⟩
    obtain ⟨v, hv, dv⟩ := h2.get hd
    refine ⟨⟨_, v, h1, hv⟩, fun x H'' y => ?_⟩
    obtain ⟨rfl, y⟩ := y
    have := y _ h1
    rw [hv] at this
    obtain rfl := Option.some.inj this
    exact ⟨.refl, o', dv⟩
theorem jok_list {a : Addr} {d : D} {ds : List D} (o : Ok K mg μ H S) (h : Den K mg μ H (.ref a) d) (ea : asS S d = some ds) : JOk K mg (Itl K a) ⟨ds, still d ds⟩ μ H := by
  intro μ' H' S' st o' hc i
  obtain ⟨p, vs, e, h1, h2⟩ := asS_den o' (h.monoD o st) (still_as ea hc)
  obtain rfl := V.ref.inj e
  refine ⟨fun hi => ⟨_, h1, by rw [h2.length]; exact hi⟩, fun d hd => ?_⟩
  obtain ⟨v, hv, dv⟩ := h2.get hd
  refine ⟨⟨_, v, h1, hv⟩, fun x H'' y => ?_⟩
  obtain ⟨rfl, y⟩ := y
  have := y _ h1
  rw [hv] at this
  obtain rfl := Option.some.inj this
  exact ⟨.refl, o', dv⟩
theorem jok_str {x : Str} : JOk K mg (Its x) ⟨x.cps.toList.map fun c => .str ⟨#[c]⟩, fun _ => true⟩ μ H := by
  intro μ' H' S' st o' _ i
  refine ⟨fun hi => by show x.cps.size ≤ i; simpa using hi, fun d hd => ?_⟩
  have hd' : (x.cps.toList.map fun c => D.str ⟨#[c]⟩)[i]? = some d := hd
  rw [List.getElem?_map] at hd'
  cases q : x.cps.toList[i]? with
  | none => rw [q] at hd'; cases hd'
  | some c =>
    rw [q] at hd'
    obtain rfl := Option.some.inj hd'
    have q' : x.cps[i]? = some c := by simpa using q
    refine ⟨(Array.getElem?_eq_some_iff.mp q').1, fun y H'' z => ?_⟩
    obtain ⟨rfl, c', hc', rfl⟩ := z
    rw [q'] at hc'
    obtain rfl := Option.some.inj hc'
    exact ⟨.refl, o', .str _⟩
theorem jok_range {lo : Int} {n : Nat} : JOk K mg (Itr lo n) ⟨(List.range n).map fun (i : Nat) => .int (lo + i), fun _ => true⟩ μ H := by
  intro μ' H' S' st o' _ i
  refine ⟨fun hi => by show n ≤ i; simpa using hi, fun d hd => ?_⟩
  have hd' : ((List.range n).map fun (i : Nat) => D.int (lo + i))[i]? = some d := hd
  rw [List.getElem?_map] at hd'
  cases q : (List.range n)[i]? with
  | none => rw [q] at hd'; cases hd'
  | some c =>
    rw [q] at hd'
    obtain rfl := Option.some.inj hd'
    obtain ⟨h1, h2⟩ := List.getElem?_eq_some_iff.mp q
    rw [List.getElem_range] at h2
    subst h2
    refine ⟨by show i < n; simpa using h1, fun y H'' z => ?_⟩
    obtain ⟨rfl, rfl⟩ := z
    exact ⟨.refl, o', .int _⟩
def zipD (xs ys : List D) : List D := List.zipWith (fun x y => .tup [x, y]) xs ys
theorem zipD_get {xs ys : List D} {i : Nat} {d : D} (h : (zipD xs ys)[i]? = some d) : ∃ x y, xs[i]? = some x ∧ ys[i]? = some y ∧ d = .tup [x, y] := by
  unfold zipD at h
  rw [List.getElem?_zipWith] at h
  cases e1 : xs[i]? with
  | none => rw [e1] at h; cases h
  | some x =>
    cases e2 : ys[i]? with
    | none => rw [e1, e2] at h; cases h
    | some y =>
      rw [e1, e2] at h
      exact ⟨x, y, rfl, rfl, (Option.some.inj h).symm⟩
theorem jok_zipT {a b : Addr} {xs ys : List D} (o : Ok K mg μ H S) (h : Den K mg μ H (.ref a) (.tup xs)) (h' : Den K mg μ H (.ref b) (.tup ys)) : JOk K mg (RZ.ItzT K a b) ⟨zipD xs ys, fun _ => true⟩ μ H := by
  intro μ' H' S' st o' _ i
  have g := h.monoD o st
  have g' := h'.monoD o st
  cases g with
  | tup h1 h2 =>
    cases g' with
    | tup h3 h4 =>
      rename_i vs ws
      refine ⟨fun hi => ⟨vs, ws, h1, h3, ?_⟩, fun d hd => ?_⟩
      · have hi' : (zipD xs ys).length ≤ i := hi
        unfold zipD at hi'
        rw [List.length_zipWith] at hi'
        rw [h2.length, h4.length]
        omega
      · obtain ⟨x, y, ex, ey, rfl⟩ := zipD_get hd
        obtain ⟨v, hv, dv⟩ := h2.get ex
        obtain ⟨w, hw, dw⟩ := h4.get ey
        refine ⟨⟨vs, ws, v, w, h1, h3, hv, hw⟩, fun z H'' q => ?_⟩
        obtain ⟨T, v', w', rfl, hT, rfl, q1, q2⟩ := q
        have := q1 _ h1
        rw [hv] at this
        obtain rfl := Option.some.inj this
        have := q2 _ h3
        rw [hw] at this
        obtain rfl := Option.some.inj this
        exact new_tup o' hT (.cons dv (.cons dw .nil))
theorem jok_zip {a b : Addr} {d d' : D} {xs ys : List D} (o : Ok K mg μ H S) (h : Den K mg μ H (.ref a) d) (h' : Den K mg μ H (.ref b) d') (ea : asS S d = some xs) (eb : asS S d' = some ys) : JOk K mg (Itz K a b) ⟨zipD xs ys, fun S' => still d xs S' && still d' ys S'⟩ μ H := by
  intro μ' H' S' st o' hc i
  obtain ⟨hc1, hc2⟩ := Bool.and_eq_true_iff.mp hc
  obtain ⟨p, vs, e, h1, h2⟩ := asS_den o' (h.monoD o st) (still_as ea hc1)
  obtain rfl := V.ref.inj e
  obtain ⟨p, ws, e, h3, h4⟩ := asS_den o' (h'.monoD o st) (still_as eb hc2)
  obtain rfl := V.ref.inj e
  refine ⟨fun hi => ⟨vs, ws, h1, h3, ?_⟩, fun d hd => ?_⟩
  · have hi' : (zipD xs ys).length ≤ i := hi
    unfold zipD at hi'
    rw [List.length_zipWith] at hi'
    rw [h2.length, h4.length]
    omega
  · obtain ⟨x, y, ex, ey, rfl⟩ := zipD_get hd
    obtain ⟨v, hv, dv⟩ := h2.get ex
    obtain ⟨w, hw, dw⟩ := h4.get ey
    refine ⟨⟨vs, ws, v, w, h1, h3, hv, hw⟩, fun z H'' q => ?_⟩
    obtain ⟨T, v', w', rfl, hT, rfl, q1, q2⟩ := q
    have := q1 _ h1
    rw [hv] at this
    obtain rfl := Option.some.inj this
    have := q2 _ h3
    rw [hw] at this
    obtain rfl := Option.some.inj this
    exact new_tup o' hT (.cons dv (.cons dw .nil))
def rngOk (j : Int) : Prop := -(2 ^ 62) ≤ j ∧ j < 2 ^ 62
instance (j : Int) : Decidable (rngOk j) := by unfold rngOk; exact inferInstance
def srcR (lo hi : Int) : Src := ⟨(List.range (hi - lo).toNat).map fun (i : Nat) => .int (lo + i), fun _ => true⟩
def srcR1 (ds : List D) : M Src := fun S => match ds with
  | [.int j] => if rngOk j then .ok (srcR 0 j) S else .bad
  | _ => .bad
def srcR2 (ds : List D) : M Src := fun S => match ds with
  | [.int i, .int j] => if rngOk i ∧ rngOk j then .ok (srcR i j) S else .bad
  | _ => .bad
def srcZ (ds : List D) : M Src := fun S => match ds with
  | [.tup xs, .tup ys] => .ok ⟨zipD xs ys, fun _ => true⟩ S
  | [a, b] => match asS S a, asS S b with
    | some xs, some ys => .ok ⟨zipD xs ys, fun S' => still a xs S' && still b ys S'⟩ S
    | _, _ => .bad
  | _ => .bad
end
section
variable {X : Cx} {E : L2.St → XK} {a b e : Expr} {es : List Expr} {ma mb : Env' → M D} {ms : Env' → M (List D)} {pos p : Pos} {tg : Expr}
theorem _root_.L2.PI.or {X : Cx} {tg iter : Expr} {t t' : TI} (h : PI X tg iter t) (h' : PI X tg iter t') : PI X tg iter (fun σ H R => t σ H R ∨ t' σ H R) := ⟨fun pins s σ H R I q => by
  rcases q with q | q
  · exact h.run pins s σ H R I q
  · exact h'.run pins s σ H R I q⟩
/-- a list, a tuple, a text walked -/
theorem mi_seq (ha : ME X E a ma) : MI X E tg a (fun ρ => M.bind (ma ρ) srcA) := (((pi_list ha).or ((pi_tup ha).or (pi_str ha))) : PI X tg a _).weak fun σ H R h => by
  obtain ⟨ρ, μ, S, he, ho, h⟩ := h
  dsimp only at h
  unfold M.bind at h
  cases e : ma ρ S with
  | bad => rw [e] at h; exact h.elim
  | exc c fs S' =>
    rw [e] at h
    exact .inl ⟨ρ, μ, S, he, ho, by rw [e]; exact h⟩
  | ok d S1 =>
    rw [e] at h
    have gen : ∀ ds, srcA d S1 = .ok ⟨ds, still d ds⟩ S1 → asS S1 d = some ds → iList X.K (tE X.K X.mg E ma) σ H R := fun ds e1 e2 => by
      dsimp only at h
      rw [e1] at h
      refine ⟨ρ, μ, S, he, ho, ?_⟩
      rw [e]
      intro v H1 μ1 s1 o1 d1
      obtain ⟨p, vs, rfl, h1, h2⟩ := asS_den o1 d1 e2
      exact ⟨p, rfl, ⟨vs, h1⟩, h _ H1 μ1 s1 o1 (jok_list o1 d1 e2)⟩
    cases d with
    | tup ds =>
      refine .inr (.inl ⟨ρ, μ, S, he, ho, ?_⟩)
      rw [e]
      intro v H1 μ1 s1 o1 d1
      cases d1 with
      | tup h1 h2 => exact ⟨_, rfl, ⟨_, h1⟩, h _ H1 μ1 s1 o1 (jok_tup (d := .non) o1 (.tup h1 h2))⟩
    | str x =>
      refine .inr (.inr ⟨ρ, μ, S, he, ho, ?_⟩)
      rw [e]
      intro v H1 μ1 s1 o1 d1
      cases d1
      exact ⟨x, rfl, h _ H1 μ1 s1 o1 jok_str⟩
    | lst ds => exact .inl (gen ds rfl rfl)
    | scr ds => exact .inl (gen ds rfl rfl)
    | loc n =>
      cases q : asS S1 (.loc n) with
      | some ds => exact .inl (gen ds (by unfold srcA; dsimp only; rw [q]) q)
      | none =>
        dsimp only at h
        unfold srcA at h
        dsimp only at h
        rw [q] at h
        exact h.elim
    | non => exact h.elim
    | bl b => exact h.elim
    | int i => exact h.elim
    | fn x => exact h.elim
    | exo _ _ _ _ _ => exact h.elim
    | ty n => exact h.elim
theorem mi_range1 (ha : MA X E [a] ms) (hm : X.mg "range" = none) (hg : Gl X "range" := by rfl) (hs : starEach [a] X.env = [(false, eval a X.env)] := by rfl) : MI X E tg (.Call (.Name "range" p) [a] [] pos) (fun ρ => M.bind (ms ρ) srcR1) :=
  (pi_range1 hg hm ha hs).weak fun σ H R h => by
    obtain ⟨ρ, μ, S, he, ho, h⟩ := h
    refine tA'.run (k := srcR1) (R := fun r => PostI X.K X.mg μ H (E σ) r R) he ho h (fun _ _ _ z => z) (fun z => z) fun ds S1 _ h1 vs H1 μ1 s1 o1 e1 d1 => ?_
    unfold srcR1 at h1
    split at h1
    · split at h1
      · rename_i hj
        obtain ⟨v, rfl, dv⟩ := den1 d1
        cases dv
        refine ⟨_, rfl, hj.1, hj.2, h1 _ H1 μ1 s1 o1 ?_⟩
        unfold srcR
        rw [Int.sub_zero]
        exact jok_range
      · exact h1.elim
    · exact h1.elim
theorem mi_range2 (ha : MA X E [a, b] ms) (hm : X.mg "range" = none) (hg : Gl X "range" := by rfl) (hs : starEach [a, b] X.env = [(false, eval a X.env), (false, eval b X.env)] := by rfl) (hs2 : starEach [b] X.env = [(false, eval b X.env)] := by rfl) :
    MI X E tg (.Call (.Name "range" p) [a, b] [] pos) (fun ρ => M.bind (ms ρ) srcR2) :=
  (pi_range2 hg hm ha hs hs2).weak fun σ H R h => by
    obtain ⟨ρ, μ, S, he, ho, h⟩ := h
    refine tA'.run (k := srcR2) (R := fun r => PostI X.K X.mg μ H (E σ) r R) he ho h (fun _ _ _ z => z) (fun z => z) fun ds S1 _ h1 vs H1 μ1 s1 o1 e1 d1 => ?_
    unfold srcR2 at h1
    split at h1
    · split at h1
      · rename_i hj
        obtain ⟨v, w, rfl, dv, dw⟩ := den2 d1
        cases dv
        cases dw
        exact ⟨_, _, rfl, ⟨hj.1.1, hj.1.2, hj.2.1, hj.2.2⟩, h1 _ H1 μ1 s1 o1 jok_range⟩
      · exact h1.elim
    · exact h1.elim
theorem mi_zip {elts : List Expr} {kk : Nat} {tpos : Pos} (ha : MA X E [a, b] ms) (hm : X.mg "zip" = none) (hg : Gl X "zip" := by rfl) (hs : starEach [a, b] X.env = (false, eval a X.env) :: starEach [b] X.env := by rfl) (hpl : (backTo pos (starEach [b] X.env)).any (·.1) = false := by rfl) :
    MI X E (.Tuple elts kk tpos) (.Call (.Name "zip" p) [a, b] [] pos) (fun ρ => M.bind (ms ρ) srcZ) :=
  (RZ.pi_zipA hg hm ha hs hpl).weak fun σ H R h => by
    obtain ⟨ρ, μ, S, he, ho, h⟩ := h
    refine tA'.run (k := srcZ) (R := fun r => PostI X.K X.mg μ H (E σ) r R) he ho h (fun _ _ _ z => z) (fun z => z) fun ds S1 _ h1 vs H1 μ1 s1 o1 e1 d1 => ?_
    unfold srcZ at h1
    split at h1
    · obtain ⟨v, w, rfl, dv, dw⟩ := den2 d1
      cases dv with
      | tup h2 h3 =>
        cases dw with
        | tup h4 h5 => exact ⟨_, _, _, _, rfl, .inr ⟨h2, h4, h1 _ H1 μ1 s1 o1 (jok_zipT o1 (.tup h2 h3) (.tup h4 h5))⟩⟩
    · rename_i x y _
      split at h1
      · rename_i xs ys q1 q2
        obtain ⟨v, w, rfl, dv, dw⟩ := den2 d1
        obtain ⟨p1, vs1, rfl, h2, h3⟩ := asS_den o1 dv q1
        obtain ⟨p2, vs2, rfl, h4, h5⟩ := asS_den o1 dw q2
        exact ⟨p1, p2, vs1, vs2, rfl, .inl ⟨h2, h4, h1 _ H1 μ1 s1 o1 (jok_zip o1 dv dw q1 q2)⟩⟩
      · exact h1.elim
    · exact h1.elim
/-! ### subscripts, slices -/
def ixP (S : Store) : D → D → Option D
  | .str z, .int i => if z.length ≤ sizeLine then (atI z.cps.toList i).map fun c => .str ⟨#[c]⟩ else none
  | d, .int i => match asA S d with
    | some ds => atI ds i
    | none => none
  | _, _ => none
theorem atI_den {K : W.Frag} {mg : Str → Option Value} {μ : Pl} {H : Hp} {vs : List V} {ds : List D} {i : Int} {d : D} (h : DenL K mg μ H vs ds) (e : atI ds i = some d) : ∃ v, atI vs i = some v ∧ Den K mg μ H v d := by
  unfold atI at e ⊢
  rw [h.length]
  cases q : ixN ds.length i with
  | none => rw [q] at e; cases e
  | some j =>
    rw [q] at e
    exact h.get e
theorem r_ix : IxR X (rP2 X.K X.mg ixP) := by
  intro value slice pins s σ H x y v u Q I rx ry h hs
  obtain ⟨μ, S, a, b, d, o, da, db, e, k⟩ := h
  refine ix_seq value slice pins s σ H x y v u Q I rx ry ?_ hs
  unfold ixP at e
  split at e
  · split at e
    · rename_i z i hz
      cases da
      cases db
      cases q : atI z.cps.toList i with
      | none => rw [q] at e; cases e
      | some c =>
        rw [q] at e
        obtain rfl := Option.some.inj e
        exact .inr (.inr ⟨z, i, c, rfl, rfl, hz, q, k _ _ .refl o (.str _)⟩)
    · cases e
  · split at e
    · rename_i ds q
      cases db
      obtain ⟨p, vs, rfl, hq, hd⟩ := asA_den o da q
      obtain ⟨w, hw, dw⟩ := atI_den hd e
      rcases hq with hq | hq
      · exact .inl ⟨p, vs, _, w, rfl, rfl, hq, hw, k _ _ .refl o dw⟩
      · exact .inr (.inl ⟨p, vs, _, w, rfl, rfl, hq, hw, k _ _ .refl o dw⟩)
    · cases e
  · cases e
theorem me_ix (ha : ME X E a ma) (hb : ME X E b mb) (hs : PlainIx b := by intro _ _; rfl) : ME X E (.Subscript a b pos) (bin2 ixP ma mb) := (pe_ix r_ix ha hb hs).weak fun _ _ _ h => tOp_of h
def cutD (xs : List D) (lo hi : Option Int) : List D := (xs.drop (HT.sIx xs.length 0 lo)).take (HT.sIx xs.length xs.length hi - HT.sIx xs.length 0 lo)
theorem cut_den {K : W.Frag} {mg : Str → Option Value} {μ : Pl} {H : Hp} {vs : List V} {ds : List D} {lo hi : Option Int} (h : DenL K mg μ H vs ds) : DenL K mg μ H (cutV vs lo hi) (cutD ds lo hi) := by
  unfold cutV cutD
  rw [h.length]
  exact (h.drop _).take _
def slP (S : Store) (d : D) (lo hi : Option Int) : Option D := match d with
  | .str z => if z.length ≤ sizeLine then some (.str (cutS z lo hi)) else none
  | .tup ds => some (.tup (cutD ds lo hi))
  | d => match asS S d with
    | some ds => some (.lst (cutD ds lo hi))
    | none => none
def rPS (K : W.Frag) (mg : Str → Option Value) : V → Option Int → Option Int → Hp → VK → Prop := fun x lo hi H Q => ∃ μ S a d, Ok K mg μ H S ∧ Den K mg μ H x a ∧ slP S a lo hi = some d ∧ ∀ v' H', Step μ μ H H' → Ok K mg μ H' S → Den K mg μ H' v' d → Q v' H'
theorem r_sl : SlR X (rPS X.K X.mg) := by
  intro pins s σ H x v vl vu lo hi sl Q I rx hs pl pu h
  obtain ⟨μ, S, a, d, o, da, e, k⟩ := h
  unfold slP at e
  split at e
  · split at e
    · obtain rfl := Option.some.inj e
      cases da
      exact sl_str pins s σ H _ v vl vu lo hi sl Q I rx hs pl pu ⟨_, rfl, by assumption, k _ _ .refl o (.str _)⟩
    · cases e
  · rename_i ds
    obtain rfl := Option.some.inj e
    cases da with
    | tup h1 h2 =>
      rename_i p vs
      refine sl_tupA pins s σ H _ v vl vu lo hi sl Q I rx hs pl pu ⟨p, vs, rfl, h1, fun hw => ?_, fun _ q hq => ?_⟩
      · have e1 : cutD ds lo hi = ds := by
          rw [h2.length] at hw
          unfold cutD
          rw [hw.1, hw.2, List.drop_zero, Nat.sub_zero, List.take_length]
        rw [e1] at k
        exact k _ _ .refl o (.tup h1 h2)
      · obtain ⟨s1, o1, d1⟩ := new_tup o hq (cut_den (lo := lo) (hi := hi) h2)
        exact k _ _ s1 o1 d1
  · split at e
    · rename_i ds q
      obtain rfl := Option.some.inj e
      obtain ⟨p, vs, rfl, h1, h2⟩ := asS_den o da q
      refine sl_list pins s σ H _ v vl vu lo hi sl Q I rx hs pl pu ⟨p, vs, rfl, h1, fun q hq => ?_⟩
      obtain ⟨s1, o1, d1⟩ := new_lst o hq (cut_den (lo := lo) (hi := hi) h2)
      exact k _ _ s1 o1 d1
    · cases e
def PostO (K : W.Frag) (mg : Str → Option Value) (μ : Pl) (H : Hp) (E : XK) (r : Res (Option Int)) (Q : Option Int → Hp → Prop) : Prop := match r with
  | .ok i S' => ∀ H' μ', Step μ μ' H H' → Ok K mg μ' H' S' → Q i H'
  | .exc c fs S' => XP K mg μ H E c fs S'
  | .bad => False
def tO' (K : W.Frag) (mg : Str → Option Value) (E : L2.St → XK) (m : Env' → M (Option Int)) : TO := fun σ H Q => ∃ ρ μ S, EnvOk K mg μ H σ ρ ∧ Ok K mg μ H S ∧ PostO K mg μ H (E σ) (m ρ S) Q
theorem _root_.L2.PO.weak {X : Cx} {e : Option Expr} {t t' : TO} (h : PO X e t) (w : ∀ σ H Q, t' σ H Q → t σ H Q) : PO X e t' := ⟨fun pins s σ H Q I q => h.run pins s σ H Q I (w σ H Q q)⟩
abbrev MO (X : Cx) (E : L2.St → XK) (e : Option Expr) (m : Env' → M (Option Int)) : Prop := PO X e (tO' X.K X.mg E m)
theorem mo_none : MO X E none (fun _ => M.pure none) := po_none.weak fun σ H Q h => by
  obtain ⟨ρ, μ, S, he, ho, h⟩ := h
  exact h H μ .refl ho
def optI (m : M D) : M (Option Int) := M.bind m fun d => M.lift ((asI d).map some)
theorem mo_some (ha : ME X E a ma) : MO X E (some a) (fun ρ => optI (ma ρ)) := (po_some ha).weak fun σ H Q h => by
  obtain ⟨ρ, μ, S, he, ho, h⟩ := h
  refine tE.run (k := fun d => M.lift ((asI d).map some)) (R := fun r => PostO X.K X.mg μ H (E σ) r Q) he ho h (fun _ _ _ z => z) (fun z => z) fun d S1 _ h1 v H1 μ1 s1 o1 e1 d1 => ?_
  cases d1 with
  | int i => exact ⟨i, rfl, h1 H1 μ1 s1 o1⟩
  | _ => exact h1.elim
def opS (f : Store → D → Option Int → Option Int → Option D) (d : D) (lo hi : Option Int) : M D := fun S => match f S d lo hi with
  | some r => .ok r S
  | none => .bad
def slM (ma : Env' → M D) (ml mh : Env' → M (Option Int)) : Env' → M D := fun ρ => M.bind (ma ρ) fun d => M.bind (ml ρ) fun lo => M.bind (mh ρ) fun hi => opS slP d lo hi
theorem tO'.run {K : W.Frag} {mg : Str → Option Value} {m : Env' → M (Option Int)} {σ : L2.St} {H : Hp} {μ : Pl} {ρ : Env'} {S : Store} {α : Type} {k : Option Int → M α} {Q : Option Int → Hp → Prop} {R : Res α → Prop}
    (he : EnvOk K mg μ H σ ρ) (ho : Ok K mg μ H S) (hR : R (M.bind (m ρ) k S)) (hx : ∀ c fs S', R (.exc c fs S') → XP K mg μ H (E σ) c fs S') (hb : ¬ R .bad)
    (hk : ∀ d S', m ρ S = .ok d S' → R (k d S') → ∀ H' μ', Step μ μ' H H' → Ok K mg μ' H' S' → EnvOk K mg μ' H' σ ρ → Q d H') : tO' K mg E m σ H Q := by
  refine ⟨ρ, μ, S, he, ho, ?_⟩
  unfold M.bind at hR
  cases e : m ρ S with
  | ok d S' =>
    rw [e] at hR
    exact fun H' μ' st o' => hk d S' e hR H' μ' st o' (he.mono ho st)
  | exc c fs S' =>
    rw [e] at hR
    exact hx c fs S' hR
  | bad =>
    rw [e] at hR
    exact absurd hR hb
theorem me_slice {lo hi : Option Expr} {ml mh : Env' → M (Option Int)} {p2 : Pos} (ha : ME X E a ma) (hl : MO X E lo ml) (hh : MO X E hi mh) : ME X E (.Subscript a (.Slice lo hi none p2) pos) (slM ma ml mh) := (pe_slice r_sl ha hl hh).weak fun σ H Q h => by
  obtain ⟨ρ, μ, S, he, ho, h⟩ := h
  refine tE.run (R := fun r => PostD X.K X.mg μ H (E σ) r Q) he ho h (fun _ _ _ z => z) (fun z => z) fun d S1 _ h1 v H1 μ1 s1 o1 e1 d1 => ?_
  refine tO'.run (R := fun r => PostD X.K X.mg μ1 H1 (E σ) r Q) e1 o1 (PostD.of s1 h1) (fun _ _ _ z => z) (fun z => z) fun l S2 _ h2 H2 μ2 s2 o2 e2 => ?_
  refine tO'.run (R := fun r => PostD X.K X.mg μ2 H2 (E σ) r Q) e2 o2 (PostD.of s2 h2) (fun _ _ _ z => z) (fun z => z) fun u S3 _ h3 H3 μ3 s3 o3 e3 => ?_
  unfold opS at h3
  cases q : slP S3 d l u with
  | none => rw [q] at h3; exact h3.elim
  | some r =>
    rw [q] at h3
    exact ⟨μ3, S3, d, r, o3, (d1.mono o1 s2).mono o2 s3, q, fun v' H' st o' hd => h3 v' H' μ3 (s3.trans st) o' hd⟩
end
end PyM
set_option Elab.async false
set_option linter.all false
set_option maxRecDepth 100000
set_option maxHeartbeats 2000000
namespace PyM
open PySem PySem.Spec PyProof.Rows L2

/-! ### comprehensions -/
def wipeE (ρ : Env') : List Nat → Env'
  | [] => ρ
  | v :: vs => (wipeE ρ vs).set v none
theorem wipe_get {σ : L2.St} {i : Nat} : ∀ {vs : List Nat}, i ∉ vs → (wipe σ vs)[i]? = σ[i]?
  | [], _ => rfl
  | v :: vs, h => by
    unfold wipe
    rw [List.getElem?_set_ne (fun z => h (by simp [z]))]
    exact wipe_get fun z => h (by simp [z])
theorem wipe_in {σ : L2.St} {i : Nat} : ∀ {vs : List Nat}, i ∈ vs → i < σ.length → (wipe σ vs)[i]? = some none
  | [], h, _ => by simp at h
  | v :: vs, h, hl => by
    unfold wipe
    by_cases e : v = i
    · rw [e, List.getElem?_set_self (by rw [wipe_length]; exact hl)]
    · rw [List.getElem?_set_ne e]
      exact wipe_in (by rcases List.mem_cons.mp h with z | z; exact absurd z.symm e; exact z) hl
theorem wipeE_some {ρ : Env'} {i : Nat} {x : D} : ∀ {vs : List Nat}, (wipeE ρ vs)[i]? = some (some x) → ρ[i]? = some (some x) ∧ i ∉ vs
  | [], h => ⟨h, by simp⟩
  | v :: vs, h => by
    unfold wipeE at h
    by_cases e : v = i
    · subst e
      have hl : v < (wipeE ρ vs).length := by
        have := (List.getElem?_eq_some_iff.mp h).1
        simpa using this
      rw [List.getElem?_set_self hl] at h
      cases h
    · rw [List.getElem?_set_ne e] at h
      obtain ⟨h1, h2⟩ := wipeE_some h
      exact ⟨h1, fun z => (List.mem_cons.mp z).elim (fun q => e q.symm) h2⟩
theorem wipeE_length (ρ : Env') : ∀ vs : List Nat, (wipeE ρ vs).length = ρ.length
  | [] => rfl
  | v :: vs => by unfold wipeE; rw [List.length_set, wipeE_length ρ vs]
section
variable {K : W.Frag} {mg : Str → Option Value} {μ μ' : Pl} {H H' : Hp} {S S' : Store} {σ σ' : L2.St} {ρ : Env'}
theorem EnvOk.wipe (he : EnvOk K mg μ H σ ρ) (vs : List Nat) : EnvOk K mg μ H (L2.wipe σ vs) (wipeE ρ vs) := ⟨by rw [wipeE_length, wipe_length]; exact he.1, fun i d h => by
  obtain ⟨h1, h2⟩ := wipeE_some h
  obtain ⟨v, a, b⟩ := he.2 i d h1
  exact ⟨v, by rw [wipe_get h2]; exact a, b⟩⟩
theorem wipe_same {w vs : List Nat} (hw : ∀ i ∈ w, i ∈ vs) (h : SameBut w (L2.wipe σ vs) σ') : L2.wipe σ' vs = L2.wipe σ vs := by
  refine List.ext_getElem? fun i => ?_
  have hl : σ'.length = σ.length := by rw [h.1, wipe_length]
  by_cases hi : i ∈ vs
  · by_cases hlt : i < σ.length
    · rw [wipe_in hi (by omega), wipe_in hi hlt]
    · rw [List.getElem?_eq_none (by rw [wipe_length]; omega), List.getElem?_eq_none (by rw [wipe_length]; omega)]
  · rw [wipe_get hi, h.2 i (fun z => hi (hw i z))]
theorem Step.bare {c c' : List Addr} {h h' : List Addr} (st : Step ⟨c, h⟩ ⟨c', h⟩ H H') : Step ⟨c, h'⟩ ⟨c', h'⟩ H H' := ⟨st.pre, rfl, st.keep, st.new⟩
theorem Step.grown {p : Addr} {o : HO} (st : Step μ μ' H H') (hp : H p = none) : Step μ μ' H (upd H' p o) := ⟨st.pre, st.hid, fun a u ha e => by
  rw [upd_ne (ne_of_none e hp)]
  exact st.keep a u ha e, st.new⟩
theorem Step.hidden {p : Addr} {c : List Addr} (st : Step μ ⟨c, μ.h⟩ H H') (hp : H p = none) : StepD μ ⟨c, p :: μ.h⟩ H H' := ⟨st.pre, fun a o h _ _ e => st.keep a o h e, fun a h => by
  rcases h with h | h
  · exact (st.new a h).elim .inl fun z => .inr (.inr fun xs q => by rw [z] at q; cases q)
  · rcases List.mem_cons.mp h with h | h
    · exact .inr (.inr fun xs q => by rw [h, hp] at q; cases q)
    · exact .inr (.inl h)⟩
end
/-- the turns of [elt for target in .. if ..] -/
def lcL (chk : Store → Bool) (g : D → Env' → Option Env') (mt : Env' → M Bool) (me : Env' → M D) (ρ : Env') : List D → M (List D)
  | [], S => if chk S = true then .ok [] S else .bad
  | d :: ds, S => if chk S = true then (match g d ρ with
    | none => .bad
    | some ρ2 => match mt ρ2 S with
      | .ok true S1 => (match me ρ2 S1 with
        | .ok y S2 => (match lcL chk g mt me ρ ds S2 with
          | .ok ys S3 => .ok (y :: ys) S3
          | _ => .bad)
        | _ => .bad)
      | .ok false S1 => lcL chk g mt me ρ ds S1
      | _ => .bad) else .bad
/-- its list -/
def lcI (mi : Env' → M Src) (g : D → Env' → Option Env') (mt : Env' → M Bool) (me : Env' → M D) (own : List Nat) : Env' → M (List D) := fun ρ => M.bind (mi ρ) fun src S => match lcL src.chk g mt me (wipeE ρ own) src.items S with
  | .ok ys S' => if ys.length ≤ sizeLine then .ok ys S' else .bad
  | _ => .bad
def lcM (mi : Env' → M Src) (g : D → Env' → Option Env') (mt : Env' → M Bool) (me : Env' → M D) (own : List Nat) : Env' → M D := fun ρ => M.bind (lcI mi g mt me own ρ) fun ys => M.pure (.lst ys)
abbrev EB : L2.St → XK := fun _ _ _ _ => False
abbrev MTs (X : Cx) (E : L2.St → XK) (ifs : List Expr) (mt : Env' → M Bool) : Prop := PTs X ifs (tB' X.K X.mg E mt)
theorem _root_.L2.PTs.weak {X : Cx} {e : List Expr} {t t' : TT} (h : PTs X e t) (w : ∀ σ H Q, t' σ H Q → t σ H Q) : PTs X e t' := ⟨fun pins s σ H Q I q => h.run pins s σ H Q I (w σ H Q q)⟩
section
variable {X : Cx} {E : L2.St → XK} {a b e : Expr} {es : List Expr} {ma mb : Env' → M D} {ms : Env' → M (List D)} {mt : Env' → M Bool} {pos p : Pos} {tg : Expr}
theorem mts_nil : MTs X E [] (fun _ => M.pure true) := pts_nil.weak fun σ H Q h => by
  obtain ⟨ρ, μ, S, he, ho, h⟩ := h
  exact h H μ .refl ho
theorem mts_one (h : MT X E a mt) : MTs X E [a] mt := pts_one h
/-- the whole invariant of the turns -/
theorem lc_read {K : W.Frag} {mg : Str → Option Value} {w : List Nat} {g : D → Env' → Option Env'} {me : Env' → M D} {mi : Env' → M Src} {vs : List Nat} {σ : L2.St} {H : Hp} {Q : VK}
    (hw : ∀ i ∈ w, i ∈ vs) {ρ : Env'} {μ : Pl} {S : Store} (he : EnvOk K mg μ H σ ρ) (ho : Ok K mg μ H S)
    (hx : ∀ c fs S', lcI mi g mt me vs ρ S = .exc c fs S' → XP K mg μ H (E σ) c fs S') (hb : lcI mi g mt me vs ρ S ≠ .bad)
    (hk : ∀ ys S', lcI mi g mt me vs ρ S = .ok ys S' → ∀ D H' μ' zs, Step μ μ' H H' → Ok K mg μ' H' S' → H' D = some (.lst zs) → D ∉ μ'.c → D ∉ μ'.h → DenL K mg μ' H' zs ys → Q (.ref D) H') :
    tLc (tI K mg E mi) (tG K mg w g) (tB' K mg EB mt) (tE K mg EB me) vs σ H Q := by
  refine ⟨ρ, μ, S, he, ho, ?_⟩
  unfold lcI at hx hb hk
  unfold M.bind at hx hb hk
  cases e : mi ρ S with
  | bad => rw [e] at hb; exact absurd rfl hb
  | exc c fs S' => rw [e] at hx; exact hx c fs S' rfl
  | ok src S1 =>
    rw [e] at hb hk
    clear hx
    dsimp only at hb hk
    intro J H1 μ1 s1 o1 j1 Dn hD
    cases el : lcL src.chk g mt me (wipeE ρ vs) src.items S1 with
    | bad => rw [el] at hb; exact absurd rfl hb
    | exc c fs S' => rw [el] at hb; exact absurd rfl hb
    | ok ys Sf =>
      rw [el] at hb hk
      dsimp only at hb hk
      by_cases hsz : ys.length ≤ sizeLine
      case neg => rw [if_neg hsz] at hb; exact absurd rfl hb
      rw [if_pos hsz] at hk
      have hk := hk ys Sf rfl
      have e1 : EnvOk K mg μ1 H1 (wipe σ vs) (wipeE ρ vs) := (he.mono ho s1).wipe vs
      refine ⟨fun i m H' => m = src.items.length - i ∧ i ≤ src.items.length ∧ ∃ (c' : List Addr) (S' : Store) (acc : List V) (accd ys' : List D), Step μ1 ⟨c', μ1.h⟩ H1 H' ∧ Ok K mg ⟨c', Dn :: μ1.h⟩ H' S' ∧ H' Dn = some (.lst acc) ∧
        DenL K mg ⟨c', Dn :: μ1.h⟩ H' acc accd ∧ lcL src.chk g mt me (wipeE ρ vs) (src.items.drop i) S' = .ok ys' Sf ∧ accd ++ ys' = ys,
        ⟨src.items.length, by simp, Nat.zero_le _, μ1.c, S1, [], [], ys, (Step.refl (μ := μ1) (H := H1)).grown hD, o1.hide hD, upd_same, .nil, el, rfl⟩, ?_⟩
      rintro i m H' ⟨rfl, hi, c', S', acc, accd, ys', st, o', hDn, hacc, hl, happ⟩
      have sd := st.hidden (p := Dn) hD
      by_cases hlt : i < src.items.length
      · rw [List.drop_eq_getElem_cons hlt] at hl
        unfold lcL at hl
        split at hl
        · rename_i hchk
          have hj := (j1 _ H' S' sd o' hchk i).2 _ (List.getElem?_eq_getElem hlt)
          cases q : g src.items[i] (wipeE ρ vs) with
          | none => rw [q] at hl; cases hl
          | some ρ2 =>
            rw [q] at hl
            dsimp only at hl
            refine .inr ⟨hj.1, fun H' => ∃ (c' : List Addr) (S' : Store) (acc : List V) (accd ys' : List D), Step μ1 ⟨c', μ1.h⟩ H1 H' ∧ Ok K mg ⟨c', Dn :: μ1.h⟩ H' S' ∧ H' Dn = some (.lst acc) ∧
              DenL K mg ⟨c', Dn :: μ1.h⟩ H' acc accd ∧ lcL src.chk g mt me (wipeE ρ vs) (src.items.drop (i + 1)) S' = .ok ys' Sf ∧ accd ++ ys' = ys, fun H' p' => ⟨src.items.length - (i + 1), by omega, rfl, hlt, p'⟩, fun x H2 y => ?_⟩
            obtain ⟨s2, o2, d2⟩ := hj.2 x H2 y
            have e2 : EnvOk K mg ⟨c', Dn :: μ1.h⟩ H2 (wipe σ vs) (wipeE ρ vs) := (e1.monoD o1 sd).mono o' s2
            have hDn2 : H2 Dn = some (.lst acc) := s2.keep _ _ (o'.hd Dn (by simp)).1 hDn
            refine ⟨_, _, S', _, ρ2, e2, o2, d2, q, fun σ' sb e3 => ⟨wipe_same hw sb, ρ2, _, S', e3, o2, ?_⟩⟩
            cases r : mt ρ2 S' with
            | bad => rw [r] at hl; cases hl
            | exc c fs S2 => rw [r] at hl; cases hl
            | ok k S2 =>
              rw [r] at hl
              intro H3 μ3 s3 o3
              obtain ⟨c3, h3⟩ := μ3
              obtain rfl : h3 = Dn :: μ1.h := s3.hid
              have hDn3 : H3 Dn = some (.lst acc) := s3.keep _ _ (o2.hd Dn (by simp)).1 hDn2
              cases k with
              | false =>
                exact ⟨c3, S2, acc, accd, ys', (st.trans (s2.bare.trans s3.bare)), o3, hDn3, (hacc.mono o' s2).mono o2 s3, hl, happ⟩
              | true =>
                dsimp only at hl
                refine ⟨ρ2, _, S2, e3.mono o2 s3, o3, ?_⟩
                cases r2 : me ρ2 S2 with
                | bad => rw [r2] at hl; cases hl
                | exc c fs S2 => rw [r2] at hl; cases hl
                | ok y S3 =>
                  rw [r2] at hl
                  dsimp only at hl
                  cases r3 : lcL src.chk g mt me (wipeE ρ vs) (src.items.drop (i + 1)) S3 with
                  | bad => rw [r3] at hl; cases hl
                  | exc c fs S2 => rw [r3] at hl; cases hl
                  | ok ys2 S4 =>
                    rw [r3] at hl
                    injection hl with hl1 hl2
                    subst hl1 hl2
                    intro v H4 μ4 s4 o4 d4
                    obtain ⟨c4, h4⟩ := μ4
                    obtain rfl : h4 = Dn :: μ1.h := s4.hid
                    have hDn4 : H4 Dn = some (.lst acc) := s4.keep _ _ (o3.hd Dn (by simp)).1 hDn3
                    have hacc4 := ((hacc.mono o' s2).mono o2 s3).mono o3 s4
                    have hlen := hacc4.length
                    have gs : StepD ⟨c4, Dn :: μ1.h⟩ ⟨c4, Dn :: μ1.h⟩ H4 (upd H4 Dn (.lst (acc ++ [v]))) := grow_step (by simp)
                    refine ⟨acc, hDn4, ?_, c4, S3, acc ++ [v], accd ++ [y], ys2, (st.trans (s2.bare.trans (s3.bare.trans s4.bare))).grown hD, o4.grow (by simp), upd_same, (hacc4.monoD o4 gs).append (.cons (d4.monoD o4 gs) .nil), r3, by rw [List.append_assoc]; exact happ⟩
                    have : ys.length = accd.length + (ys2.length + 1) := by rw [← happ]; simp
                    omega
        · cases hl
      · rw [List.drop_eq_nil_of_le (by omega)] at hl
        unfold lcL at hl
        split at hl
        · rename_i hchk
          injection hl with hl1 hl2
          subst hl1 hl2
          rw [List.append_nil] at happ
          subst happ
          refine .inl ⟨(j1 _ H' _ sd o' hchk i).1 (by omega), ?_⟩
          have hsub : ∀ a ∈ μ1.h, a ∈ (⟨c', Dn :: μ1.h⟩ : Pl).h := fun a h => List.mem_cons_of_mem _ h
          exact hk Dn H' ⟨c', μ1.h⟩ acc (s1.trans st) (o'.bare hsub) hDn (o'.hd Dn (by simp)).1 (o1.nofree hD).2 (hacc.bare hsub)
        · cases hl
theorem me_lc {elt iter : Expr} {ifs : List Expr} {scope : Scope} {mi : Env' → M Src} {w : List Nat} {g : D → Env' → Option Env'} {me : Env' → M D} (own : List (Str × Nat)) (hc : X.calm = true) (hN : X.N.Nodup) (hi : MI X E tg iter mi) (ok : BlkOk X.N X.env.scope scope own)
    (hg : ∀ (s : Shared) (H : Hp) (C : Addr) (cl : List (Str × Addr)) (fp : List Addr), MG (X.blk s H scope (compEnvC scope cl C X.env) fp) tg w g) (ht : ∀ (s : Shared) (H : Hp) (C : Addr) (cl : List (Str × Addr)) (fp : List Addr), MTs (X.blk s H scope (compEnvC scope cl C X.env) fp) EB ifs mt)
    (he : ∀ (s : Shared) (H : Hp) (C : Addr) (cl : List (Str × Addr)) (fp : List Addr), ME (X.blk s H scope (compEnvC scope cl C X.env) fp) EB elt me) (hw : ∀ i ∈ w, i ∈ own.map (·.2) := by decide) (hs : ∀ x, foldedSetIterable iter X.env x = pure x := by intro _; rfl) :
    ME X E (.ListComp elt [⟨tg, iter, ifs, 0⟩] scope pos) (lcM mi g mt me (own.map (·.2))) := (pe_lc (wi := tI X.K X.mg E mi) (g := tG X.K X.mg w g) (tt := tB' X.K X.mg EB mt) (te := tE X.K X.mg EB me) hc hN hi ok hg ht he hs).weak fun σ H Q h => by
  obtain ⟨ρ, μ, S, hE, ho, h⟩ := h
  unfold lcM M.bind at h
  refine lc_read (g := g) (mt := mt) (me := me) hw hE ho (fun c fs S' e => ?_) (fun e => ?_) (fun ys S' e D H' μ' zs st o' hD n1 n2 hz => ?_)
  · rw [e] at h; exact h
  · rw [e] at h; exact h
  · rw [e] at h
    exact h _ H' μ' st o' (.lst hD n1 n2 hz)
/-- a new list that will be changed in place -/
def lcC (mi : Env' → M Src) (g : D → Env' → Option Env') (mt : Env' → M Bool) (me : Env' → M D) (own : List Nat) : Env' → M D := fun ρ => M.bind (lcI mi g mt me own ρ) newCell
end
end PyM
set_option Elab.async false
set_option linter.all false
set_option maxRecDepth 100000
set_option maxHeartbeats 2000000
namespace PyM
open PySem PySem.Spec PyProof.Rows L2

/-! ### methods of lists and texts -/
def rPM (K : W.Frag) (mg : Str → Option Value) (f : Store → D → List D → Option (D × Store)) : V → List V → Hp → VK → Prop := fun x vs H Q => ∃ μ S a ds d S', Ok K mg μ H S ∧ Den K mg μ H x a ∧ DenL K mg μ H vs ds ∧ f S a ds = some (d, S') ∧
  ∀ v' H' μ', Step μ μ' H H' → Ok K mg μ' H' S' → Den K mg μ' H' v' d → Q v' H'
def M.opM (f : Store → D → List D → Option (D × Store)) (a : D) (ds : List D) : M D := fun S => match f S a ds with
  | some (d, S') => .ok d S'
  | none => .bad
def tyOk (T : String) (S : Store) (a : D) : Bool := match T, a with
  | "str", .str _ => true
  | "list", a => (asS S a).isSome
  | _, _ => false
def M.guard (p : Store → Bool) : M Unit := fun S => if p S = true then .ok () S else .bad
theorem guard_bind {α : Type} {p : Store → Bool} {k : Unit → M α} {S : Store} : M.bind (M.guard p) k S = if p S = true then k () S else .bad := by
  unfold M.bind M.guard
  cases p S <;> rfl
def methM (T : String) (f : Store → D → List D → Option (D × Store)) (mo : Env' → M D) (ms : Env' → M (List D)) : Env' → M D := fun ρ => M.bind (mo ρ) fun a => M.bind (M.guard fun S => tyOk T S a) fun _ => M.bind (ms ρ) fun ds => M.opM f a ds
theorem tyOk_den {K : W.Frag} {mg : Str → Option Value} {μ : Pl} {H : Hp} {S : Store} {T : String} {v : V} {a : D} (o : Ok K mg μ H S) (h : Den K mg μ H v a) (e : tyOk T S a = true) : tyV K T v H := by
  unfold tyOk at e
  split at e
  · cases h
    rfl
  · cases q : asS S a with
    | none => rw [q] at e; cases e
    | some ds =>
      obtain ⟨p, vs, rfl, h1, h2⟩ := asS_den o h q
      exact .inl ⟨rfl, vs, h1⟩
  · cases e
section
variable {X : Cx} {E : L2.St → XK} {a b c e : Expr} {es rest : List Expr} {ma mb mc mo : Env' → M D} {ms : Env' → M (List D)} {pos p cpos apos : Pos}
theorem me_meth {name : Str} {T id : String} {f : Store → D → List D → Option (D × Store)} (pa : PlainAttrs T) (slot : Slot T name id) (hty : typeOf (.builtin id) = pure (.type "method_descriptor")) (hm : MtR X id (rPM X.K X.mg f)) (ho : ME X E a mo) (ha : MA X E (e :: es) ms)
    (hbase : attributeBase a name X.env (eval a X.env) = eval a X.env := by rfl)
    (hfew : ((backTo cpos (starEach (e :: es) X.env)).all (fun x => !x.1) && (backToKw cpos (keywordEach [] X.env)).all (fun x => x.1.isSome)
      && decide ((e :: es).length + ([] : List Keyword).length + (if ([] : List Keyword).isEmpty then 0 else 1) < 30)) = true := by rfl)
    (hline : (apos.endLine == cpos.line) = true := by rfl) (hs : starEach (e :: es) X.env = (false, eval e X.env) :: starEach es X.env := by rfl) (hplain : (backTo cpos (starEach es X.env)).any (·.1) = false := by rfl) :
    ME X E (.Call (.Attribute a name apos) (e :: es) [] cpos) (methM T f mo ms) := (pe_bm pa slot hty hm ho ha hbase hfew hline hs hplain).weak fun σ H Q h => by
  obtain ⟨ρ, μ, S, he, hok, h⟩ := h
  refine tE.run (R := fun r => PostD X.K X.mg μ H (E σ) r Q) he hok h (fun _ _ _ z => z) (fun z => z) fun x S1 _ h1 v H1 μ1 s1 o1 e1 d1 => ?_
  rw [guard_bind] at h1
  cases g : tyOk T S1 x with
  | false => rw [if_neg (by rw [g]; decide)] at h1; exact h1.elim
  | true =>
    rw [if_pos g] at h1
    refine ⟨tyOk_den o1 d1 g, ?_⟩
    have h1' : PostD X.K X.mg μ H (E σ) (M.bind (ms ρ) (fun ds => M.opM f x ds) S1) Q := h1
    refine tA'.run (R := fun r => PostD X.K X.mg μ1 H1 (E σ) r Q) e1 o1 (PostD.of s1 h1') (fun _ _ _ z => z) (fun z => z) fun ds S2 _ h2 vs H2 μ2 s2 o2 e2 d2 => ?_
    unfold M.opM at h2
    cases q : f S2 x ds with
    | none => rw [q] at h2; exact h2.elim
    | some r =>
      obtain ⟨d, S3⟩ := r
      rw [q] at h2
      exact ⟨μ2, S2, x, ds, d, S3, o2, d1.mono o1 s2, d2, q, fun v' H' μ' st o' hd => h2 v' H' μ' (s2.trans st) o' hd⟩
theorem me_meth0 {name : Str} {T id : String} {f : Store → D → List D → Option (D × Store)} (pa : PlainAttrs T) (slot : Slot T name id) (hty : typeOf (.builtin id) = pure (.type "method_descriptor")) (hm : MtR X id (rPM X.K X.mg f)) (ho : ME X E a mo)
    (hbase : attributeBase a name X.env (eval a X.env) = eval a X.env := by rfl) (hline : (apos.endLine == cpos.line) = true := by rfl) :
    ME X E (.Call (.Attribute a name apos) [] [] cpos) (methM T f mo fun _ => M.pure []) := (pe_bm0 pa slot hty hm ho hbase hline).weak fun σ H Q h => by
  obtain ⟨ρ, μ, S, he, hok, h⟩ := h
  refine tE.run (R := fun r => PostD X.K X.mg μ H (E σ) r Q) he hok h (fun _ _ _ z => z) (fun z => z) fun x S1 _ h1 v H1 μ1 s1 o1 e1 d1 => ?_
  rw [guard_bind] at h1
  cases g : tyOk T S1 x with
  | false => rw [if_neg (by rw [g]; decide)] at h1; exact h1.elim
  | true =>
    rw [if_pos g] at h1
    refine ⟨tyOk_den o1 d1 g, ?_⟩
    have h2 : PostD X.K X.mg μ H (E σ) (M.opM f x [] S1) Q := h1
    unfold M.opM at h2
    cases q : f S1 x [] with
    | none => rw [q] at h2; exact h2.elim
    | some r =>
      obtain ⟨d, S3⟩ := r
      rw [q] at h2
      exact ⟨μ1, S1, x, [], d, S3, o1, d1, .nil, q, fun v' H' μ' st o' hd => h2 v' H' μ' (s1.trans st) o' hd⟩
end
/-- a cell's list -/
def cellL (S : Store) (a : D) : Option (Nat × List D) := match a with
  | .loc n => match S[n]? with
    | some (.lst xs) => some (n, xs)
    | _ => none
  | _ => none
theorem cellL_den {K : W.Frag} {mg : Str → Option Value} {μ : Pl} {H : Hp} {S : Store} {v : V} {a : D} {n : Nat} {ds : List D} (o : Ok K mg μ H S) (h : Den K mg μ H v a) (e : cellL S a = some (n, ds)) : ∃ (p : Addr) (vs : List V), a = .loc n ∧ v = .ref p ∧ μ.c[n]? = some p ∧ H p = some (.lst vs) ∧ DenL K mg μ H vs ds := by
  unfold cellL at e
  split at e
  · rename_i m
    split at e
    · rename_i xs q
      injection e with e
      injection e with e1 e2
      subst e1 e2
      cases h with
      | loc h =>
        obtain ⟨vs, h1, h2⟩ := o.at_ _ _ _ h q
        exact ⟨_, vs, rfl, rfl, h, h1, h2⟩
    · cases e
  · cases e
def appendP (S : Store) (a : D) (ds : List D) : Option (D × Store) := match cellL S a, ds with
  | some (n, xs), [y] => if xs.length < sizeLine then some (.non, S.set n (.lst (xs ++ [y]))) else none
  | _, _ => none
def insertP (S : Store) (a : D) (ds : List D) : Option (D × Store) := match cellL S a, ds with
  | some (n, xs), [.int i, y] => if xs.length < sizeLine ∧ 0 ≤ i ∧ i < 2 ^ 63 then some (.non, S.set n (.lst (xs.take i.toNat ++ [y] ++ xs.drop i.toNat))) else none
  | _, _ => none
def popP (S : Store) (a : D) (ds : List D) : Option (D × Store) := match cellL S a, ds with
  | some (n, xs), [] => match xs[xs.length - 1]? with
    | some y => some (y, S.set n (.lst xs.dropLast))
    | none => none
  | _, _ => none
def extendP (S : Store) (a : D) (ds : List D) : Option (D × Store) := match cellL S a, ds with
  | some (n, xs), [b] => match asL S b with
    | some ys => if xs.length + ys.length ≤ sizeLine then some (.non, S.set n (.lst (xs ++ ys))) else none
    | none => none
  | _, _ => none
def splitP (S : Store) (a : D) (ds : List D) : Option (D × Store) := match a, ds with
  | .str x, [.str y] => if (y.length == 0) = false ∧ x.length + 2 ≤ sizeLine then some (.lst ((Txt.split x y).map .str), S) else none
  | _, _ => none
theorem strs_den {K : W.Frag} {mg : Str → Option Value} {μ : Pl} {H : Hp} : ∀ (ys : List Str), DenL K mg μ H (ys.map V.str) (ys.map D.str)
  | [] => .nil
  | y :: ys => .cons (.str y) (strs_den ys)
section
variable {X : Cx}
theorem m_append : MtR X "list.append" (rPM X.K X.mg appendP) := by
  intro pins s σ H x xs v us Q I rx rs h
  obtain ⟨μ, S, a, ds, d, S', o, da, dd, e, k⟩ := h
  unfold appendP at e
  split at e
  · rename_i n zs y q
    split at e
    · injection e with e
      injection e with e1 e2
      subst e1 e2
      obtain ⟨p, vs, rfl, rfl, hn, hp, hz⟩ := cellL_den o da q
      obtain ⟨w, rfl, dw⟩ := den1 dd
      have hl := hz.length
      exact mt_append pins s σ H _ _ v us Q I rx rs ⟨p, vs, w, rfl, rfl, hp, by omega, k _ _ μ (.put hn) (o.put hn (hz.append (.cons dw .nil))) .non⟩
    · cases e
  · cases e
theorem m_insert : MtR X "list.insert" (rPM X.K X.mg insertP) := by
  intro pins s σ H x xs v us Q I rx rs h
  obtain ⟨μ, S, a, ds, d, S', o, da, dd, e, k⟩ := h
  unfold insertP at e
  split at e
  · rename_i n zs i y q
    split at e
    · rename_i hi
      injection e with e
      injection e with e1 e2
      subst e1 e2
      obtain ⟨p, vs, rfl, rfl, hn, hp, hz⟩ := cellL_den o da q
      obtain ⟨w0, w, rfl, d0, dw⟩ := den2 dd
      cases d0
      have hl := hz.length
      exact mt_insert pins s σ H _ _ v us Q I rx rs ⟨p, vs, i, w, rfl, rfl, hp, by omega, hi.2.1, hi.2.2, k _ _ μ (.put hn) (o.put hn (((hz.take _).append (.cons dw .nil)).append (hz.drop _))) .non⟩
    · cases e
  · cases e
theorem m_pop : MtR X "list.pop" (rPM X.K X.mg popP) := by
  intro pins s σ H x xs v us Q I rx rs h
  obtain ⟨μ, S, a, ds, d, S', o, da, dd, e, k⟩ := h
  unfold popP at e
  split at e
  · rename_i n zs q
    split at e
    · rename_i y hy
      injection e with e
      injection e with e1 e2
      subst e1 e2
      obtain ⟨p, vs, rfl, rfl, hn, hp, hz⟩ := cellL_den o da q
      cases dd
      have hl := hz.length
      obtain ⟨w, hw, dw⟩ := hz.get hy
      refine mt_pop pins s σ H _ _ v us Q I rx rs ⟨p, vs, w, rfl, rfl, hp, by rw [hl]; exact hw, k _ _ μ (.put hn) (o.put hn ?_) (dw.mono o (.put hn))⟩
      rw [List.dropLast_eq_take, List.dropLast_eq_take, hl]
      exact hz.take _
    · cases e
  · cases e
theorem m_extend : MtR X "list.extend" (rPM X.K X.mg extendP) := by
  intro pins s σ H x xs v us Q I rx rs h
  obtain ⟨μ, S, a, ds, d, S', o, da, dd, e, k⟩ := h
  unfold extendP at e
  split at e
  · rename_i n zs b q
    split at e
    · rename_i ys hy
      split at e
      · injection e with e
        injection e with e1 e2
        subst e1 e2
        obtain ⟨p, vs, rfl, rfl, hn, hp, hz⟩ := cellL_den o da q
        obtain ⟨w, rfl, dw⟩ := den1 dd
        obtain ⟨p2, ws, rfl, hp2, hw⟩ := asL_den o dw hy
        have hl := hz.length
        have hl2 := hw.length
        exact mt_extend pins s σ H _ _ v us Q I rx rs ⟨p, p2, vs, ws, rfl, rfl, hp, hp2, by omega, k _ _ μ (.put hn) (o.put hn (hz.append hw)) .non⟩
      · cases e
    · cases e
  · cases e
theorem m_split : MtR X "str.split" (rPM X.K X.mg splitP) := by
  intro pins s σ H x xs v us Q I rx rs h
  obtain ⟨μ, S, a, ds, d, S', o, da, dd, e, k⟩ := h
  unfold splitP at e
  split at e
  · split at e
    · rename_i hy
      injection e with e
      injection e with e1 e2
      subst e1 e2
      cases da
      obtain ⟨w, rfl, dw⟩ := den1 dd
      cases dw
      refine mt_split pins s σ H _ _ v us Q I rx rs ⟨_, _, rfl, rfl, hy.1, hy.2, fun p hp => ?_⟩
      obtain ⟨s2, o2, d2⟩ := new_lst o hp (strs_den (K := X.K) (mg := X.mg) (μ := μ) (H := H) (Txt.split _ _))
      exact k _ _ μ s2 o2 d2
    · cases e
  · cases e
end
/-! ### stores to places of lists -/
def setP (S : Store) (a i y : D) : Option Store := match cellL S a, i with
  | some (n, xs), .int k => match ixN xs.length k with
    | some j => some (S.set n (.lst (xs.set j y)))
    | none => none
  | _, _ => none
def rPSet (K : W.Frag) (mg : Str → Option Value) : TSet := fun o i v H Q => ∃ μ S a k y S', Ok K mg μ H S ∧ Den K mg μ H o a ∧ Den K mg μ H i k ∧ Den K mg μ H v y ∧ setP S a k y = some S' ∧ ∀ H', Step μ μ H H' → Ok K mg μ H' S' → Q H'
section
variable {X : Cx} {E : L2.St → XK} {a b c e : Expr} {es rest : List Expr} {ma mb mc mo mi : Env' → M D} {ms : Env' → M (List D)} {pos p cpos apos : Pos}
theorem r_set : PSet X (rPSet X.K X.mg) := by
  intro pins s σ H o i v ov iv u Q I ro ri rv h
  obtain ⟨μ, S, a, k, y, S', ok, da, dk, dy, e, q⟩ := h
  unfold setP at e
  split at e
  · rename_i n xs m hc
    split at e
    · rename_i j hj
      obtain rfl := Option.some.inj e
      obtain ⟨p, vs, rfl, rfl, hn, hp, hz⟩ := cellL_den ok da hc
      cases dk
      exact set_list pins s σ H _ _ v ov iv u Q I ro ri rv ⟨p, vs, m, j, rfl, rfl, hp, by rw [hz.length]; exact hj, q _ (.put hn) (ok.put hn (hz.set dy j))⟩
    · cases e
  · cases e
def SR.put (o : Option Store) (ρ : Env') : SR := match o with
  | some S => .nx ρ S
  | none => .bad
theorem ms_setsub {pos' : Pos} (ho : ME X E a mo) (hi : ME X E b mi) (he : ME X E e ma) (hs : swapsWithSole [.Subscript a b pos'] e pos.line X.env = pure false := by rfl) (hw : swappedStores [.Subscript a b pos'] e X.env = pure none := by rfl)
    (h1 : (assignEach [.Subscript a b pos'] X.env).map (·.2) = [assign (.Subscript a b pos') X.env] := by rfl)
    (hh : ∀ v, assign (.Subscript a b pos') X.env v = (do
      let ov ← holding [v] (eval a X.env)
      let iv ← holding [v, ov] (eval b X.env)
      standAt pos'
      holding [v, ov, iv] (setItem ov iv v)
      release [v, ov, iv] []) := by intro _; rfl) :
    MS X E (.Assign [.Subscript a b pos'] e pos) (fun ρ S => SR.of (ma ρ S) ρ fun d S1 => SR.of (mo ρ S1) ρ fun o S2 => SR.of (mi ρ S2) ρ fun i S3 => SR.put (setP S3 o i d) ρ) := (ps_asg he (pg_sub ho hi r_set hh) hs hw h1).weak fun D σ H h => by
  obtain ⟨ρ, μ, S, hE, hO, h⟩ := h
  refine tE.runS hE hO h fun d S1 _ h v H1 μ1 s1 o1 e1 d1 => ?_
  refine tE.runS e1 o1 (PostS.of s1 h) fun oo S2 _ h w H2 μ2 s2 o2 e2 d2 => ?_
  refine tE.runS e2 o2 (PostS.of s2 h) fun ii S3 _ h x H3 μ3 s3 o3 e3 d3 => ?_
  have h := PostS.of s3 h
  unfold SR.put at h
  cases q : setP S3 oo ii d with
  | none => rw [q] at h; exact h.elim
  | some S4 =>
    rw [q] at h
    exact ⟨μ3, S3, oo, ii, d, S4, o3, d2.mono o2 s3, d3, (d1.mono o1 s2).mono o2 s3, q, fun H' st o' => h σ H' μ3 st o' (e3.mono o3 st)⟩
theorem tA'.runS {K : W.Frag} {mg : Str → Option Value} {μ : Pl} {H : Hp} {S : Store} {σ : L2.St} {ρ : Env'} {D : Ends} {k : List PyM.D → Store → SR} {Q : List V → Hp → Prop} {m : Env' → M (List PyM.D)} (he : EnvOk K mg μ H σ ρ) (ho : Ok K mg μ H S)
    (h : PostS K mg μ H E (SR.of (m ρ S) ρ k) D) (hk : ∀ d S', m ρ S = .ok d S' → PostS K mg μ H E (k d S') D → ∀ v H' μ', Step μ μ' H H' → Ok K mg μ' H' S' → EnvOk K mg μ' H' σ ρ → DenL K mg μ' H' v d → Q v H') : tA' K mg E m σ H Q := by
  refine ⟨ρ, μ, S, he, ho, ?_⟩
  unfold SR.of at h
  cases e : m ρ S with
  | ok d S' =>
    rw [e] at h
    exact fun v H' μ' st o' dd => hk d S' e h v H' μ' st o' (he.mono ho st) dd
  | exc c fs S' => rw [e] at h; exact PostS.xp he ho h
  | bad => rw [e] at h; exact h.elim
/-- two names at once -/
theorem ms_par (i j : Nat) {x y : Str} {px py pt : Pos} {kt k2 pt2} (hc : X.calm = true) (hN : X.N.Nodup) (ha : MA X E [a, b] ms) (hi : X.N[i]? = some x := by rfl) (hj : X.N[j]? = some y := by rfl) (hij : i ≠ j := by decide)
    (hx : X.env.scope.names.lookup x = some .local := by rfl) (hy : X.env.scope.names.lookup y = some .local := by rfl)
    (hw : swappedStores [.Tuple [.Name x px, .Name y py] kt pt] (.Tuple [a, b] k2 pt2) X.env = pure (some [x, y]) := by rfl)
    (hs : swapsWithSole [.Tuple [.Name x px, .Name y py] kt pt] (.Tuple [a, b] k2 pt2) pos.line X.env = pure false := by rfl) :
    MS X E (.Assign [.Tuple [.Name x px, .Name y py] kt pt] (.Tuple [a, b] k2 pt2) pos) (fun ρ S => SR.of (ms ρ S) ρ fun l S' => match l with
      | [d, d'] => .nx ((ρ.set i (some d)).set j (some d')) S'
      | _ => .bad) := (ps_par hc hN hi hj hij hx hy ha hw hs).weak fun D σ H h => by
  obtain ⟨ρ, μ, S, hE, hO, h⟩ := h
  refine tA'.runS hE hO h fun l S1 _ h vs H1 μ1 s1 o1 e1 d1 => ?_
  split at h
  · obtain ⟨v, w, rfl, dv, dw⟩ := den2 d1
    exact ⟨v, w, rfl, h _ H1 μ1 s1 o1 ((e1.set i dv).set j dw)⟩
  · exact h.elim
/-- xs[i] += int -/
def augP (S : Store) (o i y : D) : Option Store := match ixP S o i, y with
  | some (.int x), .int z => setP S o i (.int (x + z))
  | _, _ => none
end
end PyM
set_option Elab.async false
set_option linter.all false
set_option maxRecDepth 100000
set_option maxHeartbeats 2000000
namespace PyM
open PySem PySem.Spec PyProof.Rows L2

/-! ### defs of the text -/
/-- the def x keeps the mirror Fm of n arguments -/
structure Def (P : Program) (w : World) (K : W.Frag) (mg : Str → Option Value) (base : Heap) (CX : CXT) (k : Nat) (x : Str) (n : Nat) (Fm : List D → M D) : Prop where
  ex : ∃ (f : Addr) (fd : FuncData) (ps : List Str), FnG P w K mg base CX k f fd ps (spM K mg n Fm) ∧ mg x = some (.ref f) ∧ W.keepIn K (.ref f) = true ∧ Binds K fd ps []
theorem Def.mono {P : Program} {w : World} {K : W.Frag} {mg : Str → Option Value} {base : Heap} {CX : CXT} {j k : Nat} {x : Str} {n : Nat} {Fm : List D → M D} (F : Def P w K mg base CX j x n Fm) (h : j ≤ k) : Def P w K mg base CX k x n Fm := by
  obtain ⟨f, fd, ps, F, a, b, c⟩ := F.ex
  exact ⟨f, fd, ps, F.mono h, a, b, c⟩
def M.argn (n : Nat) (ds : List D) : M (List D) := fun S => if ds.length = n then .ok ds S else .bad
def callM (n : Nat) (Fm : List D → M D) (ms : Env' → M (List D)) : Env' → M D := fun ρ => M.bind (ms ρ) fun ds => if ds.length = n then Fm ds else M.bad
/-- the defs that a local may hold -/
abbrev Tab := Str → Option (Nat × (List D → M D))
def callV (tab : Tab) (i : Nat) (ms : Env' → M (List D)) : Env' → M D := fun ρ => M.bind (var ρ i) fun f => match f with
  | .fn x => (match tab x with
    | some (n, Fm) => M.bind (ms ρ) fun ds => if ds.length = n then Fm ds else M.bad
    | none => M.bad)
  | _ => M.bad
section
variable {X : Cx} {E : L2.St → XK} {a b c e : Expr} {es rest : List Expr} {ma mb mc mo mi : Env' → M D} {ms : Env' → M (List D)} {pos p cpos apos : Pos} {CX : CXT} {k n : Nat} {x : Str} {Fm : List D → M D}
theorem me_def (F : Def X.prog X.w X.K X.mg X.base CX k x n Fm) (hG : X.A.guards = some []) (hr : Room k X.A) (hx : ∀ σ, PassesAt CX X σ (E σ)) (ha : MA X E (e :: es) ms) (hg : Gl X x := by rfl) (hdb : (x == ("__debug__" : Str)) = false := by decide)
    (he : starEach (e :: es) X.env = (false, eval e X.env) :: starEach es X.env := by rfl) (hpl : (backTo pos (starEach es X.env)).any (·.1) = false := by rfl) : ME X E (.Call (.Name x p) (e :: es) [] pos) (callM n Fm ms) := by
  refine ⟨fun pins s σ H Q I h => ?_⟩
  obtain ⟨f, fd, ps, F, hm, hk, hb⟩ := F.ex
  obtain ⟨ρ, μ, S, hE, hO, h⟩ := h
  have hA : tA' X.K X.mg E ms σ H fun vs H1 => spM X.K X.mg n Fm vs H1 Q (E σ) := tA'.run (k := fun ds => if ds.length = n then Fm ds else M.bad) (R := fun r => PostD X.K X.mg μ H (E σ) r Q) hE hO h (fun _ _ _ z => z) (fun z => z) fun ds S1 hds h1 vs H1 μ1 s1 o1 e1 d1 => by
    by_cases hl : ds.length = n
    · rw [if_pos hl] at h1
      exact ⟨by rw [d1.length]; exact hl, ds, μ1, S1, d1, o1, PostD.of s1 h1⟩
    · rw [if_neg hl] at h1
      exact h1.elim
  refine wpAny_Call_Name_kw (ld_glob I hg hm ?_ hdb)
  refine W.callWith_K (h₀ := X.base) I.ok.mod.kin hk (thn (ha.run pos pins s σ H _ I hA) ?_) he hpl
  intro us s1 hz
  obtain ⟨vs, H1, I1, r, q⟩ := hz
  exact ⟨I1.kIn, F.called hG hr hb (hx σ) I1 r q⟩
/-- a local that holds a def -/
theorem me_local {tab : Tab} (i : Nat) (T : ∀ x n Fm, tab x = some (n, Fm) → Def X.prog X.w X.K X.mg X.base CX k x n Fm) (hG : X.A.guards = some []) (hr : Room k X.A) (hx : ∀ σ, PassesAt CX X σ (E σ)) (ha : MA X E (e :: es) ms) (hN : X.N[i]? = some x := by rfl)
    (hv : Vis X.env.scope x := by first | exact Or.inl rfl | exact Or.inr (Or.inl rfl) | exact Or.inr (Or.inr rfl)) (hdb : (x == ("__debug__" : Str)) = false := by decide) (hcd : (x == ("__classdict__" : Str)) = false := by decide)
    (he : starEach (e :: es) X.env = (false, eval e X.env) :: starEach es X.env := by rfl) (hpl : (backTo pos (starEach es X.env)).any (·.1) = false := by rfl) : ME X E (.Call (.Name x p) (e :: es) [] pos) (callV tab i ms) := by
  refine ⟨fun pins s σ H Q I h => ?_⟩
  obtain ⟨ρ, μ, S, hE, hO, h⟩ := h
  unfold callV M.bind var at h
  cases q : ρ[i]? with
  | none => rw [q] at h; exact h.elim
  | some o =>
    cases o with
    | none => rw [q] at h; exact h.elim
    | some d =>
      rw [q] at h
      cases d with
      | fn y =>
        dsimp only [M.pure] at h
        cases t : tab y with
        | none => rw [t] at h; exact h.elim
        | some z =>
          obtain ⟨n, Fm⟩ := z
          rw [t] at h
          obtain ⟨f, fd, ps, F, hm, hk, hb⟩ := (T y n Fm t).ex
          obtain ⟨v, hv', dv⟩ := hE.2 i _ q
          have hvf : v = .ref f := by
            cases dv with
            | fn h' => rw [hm] at h'; cases h'; rfl
          subst hvf
          refine wpAny_Call_Name_kw (thn ((pe_var (pos := p) hN hv hdb hcd).run pins s σ H (fun v H1 => v = .ref f ∧ H1 = H) I ⟨.ref f, hv', rfl, rfl⟩) fun u s1 ⟨v, H1, I1, r1, q1⟩ => ?_)
          obtain ⟨rfl, rfl⟩ := q1
          cases r1
          have h' : PostD X.K X.mg μ H1 (E σ) (M.bind (ms ρ) (fun ds => if ds.length = n then Fm ds else M.bad) S) Q := h
          have hA : tA' X.K X.mg E ms σ H1 fun vs H1 => spM X.K X.mg n Fm vs H1 Q (E σ) := tA'.run (k := fun ds => if ds.length = n then Fm ds else M.bad) (R := fun r => PostD X.K X.mg μ H1 (E σ) r Q) hE hO h' (fun _ _ _ z => z) (fun z => z) fun ds S1 hds h1 vs H1 μ1 s1 o1 e1 d1 => by
            by_cases hl : ds.length = n
            · rw [if_pos hl] at h1
              exact ⟨by rw [d1.length]; exact hl, ds, μ1, S1, d1, o1, PostD.of s1 h1⟩
            · rw [if_neg hl] at h1
              exact h1.elim
          refine W.callWith_K (h₀ := X.base) I.ok.mod.kin hk (thn (ha.run pos pins s1 σ _ _ I1 hA) fun us s2 ⟨vs, H2, I2, r, q⟩ => ⟨I2.kIn, F.called hG hr hb (hx σ) I2 r q⟩) he hpl
      | _ => exact h.elim
end
/-! ### a def's mirror: its body's -/
def SR.out (r : SR) : Res D := match r with
  | .nx _ S => .ok .non S
  | .rt d S => .ok d S
  | .exc _ c fs S => .exc c fs S
  | _ => .bad
/-- N: how many slots there are -/
def bodyM (N : Nat) (m : MSt) : List D → M D := fun ds S => (m (ds.map some ++ List.replicate (N - ds.length) none) S).out
theorem denL_env {K : W.Frag} {mg : Str → Option Value} {μ : Pl} {H : Hp} {vs : List V} {ds : List D} (h : DenL K mg μ H vs ds) (N : List Str) : EnvOk K mg μ H (L2.start N vs) (ds.map some ++ List.replicate (N.length - ds.length) none) := by
  have hl := h.length
  refine ⟨by simp [L2.start, hl], fun i d e => ?_⟩
  unfold L2.start
  by_cases hi : i < ds.length
  · rw [List.getElem?_append_left (by simpa using hi), List.getElem?_map] at e
    cases q : ds[i]? with
    | none => rw [q] at e; cases e
    | some d' =>
      rw [q] at e
      obtain rfl := Option.some.inj (Option.some.inj e)
      obtain ⟨v, hv, dv⟩ := h.get q
      exact ⟨v, by rw [List.getElem?_append_left (by simp; omega), List.getElem?_map, hv]; rfl, dv⟩
  · rw [List.getElem?_append_right (by simp; omega)] at e
    rw [List.getElem?_replicate] at e
    split at e <;> cases e
/-- a def of the text, by its body -/
theorem Def.of {CX : CXT} {P : Program} {w : World} {K : W.Frag} {mg : Str → Option Value} {base : Heap} {k : Nat} {f : Addr} {x qual : Str} {st : Stmt} {fd : FuncData} {N ps : List Str} {m : MSt} (F : Fun K x qual st f fd) (S : FnScope N ps (defScope st)) (hm : mg x = some (.ref f)) (hb : Binds K fd ps [])
    (h : ∀ (cdv : Value) (A : Around) (outer : List Env) (s : Shared) (H : Hp) (E : XK), (A.deeper (envOfC qual (defScope st) s.heap.objs.size f cdv)).guards = some [] → Room k (A.deeper (envOfC qual (defScope st) s.heap.objs.size f cdv)) →
      MSs (cxOf CX P w K mg base N qual (defScope st) f cdv A outer s H E) (fun _ => E) (defBody st) m) : Def P w K mg base CX (k + 1) x ps.length (bodyM N.length m) := by
  refine ⟨f, fd, ps, FnG.mk' F S (fun vs H Q E h => h.1) (fun cdv A outer s H vs Q E hG hr hs => ⟨_, h cdv A outer s H E hG hr, ?_⟩), hm, F.kp, hb⟩
  obtain ⟨hl, ds, μ, Sx, dd, ok, hp⟩ := hs
  refine ⟨_, μ, Sx, denL_env dd N, ok, ?_⟩
  unfold bodyM at hp
  cases r : m (ds.map some ++ List.replicate (N.length - ds.length) none) Sx with
  | nx ρ S' => rw [r] at hp; exact fun σ' H' μ' st o' _ => hp .non H' μ' st o' .non
  | rt d S' => rw [r] at hp; exact hp
  | bk ρ S' => rw [r] at hp; exact hp.elim
  | ct ρ S' => rw [r] at hp; exact hp.elim
  | exc ρ c fs S' => rw [r] at hp; exact fun σ' H' μ' st o' _ cls d x => hp cls d H' μ' st o' x
  | bad => rw [r] at hp; exact hp
theorem pass_0 {X : Cx} {E : L2.St → XK} : ∀ σ, PassesAt CX0 X σ (E σ) := fun _ _ _ _ _ _ _ h => h.elim
end PyM
set_option Elab.async false
set_option linter.all false
set_option maxRecDepth 100000
set_option maxHeartbeats 2000000
namespace PyM
open PySem PySem.Spec PyProof.Rows L2

/-! ### the mirror's words in short -/
def varM (i : Nat) : Env' → M D := fun ρ => var ρ i
def cM (d : D) : Env' → M D := fun _ => M.pure d
def ifV (t : Env' → M Bool) (a b : Env' → M D) : Env' → M D := fun ρ => M.bind (t ρ) fun k => if k = true then a ρ else b ρ
def cellM (ms : Env' → M (List D)) : Env' → M D := fun ρ => M.bind (ms ρ) newCell
def noP : Env' → M (Option Int) := fun _ => M.pure none
def opP (a : Env' → M D) : Env' → M (Option Int) := fun ρ => optI (a ρ)
def tV (a : Env' → M D) : Env' → M Bool := fun ρ => toB (a ρ)
def notT (a : Env' → M Bool) : Env' → M Bool := fun ρ => M.bind (a ρ) fun c => M.pure (!c)
def yesT : Env' → M Bool := fun _ => M.pure true
def nilM : Env' → M (List D) := fun _ => M.pure []
def consM (a : Env' → M D) (ms : Env' → M (List D)) : Env' → M (List D) := fun ρ => M.bind (a ρ) fun d => M.bind (ms ρ) fun ds => M.pure (d :: ds)
def seqI (a : Env' → M D) : Env' → M Src := fun ρ => M.bind (a ρ) srcA
def rngI1 (ms : Env' → M (List D)) : Env' → M Src := fun ρ => M.bind (ms ρ) srcR1
def rngI2 (ms : Env' → M (List D)) : Env' → M Src := fun ρ => M.bind (ms ρ) srcR2
def zipI (ms : Env' → M (List D)) : Env' → M Src := fun ρ => M.bind (ms ρ) srcZ
def retM (a : Env' → M D) : MSt := fun ρ S => SR.of (a ρ S) ρ fun d S' => .rt d S'
def retN : MSt := fun ρ S => .rt .non S
def exprM (a : Env' → M D) : MSt := fun ρ S => SR.of (a ρ S) ρ fun _ S' => .nx ρ S'
def ifM (t : Env' → M Bool) (m1 m2 : MSt) : MSt := fun ρ S => SR.of (t ρ S) ρ fun k S' => if k = true then m1 ρ S' else m2 ρ S'
def setM (i : Nat) (a : Env' → M D) : MSt := fun ρ S => SR.of (a ρ S) ρ fun d S' => .nx (ρ.set i (some d)) S'
def asgM (g : D → Env' → Option Env') (a : Env' → M D) : MSt := fun ρ S => SR.of (a ρ S) ρ fun d S' => SR.opt (g d ρ) S'
def parM (i j : Nat) (ms : Env' → M (List D)) : MSt := fun ρ S => SR.of (ms ρ S) ρ fun l S' => match l with
  | [d, d'] => .nx ((ρ.set i (some d)).set j (some d')) S'
  | _ => .bad
def putM (o i a : Env' → M D) : MSt := fun ρ S => SR.of (a ρ S) ρ fun d S1 => SR.of (o ρ S1) ρ fun o S2 => SR.of (i ρ S2) ρ fun i S3 => SR.put (setP S3 o i d) ρ
def seqM (m1 m2 : MSt) : MSt := fun ρ S => SR.bind (m1 ρ S) m2
def nilS : MSt := fun ρ S => .nx ρ S
def brkM : MSt := fun ρ S => .bk ρ S
def ctM : MSt := fun ρ S => .ct ρ S
def augM (o i a : Env' → M D) : MSt := fun ρ S => SR.of (o ρ S) ρ fun o S1 => SR.of (i ρ S1) ρ fun i S2 => SR.of (M.op2 ixP o i S2) ρ fun x S3 => SR.of (a ρ S3) ρ fun y S4 => match x, y with
  | .int x, .int y => SR.put (setP S4 o i (.int (x + y))) ρ
  | _, _ => .bad
section
variable {X : Cx} {E : L2.St → XK} {a b c e o : Expr} {es rest : List Expr} {ma mb mc mo mi me : Env' → M D} {ms : Env' → M (List D)} {ta tb : Env' → M Bool} {pos p cpos apos : Pos} {st : Stmt} {sts sa sb : List Stmt} {m m1 m2 : MSt} {tg iter : Expr} {src : Env' → M Src} {w : List Nat} {g : D → Env' → Option Env'}
theorem e_var (i : Nat) {x : Str} (hN : X.N[i]? = some x := by rfl) (hv : Vis X.env.scope x := by first | exact Or.inl rfl | exact Or.inr (Or.inl rfl) | exact Or.inr (Or.inr rfl)) (hd : (x == ("__debug__" : Str)) = false := by decide)
    (hcd : (x == ("__classdict__" : Str)) = false := by decide) : ME X E (.Name x pos) (varM i) := me_var i hN hv hd hcd
theorem e_int {i : Int} {j} : ME X E (.Constant (.int i) j pos) (cM (.int i)) := me_int
theorem e_bl {i : Bool} {j} : ME X E (.Constant (.bool i) j pos) (cM (.bl i)) := me_bl
theorem e_non {j} : ME X E (.Constant .none j pos) (cM .non) := me_non
theorem e_str {x : Str} {j} : ME X E (.Constant (.str x) j pos) (cM (.str x)) := me_str
theorem e_fn {CX : CXT} {k n : Nat} {x : Str} {Fm : List D → M D} (F : Def X.prog X.w X.K X.mg X.base CX k x n Fm) (hg : Gl X x := by rfl) (hd : (x == ("__debug__" : Str)) = false := by decide) : ME X E (.Name x pos) (cM (.fn x)) := by
  obtain ⟨f, fd, ps, _, hm, _⟩ := F.ex
  exact me_fn hm hg hd
/-- a global that is a constant -/
def Con (K : W.Frag) (mg : Str → Option Value) (x : Str) (d : D) : Prop := ∃ (v : V) (u : Value), mg x = some u ∧ RelV v u ∧ ∀ μ H, Den K mg μ H v d
theorem e_con {x : Str} {d : D} (C : Con X.K X.mg x d) (hg : Gl X x := by rfl) (hd : (x == ("__debug__" : Str)) = false := by decide) : ME X E (.Name x pos) (cM d) := by
  obtain ⟨v, u, hm, r, h⟩ := C
  exact me_glob hm r h hg hd
theorem e_ty {T : String} {x : Str} (hm : X.mg x = none) (hv : bootBuiltins x = some (.type T)) (hg : Gl X x := by rfl) (hn : x ≠ "__name__" := by decide) (hd : (x == ("__debug__" : Str)) = false := by decide) : ME X E (.Name x pos) (cM (.ty T)) := me_ty hm hv hg hn hd
theorem e_if (hc : MT X E c ta) (ha : ME X E a ma) (hb : ME X E b mb) : ME X E (.IfExp c a b pos) (ifV ta ma mb) := me_if hc ha hb
theorem e_cell (h : MA X E es ms) : ME X E (.List es pos) (cellM ms) := me_cell h
theorem o_none : MO X E none noP := mo_none
theorem o_some (ha : ME X E a ma) : MO X E (some a) (opP ma) := mo_some ha
theorem t_val (h : ME X E e ma) (he : ∀ whole, isTrue e X.env whole = (do let v ← whole; standAt e.pos; holding [v] (truthy v)) := by intro _; rfl) : MT X E e (tV ma) := mt_val h he
theorem t_cmp {op : CmpOp} {f : Store → D → D → Option D} (hr : OpR X (compareOp op) (rP2 X.K X.mg f)) (ha : ME X E a ma) (hb : ME X E b mb) (hm : behindInMarks op b = false := by rfl) : MT X E (.Compare a [op] [b] pos) (tV (bin2 f ma mb)) := mt_cmp hr ha hb hm
theorem t_chain {op op' : CmpOp} {f g : Store → D → D → Option D} (hr : OpR X (compareOp op) (rP2 X.K X.mg f)) (hr' : OpR X (compareOp op') (rP2 X.K X.mg g)) (ha : ME X E a ma) (hb : ME X E b mb) (hc : ME X E c mc)
    (hm : lastMarks [op, op'] [b, c] = false := by with_unfolding_all rfl) : MT X E (.Compare a [op, op'] [b, c] pos) (tV (chain2 f g ma mb mc)) := mt_chain hr hr' ha hb hc hm
theorem t_not (ha : MT X E a ta) : MT X E (.UnaryOp .Not a pos) (notT ta) := mt_not ha
theorem a_nil : MA X E [] nilM := ma_nil
theorem a_cons (ha : ME X E a ma) (hr : MA X E es ms) (hs : starEach (a :: es) X.env = (false, eval a X.env) :: starEach es X.env := by rfl) : MA X E (a :: es) (consM ma ms) := ma_cons ha hr hs
theorem i_seq (ha : ME X E a ma) : MI X E tg a (seqI ma) := mi_seq ha
theorem i_rng1 (ha : MA X E [a] ms) (hm : X.mg "range" = none) (hg : Gl X "range" := by rfl) (hs : starEach [a] X.env = [(false, eval a X.env)] := by rfl) : MI X E tg (.Call (.Name "range" p) [a] [] pos) (rngI1 ms) := mi_range1 ha hm hg hs
theorem i_rng2 (ha : MA X E [a, b] ms) (hm : X.mg "range" = none) (hg : Gl X "range" := by rfl) (hs : starEach [a, b] X.env = [(false, eval a X.env), (false, eval b X.env)] := by rfl) (hs2 : starEach [b] X.env = [(false, eval b X.env)] := by rfl) :
    MI X E tg (.Call (.Name "range" p) [a, b] [] pos) (rngI2 ms) := mi_range2 ha hm hg hs hs2
theorem i_zip {elts : List Expr} {kk : Nat} {tpos : Pos} (ha : MA X E [a, b] ms) (hm : X.mg "zip" = none) (hg : Gl X "zip" := by rfl) (hs : starEach [a, b] X.env = (false, eval a X.env) :: starEach [b] X.env := by rfl) (hpl : (backTo pos (starEach [b] X.env)).any (·.1) = false := by rfl) :
    MI X E (.Tuple elts kk tpos) (.Call (.Name "zip" p) [a, b] [] pos) (zipI ms) := mi_zip ha hm hg hs hpl
theorem ts_nil : MTs X E [] yesT := mts_nil
theorem s_ret (he : ME X E e ma) : MS X E (.Return (some e) pos) (retM ma) := ms_ret he
theorem s_retN : MS X E (.Return none pos) retN := ms_retN
theorem s_expr (he : ME X E e ma) (hs : swapsWith e none pos.line X.env = pure false := by rfl) : MS X E (.Expr e pos) (exprM ma) := ms_expr he hs
theorem s_if (hc : MT X E c ta) (ha : MSs X E sa m1) (hb : MSs X E sb m2) : MS X E (.If c sa sb pos) (ifM ta m1 m2) := ms_if hc ha hb
theorem s_set (i : Nat) {x : Str} {pos' : Pos} (hN : X.N.Nodup) (he : ME X E e ma) (hi : X.N[i]? = some x := by rfl) (hx : Loc X.env.scope x := by first | exact Or.inl rfl | exact Or.inr rfl) (hs : swapsWith e (some (.Name x pos')) pos.line X.env = pure false := by rfl)
    (hf : X.fn x = true ∨ X.env.scope.names.lookup x = some .local := by first | exact .inl rfl | exact .inr rfl) : MS X E (.Assign [.Name x pos'] e pos) (setM i ma) := ms_set i hN he hi hx hs hf
theorem s_asg (he : ME X E e ma) (hg : MG X tg w g) (hs : swapsWithSole [tg] e pos.line X.env = pure false := by rfl) (hw : swappedStores [tg] e X.env = pure none := by rfl)
    (h1 : (assignEach [tg] X.env).map (·.2) = [assign tg X.env] := by rfl) : MS X E (.Assign [tg] e pos) (asgM g ma) := ms_asg he hg hs hw h1
theorem s_par (i j : Nat) {x y : Str} {px py pt : Pos} {kt k2 pt2} (hc : X.calm = true) (hN : X.N.Nodup) (ha : MA X E [a, b] ms) (hi : X.N[i]? = some x := by rfl) (hj : X.N[j]? = some y := by rfl) (hij : i ≠ j := by decide)
    (hx : X.env.scope.names.lookup x = some .local := by rfl) (hy : X.env.scope.names.lookup y = some .local := by rfl)
    (hw : swappedStores [.Tuple [.Name x px, .Name y py] kt pt] (.Tuple [a, b] k2 pt2) X.env = pure (some [x, y]) := by rfl)
    (hs : swapsWithSole [.Tuple [.Name x px, .Name y py] kt pt] (.Tuple [a, b] k2 pt2) pos.line X.env = pure false := by rfl) :
    MS X E (.Assign [.Tuple [.Name x px, .Name y py] kt pt] (.Tuple [a, b] k2 pt2) pos) (parM i j ms) := ms_par i j hc hN ha hi hj hij hx hy hw hs
theorem s_put {pos' : Pos} (ho : ME X E a mo) (hi : ME X E b mi) (he : ME X E e ma) (hs : swapsWithSole [.Subscript a b pos'] e pos.line X.env = pure false := by rfl) (hw : swappedStores [.Subscript a b pos'] e X.env = pure none := by rfl)
    (h1 : (assignEach [.Subscript a b pos'] X.env).map (·.2) = [assign (.Subscript a b pos') X.env] := by rfl)
    (hh : ∀ v, assign (.Subscript a b pos') X.env v = (do
      let ov ← holding [v] (eval a X.env)
      let iv ← holding [v, ov] (eval b X.env)
      standAt pos'
      holding [v, ov, iv] (setItem ov iv v)
      release [v, ov, iv] []) := by intro _; rfl) : MS X E (.Assign [.Subscript a b pos'] e pos) (putM mo mi ma) := ms_setsub ho hi he hs hw h1 hh
theorem s_nil : MSs X E [] nilS := mss_nil
theorem s_cons (h1 : MS X E st m1) (h2 : MSs X E sts m2) : MSs X E (st :: sts) (seqM m1 m2) := mss_cons h1 h2
theorem s_one (h1 : MS X E st m1) : MSs X E [st] m1 := mss_one h1
theorem s_break : MS X E (.Break pos) brkM := ms_break
theorem s_cont : MS X E (.Continue pos) ctM := ms_cont
/-- xs[i], by values, where no slice is -/
theorem get_ix : PGet X (rP2 X.K X.mg ixP) := by
  intro pins s σ H o i ov iv Q I ro ri h
  obtain ⟨μ, S, a, k, d, ok, da, dk, e, q⟩ := h
  unfold ixP at e
  split at e
  · split at e
    · rename_i z i hz
      cases da
      cases dk
      obtain ⟨t, rfl⟩ := ro
      obtain ⟨t', rfl⟩ := ri
      cases q' : atI z.cps.toList i with
      | none => rw [q'] at e; cases e
      | some c =>
        rw [q'] at e
        obtain rfl := Option.some.inj e
        obtain ⟨j, h1, h2, h3, h4, h5⟩ := atI_get q'
        have hl : z.cps.toList.length = z.length := by simp [Str.length]
        rw [hl] at h1 h4 h5
        have hn := line63
        exact getItem_str (c := c) (by
          have e1 : decide (i < -(2 ^ 63 : Int)) = false := decide_eq_false (by omega)
          have e2 : decide (i ≥ 2 ^ 63) = false := decide_eq_false (by omega)
          rw [e1, e2, Bool.or_false]) (by rw [h1]; simpa using h2) ⟨.str ⟨#[c]⟩, H, I.tok _, ⟨_, rfl⟩, q _ _ .refl ok (.str _)⟩
    · cases e
  · split at e
    · rename_i i _ _ ds hq
      cases dk
      obtain ⟨p, vs, rfl, hq, hd⟩ := asA_den ok da hq
      obtain ⟨w, hw, dw⟩ := atI_den hd e
      cases ro
      obtain ⟨t, rfl⟩ := ri
      obtain ⟨j, h1, h2, h3, h4, h5⟩ := atI_get hw
      have hn := line63
      rcases hq with hq | hq
      · obtain ⟨its, r, pl, hz⟩ := I.list hq
        obtain ⟨u, eu, ru⟩ := r.get h2
        have hl := r.length
        have fin : EP X pins σ Q u s := ⟨w, H, I, ru, q _ _ .refl ok dw⟩
        by_cases h0 : 0 ≤ i
        · have hj : i.toNat = j := by
            rw [seqIndex_of h0 h5] at h1
            exact Option.some.inj h1
          exact wpAny_getItem_list pl.isList h0 (by omega) (by rw [hj]; simpa using eu) fin
        · have hj : (i + (its.toArray.size : Int)).toNat = j := by
            rw [seqIndex_neg (by omega) h4] at h1
            rw [List.size_toArray, ← hl]
            exact Option.some.inj h1
          exact wpAny_getItem_list_neg pl.isList (by omega) (by rw [List.size_toArray] <;> omega) (by omega) (by rw [hj]; simpa using eu) fin
      · obtain ⟨its, r, pl, hz⟩ := I.tuple hq
        obtain ⟨u, eu, ru⟩ := r.get h2
        have hl := r.length
        exact getItem_tuple (j := j) pl (by omega) (by omega) (by rw [List.size_toArray, ← hl]; exact h1) (by simpa using eu) ⟨w, H, I, ru, q _ _ .refl ok dw⟩
    · cases e
  · cases e
theorem s_aug {tpos : Pos} (ho : ME X E o mo) (hi : ME X E b mi) (he : ME X E e ma) (hh : ∀ ov iv new, augStore b ov iv new = (do holding [new, ov, iv] (setItem ov iv new); release [new, ov, iv] []; pure .next) := by intros; rfl) :
    MS X E (.AugAssign (.Subscript o b tpos) .Add e pos) (augM mo mi ma) := (ps_augS ho hi get_ix he ip_add r_set hh).weak fun D σ H h => by
  obtain ⟨ρ, μ, S, hE, hO, h0⟩ := h
  refine tE.runS hE hO h0 fun oo S1 _ h1 v H1 μ1 s1 o1 e1 d1 => ?_
  refine tE.runS e1 o1 (PostS.of s1 h1) fun ii S2 _ h2 w H2 μ2 s2 o2 e2 d2 => ?_
  have h3 := PostS.of s2 h2
  clear h2 h1 h0
  unfold SR.of M.op2 at h3
  cases q : ixP S2 oo ii with
  | none => rw [q] at h3; exact h3.elim
  | some x =>
    rw [q] at h3
    dsimp only at h3
    refine ⟨μ2, S2, oo, ii, x, o2, d1.mono o1 s2, d2, q, fun v' H3 st3 o3 d3 => ?_⟩
    have h4 := PostS.of st3 h3
    have e3 := e2.mono o2 st3
    clear h3
    refine tE.runS e3 o3 h4 fun y S4 _ h5 z H4 μ4 s4 o4 e4 d4 => ?_
    clear h4
    have h6 := PostS.of s4 h5
    clear h5
    cases d3 with
    | int xi =>
      cases d4 with
      | int yi =>
        refine ⟨xi, yi, rfl, rfl, ?_⟩
        dsimp only at h6
        unfold SR.put at h6
        cases qs : setP S4 oo ii (.int (xi + yi)) with
        | none => rw [qs] at h6; exact h6.elim
        | some S5 =>
          rw [qs] at h6
          exact ⟨μ4, S4, oo, ii, _, S5, o4, ((d1.mono o1 s2).mono o2 st3).mono o3 s4, (d2.mono o2 st3).mono o3 s4, .int _, qs, fun H' st o' => h6 σ H' μ4 st o' (e4.mono o4 st)⟩
      | _ => exact h6.elim
    | _ => exact h6.elim
end
/-! ### all -/
def blsOf : List D → Option (List Bool)
  | [] => some []
  | .bl b :: ds => (blsOf ds).map (b :: ·)
  | _ :: _ => none
def allP (S : Store) : List D → Option D
  | [d] => match asS S d with
    | some ds => (blsOf ds).map fun bs => .bl (bs.all id)
    | none => none
  | _ => none
theorem blsOf_den {K : W.Frag} {mg : Str → Option Value} {μ : Pl} {H : Hp} : ∀ {vs : List V} {ds : List D} {bs : List Bool}, DenL K mg μ H vs ds → blsOf ds = some bs → vs = bs.map V.bl
  | _, _, _, .nil, e => by simp [blsOf] at e; subst e; rfl
  | _, d :: ds, _, .cons h t, e => by
    cases h <;> simp [blsOf] at e
    obtain ⟨bs, e, rfl⟩ := e
    rw [blsOf_den t e]
    rfl
theorem c_all {X : Cx} (hc : X.calm = true) : CallR X (.builtin "all") (rPL X.K X.mg allP) := by
  intro pins s σ H xs us Q I r h
  obtain ⟨μ, S, ds, d, o, dl, e, k⟩ := h
  unfold allP at e
  split at e
  · split at e
    · rename_i es q
      cases hb : blsOf es with
      | none => rw [hb] at e; cases e
      | some bs =>
        rw [hb] at e
        obtain rfl := Option.some.inj e
        obtain ⟨v, rfl, dv⟩ := den1 dl
        obtain ⟨p, vs, rfl, h1, h2⟩ := asS_den o dv q
        obtain rfl := blsOf_den h2 hb
        exact cr_all hc pins s σ H _ us Q I r ⟨p, bs, rfl, h1, k _ _ .refl o (.bl _)⟩
    · cases e
  · cases e
end PyM
set_option Elab.async false
set_option linter.all false
set_option maxRecDepth 100000
set_option maxHeartbeats 2000000
namespace PyM
open PySem PySem.Spec PyProof.Rows L2

section
variable {X : Cx} {E : L2.St → XK} {a b e : Expr} {es : List Expr} {ma mb mo mi : Env' → M D} {ms : Env' → M (List D)} {mt : Env' → M Bool} {pos p spos : Pos} {tg : Expr}
/-- name = [..] on one line -/
theorem s_setlc (i : Nat) {y : Str} {py : Pos} {elt iter : Expr} {ifs : List Expr} {scope : Scope} {mi : Env' → M Src} {w : List Nat} {g : D → Env' → Option Env'} {me : Env' → M D} (own : List (Str × Nat)) (hc : X.calm = true) (hN : X.N.Nodup) (hi : MI X E tg iter mi) (ok : BlkOk X.N X.env.scope scope own)
    (hg : ∀ (s : Shared) (H : Hp) (C : Addr) (cl : List (Str × Addr)) (fp : List Addr), MG (X.blk s H scope (compEnvC scope cl C X.env) fp) tg w g) (ht : ∀ (s : Shared) (H : Hp) (C : Addr) (cl : List (Str × Addr)) (fp : List Addr), MTs (X.blk s H scope (compEnvC scope cl C X.env) fp) EB ifs mt)
    (he : ∀ (s : Shared) (H : Hp) (C : Addr) (cl : List (Str × Addr)) (fp : List Addr), ME (X.blk s H scope (compEnvC scope cl C X.env) fp) EB elt me) (hw : ∀ i ∈ w, i ∈ own.map (·.2) := by decide) (hs : ∀ x, foldedSetIterable iter X.env x = pure x := by intro _; rfl)
    (hy : X.N[i]? = some y := by rfl) (hyl : X.env.scope.names.lookup y = some .local := by rfl) (hk : X.env.scope.kind = .function := by rfl) (hl : (py.line == pos.line) = true := by rfl) (ha : (scope.names.any fun (n, k) => n == y && (k == .local || k == .cell)) = false := by decide +kernel) :
    MS X E (.Assign [.Name y py] (.ListComp elt [⟨tg, iter, ifs, 0⟩] scope pos) spos) (setM i (lcM mi g mt me (own.map (·.2)))) :=
  (ps_setLc (i := i) (wi := tI X.K X.mg E mi) (g := tG X.K X.mg w g) (tt := tB' X.K X.mg EB mt) (te := tE X.K X.mg EB me) hc hN hy hyl (sw_true hk hyl hl ha) hi ok hg ht he hs).weak fun D σ H h => by
  obtain ⟨ρ, μ, S, hE, ho, h⟩ := h
  unfold setM SR.of lcM M.bind at h
  have z := lc_read (E := E) (g := g) (mt := mt) (me := me) (mi := mi) (K := X.K) (mg := X.mg) (σ := σ) (H := H) (Q := fun x H1 => D.nx (σ.set i (some x)) H1) hw hE ho (fun c fs S' e => by
    rw [e] at h
    exact PostS.xp hE ho h) (fun e => by rw [e] at h; exact h) (fun ys S' e Dn H' μ' zs st o' hD n1 n2 hz => by
    rw [e] at h
    exact h _ H' μ' st o' ((hE.mono ho st).set i (.lst hD n1 n2 hz)))
  exact z
end
/-! ### dicts that are cells, their keys ints and texts -/
def keyOf : D → Option Key
  | .int i => some (.inl i)
  | .str x => some (.inr x)
  | _ => none
def valD (kvs : List (Key × D)) (k : Key) : Option D := (kvs.find? fun kv => decide (kv.1 = k)).map (·.2)
def cellD (S : Store) (a : D) : Option (Nat × List (Key × D)) := match a with
  | .loc n => match S[n]? with
    | some (.dct kvs) => some (n, kvs)
    | _ => none
  | _ => none
def dgetP (S : Store) (a i : D) : Option D := match cellD S a, keyOf i with
  | some (_, kvs), some k => valD kvs k
  | _, _ => none
def dinP (S : Store) (i a : D) : Option D := match cellD S a, keyOf i with
  | some (_, kvs), some k => some (.bl (valD kvs k).isSome)
  | _, _ => none
def dninP (S : Store) (i a : D) : Option D := match cellD S a, keyOf i with
  | some (_, kvs), some k => some (.bl (!(valD kvs k).isSome))
  | _, _ => none
section
variable {K : W.Frag} {mg : Str → Option Value} {μ : Pl} {H : Hp} {S : Store}
theorem key_den {v : V} {d : D} {k : Key} (h : Den K mg μ H v d) (e : keyOf d = some k) : v = kV k := by
  cases h <;> simp [keyOf] at e <;> subst e <;> rfl
theorem cellD_den {v : V} {a : D} {n : Nat} {kvs : List (Key × D)} (o : Ok K mg μ H S) (h : Den K mg μ H v a) (e : cellD S a = some (n, kvs)) : ∃ (p : Addr) (ws : List (Key × V)), a = .loc n ∧ v = .ref p ∧ μ.c[n]? = some p ∧ H p = some (.dK ws) ∧ ws.map (·.1) = kvs.map (·.1) ∧ DenL K mg μ H (ws.map (·.2)) (kvs.map (·.2)) := by
  unfold cellD at e
  split at e
  · rename_i m
    split at e
    · rename_i xs q
      injection e with e
      injection e with e1 e2
      subst e1 e2
      cases h with
      | loc h =>
        obtain ⟨vs, h1, h2, h3⟩ := o.at_ _ _ _ h q
        exact ⟨_, vs, rfl, rfl, h, h1, h2, h3⟩
    · cases e
  · cases e
theorem val_den {k : Key} : ∀ {ws : List (Key × V)} {kvs : List (Key × D)}, ws.map (·.1) = kvs.map (·.1) → DenL K mg μ H (ws.map (·.2)) (kvs.map (·.2)) → (valV ws k = none ∧ valD kvs k = none) ∨ ∃ v d, valV ws k = some v ∧ valD kvs k = some d ∧ Den K mg μ H v d
  | [], [], _, _ => .inl ⟨rfl, rfl⟩
  | [], _ :: _, e, _ => by cases e
  | _ :: _, [], e, _ => by cases e
  | w :: ws, kv :: kvs, e, h => by
    rw [List.map_cons, List.map_cons] at e h
    injection e with e1 e2
    cases h with
    | cons h1 h2 =>
      by_cases hk : w.1 = k
      · refine .inr ⟨w.2, kv.2, valV_pos hk, ?_, h1⟩
        unfold valD
        rw [List.find?_cons_of_pos (by rw [← e1]; exact decide_eq_true hk)]
        rfl
      · rw [valV_neg hk]
        have e3 : valD (kv :: kvs) k = valD kvs k := by
          unfold valD
          rw [List.find?_cons_of_neg (by rw [← e1]; simpa using hk)]
        rw [e3]
        exact val_den e2 h2
end
section
variable {X : Cx} {E : L2.St → XK} {a b e : Expr} {es : List Expr} {ma mb mo mi : Env' → M D} {ms : Env' → M (List D)} {pos p : Pos}
theorem r_din (hu : X.A.units + 1 < cLine) : OpR X (compareOp .In) (rP2 X.K X.mg dinP) := by
  intro pins s σ H x y v u Q I rx ry h
  obtain ⟨μ, S, i, a, d, o, di, da, e, k⟩ := h
  unfold dinP at e
  split at e
  · rename_i n kvs key q1 q2
    obtain rfl := Option.some.inj e
    obtain ⟨p, ws, rfl, rfl, hn, hp, h1, h2⟩ := cellD_den o da q1
    obtain rfl := key_den di q2
    cases ry
    refine d_in hu I (.k hp) rx fun s' I' => ⟨.bl (valV ws key).isSome, H, I', rfl, ?_⟩
    rcases val_den (k := key) h1 h2 with ⟨z1, z2⟩ | ⟨w, d, z1, z2, _⟩
    · rw [z1]; rw [z2] at k; exact k _ _ .refl o (.bl _)
    · rw [z1]; rw [z2] at k; exact k _ _ .refl o (.bl _)
  · cases e
theorem r_dnin (hu : X.A.units + 1 < cLine) : OpR X (compareOp .NotIn) (rP2 X.K X.mg dninP) := by
  intro pins s σ H x y v u Q I rx ry h
  obtain ⟨μ, S, i, a, d, o, di, da, e, k⟩ := h
  unfold dninP at e
  split at e
  · rename_i n kvs key q1 q2
    obtain rfl := Option.some.inj e
    obtain ⟨p, ws, rfl, rfl, hn, hp, h1, h2⟩ := cellD_den o da q1
    obtain rfl := key_den di q2
    cases ry
    refine d_notIn hu I (.k hp) rx fun s' I' => ⟨.bl (!(valV ws key).isSome), H, I', rfl, ?_⟩
    rcases val_den (k := key) h1 h2 with ⟨z1, z2⟩ | ⟨w, d, z1, z2, _⟩
    · rw [z1]; rw [z2] at k; exact k _ _ .refl o (.bl _)
    · rw [z1]; rw [z2] at k; exact k _ _ .refl o (.bl _)
  · cases e
theorem e_dget (hu : X.A.units + 1 < cLine) (ha : ME X E a ma) (hb : ME X E b mb) (hs : NoSl b := by intro _ _; rfl) : ME X E (.Subscript a b pos) (bin2 dgetP ma mb) := (pe_dget hu ha hb hs).weak fun σ H Q h => by
  obtain ⟨ρ, μ, S, he, ho, h⟩ := h
  refine tE.run (k := fun x => M.bind (mb ρ) fun y => M.op2 dgetP x y) (R := fun r => PostD X.K X.mg μ H (E σ) r Q) he ho h (fun _ _ _ z => z) (fun z => z) fun x S1 _ h1 v H1 μ1 s1 o1 e1 d1 => ?_
  refine tE.run (k := fun y => M.op2 dgetP x y) (R := fun r => PostD X.K X.mg μ1 H1 (E σ) r Q) e1 o1 (PostD.of s1 h1) (fun _ _ _ z => z) (fun z => z) fun y S2 _ h2 w H2 μ2 s2 o2 e2 d2 => ?_
  unfold M.op2 at h2
  cases q : dgetP S2 x y with
  | none => rw [q] at h2; exact h2.elim
  | some d =>
    rw [q] at h2
    unfold dgetP at q
    split at q
    · rename_i n kvs key q1 q2
      obtain ⟨p, ws, rfl, rfl, hn, hp, z1, z2⟩ := cellD_den o2 (d1.mono o1 s2) q1
      obtain rfl := key_den d2 q2
      rcases val_den (k := key) z1 z2 with ⟨_, z4⟩ | ⟨v', d', z3, z4, z5⟩
      · rw [z4] at q; cases q
      · rw [z4] at q
        obtain rfl := Option.some.inj q
        exact ⟨p, v', rfl, by rw [← z3]; exact .k hp, PostD.of s2 h2 v' H2 μ2 .refl o2 z5⟩
    · cases q
/-! displays -/
def putD (kvs : List (Key × D)) (k : Key) (v : D) : List (Key × D) := if (kvs.any fun kv => decide (kv.1 = k)) = true then kvs.map (fun kv => if kv.1 = k then (kv.1, v) else kv) else kvs ++ [(k, v)]
def mergeD (kvs more : List (Key × D)) : List (Key × D) := more.foldl (fun acc kv => putD acc kv.1 kv.2) kvs
end
end PyM
set_option Elab.async false
set_option linter.all false
set_option maxRecDepth 100000
set_option maxHeartbeats 2000000
namespace PyM
open PySem PySem.Spec PyProof.Rows L2

theorem ty_list_insert : typeOf (.builtin "list.insert") = pure (.type "method_descriptor") := by show builtinType _ = _; rw [builtinType_eq_fast]; kernel_rfl
/-! ### dict displays -/
def keysD : List (D × D) → Option (List (Key × D))
  | [] => some []
  | (k, v) :: r => match keyOf k, keysD r with
    | some k, some r => some ((k, v) :: r)
    | _, _ => none
def newDict (kvs : List (Key × D)) : M D := fun S => .ok (.loc S.length) (S ++ [.dct kvs])
def nilP : Env' → M (List (D × D)) := fun _ => M.pure []
def consP (a c : Env' → M D) (m : Env' → M (List (D × D))) : Env' → M (List (D × D)) := fun ρ => M.bind (a ρ) fun k => M.bind (c ρ) fun v => M.bind (m ρ) fun r => M.pure ((k, v) :: r)
def dispM (m : Env' → M (List (D × D))) : Env' → M D := fun ρ => M.bind (m ρ) fun ps => match keysD ps with
  | some kvs => if kvs.length ≤ 15 then newDict (mergeD [] kvs) else M.bad
  | none => M.bad
section
variable {K : W.Frag} {mg : Str → Option Value}
abbrev DenP (K : W.Frag) (mg : Str → Option Value) (μ : Pl) (H : Hp) (vs : List (V × V)) (ps : List (D × D)) : Prop := DenL K mg μ H (vs.map (·.1)) (ps.map (·.1)) ∧ DenL K mg μ H (vs.map (·.2)) (ps.map (·.2))
def PostP (K : W.Frag) (mg : Str → Option Value) (μ : Pl) (H : Hp) (E : XK) (r : Res (List (D × D))) (Q : List (V × V) → Hp → Prop) : Prop := match r with
  | .ok ps S' => ∀ vs H' μ', Step μ μ' H H' → Ok K mg μ' H' S' → DenP K mg μ' H' vs ps → Q vs H'
  | .exc c fs S' => XP K mg μ H E c fs S'
  | .bad => False
theorem PostP.of {μ μ' : Pl} {H H' : Hp} {E : XK} {r : Res (List (D × D))} {Q : List (V × V) → Hp → Prop} (st : Step μ μ' H H') (h : PostP K mg μ H E r Q) : PostP K mg μ' H' E r Q := by
  cases r with
  | ok d S' => exact fun v H2 μ2 s2 o2 x => h v H2 μ2 (st.trans s2) o2 x
  | exc c fs S' => exact XP.of st h
  | bad => exact h
theorem keys_den {μ : Pl} {H : Hp} : ∀ {vs : List (V × V)} {ps : List (D × D)} {kvs : List (Key × D)}, DenP K mg μ H vs ps → keysD ps = some kvs →
    ∃ ws : List (Key × V), vs = ws.map (fun kv => (kV kv.1, kv.2)) ∧ ws.map (·.1) = kvs.map (·.1) ∧ DenL K mg μ H (ws.map (·.2)) (kvs.map (·.2))
  | [], [], _, _, e => by
    obtain rfl := Option.some.inj e
    exact ⟨[], rfl, rfl, .nil⟩
  | [], _ :: _, _, h, _ => by cases h.1
  | _ :: _, [], _, h, _ => by cases h.1
  | (v1, v2) :: vs, (k, d) :: ps, kvs, ⟨h1, h2⟩, e => by
    cases h1 with
    | cons a1 a2 =>
      cases h2 with
      | cons b1 b2 =>
        unfold keysD at e
        cases q1 : keyOf k with
        | none => rw [q1] at e; cases e
        | some key =>
          cases q2 : keysD ps with
          | none => rw [q1, q2] at e; cases e
          | some r =>
            rw [q1, q2] at e
            obtain rfl := Option.some.inj e
            obtain ⟨ws, e1, e2, e3⟩ := keys_den ⟨a2, b2⟩ q2
            have e4 : v1 = kV key := key_den a1 q1
            exact ⟨(key, v2) :: ws, by rw [e1, e4]; rfl, by simp [e2], .cons b1 e3⟩
theorem any_keys (k : Key) : ∀ {ws : List (Key × V)} {kvs : List (Key × D)}, ws.map (·.1) = kvs.map (·.1) → (ws.any fun kv => decide (kv.1 = k)) = (kvs.any fun kv => decide (kv.1 = k))
  | [], [], _ => rfl
  | [], _ :: _, e => by cases e
  | _ :: _, [], e => by cases e
  | w :: ws, v :: kvs, e => by
    rw [List.map_cons, List.map_cons] at e
    injection e with e1 e2
    rw [List.any_cons, List.any_cons, e1, any_keys k e2]
theorem put_den {μ : Pl} {H : Hp} {k : Key} {v : V} {d : D} (hd : Den K mg μ H v d) {ws : List (Key × V)} {kvs : List (Key × D)} (e : ws.map (·.1) = kvs.map (·.1)) (h : DenL K mg μ H (ws.map (·.2)) (kvs.map (·.2))) :
    (putK ws k v).map (·.1) = (putD kvs k d).map (·.1) ∧ DenL K mg μ H ((putK ws k v).map (·.2)) ((putD kvs k d).map (·.2)) := by
  unfold putK putD
  rw [any_keys k e]
  split
  · rename_i hany
    clear hany
    induction ws generalizing kvs with
    | nil =>
      cases kvs with
      | nil => exact ⟨rfl, .nil⟩
      | cons _ _ => cases e
    | cons w ws ih =>
      cases kvs with
      | nil => cases e
      | cons kv kvs =>
        rw [List.map_cons, List.map_cons] at e h
        injection e with e1 e2
        cases h with
        | cons h1 h2 =>
          obtain ⟨i1, i2⟩ := ih e2 h2
          by_cases hk : w.1 = k
          · have hk' : kv.1 = k := by rw [← e1]; exact hk
            simp only [List.map_cons, if_pos hk, if_pos hk', e1]
            exact ⟨by simpa using i1, .cons hd i2⟩
          · have hk' : ¬ kv.1 = k := by rw [← e1]; exact hk
            simp only [List.map_cons, if_neg hk, if_neg hk', e1]
            exact ⟨by simpa using i1, .cons h1 i2⟩
  · simp only [List.map_append, List.map_cons, List.map_nil]
    exact ⟨by rw [e], h.append (.cons hd .nil)⟩
theorem merge_den {μ : Pl} {H : Hp} : ∀ {more : List (Key × V)} {mored : List (Key × D)} {ws : List (Key × V)} {kvs : List (Key × D)}, more.map (·.1) = mored.map (·.1) → DenL K mg μ H (more.map (·.2)) (mored.map (·.2)) → ws.map (·.1) = kvs.map (·.1) → DenL K mg μ H (ws.map (·.2)) (kvs.map (·.2)) →
    (mergeK ws more).map (·.1) = (mergeD kvs mored).map (·.1) ∧ DenL K mg μ H ((mergeK ws more).map (·.2)) ((mergeD kvs mored).map (·.2))
  | [], [], _, _, _, _, e, h => ⟨e, h⟩
  | [], _ :: _, _, _, e, _, _, _ => by cases e
  | _ :: _, [], _, _, e, _, _, _ => by cases e
  | m :: more, n :: mored, ws, kvs, e1, h1, e2, h2 => by
    rw [List.map_cons, List.map_cons] at e1 h1
    injection e1 with e11 e12
    cases h1 with
    | cons a b =>
      obtain ⟨p1, p2⟩ := put_den (k := m.1) a e2 h2
      have := merge_den (ws := putK ws m.1 m.2) (kvs := putD kvs n.1 n.2) e12 b (by rw [← e11]; exact p1) (by rw [← e11]; exact p2)
      exact this
end
/-- the pairs of a display -/
structure MP (X : Cx) (E : L2.St → XK) (pos : Pos) (keys : List (Option Expr)) (values : List Expr) (m : Env' → M (List (D × D))) : Prop where
  ex : ∃ trs, PPs X pos keys values trs ∧ ∀ σ H Q ρ μ S, EnvOk X.K X.mg μ H σ ρ → Ok X.K X.mg μ H S → PostP X.K X.mg μ H (E σ) (m ρ S) Q → tPairs trs σ H Q
section
variable {X : Cx} {E : L2.St → XK} {a b e : Expr} {ma mb : Env' → M D} {m : Env' → M (List (D × D))} {pos p : Pos} {keys : List (Option Expr)} {values : List Expr}
theorem p_nil : MP X E pos [] [] nilP := ⟨[], pps_nil, fun σ H Q ρ μ S he ho h => h [] H μ .refl ho ⟨.nil, .nil⟩⟩
theorem p_cons (ha : ME X E a ma) (hb : ME X E b mb) (hr : MP X E pos keys values m) : MP X E pos (some a :: keys) (b :: values) (consP ma mb m) := by
  obtain ⟨trs, hp, ht⟩ := hr.ex
  refine ⟨_ :: trs, pps_cons ha hb hp, fun σ H Q ρ μ S he ho h => ?_⟩
  refine tE.run (R := fun r => PostP X.K X.mg μ H (E σ) r Q) he ho h (fun _ _ _ z => z) (fun z => z) fun x S1 _ h1 v H1 μ1 s1 o1 e1 d1 => ?_
  refine tE.run (R := fun r => PostP X.K X.mg μ1 H1 (E σ) r Q) e1 o1 (PostP.of s1 h1) (fun _ _ _ z => z) (fun z => z) fun y S2 _ h2 w H2 μ2 s2 o2 e2 d2 => ?_
  refine ht σ H2 _ ρ μ2 S2 e2 o2 ?_
  have h3 := PostP.of s2 h2
  unfold M.bind at h3
  cases q : m ρ S2 with
  | bad => rw [q] at h3; exact h3
  | exc c fs S' => rw [q] at h3; exact h3
  | ok r S3 =>
    rw [q] at h3
    exact fun vs H3 μ3 s3 o3 dp => h3 ((v, w) :: vs) H3 μ3 s3 o3 ⟨.cons ((d1.mono o1 s2).mono o2 s3) dp.1, .cons (d2.mono o2 s3) dp.2⟩
theorem e_disp (h : MP X E pos keys values m) (hall : keys.all (·.isSome) = true := by rfl) (hl : keys.length = values.length := by rfl) (h0 : keys ≠ [] := by intro z; cases z) (h15 : keys.length ≤ 15 := by decide) : ME X E (.Dict keys values pos) (dispM m) := by
  obtain ⟨trs, hp, ht⟩ := h.ex
  refine (pe_disp hp hall hl h0 h15).weak fun σ H Q h => ?_
  obtain ⟨ρ, μ, S, he, ho, h⟩ := h
  intro p hpn
  have s0 : Step μ μ H (upd H p (.dK [])) := .fresh hpn
  refine ht σ _ _ ρ μ S (he.mono ho s0) (ho.fresh hpn) ?_
  unfold dispM M.bind at h
  cases q : m ρ S with
  | bad => rw [q] at h; exact h.elim
  | exc c fs S' => rw [q] at h; exact XP.of s0 h
  | ok ps S1 =>
    rw [q] at h
    intro vs H2 μ2 s2 o2 dp
    dsimp only at h
    cases qk : keysD ps with
    | none => rw [qk] at h; exact h.elim
    | some kvs =>
      rw [qk] at h
      dsimp only at h
      split at h
      · rename_i hl15
        have hp2 : H2 p = some (.dK []) := s2.keep p _ (ho.nofree hpn).1 upd_same
        have hnc : p ∉ μ2.c := fun z => by
          rcases s2.new p z with z | z
          · exact (ho.nofree hpn).1 z
          · rw [upd_same] at z; cases z
        obtain ⟨ws, e1, e2, e3⟩ := keys_den dp qk
        have hlen : ws.length = kvs.length := by simpa using congrArg List.length e2
        refine ⟨hp2, ws, e1, by omega, ?_⟩
        obtain ⟨g1, g2⟩ := merge_den (K := X.K) (mg := X.mg) (μ := μ2) (H := H2) (ws := []) (kvs := []) e2 e3 rfl .nil
        exact h _ _ (μ2.add p) ((s0.trans s2).made hpn) (o2.made hp2 hnc ⟨_, upd_same, g1, g2.monoD o2 (made_step hp2)⟩) (.loc o2.atNew)
      · exact h.elim
/-! ### dict comprehensions -/
def dcL (chk : Store → Bool) (g : D → Env' → Option Env') (mt : Env' → M Bool) (mk mv : Env' → M D) (ρ : Env') : List D → List (Key × D) → M (List (Key × D))
  | [], acc, S => if chk S = true then .ok acc S else .bad
  | d :: ds, acc, S => if chk S = true then (match g d ρ with
    | none => .bad
    | some ρ2 => match mt ρ2 S with
      | .ok true S1 => (match mk ρ2 S1 with
        | .ok k S2 => (match mv ρ2 S2 with
          | .ok v S3 => (match keyOf k with
            | some key => if acc.length < sizeLine then dcL chk g mt mk mv ρ ds (putD acc key v) S3 else .bad
            | none => .bad)
          | _ => .bad)
        | _ => .bad)
      | .ok false S1 => dcL chk g mt mk mv ρ ds acc S1
      | _ => .bad) else .bad
def dcM (mi : Env' → M Src) (g : D → Env' → Option Env') (mt : Env' → M Bool) (mk mv : Env' → M D) (own : List Nat) : Env' → M D := fun ρ => M.bind (mi ρ) fun src S => match dcL src.chk g mt mk mv (wipeE ρ own) src.items [] S with
  | .ok kvs S' => newDict kvs S'
  | _ => .bad
theorem Step.dk {μ μ' : Pl} {H H' : Hp} {p : Addr} {o : HO} (st : Step μ μ' H H') (hp : H p = none) : Step μ μ' H (upd H' p o) := st.grown hp
/-- a dict that is no cell gets another content -/
theorem dk_step {μ : Pl} {H : Hp} {p : Addr} {o : HO} {ws : List (Key × V)} (hp : H p = some (.dK ws)) : StepD μ μ H (upd H p o) := ⟨List.prefix_refl μ.c, fun a u _ _ hu e => by
  by_cases z : a = p
  · subst z
    rw [hp] at e
    exact absurd (Option.some.inj e).symm (hu ws)
  · rw [upd_ne z]; exact e, fun a h => h.elim .inl fun z => .inr (.inl z)⟩
theorem Ok.dk {K : W.Frag} {mg : Str → Option Value} {μ : Pl} {H : Hp} {S : Store} (o : Ok K mg μ H S) {p : Addr} {ob : HO} {ws : List (Key × V)} (hp : H p = some (.dK ws)) (hn : p ∉ μ.c) : Ok K mg μ (upd H p ob) S := ⟨o.len, o.nd, fun a ha => by
  obtain ⟨z, vs, e⟩ := o.hd a ha
  exact ⟨z, vs, by rw [upd_ne (fun q => by rw [q, hp] at e; cases e)]; exact e⟩, fun n a c ha hc =>
  (o.at_ n a c ha hc).monoD o (dk_step hp) (upd_ne (fun z => hn (by rw [← z]; exact List.mem_of_getElem? ha)))⟩
theorem e_dc {kx vx tg iter : Expr} {ifs : List Expr} {scope : Scope} {mi : Env' → M Src} {mt : Env' → M Bool} {w : List Nat} {g : D → Env' → Option Env'} {mk mv : Env' → M D} (own : List (Str × Nat)) (hc : X.calm = true) (hN : X.N.Nodup) (hi : MI X E tg iter mi) (ok : BlkOk X.N X.env.scope scope own)
    (hg : ∀ (s : Shared) (H : Hp) (C : Addr) (cl : List (Str × Addr)) (fp : List Addr), MG (X.blk s H scope (compEnvC scope cl C X.env) fp) tg w g) (ht : ∀ (s : Shared) (H : Hp) (C : Addr) (cl : List (Str × Addr)) (fp : List Addr), MTs (X.blk s H scope (compEnvC scope cl C X.env) fp) EB ifs mt)
    (hk : ∀ (s : Shared) (H : Hp) (C : Addr) (cl : List (Str × Addr)) (fp : List Addr), ME (X.blk s H scope (compEnvC scope cl C X.env) fp) EB kx mk)
    (hv : ∀ (s : Shared) (H : Hp) (C : Addr) (cl : List (Str × Addr)) (fp : List Addr), ME (X.blk s H scope (compEnvC scope cl C X.env) fp) EB vx mv) (hw : ∀ i ∈ w, i ∈ own.map (·.2) := by decide) (hs : ∀ x, foldedSetIterable iter X.env x = pure x := by intro _; rfl) :
    ME X E (.DictComp kx vx [⟨tg, iter, ifs, 0⟩] scope pos) (dcM mi g mt mk mv (own.map (·.2))) :=
  (pe_dc (wi := tI X.K X.mg E mi) (g := tG X.K X.mg w g) (tt := tB' X.K X.mg EB mt) (tk := tE X.K X.mg EB mk) (tv := tE X.K X.mg EB mv) hc hN hi ok hg ht hk hv hs).weak fun σ H Q h => by
  obtain ⟨ρ, μ, S, he, ho, h⟩ := h
  refine ⟨ρ, μ, S, he, ho, ?_⟩
  unfold dcM M.bind at h
  cases e : mi ρ S with
  | bad => rw [e] at h; exact h.elim
  | exc c fs S' => rw [e] at h; exact h
  | ok src S1 =>
    rw [e] at h
    dsimp only at h
    generalize hvs : own.map (·.2) = vs at h hw ⊢
    intro J H1 μ1 s1 o1 j1 Dn hD
    have h := PostD.of s1 h
    cases el : dcL src.chk g mt mk mv (wipeE ρ vs) src.items [] S1 with
    | bad => rw [el] at h; exact h.elim
    | exc c fs S' => rw [el] at h; exact h.elim
    | ok kvf Sf =>
      rw [el] at h
      have e1 : EnvOk X.K X.mg μ1 H1 (wipe σ vs) (wipeE ρ vs) := (he.mono ho s1).wipe vs
      refine ⟨fun i m H' => m = src.items.length - i ∧ i ≤ src.items.length ∧ ∃ (μ' : Pl) (S' : Store) (acc : List (Key × V)) (accd : List (Key × PyM.D)), Step μ1 μ' H1 H' ∧ Ok X.K X.mg μ' H' S' ∧ H' Dn = some (.dK acc) ∧ Dn ∉ μ'.c ∧ acc.map (·.1) = accd.map (·.1) ∧
        DenL X.K X.mg μ' H' (acc.map (·.2)) (accd.map (·.2)) ∧ dcL src.chk g mt mk mv (wipeE ρ vs) (src.items.drop i) accd S' = .ok kvf Sf,
        ⟨src.items.length, by simp, Nat.zero_le _, μ1, S1, [], [], (Step.refl (μ := μ1) (H := H1)).grown hD, o1.fresh hD, upd_same, (o1.nofree hD).1, rfl, .nil, el⟩, ?_⟩
      rintro i m H' ⟨rfl, hi, μ', S', acc, accd, st, o', hDn, hnc, hk1, hacc, hl⟩
      by_cases hlt : i < src.items.length
      · rw [List.drop_eq_getElem_cons hlt] at hl
        unfold dcL at hl
        split at hl
        · rename_i hchk
          have hj := (j1 _ H' S' st.d o' hchk i).2 _ (List.getElem?_eq_getElem hlt)
          cases q : g src.items[i] (wipeE ρ vs) with
          | none => rw [q] at hl; cases hl
          | some ρ2 =>
            rw [q] at hl
            dsimp only at hl
            refine .inr ⟨hj.1, fun H' => ∃ (μ' : Pl) (S' : Store) (acc : List (Key × V)) (accd : List (Key × PyM.D)), Step μ1 μ' H1 H' ∧ Ok X.K X.mg μ' H' S' ∧ H' Dn = some (.dK acc) ∧ Dn ∉ μ'.c ∧ acc.map (·.1) = accd.map (·.1) ∧
              DenL X.K X.mg μ' H' (acc.map (·.2)) (accd.map (·.2)) ∧ dcL src.chk g mt mk mv (wipeE ρ vs) (src.items.drop (i + 1)) accd S' = .ok kvf Sf, fun H' p' => ⟨src.items.length - (i + 1), by omega, rfl, hlt, p'⟩, fun x H2 y => ?_⟩
            obtain ⟨s2, o2, d2⟩ := hj.2 x H2 y
            have e2 : EnvOk X.K X.mg μ' H2 (wipe σ vs) (wipeE ρ vs) := (e1.mono o1 st).mono o' s2
            have hDn2 : H2 Dn = some (.dK acc) := s2.keep _ _ hnc hDn
            refine ⟨_, _, S', _, ρ2, e2, o2, d2, q, fun σ' sb e3 => ⟨wipe_same hw sb, ρ2, _, S', e3, o2, ?_⟩⟩
            have nc : ∀ {μa μb : Pl} {Ha Hb : Hp}, Step μa μb Ha Hb → Dn ∉ μa.c → Ha Dn = some (.dK acc) → Dn ∉ μb.c := fun sx hx hy z => by
              rcases sx.new _ z with z | z
              · exact hx z
              · rw [hy] at z; cases z
            cases r : mt ρ2 S' with
            | bad => rw [r] at hl; cases hl
            | exc c fs S2 => rw [r] at hl; cases hl
            | ok k S2 =>
              rw [r] at hl
              intro H3 μ3 s3 o3
              have hDn3 : H3 Dn = some (.dK acc) := s3.keep _ _ hnc hDn2
              have hnc3 := nc s3 hnc hDn2
              cases k with
              | false => exact ⟨μ3, S2, acc, accd, (st.trans (s2.trans s3)), o3, hDn3, hnc3, hk1, (hacc.mono o' s2).mono o2 s3, hl⟩
              | true =>
                dsimp only at hl
                refine ⟨ρ2, _, S2, e3.mono o2 s3, o3, ?_⟩
                cases r2 : mk ρ2 S2 with
                | bad => rw [r2] at hl; cases hl
                | exc c fs S2 => rw [r2] at hl; cases hl
                | ok kd S3 =>
                  rw [r2] at hl
                  dsimp only at hl
                  intro kv H4 μ4 s4 o4 d4
                  have hDn4 : H4 Dn = some (.dK acc) := s4.keep _ _ hnc3 hDn3
                  have hnc4 := nc s4 hnc3 hDn3
                  refine ⟨ρ2, _, S3, (e3.mono o2 s3).mono o3 s4, o4, ?_⟩
                  cases r3 : mv ρ2 S3 with
                  | bad => rw [r3] at hl; cases hl
                  | exc c fs S2 => rw [r3] at hl; cases hl
                  | ok vd S4 =>
                    rw [r3] at hl
                    dsimp only at hl
                    intro vv H5 μ5 s5 o5 d5
                    have hDn5 : H5 Dn = some (.dK acc) := s5.keep _ _ hnc4 hDn4
                    have hnc5 := nc s5 hnc4 hDn4
                    cases r4 : keyOf kd with
                    | none => rw [r4] at hl; cases hl
                    | some key =>
                      rw [r4] at hl
                      dsimp only at hl
                      split at hl
                      · rename_i hsz
                        have hlen : acc.length = accd.length := by simpa using congrArg List.length hk1
                        obtain ⟨p1, p2⟩ := put_den (k := key) d5 hk1 ((((hacc.mono o' s2).mono o2 s3).mono o3 s4).mono o4 s5)
                        exact ⟨acc, key, key_den d4 r4, hDn5, by omega, μ5, S4, putK acc key vv, putD accd key vd, (st.trans (s2.trans (s3.trans (s4.trans s5)))).grown hD, o5.dk hDn5 hnc5, upd_same, hnc5, p1, p2.monoD o5 (dk_step hDn5), hl⟩
                      · cases hl
        · cases hl
      · rw [List.drop_eq_nil_of_le (by omega)] at hl
        unfold dcL at hl
        split at hl
        · rename_i hchk
          injection hl with hl1 hl2
          subst hl1 hl2
          refine .inl ⟨(j1 _ H' _ st.d o' hchk i).1 (by omega), ?_⟩
          have e5 : H' = upd H' Dn (.dK acc) := by
            funext z
            unfold upd
            split
            · rename_i hz
              rw [hz]; exact hDn
            · rfl
          refine h _ H' (μ'.add Dn) ?_ ?_ (.loc o'.atNew)
          · have := st.made (ob := .dK acc) hD
            rw [← e5] at this
            exact this
          · have g2 := hacc.monoD o' (made_step (μ := μ') (ob := .dK acc) hDn)
            have := o'.made (ob := .dK acc) (c := .dct accd) hDn hnc ⟨acc, upd_same, hk1, g2⟩
            rw [← e5] at this
            exact this
        · cases hl
end
/-- len of a dict -/
def lenDP (S : Store) : List D → Option D
  | [a] => match cellD S a with
    | some (_, kvs) => some (.int kvs.length)
    | none => none
  | _ => none
theorem c_lenD {X : Cx} : CallR X (.builtin "len") (rPL X.K X.mg lenDP) := by
  intro pins s σ H xs us Q I r h
  obtain ⟨μ, S, ds, d, o, dl, e, k⟩ := h
  unfold lenDP at e
  split at e
  · split at e
    · rename_i n kvs q
      obtain rfl := Option.some.inj e
      obtain ⟨v, rfl, dv⟩ := den1 dl
      obtain ⟨p, ws, rfl, rfl, hn, hp, h1, h2⟩ := cellD_den o dv q
      rw [Vals.ref1 r]
      have hlen : ws.length = kvs.length := by simpa using congrArg List.length h1
      exact d_len I (.inl hp) fun t s' I' => ⟨.int ws.length, H, I', ⟨t, rfl⟩, by rw [hlen]; exact k _ _ .refl o (.int _)⟩
    · cases e
  · cases e
end PyM
set_option Elab.async false
set_option linter.all false
set_option maxRecDepth 100000
set_option maxHeartbeats 2000000
namespace PyM
open PySem PySem.Spec PyProof.Rows L2 HT

/-! ### t[::-1] -/
theorem fm_congr {α β : Type} {f g : α → Option β} : ∀ {l : List α}, (∀ m ∈ l, f m = g m) → l.filterMap f = l.filterMap g
  | [], _ => rfl
  | m :: l, h => by
    rw [List.filterMap_cons, List.filterMap_cons, h m (by simp), fm_congr fun x hx => h x (by simp [hx])]
theorem pick_rev (xs : Array Value) : ((List.range xs.size).filterMap fun (m : Nat) => xs[(((xs.size : Int) - 1) + (m : Int) * (-1)).toNat]?) = xs.toList.reverse := by
  have h1 : ∀ (l : List Value) (n : Nat), n ≤ l.length → ((List.range n).filterMap fun (m : Nat) => l[m]?) = l.take n := by
    intro l n
    induction n with
    | zero => intro _; simp
    | succ n ih =>
      intro hn
      rw [List.range_succ, List.filterMap_append, ih (by omega), List.take_add_one]
      congr 1
  have h2 := h1 xs.toList.reverse xs.size (by simp)
  rw [List.take_of_length_le (by simp)] at h2
  rw [← h2]
  refine fm_congr fun m hm => ?_
  have hm := List.mem_range.mp hm
  rw [List.getElem?_reverse (by simpa using hm)]
  have e : (((xs.size : Int) - 1) + (m : Int) * (-1)).toNat = xs.toList.length - 1 - m := by
    have : xs.toList.length = xs.size := by simp
    omega
  rw [e]
  simp
section
variable {prog : Program} {w : World} {A : Around} {E : Value → Shared → Prop} {s : Shared}
theorem adjust_rev (n : Nat) : Builtin.Slice.sliceAdjust none none (-1) (n : Int) = ((n : Int) - 1, -1) := by
  unfold Builtin.Slice.sliceAdjust
  simp
theorem places_rev (n : Nat) : Builtin.Slice.slicePlaces ((n : Int) - 1) (-1) (-1) = n := by
  unfold Builtin.Slice.slicePlaces
  simp
  try omega
theorem sliceApplied_rev {sl : Addr} {vl vu vs : Value} {n : Nat} {Q : Int × Int × Nat → Shared → Prop} (hs : s.heap.IsSliceOf sl vl vu vs) (pl : IsPart vl none) (pu : IsPart vu none) (ps : IsPart vs (some (-1)))
    (h : Q ((n : Int) - 1, -1, n) s) : wpAny (model prog w) A (Builtin.Slice.sliceApplied (.ref sl) (pure (n : Int))) Q E s := by
  obtain ⟨os, hos, hcs, hds⟩ := id hs
  unfold Builtin.Slice.sliceApplied Builtin.Slice.sliceFields
  refine wpAny_bind (wpAny_bind (wpAny_field hos hds (x := vl) rfl (wpAny_bind (wpAny_field hos hds (x := vu) rfl (wpAny_bind (wpAny_field hos hds (x := vs) rfl (wpAny_pure ?_)))))))
  refine wpAny_bind (slicePart_ ps ?_)
  show wpAny _ _ (if ((-1 : Int) == 0) = true then _ else _) _ _ s
  rw [if_neg (by decide)]
  refine wpAny_bind (slicePart_ pl (wpAny_bind (slicePart_ pu (wpAny_bind (wpAny_pure ?_)))))
  show wpAny _ _ (match Builtin.Slice.sliceAdjust none none (-1) (n : Int) with | (lo, hi) => pure (lo, (-1 : Int), Builtin.Slice.slicePlaces lo hi (-1))) _ _ s
  rw [adjust_rev]
  show wpAny _ _ (pure ((n : Int) - 1, (-1 : Int), Builtin.Slice.slicePlaces ((n : Int) - 1) (-1) (-1))) _ _ s
  rw [places_rev]
  exact wpAny_pure h
theorem getItem_tuple_rev {t sl : Addr} {items : Array Value} {vl vu vs : Value} {Q : Value → Shared → Prop} (ht : IsTup s.heap t items) (hs : s.heap.IsSliceOf sl vl vu vs) (pl : IsPart vl none) (pu : IsPart vu none) (ps : IsPart vs (some (-1)))
    (h : Q (.ref s.heap.objs.size) { s with heap := s.heap.push { cls := .type "tuple", data := .seq items.toList.reverse.toArray } }) (hsz : items.size ≤ sizeLine) : wpAny (model prog w) A (getItem (.ref t) (.ref sl)) Q E s := by
  have htake : sizeOk (.seq items.toList.reverse.toArray) := by
    show items.toList.reverse.toArray.size ≤ sizeLine
    simpa using hsz
  obtain ⟨os, hos, hcs, hds⟩ := id hs
  have hTs : s.TypeIs (.ref sl) "slice" := ⟨os, hos, hcs⟩
  unfold getItem
  try with_reducible refine wpAny_holding ?_
  first | refine wpAny_bind (wpAny_pure ?_) | skip
  refine wpAny_bind (wpAny_sequenceKey ht.typeIs (by decide) ?_)
  refine wpAny_bind (wpAny_callSpecial?_slot (name := Str.ofString "__getitem__") ht.typeIs PyProof.Rows.slot_tuple_getitem
    (wpAny_call_entry PyProof.Rows.slot_tuple_getitem ht.typeIs entry_tuple_getitem ?_ (args_tuple_getitem _ _)))
  show wpAny _ _ (Builtin.Tuple.tupleItemsOf (.ref t) >>= _) _ _ s
  refine wpAny_bind (tupleItemsOf_ ht ?_)
  refine wpAny_bind (wpAny_typeOf hTs ?_)
  rw [if_pos (by decide)]
  refine wpAny_bind (sliceApplied_rev hs pl pu ps ?_)
  show wpAny _ _ (if (((items.size : Int) - 1) == 0 && (-1 : Int) == 1 && items.size == items.size) = true then _ else _) _ _ s
  rw [if_neg (by simp), pick_rev]
  first
    | exact wpAny_bind (m := Builtin.Tuple.tupleExact _) (wpAny_newObj_type (wpAny_pure ⟨_, rfl, wpAny_pure h⟩) htake)
    | exact wpAny_bind (m := Builtin.Tuple.tupleExact _) (wpAny_newObj_type (wpAny_bind (wpAny_pure (wpAny_pure ⟨_, rfl, wpAny_pure h⟩))) htake)
    | exact wpAny_bind (wpAny_bind (m := Builtin.Tuple.tupleExact _) (wpAny_newObj_type (wpAny_pure (wpAny_pure ⟨_, rfl, wpAny_pure h⟩)) htake))
    | exact wpAny_bind (wpAny_bind (m := Builtin.Tuple.tupleExact _) (wpAny_newObj_type (wpAny_pure ⟨_, rfl, wpAny_pure h⟩) htake))
end
/-- xs[::-1] of a list or a tuple -/
def revP (S : Store) (d : D) : Option D := match d with
  | .tup ds => some (.tup ds.reverse)
  | d => (asS S d).map fun ds => .lst ds.reverse
def revM (ma : Env' → M D) : Env' → M D := un1 revP ma
section
variable {X : Cx} {E : L2.St → XK} {e : Expr} {ma : Env' → M D}
theorem e_rev {k : Nat} {p1 p2 p3 pos : Pos} (he : ME X E e ma) : ME X E (.Subscript e (.Slice none none (some (.UnaryOp .USub (.Constant (.int 1) k p1) p2)) p3) pos) (revM ma) := by
  refine ⟨fun pins s σ H Q I h => ?_⟩
  obtain ⟨ρ, μ, S, hE, hO, h⟩ := h
  have h1 : tE X.K X.mg E ma σ H fun x H1 => ∃ μ1 S1 a d, Ok X.K X.mg μ1 H1 S1 ∧ Den X.K X.mg μ1 H1 x a ∧ revP S1 a = some d ∧ ∀ v' H' , Step μ1 μ1 H1 H' → Ok X.K X.mg μ1 H' S1 → Den X.K X.mg μ1 H' v' d → Q v' H' := by
    refine tE.run (R := fun r => PostD X.K X.mg μ H (E σ) r Q) hE hO h (fun _ _ _ z => z) (fun z => z) fun x S1 _ h1 v H1 μ1 s1 o1 e1 d1 => ?_
    unfold M.op1 at h1
    cases q : revP S1 x with
    | none => rw [q] at h1; exact h1.elim
    | some d =>
      rw [q] at h1
      exact ⟨μ1, S1, x, d, o1, d1, q, fun v' H' st o' hd => h1 v' H' μ1 (s1.trans st) o' hd⟩
  refine Subscript_ (thn (he.run pins s σ H _ I h1) fun v s1 ⟨x, H1, I1, r1, q1⟩ => ?_)
  obtain ⟨μ1, S1, a, d, o1, d1, eq, q1⟩ := q1
  have hst : PO X (some (.UnaryOp .USub (.Constant (.int 1) k p1) p2)) (tPart (tUn (rU fun i => .int (-i)) (tC (.int 1)))) := po_some (pe_un un_neg pe_int)
  refine wpAny_Slice (thn (po_none.run pins s1 σ H1 (fun o H2 => o = none ∧ H2 = H1) I1 ⟨rfl, rfl⟩) fun vl s2 ⟨l, H2, I2, pl, el, e2⟩ => ?_)
  subst el e2
  refine thn (po_none.run pins s2 σ H2 (fun o H3 => o = none ∧ H3 = H2) I2 ⟨rfl, rfl⟩) fun vu s3 ⟨u, H3, I3, pu, eu, e3⟩ => ?_
  subst eu e3
  refine thn (hst.run pins s3 σ H3 (fun o H4 => o = some (-1) ∧ H4 = H3) I3 ⟨1, rfl, -1, rfl, rfl, rfl⟩) fun vs s4 ⟨o, H4, I4, ps, eo, e4⟩ => ?_
  subst eo e4
  have I5 : Inv X pins σ H4 { s4 with heap := s4.heap.push { cls := .type "slice", data := .fields #[vl, vu, vs] } } := I4.kept (t' := s4.toks) fun b ob q => Heap.get?_push_of_some _ q
  show wpAny (model X.prog X.w) X.A (subscriptTail e (.Slice none none (some (.UnaryOp .USub (.Constant (.int 1) k p1) p2)) p3) v (.ref s4.heap.objs.size)) (EP X pins σ Q) X.xe { s4 with heap := s4.heap.push { cls := .type "slice", data := .fields #[vl, vu, vs] } }
  unfold revP at eq
  split at eq
  · rename_i ds
    obtain rfl := Option.some.inj eq
    cases d1 with
    | tup h1 h2 =>
      rename_i p xs
      cases r1
      obtain ⟨its, r, ht, hz⟩ := I5.tuple h1
      have hlen := r.length
      refine tail_any (ops := [.ref p, .ref s4.heap.objs.size]) ht.typeIs (PyProof.Rows.slot_tuple_getitem.lookup) ?_ (by with_unfolding_all rfl)
      refine getItem_tuple_rev ht (Heap.IsSliceOf.new _ vl vu vs) pl pu ps ?_ (by rw [List.size_toArray]; omega)
      obtain ⟨st, ok, dd⟩ := new_tup (K := X.K) (mg := X.mg) o1 (p := (s4.heap.push { cls := .type "slice", data := .fields #[vl, vu, vs] }).objs.size) (I5.hok.fresh (Nat.le_refl _)) h2.reverse
      refine ⟨.ref _, _, I5.laid (t' := s4.toks) (o := .tup xs.reverse) (fun b ob q => Heap.get?_push_of_some _ q) (Nat.le_refl _) ?_, rfl, q1 _ _ st ok dd⟩
      exact ⟨by rw [List.length_reverse]; exact hz, its.reverse, r.reverse, IsTup.new _ _⟩
  · rename_i hnt
    cases qa : asS S1 a with
    | none => rw [qa] at eq; cases eq
    | some ds =>
      rw [qa] at eq
      obtain rfl := Option.some.inj eq
      obtain ⟨p, xs, rfl, h1, h2⟩ := asS_den o1 d1 qa
      cases r1
      obtain ⟨its, r, ht, hz⟩ := I5.list h1
      have hlen := r.length
      refine tail_any (ops := [.ref p, .ref s4.heap.objs.size]) ht.isList.typeIs (PySem.slot_list_getitem.lookup) ?_ (by with_unfolding_all rfl)
      refine wpAny_getItem_list_slice ht.isList (Heap.IsSliceOf.new _ vl vu vs) pl pu ps (by decide) ?_ (by rw [List.size_toArray]; omega)
      rw [PySem.W.krv_pick]
      obtain ⟨st, ok, dd⟩ := new_lst (K := X.K) (mg := X.mg) o1 (p := (s4.heap.push { cls := .type "slice", data := .fields #[vl, vu, vs] }).objs.size) (I5.hok.fresh (Nat.le_refl _)) h2.reverse
      refine ⟨.ref _, _, I5.laid (t' := s4.toks) (o := .lst xs.reverse) (fun b ob q => Heap.get?_push_of_some _ q) (Nat.le_refl _) ?_, rfl, q1 _ _ st ok dd⟩
      exact ⟨by rw [List.length_reverse]; exact hz, _, 0, r.reverse, Heap.get?_push_size _ rfl⟩
end
end PyM
set_option Elab.async false
set_option linter.all false
set_option maxRecDepth 100000
set_option maxHeartbeats 2000000
namespace PyM
open PySem PySem.Spec PyProof.Rows L2

/-! ### repr of lists and tuples -/
def isRefD : D → Bool
  | .tup _ => true
  | .lst _ => true
  | .loc _ => true
  | _ => false
def reprP (S : Store) : List D → Option D
  | [d] => if isRefD d = true then (match d.py S with
    | some p => if (p.showable && !p.hasDict && decide (p.depth ≤ 64) && decide (p.shown.length ≤ sizeLine)) = true then some (.str p.shown) else none
    | none => none) else none
  | _ => none
theorem c_repr {X : Cx} {k : Nat} (hG : X.A.guards = some []) (hr : Room k X.A) : CallR X (.builtin "repr") (rPL X.K X.mg reprP) := by
  intro pins s σ H xs us Q I r h
  obtain ⟨μ, S, ds, d, o, dl, e, q⟩ := h
  unfold reprP at e
  split at e
  · rename_i d0
    split at e
    · rename_i hd0
      split at e
      · rename_i p hp
        split at e
        · rename_i hc
          obtain rfl := Option.some.inj e
          simp only [Bool.and_eq_true, decide_eq_true_eq, Bool.not_eq_true'] at hc
          obtain ⟨⟨⟨h1, h2⟩, h3⟩, h4⟩ := hc
          obtain ⟨v, rfl, dv⟩ := den1 dl
          obtain ⟨a, rfl⟩ : ∃ a, v = .ref a := by
            cases dv with
            | tup _ _ => exact ⟨_, rfl⟩
            | lst _ _ _ _ => exact ⟨_, rfl⟩
            | loc _ => exact ⟨_, rfl⟩
            | _ => cases hd0
          rw [Vals.ref1 r]
          obtain ⟨as, ra⟩ := Dp.reads I p _ _ (py_den o d0 dv hp) rfl
          have := hr.un
          exact repr_of_reads' ra h1 (fun h' => by rw [h2] at h'; cases h') hG (by omega) (fun _ _ e => e) (fun h' u tk hk => ⟨.str p.shown, H, I.kept (t' := tk) hk, ⟨u, rfl⟩, q _ _ .refl o (.str _)⟩) h4
        · cases e
      · cases e
    · cases e
  · cases e
end PyM
set_option Elab.async false
set_option linter.all false
set_option maxRecDepth 100000
set_option maxHeartbeats 2000000
namespace PyM
open PySem PySem.Spec PyProof.Rows L2

/-! ### sorted: texts; tuples by their first texts, which differ -/
def strsOf : List D → Option (List Str)
  | [] => some []
  | .str x :: r => (strsOf r).map (x :: ·)
  | _ :: _ => none
def strLt (a b : Str) : Bool := decide (a.cps.toList < b.cps.toList)
/-- put in by the order of their keys -/
def insK {α : Type} (k : α → Str) (x : α) : List α → List α
  | [] => [x]
  | y :: ys => if strLt (k y) (k x) = true then y :: insK k x ys else x :: y :: ys
def sortK {α : Type} (k : α → Str) : List α → List α
  | [] => []
  | x :: xs => insK k x (sortK k xs)
def tupsOf : List D → Option (List (Str × List D))
  | [] => some []
  | .tup (.str x :: r) :: l => (tupsOf l).map ((x, r) :: ·)
  | _ :: _ => none
def nodupS : List Str → Bool
  | [] => true
  | x :: xs => !(xs.any (· == x)) && nodupS xs
def sortedP (S : Store) : List D → Option D
  | [d] => match asS S d with
    | some ds => if ds.length < 64 then (match strsOf ds with
      | some xs => some (.lst ((sortK id xs).map .str))
      | none => match tupsOf ds with
        | some ts => if nodupS (ts.map (·.1)) = true then some (.lst ((sortK (·.1) ts).map fun t => .tup (.str t.1 :: t.2))) else none
        | none => none) else none
    | none => none
  | _ => none
theorem str_ext {a b : Str} (h : a.cps.toList = b.cps.toList) : a = b := by
  cases a; cases b
  congr
  exact Array.toList_inj.mp h
theorem strLt_asym (a b : Str) (h : strLt a b = true) : strLt b a = false := by
  unfold strLt at *
  exact decide_eq_false fun h' => List.lt_irrefl _ (List.lt_trans (of_decide_eq_true h) h')
theorem strLt_irr (a : Str) : strLt a a = false := decide_eq_false (List.lt_irrefl _)
theorem strLt_tri {a b : Str} (h1 : strLt a b = false) (h2 : strLt b a = false) : a = b := by
  unfold strLt at *
  exact str_ext (List.le_antisymm (of_decide_eq_false h2) (of_decide_eq_false h1))
theorem strLt_tr (a b c : Str) (h1 : strLt b a = false) (h2 : strLt c b = false) : strLt c a = false := by
  unfold strLt at *
  exact decide_eq_false (List.not_lt.mpr (List.le_trans (List.not_lt.mp (of_decide_eq_false h1)) (List.not_lt.mp (of_decide_eq_false h2))))
/-- in order: none below one ahead of it -/
abbrev Asc {α : Type} (k : α → Str) (l : List α) : Prop := l.Pairwise fun x y => strLt (k y) (k x) = false
theorem insK_perm {α : Type} (k : α → Str) (x : α) : ∀ l : List α, (insK k x l).Perm (x :: l)
  | [] => .refl _
  | y :: ys => by
    unfold insK
    split
    · exact ((insK_perm k x ys).cons y).trans (List.Perm.swap x y ys)
    · exact .refl _
theorem sortK_perm {α : Type} (k : α → Str) : ∀ l : List α, (sortK k l).Perm l
  | [] => .refl _
  | x :: xs => (insK_perm k x _).trans ((sortK_perm k xs).cons x)
theorem insK_asc {α : Type} (k : α → Str) (x : α) : ∀ l : List α, Asc k l → Asc k (insK k x l)
  | [], _ => List.pairwise_singleton _ _
  | y :: ys, h => by
    unfold insK
    have h' := List.pairwise_cons.mp h
    split
    · rename_i hl
      refine List.pairwise_cons.mpr ⟨fun z hz => ?_, insK_asc k x ys h'.2⟩
      rcases List.mem_cons.mp ((insK_perm k x ys).mem_iff.mp hz) with e | hz
      · rw [e]; exact strLt_asym _ _ hl
      · exact h'.1 z hz
    · rename_i hl
      have hl : strLt (k y) (k x) = false := by simpa using hl
      refine List.pairwise_cons.mpr ⟨fun z hz => ?_, h⟩
      rcases List.mem_cons.mp hz with e | hz
      · rw [e]; exact hl
      · exact strLt_tr _ _ _ hl (h'.1 z hz)
theorem sortK_asc {α : Type} (k : α → Str) : ∀ l : List α, Asc k (sortK k l)
  | [] => List.Pairwise.nil
  | x :: xs => insK_asc k x _ (sortK_asc k xs)
/-- there is just one such list, where keys tell the items -/
theorem asc_uniq {α : Type} (k : α → Str) : ∀ {l m : List α}, (∀ x ∈ l, ∀ y ∈ l, k x = k y → x = y) → Asc k l → Asc k m → l.Perm m → l = m
  | [], m, _, _, _, p => (List.Perm.eq_nil p.symm).symm
  | x :: l, [], _, _, _, p => absurd p.length_eq (by simp)
  | x :: l, y :: m, hi, hl, hm, p => by
    have hl' := List.pairwise_cons.mp hl
    have hm' := List.pairwise_cons.mp hm
    have e : x = y := by
      rcases List.mem_cons.mp (p.mem_iff.mp (List.mem_cons_self (a := x) (l := l))) with e | hx
      · exact e
      · have hy := p.mem_iff.mpr (List.mem_cons_self (a := y) (l := m))
        rcases List.mem_cons.mp hy with e | hy'
        · exact e.symm
        · exact hi x (by simp) y hy (strLt_tri (hm'.1 x hx) (hl'.1 y hy'))
    subst e
    rw [asc_uniq k (fun a ha b hb => hi a (by simp [ha]) b (by simp [hb])) hl'.2 hm'.2 p.cons_inv]
theorem insK_map {α β : Type} (f : α → β) (k : β → Str) (x : α) : ∀ l : List α, (insK (fun z => k (f z)) x l).map f = insK k (f x) (l.map f)
  | [] => rfl
  | y :: ys => by
    show (if strLt (k (f y)) (k (f x)) = true then y :: insK (fun z => k (f z)) x ys else x :: y :: ys).map f = if strLt (k (f y)) (k (f x)) = true then f y :: insK k (f x) (ys.map f) else f x :: f y :: ys.map f
    split
    · rw [List.map_cons, insK_map f k x ys]
    · rfl
theorem sortK_map {α β : Type} (f : α → β) (k : β → Str) : ∀ l : List α, (sortK (fun z => k (f z)) l).map f = sortK k (l.map f)
  | [] => rfl
  | x :: xs => by
    show (insK _ x (sortK _ xs)).map f = insK k (f x) (sortK k (xs.map f))
    rw [insK_map, sortK_map f k xs]
theorem insK_congr {α : Type} {k k' : α → Str} (x : α) : ∀ {l : List α}, k x = k' x → (∀ y ∈ l, k y = k' y) → insK k x l = insK k' x l
  | [], _, _ => rfl
  | y :: ys, hx, h => by
    unfold insK
    rw [hx, h y (by simp), insK_congr x hx fun z hz => h z (by simp [hz])]
theorem sortK_congr {α : Type} {k k' : α → Str} : ∀ {l : List α}, (∀ y ∈ l, k y = k' y) → sortK k l = sortK k' l
  | [], _ => rfl
  | x :: xs, h => by
    show insK k x (sortK k xs) = insK k' x (sortK k' xs)
    rw [sortK_congr fun y hy => h y (by simp [hy])]
    exact insK_congr x (h x (by simp)) fun y hy => h y (by simp [(sortK_perm k' xs).mem_iff.mp hy])
theorem strsOf_den {K : W.Frag} {mg : Str → Option Value} {μ : Pl} {H : Hp} : ∀ {vs : List V} {ds : List D} {xs : List Str}, DenL K mg μ H vs ds → strsOf ds = some xs → vs = xs.map V.str
  | _, _, _, .nil, e => by simp [strsOf] at e; subst e; rfl
  | _, d :: ds, _, .cons h t, e => by
    cases h <;> simp [strsOf] at e
    obtain ⟨bs, e, rfl⟩ := e
    rw [strsOf_den t e]
    rfl
theorem asc_rising : ∀ (p : Str) (l : List Str), risingS p l = true → Asc id (p :: l)
  | p, [], _ => List.pairwise_singleton _ _
  | p, x :: r, h => by
    unfold risingS at h
    obtain ⟨h1, h2⟩ := Bool.and_eq_true_iff.mp h
    rw [PyProof.Rows.ltCps_eq] at h1
    have h3 : strLt x p = false := by simpa [strLt] using h1
    have ih := asc_rising x r h2
    refine List.pairwise_cons.mpr ⟨fun z hz => ?_, ih⟩
    rcases List.mem_cons.mp hz with e | hz
    · rw [e]; exact h3
    · exact strLt_tr _ _ _ h3 ((List.pairwise_cons.mp ih).1 z hz)
theorem asc_sortedS : ∀ (l : List Str), sortedS l = true → Asc id l
  | [], _ => List.Pairwise.nil
  | x :: r, h => asc_rising x r h
/-! tuples: the text ahead, by the value -/
def fstK (h : Heap) (v : Value) : Str := match v with
  | .ref a => (match h.get? a with
    | some o => (match o.data with
      | .seq its _ => (match (its[0]? : Option Value) with
        | some (Value.str x _) => x
        | _ => Str.empty)
      | _ => Str.empty)
    | none => Str.empty)
  | _ => Str.empty
/-- a tuple with a text ahead -/
def TupF (h : Heap) (v : Value) (x : Str) : Prop := ∃ (a : Addr) (o : Obj) (its : Array Value) (n : Nat) (t : Tok) (r : List Value), v = .ref a ∧ h.get? a = some o ∧ o.cls = .type "tuple" ∧ o.data = .seq its n ∧ its.toList = .str x t :: r
theorem TupF.key {h : Heap} {v : Value} {x : Str} (T : TupF h v x) : fstK h v = x := by
  obtain ⟨a, o, its, n, t, r, rfl, ho, hc, hd, hi⟩ := T
  have : its[0]? = some (.str x t) := by rw [← Array.getElem?_toList, hi]; rfl
  unfold fstK
  simp only [ho, hd, this]
section
variable {prog : Program} {w : World} {A : Around} {E : Value → Shared → Prop} {s : Shared}
theorem katLex_self {b fin : Bool} {Q : Bool → Shared → Prop} : ∀ (l : List Value) (i : Nat), Q fin s → W.KatLex prog w A b fin Q (l.zip l) i s
  | [], _, h => W.kat_nil h
  | v :: l, i, h => W.kat_cons (SeqAt.EqAt.same v prog w _ _ (W.kat_go (fun _ => W.kat_yes (katLex_self l (i + 1) h)) fun e => by cases e))
theorem tup_cmp {vs : List Value} {k : Value → Str} (hp : ∀ v ∈ vs, TupF s.heap v (k v)) (hi : ∀ v ∈ vs, ∀ u ∈ vs, k v = k u → v = u) : SrtO.Cmp prog w A s (tuples' true) (fun p => p.1 ∈ vs) (SrtO.lt2 fun v u => strLt (k v) (k u)) := by
  intro p q hm hm'
  show wpAny (model prog w) A (keyLt' (tuples' true) p.1 q.1) (fun r s' => s' = s ∧ r = strLt (k p.1) (k q.1)) (fun _ _ => False) s
  have h1 := hp _ hm
  have h2 := hp _ hm'
  by_cases e : p.1 = q.1
  · rw [← e]
    obtain ⟨a, o, its, n, t, r, ev, ho, hc, hd, hi'⟩ := h1
    rw [ev]
    refine W.kat_lt ho hd ho hd (katLex_self _ _ ⟨rfl, ?_⟩)
    rw [strLt_irr]
    exact decide_eq_false (Nat.lt_irrefl _)
  · have hk : k p.1 ≠ k q.1 := fun z => e (hi _ hm _ hm' z)
    generalize k p.1 = x at h1 hk ⊢
    generalize k q.1 = y at h2 hk ⊢
    obtain ⟨a, o, its, n, t, r, ev, ho, hc, hd, hi1⟩ := h1
    obtain ⟨a', o', its', n', t', r', ev', ho', hc', hd', hi2⟩ := h2
    rw [ev, ev']
    refine W.kat_lt ho hd ho' hd' ?_
    rw [hi1, hi2]
    refine W.kat_cons (SeqAt.EqAt.str_str x t y t' prog w _ _ ?_)
    have hb : (x == y) = false := beq_eq_false_iff_ne.mpr hk
    rw [hb]
    exact W.kat_no (oneLt_str ⟨rfl, rfl⟩)
theorem tup_firsts {h : Heap} {k : Value → Str} : ∀ {vs : List Value}, (∀ v ∈ vs, TupF h v (k v)) → ∃ fs : List Value, W.KatTups h vs fs ∧ fs.length = vs.length ∧ ∀ f ∈ fs, ∃ x t, f = Value.str x t
  | [], _ => ⟨[], W.KatTups.nil, rfl, fun _ hm => by simp at hm⟩
  | v :: vs, hp => by
    obtain ⟨fs, h1, h2, h3⟩ := tup_firsts (vs := vs) fun u hu => hp u (List.mem_cons_of_mem _ hu)
    obtain ⟨a, o, its, n, t, r, e, ho, hc, hd, hi⟩ := hp v (List.mem_cons_self ..)
    subst e
    refine ⟨.str (k (.ref a)) t :: fs, W.KatTups.cons ho hc hd (by rw [← Array.getElem?_toList, hi]; rfl) h1, by rw [List.length_cons, List.length_cons, h2], fun f hm => ?_⟩
    rcases List.mem_cons.mp hm with rfl | hm
    · exact ⟨_, t, rfl⟩
    · exact h3 f hm
theorem TupF.keeps {h h' : Heap} {v : Value} {x : Str} (T : TupF h v x) (k : ∀ b o, h.get? b = some o → o.cls = .type "tuple" → h'.get? b = some o) : TupF h' v x := by
  obtain ⟨a, o, its, n, t, r, e, ho, hc, hd, hi⟩ := T
  exact ⟨a, o, its, n, t, r, e, k a o ho hc, hc, hd, hi⟩
theorem tup_sortable {a : Addr} {vs : List Value} {k : Value → Str} (h0 : 0 < vs.length) (hp : ∀ v ∈ vs, TupF s.heap v (k v)) (hi : ∀ v ∈ vs, ∀ u ∈ vs, k v = k u → v = u) (ha : ∀ o, s.heap.get? a = some o → o.cls ≠ .type "tuple") :
    SrtO.SortableO prog w A s a vs fun v u => strLt (k v) (k u) := by
  intro h' keep
  have hp' : ∀ v ∈ vs, TupF h' v (k v) := fun v hm => (hp v hm).keeps fun b o e c => keep b o (fun z => by subst z; exact ha o e c) e
  obtain ⟨fs, h1, h2, h3⟩ := tup_firsts hp'
  refine ⟨tuples' true, fun Q E hq => ?_, tup_cmp hp' hi⟩
  refine W.kat_kind (T := .type "str") h1 (by omega) (fun f hm => ?_) (by rfl) ?_
  · obtain ⟨x, t, rfl⟩ := h3 f hm
    exact W.Looks.now
  · have e : (Value.type "str" != Value.type "tuple") = true := by first | decide +kernel | rfl | decide
    rw [e]
    exact hq
theorem swo_str (k : Value → Str) : SrtO.Swo fun v u => strLt (k v) (k u) := ⟨fun x y => strLt_asym _ _, fun x y z => strLt_tr _ _ _⟩
theorem sorted_tups {l : Addr} {vs : List Value} {k : Value → Str} {Q : Value → Shared → Prop} (hl : s.heap.IsList l vs.toArray) (hz : vs.length ≤ sizeLine) (hp : ∀ v ∈ vs, TupF s.heap v (k v)) (hi : ∀ v ∈ vs, ∀ u ∈ vs, k v = k u → v = u)
    (h : ∀ (h' : Heap) (d : Addr) (out : List Value), Asc k out → out.Perm vs → (∀ b o, s.heap.get? b = some o → h'.get? b = some o) → s.heap.objs.size ≤ d → (∃ n, h'.get? d = some { cls := .type "list", data := .seq out.toArray n }) → Q (.ref d) { s with heap := h' }) :
    wpAny (model prog w) A (call (.builtin "sorted") [.ref l]) Q E s := by
  refine SrtO.sorted_ord (swo_str k) hl hz (fun h2 h₁ a ha kk => ?_) fun out hs hb => ?_
  · refine tup_sortable (s := { s with heap := h₁ }) (by omega) (fun v hm => (hp v hm).keeps fun b o e _ => (kk b o e).2) hi fun o e => ?_
    have e' : some o = some _ := e.symm.trans ha
    cases e'
    intro c
    exact absurd (Value.type.inj c) (by decide)
  · exact h _ _ out hs hb.perm (fun b o e => sortedAll_old e) (Nat.le_succ _) (sortedAll_at s.heap vs out.toArray)
end
theorem nodupS_iff : ∀ {l : List Str}, nodupS l = true → l.Nodup
  | [], _ => List.nodup_nil
  | x :: xs, h => by
    unfold nodupS at h
    obtain ⟨h1, h2⟩ := Bool.and_eq_true_iff.mp h
    refine List.nodup_cons.mpr ⟨fun hm => ?_, nodupS_iff h2⟩
    have : xs.any (· == x) = true := List.any_eq_true.mpr ⟨x, hm, by simp⟩
    rw [this] at h1
    cases h1
theorem nodup_map_inj {α β : Type} {f : α → β} : ∀ {l : List α}, (l.map f).Nodup → ∀ x ∈ l, ∀ y ∈ l, f x = f y → x = y
  | [], _, _, hx, _, _, _ => by simp at hx
  | a :: l, h, x, hx, y, hy, e => by
    rw [List.map_cons] at h
    obtain ⟨h1, h2⟩ := List.nodup_cons.mp h
    rcases List.mem_cons.mp hx with ex | hx
    · rcases List.mem_cons.mp hy with ey | hy
      · rw [ex, ey]
      · exact absurd (List.mem_map.mpr ⟨y, hy, by rw [← e, ex]⟩) h1
    · rcases List.mem_cons.mp hy with ey | hy
      · exact absurd (List.mem_map.mpr ⟨x, hx, by rw [e, ey]⟩) h1
      · exact nodup_map_inj h2 x hx y hy e
theorem denL_all {K : W.Frag} {mg : Str → Option Value} {μ : Pl} {H : Hp} {α : Type} {g : α → V} {f : α → D} : ∀ {l : List α}, (∀ p ∈ l, Den K mg μ H (g p) (f p)) → DenL K mg μ H (l.map g) (l.map f)
  | [], _ => .nil
  | p :: l, h => .cons (h p (by simp)) (denL_all fun q hq => h q (by simp [hq]))
theorem tups_den {X : Cx} {pins : List (Addr × Obj)} {s : Shared} {σ : L2.St} {H : Hp} {μ : Pl} (I : Inv X pins σ H s) : ∀ {vs : List V} {ds : List D} {ts : List (Str × List D)} {us : List Value}, DenL X.K X.mg μ H vs ds → tupsOf ds = some ts → Vals vs us →
    ∃ P : List (Value × (Str × List D)), P.map (·.1) = us ∧ P.map (·.2) = ts ∧ ∀ p ∈ P, TupF s.heap p.1 p.2.1 ∧ Den X.K X.mg μ H (backV p.1) (.tup (.str p.2.1 :: p.2.2))
  | _, _, _, _, .nil, e, .nil => by
    obtain rfl := Option.some.inj e
    exact ⟨[], rfl, rfl, fun p hp => by simp at hp⟩
  | _, d :: ds, ts, _, .cons (v := v) h t, e, .cons (b := u) r rs => by
    cases h with
    | tup h1 h2 =>
      rename_i a ws es
      cases h2 with
      | nil => cases e
      | cons h3 h4 =>
        cases h3 with
        | str x =>
          rename_i ws' es'
          unfold tupsOf at e
          cases q : tupsOf ds with
          | none => rw [q] at e; cases e
          | some ts' =>
            rw [q] at e
            obtain rfl := Option.some.inj e
            obtain ⟨P, p1, p2, p3⟩ := tups_den I t q rs
            cases r
            obtain ⟨its, rv, ht, hz⟩ := I.tuple h1
            obtain ⟨o, ho, hc, n, hd⟩ := ht
            cases rv with
            | cons r1 r2 =>
              obtain ⟨tk, rfl⟩ := r1
              refine ⟨(.ref a, (x, es')) :: P, by simp [p1], by simp [p2], fun p hp => ?_⟩
              rcases List.mem_cons.mp hp with e' | hp
              · subst e'
                exact ⟨⟨a, o, _, n, tk, _, rfl, ho, hc, hd, rfl⟩, .tup h1 (.cons (.str x) h4)⟩
              · exact p3 p hp
        | _ => cases e
    | _ => cases e
theorem c_sorted {X : Cx} : CallR X (.builtin "sorted") (rPL X.K X.mg sortedP) := by
  intro pins s σ H xs us Q I r h
  obtain ⟨μ, S, ds, d, o, dl, e, k⟩ := h
  unfold sortedP at e
  split at e
  · split at e
    · rename_i es q
      split at e
      · rename_i h64
        obtain ⟨v, rfl, dv⟩ := den1 dl
        obtain ⟨p, vs, rfl, h1, h2⟩ := asS_den o dv q
        have hlen := h2.length
        cases q1 : strsOf es with
        | some xs =>
          rw [q1] at e
          obtain rfl := Option.some.inj e
          obtain rfl := strsOf_den h2 q1
          refine cr_sortedS pins s σ H _ us Q I r ⟨p, xs, rfl, h1, by simpa [← hlen] using h64, fun ys l hp hs hl => ?_⟩
          have ey : ys = sortK id xs := asc_uniq id (fun x _ y _ z => z) (asc_sortedS ys hs) (sortK_asc id xs) (hp.trans (sortK_perm id xs).symm)
          subst ey
          obtain ⟨st, ok, dd⟩ := new_lst o hl (strs_den (K := X.K) (mg := X.mg) (μ := μ) (H := H) (sortK id xs))
          exact k _ _ st ok dd
        | none =>
          rw [q1] at e
          dsimp only at e
          cases q2 : tupsOf es with
          | none => rw [q2] at e; cases e
          | some ts =>
            rw [q2] at e
            dsimp only at e
            split at e
            · rename_i hnd
              obtain rfl := Option.some.inj e
              obtain ⟨its, rv, hl, hz⟩ := I.list h1
              obtain ⟨P, p1, p2, p3⟩ := tups_den I h2 q2 rv
              rw [Vals.ref1 r]
              have hkey : ∀ p ∈ P, fstK s.heap p.1 = p.2.1 := fun p hp => (p3 p hp).1.key
              have hmap : its.map (fstK s.heap) = ts.map (·.1) := by
                rw [← p1, ← p2, List.map_map, List.map_map]
                exact List.map_congr_left fun p hp => hkey p hp
              have hTup : ∀ v ∈ its, TupF s.heap v (fstK s.heap v) := fun v hv => by
                rw [← p1] at hv
                obtain ⟨p, hp, rfl⟩ := List.mem_map.mp hv
                rw [hkey p hp]
                exact (p3 p hp).1
              have hinj := nodup_map_inj (f := fstK s.heap) (l := its) (by rw [hmap]; exact nodupS_iff hnd)
              have hil := rv.length
              refine sorted_tups (k := fstK s.heap) hl.isList (by rw [← hil]; exact hz) hTup hinj fun h' dd out ha hp kp hd hn => ?_
              have hout : out = (sortK (fun p => fstK s.heap p.1) P).map (·.1) := by
                rw [sortK_map (fun p : Value × (Str × List D) => p.1) (fstK s.heap) P, p1]
                exact asc_uniq _ (fun x hx y hy z => hinj x (hp.mem_iff.mp hx) y (hp.mem_iff.mp hy) z) ha (sortK_asc _ its) (hp.trans (sortK_perm _ its).symm)
              have hts : sortK (·.1) ts = (sortK (fun p => fstK s.heap p.1) P).map (·.2) := by
                rw [sortK_congr (k' := fun p => p.2.1) (fun p hp => hkey p hp), sortK_map (fun p : Value × (Str × List D) => p.2) (·.1) P, p2]
              have hden : DenL X.K X.mg μ H (out.map backV) ((sortK (·.1) ts).map fun t => .tup (.str t.1 :: t.2)) := by
                rw [hout, hts, List.map_map, List.map_map]
                exact denL_all fun p hp => (p3 p ((sortK_perm _ P).mem_iff.mp hp)).2
              have h3 : ∀ u ∈ out, ∃ a, u = Value.ref a := fun u hu => by
                obtain ⟨a, _, _, _, _, _, e, _⟩ := hTup u (hp.mem_iff.mp hu)
                exact ⟨a, e⟩
              obtain ⟨n, hn⟩ := hn
              have hfree := I.hok.fresh hd
              obtain ⟨st, ok, dn⟩ := new_lst o hfree hden
              refine ⟨.ref dd, upd H dd (.lst (out.map backV)), I.laid (t' := s.toks) kp hd ⟨?_, out, n, vals_back h3, hn⟩, rfl, k _ _ st ok dn⟩
              rw [List.length_map, hp.length_eq, ← hil]
              exact hz
            · cases e
      · cases e
    · cases e
  · cases e
end PyM
set_option Elab.async false
set_option linter.all false
set_option maxRecDepth 100000
set_option maxHeartbeats 3200000
namespace PyM
open PySem PySem.Spec PyProof.Rows L2

/-! ### len(set(xs)), xs a tuple of a few texts -/
/-- how many there are with these, each once -/
def countNew : List Str → List Str → Nat → Nat
  | _, [], m => m
  | seen, x :: r, m => if seen.any (· == x) = true then countNew seen r m else countNew (seen ++ [x]) r (m + 1)
def lenSetP (S : Store) (d : D) : Option D := match d with
  | .tup ds => if ds.length ≤ 8 then (strsOf ds).map fun xs => .int (countNew [] xs 0) else none
  | _ => none
def lenSet (ma : Env' → M D) : Env' → M D := un1 lenSetP ma
theorem countNew_le : ∀ (r seen : List Str) (m : Nat), countNew seen r m ≤ m + r.length
  | [], _, m => Nat.le_add_right _ _
  | x :: r, seen, m => by
    unfold countNew
    split
    · have := countNew_le r seen m
      simp
      omega
    · have := countNew_le r (seen ++ [x]) (m + 1)
      simp
      omega
abbrev freshSet (led : Bool) : Obj := ⟨.type "set", none, .set #[] 0 (.fresh 0 0 led), #[]⟩
section
variable {prog : Program} {w : World} {A : Around} {E : Value → Shared → Prop} {s : Shared} {R : Result → Shared → Prop}
abbrev HasS (prog : Program) (w : World) (h : Heap) (S : Addr) (seen : List Str) (m : Nat) : Prop := h.SetOf (PySem.strKind prog w) S (fun z => seen.any (· == z)) m
theorem HasS.moved {h h' : Heap} {S : Addr} {seen : List Str} {m : Nat} (x : HasS prog w h S seen m) (k : ∀ o, h.get? S = some o → h'.get? S = some o) : HasS prog w h' S seen m := by
  obtain ⟨o, es, ep, t, ho, r⟩ := x
  exact ⟨o, es, ep, t, k o ho, r⟩
/-- the turns of set.update over texts -/
theorem strTurns {I : Addr} {fp wr : List Addr} {G : Array GenState → Array GenState → Prop} {n : Nat} {P : Nat → Value → Prop} {St : Nat → Shared → Prop} (W : WalksS prog w A.in1 I fp wr G n P St) {S : Addr} (hS : S ∉ fp) {xs : List Str}
    (hn : xs.length = n) (hb : n < 1000) (hv : ∀ i v, P i v → ∃ t, v = .str (xs.getD i Str.empty) t) : ∀ (rest : List Str) (i : Nat) (seen : List Str) (m : Nat) (s : Shared), xs.drop i = rest → i ≤ n → m ≤ i → St i s → HasS prog w s.heap S seen m →
      (∀ s' seen', Moved (S :: wr) G s s' → HasS prog w s'.heap S seen' (countNew seen rest m) → R (.ok (.ret .none)) s') → codeAny (model prog w) A (.builtin "set.update.loop" ⟨[.ref S, .ref I], []⟩) R s
  | [], i, seen, m, s, hd, hi, hm, st, hset, hR => by
    have hin : i = n := by
      have := congrArg List.length hd
      simp at this
      omega
    subst hin
    have hSw : S ∉ wr := fun z => hS (W.sub _ z)
    refine codeAny_builtin PyProof.Rows.F.entry_set_update_loop ?_
    rw [Around.under_plainId PyProof.Rows.F.plain_set_update_loop _]
    show wpAny _ A.in1 (pyNext (.ref I) >>= _) _ _ s
    refine wpAny_bind (W.done s _ _ st fun s1 mv => ?_)
    show wpAny _ A.in1 (ret Value.none) _ _ s1
    exact wpAny_pure (hR s1 seen (mv.mono fun b hb => List.mem_cons_of_mem _ hb) (hset.moved fun o e => mv.heap S o hSw e))
  | x :: rest, i, seen, m, s, hd, hi, hm, st, hset, hR => by
    have hSw : S ∉ wr := fun z => hS (W.sub _ z)
    have hlt : i < n := by
      have := congrArg List.length hd
      simp at this
      omega
    have hx : xs.getD i Str.empty = x := by
      have : xs[i]? = some x := by
        have e := congrArg (·[0]?) hd
        simpa using e
      rw [List.getD_eq_getElem?_getD, this]
      rfl
    have hd' : xs.drop (i + 1) = rest := by
      have e := congrArg List.tail hd
      simpa using e
    refine codeAny_builtin PyProof.Rows.F.entry_set_update_loop ?_
    rw [Around.under_plainId PyProof.Rows.F.plain_set_update_loop _]
    show wpAny _ A.in1 (pyNext (.ref I) >>= _) _ _ s
    refine wpAny_bind (W.item i s _ _ hlt st fun v s1 hP st1 mv => ?_)
    obtain ⟨t, rfl⟩ := hv i v hP
    rw [hx]
    have hset1 : HasS prog w s1.heap S seen m := hset.moved fun o e => mv.heap S o hSw e
    show wpAny _ A.in1 (holding [Value.str x t] (setAdd S (.str x t)) >>= _) _ _ s1
    refine wpAny_bind (wpAny_holding ?_)
    unfold setAdd
    refine wpAny_holding (wpAny_bind ((PySem.strKind prog w).pyHash (k := x) (strKind_is _ _ _ _) ?_))
    refine wpAny_setAddHashed_of (knd := PySem.strKind prog w) (s := { s1 with toks := s1.toks + 1 }) (strKind_is _ _ _ _) rfl hset1 (by unfold scanBound; omega) fun h2 sb set2 => ?_
    have tail : ∀ (seen2 : List Str) (m2 : Nat), m2 ≤ i + 1 → HasS prog w h2 S seen2 m2 → countNew seen2 rest m2 = countNew seen (x :: rest) m →
        codeAny (model prog w) A (.builtin "set.update.loop" ⟨[.ref S, .ref I], []⟩) R { s1 with heap := h2, toks := s1.toks + 1 } := fun seen2 m2 hm2 hh he => by
      refine strTurns W hS hn hb hv rest (i + 1) seen2 m2 _ hd' hlt hm2 (W.frame _ s1 _ _ st1 (Nat.le_succ _) fun b hb' o e => ?_) hh fun s3 seen' mv' hs' => ?_
      · exact (sb.2 b (fun z => hS (by rw [← z]; exact hb'))).trans e
      · rw [he] at hs'
        refine hR s3 seen' (Moved.trans W.gtrans ((mv.mono fun b hb => List.mem_cons_of_mem _ hb).then_heap (Nat.le_succ _) fun b o hb' e => ?_) mv') hs'
        exact (sb.2 b (fun z => hb' (by rw [z]; exact List.mem_cons_self))).trans e
    by_cases hin : seen.any (· == x) = true
    · refine wpAny_pure ⟨plainId_quiet PyProof.Rows.F.plain_set_update_loop _, tail seen m (by omega) (SetOf_congr set2 (fun z => ?_) (if_pos hin)) ?_⟩
      · by_cases hz : z = x
        · subst hz; simp [hin]
        · simp [hz]
      · show _ = if seen.any (· == x) = true then countNew seen rest m else countNew (seen ++ [x]) rest (m + 1)
        rw [if_pos hin]
    · refine wpAny_pure ⟨plainId_quiet PyProof.Rows.F.plain_set_update_loop _, tail (seen ++ [x]) (m + 1) (by omega) (SetOf_congr set2 (fun z => ?_) (if_neg hin)) ?_⟩
      · by_cases hz : z = x
        · subst hz; simp
        · have : (x == z) = false := beq_eq_false_iff_ne.mpr fun e => hz e.symm
          simp [hz, this]
      · show _ = if seen.any (· == x) = true then countNew seen rest m else countNew (seen ++ [x]) rest (m + 1)
        rw [if_neg hin]
/-- set(t), t a tuple of texts -/
theorem set_of_texts {l : Addr} {items : Array Value} {xs : List Str} {Q : Value → Shared → Prop} (hh : A.handled = none) (hl : s.heap.IsTuple l items) (hi : StrsAre items.toList xs) (hb : xs.length < 1000)
    (h : ∀ (h' : Heap) (tk : Nat) (seen : List Str), HasS prog w h' s.heap.objs.size seen (countNew [] xs 0) → (∀ b o, b < s.heap.objs.size → s.heap.get? b = some o → h'.get? b = some o) → Q (.ref s.heap.objs.size) { s with heap := h', toks := tk }) :
    wpAny (model prog w) A (call (.type "set") [.ref l]) Q E s := by
  have C := PySem.F.called_set
  obtain ⟨c, tl, hmro⟩ := C.mro
  have hmade := C.made
  have hsub := C.sub
  refine wpAny_call (codeAny_of_tree ?_)
  show wpAny _ _ (callAny (.type "set") _) _ _ _
  refine wpAny_pure ⟨Code.quiet_builtin _ (by decide +kernel), codeAny_builtin PySem.F.entry_type_call ?_⟩
  rw [Around.under_plain (weight_type_call_type "set" [.ref l] []) rfl]
  have h1 := C.notType
  have h2 := C.canCreate
  have hct := PySem.F.typeCall_set_1 (.ref l)
  repeat (any_goals (first | assumption | wp_step))
  refine codeAny_mono (code_set_new_1 (.ref l) (E := E) (Q₁ := fun obj s₁ => ∃ led : Bool, obj = .ref s.heap.objs.size ∧ s₁ = { s with heap := s.heap.push (freshSet led) }) fun led => ⟨led, rfl, rfl⟩) fun r s₁ hr => ?_
  match r, hr with
  | .error e, hr => exact hr
  | .ok (.next), hr => exact hr.elim
  | .ok (.brk), hr => exact hr.elim
  | .ok (.cont), hr => exact hr.elim
  | .ok (.ret obj), hr =>
    obtain ⟨led, rfl, rfl⟩ := hr
    have hnew : (s.heap.push (freshSet led)).get? s.heap.objs.size = some (freshSet led) := Heap.get?_push_size _ rfl
    have hT : Shared.TypeIs { s with heap := s.heap.push (freshSet led) } (.ref s.heap.objs.size) "set" := ⟨_, hnew, rfl⟩
    have hli := C.init.lookup
    have hbi := C.init.bind (.ref s.heap.objs.size)
    repeat (any_goals (first | assumption | wp_step))
    refine codeAny_mono (codeAny_call_builtin (R := wants (fun r s₂ => r = .none ∧ ∃ h' tk seen, s₂ = { s with heap := h', toks := tk } ∧ HasS prog w h' s.heap.objs.size seen (countNew [] xs 0) ∧ (∀ b o, b < s.heap.objs.size → s.heap.get? b = some o → h'.get? b = some o)) E)
      C.init.plain PySem.F.entry_set_init (check_set_init_1 hT ?_)) fun r₂ s₂ hr₂ => ?_
    · obtain ⟨⟨ocls, odict, odata, oslots⟩, hol, hcl, nl, hdl⟩ := hl
      simp only at hcl hdl
      subst hcl hdl
      have hol' : (s.heap.push (freshSet led)).get? l = some ⟨.type "tuple", odict, .seq items nl, oslots⟩ := Heap.get?_push_of_some _ hol
      have n1 := PySem.F.sub_tuple_set
      have n2 := PySem.F.sub_tuple_frozenset
      have n3 : (Value.type "tuple" == Value.type "dict") = false := by decide
      have hlt : l < s.heap.objs.size := Heap.lt_size hol
      have ht : (s.heap.push (freshSet led)).IsTuple l items := ⟨_, hol', rfl, nl, rfl⟩
      unfold Builtin.«set.__init__» noKeywords Builtin.Frozenset.updateFrom
      generalize hPI : pyIter = PI
      wp_walk
      subst hPI
      refine wpAny_pyIter_tuple ht (wpAny_bind (wpAny_runValue ?_))
      have h3 : A.in1.in1.in1.handled = none := by simp [hh]
      have hsz1 : (s.heap.push (freshSet led)).objs.size = s.heap.objs.size + 1 := Heap.size_push ..
      have hlI : l ≠ (s.heap.push (freshSet led)).objs.size := by
        rw [hsz1]
        exact Nat.ne_of_lt (Nat.lt_succ_of_lt hlt)
      have hSf : s.heap.objs.size ∉ [(s.heap.push (freshSet led)).objs.size, l] := by
        simp only [List.mem_cons, List.not_mem_nil, or_false, not_or]
        exact ⟨by rw [hsz1]; exact Nat.ne_of_lt (Nat.lt_succ_self _), Nat.ne_of_gt hlt⟩
      have hlen : xs.length = items.size := by rw [← StrsAre.len_eq hi, Array.length_toList]
      have hv : ∀ (i : Nat) (v : Value), items[i]? = some v → ∃ t, v = .str (xs.getD i Str.empty) t := fun i v e => SS.strs_at hi i v (by rw [Array.getElem?_toList]; exact e)
      refine strTurns (Walks.tuple h3 _ l hlI items).toS hSf hlen (by omega) hv xs 0 [] 0 _ rfl (Nat.zero_le _) (Nat.le_refl _) ⟨⟨_, Heap.get?_push_size _ rfl, rfl, rfl⟩, ht.push _⟩ ?_ fun s' seen' mv hs' => ?_
      · exact SetOf_congr ((setObjOf_fresh (knd := PySem.strKind prog w) led).setOf (Heap.get?_push_of_some _ hnew) (by unfold scanBound; omega)) (fun _ => rfl) rfl
      · obtain ⟨h', g', d', tk', os'⟩ := s'
        obtain rfl : g' = s.gens := mv.gens
        obtain rfl : d' = s.drawn := mv.drawn
        obtain rfl : os' = s.os := mv.os
        show wpAny _ _ _ _ _ _
        refine wpAny_pure ?_
        show wpAny _ _ (ret Value.none) _ _ _
        refine wpAny_pure ⟨rfl, h', tk', seen', rfl, hs', fun b o hb e => mv.heap b o ?_ (Heap.get?_push_of_some _ (Heap.get?_push_of_some _ e))⟩
        simp only [List.mem_cons, List.not_mem_nil, or_false, not_or]
        exact ⟨Nat.ne_of_lt hb, by rw [hsz1]; exact Nat.ne_of_lt (Nat.lt_succ_of_lt hb)⟩
    · match r₂, hr₂ with
      | .error e, hr₂ => exact hr₂
      | .ok (.next), hr₂ => exact hr₂.elim
      | .ok (.brk), hr₂ => exact hr₂.elim
      | .ok (.cont), hr₂ => exact hr₂.elim
      | .ok (.ret r), hr₂ =>
        obtain ⟨rfl, h', tk, seen, rfl, hs', hk'⟩ := hr₂
        repeat (any_goals (first | assumption | wp_step))
        exact h _ _ seen hs' hk'
end
theorem strsAre_vals : ∀ {ys : List Str} {us : List Value}, Vals (ys.map V.str) us → StrsAre us ys
  | [], _, .nil => .nil
  | y :: ys, _, .cons r t => by
    obtain ⟨k, rfl⟩ := r
    exact .cons y k (strsAre_vals t)
theorem e_lenSet {X : Cx} {E : L2.St → XK} {a : Expr} {ma : Env' → M D} {p p2 q pos : Pos} (ha : ME X E a ma) (hm : X.mg "len" = none) (hm2 : X.mg "set" = none) (hg : Gl X "len" := by rfl) (hg2 : Gl X "set" := by rfl) (hc : X.calm = true := by rfl)
    (na : starEach [a] X.env = (false, eval a X.env) :: starEach [] X.env := by rfl) : ME X E (.Call (.Name "len" p) [.Call (.Name "set" p2) [a] [] q] [] pos) (lenSet ma) := by
  refine ⟨fun pins s σ H Q I h => ?_⟩
  obtain ⟨ρ, μ, S, he, ho, h⟩ := h
  have hA : tE X.K X.mg E ma σ H fun x H1 => ∃ (l : Addr) (xs : List Str), x = .ref l ∧ SqT X.K H1 l (xs.map V.str) ∧ xs.length ≤ 8 ∧ Q (.int (countNew [] xs 0)) H1 := by
    refine tE.run (R := fun r => PostD X.K X.mg μ H (E σ) r Q) he ho h (fun _ _ _ z => z) (fun z => z) fun x S1 hS1 h1 v H1 μ1 s1 o1 e1 d1 => ?_
    clear hS1
    unfold M.op1 at h1
    cases qq : lenSetP S1 x with
    | none => rw [qq] at h1; exact h1.elim
    | some d =>
      rw [qq] at h1
      unfold lenSetP at qq
      split at qq
      · rename_i ds
        split at qq
        · rename_i h8
          cases qs : strsOf ds with
          | none => rw [qs] at qq; cases qq
          | some xs =>
            rw [qs] at qq
            obtain rfl := Option.some.inj qq
            cases d1 with
            | tup z1 z2 =>
              have hl := z2.length
              obtain rfl := strsOf_den z2 qs
              exact ⟨_, xs, rfl, z1, by simp at hl; omega, h1 _ H1 μ1 s1 o1 (.int _)⟩
        · cases qq
      · cases qq
  refine Call_ (ld_blt I hg hm boot_len ?_)
  refine PyProof.Rows.callWith_builtin1 (PyProof.Rows.args_cons ?_ rfl) rfl rfl
  refine Call_ (ld_blt I hg2 hm2 PyProof.Rows.boot_set ?_)
  refine PyProof.Rows.callWith_type1 (PyProof.Rows.args_cons (thn (ha.run pins s σ H _ I hA) fun v s1 ⟨x, H1, I1, r1, q1⟩ => PyProof.Rows.args_nil ?_) na) na rfl
  obtain ⟨l, xs, rfl, hq, h8, q1⟩ := q1
  cases r1
  obtain ⟨its, r, pl, hz⟩ := I1.tuple hq
  refine set_of_texts (I1.ok.hd hc) pl (by simpa using strsAre_vals r) (by omega) fun h' tk seen hS hk => ?_
  refine PyProof.Rows.args_nil ?_
  obtain ⟨o, es, ep, t, hoo, hex, hd, _, _, _, hf, hn⟩ := hS
  have I2 : Inv X pins σ H1 { s1 with heap := h', toks := tk } := I1.kept fun b o e => hk b o (Heap.lt_size e) e
  have hle := countNew_le xs [] 0
  exact call_len_set hoo hex hd hf (by rw [hn]; omega) ⟨.int _, H1, I2.tok _, ⟨_, by rw [hn]⟩, q1⟩
end PyM
set_option Elab.async false
set_option linter.all false
set_option maxRecDepth 100000
set_option maxHeartbeats 3200000
namespace PyM
open PySem PySem.Spec PyProof.Rows L2

/-! ### d.update(e), both dicts -/
def updP (S : Store) (a b : D) : Option Store := match cellD S a, cellD S b with
  | some (n, kvs), some (m, more) => if n ≠ m ∧ kvs.length + more.length ≤ 100 then some (S.set n (.dct (mergeD kvs more))) else none
  | _, _ => none
def updF (S : Store) (a : D) (ds : List D) : Option (D × Store) := match ds with
  | [b] => (updP S a b).map fun S' => (.non, S')
  | _ => none
def updE (mo ma : Env' → M D) : Env' → M D := fun ρ => M.bind (mo ρ) fun o => M.bind (M.guard fun S => (cellD S o).isSome) fun _ => M.bind (ma ρ) fun e => M.opM updF o [e]
def updM (mo ma : Env' → M D) : MSt := exprM (updE mo ma)
section
variable {X : Cx} {E : L2.St → XK} {a b : Expr} {mo ma : Env' → M D} {apos cpos pos : Pos}
theorem m_update : MtR X "dict.update" (rPM X.K X.mg updF) := by
  intro pins s σ H x xs v us Q I rx rs h
  obtain ⟨μ, S, a, ds, d, S', o, da, dd, e, k⟩ := h
  unfold updF at e
  split at e
  · rename_i b
    cases q : updP S a b with
    | none => rw [q] at e; cases e
    | some S2 =>
      rw [q] at e
      injection e with e
      injection e with e1 e2
      subst e1 e2
      unfold updP at q
      split at q
      · rename_i n kvs m more q1 q2
        split at q
        · rename_i hc
          obtain rfl := Option.some.inj q
          obtain ⟨p, ws, rfl, rfl, hn, hp, h1, h2⟩ := cellD_den o da q1
          obtain ⟨w, rfl, dw⟩ := den1 dd
          obtain ⟨p2, ws2, rfl, rfl, hn2, hp2, h3, h4⟩ := cellD_den o dw q2
          have hne : p ≠ p2 := fun z => hc.1 (by
            subst z
            exact (List.getElem?_inj (List.getElem?_eq_some_iff.mp hn).1 o.nd).mp (by rw [hn, hn2]))
          cases rx
          obtain ⟨u, rfl, ru⟩ := rs.one
          cases ru
          obtain ⟨z1, hd1, vs1, r1, dd1⟩ := dk_of I.hok hp
          obtain ⟨z2, hd2, vs2, r2, dd2⟩ := dk_of I.hok hp2
          have l1 : ws.length = kvs.length := by simpa using congrArg List.length h1
          have l2 : ws2.length = more.length := by simpa using congrArg List.length h3
          have l3 := r1.length
          have l4 := r2.length
          have hml := length_mergeK ws2 ws
          refine call_meetsIn PySem.F.slot_dict_update dd1.typeIs PySem.F.entry_dict_update (PySem.F.args_dict_update_2 _ _) (meets_dict_update (mixKind X.prog X.w) p p2 hne hd2) ⟨vs1, vs2, dd1, dd2, (by rw [sizeLine_eq]; omega), fun h' dd' _ hs => ?_⟩
          have he : ∃ q, h'.get? p = some q := let ⟨q, _, _, hq, _⟩ := dd'; ⟨q, hq⟩
          obtain ⟨g1, g2⟩ := merge_den h3 h4 h1 h2
          refine ⟨.non, upd H p (.dK (mergeK ws ws2)), d_write (t' := s.toks) I (by rw [hp]; trivial) hs he (dk_new (by rw [sizeLine_eq]; omega) hd1 (KV.merge r2 r1) dd'), rfl, ?_⟩
          exact k _ _ μ (.put hn) (o.putD hn g1 g2) .non
        · cases q
      · cases q
  · cases e
theorem e_upd (ho : ME X E a mo) (hb : ME X E b ma) (hbase : attributeBase a "update" X.env (eval a X.env) = eval a X.env := by rfl)
    (hfew : ((backTo cpos (starEach [b] X.env)).all (fun x => !x.1) && (backToKw cpos (keywordEach [] X.env)).all (fun x => x.1.isSome)
      && decide (([b] : List Expr).length + ([] : List Keyword).length + (if ([] : List Keyword).isEmpty then 0 else 1) < 30)) = true := by rfl)
    (hline : (apos.endLine == cpos.line) = true := by rfl) (hs : starEach [b] X.env = (false, eval b X.env) :: starEach [] X.env := by rfl) (hplain : (backTo cpos (starEach [] X.env)).any (·.1) = false := by rfl) :
    ME X E (.Call (.Attribute a "update" apos) [b] [] cpos) (updE mo ma) := (pe_bm PySem.F.plainAttrs_dict PySem.F.slot_dict_update PySem.F.type_dict_update m_update ho (a_cons (E := E) hb a_nil hs) hbase hfew hline hs hplain).weak fun σ H Q h => by
  obtain ⟨ρ, μ, S, he, hok, h⟩ := h
  refine tE.run (R := fun r => PostD X.K X.mg μ H (E σ) r Q) he hok h (fun _ _ _ z => z) (fun z => z) fun x S1 _ h1 v H1 μ1 s1 o1 e1 d1 => ?_
  rw [guard_bind] at h1
  cases g : cellD S1 x with
  | none => rw [if_neg (by rw [g]; decide)] at h1; exact h1.elim
  | some nk =>
    rw [if_pos (by rw [g]; rfl)] at h1
    obtain ⟨n, kvs⟩ := nk
    obtain ⟨p, ws, _, rfl, hn, hp, _, _⟩ := cellD_den o1 d1 g
    refine ⟨.inr (.inr (.inl ⟨rfl, .inl ⟨ws, hp⟩⟩)), ?_⟩
    have h2 : PostD X.K X.mg μ1 H1 (E σ) (M.bind (consM ma nilM ρ) (fun ds => M.opM updF x ds) S1) Q := by
      have h1 := PostD.of s1 h1
      unfold consM nilM M.bind M.pure
      unfold M.bind at h1
      cases q : ma ρ S1 with
      | bad => rw [q] at h1; exact h1
      | exc c fs S' => rw [q] at h1; exact h1
      | ok y S2 => rw [q] at h1; exact h1
    refine tA'.run (R := fun r => PostD X.K X.mg μ1 H1 (E σ) r Q) e1 o1 h2 (fun _ _ _ z => z) (fun z => z) fun ds S2 _ h3 vs H2 μ2 s2 o2 e2 d2 => ?_
    unfold M.opM at h3
    cases q : updF S2 x ds with
    | none => rw [q] at h3; exact h3.elim
    | some r =>
      obtain ⟨d, S3⟩ := r
      rw [q] at h3
      exact ⟨μ2, S2, x, ds, d, S3, o2, d1.mono o1 s2, d2, q, fun v' H' μ' st o' hd => h3 v' H' μ' (s2.trans st) o' hd⟩
theorem s_upd (ho : ME X E a mo) (hb : ME X E b ma) (hbase : attributeBase a "update" X.env (eval a X.env) = eval a X.env := by rfl)
    (hfew : ((backTo cpos (starEach [b] X.env)).all (fun x => !x.1) && (backToKw cpos (keywordEach [] X.env)).all (fun x => x.1.isSome)
      && decide (([b] : List Expr).length + ([] : List Keyword).length + (if ([] : List Keyword).isEmpty then 0 else 1) < 30)) = true := by rfl)
    (hline : (apos.endLine == cpos.line) = true := by rfl) (hs : starEach [b] X.env = (false, eval b X.env) :: starEach [] X.env := by rfl) (hplain : (backTo cpos (starEach [] X.env)).any (·.1) = false := by rfl)
    (hsw : swapsWith (.Call (.Attribute a "update" apos) [b] [] cpos) none pos.line X.env = pure false := by rfl) : MS X E (.Expr (.Call (.Attribute a "update" apos) [b] [] cpos) pos) (updM mo ma) := s_expr (e_upd ho hb hbase hfew hline hs hplain) hsw
end
end PyM
set_option Elab.async false
set_option linter.all false
set_option maxRecDepth 100000
set_option maxHeartbeats 3200000
namespace PyM
open PySem PySem.Spec PyProof.Rows L2

/-! ### zip of an ascii text and a tuple that is not shorter -/
abbrev AscIt (h : Heap) (ia : Addr) (x : Str) (t : Tok) (k : Nat) : Prop := h.IsStrIter ia "str_ascii_iterator" x t k
section
variable {prog : Program} {w : World} {A : Around} {E : Value → Shared → Prop} {s : Shared} {zp tI tO ia ib lb : Addr} {x : Str} {t : Tok} {ka kb c : Nat} {ys : Array Value} {y u v : Value}
theorem zipXT_item {Q : Value → Shared → Prop} (D : ZipApart zp tI tO ia ib lb lb) (hZ : IsZip s.heap zp tI tO .none) (hI : IsPair s.heap tI (.ref ia) (.ref ib)) (hO : IsPair s.heap tO u v)
    (ha : AscIt s.heap ia x t ka) (hb : s.heap.IsTupleIter ib lb kb) (hl : s.heap.IsTuple lb ys) (hc : x.cps[ka]? = some c) (hy : ys[kb]? = some y)
    (hQ : ∀ h', IsZip h' zp tI tO (rawInt s.heap.objs.size) → IsPair h' tO (.str ⟨#[c]⟩ s.toks) y → AscIt h' ia x t (ka + 1) → h'.IsTupleIter ib lb (kb + 1) → IsPair h' s.heap.objs.size (.str ⟨#[c]⟩ s.toks) y → h'.objs.size = s.heap.objs.size + 1 →
      (∀ d o, d ≠ zp → d ≠ tO → d ≠ ia → d ≠ ib → s.heap.get? d = some o → h'.get? d = some o) → Q (.ref s.heap.objs.size) { s with heap := h', toks := s.toks + 1 }) :
    wpAny (model prog w) A (Builtin.«zip.__next__» ⟨[.ref zp], []⟩) (fun fin s' => ∃ r, fin = .done (.ret r) ∧ Q r s') E s := by
  show wpAny _ _ (field (.ref zp) 2 >>= _) _ _ _
  refine wpAny_bind (wpAny_field hZ rfl (x := .bool false) rfl ?_)
  show wpAny _ _ (field (.ref zp) 3 >>= _) _ _ _
  refine wpAny_bind (wpAny_field hZ rfl (x := .ref tI) rfl (wpAny_bind (wpAny_seqItems hI rfl ?_)))
  show wpAny _ _ (Builtin.SmallTypes.ownedTupleIsFree (.ref zp) >>= _) _ _ _
  refine wpAny_bind ?_
  unfold Builtin.SmallTypes.ownedTupleIsFree; refine wpAny_bind (wpAny_field hZ rfl (x := .none) rfl (wpAny_pure ?_))
  simp only [if_true]
  refine wpAny_bind (wpAny_rule (wpAny_bind (wpAny_field hZ rfl (x := .ref tO) rfl ?_)))
  refine wpAny_bind (wpAny_setField_rec hZ (by simp) fun g1 hZ1 q1 => ?_)
  replace hZ1 : IsZip g1 zp tI tO .ellipsis := hZ1
  refine wpAny_bind ?_
  simp only [List.forIn_cons, List.forIn_nil, List.zipIdx_cons, List.zipIdx_nil]
  refine wpAny_bind (wpAny_bind (wpAny_onRaise ?_))
  show wpAny _ _ (Builtin.SmallTypes.nextOf (.ref ia) >>= _) _ _ _
  refine wpAny_bind (wpAny_nextOf_ascii_item (ha.extBut q1.extBut D.i1z) hc fun g2 ha2 q2 => wpAny_pure ?_)
  have hO2 : IsPair g2 tO u v := q2.extBut _ _ D.TOi1 (q1.extBut _ _ D.TOz hO)
  refine wpAny_bind (wpAny_seqItems hO2 rfl (wpAny_bind (wpAny_updateSeq_pair hO2 fun g3 hO3 q3 => ?_)))
  replace hO3 : IsPair g3 tO (.str ⟨#[c]⟩ s.toks) v := hO3
  refine wpAny_bind (wpAny_letGo (wpAny_pure ?_))
  refine wpAny_bind (wpAny_bind (wpAny_onRaise ?_))
  show wpAny _ _ (Builtin.SmallTypes.nextOf (.ref ib) >>= _) _ _ _
  have hb3 : g3.IsTupleIter ib lb kb := ((hb.extBut q1.extBut D.i2z).extBut q2.extBut D.i12.symm).extBut q3.extBut D.TOi2.symm
  have hl3 : g3.IsTuple lb ys := ((hl.extBut q1.extBut D.l2z).extBut q2.extBut D.l2i1).extBut q3.extBut D.l2TO
  refine wpAny_bind (RZ.nextOf_tuple_item hb3 hl3 hy fun g4 hb4 q4 => wpAny_pure ?_)
  have hO4 : IsPair g4 tO (.str ⟨#[c]⟩ s.toks) v := q4.extBut _ _ D.TOi2 hO3
  refine wpAny_bind (wpAny_seqItems hO4 rfl (wpAny_bind (wpAny_updateSeq_pair hO4 fun g5 hO5 q5 => ?_)))
  replace hO5 : IsPair g5 tO (.str ⟨#[c]⟩ s.toks) y := hO5
  refine wpAny_bind (wpAny_letGo (wpAny_pure (wpAny_pure ?_)))
  refine wpAny_bind (wpAny_seqItems hO5 rfl (wpAny_bind (wpAny_newTuple ?_)))
  have hsz : g5.objs.size = s.heap.objs.size := by rw [q5.1, q4.1, q3.1, q2.1, q1.1]
  have hZ5 : IsZip g5 zp tI tO .ellipsis := q5.extBut _ _ D.TOz.symm (q4.extBut _ _ D.i2z.symm (q3.extBut _ _ D.TOz.symm (q2.extBut _ _ D.i1z.symm hZ1)))
  have keep5 : ∀ d o, d ≠ zp → d ≠ tO → d ≠ ia → d ≠ ib → s.heap.get? d = some o → g5.get? d = some o := fun d o d1 d2 d3 d4 e => q5.extBut _ _ d2 (q4.extBut _ _ d4 (q3.extBut _ _ d2 (q2.extBut _ _ d3 (q1.extBut _ _ d1 e))))
  have ha5 : AscIt g5 ia x t (ka + 1) := ((ha2.extBut q3.extBut D.TOi1.symm).extBut q4.extBut D.i12).extBut q5.extBut D.TOi1.symm
  have hb5 : g5.IsTupleIter ib lb (kb + 1) := hb4.extBut q5.extBut D.TOi2.symm
  have ltZ : zp < g5.objs.size := Heap.lt_size hZ5
  show wpAny _ _ (Builtin.SmallTypes.ownedTupleHandOut (.ref zp) (.ref g5.objs.size) >>= _) _ _ _
  refine wpAny_bind ?_
  unfold Builtin.SmallTypes.ownedTupleHandOut; have hZ6 : IsZip (g5.push { cls := .type "tuple", data := .seq #[.str ⟨#[c]⟩ s.toks, y] }) zp tI tO .ellipsis := Heap.get?_push_of_some _ hZ5
  refine wpAny_bind (wpAny_setField_rec hZ6 (by simp) fun g7 hZ7 q7 => ?_)
  replace hZ7 : IsZip g7 zp tI tO (rawInt g5.objs.size) := hZ7
  refine wpAny_setField_rec hZ7 (by simp) fun g8 hZ8 q8 => ?_
  replace hZ8 : IsZip g8 zp tI tO (rawInt g5.objs.size) := hZ8
  have up : ∀ d o, d ≠ zp → g5.get? d = some o → g8.get? d = some o := fun d o d1 e => q8.extBut _ _ d1 (q7.extBut _ _ d1 (Heap.get?_push_of_some _ e))
  have hT : IsPair g8 g5.objs.size (.str ⟨#[c]⟩ s.toks) y := q8.extBut _ _ (Nat.ne_of_gt ltZ) (q7.extBut _ _ (Nat.ne_of_gt ltZ) (Heap.get?_push_size _ rfl))
  have sz8 : g8.objs.size = g5.objs.size + 1 := by rw [q8.1, q7.1, Heap.size_push]
  rw [hsz] at hZ8 hT sz8
  refine wpAny_pure ⟨_, rfl, ?_⟩
  show Q (.ref g5.objs.size) _
  rw [hsz]
  exact hQ g8 hZ8 (up _ _ D.TOz hO5) (ha5.extBut (b := zp) (fun d o hd e => up d o hd e) D.i1z) (hb5.at fun o e => up _ o D.i2z e) hT sz8 fun d o d1 d2 d3 d4 e => up d o d1 (keep5 d o d1 d2 d3 d4 e)
theorem zipXT_stop {Q : Fin → Shared → Prop} (hh : A.handled = none) (D : ZipApart zp tI tO ia ib lb lb) (hZ : IsZip s.heap zp tI tO .none) (hI : IsPair s.heap tI (.ref ia) (.ref ib))
    (ha : AscIt s.heap ia x t ka) (hc : x.cps[ka]? = none)
    (hE : ∀ h' e, (∀ d o, d ≠ zp → d ≠ tO → d ≠ ia → d ≠ ib → s.heap.get? d = some o → h'.get? d = some o) → (∃ o, h'.get? e = some o ∧ o.cls = .type "StopIteration") → E (.ref e) { s with heap := h' }) :
    wpAny (model prog w) A (Builtin.«zip.__next__» ⟨[.ref zp], []⟩) Q E s := by
  show wpAny _ _ (field (.ref zp) 2 >>= _) _ _ _
  refine wpAny_bind (wpAny_field hZ rfl (x := .bool false) rfl ?_)
  show wpAny _ _ (field (.ref zp) 3 >>= _) _ _ _
  refine wpAny_bind (wpAny_field hZ rfl (x := .ref tI) rfl (wpAny_bind (wpAny_seqItems hI rfl ?_)))
  show wpAny _ _ (Builtin.SmallTypes.ownedTupleIsFree (.ref zp) >>= _) _ _ _
  refine wpAny_bind ?_
  unfold Builtin.SmallTypes.ownedTupleIsFree; refine wpAny_bind (wpAny_field hZ rfl (x := .none) rfl (wpAny_pure ?_))
  simp only [if_true]
  refine wpAny_bind (wpAny_rule (wpAny_bind (wpAny_field hZ rfl (x := .ref tO) rfl ?_)))
  refine wpAny_bind (wpAny_setField_rec hZ (by simp) fun g1 hZ1 q1 => ?_)
  replace hZ1 : IsZip g1 zp tI tO .ellipsis := hZ1
  refine wpAny_bind ?_
  simp only [List.forIn_cons, List.forIn_nil, List.zipIdx_cons, List.zipIdx_nil]
  refine wpAny_bind (wpAny_bind (wpAny_onRaise ?_))
  show wpAny _ _ (Builtin.SmallTypes.nextOf (.ref ia) >>= _) _ _ _
  refine wpAny_bind (wpAny_nextOf_ascii_end hh (ha.extBut q1.extBut D.i1z) hc fun g2 e q2 he => ?_)
  obtain ⟨oe, hoe, hce⟩ := he
  have hZ2 : IsZip g2 zp tI tO .ellipsis := q2 _ _ D.i1z.symm hZ1
  have hez : e ≠ zp := fun z => by
    subst z
    rw [hZ2] at hoe
    cases hoe
    simp at hce
  exact wpAny_setField_rec hZ2 (by simp) fun g3 _ q3 => hE g3 e (fun d o d1 _ d3 _ z => q3.extBut _ _ d1 (q2 _ _ d3 (q1.extBut _ _ d1 z))) ⟨oe, q3.extBut _ _ hez hoe, hce⟩
theorem nextXT_item {Q : Option Value → Shared → Prop} (D : ZipApart zp tI tO ia ib lb lb) (hZ : IsZip s.heap zp tI tO .none) (hI : IsPair s.heap tI (.ref ia) (.ref ib)) (hO : IsPair s.heap tO u v)
    (ha : AscIt s.heap ia x t ka) (hb : s.heap.IsTupleIter ib lb kb) (hl : s.heap.IsTuple lb ys) (hc : x.cps[ka]? = some c) (hy : ys[kb]? = some y)
    (hQ : ∀ h', IsZip h' zp tI tO (rawInt s.heap.objs.size) → IsPair h' tO (.str ⟨#[c]⟩ s.toks) y → AscIt h' ia x t (ka + 1) → h'.IsTupleIter ib lb (kb + 1) → IsPair h' s.heap.objs.size (.str ⟨#[c]⟩ s.toks) y → h'.objs.size = s.heap.objs.size + 1 →
      (∀ d o, d ≠ zp → d ≠ tO → d ≠ ia → d ≠ ib → s.heap.get? d = some o → h'.get? d = some o) → Q (some (.ref s.heap.objs.size)) { s with heap := h', toks := s.toks + 1 }) :
    wpAny (model prog w) A (pyNext (.ref zp)) Q E s := by
  have hT : s.TypeIs (.ref zp) "zip" := ⟨_, hZ, rfl⟩
  unfold pyNext
  exact wpAny_bind (wpAny_attempt (wpAny_callSpecial?_slot (name := Str.ofString "__next__") hT PySem.F.slot_zip_next (wpAny_call_entry PySem.F.slot_zip_next hT PySem.F.entry_zip_next
    (zipXT_item D hZ hI hO ha hb hl hc hy fun h' a1 a2 a3 a4 a5 a6 a7 => wpAny_pure (hQ h' a1 a2 a3 a4 a5 a6 a7)) (PySem.F.args_zip_next_1 _))))
theorem nextXT_stop {Q : Option Value → Shared → Prop} (hh : A.handled = none) (D : ZipApart zp tI tO ia ib lb lb) (hZ : IsZip s.heap zp tI tO .none) (hI : IsPair s.heap tI (.ref ia) (.ref ib))
    (ha : AscIt s.heap ia x t ka) (hc : x.cps[ka]? = none) (hQ : ∀ h', (∀ d o, d ≠ zp → d ≠ tO → d ≠ ia → d ≠ ib → s.heap.get? d = some o → h'.get? d = some o) → Q none { s with heap := h' }) : wpAny (model prog w) A (pyNext (.ref zp)) Q E s := by
  have hT : s.TypeIs (.ref zp) "zip" := ⟨_, hZ, rfl⟩
  unfold pyNext
  refine wpAny_bind (wpAny_attempt (wpAny_callSpecial?_slot (name := Str.ofString "__next__") hT PySem.F.slot_zip_next (wpAny_call_entry PySem.F.slot_zip_next hT PySem.F.entry_zip_next (zipXT_stop hh D hZ hI ha hc fun h' e hk he => ?_) (PySem.F.args_zip_next_1 _))))
  obtain ⟨o, ho, hcl⟩ := he
  exact wpAny_bind (wpAny_isInstance (T := "StopIteration") (b := true) ⟨o, ho, hcl⟩ isSubtype_stop (wpAny_pure (hQ _ hk)))
end
/-! the heaps on the way to the zip -/
abbrev zx1 (h : Heap) (x : Str) (t : Tok) : Heap := h.push ⟨.type "str_ascii_iterator", none, .fields #[.str x t, .int 0 0], #[]⟩
abbrev zx2 (h : Heap) (x : Str) (t : Tok) (lb : Addr) : Heap := (zx1 h x t).push ⟨.type "tuple_iterator", none, .fields #[.ref lb, .int 0 0], #[]⟩
abbrev zx3 (h : Heap) (x : Str) (t : Tok) (lb : Addr) : Heap := (zx2 h x t lb).push ⟨.type "tuple", none, .seq #[.ref h.objs.size, .ref (zx1 h x t).objs.size], #[]⟩
abbrev zx4 (h : Heap) (x : Str) (t : Tok) (lb : Addr) : Heap := (zx3 h x t lb).push ⟨.type "tuple", none, .seq #[.none, .none], #[]⟩
abbrev zx5 (h : Heap) (x : Str) (t : Tok) (lb : Addr) : Heap := (zx4 h x t lb).push ⟨.type "zip", none, .fields #[.none, .bool false, .bool false, .ref (zx2 h x t lb).objs.size, .ref (zx3 h x t lb).objs.size], #[]⟩
theorem zipXT_made (x : Str) (t : Tok) (lb : Addr) (ys : Array Value) (hx : x.cps.all (· < 128) = true) :
    Meets (Builtin.«zip.__new__» ⟨[.type "zip", .str x t, .ref lb], []⟩) (fun _ R s => s.heap.IsTuple lb ys ∧ R (.ok (.ret (.ref (zx4 s.heap x t lb).objs.size))) { s with heap := zx5 s.heap x t lb }) :=
  .of_wp fun prog w A R s h => by
    obtain ⟨hp, g, d, tk, os⟩ := s
    obtain ⟨hl, h⟩ := h
    have hsub := sub_zip
    have hL : Heap.IsTuple (Shared.heap ⟨hp.push ⟨.type "str_ascii_iterator", none, .fields #[.str x t, .int 0 0], #[]⟩, g, d, tk, os⟩) lb ys := Heap.IsTuple.push hl _
    wp_walk using wpAny_pyIter_ascii hx, wpAny_pyIter_tuple hL
    exact ⟨_, rfl, h⟩
section
variable {prog : Program} {w : World} {A : Around} {E : Value → Shared → Prop} {s : Shared}
theorem call_zipXT {x : Str} {t : Tok} {lb : Addr} {ys : Array Value} {Q : Value → Shared → Prop} (hx : x.cps.all (· < 128) = true) (hl : s.heap.IsTuple lb ys)
    (h : ∀ h', IsZip h' (s.heap.objs.size + 4) (s.heap.objs.size + 2) (s.heap.objs.size + 3) .none → IsPair h' (s.heap.objs.size + 2) (.ref s.heap.objs.size) (.ref (s.heap.objs.size + 1)) → IsPair h' (s.heap.objs.size + 3) .none .none →
      AscIt h' s.heap.objs.size x t 0 → h'.IsTupleIter (s.heap.objs.size + 1) lb 0 → h'.objs.size = s.heap.objs.size + 5 → (∀ c o, s.heap.get? c = some o → h'.get? c = some o) → Q (.ref (s.heap.objs.size + 4)) { s with heap := h' }) :
    wpAny (model prog w) A (call (.type "zip") [.str x t, .ref lb]) Q E s := by
  refine callType_new PySem.F.called_zip (by decide) (PySem.F.typeCall_zip_2 _ _) (PySem.F.newCall_zip_2 _ _) (fun obj => PySem.F.args_object_init_3 obj _ _) PySem.F.entry_zip_new (zipXT_made x t lb ys hx) ⟨hl, ?_⟩
  have z1 : (zx1 s.heap x t).objs.size = s.heap.objs.size + 1 := Heap.size_push ..
  have z2 : (zx2 s.heap x t lb).objs.size = s.heap.objs.size + 2 := by rw [Heap.size_push, z1]
  have z3 : (zx3 s.heap x t lb).objs.size = s.heap.objs.size + 3 := by rw [Heap.size_push, z2]
  have z4 : (zx4 s.heap x t lb).objs.size = s.heap.objs.size + 4 := by rw [Heap.size_push, z3]
  have z5 : (zx5 s.heap x t lb).objs.size = s.heap.objs.size + 5 := by rw [Heap.size_push, z4]
  have g5 : (zx5 s.heap x t lb).get? (zx4 s.heap x t lb).objs.size = some _ := Heap.get?_push_size _ rfl
  have g4 : (zx5 s.heap x t lb).get? (zx3 s.heap x t lb).objs.size = some _ := Heap.get?_push_of_some _ (Heap.get?_push_size _ rfl)
  have g3 : (zx5 s.heap x t lb).get? (zx2 s.heap x t lb).objs.size = some _ := Heap.get?_push_of_some _ (Heap.get?_push_of_some _ (Heap.get?_push_size _ rfl))
  have g2 : (zx5 s.heap x t lb).get? (zx1 s.heap x t).objs.size = some _ := Heap.get?_push_of_some _ (Heap.get?_push_of_some _ (Heap.get?_push_of_some _ (Heap.get?_push_size _ rfl)))
  have up : ∀ c o, s.heap.get? c = some o → (zx5 s.heap x t lb).get? c = some o := fun c o e => Heap.get?_push_of_some _ (Heap.get?_push_of_some _ (Heap.get?_push_of_some _ (Heap.get?_push_of_some _ (Heap.get?_push_of_some _ e))))
  have g1 : (zx5 s.heap x t lb).get? s.heap.objs.size = some _ := Heap.get?_push_of_some _ (Heap.get?_push_of_some _ (Heap.get?_push_of_some _ (Heap.get?_push_of_some _ (Heap.get?_push_size _ rfl))))
  show _ ∧ _
  rw [z2, z3, z4] at g5
  rw [z1, z2] at g3
  rw [z3] at g4
  rw [z1] at g2
  rw [z4]
  exact ⟨⟨_, g5, rfl⟩, h _ g5 g3 g4 ⟨_, g1, rfl, rfl⟩ ⟨_, g2, rfl, rfl⟩ z5 up⟩
end
/-- the pairs, by turns -/
def ItXT (K : W.Frag) (x : Str) (b : Addr) : It :=
  ⟨fun i H => ∃ (c : Nat) (ys : List V) (y : V), x.cps[i]? = some c ∧ SqT K H b ys ∧ ys[i]? = some y,
    fun i H v H' => ∃ T c y, v = .ref T ∧ H T = none ∧ H' = upd H T (.tup [.str ⟨#[c]⟩, y]) ∧ x.cps[i]? = some c ∧ ∀ ys, SqT K H b ys → ys[i]? = some y,
    fun i _ => x.cps[i]? = none⟩
theorem turn_XT {P : Program} {w : World} {K : W.Frag} {elts : List Expr} {kk : Nat} {tpos : Pos} {x : Str} {t : Tok} {b z TI TO i1 i2 : Addr} (D : ZipApart z TI TO i1 i2 b b) :
    Turn P w K (.Tuple elts kk tpos) (ItXT K x b) [z, TI, TO, i1, i2] z (fun i h => IsZip h z TI TO .none ∧ IsPair h TI (.ref i1) (.ref i2) ∧ (∃ u v, IsPair h TO u v) ∧ AscIt h i1 x t i ∧ h.IsTupleIter i2 b i) where
  mem := by simp
  obj := fun i h st c hc => by
    obtain ⟨hz, hTI, ⟨u, v, hTO⟩, ⟨o1, e1, _, d1⟩, ⟨o2, e2, _, d2⟩⟩ := st
    have hc' : c = z ∨ c = TI ∨ c = TO ∨ c = i1 ∨ c = i2 := by simpa using hc
    rcases hc' with q | q | q | q | q <;> rw [q]
    · exact ⟨_, hz, fun v q => nomatch q⟩
    · exact ⟨_, hTI, fun v q => nomatch q⟩
    · exact ⟨_, hTO, fun v q => nomatch q⟩
    · exact ⟨o1, e1, fun v q => by rw [d1] at q; cases q⟩
    · exact ⟨o2, e2, fun v q => by rw [d2] at q; cases q⟩
  keep := fun i h h' st k => by
    obtain ⟨hz, hTI, ⟨u, v, hTO⟩, ⟨o1, e1, c1, d1⟩, h2⟩ := st
    exact ⟨k z (by simp) _ hz, k TI (by simp) _ hTI, ⟨u, v, k TO (by simp) _ hTO⟩, ⟨o1, k i1 (by simp) _ e1, c1, d1⟩, h2.at fun o q => k i2 (by simp) o q⟩
  item := by
    intro X hP hw hK hc i pins s σ H E I hf st hg
    subst hP hw hK
    obtain ⟨hz, hTI, ⟨u0, v0, hTO⟩, h1, h2⟩ := st
    obtain ⟨c, ys, y, hcx, hqy, hy⟩ := hg
    obtain ⟨its2, rv2, p2, _⟩ := I.tuple hqy
    obtain ⟨u2, hu2, ru2⟩ := rv2.get hy
    have ltz : z < s.heap.objs.size := Heap.lt_size hz
    refine nextXT_item D hz hTI hTO h1 h2 p2 (y := u2) hcx (by simpa using hu2) fun h' z' TO' h1' h2' hT hsz hk => ?_
    refine ⟨_, rfl, wpAny_letOwnedTupleGo_zip (s := { s with heap := h', toks := s.toks + 1 }) z' fun h'' z'' sb => ?_⟩
    have hT2 : h''.get? s.heap.objs.size = some { cls := .type "tuple", data := .seq #[.str ⟨#[c]⟩ s.toks, u2] } := (sb.2 _ (Nat.ne_of_gt ltz)).trans hT
    have hnew : ObjOk X.prog X.w (upd H s.heap.objs.size (.tup [.str ⟨#[c]⟩, y])) h'' s.heap.objs.size (.tup [.str ⟨#[c]⟩, y]) := ⟨by show 2 ≤ sizeLine; decide, [.str ⟨#[c]⟩ s.toks, u2], .cons ⟨_, rfl⟩ (.cons ru2 .nil), ⟨_, hT2, rfl, _, rfl⟩⟩
    have I1 : Inv X pins σ (upd H s.heap.objs.size (.tup [.str ⟨#[c]⟩, y])) { s with heap := h'', toks := s.toks + 1 } := I.turnedNew (t' := s.toks + 1) (ch := [z, TI, TO, i1, i2])
      (fun d o hb q => (sb.2 d (fun q' => hb (by simp [q']))).trans (hk d o (fun q' => hb (by simp [q'])) (fun q' => hb (by simp [q'])) (fun q' => hb (by simp [q'])) (fun q' => hb (by simp [q'])) q)) hf (Nat.le_refl _) hnew
    refine ⟨.ref s.heap.objs.size, _, I1, rfl, ⟨_, c, y, rfl, I.hok.fresh (Nat.le_refl _), rfl, hcx, fun l hl => by rw [I.tuple_inj hl hqy]; exact hy⟩, ⟨z'', ?_, ⟨.str ⟨#[c]⟩ s.toks, u2, ?_⟩, ?_, ?_⟩, fun d hd => ?_⟩
    · exact (sb.2 _ D.TIz).trans (hk _ _ D.TIz D.TITO D.TIi1 D.TIi2 hTI)
    · exact (sb.2 _ D.TOz).trans TO'
    · obtain ⟨o1, e1, c1, d1⟩ := h1'
      exact ⟨o1, (sb.2 _ D.i1z).trans e1, c1, d1⟩
    · exact h2'.at fun o q => (sb.2 _ D.i2z).trans q
    · have hlt : d < s.heap.objs.size := by
        have e' : d = z ∨ d = TI ∨ d = TO ∨ d = i1 ∨ d = i2 := by simpa using hd
        rcases e' with q | q | q | q | q <;> rw [q]
        · exact ltz
        · exact Heap.lt_size hTI
        · exact Heap.lt_size hTO
        · obtain ⟨_, e1, _⟩ := h1; exact Heap.lt_size e1
        · obtain ⟨_, e2, _⟩ := h2; exact Heap.lt_size e2
      rw [upd_ne (Nat.ne_of_lt hlt)]
      exact (hf d hd).1
  done := by
    intro X hP hw hK hc i pins s σ H E I hf st hg
    subst hP hw hK
    obtain ⟨hz, hTI, ⟨u0, v0, hTO⟩, h1, h2⟩ := st
    exact nextXT_stop (I.ok.hd hc) D hz hTI h1 hg fun h' hk => ⟨rfl, I.turnedL (t' := s.toks) (ch := [z, TI, TO, i1, i2]) (fun d o hb q =>
      hk d o (fun q' => hb (by simp [q'])) (fun q' => hb (by simp [q'])) (fun q' => hb (by simp [q'])) (fun q' => hb (by simp [q'])) q) hf⟩
  self := fun A i s Q E st h => wpAny_pyIter_zip st.1 h
def iZipXT (K : W.Frag) (ta : TA) : TI := fun σ H R => ta σ H fun vs H1 => ∃ x b ys, vs = [.str x, .ref b] ∧ x.cps.all (· < 128) = true ∧ SqT K H1 b ys ∧ R (ItXT K x b) H1
theorem pi_zipXT {X : Cx} {e e2 : Expr} {ta : TA} {p pos tpos : Pos} {elts : List Expr} {kk : Nat} (hg : Gl X "zip") (hm : X.mg "zip" = none) (ha : PA X [e, e2] ta)
    (hs : starEach [e, e2] X.env = (false, eval e X.env) :: starEach [e2] X.env) (hpl : (backTo pos (starEach [e2] X.env)).any (·.1) = false) : PI X (.Tuple elts kk tpos) (.Call (.Name "zip" p) [e, e2] [] pos) (iZipXT X.K ta) := by
  refine ⟨fun pins s σ H R I h => ?_⟩
  refine Call_ (ld_blt I hg hm PyProof.Rows.boot_zip (PyProof.Rows.callWith_type1 (thn (ha.run pos pins s σ H _ I h) fun us s1 ⟨vs, H1, I1, r1, q1⟩ => ?_) hs hpl))
  obtain ⟨x, b, ys, rfl, hx, hq, q⟩ := q1
  obtain ⟨u1, u2, rfl, r1, r2⟩ := r1.two
  obtain ⟨t, rfl⟩ := r1
  cases r2
  obtain ⟨its2, rv2, p2, _⟩ := I1.tuple hq
  obtain ⟨o2, ho2, _⟩ := id p2
  refine call_zipXT hx (show s1.heap.IsTuple b its2.toArray from p2) fun h' hz hTI hTO h1 h2 hsz hk => wpAny_pyIter_zip hz ?_
  have I2 : Inv X pins σ H1 { s1 with heap := h' } := I1.kept (t' := s1.toks) hk
  have lt := Heap.lt_size ho2
  refine ⟨s1.heap.objs.size + 4, [s1.heap.objs.size + 4, s1.heap.objs.size + 2, s1.heap.objs.size + 3, s1.heap.objs.size, s1.heap.objs.size + 1], _, _, H1, rfl, I2, turn_XT (W.ktu_apart s1.heap.objs.size b b lt lt), ⟨hz, hTI, ⟨_, _, hTO⟩, h1, h2⟩, fun d hd => ?_, q⟩
  have hle : s1.heap.objs.size ≤ d := by
    have e' : d = s1.heap.objs.size + 4 ∨ d = s1.heap.objs.size + 2 ∨ d = s1.heap.objs.size + 3 ∨ d = s1.heap.objs.size ∨ d = s1.heap.objs.size + 1 := by simpa using hd
    rcases e' with z | z | z | z | z <;> rw [z]
    · exact Nat.le_add_right _ _
    · exact Nat.le_add_right _ _
    · exact Nat.le_add_right _ _
    · exact Nat.le_refl _
    · exact Nat.le_add_right _ _
  exact I1.fpOk hle (I1.hok.fresh hle)
/-! as a source -/
def srcZT (ds : List D) : M Src := fun S => match ds with
  | [.str x, .tup ys] => if x.cps.all (· < 128) = true ∧ x.cps.size ≤ ys.length then .ok ⟨zipD (x.cps.toList.map fun c => .str ⟨#[c]⟩) ys, fun _ => true⟩ S else .bad
  | _ => .bad
def zipTI (ms : Env' → M (List D)) : Env' → M Src := fun ρ => M.bind (ms ρ) srcZT
theorem jok_XT {K : W.Frag} {mg : Str → Option Value} {μ : Pl} {H : Hp} {S : Store} {x : Str} {b : Addr} {ys : List D} (o : Ok K mg μ H S) (h : Den K mg μ H (.ref b) (.tup ys)) (hl : x.cps.size ≤ ys.length) :
    JOk K mg (ItXT K x b) ⟨zipD (x.cps.toList.map fun c => .str ⟨#[c]⟩) ys, fun _ => true⟩ μ H := by
  intro μ' H' S' st o' _ i
  have g := h.monoD o st
  cases g with
  | tup h3 h4 =>
    rename_i ws
    refine ⟨fun hi => ?_, fun d hd => ?_⟩
    · have hi' : (zipD (x.cps.toList.map fun c => D.str ⟨#[c]⟩) ys).length ≤ i := hi
      unfold zipD at hi'
      rw [List.length_zipWith, List.length_map, Array.length_toList] at hi'
      exact Array.getElem?_eq_none (by omega)
    · obtain ⟨a, y, ex, ey, rfl⟩ := zipD_get hd
      rw [List.getElem?_map] at ex
      cases qc : x.cps.toList[i]? with
      | none => rw [qc] at ex; cases ex
      | some c =>
        rw [qc] at ex
        obtain rfl := Option.some.inj ex
        have qc' : x.cps[i]? = some c := by simpa using qc
        obtain ⟨w, hw, dw⟩ := h4.get ey
        refine ⟨⟨c, ws, w, qc', h3, hw⟩, fun z H'' q => ?_⟩
        obtain ⟨T, c', w', rfl, hT, rfl, q1, q2⟩ := q
        rw [qc'] at q1
        obtain rfl := Option.some.inj q1
        have := q2 _ h3
        rw [hw] at this
        obtain rfl := Option.some.inj this
        exact new_tup o' hT (.cons (.str _) (.cons dw .nil))
theorem i_zipT {X : Cx} {E : L2.St → XK} {a b : Expr} {ms : Env' → M (List D)} {p pos : Pos} {elts : List Expr} {kk : Nat} {tpos : Pos} (ha : MA X E [a, b] ms) (hm : X.mg "zip" = none) (hg : Gl X "zip" := by rfl) (hs : starEach [a, b] X.env = (false, eval a X.env) :: starEach [b] X.env := by rfl) (hpl : (backTo pos (starEach [b] X.env)).any (·.1) = false := by rfl) :
    MI X E (.Tuple elts kk tpos) (.Call (.Name "zip" p) [a, b] [] pos) (zipTI ms) := (pi_zipXT hg hm ha hs hpl).weak fun σ H R h => by
  obtain ⟨ρ, μ, S, he, ho, h⟩ := h
  refine tA'.run (k := srcZT) (R := fun r => PostI X.K X.mg μ H (E σ) r R) he ho h (fun _ _ _ z => z) (fun z => z) fun ds S1 _ h1 vs H1 μ1 s1 o1 e1 d1 => ?_
  unfold srcZT at h1
  split at h1
  · split at h1
    · rename_i hc
      obtain ⟨v, w, rfl, dv, dw⟩ := den2 d1
      cases dv
      cases dw with
      | tup h2 h3 => exact ⟨_, _, _, rfl, hc.1, h2, h1 _ H1 μ1 s1 o1 (jok_XT o1 (.tup h2 h3) hc.2)⟩
    · exact h1.elim
  · exact h1.elim
end PyM
set_option Elab.async false
set_option linter.all false
set_option maxRecDepth 100000
set_option maxHeartbeats 3200000
namespace PyM
open PySem PySem.Spec PyProof.Rows L2

/-! ### the law's own call -/
/-- what is wanted of a law's call -/
abbrev LawEnd (s1 : Shared) (r : Result) (s' : Shared) : Prop := r = .ok (.ret (.bool true)) ∧ OldK s1.heap s'.heap ∧ s'.os = s1.os ∧ AllBare s'.gens
section
variable {Pg : Program} {wd : World} {Kf : W.Frag} {gm gb : Str → Option Value} {k : Nat} {fa sa : Addr} {x : Str} {s1 : Shared} {us : List Value} {ns : List Int} {Fm : List D → M D}
theorem vals_of_ints : ∀ {us : List Value} {ns : List Int}, IntsAre us ns → Vals (ns.map V.int) us
  | _, _, .nil => .nil
  | _, _, .cons n t h => .cons ⟨t, rfl⟩ (vals_of_ints h)
/-- the script's object -/
abbrev scrObj (us : List Value) : Obj := { cls := .type "list", data := .seq us.toArray }
/-- from a layer in which the script alone may be told -/
theorem law_from {H : Hp} (KX : Kf.In s1.heap) (hm : s1.heap.Ns mainGlobals gm) (hb : s1.heap.Ns builtinsNs gb) (hbb : ∀ y : Str, y ≠ "__name__" → gb y = bootBuiltins y) (hlim : s1.heap.NoLimit) (hgen : s1.gens = #[])
    (hsa : s1.heap.get? sa = some (scrObj us)) (hroom : Room k callerA) (F : ∀ base : Heap, Kf.In base → base.Ns mainGlobals gm → Def Pg wd Kf gm base CX0 k x 1 Fm) (hfa : gm x = some (.ref fa))
    (hsp : spM Kf gm 1 Fm [.ref sa] H (fun v _ => v = .bl true) fun _ _ _ => False) (hok : HOk Pg wd H s1.heap) (only : ∀ b, H b ≠ none → b = sa ∧ ∃ o xs, H b = some (.frz o (.lst xs))) (hK : H sa ≠ none → Kf.lookup sa = none) :
    codeAny (model Pg wd) callerA (.call (.ref fa) ⟨[.ref sa], []⟩) (LawEnd s1) s1 := by
  have dict0 : ∀ {b : Addr} {o : Obj} {es : Array DictEntry} {ep : Nat}, s1.heap.get? b = some o → o.data = .dict es ep → H b = none := fun {b o es ep} e d => by
    cases hq : H b with
    | none => rfl
    | some u =>
      obtain ⟨rfl, _⟩ := only b (by rw [hq]; exact fun z => nomatch z)
      rw [hsa] at e
      cases e
      exact absurd (show Data.seq us.toArray _ = Data.dict es ep from d) (fun z => nomatch z)
  have nsH : ∀ {b : Addr} {m : Str → Option Value}, s1.heap.Ns b m → (hidT s1.heap H).Ns b m := fun {b m} ⟨o, es, ep, e, d, r⟩ => ⟨o, es, ep, hidT_get e (dict0 e d), d, r⟩
  have inH : Kf.In (hidT s1.heap H) := fun b o e => hidT_get (KX b o e) (by
    cases hq : H b with
    | none => rfl
    | some u =>
      obtain ⟨rfl, _⟩ := only b (by rw [hq]; exact fun z => nomatch z)
      rw [hK (by rw [hq]; exact fun z => nomatch z)] at e
      cases e)
  have hMod : Mod Kf gm (hidT s1.heap H) := ⟨inH, nsH hm, ⟨gb, nsH hb, hbb⟩, by
    obtain ⟨mc, l1, l2⟩ := hlim
    exact ⟨mc, nsH l1, l2⟩⟩
  have env : Env0 Pg wd Kf gm (hidT s1.heap H) callerA [] s1 H := ⟨rfl, hMod, fun b o e => of_hidT e, Nat.le_of_eq (hidT_size _ _), trivial, fun b z => absurd (show b ∈ ([] : List Addr) from z) (by simp), hok, .of_eq hgen⟩
  obtain ⟨f, fd, ps, F1, hmf, _, hbd⟩ := (F _ inH (nsH hm)).ex
  rw [hfa] at hmf
  cases hmf
  have hbt := hbd s1 [.ref sa] KX (by rw [List.append_nil]; exact F1.len _ _ _ _ hsp)
  rw [List.append_nil] at hbt
  refine codeAny_mono (F1.go callerA [] s1 H ⟨[.ref sa], []⟩ [.ref sa] [.ref sa] _ _ rfl hroom env hbt (.cons rfl .nil) hsp) fun r s' h => ?_
  match r, h with
  | .error e, h => exact False.elim h
  | .ok .next, h => exact False.elim h
  | .ok .brk, h => exact False.elim h
  | .ok .cont, h => exact False.elim h
  | .ok (.ret u), h =>
    obtain ⟨v, H', hos, hbare, hun, hok', hrel, hq⟩ := h
    obtain rfl : v = .bl true := hq
    obtain rfl : u = Value.bool true := hrel
    refine ⟨rfl, OldK.of_keep fun b o e => ?_, hos, hbare⟩
    cases hq : H b with
    | none => exact hun.keep b o e hq (by intro z; exact absurd (show b ∈ ([] : List Addr) from z) (by simp)) (by simp)
    | some u =>
      obtain ⟨_, ob, xs, z⟩ := only b (by rw [hq]; exact fun z => nomatch z)
      obtain ⟨e1, _⟩ := hok b _ z
      obtain ⟨e2, _⟩ := hok' b _ (hun.frzs b ob _ z)
      rw [e] at e1
      cases e1
      exact e2
/-- the mirror's law -/
theorem law_mirror (KX : Kf.In s1.heap) (hm : s1.heap.Ns mainGlobals gm) (hb : s1.heap.Ns builtinsNs gb) (hbb : ∀ y : Str, y ≠ "__name__" → gb y = bootBuiltins y) (hlim : s1.heap.NoLimit) (hgen : s1.gens = #[])
    (hsa : s1.heap.get? sa = some (scrObj us)) (hi : IntsAre us ns) (hl : ns.length ≤ sizeLine) (hroom : Room k callerA) (F : ∀ base : Heap, Kf.In base → base.Ns mainGlobals gm → Def Pg wd Kf gm base CX0 k x 1 Fm) (hfa : gm x = some (.ref fa))
    (plain : ∃ S', Fm [.scr (ns.map .int)] [] = .ok (.bl true) S') : codeAny (model Pg wd) callerA (.call (.ref fa) ⟨[.ref sa], []⟩) (LawEnd s1) s1 := by
  have rv := vals_of_ints hi
  have lenU := hi.length
  have hz : ∀ (H : Hp) (l : List Int), DenL Kf gm ⟨[], []⟩ H (l.map V.int) (l.map D.int) := fun H l => by
    induction l with
    | nil => exact .nil
    | cons n l ih => exact .cons (.int n) ih
  have hsp : ∀ H : Hp, ScrAt Kf H sa (ns.map V.int) → spM Kf gm 1 Fm [.ref sa] H (fun v _ => v = .bl true) fun _ _ _ => False := fun H hs => by
    obtain ⟨S', e⟩ := plain
    refine ⟨rfl, [.scr (ns.map .int)], ⟨[], []⟩, [], .cons (.scr hs (hz H ns)) .nil, ⟨rfl, List.nodup_nil, fun a ha => by simp at ha, fun n a c ha => by simp at ha⟩, ?_⟩
    rw [e]
    intro v H' μ' _ _ dv
    cases dv
    rfl
  cases hk : Kf.lookup sa with
  | some o =>
    have e := KX sa o hk
    rw [hsa] at e
    cases e
    exact law_from (H := fun _ => none) KX hm hb hbb hlim hgen hsa hroom F hfa (hsp _ (.inr ⟨_, us.toArray, _, hk, rfl, rfl, rfl, by rw [List.size_toArray, lenU]; exact hl, by simpa using rv⟩)) (fun b u z => nomatch (show (none : Option HO) = some u from z)) (fun b z => absurd rfl z) fun z => absurd rfl z
  | none =>
    let H : Hp := fun b => if b = sa then some (.frz (scrObj us) (.lst (ns.map V.int))) else none
    have hH : H sa = some (.frz (scrObj us) (.lst (ns.map V.int))) := if_pos rfl
    have hN : ∀ b, b ≠ sa → H b = none := fun b z => if_neg z
    refine law_from (H := H) KX hm hb hbb hlim hgen hsa hroom F hfa (hsp H (.inl ⟨_, hH⟩)) (fun b u z => ?_) (fun b z => ?_) fun _ => hk
    · by_cases hbs : b = sa
      · subst hbs
        rw [hH] at z
        obtain rfl := Option.some.inj z
        exact ⟨hsa, by rw [List.length_map]; exact hl, us, _, rv, hsa⟩
      · rw [hN b hbs] at z
        cases z
    · by_cases hbs : b = sa
      · exact ⟨hbs, _, _, by rw [hbs]; exact hH⟩
      · exact absurd (hN b hbs) z
end
/-- the end of a law's walk: what k_head leaves -/
theorem walk_mirror {l : W.OpenLaw} {n k : Nat} {q : Program} {loose : List Str} {XP : (Str → Option Value) → Heap → Prop} {YP : World → Heap → Prop} {d : DefRec} {K : Params → W.Frag} {Fm : List D → M D}
    (hn : l.most = some n) (hn2 : n ≤ sizeLine) (hdf : d.params.defaults = []) (hr : Room k callerA) (hY : ∀ (w : World) (h : Heap), YP w h → (K w.params).In h)
    (F : ∀ (w : World) (mg : Str → Option Value) (h : Heap), (K w.params).In h → h.Ns mainGlobals mg → ∀ base : Heap, (K w.params).In base → base.Ns mainGlobals mg → Def l.prog w (K w.params) mg base CX0 k d.name 1 Fm)
    (plain : ∀ ns : List Int, ns.length ≤ n → ∃ S', Fm [.scr (ns.map .int)] [] = .ok (.bl true) S') : W.WalkO q loose XP YP l.row.toRowW d [] (fun f vs => PySem.call f vs) := by
  refine Att.attach_call hn hdf fun w s0 s1 mg mb fa o pm cd doc a vs ns G Y ho hd hcd hmg hobj hints hlen hg => ?_
  have KX := hY w _ Y
  exact law_mirror KX G.T.g G.T.b G.T.builtins G.T.nolimit hg hobj hints (Nat.le_trans hlen hn2) hr (F w mg _ KX G.T.g) hmg (plain ns hlen)
end PyM
set_option Elab.async false
set_option linter.all false
set_option maxRecDepth 100000
set_option maxHeartbeats 3200000
namespace PyM
open PySem PySem.Spec PyProof.Rows L2

/-! ### exceptions that are raised -/
/-- an expression that makes an exception of the class c, its fields by m -/
structure MMk (X : Cx) (E : L2.St → XK) (e : Expr) (c : Str) (m : Env' → M (List (Str × D))) : Prop where
  ex : ∃ t, PMk X e t ∧ ∀ σ H Q ρ μ S, EnvOk X.K X.mg μ H σ ρ → Ok X.K X.mg μ H S → (match m ρ S with
    | .ok fs S' => ∀ cls d H' μ', Step μ μ' H H' → Ok X.K X.mg μ' H' S' → ExcIs X.K X.mg μ' H' cls d c fs → Q cls d H'
    | .exc c' fs S' => XP X.K X.mg μ H (E σ) c' fs S'
    | .bad => False) → t σ H Q
def raiseM (c : Str) (m : Env' → M (List (Str × D))) : MSt := fun ρ S => SR.of (m ρ S) ρ fun fs S' => .exc ρ c fs S'
abbrev WishOf (E : L2.St → XK) : WX := fun cls d σ H => E σ cls d H
/-- a class of exceptions that says nothing of its own making -/
structure Cls0 (K : W.Frag) (mg : Str → Option Value) (x : Str) : Prop where
  ex : ∃ C, mg x = some (.ref C) ∧ W.excIn K C [.type "ValueError", .type "Exception", .type "BaseException", .type "object"] "ValueError.__new__" = true ∧ W.keepIn K (.ref C) = true ∧
    W.subIn K (.ref C) (.type "BaseException") = some true ∧ W.typeIn K (.ref C) = some (.type "type")
section
variable {X : Cx} {E : L2.St → XK} {e : Expr} {c x : Str} {m : Env' → M (List (Str × D))} {p pos : Pos}
theorem s_raise (hc : X.calm = true) (tk : Takes X (WishOf E)) (h : MMk X E e c m) : MS X E (.Raise (some e) none pos) (raiseM c m) := by
  obtain ⟨t, h1, h2⟩ := h.ex
  refine (ps_raise (W := WishOf E) hc tk h1).weak fun D σ H q => ?_
  obtain ⟨ρ, μ, S, hE, hO, q⟩ := q
  refine h2 σ H _ ρ μ S hE hO ?_
  unfold raiseM at q
  cases r : m ρ S with
  | ok fs S' =>
    rw [r] at q
    exact fun cls d H' μ' st o' hx => q σ H' μ' st o' (hE.mono hO st) cls d hx
  | exc c' fs S' =>
    rw [r] at q
    exact fun cls d H' μ' st o' hx => q σ H' μ' st o' (hE.mono hO st) cls d hx
  | bad =>
    rw [r] at q
    exact q
/-- X() -/
theorem mk_0 (F : Cls0 X.K X.mg x) (hg : Gl X x := by rfl) (hdb : (x == ("__debug__" : Str)) = false := by decide) : MMk X E (.Call (.Name x p) [] [] pos) x (fun _ => M.pure []) := by
  obtain ⟨C, gC, xC, kC, sC, tC⟩ := F.ex
  refine ⟨fun _ H Q => Q (.ref C) none H, ?_, fun σ H Q ρ μ S hE hO h => h (.ref C) none H μ .refl hO ⟨C, gC, rfl, .inl ⟨rfl, rfl⟩⟩⟩
  intro pins s σ H Q I h
  refine wpAny_Call_Name_kw (ld_glob I hg gC (W.callWith_K0 I.kIn kC ?_) hdb)
  show wpAny _ _ (call (.ref C) []) _ _ _
  obtain ⟨bm, N, nm, qn, bs, hdct, sn, sub, ab, col, dd, k0, k1, k2, k3, k5, mN, hC, hN, hni, T⟩ := exc_obj I.kIn xC
  refine wpAny_call_exc_subT PySem.F.excBase_ValueError T hC hN hni (fun h' e hm => ?_) (Nat.zero_le _)
  exact mk_of I hm (raises_own sC tC) h (I.hok.gone hm.new)
/-- what is never reached -/
def badS : MSt := fun _ _ => .bad
theorem s_bad {st : Stmt} : MS X E st badS := ⟨fun pins s σ H D I h => by
  obtain ⟨_, _, _, _, _, h⟩ := h
  exact h.elim⟩
theorem s_bads {st : List Stmt} : MSs X E st badS := ⟨fun pins s σ H D I h => by
  obtain ⟨_, _, _, _, _, h⟩ := h
  exact h.elim⟩
end
end PyM
set_option Elab.async false
set_option linter.all false
set_option maxRecDepth 100000
set_option maxHeartbeats 3200000
namespace PyM
open PySem PySem.Spec PyProof.Rows L2

/-! ### try: with clauses, each with a name or without -/
abbrev Clause := Value × Option Nat × (Addr → Value → Option Addr → TS)
def endI (D : Ends) : Option Nat → Ends
  | none => D
  | some i => { nx := fun σ H => D.nx (σ.set i none) H, rt := D.rt, bk := fun σ H => D.bk (σ.set i none) H, ct := fun σ H => D.ct (σ.set i none) H }
def setI (a : Addr) (σ : L2.St) : Option Nat → L2.St
  | none => σ
  | some i => σ.set i (some (.ref a))
/-- what the clauses wish of an exception of the body -/
def wCl (K : W.Frag) (Wo : WX) (D : Ends) : List Clause → WX
  | [] => Wo
  | (cv, i, ts) :: r => fun cls d σ H => ∃ b, W.exmOne K cls cv = some b ∧ (b = true → ∀ a, H a = none → ts a cls d (endI D i) (setI a σ i) H) ∧ (b = false → wCl K Wo D r cls d σ H)
inductive ClOk (X : Cx) : List ExceptHandler → List Clause → Prop
  | nil : ClOk X [] []
  | plain {x : Str} {cv : Value} {ts : Addr → Value → Option Addr → TS} {st0 : Stmt} {sts : List Stmt} {q q' : Pos} {hl : List ExceptHandler} {l : List Clause} : Names X x cv →
      (∀ (a : Addr) (ob : Obj) (cls : Value) (d : Option Addr) (pins : List (Addr × Obj)), Zc cls d ob → (∃ vs, ob.data = .fields vs) → PSs (X.suite a ((a, ob) :: pins)) (st0 :: sts) (ts a cls d)) → ClOk X hl l →
      ClOk X (.ExceptHandler (some (.Name x q)) none (st0 :: sts) q' :: hl) ((cv, none, ts) :: l)
  | named {x n : Str} {i : Nat} {cv : Value} {ts : Addr → Value → Option Addr → TS} {st0 : Stmt} {sts : List Stmt} {q q' : Pos} {hl : List ExceptHandler} {l : List Clause} : X.N[i]? = some n → X.env.kindOf n = some .local → Names X x cv →
      (∀ (a : Addr) (ob : Obj) (cls : Value) (d : Option Addr) (pins : List (Addr × Obj)), Zc cls d ob → (∃ vs, ob.data = .fields vs) → PSs (X.suite a ((a, ob) :: pins)) (st0 :: sts) (ts a cls d)) → ClOk X hl l →
      ClOk X (.ExceptHandler (some (.Name x q)) (some n) (st0 :: sts) q' :: hl) ((cv, some i, ts) :: l)
section
variable {X : Cx} {body : List Stmt} {h0 : ExceptHandler} {hl : List ExceptHandler} {l : List Clause} {pos : Pos} {tb : WX → TS} {Wo : WX}
theorem ps_try_all (stk : X.stack = X.env :: X.outer) (fr : X.env.frame = some X.env.locals) (nd : X.N.Nodup) (out : Takes X Wo)
    (inn : ∀ (Wi : WX) (pins : List (Addr × Obj)) (xe : Value → Shared → Prop), Takes (X.tr pins xe) Wi → PassesOwn (model X.prog X.w) X.A X.env xe → PSs (X.tr pins xe) body (tb Wi))
    (cl : ClOk X (h0 :: hl) l) : PS X (.Try body (h0 :: hl) [] [] pos) (fun D σ H => tb (wCl X.K Wo D l) D σ H) := by
  refine ⟨fun pins s σ H D Iv red => ?_⟩
  have xok := Iv.ok
  have frames : X.A.frames = some (X.env :: X.outer) := by rw [xok.frames, stk]
  have backP : ∀ (xe : Value → Shared → Prop) (fl : Flow) (t1 : Shared), SP (X.tr (X.pn ++ pins) xe) [] D fl t1 → (match fl with
      | .next => SP X pins D .next t1
      | f => SP X pins D f t1) := fun xe fl t1 sp => by
    cases fl with
    | next =>
      obtain ⟨σ1, H1, J1, w1⟩ := sp
      exact ⟨σ1, H1, J1.ofTry xok, w1⟩
    | brk =>
      obtain ⟨σ1, H1, J1, w1⟩ := sp
      exact ⟨σ1, H1, J1.ofTry xok, w1⟩
    | cont =>
      obtain ⟨σ1, H1, J1, w1⟩ := sp
      exact ⟨σ1, H1, J1.ofTry xok, w1⟩
    | ret u =>
      obtain ⟨v1, σ1, H1, J1, r1, w1⟩ := sp
      exact ⟨v1, σ1, H1, J1.ofTry xok, r1, w1⟩
  refine wpAny_Try_except (wpAny_mono ((inn (wCl X.K Wo D l) (X.pn ++ pins)
    (fun ev t1 => wpAny (model X.prog X.w) X.A (noteFrame ev X.env) (fun _ t2 => wpAny (model X.prog X.w) X.A (setFlight ev none) (fun _ t3 => wpAny (model X.prog X.w) X.A (handleBy ev X.env (h0 :: hl)) (SP X pins D) X.xe t3) X.xe t2) X.xe t1)
    (fun ev t1 air => ?_) PassesOwn.looking).run [] s σ H D (Iv.toTry _) red) (fun fl t1 sp => ?_) (fun _ _ z => z))
  · -- an exception of the body
    obtain ⟨a, G, tI, pins1, σ1, H1, cls, d, rfl, J0, gk, gu, gs, gn, go, gb, want⟩ := air
    have J : Inv X pins σ1 H1 tI := J0.ofTry xok
    have gs : Sky G (X.env :: X.outer) a (Zc cls d) X.env.locals t1.heap := by
      rw [← stk]
      exact gs
    show wpAny (model X.prog X.w) X.A (noteFrame (.ref a) X.env) _ _ _
    refine Sky.land Zc.steady frames fr gs fun hA flA upA => ?_
    have JA : Inv X pins σ1 H1 { t1 with heap := hA } := J.landed gk flA.1 (gu.trans upA) go gb
    obtain ⟨obA, vsA, atA, zA, dA⟩ := flA.there
    have outF : a ∉ frs (X.env :: X.outer) := fun hm => by
      obtain ⟨_, ob2, e2, nf⟩ := flA.2.2.1.mem hm
      rw [atA] at e2
      cases e2
      exact nf _ dA
    have outL : a ≠ X.env.locals := fun z => outF (List.mem_filterMap.mpr ⟨X.env, by simp, by rw [fr, z]⟩)
    have outX : a ∉ X.fs := fun hm => by
      obtain ⟨en, hen, qn⟩ := List.mem_filterMap.mp hm
      exact outF (List.mem_filterMap.mpr ⟨en, by simp [hen], qn⟩)
    have SA := JA.suite atA dA gn outL outX
    have isC : PySem.W.Looks (model X.prog X.w) hA (typeOf (.ref a)) cls := fun _ _ _ _ k w => wpAny_typeOf_ref (k _ _ atA) (by
      rw [zA.1]
      exact w)
    have go : ∀ {hl1 : List ExceptHandler} {l1 : List Clause}, ClOk X hl1 l1 → wCl X.K Wo D l1 cls d σ1 H1 → wpAny (model X.prog X.w) X.A (handleBy (.ref a) X.env hl1) (SP X pins D) X.xe { t1 with heap := hA } := by
      intro hl1 l1 c1
      have named : ∀ {x : Str} {cv : Value} {q : Pos} {Q : Value → Shared → Prop} {E1 : Value → Shared → Prop}, Names X x cv → Q cv { t1 with heap := hA } → wpAny (model X.prog X.w) (X.A.mark (some (.ref a))) (eval (.Name x q) X.env) Q E1 { t1 with heap := hA } := fun nm w => by
        obtain ⟨g1, g2, g3 | ⟨g3, g4, g5⟩⟩ := nm
        · exact ld_glob (X := X.suite a ((a, obA) :: (X.pn ++ pins))) SA g1 g3 w g2
        · exact ld_blt (X := X.suite a ((a, obA) :: (X.pn ++ pins))) SA g1 g3 g4 w g5 g2
      induction c1 with
      | nil =>
        intro w
        refine wpAny_handleBy_nil ?_
        obtain ⟨_, _, _, ob, vs, T, _, _, atO, _, dO, one, _⟩ := id flA
        have up : wpAny (model X.prog X.w) X.A (setFlight (.ref a) X.env.frame) (fun _ t4 => wpAny (model X.prog X.w) X.A (throw (.ref a) : Sem Flow) (SP X pins D) X.xe t4) X.xe { t1 with heap := hA } := by
          rw [fr]
          exact HandSPX.setFlight_upZ flA fun hB held upB => wpAny_throw (out _ _ ⟨a, G, tI, pins, σ1, H1, cls, d, rfl, J, gk, (gu.trans upA).trans upB, .inr (.inr (by
            rw [stk]
            exact held)), gn, go, gb, w⟩)
        unfold PySem.passOn
        refine wpAny_bind (wpAny_field atO dO one ?_)
        rw [if_neg (by simp)]
        first
          | exact wpAny_bind up
          | exact wpAny_bind (wpAny_pure (wpAny_bind up))
      | plain nm su r ih =>
        intro w
        obtain ⟨b, hb, yes, no⟩ := w
        refine wpAny_handleBy_cons (codeAny_handlers_test (named nm ((PySem.W.exm_one (M := model X.prog X.w) JA.kIn isC hb).here ?_))) (fun z => by cases z)
        cases b with
        | false => exact ih (no rfl)
        | true =>
          refine codeAny_handlers_suite (HandSPX.lands_againZ flA fun hB flB upB => ?_)
          obtain ⟨obB, vsB, atB, zB, dB⟩ := flB.there
          have JB : Inv X pins σ1 H1 { t1 with heap := hB } := J.landed gk flB.1 ((gu.trans upA).trans upB) go gb
          have SB := JB.suite atB dB gn outL outX
          refine wpAny_mono ((su a obB cls d (X.pn ++ pins) zB ⟨_, dB⟩).run [] _ _ H1 _ SB (yes rfl a gn)) (fun fl t5 sp => ?_) (fun _ _ z => z.elim)
          cases fl with
          | ret u =>
            obtain ⟨v5, σ5, H5, S5, r5, w5⟩ := sp
            exact ⟨v5, σ5, H5, S5.unsuite xok, r5, w5⟩
          | next =>
            obtain ⟨σ5, H5, S5, w5⟩ := sp
            exact ⟨σ5, H5, S5.unsuite xok, w5⟩
          | brk =>
            obtain ⟨σ5, H5, S5, w5⟩ := sp
            exact ⟨σ5, H5, S5.unsuite xok, w5⟩
          | cont =>
            obtain ⟨σ5, H5, S5, w5⟩ := sp
            exact ⟨σ5, H5, S5.unsuite xok, w5⟩
      | named ni nl nm su r ih =>
        intro w
        obtain ⟨b, hb, yes, no⟩ := w
        refine wpAny_handleBy_cons (codeAny_handlers_test (named nm ((PySem.W.exm_one (M := model X.prog X.w) JA.kIn isC hb).here ?_))) (fun z => by cases z)
        cases b with
        | false => exact ih (no rfl)
        | true =>
          refine codeAny_handlers_suite_as (HandSPX.lands_againZ flA fun hB flB upB => ?_)
          obtain ⟨obB, vsB, atB, zB, dB⟩ := flB.there
          have JB : Inv X pins σ1 H1 { t1 with heap := hB } := J.landed gk flB.1 ((gu.trans upA).trans upB) go gb
          have SB := JB.suite atB dB gn outL outX
          refine store_ok (X := X.suite a ((a, obB) :: (X.pn ++ pins))) (v := .ref a) SB nd ni (.inl nl) rfl (fun t4 S4 => ?_) (.inr nl)
          refine wpAny_mono ((su a obB cls d (X.pn ++ pins) zB ⟨_, dB⟩).run [] t4 _ H1 _ S4 (yes rfl a gn)) (fun fl t5 sp => ?_) (fun _ _ z => z.elim)
          cases fl with
          | ret u =>
            obtain ⟨v5, σ5, H5, S5, r5, w5⟩ := sp
            exact gone_ok (S5.unsuite xok) nd ni nl fun t6 S6 => ⟨v5, _, H5, S6, r5, w5⟩
          | next =>
            obtain ⟨σ5, H5, S5, w5⟩ := sp
            exact gone_ok (S5.unsuite xok) nd ni nl fun t6 S6 => ⟨_, H5, S6, w5⟩
          | brk =>
            obtain ⟨σ5, H5, S5, w5⟩ := sp
            exact gone_ok (S5.unsuite xok) nd ni nl fun t6 S6 => ⟨_, H5, S6, w5⟩
          | cont =>
            obtain ⟨σ5, H5, S5, w5⟩ := sp
            exact gone_ok (S5.unsuite xok) nd ni nl fun t6 S6 => ⟨_, H5, S6, w5⟩
    exact go cl want
  · have := backP _ fl t1 sp
    cases fl with
    | next => exact wpAny_execs_nil this
    | brk => exact this
    | cont => exact this
    | ret u => exact this
end
end PyM
set_option Elab.async false
set_option linter.all false
set_option maxRecDepth 100000
set_option maxHeartbeats 3200000
namespace PyM
open PySem PySem.Spec PyProof.Rows L2

/-! ### try, in the mirror -/
/-- a clause: the class, the slot of its name, the suite (by where the exception and its dict stand, its class, its fields) -/
structure Hd where
  h : Str
  i : Option Nat
  m : Nat → Nat → Str → List Str → List D → MSt
def noExc : SR → SR
  | .exc _ _ _ _ => .bad
  | r => r
def wipeR (i : Nat) : SR → SR
  | .nx ρ S => .nx (ρ.set i none) S
  | .bk ρ S => .bk (ρ.set i none) S
  | .ct ρ S => .ct (ρ.set i none) S
  | r => r
def runH (h : Hd) (a dx : Nat) (ρ : Env') (c : Str) (fs : List (Str × D)) (S : Store) : SR := match h.i with
  | none => noExc (h.m a dx c (fs.map (·.1)) (fs.map (·.2)) ρ S)
  | some i => wipeR i (noExc (h.m a dx c (fs.map (·.1)) (fs.map (·.2)) (ρ.set i (some (.exo a dx c (fs.map (·.1)) (fs.map (·.2))))) S))
def catchM (sub : Str → Str → Option Bool) : List Hd → Env' → Str → List (Str × D) → Store → SR
  | [], ρ, c, fs, S => .exc ρ c fs S
  | h :: r, ρ, c, fs, S => match sub c h.h with
    | some true => runH h 0 0 ρ c fs S
    | some false => catchM sub r ρ c fs S
    | none => .bad
def tryM (sub : Str → Str → Option Bool) (mb : MSt) (hds : List Hd) : MSt := fun ρ S => match mb ρ S with
  | .exc ρ' c fs S' => catchM sub hds ρ' c fs S'
  | r => r
/-- which class an except clause catches -/
def Subs (K : W.Frag) (mg : Str → Option Value) (sub : Str → Str → Option Bool) : Prop := ∀ c h b C Hc, sub c h = some b → mg c = some (.ref C) → mg h = some (.ref Hc) → W.exmOne K (.ref C) (.ref Hc) = some b
/-- no suite tells where the exception stands -/
def Hd.Par (h : Hd) : Prop := ∀ a dx ρ c fs S, runH h a dx ρ c fs S = runH h 0 0 ρ c fs S
/-- what is known of the exception in a suite -/
def ExK (mg : Str → Option Value) (cls : Value) (d : Option Addr) (c : Str) (dx : Nat) (fn : List Str) (ds : List D) : Prop := (∃ C, mg c = some (.ref C) ∧ cls = .ref C) ∧ ((d = some dx) ∨ (d = none ∧ fn = [] ∧ ds = []))
inductive HdOk (X : Cx) : List ExceptHandler → List Hd → List Clause → Prop
  | nil : HdOk X [] [] []
  | plain {x : Str} {Hc : Addr} {m : Nat → Nat → Str → List Str → List D → MSt} {st0 : Stmt} {sts : List Stmt} {q q' : Pos} {hl : List ExceptHandler} {hds : List Hd} {l : List Clause} : X.mg x = some (.ref Hc) → Gl X x → (x == ("__debug__" : Str)) = false → Hd.Par ⟨x, none, m⟩ →
      (∀ (a : Addr) (ob : Obj) (cls : Value) (d : Option Addr) (pins : List (Addr × Obj)) (c : Str) (dx : Nat) (fn : List Str) (ds : List D), Zc cls d ob → (∃ vs, ob.data = .fields vs) → ExK X.mg cls d c dx fn ds → MSs (X.suite a ((a, ob) :: pins)) EB (st0 :: sts) (m a dx c fn ds)) → HdOk X hl hds l →
      HdOk X (.ExceptHandler (some (.Name x q)) none (st0 :: sts) q' :: hl) (⟨x, none, m⟩ :: hds) ((.ref Hc, none, fun a cls d D σ H => ∃ c dx fn ds, ExK X.mg cls d c dx fn ds ∧ tS X.K X.mg EB (m a dx c fn ds) D σ H) :: l)
  | named {x n : Str} {i : Nat} {Hc : Addr} {m : Nat → Nat → Str → List Str → List D → MSt} {st0 : Stmt} {sts : List Stmt} {q q' : Pos} {hl : List ExceptHandler} {hds : List Hd} {l : List Clause} : X.N[i]? = some n → X.env.kindOf n = some .local → X.mg x = some (.ref Hc) → Gl X x → (x == ("__debug__" : Str)) = false → Hd.Par ⟨x, some i, m⟩ →
      (∀ (a : Addr) (ob : Obj) (cls : Value) (d : Option Addr) (pins : List (Addr × Obj)) (c : Str) (dx : Nat) (fn : List Str) (ds : List D), Zc cls d ob → (∃ vs, ob.data = .fields vs) → ExK X.mg cls d c dx fn ds → MSs (X.suite a ((a, ob) :: pins)) EB (st0 :: sts) (m a dx c fn ds)) → HdOk X hl hds l →
      HdOk X (.ExceptHandler (some (.Name x q)) (some n) (st0 :: sts) q' :: hl) (⟨x, some i, m⟩ :: hds) ((.ref Hc, some i, fun a cls d D σ H => ∃ c dx fn ds, ExK X.mg cls d c dx fn ds ∧ tS X.K X.mg EB (m a dx c fn ds) D σ H) :: l)
theorem HdOk.cl {X : Cx} {hl : List ExceptHandler} {hds : List Hd} {l : List Clause} (h : HdOk X hl hds l) : ClOk X hl l := by
  induction h with
  | nil => exact .nil
  | plain hm hg hd hp su r ih =>
    refine .plain ⟨hg, hd, .inl hm⟩ (fun a ob cls d pins z f => ⟨fun pn s σ H D I w => ?_⟩) ih
    obtain ⟨c, dx, fn, ds, k, w⟩ := w
    exact (su a ob cls d pins c dx fn ds z f k).run pn s σ H D I w
  | named hi hn hm hg hd hp su r ih =>
    refine .named hi hn ⟨hg, hd, .inl hm⟩ (fun a ob cls d pins z f => ⟨fun pn s σ H D I w => ?_⟩) ih
    obtain ⟨c, dx, fn, ds, k, w⟩ := w
    exact (su a ob cls d pins c dx fn ds z f k).run pn s σ H D I w
section
variable {K : W.Frag} {mg : Str → Option Value} {μ : Pl} {H : Hp} {E : L2.St → XK} {W : Ends}
theorem post_noExc {r : SR} (h : PostS K mg μ H E (noExc r) W) : PostS K mg μ H EB r W := by
  cases r <;> first | exact h | exact h.elim
theorem env_wipe {σ : L2.St} {ρ : Env'} (h : EnvOk K mg μ H σ ρ) (i : Nat) : EnvOk K mg μ H (σ.set i none) (ρ.set i none) := by
  refine ⟨by simpa using h.1, fun j d e => ?_⟩
  by_cases hj : j = i
  · subst hj
    by_cases hl : j < ρ.length
    · rw [List.getElem?_set_self hl] at e
      cases e
    · rw [List.getElem?_eq_none (by simpa using hl)] at e
      cases e
  · rw [List.getElem?_set_ne (Ne.symm hj)] at e
    obtain ⟨v, a, b⟩ := h.2 j d e
    exact ⟨v, by rw [List.getElem?_set_ne (Ne.symm hj)]; exact a, b⟩
theorem post_wipe {r : SR} {i : Nat} (h : PostS K mg μ H E (wipeR i r) W) : PostS K mg μ H E r (endI W (some i)) := by
  cases r with
  | nx ρ S => exact fun σ' H' μ' st o e => h _ H' μ' st o (env_wipe e i)
  | bk ρ S => exact fun σ' H' μ' st o e => h _ H' μ' st o (env_wipe e i)
  | ct ρ S => exact fun σ' H' μ' st o e => h _ H' μ' st o (env_wipe e i)
  | rt d S => exact h
  | exc ρ c fs S => exact h
  | bad => exact h
end
section
variable {X : Cx} {E : L2.St → XK} {sub : Str → Str → Option Bool} {body : List Stmt} {mb : MSt} {h0 : ExceptHandler} {hl : List ExceptHandler} {hds : List Hd} {l : List Clause} {pos : Pos}
theorem catch_ok (Sb : Subs X.K X.mg sub) (hh : HdOk X hl hds l) {ρ : Env'} {c : Str} {fs : List (Str × D)} {S : Store} {μ : Pl} {H : Hp} {σ : L2.St} {W : Ends} {cls : Value} {d : Option Addr} (hO : Ok X.K X.mg μ H S) (hE : EnvOk X.K X.mg μ H σ ρ) (hx : ExcIs X.K X.mg μ H cls d c fs)
    (h : PostS X.K X.mg μ H E (catchM sub hds ρ c fs S) W) : wCl X.K (WishOf E) W l cls d σ H := by
  obtain ⟨C, hC, rfl, hd⟩ := id hx
  have known : ∃ dx, ExK X.mg (.ref C) d c dx (fs.map (·.1)) (fs.map (·.2)) ∧ ∀ a, Den X.K X.mg μ H (.ref a) (.exo a dx c (fs.map (·.1)) (fs.map (·.2))) := by
    rcases hd with ⟨rfl, rfl⟩ | ⟨dx, fv, rfl, h1, h2, h3⟩
    · exact ⟨0, ⟨⟨C, hC, rfl⟩, .inr ⟨rfl, rfl, rfl⟩⟩, fun a => .exo0 a⟩
    · exact ⟨dx, ⟨⟨C, hC, rfl⟩, .inl rfl⟩, fun a => .exo1 a h1 h2 h3⟩
  obtain ⟨dx, hk, hden⟩ := known
  induction hh with
  | nil => exact h σ H μ .refl hO hE (.ref C) d hx
  | @plain x Hc m st0 sts q q' hl' hds' l' hm hg hdb hp su r ih =>
    unfold catchM at h
    dsimp only at h
    split at h
    · rename_i e
      refine ⟨true, Sb c x true C Hc e hC hm, fun _ a _ => ?_, fun z => absurd z (fun y => Bool.false_ne_true y.symm)⟩
      rw [← hp a dx] at h
      exact ⟨c, dx, _, _, hk, ρ, μ, S, hE, hO, post_noExc h⟩
    · rename_i e
      exact ⟨false, Sb c x false C Hc e hC hm, fun z => absurd z Bool.false_ne_true, fun _ => ih h⟩
    · exact h.elim
  | @named x n i Hc m st0 sts q q' hl' hds' l' hi hn hm hg hdb hp su r ih =>
    unfold catchM at h
    dsimp only at h
    split at h
    · rename_i e
      refine ⟨true, Sb c x true C Hc e hC hm, fun _ a _ => ?_, fun z => absurd z (fun y => Bool.false_ne_true y.symm)⟩
      rw [← hp a dx] at h
      exact ⟨c, dx, _, _, hk, _, μ, S, hE.set i (hden a), hO, post_noExc (post_wipe h)⟩
    · rename_i e
      exact ⟨false, Sb c x false C Hc e hC hm, fun z => absurd z Bool.false_ne_true, fun _ => ih h⟩
    · exact h.elim
theorem s_try (Sb : Subs X.K X.mg sub) (stk : X.stack = X.env :: X.outer) (fr : X.env.frame = some X.env.locals) (nd : X.N.Nodup) (tk : Takes X (WishOf E))
    (hb : ∀ (E' : L2.St → XK) (pins : List (Addr × Obj)) (xe : Value → Shared → Prop), Takes (X.tr pins xe) (WishOf E') → PassesOwn (model X.prog X.w) X.A X.env xe → MSs (X.tr pins xe) E' body mb) (hh : HdOk X (h0 :: hl) hds l) :
    MS X E (.Try body (h0 :: hl) [] [] pos) (tryM sub mb hds) := by
  refine (ps_try_all (tb := fun W => tS X.K X.mg (fun σ cls d H => W cls d σ H) mb) stk fr nd tk (fun Wi pins xe t1 t2 => hb _ pins xe t1 t2) hh.cl).weak fun D σ H h => ?_
  obtain ⟨ρ, μ, S, hE, hO, h⟩ := h
  refine ⟨ρ, μ, S, hE, hO, ?_⟩
  unfold tryM at h
  cases r : mb ρ S with
  | exc ρ' c fs S' =>
    rw [r] at h
    exact fun σ' H' μ' st o' e' cls d hx => catch_ok Sb hh o' e' hx (PostS.of st h)
  | nx ρ S => rw [r] at h; exact h
  | bk ρ S => rw [r] at h; exact h
  | ct ρ S => rw [r] at h; exact h
  | rt d S => rw [r] at h; exact h
  | bad => rw [r] at h; exact h
end
end PyM
set_option Elab.async false
set_option linter.all false
set_option maxRecDepth 100000
set_option maxHeartbeats 3200000
namespace PyM
open PySem PySem.Spec PyProof.Rows L2

/-! ### a field of the exception in hand -/
def fieldD (f : Str) : List Str → List D → Option D
  | g :: gs, d :: ds => if g = f then some d else fieldD f gs ds
  | _, _ => none
def fldM (fl : Str → Str → Bool) (a dx : Nat) (c : Str) (fn : List Str) (i : Nat) (f : Str) : Env' → M D := fun ρ => match ρ[i]? with
  | some (some (.exo a' dx' _ gs ds)) => if a' = a ∧ dx' = dx ∧ fl c f = true ∧ fn.isEmpty = false then M.lift (fieldD f gs ds) else M.bad
  | _ => M.bad
/-- which classes' fields may be read -/
def Flds (K : W.Frag) (mg : Str → Option Value) (fl : Str → Str → Bool) : Prop := ∀ c f C, fl c f = true → mg c = some (.ref C) → XfC K C ∧ W.findIn K (.ref C) f = some none
theorem field_of {K : W.Frag} {mg : Str → Option Value} {μ : Pl} {H : Hp} {f : Str} {d : D} : ∀ {fv : List (Str × V)} {fn : List Str} {ds : List D}, fv.map (·.1) = fn → DenL K mg μ H (fv.map (·.2)) ds → fieldD f fn ds = some d → ∃ v, fv.lookup f = some v ∧ Den K mg μ H v d
  | [], _, _, e, t, h => by
    subst e
    cases t
    cases h
  | (g, v) :: fv, _, _, e, t, h => by
    subst e
    cases t with
    | cons hv t =>
      rename_i y ys
      rw [L2.lookup_put]
      have h : (if g = f then some y else fieldD f (fv.map (·.1)) ys) = some d := h
      by_cases q : g = f
      · rw [if_pos q] at h
        obtain rfl := Option.some.inj h
        exact ⟨v, if_pos q.symm, hv⟩
      · rw [if_neg q] at h
        obtain ⟨w, h1, h2⟩ := field_of (fv := fv) rfl t h
        exact ⟨w, by rw [if_neg (fun z => q z.symm)]; exact h1, h2⟩
theorem e_fld {X : Cx} {E : L2.St → XK} {fl : Str → Str → Bool} (F : Flds X.K X.mg fl) {a : Addr} {ob : Obj} {cls : Value} {d : Option Addr} {pins : List (Addr × Obj)} {c : Str} {dx : Nat} {fn : List Str} {ds : List D} (hz : Zc cls d ob) (hf : ∃ vs, ob.data = .fields vs) (hk : ExK X.mg cls d c dx fn ds)
    (i : Nat) {n f : Str} {p pos : Pos} (hN : X.N[i]? = some n := by rfl) (hv : Vis X.env.scope n := by first | exact Or.inl rfl | exact Or.inr (Or.inl rfl) | exact Or.inr (Or.inr rfl)) (hd : (n == ("__debug__" : Str)) = false := by decide)
    (hcd : (n == ("__classdict__" : Str)) = false := by decide) (hb : attributeBase (.Name n p) f X.env (eval (.Name n p) X.env) = eval (.Name n p) X.env := by rfl) :
    ME (X.suite a ((a, ob) :: pins)) E (.Attribute (.Name n p) f pos) (fldM fl a dx c fn i f) := by
  obtain ⟨⟨C, hC, rfl⟩, hd'⟩ := hk
  refine ⟨fun pn s σ H Q I h => ?_⟩
  obtain ⟨ρ, μ, S, hE, hO, h⟩ := h
  have h' : PostD X.K X.mg μ H (E σ) (fldM fl a dx c fn i f ρ S) Q := h
  cases q : ρ[i]? with
  | none =>
    unfold fldM at h'
    rw [q] at h'
    exact h'.elim
  | some o =>
  cases o with
  | none =>
    unfold fldM at h'
    rw [q] at h'
    exact h'.elim
  | some y =>
  cases y with
  | exo a' dx' c' gs es =>
    have e0 : fldM fl a dx c fn i f ρ = if a' = a ∧ dx' = dx ∧ fl c f = true ∧ fn.isEmpty = false then M.lift (fieldD f gs es) else M.bad := by
      unfold fldM
      rw [q]
    rw [e0] at h'
    by_cases hq : a' = a ∧ dx' = dx ∧ fl c f = true ∧ fn.isEmpty = false
    · rw [if_pos hq] at h'
      obtain ⟨rfl, rfl, h3, h4⟩ := hq
      obtain ⟨T, hno⟩ := F c f C h3 hC
      have hdx : d = some dx' := by
        rcases hd' with h5 | ⟨_, h5, _⟩
        · exact h5
        · rw [h5] at h4
          cases h4
      cases q2 : fieldD f gs es with
      | none =>
        rw [q2] at h'
        exact h'.elim
      | some y =>
        rw [q2] at h'
        obtain ⟨v, hv1, hv2⟩ := hE.2 i _ q
        cases hv2 with
        | exo0 =>
          cases q2
        | exo1 _ e1 e2 e3 =>
          obtain ⟨w, l1, l2⟩ := field_of e2 e3 q2
          refine (pe_xf T hno hz hf (pe_var (X := X.suite a' ((a', ob) :: pins)) (pos := p) hN hv hd hcd) hb).run pn s σ H Q I ?_
          exact ⟨_, hv1, rfl, rfl, dx', _, w, hdx, e1, l1, h' w H μ .refl hO l2⟩
    · rw [if_neg hq] at h'
      exact h'.elim
  | _ =>
    unfold fldM at h'
    rw [q] at h'
    exact h'.elim
end PyM
set_option Elab.async false
set_option linter.all false
set_option maxRecDepth 100000
set_option maxHeartbeats 3200000
namespace PyM
open PySem PySem.Spec PyProof.Rows L2

/-! ### a class of exceptions that keeps two fields -/
/-- the text of def __init__(self, p, q): super().__init__(p, q); self.p = p; self.q = q -/
structure Ini2 (st : Stmt) (p q : Str) : Prop where
  args : ∃ q1 q2 q3, defArgs st = { posonlyargs := [], args := [{ arg := "self", annotation := none, pos := q1 }, { arg := p, annotation := none, pos := q2 }, { arg := q, annotation := none, pos := q3 }], vararg := none, kwonlyargs := [], kw_defaults := [], kwarg := none, defaults := [] }
  body : ∃ a1 a2 a3 a4 a5 a6 a7 b1 b2 b3 b4 c1 c2 c3 c4, defBody st = [.Expr (.Call (.Attribute (.Call (.Name "super" a1) [] [] a2) "__init__" a3) [.Name p a4, .Name q a5] [] a6) a7,
    .Assign [.Attribute (.Name "self" b1) p b2] (.Name p b3) b4, .Assign [.Attribute (.Name "self" c1) q c2] (.Name q c3) c4] ∧
    ∀ env, eval (.Call (.Attribute (.Call (.Name "super" a1) [] [] a2) "__init__" a3) [.Name p a4, .Name q a5] [] a6) env = (do
      let ov ← attributeBase (.Call (.Name "super" a1) [] [] a2) "__init__" env (eval (.Call (.Name "super" a1) [] [] a2) env)
      standAt a3.atName
      let (f, first) ← holding [ov] (getMethod ov "__init__" (do return (← importBound (.Call (.Name "super" a1) [] [] a2) env).getD true))
      callWith a6 f first (backTo a6 (starEach [.Name p a4, .Name q a5] env)) [])
  scope : defScope st = { kind := .function, names := [("self", .local), (p, .local), (q, .local), ("__class__", .free), ("super", .globalImplicit)], isGenerator := false, isCoroutine := false, more := [] }
  bind : ∀ (qual : Str) (kV doc pm ct : Value) (an : Option Addr) (cda cc : Addr) (a v u : Value), bindArgs (W.ksFn "__init__" qual (defArgs st) (defBody st) (defScope st) .none kV doc pm an (.ref cda) ct cc) ⟨[a, v, u], []⟩ = pure [(("self" : Str), a), (p, v), (q, u)]
  ns : ((("super" : Str) == p) = false ∧ (("super" : Str) == q) = false) ∧ ((("__class__" : Str) == p) = false ∧ (("__class__" : Str) == q) = false)
  nq : p ≠ "self" ∧ q ≠ "self" ∧ p ≠ q ∧ (p == ("__debug__" : Str)) = false ∧ (q == ("__debug__" : Str)) = false
/-- what the written part says of the class at C, of its __init__ at fI -/
structure IniC (P : Program) (K : W.Frag) (mg : Str → Option Value) (x : Str) (st : Stmt) (p q : Str) (C fI : Addr) : Prop where
  gC : mg x = some (.ref C)
  oex : OexC K C
  noP : W.findIn K (.ref C) p = some none
  noQ : W.findIn K (.ref C) q = some none
  iC : W.findIn K (.ref C) "__init__" = some (some (.ref fI))
  tI : W.typeIn K (.ref fI) = some (.type "function")
  sup : W.ks_superIn K C C "__init__" = some (some (.builtin "ValueError.__init__"))
  subV : W.subIn K (.ref C) (.type "ValueError") = some true
  self_ : W.mroIn K C (.ref C) = some true
  opq : W.nsIn K cStatics "thirdparty.any" = some none
  nosup : mg "super" = none
  fn : ∃ (qual : Str) (oc : Value) (od : Option Addr) (kV doc pm : Value) (an : Option Addr) (cda cc : Addr) (ct : Value) (osl : Array (Option Value)) (ccl cl : Value) (cdd cld : Option Addr) (vs : Array Value) (ccs csl : Array (Option Value)) (file : Str) (tf : Tok),
    K.lookup fI = some ⟨oc, od, .func (W.ksFn "__init__" qual (defArgs st) (defBody st) (defScope st) .none kV doc pm an (.ref cda) ct cc), osl⟩ ∧ W.codeIn K (.ref cda) qual = true ∧ K.lookup cda = some ⟨ccl, cdd, .fields vs, ccs⟩ ∧ vs[2]? = some (.str file tf) ∧
    ((P.main.file : Str) == file) = true ∧ K.lookup cc = some ⟨cl, cld, .cell (some (.ref C)), csl⟩
  top : (P.main.scope.names.lookup ("super" : Str)).isSome = false
/-- what __init__ leaves -/
structure IniEnd (h h' : Heap) (x C dx t1 : Addr) (p q : Str) (v u : Value) : Prop where
  keep : ∀ b o, b ≠ x → h.get? b = some o → h'.get? b = some o
  obj : h'.get? x = some { cls := .ref C, dict := some dx, data := .fields #[.ref t1, .none, .none, .none, .bool false, .none] }
  big : h.objs.size ≤ dx
  ne : dx ≠ x
  ns : h'.Ns1 dx (fun y => if y = q then some u else if y = p then some v else none)
section
open PySem.W
variable {prog : Program} {w : World} {A : Around} {E : Value → Shared → Prop} {R : Result → Shared → Prop} {s : Shared} {K : Frag} {mg : Str → Option Value} {C fI : Addr} {x : Str} {st : Stmt} {p q : Str}
theorem ldE {M : Model} {env : Env} {m : Str → Option Value} {y : Str} {pos : Pos} {v : Value} {Q : Value → Shared → Prop} (hn : s.heap.Ns env.locals m) (hv : m y = some v) (hk : env.scope.kind = .function) (hl : env.kindOf y = some .local) (hd : (y == ("__debug__" : Str)) = false) (h : Q v s) :
    wpAny M A (eval (.Name y pos) env) Q E s := wpAny_Name (wpAny_loadName_local hk hl hn hv h) hd
/-- the bound __init__ of ValueError is called -/
theorem call_mw {Q : Value → Shared → Prop} {E : Value → Shared → Prop} {m e t0 : Addr} {us : List Value} {nm qn : Str} {N : Addr} {bs bm : List Value} {dct : Bool} {sn : List Str} {sub : List Value} {ab : Bool} {col : Option Bool} {dd : Option Addr} {k0 k1 k2 k3 k5 : Option Value}
    (hm : s.heap.get? m = some (kxs_mw "ValueError.__init__" e)) (hC : s.heap.get? C = some (excClassObj nm qn C N bs bm dct sn sub ab col dd k0 k1 k2 k3 k5 "ValueError.__new__")) (he : s.heap.get? e = some (HandSPX.excO C t0)) (hus : us.length ≤ sizeLine)
    (hq : ∀ h' t1, (∀ b o, b ≠ e → s.heap.get? b = some o → h'.get? b = some o) → h'.get? e = some (HandSPX.excO C t1) → Q .none { s with heap := h' }) : wpAny (model prog w) A (call (.ref m) us) Q E s := by
  have FB := PySem.F.excBase_ValueError
  obtain ⟨hp, g, d, t, os⟩ := s
  refine wpAny_call (codeAny_of_tree ?_)
  show wpAny _ A.in1 (callAny (.ref m) ⟨us, []⟩) _ _ _
  simp only [callAny]
  refine wpAny_bind (wpAny_load hm ?_)
  simp only [kxs_mw, show (Value.type "method-wrapper" == Value.type "method") = false by decide, show (Value.type "method-wrapper" == Value.type "builtin_function_or_method") = false by decide, beq_self_eq_true, Bool.or_true]
  rw [if_pos (by decide)]
  refine wpAny_bind (check_bound_init FB.toExcCallFacts hC he rfl (wpAny_pure ?_))
  exact ⟨plainId_quiet FB.init.plain _, codeAny_builtin FB.initEntry (exc_init_tree (cls := .ref C) (t0 := t0) (dv := none) (c2 := .none) (c3 := .none) (b4 := .bool false) he hus fun h' k e' _ => hq h' hp.objs.size k e')⟩
theorem init2 (T : IniC prog K mg x st p q C fI) (I2 : Ini2 st p q) {e t0 : Addr} {v u : Value} (X : K.In s.heap) (hmg : s.heap.Ns mainGlobals mg) {mb : Str → Option Value} (hbl : s.heap.Ns builtinsNs mb) (hmb : mb "super" = some (.type "super")) (hlim : s.heap.NoLimit)
    (he : s.heap.get? e = some (HandSPX.excO C t0)) (hne : K.lookup e = none) (hroom : A.depth < recursionLimit)
    (hq : ∀ h' tk dx t1, IniEnd s.heap h' e C dx t1 p q v u → R (.ok (.ret .none)) { s with heap := h', toks := tk }) : codeAny (model prog w) A (.call (.ref fI) ⟨[.ref e, v, u], []⟩) R s := by
  obtain ⟨qual, oc, od, kV, doc, pm, an, cda, cc, ct, osl, ccl, cl, cdd, cld, vs, ccs, csl, file, tf, ho, hcd, hcda, hvs, hfile, hcc⟩ := T.fn
  obtain ⟨nm, qn, N, bs, bm, sn, sub, ab, col, dd, k0, k1, k2, k3, k5, hC, hbm⟩ := T.oex.cls
  obtain ⟨p1, p2, p3, hargs⟩ := I2.args
  obtain ⟨a1, a2, a3, a4, a5, a6, a7, b1, b2, b3, b4, c1, c2, c3, c4, hbody, hmeth⟩ := I2.body
  obtain ⟨⟨hsp, hsq⟩, hcp, hcq⟩ := I2.ns
  obtain ⟨np, nq, npq, dp, dq⟩ := I2.nq
  have hcl : clsIn K C = some { name := nm, bases := bs, mro := .ref C :: bm, ns := N, qualname := qn, hasDict := true, slotNames := sn, subclasses := sub, abstract := ab, collection := col, hasDel := false } := by unfold clsIn; rw [hC] <;> rfl
  have n1 : (p == ("self" : Str)) = false := by simpa using np
  have n2 : (q == ("self" : Str)) = false := by simpa using nq
  have n3 : (q == p) = false := by simpa using npq.symm
  have n4 : (("self" : Str) == p) = false := by simpa using np.symm
  have n5 : (("self" : Str) == q) = false := by simpa using nq.symm
  have n6 : (p == q) = false := by simpa using npq
  have hbind := I2.bind qual kV doc pm ct an cda cc (.ref e) v u
  rw [hargs, hbody, I2.scope] at ho hbind
  refine ks_codeAny_call_defAt (binds := [("self", .ref e), (p, v), (q, u)]) hroom (X _ _ ho) rfl hlim (codeRec_of X hcd) rfl ?_ ?_ ?_ (fun h₀ hns k => ?_) rfl rfl rfl
  · exact BindsTo.of_eq hbind
  · intro y hy
    simp only [List.mem_cons, List.not_mem_nil, or_false] at hy
    rcases hy with rfl | rfl | rfl | rfl | rfl <;> (intro z; cases z)
  · intro y hy
    simp only [List.mem_cons, List.not_mem_nil, or_false] at hy
    rcases hy with rfl | rfl | rfl
    · rfl
    · show List.lookup p _ = _
      simp only [List.lookup, n1, beq_self_eq_true]
    · show List.lookup q _ = _
      simp only [List.lookup, n2, n3, beq_self_eq_true]
  have hL : s.heap.objs.size ≠ e := Nat.ne_of_gt (Heap.lt_size he)
  have X₀ : K.In h₀ := X.keeps k
  have he₀ := k _ _ he
  have lself : (fun y => [(("self" : Str), Value.ref e), (p, v), (q, u)].reverse.lookup y) "self" = some (.ref e) := by
    simp [List.lookup, n4, n5]
  have lp : (fun y => [(("self" : Str), Value.ref e), (p, v), (q, u)].reverse.lookup y) p = some v := by
    simp [List.lookup, n6]
  have lq : (fun y => [(("self" : Str), Value.ref e), (p, v), (q, u)].reverse.lookup y) q = some u := by
    simp [List.lookup]
  generalize hmL : (fun y => [(("self" : Str), Value.ref e), (p, v), (q, u)].reverse.lookup y) = mL at hns lself lp lq
  generalize hE : callEnv _ _ _ = env
  have f1 : env.scope.kind = .function := by rw [← hE]; rfl
  have f2 : env.kindOf "super" = some .globalImplicit := by
    rw [← hE]
    show List.lookup ("super" : Str) [(("self" : Str), NameKind.local), (p, .local), (q, .local), (("__class__" : Str), .free), (("super" : Str), .globalImplicit)] = _
    simp only [List.lookup, hsp, hsq, show (("super" : Str) == ("self" : Str)) = false by decide +kernel, show (("super" : Str) == ("__class__" : Str)) = false by decide +kernel, show (("super" : Str) == ("super" : Str)) = true by decide +kernel]
  have f3 : env.kindOf "__class__" = some .free := by
    rw [← hE]
    show List.lookup ("__class__" : Str) [(("self" : Str), NameKind.local), (p, .local), (q, .local), (("__class__" : Str), .free), (("super" : Str), .globalImplicit)] = _
    simp only [List.lookup, hcp, hcq, show (("__class__" : Str) == ("self" : Str)) = false by decide +kernel, show (("__class__" : Str) == ("__class__" : Str)) = true by decide +kernel]
  have f4 : env.kindOf "self" = some .local := by rw [← hE]; rfl
  have f5 : env.kindOf p = some .local := by
    rw [← hE]
    show List.lookup p [(("self" : Str), NameKind.local), (p, .local), (q, .local), (("__class__" : Str), .free), (("super" : Str), .globalImplicit)] = _
    simp only [List.lookup, n1, beq_self_eq_true]
  have f6 : env.kindOf q = some .local := by
    rw [← hE]
    show List.lookup q [(("self" : Str), NameKind.local), (p, .local), (q, .local), (("__class__" : Str), .free), (("super" : Str), .globalImplicit)] = _
    simp only [List.lookup, n2, n3, beq_self_eq_true]
  have f7 : env.globals = mainGlobals := by rw [← hE]; rfl
  have f8 : env.builtins = builtinsNs := by rw [← hE]; rfl
  have f9 : env.cells.lookup ("__class__" : Str) = some cc := by rw [← hE]; rfl
  have f10 : env.locals = s.heap.objs.size := by rw [← hE]; rfl
  have f11 : env.func = some fI := by rw [← hE]; rfl
  have f12 : env.code = .ref cda := by rw [← hE]; rfl
  have f13 : interactive env = false := by rw [← hE]; rfl
  have hs1 : swapsWith (.Call (.Attribute (.Call (.Name "super" a1) [] [] a2) "__init__" a3) [.Name p a4, .Name q a5] [] a6) none a7.line env = pure false := by rw [← hE]; rfl
  have hs2 : swapsWith (.Name p b3) (some (.Attribute (.Name "self" b1) p b2)) b4.line env = pure false := by rw [← hE]; rfl
  have hs3 : swapsWith (.Name q c3) (some (.Attribute (.Name "self" c1) q c2)) c4.line env = pure false := by rw [← hE]; rfl
  clear hE
  refine ks_wpAt_execs_cons (ks_wpAt_Expr_any (hi := f13) (hs := hs1) (ks_wpAt_MethodCall (he := hmeth _) (ks_wpAt_super_base f2 f3 rfl f11 (X₀ _ _ ho) rfl rfl f12 (X₀ _ _ hcda) rfl hvs hfile T.top ?_)))
  have hL₀ : h₀.Ns env.locals mL := by rw [f10]; exact hns
  refine ks_loadName_global f1 f2 (PySem.Calls.loadGlobal_builtin (by rw [f7]; exact hmg.keeps k) T.nosup (by rw [f8]; exact hbl.keeps k) hmb ⟨rfl, ?_⟩)
  refine wpAny_loadName_free f1 f3 f9 ⟨_, X₀ _ _ hcc, rfl⟩ ?_
  refine wpAny_loadName_local f1 f4 hL₀ lself ?_
  have hCC := X₀ _ _ hC
  refine ks_wpAny_isType_cls hCC rfl ⟨rfl, ?_⟩
  refine ks_wpAny_call_super hCC rfl he₀ rfl (fun c z => by cases z) (looks_mroIn X₀ T.self_) (fun h₁ hso k₁ => ?_)
  have X₁ : K.In h₁ := X₀.keeps k₁
  have he₁ := k₁ _ _ he₀
  have eC : e ≠ C := fun z => by
    rw [z, hC] at hne
    cases hne
  have sup := T.sup
  unfold ks_superIn at sup
  rw [hcl] at sup
  have inst : InstAt h₁ e (HandSPX.excO C t0) C none := ⟨he₁, rfl, rfl, trivial⟩
  have mro : Looks (model prog w) h₁ (mroOf (.ref C)) (.ref C :: bm) := fun A Q E s k q => wpAny_bind ((looks_clsIn X₁ hcl) A _ E s k (wpAny_pure q))
  refine kxs_getMethod kxs_ValueError hso (looks_opaque X₁ T.opq) mro rfl X₁ sup (inst.type.andThen (looks_subIn X₁ T.subV)) eC (by decide) ?_
  generalize hh₂ : h₁.push (kxs_mw "ValueError.__init__" e) = h₂
  have k₂ : ∀ b o, h₁.get? b = some o → h₂.get? b = some o := fun b o z => by
    rw [← hh₂]
    exact Heap.get?_push_of_some _ z
  have mw : h₂.get? h₁.objs.size = some (kxs_mw "ValueError.__init__" e) := by
    rw [← hh₂]
    exact Heap.get?_push_at rfl rfl
  have hL₂ : h₂.Ns env.locals mL := hL₀.keeps fun b o z => k₂ b o (k₁ b o z)
  refine kxs_callWith (i := "ValueError.__init__") (x := e) rfl ?_
  show wpAny _ _ (evalArgs _ true ((false, eval (.Name p a4) env) :: backTo a6 (starEach [.Name q a5] env)) []) _ _ _
  refine PySem.Calls.evalArgs_plain (PySem.Calls.spliced_cons (ldE hL₂ lp f1 f5 dp ?_))
  show wpAny _ _ (spliced ((false, eval (.Name q a5) env) :: backTo a6 (starEach [] env))) _ _ _
  refine PySem.Calls.spliced_cons (ldE hL₂ lq f1 f6 dq (PySem.Calls.spliced_nil ⟨mw, ?_⟩))
  refine call_mw mw (X₁.keeps k₂ _ _ hC) (k₂ _ _ he₁) (by show 2 ≤ sizeLine; rw [sizeLine_eq]; decide) (fun h₃ t1 k₃ he₃ => ?_)
  have kept : ∀ b o, b ≠ e → s.heap.get? b = some o → h₃.get? b = some o := fun b o hb z => k₃ b o hb (k₂ b o (k₁ b o (k b o z)))
  have X₃ : K.In h₃ := fun b o z => kept b o (fun y => by rw [y, hne] at z; cases z) (X b o z)
  have hL₃ : h₃.Ns env.locals mL := by
    obtain ⟨oL, es, ep, e1, e2⟩ := hL₂
    exact ⟨oL, es, ep, k₃ _ _ (by rw [f10]; exact hL) e1, e2⟩
  refine wpAt_of_wpAny ?_
  show wpAny _ _ (execs _ _) _ _ _
  refine wpAny_execs_cons (plainObj_wpAny_Assign_Attribute (ldE hL₃ lp f1 f5 dp (ldE hL₃ lself f1 f4 rfl ?_)) hs2)
  refine set_plain X₃ (ox := HandSPX.excO C t1) (od := none) ⟨he₃, rfl, rfl, trivial⟩ T.oex.sa ?_
  refine HandSPX.exc_osa X₃ he₃ hcl (show HandSPX.refsVE (.ref C :: bm) = true from hbm) rfl T.noP (fun h₄ tk₄ dx k₄ dn dne he₄ hn₄ => ?_)
  have big : s.heap.objs.size ≤ dx := by
    obtain ⟨oL, es, ep, e1, e2⟩ := hL₃
    have z := Heap.lt_size e1
    rw [f10] at z
    exact Nat.le_trans (Nat.le_of_lt z) dn
  have keep₄ : ∀ b o, b ≠ e → s.heap.get? b = some o → h₄.get? b = some o := fun b o hb z => k₄ b o hb (kept b o hb z)
  have X₄ : K.In h₄ := fun b o z => keep₄ b o (fun y => by rw [y, hne] at z; cases z) (X b o z)
  have hL₄ : h₄.Ns env.locals mL := by
    obtain ⟨oL, es, ep, e1, e2⟩ := hL₃
    exact ⟨oL, es, ep, k₄ _ _ (by rw [f10]; exact hL) e1, e2⟩
  show wpAny _ _ (execs _ _) _ _ _
  refine wpAny_execs_cons (plainObj_wpAny_Assign_Attribute (ldE hL₄ lq f1 f6 dq (ldE hL₄ lself f1 f4 rfl ?_)) hs3)
  obtain ⟨oD, esD, epD, hoD, hdD⟩ := id hn₄
  refine set_plain X₄ (ox := { cls := .ref C, dict := some dx, data := .fields #[.ref t1, .none, .none, .none, .bool false, .none] }) (od := some oD) ⟨he₄, rfl, rfl, hoD⟩ T.oex.sa ?_
  refine PySem.OEX.osa_old (nl := [p]) X₄ he₄ hn₄ (fun y hy => ?_) (Nat.le_of_ble_eq_true rfl) hcl (show HandSPX.refsVE (.ref C :: bm) = true from hbm) rfl T.noQ (fun h₅ tk₅ k₅ hn₅ => ?_)
  · by_cases z : y = p
    · simp [z]
    · exact absurd (if_neg z) hy
  show wpAny _ _ (execs _ _) _ _ _
  refine wpAny_execs_nil (hq h₅ _ dx t1 ⟨fun b o hb z => ?_, k₅ _ _ dne.symm he₄, big, dne, hn₅⟩)
  exact k₅ b o (Nat.ne_of_lt (Nat.lt_of_lt_of_le (Heap.lt_size z) big)) (keep₄ b o hb z)
end
end PyM
set_option Elab.async false
set_option linter.all false
set_option maxRecDepth 100000
set_option maxHeartbeats 3200000
namespace PyM
open PySem PySem.Spec PyProof.Rows L2
/-- such an exception, made -/
structure Made2 (h h' : Heap) (e C d : Addr) (p q : Str) (v u : Value) : Prop where
  old : ∀ b o, h.get? b = some o → h'.get? b = some o
  new : h.objs.size ≤ e
  obj : ∃ oe vs, h'.get? e = some oe ∧ oe.cls = .ref C ∧ oe.dict = some d ∧ oe.data = .fields vs ∧ vs[1]? = some .none
  big : h.objs.size ≤ d
  ne : d ≠ e
  ns : h'.Ns1 d (fun y => if y = q then some u else if y = p then some v else none)
section
open PySem.W
variable {prog : Program} {w : World} {A : Around} {R : Result → Shared → Prop} {s : Shared} {K : Frag} {mg mb : Str → Option Value} {C fI : Addr} {x : Str} {st : Stmt} {p q : Str}
theorem made2 (T : IniC prog K mg x st p q C fI) (I2 : Ini2 st p q) {v u : Value} (X : K.In s.heap) (hmg : s.heap.Ns mainGlobals mg) (hbl : s.heap.Ns builtinsNs mb) (hmb : mb "super" = some (.type "super")) (hlim : s.heap.NoLimit) (hroom : A.depth + 1 < recursionLimit)
    (hq : ∀ h' tk e d, Made2 s.heap h' e C d p q v u → R (.ok (.ret (.ref e))) { s with heap := h', toks := tk }) : codeAny (model prog w) A (.call (.ref C) ⟨[v, u], []⟩) R s := by
  obtain ⟨nm, qn, N, bs, bm, sn, sub, ab, col, dd, k0, k1, k2, k3, k5, hC, hbm⟩ := T.oex.cls
  obtain ⟨hp, g, dr, tk, os⟩ := s
  have up : ∀ b o, hp.get? b = some o → ((hp.push (kdv_tup [v, u])).push (HandSPX.excO C hp.objs.size)).get? b = some o := fun b o z => Heap.get?_push_of_some _ (Heap.get?_push_of_some _ z)
  have there : ((hp.push (kdv_tup [v, u])).push (HandSPX.excO C hp.objs.size)).get? (hp.objs.size + 1) = some (HandSPX.excO C hp.objs.size) := by heap_get
  have notK : K.lookup (hp.objs.size + 1) = none := by
    cases z : K.lookup (hp.objs.size + 1) with
    | none => rfl
    | some o =>
      have y : hp.get? (hp.objs.size + 1) = some o := X _ _ z
      have z2 : hp.objs.size + 1 < hp.objs.size := Heap.lt_size y
      omega
  refine HandSPX.call_own F.excBase_ValueError (fun Y => HandSPX.refsVE_contains Y bm hbm) (X _ _ hC) (looks_findIn X T.iC) (fun self => bind_fn X self T.tI) (by show 2 ≤ sizeLine; rw [sizeLine_eq]; decide) ?_
  refine init2 (s := ⟨(hp.push (kdv_tup [v, u])).push (HandSPX.excO C hp.objs.size), g, dr, tk, os⟩) T I2 (X.keeps up) (hmg.keeps up) (hbl.keeps up) hmb (hlim.keeps up) there notK hroom fun h' tk' dx t1 M => ?_
  have sz : hp.objs.size + 1 + 1 ≤ dx := by
    have z := M.big
    rw [Heap.size_push, Heap.size_push] at z
    exact z
  refine ⟨rfl, hq h' tk' (hp.objs.size + 1) dx ⟨fun b o z => ?_, Nat.le_succ _, ⟨_, _, M.obj, rfl, rfl, rfl, rfl⟩, Nat.le_trans (Nat.le_trans (Nat.le_succ _) (Nat.le_succ _)) sz, M.ne, M.ns⟩⟩
  have z2 : b < hp.objs.size := Heap.lt_size z
  exact M.keep b o (Nat.ne_of_lt (Nat.lt_succ_of_lt z2)) (up b o z)
end
theorem relO_2 {p q : Str} (hpq : p ≠ q) {a b : V} {v u : Value} (ra : RelV a v) (rb : RelV b u) (f : Str) : RelO (List.lookup f [(p, a), (q, b)]) (if f = q then some u else if f = p then some v else none) := by
  rw [L2.lookup_put, L2.lookup_put]
  by_cases h1 : f = p
  · rw [if_pos h1, if_neg (fun z => hpq (h1.symm.trans z)), if_pos h1]
    exact ra
  · rw [if_neg h1]
    by_cases h2 : f = q
    · rw [if_pos h2, if_pos h2]
      exact rb
    · rw [if_neg h2, if_neg h2, if_neg h1]
      exact trivial
/-- the fields of two arguments -/
def two (p q : Str) (ms : Env' → M (List D)) : Env' → M (List (Str × D)) := fun ρ => M.bind (ms ρ) fun ds => match ds with
  | [a, b] => M.pure [(p, a), (q, b)]
  | _ => M.bad
section
variable {X : Cx} {E : L2.St → XK} {a b : Expr} {ms : Env' → M (List D)} {x p q : Str} {st : Stmt} {pn pos : Pos} {k : Nat}
/-- X(a, b), a class that keeps two fields -/
theorem mk_2 (T : ∃ C fI, IniC X.prog X.K X.mg x st p q C fI) (I2 : Ini2 st p q) (hr : Room k X.A) (ha : MA X E [a, b] ms) (hg : Gl X x := by rfl) (hdb : (x == ("__debug__" : Str)) = false := by decide)
    (he : starEach [a, b] X.env = (false, eval a X.env) :: starEach [b] X.env := by rfl) (hpl : (backTo pos (starEach [b] X.env)).any (·.1) = false := by rfl) : MMk X E (.Call (.Name x pn) [a, b] [] pos) x (two p q ms) := by
  obtain ⟨C, fI, T⟩ := T
  refine ⟨fun σ H Q => tA' X.K X.mg E ms σ H fun vs H1 => ∃ y z, vs = [y, z] ∧ ∀ d, H1 d = none → Q (.ref C) (some d) (upd H1 d (.xd [(p, y), (q, z)])), ?_, ?_⟩
  · intro pins s σ H Q I h
    refine wpAny_Call_Name_kw (ld_glob I hg T.gC ?_ hdb)
    refine W.callWith_K (h₀ := X.base) I.ok.mod.kin T.oex.kC (thn (ha.run pos pins s σ H _ I h) fun us s1 hh => ?_) he hpl
    obtain ⟨vs, H1, I1, r1, y, z, ev, q1⟩ := hh
    subst ev
    refine ⟨I1.kIn, ?_⟩
    cases r1 with
    | cons ry rn =>
    cases rn with
    | cons rz rn =>
    cases rn
    rename_i v u
    show wpAny _ _ (call (.ref C) [v, u]) _ _ _
    have hlim := I1.nolimit
    obtain ⟨mb, hb1, hb2⟩ := I1.ok.mod.blt
    have hmg := I1.ok.mod.glob.keeps I1.bk
    have hbl := hb1.keeps I1.bk
    have hmb : mb "super" = some (.type "super") := (hb2 "super" (by decide +kernel)).trans (by first | kernel_rfl | rfl)
    obtain ⟨hp, g, dr, tk, os⟩ := s1
    refine wpAny_call (made2 T I2 I1.kIn hmg hbl hmb hlim (by have := hr.dp; omega) fun h' tk' e d M => ?_)
    show MkP X pins σ Q (.ref e) ⟨h', g, dr, tk', os⟩
    obtain ⟨oe, fv, hoe, hc, hd, hdat, h1⟩ := M.obj
    obtain ⟨G, g1, g2⟩ := restrict h' fun b => decide (b ≠ e)
    have gk : ∀ b, b ≠ e → G.get? b = h'.get? b := fun b hb => g1 b (decide_eq_true hb)
    have ge : G.get? e = none := g2 e (by simp)
    have kept : ∀ b o, hp.get? b = some o → G.get? b = some o := fun b o z => (gk b (Nat.ne_of_lt (Nat.lt_of_lt_of_le (Heap.lt_size z) M.new))).trans (M.old b o z)
    have ob : ObjOk X.prog X.w (upd H1 d (.xd [(p, y), (q, z)])) G d (.xd [(p, y), (q, z)]) := ⟨_, M.ns.at (fun o z => (gk d M.ne).trans z), fun f => relO_2 I2.nq.2.2.1 ry rz f⟩
    have J : Inv X pins σ (upd H1 d (.xd [(p, y), (q, z)])) ⟨G, g, dr, tk', os⟩ := I1.laid (t' := tk') kept M.big ob
    refine ⟨e, oe, fv, ⟨G, g, dr, tk', os⟩, _, .ref C, some d, rfl, J, fun b o z => ?_, ge, hoe, ⟨hc, hd⟩, hdat, h1, ?_, rfl, I1.bare, raises_own T.oex.exC T.oex.tyC, q1 d (I1.hok.fresh M.big)⟩
    · by_cases hb : b = e
      · have z' : G.get? b = some o := z
        rw [hb, ge] at z'
        cases z'
      · exact (gk b hb).symm.trans z
    · rw [upd_ne (Ne.symm M.ne)]
      exact I1.hok.fresh M.new
  · intro σ H Q ρ μ S hE hO h
    unfold two at h
    refine tA'.run (k := fun ds => match ds with
      | [a, b] => M.pure [(p, a), (q, b)]
      | _ => M.bad) (R := fun r => match r with
      | .ok fs S' => ∀ cls d H' μ', Step μ μ' H H' → Ok X.K X.mg μ' H' S' → ExcIs X.K X.mg μ' H' cls d x fs → Q cls d H'
      | .exc c' fs S' => XP X.K X.mg μ H (E σ) c' fs S'
      | .bad => False) hE hO h (fun _ _ _ z => z) (fun z => z) fun ds S1 hds h1 vs H1 μ1 s1 o1 e1 d1 => ?_
    match ds, d1, h1 with
    | [], _, h1 => exact h1.elim
    | [_], _, h1 => exact h1.elim
    | _ :: _ :: _ :: _, _, h1 => exact h1.elim
    | [d1, d2], .cons (v := y) hy (.cons (v := z) hz .nil), h1 =>
      refine ⟨y, z, rfl, fun d hd => ?_⟩
      have fr : Step μ1 μ1 H1 (upd H1 d (.xd [(p, y), (q, z)])) := Step.fresh hd
      exact h1 (.ref C) (some d) _ μ1 (s1.trans fr) (o1.fresh hd) ⟨C, T.gC, rfl, .inr ⟨d, _, rfl, upd_same, rfl, .cons (hy.mono o1 fr) (.cons (hz.mono o1 fr) .nil)⟩⟩
end
end PyM
set_option Elab.async false
set_option linter.all false
set_option maxRecDepth 100000
set_option maxHeartbeats 3200000
namespace PyM
open PySem PySem.Spec PyProof.Rows L2
/-! ### sum, max, min -/
def intsOf : List D → Option (List Int)
  | [] => some []
  | .int i :: ds => (intsOf ds).map (i :: ·)
  | _ :: _ => none
theorem intsOf_den {K : W.Frag} {mg : Str → Option Value} {μ : Pl} {H : Hp} : ∀ {ds : List D} {vs : List V} {ns : List Int}, DenL K mg μ H vs ds → intsOf ds = some ns → vs = ns.map V.int
  | [], _, _, .nil, h => by
    cases h
    rfl
  | d :: ds, _, ns, .cons hv t, h => by
    cases d with
    | int i =>
      have h' : (intsOf ds).map (i :: ·) = some ns := h
      cases q : intsOf ds with
      | none => rw [q] at h'; cases h'
      | some ms =>
        rw [q] at h'
        obtain rfl := Option.some.inj h'
        rw [intsOf_den t q]
        cases hv
        rfl
    | _ => cases h
def maxL : List Int → Int
  | [] => 0
  | [a] => a
  | a :: r => if maxL r > a then maxL r else a
def minL : List Int → Int
  | [] => 0
  | [a] => a
  | a :: r => if minL r < a then minL r else a
theorem maxL_is : ∀ {l : List Int} {m : Int}, m ∈ l → (∀ y ∈ l, y ≤ m) → m = maxL l
  | [], m, h, _ => by simp at h
  | [a], m, h, _ => List.mem_singleton.mp h
  | a :: b :: r, m, h, k => by
    have e : maxL (a :: b :: r) = if maxL (b :: r) > a then maxL (b :: r) else a := rfl
    have le : ∀ l : List Int, ∀ y ∈ l, y ≤ maxL l := fun l => by
      induction l with
      | nil => intro y hy; simp at hy
      | cons a l ih =>
        intro y hy
        cases l with
        | nil =>
          have : y = a := by simpa using hy
          rw [this]
          exact Int.le_refl _
        | cons c l =>
          have e : maxL (a :: c :: l) = if maxL (c :: l) > a then maxL (c :: l) else a := rfl
          rw [e]
          rcases List.mem_cons.mp hy with rfl | hy
          · split <;> omega
          · have := ih y hy
            split <;> omega
    have mem : ∀ l : List Int, l ≠ [] → maxL l ∈ l := fun l => by
      induction l with
      | nil => intro z; exact absurd rfl z
      | cons a l ih =>
        intro _
        cases l with
        | nil => exact List.mem_singleton.mpr rfl
        | cons c l =>
          have e : maxL (a :: c :: l) = if maxL (c :: l) > a then maxL (c :: l) else a := rfl
          rw [e]
          split
          · exact List.mem_cons_of_mem _ (ih (by simp))
          · simp
    have h1 := le _ m h
    have h2 := k _ (mem (a :: b :: r) (by simp))
    omega
theorem minL_is : ∀ {l : List Int} {m : Int}, m ∈ l → (∀ y ∈ l, m ≤ y) → m = minL l
  | [], m, h, _ => by simp at h
  | [a], m, h, _ => List.mem_singleton.mp h
  | a :: b :: r, m, h, k => by
    have le : ∀ l : List Int, ∀ y ∈ l, minL l ≤ y := fun l => by
      induction l with
      | nil => intro y hy; simp at hy
      | cons a l ih =>
        intro y hy
        cases l with
        | nil =>
          have : y = a := by simpa using hy
          rw [this]
          exact Int.le_refl _
        | cons c l =>
          have e : minL (a :: c :: l) = if minL (c :: l) < a then minL (c :: l) else a := rfl
          rw [e]
          rcases List.mem_cons.mp hy with rfl | hy
          · split <;> omega
          · have := ih y hy
            split <;> omega
    have mem : ∀ l : List Int, l ≠ [] → minL l ∈ l := fun l => by
      induction l with
      | nil => intro z; exact absurd rfl z
      | cons a l ih =>
        intro _
        cases l with
        | nil => exact List.mem_singleton.mpr rfl
        | cons c l =>
          have e : minL (a :: c :: l) = if minL (c :: l) < a then minL (c :: l) else a := rfl
          rw [e]
          split
          · exact List.mem_cons_of_mem _ (ih (by simp))
          · simp
    have h1 := le _ m h
    have h2 := k _ (mem (a :: b :: r) (by simp))
    omega
def sumP (S : Store) : List D → Option D
  | [d] => match asS S d with
    | some ds => (intsOf ds).map fun ns => .int ns.sum
    | none => none
  | _ => none
def maxP (S : Store) : List D → Option D
  | [.int i, .int j] => some (.int (if j > i then j else i))
  | [d] => match asS S d with
    | some ds => match intsOf ds with
      | some ns => if ns.isEmpty = true then none else some (.int (maxL ns))
      | none => none
    | none => none
  | _ => none
def minP (S : Store) : List D → Option D
  | [.int i, .int j] => some (.int (if j < i then j else i))
  | [d] => match asS S d with
    | some ds => match intsOf ds with
      | some ns => if ns.isEmpty = true then none else some (.int (minL ns))
      | none => none
    | none => none
  | _ => none
section
variable {X : Cx}
theorem c_sum (hc : X.calm = true) : CallR X (.builtin "sum") (rPL X.K X.mg sumP) := by
  intro pins s σ H xs us Q I r h
  obtain ⟨μ, S, ds, d, o, dl, e, k⟩ := h
  unfold sumP at e
  split at e
  · split at e
    · rename_i es q
      cases hb : intsOf es with
      | none => rw [hb] at e; cases e
      | some ns =>
        rw [hb] at e
        obtain rfl := Option.some.inj e
        obtain ⟨v, rfl, dv⟩ := den1 dl
        obtain ⟨p, vs, rfl, h1, h2⟩ := asS_den o dv q
        obtain rfl := intsOf_den h2 hb
        exact cr_sum hc pins s σ H _ us Q I r ⟨p, ns, rfl, h1, k _ _ .refl o (.int _)⟩
    · cases e
  · cases e
theorem c_max (hc : X.calm = true) : CallR X (.builtin "max") (rPL X.K X.mg maxP) := by
  intro pins s σ H xs us Q I r h
  obtain ⟨μ, S, ds, d, o, dl, e, k⟩ := h
  unfold maxP at e
  split at e
  · obtain rfl := Option.some.inj e
    cases dl with
    | cons h1 t =>
    cases t with
    | cons h2 t =>
    cases t
    cases h1
    cases h2
    exact call_max2 hc pins s σ H _ us Q I r ⟨_, _, rfl, k _ _ .refl o (.int _)⟩
  · split at e
    · rename_i es q
      split at e
      · rename_i ns hb
        split at e
        · cases e
        · rename_i hne
          obtain rfl := Option.some.inj e
          obtain ⟨v, rfl, dv⟩ := den1 dl
          obtain ⟨p, vs, rfl, h1, h2⟩ := asS_den o dv q
          obtain rfl := intsOf_den h2 hb
          refine cr_max hc pins s σ H _ us Q I r ⟨p, ns, rfl, h1, ?_, fun m hm hy => ?_⟩
          · cases ns with
            | nil => exact absurd rfl hne
            | cons a b => exact Nat.zero_lt_succ _
          · rw [maxL_is hm hy]
            exact k _ _ .refl o (.int _)
      · cases e
    · cases e
  · cases e
theorem c_min (hc : X.calm = true) : CallR X (.builtin "min") (rPL X.K X.mg minP) := by
  intro pins s σ H xs us Q I r h
  obtain ⟨μ, S, ds, d, o, dl, e, k⟩ := h
  unfold minP at e
  split at e
  · obtain rfl := Option.some.inj e
    cases dl with
    | cons h1 t =>
    cases t with
    | cons h2 t =>
    cases t
    cases h1
    cases h2
    exact call_min2 hc pins s σ H _ us Q I r ⟨_, _, rfl, k _ _ .refl o (.int _)⟩
  · split at e
    · rename_i es q
      split at e
      · rename_i ns hb
        split at e
        · cases e
        · rename_i hne
          obtain rfl := Option.some.inj e
          obtain ⟨v, rfl, dv⟩ := den1 dl
          obtain ⟨p, vs, rfl, h1, h2⟩ := asS_den o dv q
          obtain rfl := intsOf_den h2 hb
          refine cr_min hc pins s σ H _ us Q I r ⟨p, ns, rfl, h1, ?_, fun m hm hy => ?_⟩
          · cases ns with
            | nil => exact absurd rfl hne
            | cons a b => exact Nat.zero_lt_succ _
          · rw [minL_is hm hy]
            exact k _ _ .refl o (.int _)
      · cases e
    · cases e
  · cases e
end
/-! ### suites tell nothing of where the exception stands -/
theorem fld_set (fl : Str → Str → Bool) (a dx : Nat) (c : Str) (fn gs : List Str) (ds : List D) (i : Nat) (f : Str) (ρ : Env') : fldM fl a dx c fn i f (ρ.set i (some (.exo a dx c gs ds))) = if i < ρ.length ∧ fl c f = true ∧ fn.isEmpty = false then M.lift (fieldD f gs ds) else M.bad := by
  unfold fldM
  by_cases h : i < ρ.length
  · rw [List.getElem?_set_self h]
    simp [h]
  · rw [List.getElem?_eq_none (by simpa using h)]
    simp [h]
theorem var_set (i j : Nat) (x : Option D) (ρ : Env') (h : i ≠ j) : varM j (ρ.set i x) = varM j ρ := by
  unfold varM var
  rw [List.getElem?_set_ne h]
/-- the same in both -/
def PSame (i : Nat) (x y : D) (m m0 : MSt) : Prop := ∀ (ρ : Env') S, wipeR i (noExc (m (ρ.set i (some x)) S)) = wipeR i (noExc (m0 (ρ.set i (some y)) S))
section
variable {i : Nat} {x y : D} {e e0 : Env' → M D} {t t0 : Env' → M Bool} {m1 m2 n1 n2 : MSt}
theorem par_ret (h : ∀ (ρ : Env') S, e (ρ.set i (some x)) S = e0 (ρ.set i (some y)) S) : PSame i x y (retM e) (retM e0) := fun ρ S => by
  unfold retM
  rw [h]
  cases e0 (ρ.set i (some y)) S <;> rfl
theorem par_nil : PSame i x y nilS nilS := fun ρ S => by
  unfold nilS noExc wipeR
  simp
theorem par_ct : PSame i x y ctM ctM := fun ρ S => by
  unfold ctM noExc wipeR
  simp
theorem par_if (h : ∀ (ρ : Env') S, t (ρ.set i (some x)) S = t0 (ρ.set i (some y)) S) (h1 : PSame i x y m1 n1) (h2 : PSame i x y m2 n2) : PSame i x y (ifM t m1 m2) (ifM t0 n1 n2) := fun ρ S => by
  unfold ifM
  rw [h]
  cases t0 (ρ.set i (some y)) S with
  | ok k S' => cases k with
    | true => exact h1 ρ S'
    | false => exact h2 ρ S'
  | exc c fs S' => rfl
  | bad => rfl
theorem par_hd {hn : Str} {m : Nat → Nat → Str → List Str → List D → MSt} (h : ∀ a dx c fn ds, PSame i (.exo a dx c fn ds) (.exo 0 0 c fn ds) (m a dx c fn ds) (m 0 0 c fn ds)) : Hd.Par ⟨hn, some i, m⟩ := fun a dx ρ c fs S => h a dx c _ _ ρ S
theorem par_no {hn : Str} {m : MSt} : Hd.Par ⟨hn, none, fun _ _ _ _ _ => m⟩ := fun a dx ρ c fs S => rfl
end
end PyM
set_option Elab.async false
set_option linter.all false
set_option maxRecDepth 100000
set_option maxHeartbeats 3200000
namespace PyM
open PySem PySem.Spec PyProof.Rows L2
/-! ### the law's own call, where exceptions are let out of defs -/
section
variable {Pg : Program} {wd : World} {Kf : W.Frag} {gm gb : Str → Option Value} {k : Nat} {fa sa : Addr} {x : Str} {s1 : Shared} {us : List Value} {ns : List Int} {Fm : List D → M D}
/-- from a layer in which the script alone may be told -/
theorem law_fromX {H : Hp} (KX : Kf.In s1.heap) (hm : s1.heap.Ns mainGlobals gm) (hb : s1.heap.Ns builtinsNs gb) (hbb : ∀ y : Str, y ≠ "__name__" → gb y = bootBuiltins y) (hlim : s1.heap.NoLimit) (hgen : s1.gens = #[])
    (hsa : s1.heap.get? sa = some (scrObj us)) (hroom : Room k callerA) (F : ∀ base : Heap, Kf.In base → base.Ns mainGlobals gm → Def Pg wd Kf gm base (L2.CX Pg wd) k x 1 Fm) (hfa : gm x = some (.ref fa))
    (hsp : spM Kf gm 1 Fm [.ref sa] H (fun v _ => v = .bl true) fun _ _ _ => False) (hok : HOk Pg wd H s1.heap) (only : ∀ b, H b ≠ none → b = sa ∧ ∃ o xs, H b = some (.frz o (.lst xs))) (hK : H sa ≠ none → Kf.lookup sa = none) :
    codeAny (model Pg wd) callerA (.call (.ref fa) ⟨[.ref sa], []⟩) (LawEnd s1) s1 := by
  have dict0 : ∀ {b : Addr} {o : Obj} {es : Array DictEntry} {ep : Nat}, s1.heap.get? b = some o → o.data = .dict es ep → H b = none := fun {b o es ep} e d => by
    cases hq : H b with
    | none => rfl
    | some u =>
      obtain ⟨rfl, _⟩ := only b (by rw [hq]; exact fun z => nomatch z)
      rw [hsa] at e
      cases e
      exact absurd (show Data.seq us.toArray _ = Data.dict es ep from d) (fun z => nomatch z)
  have nsH : ∀ {b : Addr} {m : Str → Option Value}, s1.heap.Ns b m → (hidT s1.heap H).Ns b m := fun {b m} ⟨o, es, ep, e, d, r⟩ => ⟨o, es, ep, hidT_get e (dict0 e d), d, r⟩
  have inH : Kf.In (hidT s1.heap H) := fun b o e => hidT_get (KX b o e) (by
    cases hq : H b with
    | none => rfl
    | some u =>
      obtain ⟨rfl, _⟩ := only b (by rw [hq]; exact fun z => nomatch z)
      rw [hK (by rw [hq]; exact fun z => nomatch z)] at e
      cases e)
  have hMod : Mod Kf gm (hidT s1.heap H) := ⟨inH, nsH hm, ⟨gb, nsH hb, hbb⟩, by
    obtain ⟨mc, l1, l2⟩ := hlim
    exact ⟨mc, nsH l1, l2⟩⟩
  have env : Env0 Pg wd Kf gm (hidT s1.heap H) callerA [] s1 H := ⟨rfl, hMod, fun b o e => of_hidT e, Nat.le_of_eq (hidT_size _ _), trivial, fun b z => absurd (show b ∈ ([] : List Addr) from z) (by simp), hok, .of_eq hgen⟩
  obtain ⟨f, fd, ps, F1, hmf, _, hbd⟩ := (F _ inH (nsH hm)).ex
  rw [hfa] at hmf
  cases hmf
  have hbt := hbd s1 [.ref sa] KX (by rw [List.append_nil]; exact F1.len _ _ _ _ hsp)
  rw [List.append_nil] at hbt
  refine codeAny_mono (F1.go callerA [] s1 H ⟨[.ref sa], []⟩ [.ref sa] [.ref sa] _ _ rfl hroom env hbt (.cons rfl .nil) hsp) fun r s' h => ?_
  match r, h with
  | .error e, h =>
    obtain ⟨_, _, _, _, _, _, _, _, _, _, _, _, z⟩ := h
    exact z.elim
  | .ok .next, h => exact False.elim h
  | .ok .brk, h => exact False.elim h
  | .ok .cont, h => exact False.elim h
  | .ok (.ret u), h =>
    obtain ⟨v, H', hos, hbare, hun, hok', hrel, hq⟩ := h
    obtain rfl : v = .bl true := hq
    obtain rfl : u = Value.bool true := hrel
    refine ⟨rfl, OldK.of_keep fun b o e => ?_, hos, hbare⟩
    cases hq : H b with
    | none => exact hun.keep b o e hq (by intro z; exact absurd (show b ∈ ([] : List Addr) from z) (by simp)) (by simp)
    | some u =>
      obtain ⟨_, ob, xs, z⟩ := only b (by rw [hq]; exact fun z => nomatch z)
      obtain ⟨e1, _⟩ := hok b _ z
      obtain ⟨e2, _⟩ := hok' b _ (hun.frzs b ob _ z)
      rw [e] at e1
      cases e1
      exact e2
/-- the mirror's law -/
theorem law_mirrorX (KX : Kf.In s1.heap) (hm : s1.heap.Ns mainGlobals gm) (hb : s1.heap.Ns builtinsNs gb) (hbb : ∀ y : Str, y ≠ "__name__" → gb y = bootBuiltins y) (hlim : s1.heap.NoLimit) (hgen : s1.gens = #[])
    (hsa : s1.heap.get? sa = some (scrObj us)) (hi : IntsAre us ns) (hl : ns.length ≤ sizeLine) (hroom : Room k callerA) (F : ∀ base : Heap, Kf.In base → base.Ns mainGlobals gm → Def Pg wd Kf gm base (L2.CX Pg wd) k x 1 Fm) (hfa : gm x = some (.ref fa))
    (plain : ∃ S', Fm [.scr (ns.map .int)] [] = .ok (.bl true) S') : codeAny (model Pg wd) callerA (.call (.ref fa) ⟨[.ref sa], []⟩) (LawEnd s1) s1 := by
  have rv := vals_of_ints hi
  have lenU := hi.length
  have hz : ∀ (H : Hp) (l : List Int), DenL Kf gm ⟨[], []⟩ H (l.map V.int) (l.map D.int) := fun H l => by
    induction l with
    | nil => exact .nil
    | cons n l ih => exact .cons (.int n) ih
  have hsp : ∀ H : Hp, ScrAt Kf H sa (ns.map V.int) → spM Kf gm 1 Fm [.ref sa] H (fun v _ => v = .bl true) fun _ _ _ => False := fun H hs => by
    obtain ⟨S', e⟩ := plain
    refine ⟨rfl, [.scr (ns.map .int)], ⟨[], []⟩, [], .cons (.scr hs (hz H ns)) .nil, ⟨rfl, List.nodup_nil, fun a ha => by simp at ha, fun n a c ha => by simp at ha⟩, ?_⟩
    rw [e]
    intro v H' μ' _ _ dv
    cases dv
    rfl
  cases hk : Kf.lookup sa with
  | some o =>
    have e := KX sa o hk
    rw [hsa] at e
    cases e
    exact law_fromX (H := fun _ => none) KX hm hb hbb hlim hgen hsa hroom F hfa (hsp _ (.inr ⟨_, us.toArray, _, hk, rfl, rfl, rfl, by rw [List.size_toArray, lenU]; exact hl, by simpa using rv⟩)) (fun b u z => nomatch (show (none : Option HO) = some u from z)) (fun b z => absurd rfl z) fun z => absurd rfl z
  | none =>
    let H : Hp := fun b => if b = sa then some (.frz (scrObj us) (.lst (ns.map V.int))) else none
    have hH : H sa = some (.frz (scrObj us) (.lst (ns.map V.int))) := if_pos rfl
    have hN : ∀ b, b ≠ sa → H b = none := fun b z => if_neg z
    refine law_fromX (H := H) KX hm hb hbb hlim hgen hsa hroom F hfa (hsp H (.inl ⟨_, hH⟩)) (fun b u z => ?_) (fun b z => ?_) fun _ => hk
    · by_cases hbs : b = sa
      · subst hbs
        rw [hH] at z
        obtain rfl := Option.some.inj z
        exact ⟨hsa, by rw [List.length_map]; exact hl, us, _, rv, hsa⟩
      · rw [hN b hbs] at z
        cases z
    · by_cases hbs : b = sa
      · exact ⟨hbs, _, _, by rw [hbs]; exact hH⟩
      · exact absurd (hN b hbs) z
end
/-- the end of a law's walk: what k_head leaves -/
theorem walk_mirrorX {l : W.OpenLaw} {n k : Nat} {q : Program} {loose : List Str} {XP : (Str → Option Value) → Heap → Prop} {YP : World → Heap → Prop} {d : DefRec} {K : Params → W.Frag} {Fm : List D → M D}
    (hn : l.most = some n) (hn2 : n ≤ sizeLine) (hdf : d.params.defaults = []) (hr : Room k callerA) (hY : ∀ (w : World) (h : Heap), YP w h → (K w.params).In h)
    (F : ∀ (w : World) (mg : Str → Option Value) (h : Heap), (K w.params).In h → h.Ns mainGlobals mg → ∀ base : Heap, (K w.params).In base → base.Ns mainGlobals mg → Def l.prog w (K w.params) mg base (L2.CX l.prog w) k d.name 1 Fm)
    (plain : ∀ ns : List Int, ns.length ≤ n → ∃ S', Fm [.scr (ns.map .int)] [] = .ok (.bl true) S') : W.WalkO q loose XP YP l.row.toRowW d [] (fun f vs => PySem.call f vs) := by
  refine Att.attach_call hn hdf fun w s0 s1 mg mb fa o pm cd doc a vs ns G Y ho hd hcd hmg hobj hints hlen hg => ?_
  have KX := hY w _ Y
  exact law_mirrorX KX G.T.g G.T.b G.T.builtins G.T.nolimit hg hobj hints (Nat.le_trans hlen hn2) hr (F w mg _ KX G.T.g) hmg (plain ns hlen)
end PyM
namespace PyM
open PySem PySem.Spec PyProof.Rows L2
/-- which class of ours an except clause of ours catches -/
theorem exm_of {K : W.Frag} {C Hc : Addr} {b : Bool} (h1 : W.subIn K (.ref Hc) (.type "BaseException") = some true) (h2 : W.isClsIn K Hc = true) (h3 : W.typeIn K (.ref Hc) = some (.type "type")) (h4 : W.subIn K (.ref C) (.ref Hc) = some b) : W.exmOne K (.ref C) (.ref Hc) = some b := by
  have e1 : (W.subIn K (.ref Hc) (.type "BaseException") == some true) = true := by rw [h1] <;> rfl
  have e2 : ((W.clsIn K Hc).isSome && W.typeIn K (.ref Hc) == some (.type "type")) = true := by
    have z : (W.clsIn K Hc).isSome = true := h2
    rw [z, h3] <;> rfl
  show (if (W.subIn K (.ref Hc) (.type "BaseException") == some true) = true then (if ((W.clsIn K Hc).isSome && W.typeIn K (.ref Hc) == some (.type "type")) = true then W.subIn K (.ref C) (.ref Hc) else none) else none) = _
  rw [if_pos e1]
  rw [if_pos e2, h4]
end PyM
set_option Elab.async false
set_option linter.all false
set_option maxRecDepth 100000
set_option maxHeartbeats 4000000
namespace PyM
open PySem PySem.Spec PyProof.Rows L2
def clsDef (st : Stmt) (j : Nat) : Stmt := match st with
  | .ClassDef _ _ _ body _ _ _ _ _ _ _ => body.getD j (.Pass ⟨0, 0, 0, 0⟩)
  | _ => .Pass ⟨0, 0, 0, 0⟩
def top (i : Nat) : Stmt := PySem.Challenge.pw_leantill_k02_shops_that_are_let.main.body.getD i (.Pass ⟨0, 0, 0, 0⟩)
/-- a def of the text as the walk finds it -/
structure Fnd (K : W.Frag) (mg : Str → Option Value) (x : Str) (i : Nat) (ps : List Str) : Prop where
  ex : ∃ (f : Addr) (fd : FuncData), Fun K x x (top i) f fd ∧ mg x = some (.ref f) ∧ Binds K fd ps []
theorem Fnd.def {P : Program} {w : World} {K : W.Frag} {mg : Str → Option Value} {base : Heap} {x : Str} {i k n : Nat} {ps N : List Str} {m : MSt} (F : Fnd K mg x i ps) (S : FnScope N ps (defScope (top i))) (hn : ps.length = n)
    (h : ∀ (cdv : Value) (A : Around) (outer : List Env) (s : Shared) (H : Hp) (E : XK) (f : Addr), (A.deeper (envOfC x (defScope (top i)) s.heap.objs.size f cdv)).guards = some [] → Room k (A.deeper (envOfC x (defScope (top i)) s.heap.objs.size f cdv)) →
      Takes (cxOf (L2.CX P w) P w K mg base N x (defScope (top i)) f cdv A outer s H E) (WishOf fun _ => E) → PassesOwn (model P w) (A.deeper (envOfC x (defScope (top i)) s.heap.objs.size f cdv)) (envOfC x (defScope (top i)) s.heap.objs.size f cdv) (cxOf (L2.CX P w) P w K mg base N x (defScope (top i)) f cdv A outer s H E).xe →
      MSs (cxOf (L2.CX P w) P w K mg base N x (defScope (top i)) f cdv A outer s H E) (fun _ => E) (defBody (top i)) m) : Def P w K mg base (L2.CX P w) (k + 1) x n (bodyM N.length m) := by
  obtain ⟨f, fd, F, hm, hb⟩ := F.ex
  subst hn
  exact Def.of F S hm hb fun cdv A outer s H E hG hr => h cdv A outer s H E f hG hr (takes_of rfl rfl rfl rfl) (passes_of rfl)
theorem Fnd.bad {P : Program} {w : World} {K : W.Frag} {mg : Str → Option Value} {base : Heap} {x : Str} {i n : Nat} {ps : List Str} (F : Fnd K mg x i ps) (k : Nat) (hn : ps.length = n) : Def P w K mg base (L2.CX P w) k x n (fun _ => M.bad) := by
  obtain ⟨f, fd, F, hm, hb⟩ := F.ex
  subst hn
  refine ⟨f, fd, ps, ⟨fun vs H Q E h => h.1, fun A outer s H args us vs Q E _ _ _ _ _ h => ?_⟩, hm, F.kp, hb⟩
  obtain ⟨_, ds, μ, S, _, _, z⟩ := h
  exact z.elim
theorem hu64 {k : Nat} {A : Around} (hr : Room k A) : A.units + 64 < cLine := by have := hr.un; omega
theorem hu64m {k : Nat} {A : Around} {h : Option Value} (hr : Room k A) : (A.mark h).units + 64 < cLine := by
  have := hr.un
  show A.units + 64 < cLine
  omega
theorem hu1 {k : Nat} {A : Around} (hr : Room k A) : A.units + 1 < cLine := by have := hr.un; omega
def c_LETTERS : D := (.str "abcdefghijklmnopqrstuvwxyz")
def c_DIGITS : D := (.str "0123456789")
def c_MOST_LETTERS : D := (.int 8)
def c_MOST_MONEY : D := (.int 1000000)
def c_MOST_PACK : D := (.int 60)
def c_MOST_FROM : D := (.int 200)
def c_MOST_ABOVE : D := (.int 999)
def c_MOST_UNDER : D := (.int 1000)
def c_MOST_STANDINGS : D := (.int 6)
def c_MOST_DEEDS : D := (.int 12)
def c_WAYS : D := (.tup [(.str "down"), (.str "half"), (.str "up")])
def c_PAIRS : D := (.tup [(.str "greatest"), (.str "least"), (.str "less"), (.str "plus")])
def c_RESERVED : D := (.tup [(.str "barred"), (.str "deed"), (.str "down"), (.str "each"), (.str "else"), (.str "ends"), (.str "from"), (.str "full"), (.str "greatest"), (.str "half"), (.str "if"), (.str "is"), (.str "least"), (.str "less"), (.str "money"), (.str "packs"), (.str "plus"), (.str "reaches"), (.str "share"), (.str "shown"), (.str "standing"), (.str "then"), (.str "to"), (.str "until"), (.str "up")])
def c_MOST_DEEP : D := (.int 12)
def c_MOST_PARTS : D := (.int 40)
def subT : Str → Str → Option Bool := fun c h => if c = "BadShop" ∧ h = "BadShop" then some true else if c = "BadShop" ∧ h = "Nothing" then some false else if c = "BadShop" ∧ h = "TooLarge" then some false else if c = "Nothing" ∧ h = "BadShop" then some false else if c = "Nothing" ∧ h = "Nothing" then some true else if c = "Nothing" ∧ h = "TooLarge" then some false else if c = "TooLarge" ∧ h = "BadShop" then some false else if c = "TooLarge" ∧ h = "Nothing" then some false else if c = "TooLarge" ∧ h = "TooLarge" then some true else none
def flT : Str → Str → Bool := fun c f => decide (c = "BadShop" ∧ f = "where") || decide (c = "BadShop" ∧ f = "fault") || decide (c = "TooLarge" ∧ f = "what") || decide (c = "TooLarge" ∧ f = "limit")
theorem ini_BadShop : Ini2 (clsDef (top 3) 0) "where" "fault" := ⟨⟨_, _, _, rfl⟩, ⟨_, _, _, _, _, _, _, _, _, _, _, _, _, _, _, rfl, by intro _; rfl⟩, rfl, by intros; rfl, by decide +kernel, by decide +kernel⟩
theorem ini_TooLarge : Ini2 (clsDef (top 5) 0) "what" "limit" := ⟨⟨_, _, _, rfl⟩, ⟨_, _, _, _, _, _, _, _, _, _, _, _, _, _, _, rfl, by intro _; rfl⟩, rfl, by intros; rfl, by decide +kernel, by decide +kernel⟩
structure Txt (P : Program) (K : W.Frag) (mg : Str → Option Value) : Prop where
  b_abs : mg "abs" = none
  b_all : mg "all" = none
  b_bool : mg "bool" = none
  b_int : mg "int" = none
  b_isinstance : mg "isinstance" = none
  b_len : mg "len" = none
  b_list : mg "list" = none
  b_max : mg "max" = none
  b_range : mg "range" = none
  b_repr : mg "repr" = none
  b_sorted : mg "sorted" = none
  b_str : mg "str" = none
  b_sum : mg "sum" = none
  b_tuple : mg "tuple" = none
  b_zip : mg "zip" = none
  c_DIGITS : Con K mg "DIGITS" c_DIGITS
  c_LETTERS : Con K mg "LETTERS" c_LETTERS
  c_MOST_ABOVE : Con K mg "MOST_ABOVE" c_MOST_ABOVE
  c_MOST_DEEDS : Con K mg "MOST_DEEDS" c_MOST_DEEDS
  c_MOST_DEEP : Con K mg "MOST_DEEP" c_MOST_DEEP
  c_MOST_FROM : Con K mg "MOST_FROM" c_MOST_FROM
  c_MOST_LETTERS : Con K mg "MOST_LETTERS" c_MOST_LETTERS
  c_MOST_MONEY : Con K mg "MOST_MONEY" c_MOST_MONEY
  c_MOST_PACK : Con K mg "MOST_PACK" c_MOST_PACK
  c_MOST_PARTS : Con K mg "MOST_PARTS" c_MOST_PARTS
  c_MOST_STANDINGS : Con K mg "MOST_STANDINGS" c_MOST_STANDINGS
  c_MOST_UNDER : Con K mg "MOST_UNDER" c_MOST_UNDER
  c_PAIRS : Con K mg "PAIRS" c_PAIRS
  c_RESERVED : Con K mg "RESERVED" c_RESERVED
  c_WAYS : Con K mg "WAYS" c_WAYS
  g_BadShop : ∃ C, mg "BadShop" = some (.ref C)
  x_BadShop : ∃ C fI, IniC P K mg "BadShop" (clsDef (top 3) 0) "where" "fault" C fI
  g_Nothing : ∃ C, mg "Nothing" = some (.ref C)
  x_Nothing : Cls0 K mg "Nothing"
  g_TooLarge : ∃ C, mg "TooLarge" = some (.ref C)
  x_TooLarge : ∃ C fI, IniC P K mg "TooLarge" (clsDef (top 5) 0) "what" "limit" C fI
  sub : Subs K mg subT
  fl : Flds K mg flT
section
variable {P : Program} {w : World} {K : W.Frag} {mg : Str → Option Value} {base : Heap}
abbrev N_is_number : List Str := ["thing"]
theorem nd_is_number : (N_is_number).Nodup := by decide +kernel
theorem sc_is_number : FnScope N_is_number ["thing"] (defScope (top 20)) := ⟨rfl, rfl, rfl, nd_is_number, rfl, by decide +kernel, by decide +kernel⟩
def m_is_number : List D → M D := bodyM 1 (retM (andV (bltM isiP (consM (varM 0) (consM (cM (.ty "int")) nilM))) (notV (bltM isiP (consM (varM 0) (consM (cM (.ty "bool")) nilM))))))
theorem d_is_number (T : Txt P K mg) (F : Fnd K mg "is_number" 20 ["thing"]) : Def P w K mg base (L2.CX P w) 1 "is_number" 1 m_is_number := by
  refine F.def sc_is_number rfl fun cdv A outer s H E f hG hr tk pw => ?_
  exact (s_one (s_ret (me_and (me_blt (id := "isinstance") c_isi T.b_isinstance PyProof.Rows.boot_isinstance (a_cons (e_var 0) (a_cons (e_ty (T := "int") T.b_int PyProof.Rows.boot_int) a_nil))) (me_one (me_not (me_blt (id := "isinstance") c_isi T.b_isinstance PyProof.Rows.boot_isinstance (a_cons (e_var 0) (a_cons (e_ty (T := "bool") T.b_bool PyProof.Rows.boot_bool) a_nil))))))))
abbrev N_is_between : List Str := ["thing", "low", "high"]
theorem nd_is_between : (N_is_between).Nodup := by decide +kernel
theorem sc_is_between : FnScope N_is_between ["thing", "low", "high"] (defScope (top 21)) := ⟨rfl, rfl, rfl, nd_is_between, rfl, by decide +kernel, by decide +kernel⟩
def m_is_between : List D → M D := bodyM 3 (retM (andV (callM 1 m_is_number (consM (varM 0) nilM)) (chain2 leP leP (varM 1) (varM 0) (varM 2))))
theorem d_is_between (T : Txt P K mg) (F : Fnd K mg "is_between" 21 ["thing", "low", "high"]) (D_is_number : Def P w K mg base (L2.CX P w) 1 "is_number" 1 m_is_number) : Def P w K mg base (L2.CX P w) 2 "is_between" 3 m_is_between := by
  refine F.def sc_is_between rfl fun cdv A outer s H E f hG hr tk pw => ?_
  exact (s_one (s_ret (me_and (me_def D_is_number hG hr (fun σ => passAt tk σ) (a_cons (e_var 0) a_nil)) (me_one (me_chain r_le r_le (e_var 1) (e_var 0) (e_var 2))))))
abbrev N_is_name : List Str := ["thing", "sign"]
theorem nd_is_name : (N_is_name).Nodup := by decide +kernel
theorem sc_is_name : FnScope N_is_name ["thing"] (defScope (top 22)) := ⟨rfl, rfl, rfl, nd_is_name, rfl, by decide +kernel, by decide +kernel⟩
def m_is_name : List D → M D := bodyM 2 (seqM (ifM (orM (notT (tV (bltM isiP (consM (varM 0) (consM (cM (.ty "str")) nilM))))) (orM (notT (tV (chain2 leP leP (cM (.int 1)) (bltM lenP (consM (varM 0) nilM)) (cM c_MOST_LETTERS)))) (tV (bin2 ninP (bin2 ixP (varM 0) (cM (.int 0))) (cM c_LETTERS)))))
  (retM (cM (.bl false)))
  nilS)
  (retM (andV (bin2 ninP (varM 0) (cM c_RESERVED)) (bltM allP (consM (lcM (seqI (varM 0)) (gN 1) yesT (bin2 inP (varM 1) (bin2 addP (cM c_LETTERS) (cM c_DIGITS))) [1]) nilM)))))
theorem d_is_name (T : Txt P K mg) (F : Fnd K mg "is_name" 22 ["thing"]) : Def P w K mg base (L2.CX P w) 1 "is_name" 1 m_is_name := by
  refine F.def sc_is_name rfl fun cdv A outer s H E f hG hr tk pw => ?_
  exact (s_cons (s_if (mt_bool (mw_or (t_not (t_val (me_blt (id := "isinstance") c_isi T.b_isinstance PyProof.Rows.boot_isinstance (a_cons (e_var 0) (a_cons (e_ty (T := "str") T.b_str PyProof.Rows.boot_str) a_nil))))) (mw_or (t_not (t_chain r_le r_le e_int (me_blt (id := "len") c_len T.b_len boot_len (a_cons (e_var 0) a_nil)) (e_con T.c_MOST_LETTERS))) (mw_or1 (t_cmp r_nin (me_ix (e_var 0) e_int) (e_con T.c_LETTERS))))))
  (s_one (s_ret e_bl))
  s_nil)
  (s_one (s_ret (me_and (me_cmp r_nin (e_var 0) (e_con T.c_RESERVED)) (me_one (me_blt (id := "all") (c_all rfl) T.b_all PyProof.Rows.boot_all (a_cons (me_lc [("sign", 1)] rfl nd_is_name (i_seq (e_var 0)) (blkOk_by (N := N_is_name) (sc := defScope (top 22)) (by decide +kernel)) (fun _ _ _ _ _ => (mg_name 1 nd_is_name)) (fun _ _ _ _ _ => ts_nil) (fun _ _ _ _ _ => (me_cmp r_in (e_var 1) (me_bin r_add (e_con T.c_LETTERS) (e_con T.c_DIGITS))))) a_nil)))))))
abbrev N_is_sized : List Str := ["thing", "many"]
theorem nd_is_sized : (N_is_sized).Nodup := by decide +kernel
theorem sc_is_sized : FnScope N_is_sized ["thing", "many"] (defScope (top 23)) := ⟨rfl, rfl, rfl, nd_is_sized, rfl, by decide +kernel, by decide +kernel⟩
def m_is_sized : List D → M D := bodyM 2 (retM (andV (bltM isiP (consM (varM 0) (consM (cM (.ty "tuple")) nilM))) (bin2 eqP (bltM lenP (consM (varM 0) nilM)) (varM 1))))
theorem d_is_sized (T : Txt P K mg) (F : Fnd K mg "is_sized" 23 ["thing", "many"]) : Def P w K mg base (L2.CX P w) 1 "is_sized" 2 m_is_sized := by
  refine F.def sc_is_sized rfl fun cdv A outer s H E f hG hr tk pw => ?_
  exact (s_one (s_ret (me_and (me_blt (id := "isinstance") c_isi T.b_isinstance PyProof.Rows.boot_isinstance (a_cons (e_var 0) (a_cons (e_ty (T := "tuple") T.b_tuple PyProof.Rows.boot_tuple) a_nil))) (me_one (me_cmp (r_eq (hu64 hr)) (me_blt (id := "len") c_len T.b_len boot_len (a_cons (e_var 0) a_nil)) (e_var 1))))))
abbrev N_is_one_of : List Str := ["thing", "words"]
theorem nd_is_one_of : (N_is_one_of).Nodup := by decide +kernel
theorem sc_is_one_of : FnScope N_is_one_of ["thing", "words"] (defScope (top 25)) := ⟨rfl, rfl, rfl, nd_is_one_of, rfl, by decide +kernel, by decide +kernel⟩
def m_is_one_of : List D → M D := bodyM 2 (retM (andV (bltM isiP (consM (varM 0) (consM (cM (.ty "str")) nilM))) (bin2 inP (varM 0) (varM 1))))
theorem d_is_one_of (T : Txt P K mg) (F : Fnd K mg "is_one_of" 25 ["thing", "words"]) : Def P w K mg base (L2.CX P w) 1 "is_one_of" 2 m_is_one_of := by
  refine F.def sc_is_one_of rfl fun cdv A outer s H E f hG hr tk pw => ?_
  exact (s_one (s_ret (me_and (me_blt (id := "isinstance") c_isi T.b_isinstance PyProof.Rows.boot_isinstance (a_cons (e_var 0) (a_cons (e_ty (T := "str") T.b_str PyProof.Rows.boot_str) a_nil))) (me_one (me_cmp r_in (e_var 0) (e_var 1))))))
abbrev N_is_money : List Str := ["thing"]
theorem nd_is_money : (N_is_money).Nodup := by decide +kernel
theorem sc_is_money : FnScope N_is_money ["thing"] (defScope (top 26)) := ⟨rfl, rfl, rfl, nd_is_money, rfl, by decide +kernel, by decide +kernel⟩
def m_is_money : List D → M D := bodyM 1 (retM (callM 3 m_is_between (consM (varM 0) (consM (un1 negP (cM c_MOST_MONEY)) (consM (cM c_MOST_MONEY) nilM)))))
theorem d_is_money (T : Txt P K mg) (F : Fnd K mg "is_money" 26 ["thing"]) (D_is_between : Def P w K mg base (L2.CX P w) 2 "is_between" 3 m_is_between) : Def P w K mg base (L2.CX P w) 3 "is_money" 1 m_is_money := by
  refine F.def sc_is_money rfl fun cdv A outer s H E f hG hr tk pw => ?_
  exact (s_one (s_ret (me_def D_is_between hG hr (fun σ => passAt tk σ) (a_cons (e_var 0) (a_cons (me_un r_neg (e_con T.c_MOST_MONEY)) (a_cons (e_con T.c_MOST_MONEY) a_nil))))))
abbrev N_is_plain_price : List Str := ["thing"]
theorem nd_is_plain_price : (N_is_plain_price).Nodup := by decide +kernel
theorem sc_is_plain_price : FnScope N_is_plain_price ["thing"] (defScope (top 27)) := ⟨rfl, rfl, rfl, nd_is_plain_price, rfl, by decide +kernel, by decide +kernel⟩
def m_is_plain_price : List D → M D := bodyM 1 (seqM (ifM (tV (bin2 eqP (bin2 ixP (varM 0) (cM (.int 0))) (cM (.str "barred"))))
  (retM (bin2 eqP (bltM lenP (consM (varM 0) nilM)) (cM (.int 1))))
  nilS)
  (seqM (ifM (tV (bin2 inP (bin2 ixP (varM 0) (cM (.int 0))) (tupM (consM (cM (.str "money")) (consM (cM (.str "each")) nilM)))))
  (retM (andV (bin2 eqP (bltM lenP (consM (varM 0) nilM)) (cM (.int 2))) (callM 1 m_is_money (consM (bin2 ixP (varM 0) (cM (.int 1))) nilM))))
  nilS)
  (seqM (ifM (orM (tV (bin2 ninP (bin2 ixP (varM 0) (cM (.int 0))) (tupM (consM (cM (.str "packs")) (consM (cM (.str "full")) nilM))))) (tV (bin2 neP (bltM lenP (consM (varM 0) nilM)) (cM (.int 3)))))
  (retM (cM (.bl false)))
  nilS)
  (retM (andV (callM 3 m_is_between (consM (bin2 ixP (varM 0) (cM (.int 1))) (consM (cM (.int 2)) (consM (cM c_MOST_PACK) nilM)))) (callM 1 m_is_money (consM (bin2 ixP (varM 0) (cM (.int 2))) nilM)))))))
theorem d_is_plain_price (T : Txt P K mg) (F : Fnd K mg "is_plain_price" 27 ["thing"]) (D_is_between : Def P w K mg base (L2.CX P w) 2 "is_between" 3 m_is_between) (D_is_money : Def P w K mg base (L2.CX P w) 3 "is_money" 1 m_is_money) : Def P w K mg base (L2.CX P w) 4 "is_plain_price" 1 m_is_plain_price := by
  have D_is_between := D_is_between.mono (by decide : 2 ≤ 3)
  refine F.def sc_is_plain_price rfl fun cdv A outer s H E f hG hr tk pw => ?_
  exact (s_cons (s_if (t_cmp (r_eq (hu64 hr)) (me_ix (e_var 0) e_int) e_str)
  (s_one (s_ret (me_cmp (r_eq (hu64 hr)) (me_blt (id := "len") c_len T.b_len boot_len (a_cons (e_var 0) a_nil)) e_int)))
  s_nil)
  (s_cons (s_if (t_cmp r_in (me_ix (e_var 0) e_int) (me_tup (a_cons e_str (a_cons e_str a_nil))))
  (s_one (s_ret (me_and (me_cmp (r_eq (hu64 hr)) (me_blt (id := "len") c_len T.b_len boot_len (a_cons (e_var 0) a_nil)) e_int) (me_one (me_def D_is_money hG hr (fun σ => passAt tk σ) (a_cons (me_ix (e_var 0) e_int) a_nil))))))
  s_nil)
  (s_cons (s_if (mt_bool (mw_or (t_cmp r_nin (me_ix (e_var 0) e_int) (me_tup (a_cons e_str (a_cons e_str a_nil)))) (mw_or1 (t_cmp (r_ne (hu64 hr)) (me_blt (id := "len") c_len T.b_len boot_len (a_cons (e_var 0) a_nil)) e_int))))
  (s_one (s_ret e_bl))
  s_nil)
  (s_one (s_ret (me_and (me_def D_is_between hG hr (fun σ => passAt tk σ) (a_cons (me_ix (e_var 0) e_int) (a_cons e_int (a_cons (e_con T.c_MOST_PACK) a_nil)))) (me_one (me_def D_is_money hG hr (fun σ => passAt tk σ) (a_cons (me_ix (e_var 0) e_int) a_nil)))))))))
abbrev N_is_price : List Str := ["thing", "word", "at"]
theorem nd_is_price : (N_is_price).Nodup := by decide +kernel
theorem sc_is_price : FnScope N_is_price ["thing"] (defScope (top 28)) := ⟨rfl, rfl, rfl, nd_is_price, rfl, by decide +kernel, by decide +kernel⟩
def m_is_price : Nat → List D → M D
  | 0 => fun _ => M.bad
  | n + 1 => bodyM 3 (seqM (ifM (orM (notT (tV (bltM isiP (consM (varM 0) (consM (cM (.ty "tuple")) nilM))))) (orM (tV (bin2 eqP (varM 0) (tupM nilM))) (notT (tV (bltM isiP (consM (bin2 ixP (varM 0) (cM (.int 0))) (consM (cM (.ty "str")) nilM)))))))
  (retM (cM (.bl false)))
  nilS)
  (seqM (setM 1 (bin2 ixP (varM 0) (cM (.int 0))))
  (seqM (ifM (tV (bin2 inP (varM 1) (cM c_PAIRS)))
  (retM (andV (bin2 eqP (bltM lenP (consM (varM 0) nilM)) (cM (.int 3))) (andV (callM 1 (m_is_price n) (consM (bin2 ixP (varM 0) (cM (.int 1))) nilM)) (callM 1 (m_is_price n) (consM (bin2 ixP (varM 0) (cM (.int 2))) nilM)))))
  nilS)
  (seqM (ifM (tV (bin2 eqP (varM 1) (cM (.str "from"))))
  (retM (andV (bin2 eqP (bltM lenP (consM (varM 0) nilM)) (cM (.int 4))) (andV (callM 3 m_is_between (consM (bin2 ixP (varM 0) (cM (.int 1))) (consM (cM (.int 1)) (consM (cM c_MOST_FROM) nilM)))) (andV (callM 1 (m_is_price n) (consM (bin2 ixP (varM 0) (cM (.int 2))) nilM)) (callM 1 (m_is_price n) (consM (bin2 ixP (varM 0) (cM (.int 3))) nilM))))))
  nilS)
  (seqM (ifM (tV (bin2 eqP (varM 1) (cM (.str "above"))))
  (retM (andV (bin2 eqP (bltM lenP (consM (varM 0) nilM)) (cM (.int 5))) (andV (callM 1 m_is_money (consM (bin2 ixP (varM 0) (cM (.int 2))) nilM)) (bltM allP (consM (lcM (seqI (tupM (consM (cM (.int 1)) (consM (cM (.int 3)) (consM (cM (.int 4)) nilM))))) (gN 2) yesT (callM 1 (m_is_price n) (consM (bin2 ixP (varM 0) (varM 2)) nilM)) [2]) nilM)))))
  nilS)
  (seqM (ifM (tV (bin2 neP (varM 1) (cM (.str "share"))))
  (retM (callM 1 m_is_plain_price (consM (varM 0) nilM)))
  nilS)
  (seqM (ifM (orM (tV (bin2 neP (bltM lenP (consM (varM 0) nilM)) (cM (.int 5)))) (orM (notT (tV (callM 1 (m_is_price n) (consM (bin2 ixP (varM 0) (cM (.int 1))) nilM)))) (notT (tV (callM 2 m_is_one_of (consM (bin2 ixP (varM 0) (cM (.int 4))) (consM (cM c_WAYS) nilM)))))))
  (retM (cM (.bl false)))
  nilS)
  (retM (andV (callM 3 m_is_between (consM (bin2 ixP (varM 0) (cM (.int 2))) (consM (cM (.int 0)) (consM (cM c_MOST_ABOVE) nilM)))) (callM 3 m_is_between (consM (bin2 ixP (varM 0) (cM (.int 3))) (consM (cM (.int 1)) (consM (cM c_MOST_UNDER) nilM)))))))))))))
theorem d_is_price (T : Txt P K mg) (F : Fnd K mg "is_price" 28 ["thing"]) (D_is_between : Def P w K mg base (L2.CX P w) 2 "is_between" 3 m_is_between) (D_is_one_of : Def P w K mg base (L2.CX P w) 1 "is_one_of" 2 m_is_one_of) (D_is_money : Def P w K mg base (L2.CX P w) 3 "is_money" 1 m_is_money) (D_is_plain_price : Def P w K mg base (L2.CX P w) 4 "is_plain_price" 1 m_is_plain_price) : ∀ n, Def P w K mg base (L2.CX P w) (4 + n) "is_price" 1 (m_is_price n)
  | 0 => F.bad _ rfl
  | n + 1 => by
      have D_is_price := d_is_price T F D_is_between D_is_one_of D_is_money D_is_plain_price n
      have D_is_between := D_is_between.mono (Nat.le_trans (by decide : 2 ≤ 4) (Nat.le_add_right 4 n))
      have D_is_one_of := D_is_one_of.mono (Nat.le_trans (by decide : 1 ≤ 4) (Nat.le_add_right 4 n))
      have D_is_money := D_is_money.mono (Nat.le_trans (by decide : 3 ≤ 4) (Nat.le_add_right 4 n))
      have D_is_plain_price := D_is_plain_price.mono (Nat.le_trans (by decide : 4 ≤ 4) (Nat.le_add_right 4 n))
      refine F.def sc_is_price rfl fun cdv A outer s H E f hG hr tk pw => ?_
      exact (s_cons (s_if (mt_bool (mw_or (t_not (t_val (me_blt (id := "isinstance") c_isi T.b_isinstance PyProof.Rows.boot_isinstance (a_cons (e_var 0) (a_cons (e_ty (T := "tuple") T.b_tuple PyProof.Rows.boot_tuple) a_nil))))) (mw_or (t_cmp (r_eq (hu64 hr)) (e_var 0) (me_tup a_nil)) (mw_or1 (t_not (t_val (me_blt (id := "isinstance") c_isi T.b_isinstance PyProof.Rows.boot_isinstance (a_cons (me_ix (e_var 0) e_int) (a_cons (e_ty (T := "str") T.b_str PyProof.Rows.boot_str) a_nil)))))))))
  (s_one (s_ret e_bl))
  s_nil)
  (s_cons (s_set 1 nd_is_price (me_ix (e_var 0) e_int))
  (s_cons (s_if (t_cmp r_in (e_var 1) (e_con T.c_PAIRS))
  (s_one (s_ret (me_and (me_cmp (r_eq (hu64 hr)) (me_blt (id := "len") c_len T.b_len boot_len (a_cons (e_var 0) a_nil)) e_int) (me_and (me_def D_is_price hG hr (fun σ => passAt tk σ) (a_cons (me_ix (e_var 0) e_int) a_nil)) (me_one (me_def D_is_price hG hr (fun σ => passAt tk σ) (a_cons (me_ix (e_var 0) e_int) a_nil)))))))
  s_nil)
  (s_cons (s_if (t_cmp (r_eq (hu64 hr)) (e_var 1) e_str)
  (s_one (s_ret (me_and (me_cmp (r_eq (hu64 hr)) (me_blt (id := "len") c_len T.b_len boot_len (a_cons (e_var 0) a_nil)) e_int) (me_and (me_def D_is_between hG hr (fun σ => passAt tk σ) (a_cons (me_ix (e_var 0) e_int) (a_cons e_int (a_cons (e_con T.c_MOST_FROM) a_nil)))) (me_and (me_def D_is_price hG hr (fun σ => passAt tk σ) (a_cons (me_ix (e_var 0) e_int) a_nil)) (me_one (me_def D_is_price hG hr (fun σ => passAt tk σ) (a_cons (me_ix (e_var 0) e_int) a_nil))))))))
  s_nil)
  (s_cons (s_if (t_cmp (r_eq (hu64 hr)) (e_var 1) e_str)
  (s_one (s_ret (me_and (me_cmp (r_eq (hu64 hr)) (me_blt (id := "len") c_len T.b_len boot_len (a_cons (e_var 0) a_nil)) e_int) (me_and (me_def D_is_money hG hr (fun σ => passAt tk σ) (a_cons (me_ix (e_var 0) e_int) a_nil)) (me_one (me_blt (id := "all") (c_all rfl) T.b_all PyProof.Rows.boot_all (a_cons (me_lc [("at", 2)] rfl nd_is_price (i_seq (me_tup (a_cons e_int (a_cons e_int (a_cons e_int a_nil))))) (blkOk_by (N := N_is_price) (sc := defScope (top 28)) (by decide +kernel)) (fun _ _ _ _ _ => (mg_name 2 nd_is_price)) (fun _ _ _ _ _ => ts_nil) (fun _ _ _ _ _ => (me_def D_is_price hG hr (fun σ => passAt (W := fun _ _ _ _ => False) takes0 σ) (a_cons (me_ix (e_var 0) (e_var 2)) a_nil)))) a_nil)))))))
  s_nil)
  (s_cons (s_if (t_cmp (r_ne (hu64 hr)) (e_var 1) e_str)
  (s_one (s_ret (me_def D_is_plain_price hG hr (fun σ => passAt tk σ) (a_cons (e_var 0) a_nil))))
  s_nil)
  (s_cons (s_if (mt_bool (mw_or (t_cmp (r_ne (hu64 hr)) (me_blt (id := "len") c_len T.b_len boot_len (a_cons (e_var 0) a_nil)) e_int) (mw_or (t_not (t_val (me_def D_is_price hG hr (fun σ => passAt tk σ) (a_cons (me_ix (e_var 0) e_int) a_nil)))) (mw_or1 (t_not (t_val (me_def D_is_one_of hG hr (fun σ => passAt tk σ) (a_cons (me_ix (e_var 0) e_int) (a_cons (e_con T.c_WAYS) a_nil)))))))))
  (s_one (s_ret e_bl))
  s_nil)
  (s_one (s_ret (me_and (me_def D_is_between hG hr (fun σ => passAt tk σ) (a_cons (me_ix (e_var 0) e_int) (a_cons e_int (a_cons (e_con T.c_MOST_ABOVE) a_nil)))) (me_one (me_def D_is_between hG hr (fun σ => passAt tk σ) (a_cons (me_ix (e_var 0) e_int) (a_cons e_int (a_cons (e_con T.c_MOST_UNDER) a_nil)))))))))))))))
abbrev N_is_deed : List Str := ["thing", "name"]
theorem nd_is_deed : (N_is_deed).Nodup := by decide +kernel
theorem sc_is_deed : FnScope N_is_deed ["thing"] (defScope (top 29)) := ⟨rfl, rfl, rfl, nd_is_deed, rfl, by decide +kernel, by decide +kernel⟩
def m_is_deed : List D → M D := bodyM 2 (retM (andV (callM 2 m_is_sized (consM (varM 0) (consM (cM (.int 4)) nilM))) (andV (bltM allP (consM (lcM (seqI (slM (varM 0) noP (opP (cM (.int 3))))) (gN 1) yesT (callM 1 m_is_name (consM (varM 1) nilM)) [1]) nilM)) (callM 1 (m_is_price 20) (consM (bin2 ixP (varM 0) (cM (.int 3))) nilM)))))
theorem d_is_deed (T : Txt P K mg) (F : Fnd K mg "is_deed" 29 ["thing"]) (D_is_name : Def P w K mg base (L2.CX P w) 1 "is_name" 1 m_is_name) (D_is_sized : Def P w K mg base (L2.CX P w) 1 "is_sized" 2 m_is_sized) (D_is_price : Def P w K mg base (L2.CX P w) 24 "is_price" 1 (m_is_price 20)) : Def P w K mg base (L2.CX P w) 25 "is_deed" 1 m_is_deed := by
  have D_is_name := D_is_name.mono (by decide : 1 ≤ 24)
  have D_is_sized := D_is_sized.mono (by decide : 1 ≤ 24)
  refine F.def sc_is_deed rfl fun cdv A outer s H E f hG hr tk pw => ?_
  exact (s_one (s_ret (me_and (me_def D_is_sized hG hr (fun σ => passAt tk σ) (a_cons (e_var 0) (a_cons e_int a_nil))) (me_and (me_blt (id := "all") (c_all rfl) T.b_all PyProof.Rows.boot_all (a_cons (me_lc [("name", 1)] rfl nd_is_deed (i_seq (me_slice (e_var 0) o_none (o_some e_int))) (blkOk_by (N := N_is_deed) (sc := defScope (top 29)) (by decide +kernel)) (fun _ _ _ _ _ => (mg_name 1 nd_is_deed)) (fun _ _ _ _ _ => ts_nil) (fun _ _ _ _ _ => (me_def D_is_name hG hr (fun σ => passAt (W := fun _ _ _ _ => False) takes0 σ) (a_cons (e_var 1) a_nil)))) a_nil)) (me_one (me_def D_is_price hG hr (fun σ => passAt tk σ) (a_cons (me_ix (e_var 0) e_int) a_nil)))))))
abbrev N_is_tuple_of : List Str := ["thing", "is_one", "one"]
theorem nd_is_tuple_of : (N_is_tuple_of).Nodup := by decide +kernel
theorem sc_is_tuple_of : FnScope N_is_tuple_of ["thing", "is_one"] (defScope (top 24)) := ⟨rfl, rfl, rfl, nd_is_tuple_of, rfl, by decide +kernel, by decide +kernel⟩
def tab : Tab := fun x => if x = "is_name" then some (1, m_is_name) else if x = "is_deed" then some (1, m_is_deed) else none
def m_is_tuple_of : List D → M D := bodyM 3 (retM (andV (bltM isiP (consM (varM 0) (consM (cM (.ty "tuple")) nilM))) (bltM allP (consM (lcM (seqI (varM 0)) (gN 2) yesT (callV tab 1 (consM (varM 2) nilM)) [2]) nilM))))
theorem d_is_tuple_of (T : Txt P K mg) (F : Fnd K mg "is_tuple_of" 24 ["thing", "is_one"]) (D_is_name : Def P w K mg base (L2.CX P w) 1 "is_name" 1 m_is_name) (D_is_deed : Def P w K mg base (L2.CX P w) 25 "is_deed" 1 m_is_deed) : Def P w K mg base (L2.CX P w) 26 "is_tuple_of" 2 m_is_tuple_of := by
  have D_is_name := D_is_name.mono (by decide : 1 ≤ 25)
  have TB : ∀ x n Fm, tab x = some (n, Fm) → Def P w K mg base (L2.CX P w) 25 x n Fm := by
    intro x n Fm h
    unfold tab at h
    split at h
    · rename_i hx
      injection h with h
      injection h with h1 h2
      subst hx h1 h2
      exact D_is_name
    split at h
    · rename_i hx
      injection h with h
      injection h with h1 h2
      subst hx h1 h2
      exact D_is_deed
    cases h
  refine F.def sc_is_tuple_of rfl fun cdv A outer s H E f hG hr tk pw => ?_
  exact (s_one (s_ret (me_and (me_blt (id := "isinstance") c_isi T.b_isinstance PyProof.Rows.boot_isinstance (a_cons (e_var 0) (a_cons (e_ty (T := "tuple") T.b_tuple PyProof.Rows.boot_tuple) a_nil))) (me_one (me_blt (id := "all") (c_all rfl) T.b_all PyProof.Rows.boot_all (a_cons (me_lc [("one", 2)] rfl nd_is_tuple_of (i_seq (e_var 0)) (blkOk_by (N := N_is_tuple_of) (sc := defScope (top 24)) (by decide +kernel)) (fun _ _ _ _ _ => (mg_name 2 nd_is_tuple_of)) (fun _ _ _ _ _ => ts_nil) (fun _ _ _ _ _ => (me_local 1 TB hG hr (fun σ => passAt (W := fun _ _ _ _ => False) takes0 σ) (a_cons (e_var 2) a_nil)))) a_nil))))))
abbrev N_is_ascending : List Str := ["names", "one", "other"]
theorem nd_is_ascending : (N_is_ascending).Nodup := by decide +kernel
theorem sc_is_ascending : FnScope N_is_ascending ["names"] (defScope (top 30)) := ⟨rfl, rfl, rfl, nd_is_ascending, rfl, by decide +kernel, by decide +kernel⟩
def m_is_ascending : List D → M D := bodyM 3 (retM (bltM allP (consM (lcM (zipI (consM (varM 0) (consM (slM (varM 0) (opP (cM (.int 1))) noP) nilM))) (gT (gs1 (gN 1) (gs1 (gN 2) gs0))) yesT (bin2 ltP (varM 1) (varM 2)) [1, 2]) nilM)))
theorem d_is_ascending (T : Txt P K mg) (F : Fnd K mg "is_ascending" 30 ["names"]) : Def P w K mg base (L2.CX P w) 1 "is_ascending" 1 m_is_ascending := by
  refine F.def sc_is_ascending rfl fun cdv A outer s H E f hG hr tk pw => ?_
  exact (s_one (s_ret (me_blt (id := "all") (c_all rfl) T.b_all PyProof.Rows.boot_all (a_cons (me_lc [("one", 1), ("other", 2)] rfl nd_is_ascending (i_zip (a_cons (e_var 0) (a_cons (me_slice (e_var 0) (o_some e_int) o_none) a_nil)) T.b_zip) (blkOk_by (N := N_is_ascending) (sc := defScope (top 30)) (by decide +kernel)) (fun _ _ _ _ _ => (mg_tup rfl (mgs_cons (mg_name 1 nd_is_ascending) (mgs_cons (mg_name 2 nd_is_ascending) mgs_nil)) (gs_len 1 (gs_len 0 gs0_len)))) (fun _ _ _ _ _ => ts_nil) (fun _ _ _ _ _ => (me_cmp r_lt (e_var 1) (e_var 2)))) a_nil))))
abbrev N_is_shop : List Str := ["thing", "standings", "ends", "deeds", "shown", "name", "deed"]
theorem nd_is_shop : (N_is_shop).Nodup := by decide +kernel
theorem sc_is_shop : FnScope N_is_shop ["thing"] (defScope (top 31)) := ⟨rfl, rfl, rfl, nd_is_shop, rfl, by decide +kernel, by decide +kernel⟩
def m_is_shop : List D → M D := bodyM 7 (seqM (ifM (orM (notT (tV (callM 2 m_is_sized (consM (varM 0) (consM (cM (.int 4)) nilM))))) (orM (notT (tV (callM 2 m_is_tuple_of (consM (bin2 ixP (varM 0) (cM (.int 0))) (consM (cM (.fn "is_name")) nilM))))) (notT (tV (callM 2 m_is_tuple_of (consM (bin2 ixP (varM 0) (cM (.int 1))) (consM (cM (.fn "is_name")) nilM)))))))
  (retM (cM (.bl false)))
  nilS)
  (seqM (asgM (gT (gs1 (gN 1) (gs1 (gN 2) (gs1 (gN 3) (gs1 (gN 4) gs0))))) (varM 0))
  (seqM (ifM (orM (notT (tV (chain2 leP leP (cM (.int 1)) (bltM lenP (consM (varM 1) nilM)) (cM c_MOST_STANDINGS)))) (tV (bin2 ltP (bltM lenDP (consM (dcM (seqI (varM 1)) (gN 5) yesT (varM 5) (cM (.bl true)) [5]) nilM)) (bltM lenP (consM (varM 1) nilM)))))
  (retM (cM (.bl false)))
  nilS)
  (seqM (ifM (orM (tV (bin2 eqP (varM 2) (tupM nilM))) (orM (notT (tV (callM 1 m_is_ascending (consM (varM 2) nilM)))) (notT (tV (callM 2 m_is_tuple_of (consM (varM 3) (consM (cM (.fn "is_deed")) nilM)))))))
  (retM (cM (.bl false)))
  nilS)
  (seqM (ifM (orM (notT (tV (chain2 leP leP (cM (.int 1)) (bltM lenP (consM (varM 3) nilM)) (cM c_MOST_DEEDS)))) (notT (tV (callM 1 m_is_ascending (consM (lcM (seqI (varM 3)) (gN 6) yesT (bin2 ixP (varM 6) (cM (.int 0))) [6]) nilM)))))
  (retM (cM (.bl false)))
  nilS)
  (retM (orV (bin2 isP (varM 4) (cM .non)) (callM 1 m_is_name (consM (varM 4) nilM)))))))))
theorem d_is_shop (T : Txt P K mg) (F : Fnd K mg "is_shop" 31 ["thing"]) (D_is_name : Def P w K mg base (L2.CX P w) 1 "is_name" 1 m_is_name) (D_is_sized : Def P w K mg base (L2.CX P w) 1 "is_sized" 2 m_is_sized) (D_is_deed : Def P w K mg base (L2.CX P w) 25 "is_deed" 1 m_is_deed) (D_is_tuple_of : Def P w K mg base (L2.CX P w) 26 "is_tuple_of" 2 m_is_tuple_of) (D_is_ascending : Def P w K mg base (L2.CX P w) 1 "is_ascending" 1 m_is_ascending) : Def P w K mg base (L2.CX P w) 27 "is_shop" 1 m_is_shop := by
  have D_is_name := D_is_name.mono (by decide : 1 ≤ 26)
  have D_is_sized := D_is_sized.mono (by decide : 1 ≤ 26)
  have D_is_deed := D_is_deed.mono (by decide : 25 ≤ 26)
  have D_is_ascending := D_is_ascending.mono (by decide : 1 ≤ 26)
  refine F.def sc_is_shop rfl fun cdv A outer s H E f hG hr tk pw => ?_
  exact (s_cons (s_if (mt_bool (mw_or (t_not (t_val (me_def D_is_sized hG hr (fun σ => passAt tk σ) (a_cons (e_var 0) (a_cons e_int a_nil))))) (mw_or (t_not (t_val (me_def D_is_tuple_of hG hr (fun σ => passAt tk σ) (a_cons (me_ix (e_var 0) e_int) (a_cons (e_fn D_is_name) a_nil))))) (mw_or1 (t_not (t_val (me_def D_is_tuple_of hG hr (fun σ => passAt tk σ) (a_cons (me_ix (e_var 0) e_int) (a_cons (e_fn D_is_name) a_nil)))))))))
  (s_one (s_ret e_bl))
  s_nil)
  (s_cons (s_asg (e_var 0) (mg_tup rfl (mgs_cons (mg_name 1 nd_is_shop) (mgs_cons (mg_name 2 nd_is_shop) (mgs_cons (mg_name 3 nd_is_shop) (mgs_cons (mg_name 4 nd_is_shop) mgs_nil)))) (gs_len 3 (gs_len 2 (gs_len 1 (gs_len 0 gs0_len))))))
  (s_cons (s_if (mt_bool (mw_or (t_not (t_chain r_le r_le e_int (me_blt (id := "len") c_len T.b_len boot_len (a_cons (e_var 1) a_nil)) (e_con T.c_MOST_STANDINGS))) (mw_or1 (t_cmp r_lt (me_blt (id := "len") c_lenD T.b_len boot_len (a_cons (e_dc [("name", 5)] rfl nd_is_shop (i_seq (e_var 1)) (blkOk_by (N := N_is_shop) (sc := defScope (top 31)) (by decide +kernel)) (fun _ _ _ _ _ => (mg_name 5 nd_is_shop)) (fun _ _ _ _ _ => ts_nil) (fun _ _ _ _ _ => (e_var 5)) (fun _ _ _ _ _ => e_bl)) a_nil)) (me_blt (id := "len") c_len T.b_len boot_len (a_cons (e_var 1) a_nil))))))
  (s_one (s_ret e_bl))
  s_nil)
  (s_cons (s_if (mt_bool (mw_or (t_cmp (r_eq (hu64 hr)) (e_var 2) (me_tup a_nil)) (mw_or (t_not (t_val (me_def D_is_ascending hG hr (fun σ => passAt tk σ) (a_cons (e_var 2) a_nil)))) (mw_or1 (t_not (t_val (me_def D_is_tuple_of hG hr (fun σ => passAt tk σ) (a_cons (e_var 3) (a_cons (e_fn D_is_deed) a_nil)))))))))
  (s_one (s_ret e_bl))
  s_nil)
  (s_cons (s_if (mt_bool (mw_or (t_not (t_chain r_le r_le e_int (me_blt (id := "len") c_len T.b_len boot_len (a_cons (e_var 3) a_nil)) (e_con T.c_MOST_DEEDS))) (mw_or1 (t_not (t_val (me_def D_is_ascending hG hr (fun σ => passAt tk σ) (a_cons (me_lc [("deed", 6)] rfl nd_is_shop (i_seq (e_var 3)) (blkOk_by (N := N_is_shop) (sc := defScope (top 31)) (by decide +kernel)) (fun _ _ _ _ _ => (mg_name 6 nd_is_shop)) (fun _ _ _ _ _ => ts_nil) (fun _ _ _ _ _ => (me_ix (e_var 6) e_int))) a_nil)))))))
  (s_one (s_ret e_bl))
  s_nil)
  (s_one (s_ret (me_or (me_cmp r_is (e_var 4) e_non) (me_one (me_def D_is_name hG hr (fun σ => passAt tk σ) (a_cons (e_var 4) a_nil)))))))))))
abbrev N_inner : List Str := ["price", "part"]
theorem nd_inner : (N_inner).Nodup := by decide +kernel
theorem sc_inner : FnScope N_inner ["price"] (defScope (top 35)) := ⟨rfl, rfl, rfl, nd_inner, rfl, by decide +kernel, by decide +kernel⟩
def m_inner : List D → M D := bodyM 2 (retM (lcM (seqI (slM (varM 0) (opP (cM (.int 1))) noP)) (gN 1) (tV (bltM isiP (consM (varM 1) (consM (cM (.ty "tuple")) nilM)))) (varM 1) [1]))
theorem d_inner (T : Txt P K mg) (F : Fnd K mg "inner" 35 ["price"]) : Def P w K mg base (L2.CX P w) 1 "inner" 1 m_inner := by
  refine F.def sc_inner rfl fun cdv A outer s H E f hG hr tk pw => ?_
  exact (s_one (s_ret (me_lc [("part", 1)] rfl nd_inner (i_seq (me_slice (e_var 0) (o_some e_int) o_none)) (blkOk_by (N := N_inner) (sc := defScope (top 35)) (by decide +kernel)) (fun _ _ _ _ _ => (mg_name 1 nd_inner)) (fun _ _ _ _ _ => (mts_one (t_val (me_blt (id := "isinstance") c_isi T.b_isinstance PyProof.Rows.boot_isinstance (a_cons (e_var 1) (a_cons (e_ty (T := "tuple") T.b_tuple PyProof.Rows.boot_tuple) a_nil)))))) (fun _ _ _ _ _ => (e_var 1)))))
abbrev N_deep : List Str := ["price", "part"]
theorem nd_deep : (N_deep).Nodup := by decide +kernel
theorem sc_deep : FnScope N_deep ["price"] (defScope (top 36)) := ⟨rfl, rfl, rfl, nd_deep, rfl, by decide +kernel, by decide +kernel⟩
def m_deep : Nat → List D → M D
  | 0 => fun _ => M.bad
  | n + 1 => bodyM 2 (retM (bltM maxP (consM (bin2 addP (lstM (consM (cM (.int 0)) nilM)) (lcM (seqI (callM 1 m_inner (consM (varM 0) nilM))) (gN 1) yesT (bin2 addP (cM (.int 1)) (callM 1 (m_deep n) (consM (varM 1) nilM))) [1])) nilM)))
theorem d_deep (T : Txt P K mg) (F : Fnd K mg "deep" 36 ["price"]) (D_inner : Def P w K mg base (L2.CX P w) 1 "inner" 1 m_inner) : ∀ n, Def P w K mg base (L2.CX P w) (1 + n) "deep" 1 (m_deep n)
  | 0 => F.bad _ rfl
  | n + 1 => by
      have D_deep := d_deep T F D_inner n
      have D_inner := D_inner.mono (Nat.le_trans (by decide : 1 ≤ 1) (Nat.le_add_right 1 n))
      refine F.def sc_deep rfl fun cdv A outer s H E f hG hr tk pw => ?_
      exact (s_one (s_ret (me_blt (id := "max") (c_max rfl) T.b_max PyProof.Rows.boot_max (a_cons (me_bin r_add (me_lst (a_cons e_int a_nil)) (me_lc [("part", 1)] rfl nd_deep (i_seq (me_def D_inner hG hr (fun σ => passAt tk σ) (a_cons (e_var 0) a_nil))) (blkOk_by (N := N_deep) (sc := defScope (top 36)) (by decide +kernel)) (fun _ _ _ _ _ => (mg_name 1 nd_deep)) (fun _ _ _ _ _ => ts_nil) (fun _ _ _ _ _ => (me_bin r_add e_int (me_def D_deep hG hr (fun σ => passAt (W := fun _ _ _ _ => False) takes0 σ) (a_cons (e_var 1) a_nil)))))) a_nil))))
abbrev N_many_parts : List Str := ["price", "part"]
theorem nd_many_parts : (N_many_parts).Nodup := by decide +kernel
theorem sc_many_parts : FnScope N_many_parts ["price"] (defScope (top 37)) := ⟨rfl, rfl, rfl, nd_many_parts, rfl, by decide +kernel, by decide +kernel⟩
def m_many_parts : Nat → List D → M D
  | 0 => fun _ => M.bad
  | n + 1 => bodyM 2 (retM (bin2 addP (cM (.int 1)) (bltM sumP (consM (lcM (seqI (callM 1 m_inner (consM (varM 0) nilM))) (gN 1) yesT (callM 1 (m_many_parts n) (consM (varM 1) nilM)) [1]) nilM))))
theorem d_many_parts (T : Txt P K mg) (F : Fnd K mg "many_parts" 37 ["price"]) (D_inner : Def P w K mg base (L2.CX P w) 1 "inner" 1 m_inner) : ∀ n, Def P w K mg base (L2.CX P w) (1 + n) "many_parts" 1 (m_many_parts n)
  | 0 => F.bad _ rfl
  | n + 1 => by
      have D_many_parts := d_many_parts T F D_inner n
      have D_inner := D_inner.mono (Nat.le_trans (by decide : 1 ≤ 1) (Nat.le_add_right 1 n))
      refine F.def sc_many_parts rfl fun cdv A outer s H E f hG hr tk pw => ?_
      exact (s_one (s_ret (me_bin r_add e_int (me_blt (id := "sum") (c_sum rfl) T.b_sum PyProof.Rows.boot_sum (a_cons (me_lc [("part", 1)] rfl nd_many_parts (i_seq (me_def D_inner hG hr (fun σ => passAt tk σ) (a_cons (e_var 0) a_nil))) (blkOk_by (N := N_many_parts) (sc := defScope (top 37)) (by decide +kernel)) (fun _ _ _ _ _ => (mg_name 1 nd_many_parts)) (fun _ _ _ _ _ => ts_nil) (fun _ _ _ _ _ => (me_def D_many_parts hG hr (fun σ => passAt (W := fun _ _ _ _ => False) takes0 σ) (a_cons (e_var 1) a_nil)))) a_nil)))))
abbrev N_check_size : List Str := ["price"]
theorem nd_check_size : (N_check_size).Nodup := by decide +kernel
theorem sc_check_size : FnScope N_check_size ["price"] (defScope (top 38)) := ⟨rfl, rfl, rfl, nd_check_size, rfl, by decide +kernel, by decide +kernel⟩
def m_check_size : List D → M D := bodyM 1 (seqM (ifM (tV (bin2 gtP (callM 1 (m_deep 20) (consM (varM 0) nilM)) (cM c_MOST_DEEP)))
  (raiseM "TooLarge" (two "what" "limit" (consM (cM (.str "deep")) (consM (cM c_MOST_DEEP) nilM))))
  nilS)
  (ifM (tV (bin2 gtP (callM 1 (m_many_parts 20) (consM (varM 0) nilM)) (cM c_MOST_PARTS)))
  (raiseM "TooLarge" (two "what" "limit" (consM (cM (.str "parts")) (consM (cM c_MOST_PARTS) nilM))))
  nilS))
theorem d_check_size (T : Txt P K mg) (F : Fnd K mg "check_size" 38 ["price"]) (D_deep : Def P w K mg base (L2.CX P w) 21 "deep" 1 (m_deep 20)) (D_many_parts : Def P w K mg base (L2.CX P w) 21 "many_parts" 1 (m_many_parts 20)) : Def P w K mg base (L2.CX P w) 22 "check_size" 1 m_check_size := by
  refine F.def sc_check_size rfl fun cdv A outer s H E f hG hr tk pw => ?_
  obtain ⟨a_TooLarge, g_TooLarge⟩ := T.g_TooLarge
  exact (s_cons (s_if (t_cmp r_gt (me_def D_deep hG hr (fun σ => passAt tk σ) (a_cons (e_var 0) a_nil)) (e_con T.c_MOST_DEEP))
  (s_one (s_raise rfl tk (mk_2 T.x_TooLarge ini_TooLarge hr (a_cons e_str (a_cons (e_con T.c_MOST_DEEP) a_nil)))))
  s_nil)
  (s_one (s_if (t_cmp r_gt (me_def D_many_parts hG hr (fun σ => passAt tk σ) (a_cons (e_var 0) a_nil)) (e_con T.c_MOST_PARTS))
  (s_one (s_raise rfl tk (mk_2 T.x_TooLarge ini_TooLarge hr (a_cons e_str (a_cons (e_con T.c_MOST_PARTS) a_nil)))))
  s_nil)))
abbrev N_check_price : List Str := ["thing"]
theorem nd_check_price : (N_check_price).Nodup := by decide +kernel
theorem sc_check_price : FnScope N_check_price ["thing"] (defScope (top 39)) := ⟨rfl, rfl, rfl, nd_check_price, rfl, by decide +kernel, by decide +kernel⟩
def m_check_price : List D → M D := bodyM 1 (seqM (ifM (notT (tV (callM 1 (m_is_price 20) (consM (varM 0) nilM))))
  (raiseM "Nothing" (fun _ => M.pure []))
  nilS)
  (exprM (callM 1 m_check_size (consM (varM 0) nilM))))
theorem d_check_price (T : Txt P K mg) (F : Fnd K mg "check_price" 39 ["thing"]) (D_is_price : Def P w K mg base (L2.CX P w) 24 "is_price" 1 (m_is_price 20)) (D_check_size : Def P w K mg base (L2.CX P w) 22 "check_size" 1 m_check_size) : Def P w K mg base (L2.CX P w) 25 "check_price" 1 m_check_price := by
  have D_check_size := D_check_size.mono (by decide : 22 ≤ 24)
  refine F.def sc_check_price rfl fun cdv A outer s H E f hG hr tk pw => ?_
  obtain ⟨a_Nothing, g_Nothing⟩ := T.g_Nothing
  exact (s_cons (s_if (t_not (t_val (me_def D_is_price hG hr (fun σ => passAt tk σ) (a_cons (e_var 0) a_nil))))
  (s_one (s_raise rfl tk (mk_0 T.x_Nothing)))
  s_nil)
  (s_one (s_expr (me_def D_check_size hG hr (fun σ => passAt tk σ) (a_cons (e_var 0) a_nil)))))
abbrev N_check_shop : List Str := ["shop", "deed", "found", "standings", "ends", "deeds", "shown", "name", "begin", "end", "price"]
theorem nd_check_shop : (N_check_shop).Nodup := by decide +kernel
theorem sc_check_shop : FnScope N_check_shop ["shop"] (defScope (top 40)) := ⟨rfl, rfl, rfl, nd_check_shop, rfl, by decide +kernel, by decide +kernel⟩
def m_check_shop : List D → M D := bodyM 11 (seqM (ifM (notT (tV (callM 1 m_is_shop (consM (varM 0) nilM))))
  (raiseM "Nothing" (fun _ => M.pure []))
  nilS)
  (seqM (asgM (gT (gs1 (gN 3) (gs1 (gN 4) (gs1 (gN 5) (gs1 (gN 6) gs0))))) (varM 0))
  (seqM (forM (seqI (varM 5)) (gN 1)
  (exprM (callM 1 m_check_size (consM (bin2 ixP (varM 1) (cM (.int 3))) nilM))))
  (seqM (ifM (tV (bin2 neP (lcM (seqI (varM 4)) (gN 7) (tV (bin2 ninP (varM 7) (varM 3))) (varM 7) [7]) (lstM nilM)))
  (raiseM "BadShop" (two "where" "fault" (consM (tupM (consM (cM (.str "ends")) (consM (cM (.int 0)) nilM))) (consM (cM (.str "standing")) nilM))))
  nilS)
  (seqM (forM (seqI (varM 5)) (gT (gs1 (gN 7) (gs1 (gN 8) (gs1 (gN 9) (gs1 (gN 10) gs0)))))
  (ifM (orM (tV (bin2 ninP (varM 8) (varM 3))) (tV (bin2 ninP (varM 9) (varM 3))))
  (raiseM "BadShop" (two "where" "fault" (consM (tupM (consM (cM (.str "deed")) (consM (varM 7) nilM))) (consM (cM (.str "standing")) nilM))))
  nilS))
  (seqM (ifM (tV (bin2 isP (varM 6) (cM .non)))
  retN
  nilS)
  (seqM (setM 2 (lcM (seqI (varM 5)) (gN 1) (tV (bin2 eqP (bin2 ixP (varM 1) (cM (.int 0))) (varM 6))) (varM 1) [1]))
  (seqM (ifM (tV (bin2 eqP (varM 2) (lstM nilM)))
  (raiseM "BadShop" (two "where" "fault" (consM (tupM (consM (cM (.str "shown")) (consM (cM (.int 0)) nilM))) (consM (cM (.str "deed")) nilM))))
  nilS)
  (ifM (orM (tV (bin2 neP (bin2 ixP (bin2 ixP (varM 2) (cM (.int 0))) (cM (.int 1))) (bin2 ixP (varM 3) (cM (.int 0))))) (tV (bin2 ninP (bin2 ixP (bin2 ixP (varM 2) (cM (.int 0))) (cM (.int 2))) (varM 4))))
  (raiseM "BadShop" (two "where" "fault" (consM (tupM (consM (cM (.str "shown")) (consM (cM (.int 0)) nilM))) (consM (cM (.str "standing")) nilM))))
  nilS)))))))))
theorem d_check_shop (T : Txt P K mg) (F : Fnd K mg "check_shop" 40 ["shop"]) (D_is_shop : Def P w K mg base (L2.CX P w) 27 "is_shop" 1 m_is_shop) (D_check_size : Def P w K mg base (L2.CX P w) 22 "check_size" 1 m_check_size) : Def P w K mg base (L2.CX P w) 28 "check_shop" 1 m_check_shop := by
  have D_check_size := D_check_size.mono (by decide : 22 ≤ 27)
  refine F.def sc_check_shop rfl fun cdv A outer s H E f hG hr tk pw => ?_
  obtain ⟨a_BadShop, g_BadShop⟩ := T.g_BadShop
  obtain ⟨a_Nothing, g_Nothing⟩ := T.g_Nothing
  exact (s_cons (s_if (t_not (t_val (me_def D_is_shop hG hr (fun σ => passAt tk σ) (a_cons (e_var 0) a_nil))))
  (s_one (s_raise rfl tk (mk_0 T.x_Nothing)))
  s_nil)
  (s_cons (s_asg (e_var 0) (mg_tup rfl (mgs_cons (mg_name 3 nd_check_shop) (mgs_cons (mg_name 4 nd_check_shop) (mgs_cons (mg_name 5 nd_check_shop) (mgs_cons (mg_name 6 nd_check_shop) mgs_nil)))) (gs_len 3 (gs_len 2 (gs_len 1 (gs_len 0 gs0_len))))))
  (s_cons (ms_for pw rfl (i_seq (e_var 5)) (mg_name 1 nd_check_shop)
  (s_one (s_expr (me_def D_check_size hG hr (fun σ => passAt tk σ) (a_cons (me_ix (e_var 1) e_int) a_nil)))))
  (s_cons (s_if (t_cmp (r_ne (hu64 hr)) (me_lc [("name", 7)] rfl nd_check_shop (i_seq (e_var 4)) (blkOk_by (N := N_check_shop) (sc := defScope (top 40)) (by decide +kernel)) (fun _ _ _ _ _ => (mg_name 7 nd_check_shop)) (fun _ _ _ _ _ => (mts_one (t_cmp r_nin (e_var 7) (e_var 3)))) (fun _ _ _ _ _ => (e_var 7))) (me_lst a_nil))
  (s_one (s_raise rfl tk (mk_2 T.x_BadShop ini_BadShop hr (a_cons (me_tup (a_cons e_str (a_cons e_int a_nil))) (a_cons e_str a_nil)))))
  s_nil)
  (s_cons (ms_for pw rfl (i_seq (e_var 5)) (mg_tup rfl (mgs_cons (mg_name 7 nd_check_shop) (mgs_cons (mg_name 8 nd_check_shop) (mgs_cons (mg_name 9 nd_check_shop) (mgs_cons (mg_name 10 nd_check_shop) mgs_nil)))) (gs_len 3 (gs_len 2 (gs_len 1 (gs_len 0 gs0_len)))))
  (s_one (s_if (mt_bool (mw_or (t_cmp r_nin (e_var 8) (e_var 3)) (mw_or1 (t_cmp r_nin (e_var 9) (e_var 3)))))
  (s_one (s_raise rfl tk (mk_2 T.x_BadShop ini_BadShop hr (a_cons (me_tup (a_cons e_str (a_cons (e_var 7) a_nil))) (a_cons e_str a_nil)))))
  s_nil)))
  (s_cons (s_if (t_cmp r_is (e_var 6) e_non)
  (s_one s_retN)
  s_nil)
  (s_cons (s_setlc 2 [("deed", 1)] rfl nd_check_shop (i_seq (e_var 5)) (blkOk_by (N := N_check_shop) (sc := defScope (top 40)) (by decide +kernel)) (fun _ _ _ _ _ => (mg_name 1 nd_check_shop)) (fun _ _ _ _ _ => (mts_one (t_cmp (r_eq (hu64 hr)) (me_ix (e_var 1) e_int) (e_var 6)))) (fun _ _ _ _ _ => (e_var 1)))
  (s_cons (s_if (t_cmp (r_eq (hu64 hr)) (e_var 2) (me_lst a_nil))
  (s_one (s_raise rfl tk (mk_2 T.x_BadShop ini_BadShop hr (a_cons (me_tup (a_cons e_str (a_cons e_int a_nil))) (a_cons e_str a_nil)))))
  s_nil)
  (s_one (s_if (mt_bool (mw_or (t_cmp (r_ne (hu64 hr)) (me_ix (me_ix (e_var 2) e_int) e_int) (me_ix (e_var 3) e_int)) (mw_or1 (t_cmp r_nin (me_ix (me_ix (e_var 2) e_int) e_int) (e_var 4)))))
  (s_one (s_raise rfl tk (mk_2 T.x_BadShop ini_BadShop hr (a_cons (me_tup (a_cons e_str (a_cons e_int a_nil))) (a_cons e_str a_nil)))))
  s_nil))))))))))
abbrev N_checked_shop : List Str := ["thing"]
theorem nd_checked_shop : (N_checked_shop).Nodup := by decide +kernel
theorem sc_checked_shop : FnScope N_checked_shop ["thing"] (defScope (top 41)) := ⟨rfl, rfl, rfl, nd_checked_shop, rfl, by decide +kernel, by decide +kernel⟩
def m_checked_shop : List D → M D := bodyM 1 (seqM (exprM (callM 1 m_check_shop (consM (varM 0) nilM)))
  (retM (varM 0)))
theorem d_checked_shop (T : Txt P K mg) (F : Fnd K mg "checked_shop" 41 ["thing"]) (D_check_shop : Def P w K mg base (L2.CX P w) 28 "check_shop" 1 m_check_shop) : Def P w K mg base (L2.CX P w) 29 "checked_shop" 1 m_checked_shop := by
  refine F.def sc_checked_shop rfl fun cdv A outer s H E f hG hr tk pw => ?_
  exact (s_cons (s_expr (me_def D_check_shop hG hr (fun σ => passAt tk σ) (a_cons (e_var 0) a_nil)))
  (s_one (s_ret (e_var 0))))
abbrev N_deed_of : List Str := ["shop", "name", "found", "deed"]
theorem nd_deed_of : (N_deed_of).Nodup := by decide +kernel
theorem sc_deed_of : FnScope N_deed_of ["shop", "name"] (defScope (top 42)) := ⟨rfl, rfl, rfl, nd_deed_of, rfl, by decide +kernel, by decide +kernel⟩
def m_deed_of : List D → M D := bodyM 4 (seqM (exprM (callM 1 m_check_shop (consM (varM 0) nilM)))
  (seqM (setM 2 (lcM (seqI (bin2 ixP (varM 0) (cM (.int 2)))) (gN 3) (andM (tV (callM 1 m_is_name (consM (varM 1) nilM))) (tV (bin2 eqP (bin2 ixP (varM 3) (cM (.int 0))) (varM 1)))) (varM 3) [3]))
  (seqM (ifM (tV (bin2 eqP (varM 2) (lstM nilM)))
  (raiseM "Nothing" (fun _ => M.pure []))
  nilS)
  (retM (bin2 ixP (varM 2) (cM (.int 0)))))))
theorem d_deed_of (T : Txt P K mg) (F : Fnd K mg "deed_of" 42 ["shop", "name"]) (D_is_name : Def P w K mg base (L2.CX P w) 1 "is_name" 1 m_is_name) (D_check_shop : Def P w K mg base (L2.CX P w) 28 "check_shop" 1 m_check_shop) : Def P w K mg base (L2.CX P w) 29 "deed_of" 2 m_deed_of := by
  have D_is_name := D_is_name.mono (by decide : 1 ≤ 28)
  refine F.def sc_deed_of rfl fun cdv A outer s H E f hG hr tk pw => ?_
  obtain ⟨a_Nothing, g_Nothing⟩ := T.g_Nothing
  exact (s_cons (s_expr (me_def D_check_shop hG hr (fun σ => passAt tk σ) (a_cons (e_var 0) a_nil)))
  (s_cons (s_setlc 2 [("deed", 3)] rfl nd_deed_of (i_seq (me_ix (e_var 0) e_int)) (blkOk_by (N := N_deed_of) (sc := defScope (top 42)) (by decide +kernel)) (fun _ _ _ _ _ => (mg_name 3 nd_deed_of)) (fun _ _ _ _ _ => (mts_one (mt_bool (mw_and (t_val (me_def D_is_name hG hr (fun σ => passAt (W := fun _ _ _ _ => False) takes0 σ) (a_cons (e_var 1) a_nil))) (mw_and1 (t_cmp (r_eq (hu64 hr)) (me_ix (e_var 3) e_int) (e_var 1))))))) (fun _ _ _ _ _ => (e_var 3)))
  (s_cons (s_if (t_cmp (r_eq (hu64 hr)) (e_var 2) (me_lst a_nil))
  (s_one (s_raise rfl tk (mk_0 T.x_Nothing)))
  s_nil)
  (s_one (s_ret (me_ix (e_var 2) e_int))))))
abbrev N_deeds_from : List Str := ["shop", "standing", "deed"]
theorem nd_deeds_from : (N_deeds_from).Nodup := by decide +kernel
theorem sc_deeds_from : FnScope N_deeds_from ["shop", "standing"] (defScope (top 43)) := ⟨rfl, rfl, rfl, nd_deeds_from, rfl, by decide +kernel, by decide +kernel⟩
def m_deeds_from : List D → M D := bodyM 3 (seqM (exprM (callM 1 m_check_shop (consM (varM 0) nilM)))
  (seqM (ifM (orM (notT (tV (callM 1 m_is_name (consM (varM 1) nilM)))) (tV (bin2 ninP (varM 1) (bin2 ixP (varM 0) (cM (.int 0))))))
  (raiseM "Nothing" (fun _ => M.pure []))
  nilS)
  (retM (bltM tupleP (consM (lcM (seqI (bin2 ixP (varM 0) (cM (.int 2)))) (gN 2) (tV (bin2 eqP (bin2 ixP (varM 2) (cM (.int 1))) (varM 1))) (varM 2) [2]) nilM)))))
theorem d_deeds_from (T : Txt P K mg) (F : Fnd K mg "deeds_from" 43 ["shop", "standing"]) (D_is_name : Def P w K mg base (L2.CX P w) 1 "is_name" 1 m_is_name) (D_check_shop : Def P w K mg base (L2.CX P w) 28 "check_shop" 1 m_check_shop) : Def P w K mg base (L2.CX P w) 29 "deeds_from" 2 m_deeds_from := by
  have D_is_name := D_is_name.mono (by decide : 1 ≤ 28)
  refine F.def sc_deeds_from rfl fun cdv A outer s H E f hG hr tk pw => ?_
  obtain ⟨a_Nothing, g_Nothing⟩ := T.g_Nothing
  exact (s_cons (s_expr (me_def D_check_shop hG hr (fun σ => passAt tk σ) (a_cons (e_var 0) a_nil)))
  (s_cons (s_if (mt_bool (mw_or (t_not (t_val (me_def D_is_name hG hr (fun σ => passAt tk σ) (a_cons (e_var 1) a_nil)))) (mw_or1 (t_cmp r_nin (e_var 1) (me_ix (e_var 0) e_int)))))
  (s_one (s_raise rfl tk (mk_0 T.x_Nothing)))
  s_nil)
  (s_one (s_ret (me_bty (T := "tuple") c_tuple T.b_tuple PyProof.Rows.boot_tuple (a_cons (me_lc [("deed", 2)] rfl nd_deeds_from (i_seq (me_ix (e_var 0) e_int)) (blkOk_by (N := N_deeds_from) (sc := defScope (top 43)) (by decide +kernel)) (fun _ _ _ _ _ => (mg_name 2 nd_deeds_from)) (fun _ _ _ _ _ => (mts_one (t_cmp (r_eq (hu64 hr)) (me_ix (e_var 2) e_int) (e_var 1)))) (fun _ _ _ _ _ => (e_var 2))) a_nil))))))
abbrev N__law_size : List Str := ["price", "its", "one"]
theorem nd__law_size : (N__law_size).Nodup := by decide +kernel
theorem sc__law_size : FnScope N__law_size ["price"] (defScope (top 45)) := ⟨rfl, rfl, rfl, nd__law_size, rfl, by decide +kernel, by decide +kernel⟩
def m__law_size : Nat → List D → M D
  | 0 => fun _ => M.bad
  | n + 1 => bodyM 3 (seqM (setM 1 (lcM (seqI (slM (varM 0) (opP (cM (.int 1))) noP)) (gN 2) (tV (bltM isiP (consM (varM 2) (consM (cM (.ty "tuple")) nilM)))) (callM 1 (m__law_size n) (consM (varM 2) nilM)) [2]))
  (retM (tupM (consM (bltM maxP (consM (bin2 addP (lstM (consM (cM (.int 0)) nilM)) (lcM (seqI (varM 1)) (gN 2) yesT (bin2 addP (cM (.int 1)) (bin2 ixP (varM 2) (cM (.int 0)))) [2])) nilM)) (consM (bin2 addP (cM (.int 1)) (bltM sumP (consM (lcM (seqI (varM 1)) (gN 2) yesT (bin2 ixP (varM 2) (cM (.int 1))) [2]) nilM))) nilM)))))
theorem d__law_size (T : Txt P K mg) (F : Fnd K mg "_law_size" 45 ["price"]) : ∀ n, Def P w K mg base (L2.CX P w) (0 + n) "_law_size" 1 (m__law_size n)
  | 0 => F.bad _ rfl
  | n + 1 => by
      have D__law_size := d__law_size T F  n
      refine F.def sc__law_size rfl fun cdv A outer s H E f hG hr tk pw => ?_
      exact (s_cons (s_setlc 1 [("one", 2)] rfl nd__law_size (i_seq (me_slice (e_var 0) (o_some e_int) o_none)) (blkOk_by (N := N__law_size) (sc := defScope (top 45)) (by decide +kernel)) (fun _ _ _ _ _ => (mg_name 2 nd__law_size)) (fun _ _ _ _ _ => (mts_one (t_val (me_blt (id := "isinstance") c_isi T.b_isinstance PyProof.Rows.boot_isinstance (a_cons (e_var 2) (a_cons (e_ty (T := "tuple") T.b_tuple PyProof.Rows.boot_tuple) a_nil)))))) (fun _ _ _ _ _ => (me_def D__law_size hG hr (fun σ => passAt (W := fun _ _ _ _ => False) takes0 σ) (a_cons (e_var 2) a_nil))))
  (s_one (s_ret (me_tup (a_cons (me_blt (id := "max") (c_max rfl) T.b_max PyProof.Rows.boot_max (a_cons (me_bin r_add (me_lst (a_cons e_int a_nil)) (me_lc [("one", 2)] rfl nd__law_size (i_seq (e_var 1)) (blkOk_by (N := N__law_size) (sc := defScope (top 45)) (by decide +kernel)) (fun _ _ _ _ _ => (mg_name 2 nd__law_size)) (fun _ _ _ _ _ => ts_nil) (fun _ _ _ _ _ => (me_bin r_add e_int (me_ix (e_var 2) e_int))))) a_nil)) (a_cons (me_bin r_add e_int (me_blt (id := "sum") (c_sum rfl) T.b_sum PyProof.Rows.boot_sum (a_cons (me_lc [("one", 2)] rfl nd__law_size (i_seq (e_var 1)) (blkOk_by (N := N__law_size) (sc := defScope (top 45)) (by decide +kernel)) (fun _ _ _ _ _ => (mg_name 2 nd__law_size)) (fun _ _ _ _ _ => ts_nil) (fun _ _ _ _ _ => (me_ix (e_var 2) e_int))) a_nil))) a_nil))))))
abbrev N__law_take : List Str := ["bag", "many", "begin", "second", "cell", "stirred", "value"]
theorem nd__law_take : (N__law_take).Nodup := by decide +kernel
theorem sc__law_take : FnScope N__law_take ["bag", "many"] (defScope (top 46)) := ⟨rfl, rfl, rfl, nd__law_take, rfl, by decide +kernel, by decide +kernel⟩
def m__law_take : List D → M D := bodyM 7 (seqM (ifM (tV (bin2 eqP (bin2 ixP (varM 0) (cM (.int 0))) (cM (.int 0))))
  (seqM (setM 4 (bin2 ixP (bin2 addP (slM (bin2 ixP (varM 0) (cM (.int 3))) (opP (bin2 ixP (varM 0) (cM (.int 2)))) noP) (lstM (consM (cM (.int 0)) nilM))) (cM (.int 0))))
  (seqM (augM (varM 0) (cM (.int 2)) (cM (.int 1)))
  (seqM (ifM (tV (bin2 geP (varM 4) (bin2 powP (cM (.int 10)) (cM (.int 18)))))
  (putM (varM 0) (cM (.int 0)) (varM 4))
  nilS)
  (seqM (setM 5 (bin2 addP (bin2 addP (bin2 mulP (bin2 ixP (varM 0) (cM (.int 1))) (cM (.int 48271))) (bin2 modP (bltM intP (consM (varM 4) nilM)) (cM (.int 2147483647)))) (bin2 mulP (cM (.int 7919)) (bin2 ixP (varM 0) (cM (.int 2))))))
  (putM (varM 0) (cM (.int 1)) (bin2 modP (bltM intP (consM (varM 5) nilM)) (cM (.int 2147483647))))))))
  nilS)
  (seqM (ifM (tV (bin2 gtP (bin2 ixP (varM 0) (cM (.int 0))) (cM (.int 0))))
  (seqM (setM 6 (bin2 modP (bltM intP (consM (bin2 ixP (varM 0) (cM (.int 0))) nilM)) (varM 1)))
  (seqM (putM (varM 0) (cM (.int 0)) (bin2 divP (bltM intP (consM (bin2 ixP (varM 0) (cM (.int 0))) nilM)) (varM 1)))
  (retM (varM 6))))
  nilS)
  (seqM (setM 2 (bin2 modP (bltM intP (consM (bin2 mulP (bin2 addP (bin2 ixP (varM 0) (cM (.int 1))) (cM (.int 1))) (cM (.int 39373))) nilM)) (cM (.int 1000000007))))
  (seqM (setM 3 (bin2 modP (bltM intP (consM (bin2 mulP (bin2 modP (bltM intP (consM (bin2 mulP (varM 2) (varM 2)) nilM)) (cM (.int 998244353))) (cM (.int 30011))) nilM)) (cM (.int 998244353))))
  (retM (bin2 modP (bltM intP (consM (bin2 divP (varM 3) (cM (.int 7))) nilM)) (varM 1)))))))
theorem d__law_take (T : Txt P K mg) (F : Fnd K mg "_law_take" 46 ["bag", "many"]) : Def P w K mg base (L2.CX P w) 1 "_law_take" 2 m__law_take := by
  refine F.def sc__law_take rfl fun cdv A outer s H E f hG hr tk pw => ?_
  exact (s_cons (s_if (t_cmp (r_eq (hu64 hr)) (me_ix (e_var 0) e_int) e_int)
  (s_cons (s_set 4 nd__law_take (me_ix (me_bin r_add (me_slice (me_ix (e_var 0) e_int) (o_some (me_ix (e_var 0) e_int)) o_none) (me_lst (a_cons e_int a_nil))) e_int))
  (s_cons (s_aug (e_var 0) e_int e_int)
  (s_cons (s_if (t_cmp r_ge (e_var 4) (me_bin r_pow e_int e_int))
  (s_one (s_put (e_var 0) e_int (e_var 4)))
  s_nil)
  (s_cons (s_set 5 nd__law_take (me_bin r_add (me_bin r_add (me_bin r_mul (me_ix (e_var 0) e_int) e_int) (me_bin r_mod (me_bty (T := "int") c_int T.b_int PyProof.Rows.boot_int (a_cons (e_var 4) a_nil)) e_int)) (me_bin r_mul e_int (me_ix (e_var 0) e_int))))
  (s_one (s_put (e_var 0) e_int (me_bin r_mod (me_bty (T := "int") c_int T.b_int PyProof.Rows.boot_int (a_cons (e_var 5) a_nil)) e_int)))))))
  s_nil)
  (s_cons (s_if (t_cmp r_gt (me_ix (e_var 0) e_int) e_int)
  (s_cons (s_set 6 nd__law_take (me_bin r_mod (me_bty (T := "int") c_int T.b_int PyProof.Rows.boot_int (a_cons (me_ix (e_var 0) e_int) a_nil)) (e_var 1)))
  (s_cons (s_put (e_var 0) e_int (me_bin r_div (me_bty (T := "int") c_int T.b_int PyProof.Rows.boot_int (a_cons (me_ix (e_var 0) e_int) a_nil)) (e_var 1)))
  (s_one (s_ret (e_var 6)))))
  s_nil)
  (s_cons (s_set 2 nd__law_take (me_bin r_mod (me_bty (T := "int") c_int T.b_int PyProof.Rows.boot_int (a_cons (me_bin r_mul (me_bin r_add (me_ix (e_var 0) e_int) e_int) e_int) a_nil)) e_int))
  (s_cons (s_set 3 nd__law_take (me_bin r_mod (me_bty (T := "int") c_int T.b_int PyProof.Rows.boot_int (a_cons (me_bin r_mul (me_bin r_mod (me_bty (T := "int") c_int T.b_int PyProof.Rows.boot_int (a_cons (me_bin r_mul (e_var 2) (e_var 2)) a_nil)) e_int) e_int) a_nil)) e_int))
  (s_one (s_ret (me_bin r_mod (me_bty (T := "int") c_int T.b_int PyProof.Rows.boot_int (a_cons (me_bin r_div (e_var 3) e_int) a_nil)) (e_var 1))))))))
abbrev N__law_some : List Str := ["bag", "things"]
theorem nd__law_some : (N__law_some).Nodup := by decide +kernel
theorem sc__law_some : FnScope N__law_some ["bag", "things"] (defScope (top 47)) := ⟨rfl, rfl, rfl, nd__law_some, rfl, by decide +kernel, by decide +kernel⟩
def m__law_some : List D → M D := bodyM 2 (retM (bin2 ixP (varM 1) (callM 2 m__law_take (consM (varM 0) (consM (bltM lenP (consM (varM 1) nilM)) nilM)))))
theorem d__law_some (T : Txt P K mg) (F : Fnd K mg "_law_some" 47 ["bag", "things"]) (D__law_take : Def P w K mg base (L2.CX P w) 1 "_law_take" 2 m__law_take) : Def P w K mg base (L2.CX P w) 2 "_law_some" 2 m__law_some := by
  refine F.def sc__law_some rfl fun cdv A outer s H E f hG hr tk pw => ?_
  exact (s_one (s_ret (me_ix (e_var 1) (me_def D__law_take hG hr (fun σ => passAt tk σ) (a_cons (e_var 0) (a_cons (me_blt (id := "len") c_len T.b_len boot_len (a_cons (e_var 1) a_nil)) a_nil))))))
abbrev N__law_bag : List Str := ["script", "cell"]
theorem nd__law_bag : (N__law_bag).Nodup := by decide +kernel
theorem sc__law_bag : FnScope N__law_bag ["script"] (defScope (top 48)) := ⟨rfl, rfl, rfl, nd__law_bag, rfl, by decide +kernel, by decide +kernel⟩
def m__law_bag : List D → M D := bodyM 2 (retM (cellM (consM (cM (.int 0)) (consM (cM (.int 1234567891)) (consM (cM (.int 0)) (consM (lcM (seqI (slM (varM 0) noP (opP (cM (.int 63))))) (gN 1) yesT (bltM absP (consM (varM 1) nilM)) [1]) nilM))))))
theorem d__law_bag (T : Txt P K mg) (F : Fnd K mg "_law_bag" 48 ["script"]) : Def P w K mg base (L2.CX P w) 1 "_law_bag" 1 m__law_bag := by
  refine F.def sc__law_bag rfl fun cdv A outer s H E f hG hr tk pw => ?_
  exact (s_one (s_ret (e_cell (a_cons e_int (a_cons e_int (a_cons e_int (a_cons (me_lc [("cell", 1)] rfl nd__law_bag (i_seq (me_slice (e_var 0) o_none (o_some e_int))) (blkOk_by (N := N__law_bag) (sc := defScope (top 48)) (by decide +kernel)) (fun _ _ _ _ _ => (mg_name 1 nd__law_bag)) (fun _ _ _ _ _ => ts_nil) (fun _ _ _ _ _ => (me_blt (id := "abs") c_abs T.b_abs PyProof.Rows.boot_abs (a_cons (e_var 1) a_nil)))) a_nil)))))))
abbrev N__law_mixed : List Str := ["bag", "things", "found", "thing"]
theorem nd__law_mixed : (N__law_mixed).Nodup := by decide +kernel
theorem sc__law_mixed : FnScope N__law_mixed ["bag", "things"] (defScope (top 49)) := ⟨rfl, rfl, rfl, nd__law_mixed, rfl, by decide +kernel, by decide +kernel⟩
def m__law_mixed : List D → M D := bodyM 4 (seqM (setM 2 (cellM nilM))
  (seqM (forM (seqI (varM 1)) (gN 3)
  (exprM (methM "list" insertP (varM 2) (consM (callM 2 m__law_take (consM (varM 0) (consM (bin2 addP (bltM lenP (consM (varM 2) nilM)) (cM (.int 1))) nilM))) (consM (varM 3) nilM)))))
  (retM (varM 2))))
theorem d__law_mixed (T : Txt P K mg) (F : Fnd K mg "_law_mixed" 49 ["bag", "things"]) (D__law_take : Def P w K mg base (L2.CX P w) 1 "_law_take" 2 m__law_take) : Def P w K mg base (L2.CX P w) 2 "_law_mixed" 2 m__law_mixed := by
  refine F.def sc__law_mixed rfl fun cdv A outer s H E f hG hr tk pw => ?_
  exact (s_cons (s_set 2 nd__law_mixed (e_cell a_nil))
  (s_cons (ms_for pw rfl (i_seq (e_var 1)) (mg_name 3 nd__law_mixed)
  (s_one (s_expr (me_meth PySem.F.plainAttrs_list PySem.F.slot_list_insert ty_list_insert m_insert (e_var 2) (a_cons (me_def D__law_take hG hr (fun σ => passAt tk σ) (a_cons (e_var 0) (a_cons (me_bin r_add (me_blt (id := "len") c_len T.b_len boot_len (a_cons (e_var 2) a_nil)) e_int) a_nil))) (a_cons (e_var 3) a_nil))))))
  (s_one (s_ret (e_var 2)))))
abbrev N__law_big_price : List Str := ["bag", "deep_v", "way", "one", "other"]
theorem nd__law_big_price : (N__law_big_price).Nodup := by decide +kernel
theorem sc__law_big_price : FnScope N__law_big_price ["bag", "deep_v"] (defScope (top 50)) := ⟨rfl, rfl, rfl, nd__law_big_price, rfl, by decide +kernel, by decide +kernel⟩
def m__law_big_price : Nat → List D → M D
  | 0 => fun _ => M.bad
  | n + 1 => bodyM 5 (seqM (setM 2 (ifV (tV (bin2 gtP (varM 1) (cM (.int 0)))) (callM 2 m__law_take (consM (varM 0) (consM (cM (.int 11)) nilM))) (callM 2 m__law_take (consM (varM 0) (consM (cM (.int 5)) nilM)))))
  (seqM (ifM (tV (bin2 ltP (varM 2) (cM (.int 2))))
  (retM (tupM (consM (callM 2 m__law_some (consM (varM 0) (consM (lstM (consM (cM (.str "money")) (consM (cM (.str "each")) nilM))) nilM))) (consM (callM 2 m__law_some (consM (varM 0) (consM (lstM (consM (cM (.int 0)) (consM (cM (.int 7)) (consM (un1 negP (cM (.int 12))) (consM (cM (.int 1000000)) (consM (un1 negP (cM (.int 1000000))) (consM (cM (.int 45)) nilM))))))) nilM))) nilM))))
  nilS)
  (seqM (ifM (tV (bin2 ltP (varM 2) (cM (.int 4))))
  (retM (tupM (consM (callM 2 m__law_some (consM (varM 0) (consM (lstM (consM (cM (.str "packs")) (consM (cM (.str "full")) nilM))) nilM))) (consM (callM 2 m__law_some (consM (varM 0) (consM (lstM (consM (cM (.int 2)) (consM (cM (.int 6)) (consM (cM (.int 60)) nilM)))) nilM))) (consM (callM 2 m__law_some (consM (varM 0) (consM (lstM (consM (cM (.int 3)) (consM (un1 negP (cM (.int 4))) (consM (cM (.int 99)) nilM)))) nilM))) nilM)))))
  nilS)
  (seqM (ifM (tV (bin2 eqP (varM 2) (cM (.int 4))))
  (retM (tupM (consM (cM (.str "barred")) nilM)))
  nilS)
  (seqM (parM 3 4 (consM (callM 2 (m__law_big_price n) (consM (varM 0) (consM (bin2 subP (varM 1) (cM (.int 1))) nilM))) (consM (callM 2 (m__law_big_price n) (consM (varM 0) (consM (bin2 subP (varM 1) (cM (.int 1))) nilM))) nilM)))
  (seqM (ifM (tV (bin2 eqP (varM 2) (cM (.int 5))))
  (retM (tupM (consM (cM (.str "from")) (consM (callM 2 m__law_some (consM (varM 0) (consM (lstM (consM (cM (.int 1)) (consM (cM (.int 12)) (consM (cM (.int 200)) nilM)))) nilM))) (consM (varM 3) (consM (varM 4) nilM))))))
  nilS)
  (seqM (ifM (tV (bin2 eqP (varM 2) (cM (.int 6))))
  (retM (tupM (consM (cM (.str "share")) (consM (varM 3) (consM (callM 2 m__law_some (consM (varM 0) (consM (lstM (consM (cM (.int 0)) (consM (cM (.int 19)) (consM (cM (.int 999)) nilM)))) nilM))) (consM (callM 2 m__law_some (consM (varM 0) (consM (lstM (consM (cM (.int 1)) (consM (cM (.int 100)) (consM (cM (.int 1000)) nilM)))) nilM))) (consM (callM 2 m__law_some (consM (varM 0) (consM (lstM (consM (cM (.str "down")) (consM (cM (.str "half")) (consM (cM (.str "up")) nilM)))) nilM))) nilM)))))))
  nilS)
  (seqM (ifM (tV (bin2 eqP (varM 2) (cM (.int 7))))
  (retM (tupM (consM (cM (.str "above")) (consM (varM 3) (consM (callM 2 m__law_some (consM (varM 0) (consM (lstM (consM (un1 negP (cM (.int 5))) (consM (cM (.int 0)) (consM (cM (.int 100)) nilM)))) nilM))) (consM (varM 4) (consM (callM 2 (m__law_big_price n) (consM (varM 0) (consM (bin2 subP (varM 1) (cM (.int 1))) nilM))) nilM)))))))
  nilS)
  (retM (tupM (consM (callM 2 m__law_some (consM (varM 0) (consM (lstM (consM (cM (.str "plus")) (consM (cM (.str "less")) (consM (cM (.str "least")) (consM (cM (.str "greatest")) nilM))))) nilM))) (consM (varM 3) (consM (varM 4) nilM)))))))))))))
theorem d__law_big_price (T : Txt P K mg) (F : Fnd K mg "_law_big_price" 50 ["bag", "deep_v"]) (D__law_take : Def P w K mg base (L2.CX P w) 1 "_law_take" 2 m__law_take) (D__law_some : Def P w K mg base (L2.CX P w) 2 "_law_some" 2 m__law_some) : ∀ n, Def P w K mg base (L2.CX P w) (2 + n) "_law_big_price" 2 (m__law_big_price n)
  | 0 => F.bad _ rfl
  | n + 1 => by
      have D__law_big_price := d__law_big_price T F D__law_take D__law_some n
      have D__law_take := D__law_take.mono (Nat.le_trans (by decide : 1 ≤ 2) (Nat.le_add_right 2 n))
      have D__law_some := D__law_some.mono (Nat.le_trans (by decide : 2 ≤ 2) (Nat.le_add_right 2 n))
      refine F.def sc__law_big_price rfl fun cdv A outer s H E f hG hr tk pw => ?_
      exact (s_cons (s_set 2 nd__law_big_price (e_if (t_cmp r_gt (e_var 1) e_int) (me_def D__law_take hG hr (fun σ => passAt tk σ) (a_cons (e_var 0) (a_cons e_int a_nil))) (me_def D__law_take hG hr (fun σ => passAt tk σ) (a_cons (e_var 0) (a_cons e_int a_nil)))))
  (s_cons (s_if (t_cmp r_lt (e_var 2) e_int)
  (s_one (s_ret (me_tup (a_cons (me_def D__law_some hG hr (fun σ => passAt tk σ) (a_cons (e_var 0) (a_cons (me_lst (a_cons e_str (a_cons e_str a_nil))) a_nil))) (a_cons (me_def D__law_some hG hr (fun σ => passAt tk σ) (a_cons (e_var 0) (a_cons (me_lst (a_cons e_int (a_cons e_int (a_cons (me_un r_neg e_int) (a_cons e_int (a_cons (me_un r_neg e_int) (a_cons e_int a_nil))))))) a_nil))) a_nil)))))
  s_nil)
  (s_cons (s_if (t_cmp r_lt (e_var 2) e_int)
  (s_one (s_ret (me_tup (a_cons (me_def D__law_some hG hr (fun σ => passAt tk σ) (a_cons (e_var 0) (a_cons (me_lst (a_cons e_str (a_cons e_str a_nil))) a_nil))) (a_cons (me_def D__law_some hG hr (fun σ => passAt tk σ) (a_cons (e_var 0) (a_cons (me_lst (a_cons e_int (a_cons e_int (a_cons e_int a_nil)))) a_nil))) (a_cons (me_def D__law_some hG hr (fun σ => passAt tk σ) (a_cons (e_var 0) (a_cons (me_lst (a_cons e_int (a_cons (me_un r_neg e_int) (a_cons e_int a_nil)))) a_nil))) a_nil))))))
  s_nil)
  (s_cons (s_if (t_cmp (r_eq (hu64 hr)) (e_var 2) e_int)
  (s_one (s_ret (me_tup (a_cons e_str a_nil))))
  s_nil)
  (s_cons (s_par 3 4 rfl nd__law_big_price (a_cons (me_def D__law_big_price hG hr (fun σ => passAt tk σ) (a_cons (e_var 0) (a_cons (me_bin r_sub (e_var 1) e_int) a_nil))) (a_cons (me_def D__law_big_price hG hr (fun σ => passAt tk σ) (a_cons (e_var 0) (a_cons (me_bin r_sub (e_var 1) e_int) a_nil))) a_nil)))
  (s_cons (s_if (t_cmp (r_eq (hu64 hr)) (e_var 2) e_int)
  (s_one (s_ret (me_tup (a_cons e_str (a_cons (me_def D__law_some hG hr (fun σ => passAt tk σ) (a_cons (e_var 0) (a_cons (me_lst (a_cons e_int (a_cons e_int (a_cons e_int a_nil)))) a_nil))) (a_cons (e_var 3) (a_cons (e_var 4) a_nil)))))))
  s_nil)
  (s_cons (s_if (t_cmp (r_eq (hu64 hr)) (e_var 2) e_int)
  (s_one (s_ret (me_tup (a_cons e_str (a_cons (e_var 3) (a_cons (me_def D__law_some hG hr (fun σ => passAt tk σ) (a_cons (e_var 0) (a_cons (me_lst (a_cons e_int (a_cons e_int (a_cons e_int a_nil)))) a_nil))) (a_cons (me_def D__law_some hG hr (fun σ => passAt tk σ) (a_cons (e_var 0) (a_cons (me_lst (a_cons e_int (a_cons e_int (a_cons e_int a_nil)))) a_nil))) (a_cons (me_def D__law_some hG hr (fun σ => passAt tk σ) (a_cons (e_var 0) (a_cons (me_lst (a_cons e_str (a_cons e_str (a_cons e_str a_nil)))) a_nil))) a_nil))))))))
  s_nil)
  (s_cons (s_if (t_cmp (r_eq (hu64 hr)) (e_var 2) e_int)
  (s_one (s_ret (me_tup (a_cons e_str (a_cons (e_var 3) (a_cons (me_def D__law_some hG hr (fun σ => passAt tk σ) (a_cons (e_var 0) (a_cons (me_lst (a_cons (me_un r_neg e_int) (a_cons e_int (a_cons e_int a_nil)))) a_nil))) (a_cons (e_var 4) (a_cons (me_def D__law_big_price hG hr (fun σ => passAt tk σ) (a_cons (e_var 0) (a_cons (me_bin r_sub (e_var 1) e_int) a_nil))) a_nil))))))))
  s_nil)
  (s_one (s_ret (me_tup (a_cons (me_def D__law_some hG hr (fun σ => passAt tk σ) (a_cons (e_var 0) (a_cons (me_lst (a_cons e_str (a_cons e_str (a_cons e_str (a_cons e_str a_nil))))) a_nil))) (a_cons (e_var 3) (a_cons (e_var 4) a_nil))))))))))))))
abbrev N__law_big_shop : List Str := ["bag", "names", "ends", "deeds", "first", "name", "begin", "end", "price"]
theorem nd__law_big_shop : (N__law_big_shop).Nodup := by decide +kernel
theorem sc__law_big_shop : FnScope N__law_big_shop ["bag"] (defScope (top 51)) := ⟨rfl, rfl, rfl, nd__law_big_shop, rfl, by decide +kernel, by decide +kernel⟩
def m__law_big_shop : List D → M D := bodyM 9 (seqM (setM 1 (bltM tupleP (consM (slM (callM 2 m__law_mixed (consM (varM 0) (consM (lstM (consM (cM (.str "plain")) (consM (cM (.str "card")) (consM (cM (.str "gold")) (consM (cM (.str "s3")) nilM))))) nilM))) noP (opP (bin2 addP (cM (.int 1)) (callM 2 m__law_take (consM (varM 0) (consM (cM (.int 4)) nilM)))))) nilM)))
  (seqM (setM 2 (bltM tupleP (consM (bltM sortedP (consM (slM (callM 2 m__law_mixed (consM (varM 0) (consM (bltM listP (consM (varM 1) nilM)) nilM))) noP (opP (bin2 addP (cM (.int 1)) (callM 2 m__law_take (consM (varM 0) (consM (bltM lenP (consM (varM 1) nilM)) nilM)))))) nilM)) nilM)))
  (seqM (setM 3 (lcM (seqI (slM (tupM (consM (cM (.str "buy")) (consM (cM (.str "d1")) (consM (cM (.str "go2")) (consM (cM (.str "plain")) (consM (cM (.str "z")) nilM)))))) noP (opP (bin2 addP (cM (.int 1)) (callM 2 m__law_take (consM (varM 0) (consM (cM (.int 5)) nilM))))))) (gN 5) yesT (tupM (consM (varM 5) (consM (callM 2 m__law_some (consM (varM 0) (consM (varM 1) nilM))) (consM (callM 2 m__law_some (consM (varM 0) (consM (varM 1) nilM))) (consM (callM 2 (m__law_big_price 20) (consM (varM 0) (consM (cM (.int 2)) nilM))) nilM))))) [5]))
  (seqM (setM 4 (lcM (seqI (varM 3)) (gT (gs1 (gN 5) (gs1 (gN 6) (gs1 (gN 7) (gs1 (gN 8) gs0))))) (andM (tV (bin2 eqP (varM 6) (bin2 ixP (varM 1) (cM (.int 0))))) (tV (bin2 inP (varM 7) (varM 2)))) (varM 5) [5, 6, 7, 8]))
  (retM (tupM (consM (varM 1) (consM (varM 2) (consM (bltM tupleP (consM (bltM sortedP (consM (varM 3) nilM)) nilM)) (consM (ifV (andM (tV (bin2 neP (varM 4) (lstM nilM))) (tV (bin2 eqP (callM 2 m__law_take (consM (varM 0) (consM (cM (.int 2)) nilM))) (cM (.int 0))))) (bin2 ixP (varM 4) (cM (.int 0))) (cM .non)) nilM))))))))))
theorem d__law_big_shop (T : Txt P K mg) (F : Fnd K mg "_law_big_shop" 51 ["bag"]) (D__law_take : Def P w K mg base (L2.CX P w) 1 "_law_take" 2 m__law_take) (D__law_some : Def P w K mg base (L2.CX P w) 2 "_law_some" 2 m__law_some) (D__law_mixed : Def P w K mg base (L2.CX P w) 2 "_law_mixed" 2 m__law_mixed) (D__law_big_price : Def P w K mg base (L2.CX P w) 22 "_law_big_price" 2 (m__law_big_price 20)) : Def P w K mg base (L2.CX P w) 23 "_law_big_shop" 1 m__law_big_shop := by
  have D__law_take := D__law_take.mono (by decide : 1 ≤ 22)
  have D__law_some := D__law_some.mono (by decide : 2 ≤ 22)
  have D__law_mixed := D__law_mixed.mono (by decide : 2 ≤ 22)
  refine F.def sc__law_big_shop rfl fun cdv A outer s H E f hG hr tk pw => ?_
  exact (s_cons (s_set 1 nd__law_big_shop (me_bty (T := "tuple") c_tuple T.b_tuple PyProof.Rows.boot_tuple (a_cons (me_slice (me_def D__law_mixed hG hr (fun σ => passAt tk σ) (a_cons (e_var 0) (a_cons (me_lst (a_cons e_str (a_cons e_str (a_cons e_str (a_cons e_str a_nil))))) a_nil))) o_none (o_some (me_bin r_add e_int (me_def D__law_take hG hr (fun σ => passAt tk σ) (a_cons (e_var 0) (a_cons e_int a_nil)))))) a_nil)))
  (s_cons (s_set 2 nd__law_big_shop (me_bty (T := "tuple") c_tuple T.b_tuple PyProof.Rows.boot_tuple (a_cons (me_blt (id := "sorted") c_sorted T.b_sorted PyProof.Rows.boot_sorted (a_cons (me_slice (me_def D__law_mixed hG hr (fun σ => passAt tk σ) (a_cons (e_var 0) (a_cons (me_bty (T := "list") c_list T.b_list PyProof.Rows.boot_list (a_cons (e_var 1) a_nil)) a_nil))) o_none (o_some (me_bin r_add e_int (me_def D__law_take hG hr (fun σ => passAt tk σ) (a_cons (e_var 0) (a_cons (me_blt (id := "len") c_len T.b_len boot_len (a_cons (e_var 1) a_nil)) a_nil)))))) a_nil)) a_nil)))
  (s_cons (s_setlc 3 [("name", 5)] rfl nd__law_big_shop (i_seq (me_slice (me_tup (a_cons e_str (a_cons e_str (a_cons e_str (a_cons e_str (a_cons e_str a_nil)))))) o_none (o_some (me_bin r_add e_int (me_def D__law_take hG hr (fun σ => passAt tk σ) (a_cons (e_var 0) (a_cons e_int a_nil))))))) (blkOk_by (N := N__law_big_shop) (sc := defScope (top 51)) (by decide +kernel)) (fun _ _ _ _ _ => (mg_name 5 nd__law_big_shop)) (fun _ _ _ _ _ => ts_nil) (fun _ _ _ _ _ => (me_tup (a_cons (e_var 5) (a_cons (me_def D__law_some hG hr (fun σ => passAt (W := fun _ _ _ _ => False) takes0 σ) (a_cons (e_var 0) (a_cons (e_var 1) a_nil))) (a_cons (me_def D__law_some hG hr (fun σ => passAt (W := fun _ _ _ _ => False) takes0 σ) (a_cons (e_var 0) (a_cons (e_var 1) a_nil))) (a_cons (me_def D__law_big_price hG hr (fun σ => passAt (W := fun _ _ _ _ => False) takes0 σ) (a_cons (e_var 0) (a_cons e_int a_nil))) a_nil)))))))
  (s_cons (s_setlc 4 [("name", 5), ("begin", 6), ("end", 7), ("price", 8)] rfl nd__law_big_shop (i_seq (e_var 3)) (blkOk_by (N := N__law_big_shop) (sc := defScope (top 51)) (by decide +kernel)) (fun _ _ _ _ _ => (mg_tup rfl (mgs_cons (mg_name 5 nd__law_big_shop) (mgs_cons (mg_name 6 nd__law_big_shop) (mgs_cons (mg_name 7 nd__law_big_shop) (mgs_cons (mg_name 8 nd__law_big_shop) mgs_nil)))) (gs_len 3 (gs_len 2 (gs_len 1 (gs_len 0 gs0_len)))))) (fun _ _ _ _ _ => (mts_one (mt_bool (mw_and (t_cmp (r_eq (hu64 hr)) (e_var 6) (me_ix (e_var 1) e_int)) (mw_and1 (t_cmp r_in (e_var 7) (e_var 2))))))) (fun _ _ _ _ _ => (e_var 5)))
  (s_one (s_ret (me_tup (a_cons (e_var 1) (a_cons (e_var 2) (a_cons (me_bty (T := "tuple") c_tuple T.b_tuple PyProof.Rows.boot_tuple (a_cons (me_blt (id := "sorted") c_sorted T.b_sorted PyProof.Rows.boot_sorted (a_cons (e_var 3) a_nil)) a_nil)) (a_cons (e_if (mt_bool (mw_and (t_cmp (r_ne (hu64 hr)) (e_var 4) (me_lst a_nil)) (mw_and1 (t_cmp (r_eq (hu64 hr)) (me_def D__law_take hG hr (fun σ => passAt tk σ) (a_cons (e_var 0) (a_cons e_int a_nil))) e_int)))) (me_ix (e_var 4) e_int) e_non) a_nil)))))))))))
abbrev N__law_alike : List Str := ["found", "wanted"]
theorem nd__law_alike : (N__law_alike).Nodup := by decide +kernel
theorem sc__law_alike : FnScope N__law_alike ["found", "wanted"] (defScope (top 52)) := ⟨rfl, rfl, rfl, nd__law_alike, rfl, by decide +kernel, by decide +kernel⟩
def m__law_alike : List D → M D := bodyM 2 (retM (andV (bin2 eqP (bltM reprP (consM (varM 0) nilM)) (bltM reprP (consM (varM 1) nilM))) (bin2 eqP (varM 0) (varM 1))))
theorem d__law_alike (T : Txt P K mg) (F : Fnd K mg "_law_alike" 52 ["found", "wanted"]) : Def P w K mg base (L2.CX P w) 1 "_law_alike" 2 m__law_alike := by
  refine F.def sc__law_alike rfl fun cdv A outer s H E f hG hr tk pw => ?_
  exact (s_one (s_ret (me_and (me_cmp (r_eq (hu64 hr)) (me_blt (id := "repr") (c_repr hG hr) T.b_repr PyProof.Rows.boot_repr (a_cons (e_var 0) a_nil)) (me_blt (id := "repr") (c_repr hG hr) T.b_repr PyProof.Rows.boot_repr (a_cons (e_var 1) a_nil))) (me_one (me_cmp (r_eq (hu64 hr)) (e_var 0) (e_var 1))))))
abbrev N__law_due_of : List Str := ["shop", "shown", "name", "begin", "end", "price", "deep_v", "parts", "deed"]
theorem nd__law_due_of : (N__law_due_of).Nodup := by decide +kernel
theorem sc__law_due_of : FnScope N__law_due_of ["shop"] (defScope (top 53)) := ⟨rfl, rfl, rfl, nd__law_due_of, rfl, by decide +kernel, by decide +kernel⟩
def m__law_due_of : List D → M D := bodyM 9 (seqM (forM (seqI (bin2 ixP (varM 0) (cM (.int 2)))) (gT (gs1 (gN 2) (gs1 (gN 3) (gs1 (gN 4) (gs1 (gN 5) gs0)))))
  (seqM (asgM (gT (gs1 (gN 6) (gs1 (gN 7) gs0))) (callM 1 (m__law_size 20) (consM (varM 5) nilM)))
  (ifM (orM (tV (bin2 gtP (varM 6) (cM (.int 12)))) (tV (bin2 gtP (varM 7) (cM (.int 40)))))
  (retM (ifV (tV (bin2 gtP (varM 6) (cM (.int 12)))) (tupM (consM (cM (.str "large")) (consM (cM (.str "deep")) (consM (cM (.int 12)) nilM)))) (tupM (consM (cM (.str "large")) (consM (cM (.str "parts")) (consM (cM (.int 40)) nilM))))))
  nilS)))
  (seqM (ifM (tV (bin2 neP (lcM (seqI (bin2 ixP (varM 0) (cM (.int 1)))) (gN 2) (tV (bin2 ninP (varM 2) (bin2 ixP (varM 0) (cM (.int 0))))) (varM 2) [2]) (lstM nilM)))
  (retM (tupM (consM (cM (.str "shop")) (consM (tupM (consM (cM (.str "ends")) (consM (cM (.int 0)) nilM))) (consM (cM (.str "standing")) nilM)))))
  nilS)
  (seqM (forM (seqI (bin2 ixP (varM 0) (cM (.int 2)))) (gT (gs1 (gN 2) (gs1 (gN 3) (gs1 (gN 4) (gs1 (gN 5) gs0)))))
  (ifM (orM (tV (bin2 ninP (varM 3) (bin2 ixP (varM 0) (cM (.int 0))))) (tV (bin2 ninP (varM 4) (bin2 ixP (varM 0) (cM (.int 0))))))
  (retM (tupM (consM (cM (.str "shop")) (consM (tupM (consM (cM (.str "deed")) (consM (varM 2) nilM))) (consM (cM (.str "standing")) nilM)))))
  nilS))
  (seqM (setM 1 (lcM (seqI (bin2 ixP (varM 0) (cM (.int 2)))) (gN 8) (tV (bin2 eqP (bin2 ixP (varM 8) (cM (.int 0))) (bin2 ixP (varM 0) (cM (.int 3))))) (varM 8) [8]))
  (seqM (ifM (andM (tV (bin2 isnP (bin2 ixP (varM 0) (cM (.int 3))) (cM .non))) (tV (bin2 eqP (varM 1) (lstM nilM))))
  (retM (tupM (consM (cM (.str "shop")) (consM (tupM (consM (cM (.str "shown")) (consM (cM (.int 0)) nilM))) (consM (cM (.str "deed")) nilM)))))
  nilS)
  (seqM (ifM (andM (tV (bin2 isnP (bin2 ixP (varM 0) (cM (.int 3))) (cM .non))) (orM (tV (bin2 neP (bin2 ixP (bin2 ixP (varM 1) (cM (.int 0))) (cM (.int 1))) (bin2 ixP (bin2 ixP (varM 0) (cM (.int 0))) (cM (.int 0))))) (tV (bin2 ninP (bin2 ixP (bin2 ixP (varM 1) (cM (.int 0))) (cM (.int 2))) (bin2 ixP (varM 0) (cM (.int 1)))))))
  (retM (tupM (consM (cM (.str "shop")) (consM (tupM (consM (cM (.str "shown")) (consM (cM (.int 0)) nilM))) (consM (cM (.str "standing")) nilM)))))
  nilS)
  (retM (tupM (consM (cM (.str "told")) (consM (varM 0) nilM))))))))))
theorem d__law_due_of (T : Txt P K mg) (F : Fnd K mg "_law_due_of" 53 ["shop"]) (D__law_size : Def P w K mg base (L2.CX P w) 20 "_law_size" 1 (m__law_size 20)) : Def P w K mg base (L2.CX P w) 21 "_law_due_of" 1 m__law_due_of := by
  refine F.def sc__law_due_of rfl fun cdv A outer s H E f hG hr tk pw => ?_
  exact (s_cons (ms_for pw rfl (i_seq (me_ix (e_var 0) e_int)) (mg_tup rfl (mgs_cons (mg_name 2 nd__law_due_of) (mgs_cons (mg_name 3 nd__law_due_of) (mgs_cons (mg_name 4 nd__law_due_of) (mgs_cons (mg_name 5 nd__law_due_of) mgs_nil)))) (gs_len 3 (gs_len 2 (gs_len 1 (gs_len 0 gs0_len)))))
  (s_cons (s_asg (me_def D__law_size hG hr (fun σ => passAt tk σ) (a_cons (e_var 5) a_nil)) (mg_tup rfl (mgs_cons (mg_name 6 nd__law_due_of) (mgs_cons (mg_name 7 nd__law_due_of) mgs_nil)) (gs_len 1 (gs_len 0 gs0_len))))
  (s_one (s_if (mt_bool (mw_or (t_cmp r_gt (e_var 6) e_int) (mw_or1 (t_cmp r_gt (e_var 7) e_int))))
  (s_one (s_ret (e_if (t_cmp r_gt (e_var 6) e_int) (me_tup (a_cons e_str (a_cons e_str (a_cons e_int a_nil)))) (me_tup (a_cons e_str (a_cons e_str (a_cons e_int a_nil)))))))
  s_nil))))
  (s_cons (s_if (t_cmp (r_ne (hu64 hr)) (me_lc [("name", 2)] rfl nd__law_due_of (i_seq (me_ix (e_var 0) e_int)) (blkOk_by (N := N__law_due_of) (sc := defScope (top 53)) (by decide +kernel)) (fun _ _ _ _ _ => (mg_name 2 nd__law_due_of)) (fun _ _ _ _ _ => (mts_one (t_cmp r_nin (e_var 2) (me_ix (e_var 0) e_int)))) (fun _ _ _ _ _ => (e_var 2))) (me_lst a_nil))
  (s_one (s_ret (me_tup (a_cons e_str (a_cons (me_tup (a_cons e_str (a_cons e_int a_nil))) (a_cons e_str a_nil))))))
  s_nil)
  (s_cons (ms_for pw rfl (i_seq (me_ix (e_var 0) e_int)) (mg_tup rfl (mgs_cons (mg_name 2 nd__law_due_of) (mgs_cons (mg_name 3 nd__law_due_of) (mgs_cons (mg_name 4 nd__law_due_of) (mgs_cons (mg_name 5 nd__law_due_of) mgs_nil)))) (gs_len 3 (gs_len 2 (gs_len 1 (gs_len 0 gs0_len)))))
  (s_one (s_if (mt_bool (mw_or (t_cmp r_nin (e_var 3) (me_ix (e_var 0) e_int)) (mw_or1 (t_cmp r_nin (e_var 4) (me_ix (e_var 0) e_int)))))
  (s_one (s_ret (me_tup (a_cons e_str (a_cons (me_tup (a_cons e_str (a_cons (e_var 2) a_nil))) (a_cons e_str a_nil))))))
  s_nil)))
  (s_cons (s_setlc 1 [("deed", 8)] rfl nd__law_due_of (i_seq (me_ix (e_var 0) e_int)) (blkOk_by (N := N__law_due_of) (sc := defScope (top 53)) (by decide +kernel)) (fun _ _ _ _ _ => (mg_name 8 nd__law_due_of)) (fun _ _ _ _ _ => (mts_one (t_cmp (r_eq (hu64 hr)) (me_ix (e_var 8) e_int) (me_ix (e_var 0) e_int)))) (fun _ _ _ _ _ => (e_var 8)))
  (s_cons (s_if (mt_bool (mw_and (t_cmp r_isn (me_ix (e_var 0) e_int) e_non) (mw_and1 (t_cmp (r_eq (hu64 hr)) (e_var 1) (me_lst a_nil)))))
  (s_one (s_ret (me_tup (a_cons e_str (a_cons (me_tup (a_cons e_str (a_cons e_int a_nil))) (a_cons e_str a_nil))))))
  s_nil)
  (s_cons (s_if (mt_bool (mw_and (t_cmp r_isn (me_ix (e_var 0) e_int) e_non) (mw_and1 (mt_bool (mw_or (t_cmp (r_ne (hu64 hr)) (me_ix (me_ix (e_var 1) e_int) e_int) (me_ix (me_ix (e_var 0) e_int) e_int)) (mw_or1 (t_cmp r_nin (me_ix (me_ix (e_var 1) e_int) e_int) (me_ix (e_var 0) e_int))))))))
  (s_one (s_ret (me_tup (a_cons e_str (a_cons (me_tup (a_cons e_str (a_cons e_int a_nil))) (a_cons e_str a_nil))))))
  s_nil)
  (s_one (s_ret (me_tup (a_cons e_str (a_cons (e_var 0) a_nil)))))))))))
abbrev N__law_told_of : List Str := ["shop", "error"]
theorem nd__law_told_of : (N__law_told_of).Nodup := by decide +kernel
theorem sc__law_told_of : FnScope N__law_told_of ["shop"] (defScope (top 54)) := ⟨rfl, rfl, rfl, nd__law_told_of, rfl, by decide +kernel, by decide +kernel⟩
def m__law_told_of : List D → M D := bodyM 2 (tryM subT (retM (tupM (consM (cM (.str "told")) (consM (callM 1 m_checked_shop (consM (varM 0) nilM)) nilM)))) [⟨"BadShop", (some 1), fun a dx c fn ds => (retM (tupM (consM (cM (.str "shop")) (consM (fldM flT a dx c fn 1 "where") (consM (fldM flT a dx c fn 1 "fault") nilM)))))⟩, ⟨"TooLarge", (some 1), fun a dx c fn ds => (retM (tupM (consM (cM (.str "large")) (consM (fldM flT a dx c fn 1 "what") (consM (fldM flT a dx c fn 1 "limit") nilM)))))⟩])
theorem d__law_told_of (T : Txt P K mg) (F : Fnd K mg "_law_told_of" 54 ["shop"]) (D_checked_shop : Def P w K mg base (L2.CX P w) 29 "checked_shop" 1 m_checked_shop) : Def P w K mg base (L2.CX P w) 30 "_law_told_of" 1 m__law_told_of := by
  refine F.def sc__law_told_of rfl fun cdv A outer s H E f hG hr tk pw => ?_
  obtain ⟨a_BadShop, g_BadShop⟩ := T.g_BadShop
  obtain ⟨a_TooLarge, g_TooLarge⟩ := T.g_TooLarge
  exact (s_one (s_try T.sub rfl rfl nd__law_told_of tk (fun E' pins xe tk1 pw1 => (s_one (s_ret (me_tup (a_cons e_str (a_cons (me_def D_checked_shop hG hr (fun σ => passAt tk1 σ) (a_cons (e_var 0) a_nil)) a_nil)))))) (HdOk.named rfl rfl g_BadShop rfl rfl (par_hd (fun a dx c fn ds => (par_ret (fun ρ S => by simp [fld_set, var_set, tupM, consM, nilM, lstM, M.bind, bin2, M.op2, orM, andM, notT, tV, toB, ifV, cM, M.pure, un1, M.op1, andV, orV, notV, chain2])))) (fun a ob cls d pins c dx fn ds hz hf hk => (s_one (s_ret (me_tup (a_cons e_str (a_cons (e_fld T.fl hz hf hk 1) (a_cons (e_fld T.fl hz hf hk 1) a_nil))))))) (HdOk.named rfl rfl g_TooLarge rfl rfl (par_hd (fun a dx c fn ds => (par_ret (fun ρ S => by simp [fld_set, var_set, tupM, consM, nilM, lstM, M.bind, bin2, M.op2, orM, andM, notT, tV, toB, ifV, cM, M.pure, un1, M.op1, andV, orV, notV, chain2])))) (fun a ob cls d pins c dx fn ds hz hf hk => (s_one (s_ret (me_tup (a_cons e_str (a_cons (e_fld T.fl hz hf hk 1) (a_cons (e_fld T.fl hz hf hk 1) a_nil))))))) HdOk.nil))))
abbrev N__law_large : List Str := ["bag", "turn", "wide", "price", "way"]
theorem nd__law_large : (N__law_large).Nodup := by decide +kernel
theorem sc__law_large : FnScope N__law_large ["bag"] (defScope (top 55)) := ⟨rfl, rfl, rfl, nd__law_large, rfl, by decide +kernel, by decide +kernel⟩
def m__law_large : List D → M D := bodyM 5 (seqM (parM 3 4 (consM (tupM (consM (cM (.str "each")) (consM (cM (.int 1)) nilM))) (consM (callM 2 m__law_take (consM (varM 0) (consM (cM (.int 3)) nilM))) nilM)))
  (seqM (forM (rngI1 (consM (callM 2 m__law_some (consM (varM 0) (consM (lstM (consM (cM (.int 11)) (consM (cM (.int 12)) (consM (cM (.int 13)) nilM)))) nilM))) nilM)) (gN 1)
  (setM 3 (ifV (tV (bin2 eqP (varM 4) (cM (.int 0)))) (tupM (consM (cM (.str "share")) (consM (varM 3) (consM (cM (.int 1)) (consM (cM (.int 2)) (consM (cM (.str "up")) nilM)))))) (ifV (tV (bin2 eqP (varM 4) (cM (.int 1)))) (tupM (consM (cM (.str "from")) (consM (cM (.int 3)) (consM (tupM (consM (cM (.str "barred")) nilM)) (consM (varM 3) nilM))))) (tupM (consM (cM (.str "least")) (consM (varM 3) (consM (tupM (consM (cM (.str "money")) (consM (cM (.int 2)) nilM))) nilM))))))))
  (seqM (setM 2 (tupM (consM (cM (.str "plus")) (consM (tupM (consM (cM (.str "money")) (consM (cM (.int 1)) nilM))) (consM (tupM (consM (cM (.str "each")) (consM (cM (.int 2)) nilM))) nilM)))))
  (seqM (forM (rngI1 (consM (cM (.int 4)) nilM)) (gN 1)
  (setM 2 (tupM (consM (cM (.str "plus")) (consM (varM 2) (consM (varM 2) nilM))))))
  (retM (callM 2 m__law_some (consM (varM 0) (consM (lstM (consM (varM 3) (consM (varM 2) (consM (tupM (consM (cM (.str "plus")) (consM (varM 3) (consM (varM 2) nilM)))) nilM)))) nilM))))))))
theorem d__law_large (T : Txt P K mg) (F : Fnd K mg "_law_large" 55 ["bag"]) (D__law_take : Def P w K mg base (L2.CX P w) 1 "_law_take" 2 m__law_take) (D__law_some : Def P w K mg base (L2.CX P w) 2 "_law_some" 2 m__law_some) : Def P w K mg base (L2.CX P w) 3 "_law_large" 1 m__law_large := by
  have D__law_take := D__law_take.mono (by decide : 1 ≤ 2)
  refine F.def sc__law_large rfl fun cdv A outer s H E f hG hr tk pw => ?_
  exact (s_cons (s_par 3 4 rfl nd__law_large (a_cons (me_tup (a_cons e_str (a_cons e_int a_nil))) (a_cons (me_def D__law_take hG hr (fun σ => passAt tk σ) (a_cons (e_var 0) (a_cons e_int a_nil))) a_nil)))
  (s_cons (ms_for pw rfl (i_rng1 (a_cons (me_def D__law_some hG hr (fun σ => passAt tk σ) (a_cons (e_var 0) (a_cons (me_lst (a_cons e_int (a_cons e_int (a_cons e_int a_nil)))) a_nil))) a_nil) T.b_range) (mg_name 1 nd__law_large)
  (s_one (s_set 3 nd__law_large (e_if (t_cmp (r_eq (hu64 hr)) (e_var 4) e_int) (me_tup (a_cons e_str (a_cons (e_var 3) (a_cons e_int (a_cons e_int (a_cons e_str a_nil)))))) (e_if (t_cmp (r_eq (hu64 hr)) (e_var 4) e_int) (me_tup (a_cons e_str (a_cons e_int (a_cons (me_tup (a_cons e_str a_nil)) (a_cons (e_var 3) a_nil))))) (me_tup (a_cons e_str (a_cons (e_var 3) (a_cons (me_tup (a_cons e_str (a_cons e_int a_nil))) a_nil)))))))))
  (s_cons (s_set 2 nd__law_large (me_tup (a_cons e_str (a_cons (me_tup (a_cons e_str (a_cons e_int a_nil))) (a_cons (me_tup (a_cons e_str (a_cons e_int a_nil))) a_nil)))))
  (s_cons (ms_for pw rfl (i_rng1 (a_cons e_int a_nil) T.b_range) (mg_name 1 nd__law_large)
  (s_one (s_set 2 nd__law_large (me_tup (a_cons e_str (a_cons (e_var 2) (a_cons (e_var 2) a_nil)))))))
  (s_one (s_ret (me_def D__law_some hG hr (fun σ => passAt tk σ) (a_cons (e_var 0) (a_cons (me_lst (a_cons (e_var 3) (a_cons (e_var 2) (a_cons (me_tup (a_cons e_str (a_cons (e_var 3) (a_cons (e_var 2) a_nil)))) a_nil)))) a_nil)))))))))
abbrev N__law_bent : List Str := ["bag", "shop", "way", "names", "ends", "deeds", "shown", "at", "deed"]
theorem nd__law_bent : (N__law_bent).Nodup := by decide +kernel
theorem sc__law_bent : FnScope N__law_bent ["bag", "shop"] (defScope (top 56)) := ⟨rfl, rfl, rfl, nd__law_bent, rfl, by decide +kernel, by decide +kernel⟩
def m__law_bent : List D → M D := bodyM 9 (seqM (asgM (gT (gs1 (gN 3) (gs1 (gN 4) (gs1 (gN 5) (gs1 (gN 6) gs0))))) (varM 1))
  (seqM (setM 2 (callM 2 m__law_take (consM (varM 0) (consM (cM (.int 6)) nilM))))
  (seqM (ifM (tV (bin2 eqP (varM 2) (cM (.int 0))))
  (retM (tupM (consM (varM 3) (consM (tupM (consM (cM (.str "nope")) nilM)) (consM (varM 5) (consM (varM 6) nilM))))))
  nilS)
  (seqM (ifM (tV (bin2 eqP (varM 2) (cM (.int 1))))
  (seqM (setM 7 (callM 2 m__law_take (consM (varM 0) (consM (bltM lenP (consM (varM 5) nilM)) nilM))))
  (seqM (setM 8 (bin2 addP (bin2 addP (slM (bin2 ixP (varM 5) (varM 7)) noP (opP (cM (.int 1)))) (callM 2 m__law_some (consM (varM 0) (consM (lstM (consM (tupM (consM (cM (.str "nope")) (consM (bin2 ixP (varM 3) (cM (.int 0))) nilM))) (consM (tupM (consM (bin2 ixP (varM 3) (cM (.int 0))) (consM (cM (.str "nope")) nilM))) nilM))) nilM)))) (slM (bin2 ixP (varM 5) (varM 7)) (opP (cM (.int 3))) noP)))
  (retM (tupM (consM (varM 3) (consM (varM 4) (consM (bin2 addP (bin2 addP (slM (varM 5) noP (opP (varM 7))) (tupM (consM (varM 8) nilM))) (slM (varM 5) (opP (bin2 addP (varM 7) (cM (.int 1)))) noP)) (consM (varM 6) nilM))))))))
  nilS)
  (seqM (ifM (tV (bin2 eqP (varM 2) (cM (.int 2))))
  (retM (tupM (consM (varM 3) (consM (varM 4) (consM (varM 5) (consM (callM 2 m__law_some (consM (varM 0) (consM (lstM (consM (cM (.str "nope")) (consM (bin2 ixP (bin2 ixP (varM 5) (un1 negP (cM (.int 1)))) (cM (.int 0))) (consM (bin2 ixP (bin2 ixP (varM 5) (cM (.int 0))) (cM (.int 0))) nilM)))) nilM))) nilM))))))
  nilS)
  (seqM (ifM (tV (bin2 eqP (varM 2) (cM (.int 3))))
  (seqM (setM 7 (callM 2 m__law_take (consM (varM 0) (consM (bltM lenP (consM (varM 5) nilM)) nilM))))
  (retM (tupM (consM (varM 3) (consM (varM 4) (consM (bin2 addP (bin2 addP (slM (varM 5) noP (opP (varM 7))) (tupM (consM (bin2 addP (slM (bin2 ixP (varM 5) (varM 7)) noP (opP (cM (.int 3)))) (tupM (consM (callM 1 m__law_large (consM (varM 0) nilM)) nilM))) nilM))) (slM (varM 5) (opP (bin2 addP (varM 7) (cM (.int 1)))) noP)) (consM (varM 6) nilM)))))))
  nilS)
  (retM (ifV (tV (bin2 eqP (varM 2) (cM (.int 4)))) (tupM (consM (revM (varM 3)) (consM (varM 4) (consM (varM 5) (consM (varM 6) nilM))))) (varM 1)))))))))
theorem d__law_bent (T : Txt P K mg) (F : Fnd K mg "_law_bent" 56 ["bag", "shop"]) (D__law_take : Def P w K mg base (L2.CX P w) 1 "_law_take" 2 m__law_take) (D__law_some : Def P w K mg base (L2.CX P w) 2 "_law_some" 2 m__law_some) (D__law_large : Def P w K mg base (L2.CX P w) 3 "_law_large" 1 m__law_large) : Def P w K mg base (L2.CX P w) 4 "_law_bent" 2 m__law_bent := by
  have D__law_take := D__law_take.mono (by decide : 1 ≤ 3)
  have D__law_some := D__law_some.mono (by decide : 2 ≤ 3)
  refine F.def sc__law_bent rfl fun cdv A outer s H E f hG hr tk pw => ?_
  exact (s_cons (s_asg (e_var 1) (mg_tup rfl (mgs_cons (mg_name 3 nd__law_bent) (mgs_cons (mg_name 4 nd__law_bent) (mgs_cons (mg_name 5 nd__law_bent) (mgs_cons (mg_name 6 nd__law_bent) mgs_nil)))) (gs_len 3 (gs_len 2 (gs_len 1 (gs_len 0 gs0_len))))))
  (s_cons (s_set 2 nd__law_bent (me_def D__law_take hG hr (fun σ => passAt tk σ) (a_cons (e_var 0) (a_cons e_int a_nil))))
  (s_cons (s_if (t_cmp (r_eq (hu64 hr)) (e_var 2) e_int)
  (s_one (s_ret (me_tup (a_cons (e_var 3) (a_cons (me_tup (a_cons e_str a_nil)) (a_cons (e_var 5) (a_cons (e_var 6) a_nil)))))))
  s_nil)
  (s_cons (s_if (t_cmp (r_eq (hu64 hr)) (e_var 2) e_int)
  (s_cons (s_set 7 nd__law_bent (me_def D__law_take hG hr (fun σ => passAt tk σ) (a_cons (e_var 0) (a_cons (me_blt (id := "len") c_len T.b_len boot_len (a_cons (e_var 5) a_nil)) a_nil))))
  (s_cons (s_set 8 nd__law_bent (me_bin r_add (me_bin r_add (me_slice (me_ix (e_var 5) (e_var 7)) o_none (o_some e_int)) (me_def D__law_some hG hr (fun σ => passAt tk σ) (a_cons (e_var 0) (a_cons (me_lst (a_cons (me_tup (a_cons e_str (a_cons (me_ix (e_var 3) e_int) a_nil))) (a_cons (me_tup (a_cons (me_ix (e_var 3) e_int) (a_cons e_str a_nil))) a_nil))) a_nil)))) (me_slice (me_ix (e_var 5) (e_var 7)) (o_some e_int) o_none)))
  (s_one (s_ret (me_tup (a_cons (e_var 3) (a_cons (e_var 4) (a_cons (me_bin r_add (me_bin r_add (me_slice (e_var 5) o_none (o_some (e_var 7))) (me_tup (a_cons (e_var 8) a_nil))) (me_slice (e_var 5) (o_some (me_bin r_add (e_var 7) e_int)) o_none)) (a_cons (e_var 6) a_nil)))))))))
  s_nil)
  (s_cons (s_if (t_cmp (r_eq (hu64 hr)) (e_var 2) e_int)
  (s_one (s_ret (me_tup (a_cons (e_var 3) (a_cons (e_var 4) (a_cons (e_var 5) (a_cons (me_def D__law_some hG hr (fun σ => passAt tk σ) (a_cons (e_var 0) (a_cons (me_lst (a_cons e_str (a_cons (me_ix (me_ix (e_var 5) (me_un r_neg e_int)) e_int) (a_cons (me_ix (me_ix (e_var 5) e_int) e_int) a_nil)))) a_nil))) a_nil)))))))
  s_nil)
  (s_cons (s_if (t_cmp (r_eq (hu64 hr)) (e_var 2) e_int)
  (s_cons (s_set 7 nd__law_bent (me_def D__law_take hG hr (fun σ => passAt tk σ) (a_cons (e_var 0) (a_cons (me_blt (id := "len") c_len T.b_len boot_len (a_cons (e_var 5) a_nil)) a_nil))))
  (s_one (s_ret (me_tup (a_cons (e_var 3) (a_cons (e_var 4) (a_cons (me_bin r_add (me_bin r_add (me_slice (e_var 5) o_none (o_some (e_var 7))) (me_tup (a_cons (me_bin r_add (me_slice (me_ix (e_var 5) (e_var 7)) o_none (o_some e_int)) (me_tup (a_cons (me_def D__law_large hG hr (fun σ => passAt tk σ) (a_cons (e_var 0) a_nil)) a_nil))) a_nil))) (me_slice (e_var 5) (o_some (me_bin r_add (e_var 7) e_int)) o_none)) (a_cons (e_var 6) a_nil))))))))
  s_nil)
  (s_one (s_ret (e_if (t_cmp (r_eq (hu64 hr)) (e_var 2) e_int) (me_tup (a_cons (e_rev (e_var 3)) (a_cons (e_var 4) (a_cons (e_var 5) (a_cons (e_var 6) a_nil))))) (e_var 1))))))))))
abbrev N__law_odd_call : List Str := ["shop", "way"]
theorem nd__law_odd_call : (N__law_odd_call).Nodup := by decide +kernel
theorem sc__law_odd_call : FnScope N__law_odd_call ["shop", "way"] (defScope (top 57)) := ⟨rfl, rfl, rfl, nd__law_odd_call, rfl, by decide +kernel, by decide +kernel⟩
def m__law_odd_call : List D → M D := bodyM 2 (seqM (ifM (tV (bin2 ltP (varM 1) (cM (.int 2))))
  (retM (callM 2 m_deed_of (consM (varM 0) (consM (bin2 ixP (lstM (consM (cM (.str "nope")) (consM (cM .non) nilM))) (varM 1)) nilM))))
  nilS)
  (seqM (ifM (tV (bin2 eqP (varM 1) (cM (.int 2))))
  (retM (callM 2 m_deeds_from (consM (varM 0) (consM (cM (.str "nope")) nilM))))
  nilS)
  (retM (ifV (tV (bin2 eqP (varM 1) (cM (.int 3)))) (callM 1 m_checked_shop (consM (bltM listP (consM (varM 0) nilM)) nilM)) (callM 1 m_check_price (consM (tupM (consM (cM (.str "money")) nilM)) nilM))))))
theorem d__law_odd_call (T : Txt P K mg) (F : Fnd K mg "_law_odd_call" 57 ["shop", "way"]) (D_check_price : Def P w K mg base (L2.CX P w) 25 "check_price" 1 m_check_price) (D_checked_shop : Def P w K mg base (L2.CX P w) 29 "checked_shop" 1 m_checked_shop) (D_deed_of : Def P w K mg base (L2.CX P w) 29 "deed_of" 2 m_deed_of) (D_deeds_from : Def P w K mg base (L2.CX P w) 29 "deeds_from" 2 m_deeds_from) : Def P w K mg base (L2.CX P w) 30 "_law_odd_call" 2 m__law_odd_call := by
  have D_check_price := D_check_price.mono (by decide : 25 ≤ 29)
  refine F.def sc__law_odd_call rfl fun cdv A outer s H E f hG hr tk pw => ?_
  exact (s_cons (s_if (t_cmp r_lt (e_var 1) e_int)
  (s_one (s_ret (me_def D_deed_of hG hr (fun σ => passAt tk σ) (a_cons (e_var 0) (a_cons (me_ix (me_lst (a_cons e_str (a_cons e_non a_nil))) (e_var 1)) a_nil)))))
  s_nil)
  (s_cons (s_if (t_cmp (r_eq (hu64 hr)) (e_var 1) e_int)
  (s_one (s_ret (me_def D_deeds_from hG hr (fun σ => passAt tk σ) (a_cons (e_var 0) (a_cons e_str a_nil)))))
  s_nil)
  (s_one (s_ret (e_if (t_cmp (r_eq (hu64 hr)) (e_var 1) e_int) (me_def D_checked_shop hG hr (fun σ => passAt tk σ) (a_cons (me_bty (T := "list") c_list T.b_list PyProof.Rows.boot_list (a_cons (e_var 0) a_nil)) a_nil)) (me_def D_check_price hG hr (fun σ => passAt tk σ) (a_cons (me_tup (a_cons e_str a_nil)) a_nil)))))))
abbrev N_law : List Str := ["script", "bag", "turn", "shop", "due", "price", "name", "way", "deep_v", "parts", "deed", "error"]
theorem nd_law : (N_law).Nodup := by decide +kernel
theorem sc_law : FnScope N_law ["script"] (defScope (top 58)) := ⟨rfl, rfl, rfl, nd_law, rfl, by decide +kernel, by decide +kernel⟩
def m_law : List D → M D := bodyM 12 (seqM (setM 1 (callM 1 m__law_bag (consM (varM 0) nilM)))
  (seqM (forM (rngI1 (consM (cM (.int 10)) nilM)) (gN 2)
  (seqM (setM 3 (callM 2 m__law_bent (consM (varM 1) (consM (callM 2 m__law_bent (consM (varM 1) (consM (callM 1 m__law_big_shop (consM (varM 1) nilM)) nilM))) nilM))))
  (seqM (setM 4 (callM 1 m__law_due_of (consM (varM 3) nilM)))
  (seqM (ifM (notT (tV (callM 2 m__law_alike (consM (callM 1 m__law_told_of (consM (varM 3) nilM)) (consM (varM 4) nilM)))))
  (retM (cM (.bl false)))
  nilS)
  (seqM (setM 5 (callM 1 m__law_large (consM (varM 1) nilM)))
  (seqM (asgM (gT (gs1 (gN 8) (gs1 (gN 9) gs0))) (callM 1 (m__law_size 20) (consM (varM 5) nilM)))
  (seqM (tryM subT (ifM (orM (tV (bin2 isnP (callM 1 m_check_price (consM (varM 5) nilM)) (cM .non))) (orM (tV (bin2 gtP (varM 8) (cM (.int 12)))) (tV (bin2 gtP (varM 9) (cM (.int 40))))))
  (retM (cM (.bl false)))
  nilS) [⟨"TooLarge", (some 11), fun a dx c fn ds => (ifM (orM (tV (bin2 neP (tupM (consM (fldM flT a dx c fn 11 "what") (consM (fldM flT a dx c fn 11 "limit") nilM))) (ifV (tV (bin2 gtP (varM 8) (cM (.int 12)))) (tupM (consM (cM (.str "deep")) (consM (cM (.int 12)) nilM))) (tupM (consM (cM (.str "parts")) (consM (cM (.int 40)) nilM)))))) (andM (tV (bin2 leP (varM 8) (cM (.int 12)))) (tV (bin2 leP (varM 9) (cM (.int 40))))))
  (retM (cM (.bl false)))
  nilS)⟩])
  (seqM (ifM (tV (bin2 neP (bin2 ixP (varM 4) (cM (.int 0))) (cM (.str "told"))))
  ctM
  nilS)
  (seqM (ifM (tV (bin2 neP (lcM (seqI (bin2 ixP (varM 3) (cM (.int 2)))) (gN 10) (tV (bin2 neP (callM 2 m_deed_of (consM (varM 3) (consM (bin2 ixP (varM 10) (cM (.int 0))) nilM))) (varM 10))) (varM 10) [10]) (lstM nilM)))
  (retM (cM (.bl false)))
  nilS)
  (seqM (forM (seqI (bin2 ixP (varM 3) (cM (.int 0)))) (gN 6)
  (ifM (notT (tV (callM 2 m__law_alike (consM (callM 2 m_deeds_from (consM (varM 3) (consM (varM 6) nilM))) (consM (bltM tupleP (consM (lcM (seqI (bin2 ixP (varM 3) (cM (.int 2)))) (gN 10) (tV (bin2 eqP (bin2 ixP (varM 10) (cM (.int 1))) (varM 6))) (varM 10) [10]) nilM)) nilM)))))
  (retM (cM (.bl false)))
  nilS))
  (forM (rngI1 (consM (cM (.int 5)) nilM)) (gN 7)
  (tryM subT (seqM (exprM (callM 2 m__law_odd_call (consM (varM 3) (consM (varM 7) nilM))))
  (retM (cM (.bl false)))) [⟨"Nothing", none, fun a dx c fn ds => ctM⟩]))))))))))))
  (retM (cM (.bl true)))))
theorem d_law (T : Txt P K mg) (F : Fnd K mg "law" 58 ["script"]) (D_check_price : Def P w K mg base (L2.CX P w) 25 "check_price" 1 m_check_price) (D_deed_of : Def P w K mg base (L2.CX P w) 29 "deed_of" 2 m_deed_of) (D_deeds_from : Def P w K mg base (L2.CX P w) 29 "deeds_from" 2 m_deeds_from) (D__law_size : Def P w K mg base (L2.CX P w) 20 "_law_size" 1 (m__law_size 20)) (D__law_bag : Def P w K mg base (L2.CX P w) 1 "_law_bag" 1 m__law_bag) (D__law_big_shop : Def P w K mg base (L2.CX P w) 23 "_law_big_shop" 1 m__law_big_shop) (D__law_alike : Def P w K mg base (L2.CX P w) 1 "_law_alike" 2 m__law_alike) (D__law_due_of : Def P w K mg base (L2.CX P w) 21 "_law_due_of" 1 m__law_due_of) (D__law_told_of : Def P w K mg base (L2.CX P w) 30 "_law_told_of" 1 m__law_told_of) (D__law_large : Def P w K mg base (L2.CX P w) 3 "_law_large" 1 m__law_large) (D__law_bent : Def P w K mg base (L2.CX P w) 4 "_law_bent" 2 m__law_bent) (D__law_odd_call : Def P w K mg base (L2.CX P w) 30 "_law_odd_call" 2 m__law_odd_call) : Def P w K mg base (L2.CX P w) 31 "law" 1 m_law := by
  have D_check_price := D_check_price.mono (by decide : 25 ≤ 30)
  have D_deed_of := D_deed_of.mono (by decide : 29 ≤ 30)
  have D_deeds_from := D_deeds_from.mono (by decide : 29 ≤ 30)
  have D__law_size := D__law_size.mono (by decide : 20 ≤ 30)
  have D__law_bag := D__law_bag.mono (by decide : 1 ≤ 30)
  have D__law_big_shop := D__law_big_shop.mono (by decide : 23 ≤ 30)
  have D__law_alike := D__law_alike.mono (by decide : 1 ≤ 30)
  have D__law_due_of := D__law_due_of.mono (by decide : 21 ≤ 30)
  have D__law_large := D__law_large.mono (by decide : 3 ≤ 30)
  have D__law_bent := D__law_bent.mono (by decide : 4 ≤ 30)
  refine F.def sc_law rfl fun cdv A outer s H E f hG hr tk pw => ?_
  obtain ⟨a_Nothing, g_Nothing⟩ := T.g_Nothing
  obtain ⟨a_TooLarge, g_TooLarge⟩ := T.g_TooLarge
  exact (s_cons (s_set 1 nd_law (me_def D__law_bag hG hr (fun σ => passAt tk σ) (a_cons (e_var 0) a_nil)))
  (s_cons (ms_for pw rfl (i_rng1 (a_cons e_int a_nil) T.b_range) (mg_name 2 nd_law)
  (s_cons (s_set 3 nd_law (me_def D__law_bent hG hr (fun σ => passAt tk σ) (a_cons (e_var 1) (a_cons (me_def D__law_bent hG hr (fun σ => passAt tk σ) (a_cons (e_var 1) (a_cons (me_def D__law_big_shop hG hr (fun σ => passAt tk σ) (a_cons (e_var 1) a_nil)) a_nil))) a_nil))))
  (s_cons (s_set 4 nd_law (me_def D__law_due_of hG hr (fun σ => passAt tk σ) (a_cons (e_var 3) a_nil)))
  (s_cons (s_if (t_not (t_val (me_def D__law_alike hG hr (fun σ => passAt tk σ) (a_cons (me_def D__law_told_of hG hr (fun σ => passAt tk σ) (a_cons (e_var 3) a_nil)) (a_cons (e_var 4) a_nil)))))
  (s_one (s_ret e_bl))
  s_nil)
  (s_cons (s_set 5 nd_law (me_def D__law_large hG hr (fun σ => passAt tk σ) (a_cons (e_var 1) a_nil)))
  (s_cons (s_asg (me_def D__law_size hG hr (fun σ => passAt tk σ) (a_cons (e_var 5) a_nil)) (mg_tup rfl (mgs_cons (mg_name 8 nd_law) (mgs_cons (mg_name 9 nd_law) mgs_nil)) (gs_len 1 (gs_len 0 gs0_len))))
  (s_cons (s_try T.sub rfl rfl nd_law tk (fun E' pins xe tk2 pw2 => (s_one (s_if (mt_bool (mw_or (t_cmp r_isn (me_def D_check_price hG hr (fun σ => passAt tk2 σ) (a_cons (e_var 5) a_nil)) e_non) (mw_or (t_cmp r_gt (e_var 8) e_int) (mw_or1 (t_cmp r_gt (e_var 9) e_int)))))
  (s_one (s_ret e_bl))
  s_nil))) (HdOk.named rfl rfl g_TooLarge rfl rfl (par_hd (fun a dx c fn ds => (par_if (fun ρ S => by simp [fld_set, var_set, tupM, consM, nilM, lstM, M.bind, bin2, M.op2, orM, andM, notT, tV, toB, ifV, cM, M.pure, un1, M.op1, andV, orV, notV, chain2]) (par_ret (fun ρ S => by simp [fld_set, var_set, tupM, consM, nilM, lstM, M.bind, bin2, M.op2, orM, andM, notT, tV, toB, ifV, cM, M.pure, un1, M.op1, andV, orV, notV, chain2])) par_nil))) (fun a ob cls d pins c dx fn ds hz hf hk => (s_one (s_if (mt_bool (mw_or (t_cmp (r_ne (hu64m hr)) (me_tup (a_cons (e_fld T.fl hz hf hk 11) (a_cons (e_fld T.fl hz hf hk 11) a_nil))) (e_if (t_cmp r_gt (e_var 8) e_int) (me_tup (a_cons e_str (a_cons e_int a_nil))) (me_tup (a_cons e_str (a_cons e_int a_nil))))) (mw_or1 (mt_bool (mw_and (t_cmp r_le (e_var 8) e_int) (mw_and1 (t_cmp r_le (e_var 9) e_int)))))))
  (s_one (s_ret e_bl))
  s_nil))) HdOk.nil))
  (s_cons (s_if (t_cmp (r_ne (hu64 hr)) (me_ix (e_var 4) e_int) e_str)
  (s_one s_cont)
  s_nil)
  (s_cons (s_if (t_cmp (r_ne (hu64 hr)) (me_lc [("deed", 10)] rfl nd_law (i_seq (me_ix (e_var 3) e_int)) (blkOk_by (N := N_law) (sc := defScope (top 58)) (by decide +kernel)) (fun _ _ _ _ _ => (mg_name 10 nd_law)) (fun _ _ _ _ _ => (mts_one (t_cmp (r_ne (hu64 hr)) (me_def D_deed_of hG hr (fun σ => passAt (W := fun _ _ _ _ => False) takes0 σ) (a_cons (e_var 3) (a_cons (me_ix (e_var 10) e_int) a_nil))) (e_var 10)))) (fun _ _ _ _ _ => (e_var 10))) (me_lst a_nil))
  (s_one (s_ret e_bl))
  s_nil)
  (s_cons (ms_for pw rfl (i_seq (me_ix (e_var 3) e_int)) (mg_name 6 nd_law)
  (s_one (s_if (t_not (t_val (me_def D__law_alike hG hr (fun σ => passAt tk σ) (a_cons (me_def D_deeds_from hG hr (fun σ => passAt tk σ) (a_cons (e_var 3) (a_cons (e_var 6) a_nil))) (a_cons (me_bty (T := "tuple") c_tuple T.b_tuple PyProof.Rows.boot_tuple (a_cons (me_lc [("deed", 10)] rfl nd_law (i_seq (me_ix (e_var 3) e_int)) (blkOk_by (N := N_law) (sc := defScope (top 58)) (by decide +kernel)) (fun _ _ _ _ _ => (mg_name 10 nd_law)) (fun _ _ _ _ _ => (mts_one (t_cmp (r_eq (hu64 hr)) (me_ix (e_var 10) e_int) (e_var 6)))) (fun _ _ _ _ _ => (e_var 10))) a_nil)) a_nil)))))
  (s_one (s_ret e_bl))
  s_nil)))
  (s_one (ms_for pw rfl (i_rng1 (a_cons e_int a_nil) T.b_range) (mg_name 7 nd_law)
  (s_one (s_try T.sub rfl rfl nd_law tk (fun E' pins xe tk1 pw1 => (s_cons (s_expr (me_def D__law_odd_call hG hr (fun σ => passAt tk1 σ) (a_cons (e_var 3) (a_cons (e_var 7) a_nil))))
  (s_one (s_ret e_bl)))) (HdOk.plain g_Nothing rfl rfl par_no (fun a ob cls d pins c dx fn ds hz hf hk => (s_one s_cont)) HdOk.nil)))))))))))))))
  (s_one (s_ret e_bl))))
end
end PyM
set_option Elab.async false
set_option linter.all false
set_option maxRecDepth 100000
set_option maxHeartbeats 8000000
namespace PyM
open PySem PySem.Spec PyProof.Rows L2
/- L1 -/

/-! ### running the mirror: equations for simp -/
section
variable {α β : Type} {ρ : Env'} {S S' : Store} {a b c : Env' → M D} {t u : Env' → M Bool} {ms : Env' → M (List D)} {m m' : MSt} {d d' : D} {x : α} {k : α → M β} {ks : α → Store → SR}
@[simp] theorem x_bind_ok : (match (Res.ok x S : Res α) with | .ok x S' => k x S' | .exc c fs S' => .exc c fs S' | .bad => .bad) = k x S := rfl
@[simp] theorem x_pure : (M.pure x : M α) S = .ok x S := rfl
@[simp] theorem x_bindp : M.bind (M.pure x) k = k x := rfl
@[simp] theorem x_of_ok : SR.of (.ok x S) ρ ks = ks x S := rfl
@[simp] theorem x_sbind_nx : SR.bind (.nx ρ S) m = m ρ S := rfl
@[simp] theorem x_sbind_rt : SR.bind (.rt d S) m = .rt d S := rfl
@[simp] theorem x_out_rt : SR.out (.rt d S) = .ok d S := rfl
@[simp] theorem x_body {N : Nat} {ds : List D} : bodyM N m ds S = (m (ds.map some ++ List.replicate (N - ds.length) none) S).out := rfl
@[simp] theorem x_seq : seqM m m' ρ S = SR.bind (m ρ S) m' := rfl
@[simp] theorem x_if : ifM t m m' ρ S = SR.of (t ρ S) ρ (fun k S' => if k = true then m ρ S' else m' ρ S') := rfl
@[simp] theorem x_ret : retM a ρ S = SR.of (a ρ S) ρ (fun d S' => .rt d S') := rfl
@[simp] theorem x_nil : nilS ρ S = .nx ρ S := rfl
@[simp] theorem x_set {i : Nat} : setM i a ρ S = SR.of (a ρ S) ρ (fun d S' => .nx (ρ.set i (some d)) S') := rfl
@[simp] theorem x_cM : cM d ρ S = .ok d S := rfl
@[simp] theorem x_tV : tV a ρ S = toB (a ρ) S := rfl
theorem bind_eq {mm : M α} (h : mm S = .ok x S') : M.bind mm k S = k x S' := by
  unfold M.bind
  rw [h]
theorem x_var {i : Nat} (h : ρ[i]? = some (some d)) : varM i ρ S = .ok d S := by
  show var ρ i S = _
  unfold var
  rw [h]
  rfl
end
theorem k_int_int : L2.kitB "int" "int" = some true := by decide +kernel
theorem k_int_bool : L2.kitB "int" "bool" = some false := by decide +kernel
theorem k_bl_int : L2.kitB "bool" "int" = some true := by decide +kernel
theorem k_bl_bool : L2.kitB "bool" "bool" = some true := by decide +kernel
theorem is_number_int (i : Int) (S : Store) : m_is_number [.int i] S = .ok (.bl true) S := by
  unfold m_is_number
  simp [andV, notV, toB, bltM, consM, nilM, M.bind, varM, var, M.opL, isiP, tyName, k_int_int, k_int_bool, M.lift, asB, M.pure, cM]
theorem is_number_bl (i : Bool) (S : Store) : m_is_number [.bl i] S = .ok (.bl false) S := by
  unfold m_is_number
  simp [andV, notV, toB, bltM, consM, nilM, M.bind, varM, var, M.opL, isiP, tyName, k_bl_int, k_bl_bool, M.lift, asB, M.pure, cM]
theorem is_between_int (i lo hi : Int) (S : Store) : m_is_between [.int i, .int lo, .int hi] S = .ok (.bl (decide (lo ≤ i) && decide (i ≤ hi))) S := by
  unfold m_is_between
  by_cases h1 : lo ≤ i
  · by_cases h2 : i ≤ hi
    · simp [andV, notV, toB, callM, consM, nilM, M.bind, varM, var, M.opL, M.op2, M.lift, asB, M.pure, cM, is_number_int, chain2, leP, h1, h2]
    · simp [andV, notV, toB, callM, consM, nilM, M.bind, varM, var, M.opL, M.op2, M.lift, asB, M.pure, cM, is_number_int, chain2, leP, h1, h2]
  · simp [andV, notV, toB, callM, consM, nilM, M.bind, varM, var, M.opL, M.op2, M.lift, asB, M.pure, cM, is_number_int, chain2, leP, h1]

/- L2b -/

/-- the bag as a cell -/
abbrev bagC (a b c : Int) (cs : List Int) : Cell := .lst [.int a, .int b, .int c, .lst (cs.map .int)]
/-- the next cell of the script -/
def nextCell (cs : List Int) (c : Int) : Int := (cs.drop c.toNat).headD 0
theorem cut_from (ds : List D) (c : Int) (hc : 0 ≤ c) : cutD ds (some c) none = ds.drop c.toNat := by
  have e1 : HT.sIx ds.length 0 (some c) = min c.toNat ds.length := if_neg (by omega)
  have e2 : HT.sIx ds.length ds.length none = ds.length := rfl
  unfold cutD
  rw [e1, e2]
  by_cases h : c.toNat ≤ ds.length
  · rw [Nat.min_eq_left h]
    exact List.take_of_length_le (by simp)
  · rw [Nat.min_eq_right (by omega), List.drop_eq_nil_of_le (Nat.le_refl _), List.drop_eq_nil_of_le (by omega)]
    simp
/-- [cells behind c, and 0][0] -/
theorem next_is (cs : List Int) (c : Int) : atI ((cs.map D.int).drop c.toNat ++ [D.int 0]) 0 = some (.int (nextCell cs c)) := by
  have h0 : atI ((cs.map D.int).drop c.toNat ++ [D.int 0]) ((0 : Nat) : Int) = some (.int (nextCell cs c)) := by
    refine atI_nat ?_
    unfold nextCell
    rw [← List.map_drop]
    cases cs.drop c.toNat with
    | nil => rfl
    | cons x r => rfl
  exact h0
theorem nextCell_nn {cs : List Int} (h : ∀ z ∈ cs, 0 ≤ z) (c : Int) : 0 ≤ nextCell cs c := by
  unfold nextCell
  cases e : cs.drop c.toNat with
  | nil => exact Int.le_refl _
  | cons x r => exact h x (List.mem_of_mem_drop (by rw [e]; simp))
/-- parts of the take, by values -/
theorem ix_bag (a b c : Int) (cs : List Int) (R : Store) (i : Int) : ixP (bagC a b c cs :: R) (.loc 0) (.int i) = atI [.int a, .int b, .int c, .lst (cs.map .int)] i := rfl
theorem set_bag (a b c : Int) (cs : List Int) (R : Store) (k : Int) (y : D) : setP (bagC a b c cs :: R) (.loc 0) (.int k) y = (ixN 4 k).map fun j => .lst ([.int a, .int b, .int c, .lst (cs.map .int)].set j y) :: R := by
  unfold setP cellL
  simp
  cases ixN 4 k <;> rfl

/- L3 -/

theorem at4_0 (p q r s : D) : atI [p, q, r, s] (0 : Int) = some p := rfl
theorem at4_1 (p q r s : D) : atI [p, q, r, s] (1 : Int) = some q := rfl
theorem at4_2 (p q r s : D) : atI [p, q, r, s] (2 : Int) = some r := rfl
theorem at4_3 (p q r s : D) : atI [p, q, r, s] (3 : Int) = some s := rfl
theorem ixN4_0 : ixN 4 (0 : Int) = some 0 := rfl
theorem ixN4_1 : ixN 4 (1 : Int) = some 1 := rfl
theorem ixN4_2 : ixN 4 (2 : Int) = some 2 := rfl
theorem eq_ints (S : Store) (i j : Int) : eqP S (.int i) (.int j) = some (.bl (decide (i = j))) := by
  unfold eqP eqQ scalD
  simp [L2.scal]
/-- a draw while digits of a great cell are left -/
theorem take_big (a b c many : Int) (cs : List Int) (R : Store) (ha : 0 < a) (hm : 0 < many) (hm2 : many < 1073741824) : m__law_take [.loc 0, .int many] (bagC a b c cs :: R) = .ok (.int (a % many)) (bagC (a / many) b c cs :: R) := by
  have h0 : decide (a = 0) = false := decide_eq_false (by omega)
  have h1 : decide (0 < a) = true := decide_eq_true ha
  have hd : CDiv a many := ⟨hm, hm2⟩
  unfold m__law_take
  simp [toB, bltM, consM, nilM, M.bind, varM, var, M.opL, M.op2, M.lift, asB, M.pure, bin2, ix_bag, at4_0, eq_ints, h0, gtP, ha, h1, modP, intP, hm, putM, divP, hd, set_bag, ixN4_0, SR.put, SR.bind, SR.of]

/- L4 -/

theorem mulc_r (i j : Int) (h : -(2 ^ 64) < j ∧ j < 2 ^ 64) (S : Store) : mulP S (.int i) (.int j) = some (.int (i * j)) := if_pos (.inr h)
theorem mulc_l (i j : Int) (h : -(2 ^ 64) < i ∧ i < 2 ^ 64) (S : Store) : mulP S (.int i) (.int j) = some (.int (i * j)) := if_pos (.inl h)
theorem mod_ints (S : Store) (i j : Int) (h : 0 < j) : modP S (.int i) (.int j) = some (.int (i % j)) := if_pos h
theorem div_ints (S : Store) (i j : Int) (h : CDiv i j) : divP S (.int i) (.int j) = some (.int (i / j)) := if_pos h
theorem pow18 (S : Store) : powP S (.int 10) (.int 18) = some (.int 1000000000000000000) := by
  show (if CPow 10 18 then some (D.int (10 ^ (18 : Int).toNat)) else none) = _
  rw [if_pos (show CPow 10 18 from ⟨by decide, by decide, by decide⟩)]
  rfl
theorem add_ints (S : Store) (i j : Int) : addP S (.int i) (.int j) = some (.int (i + j)) := rfl
def stir (b c z : Int) : Int := (b * 48271 + z % 2147483647 + 7919 * (c + 1)) % 2147483647
theorem slice_bag (cs : List Int) (c : Int) (hc : 0 ≤ c) (S : Store) : slP S (.lst (cs.map .int)) (some c) none = some (.lst ((cs.map D.int).drop c.toNat)) := by
  unfold slP asS asL
  simp [cut_from _ c hc]
theorem add_lsts (S : Store) (xs ys : List D) (h : xs.length + ys.length ≤ sizeLine) : addP S (.lst xs) (.lst ys) = some (.lst (xs ++ ys)) := by
  unfold addP asL
  simp [h]
theorem ix_lst (S : Store) (xs : List D) (i : Int) : ixP S (.lst xs) (.int i) = atI xs i := rfl
/-- a draw that takes a great cell -/
theorem take_new (b c many : Int) (cs : List Int) (R : Store) (hc : 0 ≤ c) (hl : cs.length ≤ 63) (hm : 0 < many) (hm2 : many < 1073741824) (hz : 1000000000000000000 ≤ nextCell cs c) :
    m__law_take [.loc 0, .int many] (bagC 0 b c cs :: R) = .ok (.int (nextCell cs c % many)) (bagC (nextCell cs c / many) (stir b c (nextCell cs c)) (c + 1) cs :: R) := by
  have hd : CDiv (nextCell cs c) many := ⟨hm, hm2⟩
  have hz2 : 0 < nextCell cs c := by omega
  have hs := sizeLine_eq
  have hlen : ((cs.map D.int).drop c.toNat).length + [D.int 0].length ≤ sizeLine := by
    rw [hs]
    simp
    omega
  have hadd := fun S => add_lsts S ((cs.map D.int).drop c.toNat) [D.int 0] hlen
  have h1 : (1 : Nat) ≤ sizeLine := by rw [hs]; decide
  unfold m__law_take
  simp [toB, bltM, consM, nilM, M.bind, varM, var, M.opL, M.op2, M.lift, asB, M.pure, bin2, ix_bag, at4_0, at4_1, at4_2, at4_3, eq_ints, gtP, geP, add_ints, intP, putM, set_bag, ixN4_0, ixN4_1, ixN4_2, SR.put, SR.bind, SR.of, slM, opP, noP, optI, asI, opS, slice_bag, hc, hadd, lstM, h1, ix_lst, next_is, augM,
    pow18, hz, hz2, mulc_r, mod_ints, mulc_l, div_ints, hd, hm, stir]
def plainDraw (b : Int) : Int := ((b + 1) * 39373 % 1000000007 * ((b + 1) * 39373 % 1000000007)) % 998244353 * 30011 % 998244353 / 7
/-- a draw by stirring alone -/
theorem take_small (b c many : Int) (cs : List Int) (R : Store) (hc : 0 ≤ c) (hl : cs.length ≤ 63) (hm : 0 < many) (hz : nextCell cs c < 1000000000000000000) :
    m__law_take [.loc 0, .int many] (bagC 0 b c cs :: R) = .ok (.int (plainDraw (stir b c (nextCell cs c)) % many)) (bagC 0 (stir b c (nextCell cs c)) (c + 1) cs :: R) := by
  have hz1 : ¬ (1000000000000000000 ≤ nextCell cs c) := by omega
  have hs := sizeLine_eq
  have hlen : ((cs.map D.int).drop c.toNat).length + [D.int 0].length ≤ sizeLine := by
    rw [hs]
    simp
    omega
  have hadd := fun S => add_lsts S ((cs.map D.int).drop c.toNat) [D.int 0] hlen
  have h1 : (1 : Nat) ≤ sizeLine := by rw [hs]; decide
  have hmul : ∀ (v : Int) (S : Store), mulP S (.int (v % 1000000007)) (.int (v % 1000000007)) = some (.int (v % 1000000007 * (v % 1000000007))) := fun v S => mulc_l _ _ (by
    have e1 := Int.emod_nonneg v (show (1000000007 : Int) ≠ 0 by decide)
    have e2 := Int.emod_lt_of_pos v (show (0 : Int) < 1000000007 by decide)
    have e3 : (2 : Int) ^ 64 = 18446744073709551616 := by decide
    omega) S
  have hdiv : ∀ (v : Int) (S : Store), divP S (.int v) (.int 7) = some (.int (v / 7)) := fun v S => div_ints S v 7 ⟨by decide, by decide⟩
  unfold m__law_take
  simp [toB, bltM, consM, nilM, M.bind, varM, var, M.opL, M.op2, M.lift, asB, M.pure, bin2, ix_bag, at4_0, at4_1, at4_2, at4_3, eq_ints, gtP, geP, add_ints, intP, putM, set_bag, ixN4_0, ixN4_1, ixN4_2, SR.put, SR.bind, SR.of, slM, opP, noP, optI, asI, opS, slice_bag, hc, hadd, lstM, h1, ix_lst, next_is, augM,
    pow18, hz1, mulc_r, mod_ints, hmul, mulc_l, hdiv, hm, stir, plainDraw]

/- L5 -/

/-- the bag stands ahead, R behind -/
def Bag (S : Store) (R : Store) : Prop := ∃ (a b c : Int) (cs : List Int), S = bagC a b c cs :: R ∧ 0 ≤ a ∧ 0 ≤ c ∧ cs.length ≤ 63
theorem take_any {S R : Store} {many : Int} (h : Bag S R) (hm : 0 < many) (hm2 : many < 1073741824) : ∃ v S', m__law_take [.loc 0, .int many] S = .ok (.int v) S' ∧ 0 ≤ v ∧ v < many ∧ Bag S' R := by
  obtain ⟨a, b, c, cs, rfl, ha, hc, hl⟩ := h
  have p1 : ∀ x : Int, 0 ≤ x % many := fun x => Int.emod_nonneg x (by omega)
  have p2 : ∀ x : Int, x % many < many := fun x => Int.emod_lt_of_pos x hm
  by_cases h0 : a = 0
  · subst h0
    by_cases hz : 1000000000000000000 ≤ nextCell cs c
    · exact ⟨_, _, take_new b c many cs R hc hl hm hm2 hz, p1 _, p2 _, _, _, _, _, rfl, Int.ediv_nonneg (by omega) (by omega), by omega, hl⟩
    · exact ⟨_, _, take_small b c many cs R hc hl hm (by omega), p1 _, p2 _, _, _, _, _, rfl, Int.le_refl _, by omega, hl⟩
  · exact ⟨_, _, take_big a b c many cs R (by omega) hm hm2, p1 _, p2 _, _, _, _, _, rfl, Int.ediv_nonneg ha (by omega), hc, hl⟩
/-- one of several -/
theorem some_any {S R : Store} {things : D} {ds : List D} (h : Bag S R) (ht : things = .tup ds ∨ things = .lst ds) (h0 : ds ≠ []) (hl : ds.length < 1000000) : ∃ d S', m__law_some [.loc 0, things] S = .ok d S' ∧ d ∈ ds ∧ Bag S' R := by
  have hpos : 0 < ds.length := List.length_pos_iff.mpr h0
  obtain ⟨v, S', e, h1, h2, hb⟩ := take_any (many := ds.length) h (by omega) (by omega)
  obtain ⟨j, rfl⟩ : ∃ j : Nat, v = (j : Int) := ⟨v.toNat, by omega⟩
  have hj : j < ds.length := by omega
  refine ⟨ds[j], S', ?_, List.getElem_mem hj, hb⟩
  have hat : atI ds (j : Int) = some ds[j] := atI_nat (List.getElem?_eq_getElem hj)
  have hlen : ∀ S, lenP S [things] = some (.int ds.length) := fun S => by
    rcases ht with rfl | rfl <;> rfl
  have hix : ∀ S, ixP S things (.int j) = some ds[j] := fun S => by
    rcases ht with rfl | rfl
    · exact hat
    · exact hat
  unfold m__law_some
  simp [toB, bltM, consM, nilM, M.bind, varM, var, M.opL, M.op2, M.lift, asB, M.pure, bin2, callM, hlen, e, hix, SR.of, SR.bind]

/- L6 -/

def absI (i : Int) : Int := if i < 0 then -i else i
theorem lc_abs (d : D) : ∀ (l : List Int) (S : Store), lcL (fun _ => true) (gN 1) yesT (bltM absP (consM (varM 1) nilM)) [some d, none] (l.map D.int) S = .ok ((l.map absI).map .int) S
  | [], S => by
    unfold lcL
    rfl
  | i :: l, S => by
    have ih := lc_abs d l S
    rw [List.map_cons]
    unfold lcL
    simp [gN, yesT, M.pure, bltM, consM, nilM, M.bind, varM, var, M.opL, absP, ih]
    rfl
theorem cut_63 (ds : List D) (h : ds.length ≤ 63) : cutD ds none (some 63) = ds := by
  have e1 : HT.sIx ds.length 0 none = 0 := rfl
  have e2 : HT.sIx ds.length ds.length (some 63) = ds.length := by
    show (if (63 : Int) < 0 then ((63 : Int) + (ds.length : Int)).toNat else min (63 : Int).toNat ds.length) = ds.length
    rw [if_neg (by decide)]
    exact Nat.min_eq_right h
  unfold cutD
  rw [e1, e2]
  simp
/-- the bag is made -/
theorem bag_made (ns : List Int) (h : ns.length ≤ 63) (R : Store) : m__law_bag [.scr (ns.map .int)] [] = .ok (.loc 0) [bagC 0 1234567891 0 (ns.map absI)] := by
  have hs := sizeLine_eq
  have h4 : (4 : Nat) ≤ sizeLine := by rw [hs]; decide
  have hl : ns.length ≤ sizeLine := by rw [hs]; omega
  have hsl : ∀ S, slP S (.scr (ns.map .int)) none (some 63) = some (.lst (ns.map .int)) := fun S => by
    unfold slP asS
    simp [cut_63 (ns.map D.int) (by simpa using h)]
  have hst : still (.lst (ns.map D.int)) (ns.map D.int) = fun _ => true := rfl
  have hlc := lc_abs (.scr (ns.map .int)) ns []
  unfold m__law_bag
  simp [cellM, consM, nilM, M.bind, varM, var, M.opL, M.pure, lcM, lcI, seqI, slM, noP, opP, optI, asI, M.lift, opS, hsl, srcA, asS, asL, hst, wipeE, hlc, hl, newCell, h4, SR.of]

/- L8 -/

/-! ### the values that the law draws -/
def words : List Str := ["money", "each", "packs", "full", "barred", "from", "share", "above", "plus", "less", "least", "greatest", "down", "half", "up", "plain", "card", "gold", "s3", "buy", "d1", "go2", "z", "a", "is", "", "A", "nope"]
def numsL : List Int := [0, 7, -12, 1000000, -1000000, 45, 2, 6, 60, 3, -4, 99, 1, 12, 200, 19, 999, 100, 1000, -5, 61, 201, 1001, 1000001, -1, 40]
def Flat (d : D) : Prop := d = .non ∨ (∃ b, d = .bl b) ∨ (∃ i, d = .int i ∧ i ∈ numsL) ∨ ∃ x ∈ words, d = .str x
def ValL (L : Nat) : Nat → D → Prop
  | 0, d => Flat d
  | n + 1, d => Flat d ∨ ∃ ds : List D, (d = .tup ds ∨ d = .lst ds) ∧ ds.length ≤ L ∧ ∀ e ∈ ds, ValL L n e
abbrev Val : Nat → D → Prop := ValL 405
theorem Flat.val {d : D} {L : Nat} (h : Flat d) : ∀ n, ValL L n d
  | 0 => h
  | _ + 1 => .inl h
theorem ValL.succ {L : Nat} : ∀ {n : Nat} {d : D}, ValL L n d → ValL L (n + 1) d
  | 0, _, h => .inl h
  | n + 1, _, h => by
    rcases h with h | ⟨ds, h1, h2, h3⟩
    · exact .inl h
    · exact .inr ⟨ds, h1, h2, fun e he => (h3 e he).succ⟩
theorem ValL.mono {L n m : Nat} {d : D} (h : ValL L n d) (hm : n ≤ m) : ValL L m d := by
  obtain ⟨k, rfl⟩ := Nat.exists_eq_add_of_le hm
  induction k with
  | zero => exact h
  | succ k ih => exact (ih (by omega)).succ
theorem ValL.wide {L L' : Nat} (hL : L ≤ L') : ∀ {n : Nat} {d : D}, ValL L n d → ValL L' n d
  | 0, _, h => h
  | n + 1, _, h => by
    rcases h with h | ⟨ds, h1, h2, h3⟩
    · exact .inl h
    · exact .inr ⟨ds, h1, Nat.le_trans h2 hL, fun e he => (h3 e he).wide hL⟩
theorem val_tup {L n : Nat} {ds : List D} (hl : ds.length ≤ L) (h : ∀ e ∈ ds, ValL L n e) : ValL L (n + 1) (.tup ds) := .inr ⟨ds, .inl rfl, hl, h⟩
theorem val_lst {L n : Nat} {ds : List D} (hl : ds.length ≤ L) (h : ∀ e ∈ ds, ValL L n e) : ValL L (n + 1) (.lst ds) := .inr ⟨ds, .inr rfl, hl, h⟩
theorem flat_int (i : Int) (h : i ∈ numsL := by decide) : Flat (.int i) := .inr (.inr (.inl ⟨i, rfl, h⟩))
theorem flat_str {x : Str} (h : x ∈ words) : Flat (.str x) := .inr (.inr (.inr ⟨x, h, rfl⟩))
/-- the int of a draw below a small number, by cases -/
theorem neg_int (S : Store) (i : Int) : negP S (.int i) = some (.int (-i)) := rfl
theorem len_ok (n : Nat) (h : n ≤ 1000) : n ≤ sizeLine := by rw [sizeLine_eq]; omega
/-- prices, deep 0 -/
theorem price_0 (k : Nat) {S R : Store} (h : Bag S R) (deep : Int) (hd : deep ≤ 0) : ∃ d S', m__law_big_price (k + 1) [.loc 0, .int deep] S = .ok d S' ∧ Val 1 d ∧ Bag S' R := by
  obtain ⟨v, S1, e1, v0, v1, b1⟩ := take_any (many := 5) h (by decide) (by decide)
  have hgt : decide (0 < deep) = false := decide_eq_false (by omega)
  have hgt' : ¬ (0 < deep) := by omega
  have l2 := len_ok 2 (by decide)
  have l3 := len_ok 3 (by decide)
  have l6 := len_ok 6 (by decide)
  have l1 := len_ok 1 (by decide)
  by_cases c1 : v < 2
  · obtain ⟨x, S2, e2, m2, b2⟩ := some_any (things := .lst [.str "money", .str "each"]) b1 (.inr rfl) (by simp) (by decide)
    obtain ⟨y, S3, e3, m3, b3⟩ := some_any (things := .lst [.int 0, .int 7, .int (-12), .int 1000000, .int (-1000000), .int 45]) b2 (.inr rfl) (by simp) (by decide)
    refine ⟨.tup [x, y], S3, ?_, val_tup (by simp) (fun e he => ?_), b3⟩
    · unfold m__law_big_price
      simp [ifV, toB, bltM, consM, nilM, M.bind, varM, var, M.opL, M.op2, M.op1, M.lift, asB, M.pure, bin2, callM, gtP, ltP, hgt', e1, c1, lstM, l2, l6, e2, e3, un1, neg_int, tupM, SR.of, SR.bind]
    · simp only [List.mem_cons, List.not_mem_nil, or_false] at he m2 m3
      rcases he with rfl | rfl
      · rcases m2 with rfl | rfl
        · exact flat_str (by decide)
        · exact flat_str (by decide)
      · rcases m3 with rfl | rfl | rfl | rfl | rfl | rfl <;> exact flat_int _
  · by_cases c2 : v < 4
    · obtain ⟨x, S2, e2, m2, b2⟩ := some_any (things := .lst [.str "packs", .str "full"]) b1 (.inr rfl) (by simp) (by decide)
      obtain ⟨y, S3, e3, m3, b3⟩ := some_any (things := .lst [.int 2, .int 6, .int 60]) b2 (.inr rfl) (by simp) (by decide)
      obtain ⟨z, S4, e4, m4, b4⟩ := some_any (things := .lst [.int 3, .int (-4), .int 99]) b3 (.inr rfl) (by simp) (by decide)
      refine ⟨.tup [x, y, z], S4, ?_, val_tup (by simp) (fun e he => ?_), b4⟩
      · unfold m__law_big_price
        simp [ifV, toB, bltM, consM, nilM, M.bind, varM, var, M.opL, M.op2, M.op1, M.lift, asB, M.pure, bin2, callM, gtP, ltP, hgt', e1, c1, c2, lstM, l2, l3, e2, e3, e4, un1, neg_int, tupM, SR.of, SR.bind]
      · simp only [List.mem_cons, List.not_mem_nil, or_false] at he m2 m3 m4
        rcases he with rfl | rfl | rfl
        · rcases m2 with rfl | rfl
          · exact flat_str (by decide)
          · exact flat_str (by decide)
        · rcases m3 with rfl | rfl | rfl <;> exact flat_int _
        · rcases m4 with rfl | rfl | rfl <;> exact flat_int _
    · have c3 : v = 4 := by omega
      subst c3
      refine ⟨.tup [.str "barred"], S1, ?_, val_tup (by simp) (fun e he => ?_), b1⟩
      · unfold m__law_big_price
        simp [ifV, toB, bltM, consM, nilM, M.bind, varM, var, M.opL, M.op2, M.op1, M.lift, asB, M.pure, bin2, callM, gtP, ltP, hgt', e1, eq_ints, l1, tupM, SR.of, SR.bind]
      · simp only [List.mem_cons, List.not_mem_nil, or_false] at he
        subst he
        exact flat_str (by decide)

/- L9 -/

/-- prices of any depth -/
theorem price_any {R : Store} : ∀ (n k : Nat) {S : Store}, Bag S R → n < k → ∃ d S', m__law_big_price k [.loc 0, .int n] S = .ok d S' ∧ Val (n + 1) d ∧ Bag S' R
  | 0, k + 1, S, h, _ => price_0 k h 0 (by decide)
  | n + 1, k + 1, S, h, hk => by
    obtain ⟨v, S1, e1, v0, v1, b1⟩ := take_any (many := 11) h (by decide) (by decide)
    have hgt : (0 : Int) < (n : Int) + 1 := by omega
    have l1 := len_ok 1 (by decide)
    have l2 := len_ok 2 (by decide)
    have l3 := len_ok 3 (by decide)
    have l4 := len_ok 4 (by decide)
    have l5 := len_ok 5 (by decide)
    have l6 := len_ok 6 (by decide)
    by_cases c1 : v < 2
    · obtain ⟨x, S2, e2, m2, b2⟩ := some_any (things := .lst [.str "money", .str "each"]) b1 (.inr rfl) (by simp) (by decide)
      obtain ⟨y, S3, e3, m3, b3⟩ := some_any (things := .lst [.int 0, .int 7, .int (-12), .int 1000000, .int (-1000000), .int 45]) b2 (.inr rfl) (by simp) (by decide)
      refine ⟨.tup [x, y], S3, ?_, (val_tup (n := 0) (by simp) (fun e he => ?_)).mono (by omega), b3⟩
      · unfold m__law_big_price
        simp [ifV, toB, bltM, consM, nilM, M.bind, varM, var, M.opL, M.op2, M.op1, M.lift, asB, M.pure, bin2, callM, gtP, ltP, hgt, e1, c1, lstM, l2, l6, e2, e3, un1, neg_int, tupM, SR.of, SR.bind]
      · simp only [List.mem_cons, List.not_mem_nil, or_false] at he m2 m3
        rcases he with rfl | rfl
        · rcases m2 with rfl | rfl
          · exact flat_str (by decide)
          · exact flat_str (by decide)
        · rcases m3 with rfl | rfl | rfl | rfl | rfl | rfl <;> exact flat_int _
    by_cases c2 : v < 4
    · obtain ⟨x, S2, e2, m2, b2⟩ := some_any (things := .lst [.str "packs", .str "full"]) b1 (.inr rfl) (by simp) (by decide)
      obtain ⟨y, S3, e3, m3, b3⟩ := some_any (things := .lst [.int 2, .int 6, .int 60]) b2 (.inr rfl) (by simp) (by decide)
      obtain ⟨z, S4, e4, m4, b4⟩ := some_any (things := .lst [.int 3, .int (-4), .int 99]) b3 (.inr rfl) (by simp) (by decide)
      refine ⟨.tup [x, y, z], S4, ?_, (val_tup (n := 0) (by simp) (fun e he => ?_)).mono (by omega), b4⟩
      · unfold m__law_big_price
        simp [ifV, toB, bltM, consM, nilM, M.bind, varM, var, M.opL, M.op2, M.op1, M.lift, asB, M.pure, bin2, callM, gtP, ltP, hgt, e1, c1, c2, lstM, l2, l3, e2, e3, e4, un1, neg_int, tupM, SR.of, SR.bind]
      · simp only [List.mem_cons, List.not_mem_nil, or_false] at he m2 m3 m4
        rcases he with rfl | rfl | rfl
        · rcases m2 with rfl | rfl
          · exact flat_str (by decide)
          · exact flat_str (by decide)
        · rcases m3 with rfl | rfl | rfl <;> exact flat_int _
        · rcases m4 with rfl | rfl | rfl <;> exact flat_int _
    by_cases c3 : v = 4
    · subst c3
      refine ⟨.tup [.str "barred"], S1, ?_, (val_tup (n := 0) (by simp) (fun e he => ?_)).mono (by omega), b1⟩
      · unfold m__law_big_price
        simp [ifV, toB, bltM, consM, nilM, M.bind, varM, var, M.opL, M.op2, M.op1, M.lift, asB, M.pure, bin2, callM, gtP, ltP, hgt, e1, eq_ints, l1, tupM, SR.of, SR.bind]
      · simp only [List.mem_cons, List.not_mem_nil, or_false] at he
        subst he
        exact flat_str (by decide)
    obtain ⟨p, S2, ep, vp, b2⟩ := price_any n k b1 (by omega)
    obtain ⟨q, S3, eq, vq, b3⟩ := price_any n k b2 (by omega)
    by_cases c5 : v = 5
    · subst c5
      obtain ⟨x, S4, e4, m4, b4⟩ := some_any (things := .lst [.int 1, .int 12, .int 200]) b3 (.inr rfl) (by simp) (by decide)
      refine ⟨.tup [.str "from", x, p, q], S4, ?_, val_tup (by simp) (fun e he => ?_), b4⟩
      · unfold m__law_big_price
        simp [ifV, toB, bltM, consM, nilM, M.bind, varM, var, M.opL, M.op2, M.op1, M.lift, asB, M.pure, bin2, callM, gtP, ltP, hgt, e1, eq_ints, parM, subP, ep, eq, e4, lstM, l3, l4, tupM, SR.of, SR.bind]
      · simp only [List.mem_cons, List.not_mem_nil, or_false] at he m4
        rcases he with rfl | rfl | rfl | rfl
        · exact (flat_str (by decide)).val _
        · rcases m4 with rfl | rfl | rfl <;> exact (flat_int _).val _
        · exact vp
        · exact vq
    by_cases c6 : v = 6
    · subst c6
      obtain ⟨x, S4, e4, m4, b4⟩ := some_any (things := .lst [.int 0, .int 19, .int 999]) b3 (.inr rfl) (by simp) (by decide)
      obtain ⟨y, S5, e5, m5, b5⟩ := some_any (things := .lst [.int 1, .int 100, .int 1000]) b4 (.inr rfl) (by simp) (by decide)
      obtain ⟨z, S6, e6, m6, b6⟩ := some_any (things := .lst [.str "down", .str "half", .str "up"]) b5 (.inr rfl) (by simp) (by decide)
      refine ⟨.tup [.str "share", p, x, y, z], S6, ?_, val_tup (by simp) (fun e he => ?_), b6⟩
      · unfold m__law_big_price
        simp [ifV, toB, bltM, consM, nilM, M.bind, varM, var, M.opL, M.op2, M.op1, M.lift, asB, M.pure, bin2, callM, gtP, ltP, hgt, e1, eq_ints, parM, subP, ep, eq, e4, e5, e6, lstM, l3, l5, tupM, SR.of, SR.bind]
      · simp only [List.mem_cons, List.not_mem_nil, or_false] at he m4 m5 m6
        rcases he with rfl | rfl | rfl | rfl | rfl
        · exact (flat_str (by decide)).val _
        · exact vp
        · rcases m4 with rfl | rfl | rfl <;> exact (flat_int _).val _
        · rcases m5 with rfl | rfl | rfl <;> exact (flat_int _).val _
        · rcases m6 with rfl | rfl | rfl <;> exact (flat_str (by decide)).val _
    by_cases c7 : v = 7
    · subst c7
      obtain ⟨x, S4, e4, m4, b4⟩ := some_any (things := .lst [.int (-5), .int 0, .int 100]) b3 (.inr rfl) (by simp) (by decide)
      obtain ⟨r, S5, er, vr, b5⟩ := price_any n k b4 (by omega)
      refine ⟨.tup [.str "above", p, x, q, r], S5, ?_, val_tup (by simp) (fun e he => ?_), b5⟩
      · unfold m__law_big_price
        simp [ifV, toB, bltM, consM, nilM, M.bind, varM, var, M.opL, M.op2, M.op1, M.lift, asB, M.pure, bin2, callM, gtP, ltP, hgt, e1, eq_ints, parM, subP, ep, eq, e4, er, un1, neg_int, lstM, l3, l5, tupM, SR.of, SR.bind]
      · simp only [List.mem_cons, List.not_mem_nil, or_false] at he m4
        rcases he with rfl | rfl | rfl | rfl | rfl
        · exact (flat_str (by decide)).val _
        · exact vp
        · rcases m4 with rfl | rfl | rfl <;> exact (flat_int _).val _
        · exact vq
        · exact vr
    obtain ⟨x, S4, e4, m4, b4⟩ := some_any (things := .lst [.str "plus", .str "less", .str "least", .str "greatest"]) b3 (.inr rfl) (by simp) (by decide)
    refine ⟨.tup [x, p, q], S4, ?_, val_tup (by simp) (fun e he => ?_), b4⟩
    · unfold m__law_big_price
      simp [ifV, toB, bltM, consM, nilM, M.bind, varM, var, M.opL, M.op2, M.op1, M.lift, asB, M.pure, bin2, callM, gtP, ltP, hgt, e1, c1, c2, c3, c5, c6, c7, eq_ints, parM, subP, ep, eq, e4, lstM, l3, l4, tupM, SR.of, SR.bind]
    · simp only [List.mem_cons, List.not_mem_nil, or_false] at he m4
      rcases he with rfl | rfl | rfl
      · rcases m4 with rfl | rfl | rfl | rfl <;> exact (flat_str (by decide)).val _
      · exact vp
      · exact vq

/- L10 -/

/-! ### values as plain data -/
theorem words_ok : (words.all PyData.strOk) = true := by decide +kernel
theorem flat_py {d : D} (h : Flat d) (S : Store) : ∃ p, d.py S = some p ∧ p.canLay0 = true ∧ p.depth = 0 := by
  rcases h with rfl | ⟨b, rfl⟩ | ⟨i, rfl, _⟩ | ⟨x, hx, rfl⟩
  · exact ⟨.none, rfl, rfl, rfl⟩
  · exact ⟨.bool b, rfl, rfl, rfl⟩
  · exact ⟨.int i, rfl, rfl, rfl⟩
  · refine ⟨.str x, rfl, ?_, rfl⟩
    show PyData.strOk x = true
    exact List.all_eq_true.mp words_ok x hx
theorem pyL_of {S : Store} {n : Nat} : ∀ {ds : List D}, (∀ e ∈ ds, ∃ p, e.py S = some p ∧ p.canLay0 = true ∧ p.depth ≤ n) → ∃ ps, D.pyL S ds = some ps ∧ PyData.canLayAll0 ps = true ∧ PyData.depthAll ps ≤ n ∧ ps.length = ds.length
  | [], _ => ⟨[], by simp [D.pyL], rfl, Nat.zero_le _, rfl⟩
  | e :: ds, h => by
    obtain ⟨p, h1, h2, h3⟩ := h e (by simp)
    obtain ⟨ps, g1, g2, g3, g4⟩ := pyL_of (ds := ds) fun x hx => h x (by simp [hx])
    refine ⟨p :: ps, by simp [D.pyL, h1, g1], ?_, ?_, by simp [g4]⟩
    · simp [PyData.canLayAll0, h2, g2]
    · simp only [PyData.depthAll]
      omega
theorem val_py {L : Nat} (S : Store) : ∀ {n : Nat} {d : D}, ValL L n d → ∃ p, d.py S = some p ∧ p.canLay0 = true ∧ p.depth ≤ n
  | 0, d, h => by
    obtain ⟨p, h1, h2, h3⟩ := flat_py h S
    exact ⟨p, h1, h2, by omega⟩
  | n + 1, d, h => by
    rcases h with h | ⟨ds, hd, hl, hv⟩
    · obtain ⟨p, h1, h2, h3⟩ := flat_py h S
      exact ⟨p, h1, h2, by omega⟩
    · obtain ⟨ps, g1, g2, g3, g4⟩ := pyL_of (S := S) (n := n) fun e he => val_py S (hv e he)
      rcases hd with rfl | rfl
      · exact ⟨.tuple ps, by simp [D.py, g1], by simp [PyData.canLay0, g2], by simp only [PyData.depth]; omega⟩
      · exact ⟨.list ps, by simp [D.py, g1], by simp [PyData.canLay0, g2], by simp only [PyData.depth]; omega⟩
/-- t == () -/
theorem eq_nil {L : Nat} (S : Store) {n : Nat} {ds : List D} (hn : n ≤ 60) (h : ValL L n (.tup ds)) : eqP S (.tup ds) (.tup []) = some (.bl ds.isEmpty) := by
  obtain ⟨p, h1, h2, h3⟩ := val_py S h
  have e1 : D.py S (.tup ds) = (D.pyL S ds).map .tuple := by simp [D.py]
  cases q : D.pyL S ds with
  | none => rw [e1, q] at h1; cases h1
  | some ps =>
    rw [e1, q] at h1
    obtain rfl := Option.some.inj h1
    have e0 : D.py S (.tup []) = some (.tuple []) := by simp [D.py, D.pyL]
    have hsh : SeqAt.shaped (.tuple ps) = true := by
      unfold SeqAt.shaped
      rw [h2]
      simp
      omega
    have hsh0 : SeqAt.shaped (.tuple []) = true := by decide +kernel
    have hemp : PyData.eqv (.tuple ps) (.tuple []) = ds.isEmpty := by
      cases ds with
      | nil =>
        have : ps = [] := by simpa [D.pyL] using q.symm
        subst this
        rfl
      | cons d ds =>
        cases ps with
        | nil =>
          unfold D.pyL at q
          split at q <;> cases q
        | cons p ps => simp [PyData.eqv, PyData.eqvAll]
    unfold eqP eqQ
    simp only [scalD]
    unfold eqDeep
    simp [e1, q, e0, hsh, hsh0, hemp]

/- L11 -/

/-! ### isinstance of the values, by their kinds -/
def isTupD : D → Bool
  | .tup _ => true
  | _ => false
theorem kit_tt : L2.kitB "tuple" "tuple" = some true := by decide +kernel
theorem kit_lt : L2.kitB "list" "tuple" = some false := by decide +kernel
theorem kit_nt : L2.kitB "NoneType" "tuple" = some false := by decide +kernel
theorem kit_bt : L2.kitB "bool" "tuple" = some false := by decide +kernel
theorem kit_it : L2.kitB "int" "tuple" = some false := by decide +kernel
theorem kit_st : L2.kitB "str" "tuple" = some false := by decide +kernel
theorem isi_tup {L n : Nat} {d : D} (h : ValL L n d) (S : Store) : isiP S [d, .ty "tuple"] = some (.bl (isTupD d)) := by
  have fl : ∀ {d : D}, Flat d → isiP S [d, .ty "tuple"] = some (.bl (isTupD d)) := fun hd => by
    rcases hd with rfl | ⟨b, rfl⟩ | ⟨i, rfl, _⟩ | ⟨x, hx, rfl⟩
    · simp [isiP, tyName, kit_nt, isTupD]
    · simp [isiP, tyName, kit_bt, isTupD]
    · simp [isiP, tyName, kit_it, isTupD]
    · simp [isiP, tyName, kit_st, isTupD]
  cases n with
  | zero => exact fl h
  | succ n =>
    rcases h with h | ⟨ds, rfl | rfl, _⟩
    · exact fl h
    · simp [isiP, tyName, kit_tt, isTupD]
    · simp [isiP, tyName, kit_lt, isTupD]
theorem val_items {L n : Nat} {ds : List D} (h : ValL L n (.tup ds)) : ds.length ≤ L ∧ ∃ m, n = m + 1 ∧ ∀ e ∈ ds, ValL L m e := by
  have fl : ¬ Flat (.tup ds) := fun h => by
    rcases h with h | ⟨_, h⟩ | ⟨_, h, _⟩ | ⟨_, _, h⟩ <;> cases h
  cases n with
  | zero => exact absurd h fl
  | succ n =>
    rcases h with h | ⟨es, e | e, h2, h3⟩
    · exact absurd h fl
    · cases e
      exact ⟨h2, n, rfl, h3⟩
    · cases e
/-- what stands in for a spoilt part -/
def odds : List D := [.non, .bl true, .int 0, .int 1, .int 61, .int 200, .int 201, .int 1001, .int 1000001, .int (-1), .str "a", .str "is", .str "", .str "A", .tup [], .tup [.str "a"], .lst [.str "a"], .tup [.str "barred"], .tup [.str "money", .int 3], .str "up"]
theorem odds_val {L : Nat} (hL : 5 ≤ L) : ∀ e ∈ odds, ValL L 1 e := fun e he => by
  have fs : ∀ x ∈ words, ValL L 1 (.str x) := fun x hx => (flat_str hx).val 1
  have fi : ∀ i : Int, i ∈ numsL → ValL L 1 (.int i) := fun i h => (flat_int i h).val 1
  have t1 : ∀ x ∈ words, ∀ e ∈ [D.str x], ValL L 0 e := fun x hx e he => by
    rw [List.mem_singleton.mp he]
    exact flat_str hx
  simp only [odds, List.mem_cons, List.not_mem_nil, or_false] at he
  rcases he with rfl | rfl | rfl | rfl | rfl | rfl | rfl | rfl | rfl | rfl | rfl | rfl | rfl | rfl | rfl | rfl | rfl | rfl | rfl | rfl
  · exact .inl (.inl rfl)
  · exact .inl (.inr (.inl ⟨true, rfl⟩))
  · exact fi _ (by decide)
  · exact fi _ (by decide)
  · exact fi _ (by decide)
  · exact fi _ (by decide)
  · exact fi _ (by decide)
  · exact fi _ (by decide)
  · exact fi _ (by decide)
  · exact fi _ (by decide)
  · exact fs _ (by decide)
  · exact fs _ (by decide)
  · exact fs _ (by decide)
  · exact fs _ (by decide)
  · exact val_tup (by simp) (fun e he => by simp at he)
  · exact val_tup (by simp; omega) (t1 _ (by decide))
  · exact val_lst (by simp; omega) (t1 _ (by decide))
  · exact val_tup (by simp; omega) (t1 _ (by decide))
  · refine val_tup (by simp; omega) (fun e he => ?_)
    simp only [List.mem_cons, List.not_mem_nil, or_false] at he
    rcases he with rfl | rfl
    · exact flat_str (by decide)
    · exact flat_int _
  · exact fs _ (by decide)

/- L12 -/

theorem cut_mem {ds : List D} {lo hi : Option Int} {e : D} (h : e ∈ cutD ds lo hi) : e ∈ ds := List.mem_of_mem_drop (List.mem_of_mem_take h)
theorem cut_len (ds : List D) (lo hi : Option Int) : (cutD ds lo hi).length ≤ ds.length := by
  unfold cutD
  rw [List.length_take, List.length_drop]
  omega
theorem cut_last (ds : List D) : (cutD ds (some (-1)) none).length ≤ 1 := by
  have e1 : HT.sIx ds.length 0 (some (-1)) = ((-1 : Int) + (ds.length : Int)).toNat := rfl
  have e2 : HT.sIx ds.length ds.length none = ds.length := rfl
  unfold cutD
  rw [e1, e2, List.length_take, List.length_drop]
  omega
theorem sl_tup (S : Store) (ds : List D) (lo hi : Option Int) : slP S (.tup ds) lo hi = some (.tup (cutD ds lo hi)) := rfl
theorem add_tups (S : Store) (xs ys : List D) (h : xs.length + ys.length ≤ sizeLine) : addP S (.tup xs) (.tup ys) = some (.tup (xs ++ ys)) := if_pos h
theorem pow6 (S : Store) : powP S (.int 10) (.int 6) = some (.int 1000000) := by
  show (if CPow 10 6 then some (D.int (10 ^ (6 : Int).toNat)) else none) = _
  rw [if_pos (show CPow 10 6 from ⟨by decide, by decide, by decide⟩)]
  rfl
/-- the odds are made -/
theorem odds_made (ρ : Env') (S : Store) : (lstM (consM (cM .non) (consM (cM (.bl true)) (consM (cM (.int 0)) (consM (cM (.int 1)) (consM (cM (.int 61)) (consM (cM (.int 200)) (consM (cM (.int 201)) (consM (cM (.int 1001)) (consM (bin2 addP (bin2 powP (cM (.int 10)) (cM (.int 6))) (cM (.int 1))) (consM (un1 negP (cM (.int 1))) (consM (cM (.str "a")) (consM (cM (.str "is")) (consM (cM (.str "")) (consM (cM (.str "A")) (consM (tupM nilM) (consM (tupM (consM (cM (.str "a")) nilM)) (consM (lstM (consM (cM (.str "a")) nilM)) (consM (tupM (consM (cM (.str "barred")) nilM)) (consM (tupM (consM (cM (.str "money")) (consM (cM (.int 3)) nilM))) (consM (cM (.str "up")) nilM))))))))))))))))))))) ρ S = .ok (.lst odds) S := by
  have l0 := len_ok 0 (by decide)
  have l1 := len_ok 1 (by decide)
  have l2 := len_ok 2 (by decide)
  have l20 := len_ok 20 (by decide)
  simp [consM, nilM, M.bind, M.op2, M.op1, M.pure, bin2, lstM, tupM, un1, neg_int, add_ints, pow6, l0, l1, l2, l20, odds]

/- L15 -/
theorem len_tup (S : Store) (ds : List D) : lenP S [.tup ds] = some (.int ds.length) := rfl
theorem list_tup (S : Store) (ds : List D) : listP S [.tup ds] = some (.lst ds) := rfl
theorem ix_tup' (S : Store) (ds : List D) (i : Int) : ixP S (.tup ds) (.int i) = atI ds i := rfl
/- L16 -/

theorem bag_get {S R : Store} (h : Bag S R) (i : Nat) : S[i + 1]? = R[i]? := by
  obtain ⟨a, b, c, cs, rfl, _⟩ := h
  rfl
theorem bag_set {S R : Store} (h : Bag S R) (i : Nat) (c : Cell) : Bag (S.set (i + 1) c) (R.set i c) := by
  obtain ⟨a, b, c', cs, rfl, h1⟩ := h
  exact ⟨a, b, c', cs, rfl, h1⟩
theorem bag_add {S R : Store} (h : Bag S R) (c : Cell) : Bag (S ++ [c]) (R ++ [c]) := by
  obtain ⟨a, b, c', cs, rfl, h1⟩ := h
  exact ⟨a, b, c', cs, rfl, h1⟩
theorem bag_len {S R : Store} (h : Bag S R) : S.length = R.length + 1 := by
  obtain ⟨a, b, c', cs, rfl, h1⟩ := h
  rfl
theorem last_get (R : Store) (c : Cell) : (R ++ [c])[R.length]? = some c := by simp
theorem last_set (R : Store) (c c' : Cell) : (R ++ [c]).set R.length c' = R ++ [c'] := by simp
/-- one turn of mixed: a thing put in somewhere -/
theorem mixed_turns {R : Store} {n : Nat} (hn : n = R.length + 1) (t0 : D) : ∀ (ds l : List D) (d3 : Option D) {S : Store}, Bag S (R ++ [.lst l]) → l.length + ds.length ≤ 50 →
    ∃ (l' : List D) (d3' : Option D) (S' : Store), loopS (fun _ => true) (gN 3) (exprM (methM "list" insertP (varM 2) (consM (callM 2 m__law_take (consM (varM 0) (consM (bin2 addP (bltM lenP (consM (varM 2) nilM)) (cM (.int 1))) nilM))) (consM (varM 3) nilM)))) ds [some (.loc 0), some t0, some (.loc n), d3] S =
      .nx [some (.loc 0), some t0, some (.loc n), d3'] S' ∧ l'.Perm (l ++ ds) ∧ Bag S' (R ++ [.lst l'])
  | [], l, d3, S, hb, _ => ⟨l, d3, S, rfl, by simp, hb⟩
  | d :: ds, l, d3, S, hb, hl => by
    have hsz := sizeLine_eq
    have g1 : ∀ {S : Store} {l : List D}, Bag S (R ++ [.lst l]) → S[n]? = some (.lst l) := fun h => by
      rw [hn, bag_get h]
      exact last_get R _
    have hlen : ∀ {S : Store} {l : List D}, Bag S (R ++ [.lst l]) → lenP S [.loc n] = some (.int l.length) := fun h => by
      unfold lenP asQ asL
      simp [g1 h]
    simp only [List.length_cons] at hl
    obtain ⟨v, S1, e1, v0, v1, b1⟩ := take_any (many := (l.length : Int) + 1) hb (by omega) (by omega)
    have hty : tyOk "list" S (.loc n) = true := by
      unfold tyOk asS asL
      simp [g1 hb]
    have hins : insertP S1 (.loc n) [.int v, d] = some (.non, S1.set n (.lst (l.take v.toNat ++ [d] ++ l.drop v.toNat))) := by
      unfold insertP cellL
      simp [g1 b1]
      rw [hsz]
      omega
    have b2 : Bag (S1.set n (.lst (l.take v.toNat ++ [d] ++ l.drop v.toNat))) (R ++ [.lst (l.take v.toNat ++ [d] ++ l.drop v.toNat)]) := by
      rw [hn]
      have := bag_set b1 R.length (.lst (l.take v.toNat ++ [d] ++ l.drop v.toNat))
      rw [last_set] at this
      exact this
    obtain ⟨l', d3', S', e3, p3, b3⟩ := mixed_turns hn t0 ds _ (some d) b2 (by simp; omega)
    refine ⟨l', d3', S', ?_, p3.trans ?_, b3⟩
    · unfold loopS
      simp only [gN]
      have hstep : exprM (methM "list" insertP (varM 2) (consM (callM 2 m__law_take (consM (varM 0) (consM (bin2 addP (bltM lenP (consM (varM 2) nilM)) (cM (.int 1))) nilM))) (consM (varM 3) nilM))) [some (.loc 0), some t0, some (.loc n), some d] S = .nx [some (.loc 0), some t0, some (.loc n), some d] (S1.set n (.lst (l.take v.toNat ++ [d] ++ l.drop v.toNat))) := by
        simp [exprM, methM, guard_bind, hty, bltM, consM, nilM, M.bind, varM, var, M.opL, M.op2, M.opM, M.pure, bin2, callM, hlen hb, add_ints, e1, hins, SR.of, M.guard]
      simp only [List.set]
      rw [hstep]
      exact e3
    · have q : (l.take v.toNat ++ [d] ++ l.drop v.toNat).Perm (l ++ [d]) := by
        rw [List.append_assoc]
        refine (List.perm_append_comm_assoc _ _ _).trans ?_
        rw [List.take_append_drop]
        exact List.perm_append_comm
      simpa using q.append_right ds

/- L17 -/

/-- mixed: a new cell behind, with the things in another order -/
theorem mixed_any {S R : Store} {ds : List D} (hb : Bag S R) (hl : ds.length ≤ 50) : ∃ (l : List D) (S' : Store), m__law_mixed [.loc 0, .lst ds] S = .ok (.loc (R.length + 1)) S' ∧ l.Perm ds ∧ Bag S' (R ++ [.lst l]) := by
  have hsz := sizeLine_eq
  have l0 := len_ok 0 (by decide)
  have b1 := bag_add hb (.lst [])
  obtain ⟨l, d3, S', e, p, b2⟩ := mixed_turns (R := R) (n := R.length + 1) rfl (.lst ds) ds [] none b1 (by simpa using hl)
  refine ⟨l, S', ?_, by simpa using p, b2⟩
  have hst : still (.lst ds) ds = fun _ => true := rfl
  have hlen := bag_len hb
  unfold m__law_mixed
  simp [cellM, nilM, newCell, M.bind, M.pure, varM, var, forM, seqI, srcA, asS, asL, hst, hlen, e, SR.of, SR.bind]

/- L18 -/

/-- item by item -/
inductive Two {α β : Type} (B : α → β → Prop) : List α → List β → Prop
  | nil : Two B [] []
  | cons {a : α} {b : β} {as : List α} {bs : List β} : B a b → Two B as bs → Two B (a :: as) (b :: bs)
theorem Two.length {α β : Type} {B : α → β → Prop} : ∀ {as : List α} {bs : List β}, Two B as bs → bs.length = as.length
  | _, _, .nil => rfl
  | _, _, .cons _ t => congrArg (· + 1) t.length
theorem Two.mem {α β : Type} {B : α → β → Prop} : ∀ {as : List α} {bs : List β}, Two B as bs → ∀ b ∈ bs, ∃ a ∈ as, B a b
  | _, _, .nil, b, hb => by simp at hb
  | _, _, .cons (a := a) h t, b, hb => by
    rcases List.mem_cons.mp hb with rfl | hb
    · exact ⟨a, by simp, h⟩
    · obtain ⟨a', h1, h2⟩ := t.mem b hb
      exact ⟨a', by simp [h1], h2⟩
/-- a comprehension without tests -/
theorem lc_map {g : D → Env' → Option Env'} {me : Env' → M D} {ρ : Env'} {I : Store → Prop} {B : D → D → Prop} : ∀ {ds : List D} {S : Store}, I S → (∀ d ∈ ds, ∀ S, I S → ∃ ρ2, g d ρ = some ρ2 ∧ ∃ y S2, me ρ2 S = .ok y S2 ∧ B d y ∧ I S2) →
    ∃ ys S', lcL (fun _ => true) g yesT me ρ ds S = .ok ys S' ∧ Two B ds ys ∧ I S'
  | [], S, hI, _ => ⟨[], S, rfl, .nil, hI⟩
  | d :: ds, S, hI, h => by
    obtain ⟨ρ2, e1, y, S2, e2, hB, hI2⟩ := h d (by simp) S hI
    obtain ⟨ys, S3, e3, t, hI3⟩ := lc_map (ds := ds) hI2 (fun d' hd => h d' (by simp [hd]))
    refine ⟨y :: ys, S3, ?_, .cons hB t, hI3⟩
    unfold lcL
    simp [e1, yesT, M.pure, e2, e3]
/-- with a test that changes nothing -/
theorem lc_sift {g : D → Env' → Option Env'} {mt : Env' → M Bool} {me : Env' → M D} {ρ : Env'} {S : Store} {A : D → Prop} : ∀ {ds : List D}, (∀ d ∈ ds, ∃ ρ2, g d ρ = some ρ2 ∧ ∃ b, mt ρ2 S = .ok b S ∧ (b = true → ∃ y, me ρ2 S = .ok y S ∧ A y)) →
    ∃ ys, lcL (fun _ => true) g mt me ρ ds S = .ok ys S ∧ (∀ y ∈ ys, A y) ∧ ys.length ≤ ds.length
  | [], _ => ⟨[], rfl, by simp, Nat.le_refl _⟩
  | d :: ds, h => by
    obtain ⟨ρ2, e1, b, e2, hb⟩ := h d (by simp)
    obtain ⟨ys, e3, hA, hl⟩ := lc_sift (ds := ds) (fun d' hd => h d' (by simp [hd]))
    cases b with
    | true =>
      obtain ⟨y, e4, hy⟩ := hb rfl
      refine ⟨y :: ys, ?_, ?_, by simp; omega⟩
      · unfold lcL
        simp [e1, e2, e4, e3]
      · intro z hz
        rcases List.mem_cons.mp hz with rfl | hz
        · exact hy
        · exact hA z hz
    | false =>
      refine ⟨ys, ?_, hA, by simp; omega⟩
      unfold lcL
      simp [e1, e2, e3]

/- L19 -/

/-! ### the drawn shop -/
/-- a text of the words -/
def WordD (d : D) : Prop := ∃ x ∈ words, d = .str x
theorem WordD.val {d : D} (h : WordD d) (L n : Nat) : ValL L n d := by
  obtain ⟨x, hx, rfl⟩ := h
  exact (flat_str hx).val n
theorem strs_of : ∀ {ds : List D}, (∀ d ∈ ds, WordD d) → ∃ xs, strsOf ds = some xs ∧ ds = xs.map .str ∧ (∀ x ∈ xs, x ∈ words)
  | [], _ => ⟨[], rfl, rfl, by simp⟩
  | d :: ds, h => by
    obtain ⟨x, hx, rfl⟩ := h d (by simp)
    obtain ⟨xs, e, e2, hw⟩ := strs_of (ds := ds) (fun d' hd => h d' (by simp [hd]))
    refine ⟨x :: xs, ?_, by rw [e2]; rfl, ?_⟩
    · show (strsOf ds).map (x :: ·) = _
      rw [e]
      rfl
    · intro y hy
      rcases List.mem_cons.mp hy with rfl | hy
      · exact hx
      · exact hw y hy
/-- sorted of texts -/
theorem sorted_strs (S : Store) {d : D} {ds : List D} (hd : asS S d = some ds) (hl : ds.length < 64) (h : ∀ d ∈ ds, WordD d) : ∃ es, sortedP S [d] = some (.lst es) ∧ es.length = ds.length ∧ ∀ d ∈ es, WordD d := by
  obtain ⟨xs, e, e2, hw⟩ := strs_of h
  refine ⟨(sortK id xs).map .str, ?_, ?_, ?_⟩
  · unfold sortedP
    simp [hd, hl, e]
  · rw [List.length_map, (sortK_perm id xs).length_eq, e2, List.length_map]
  · intro d hd
    obtain ⟨x, hx, rfl⟩ := List.mem_map.mp hd
    exact ⟨x, hw x ((sortK_perm id xs).mem_iff.mp hx), rfl⟩
/-- a deed: name, begin, end, price -/
def DeedD (n : Nat) (nm d : D) : Prop := ∃ x b e p, nm = .str x ∧ x ∈ words ∧ d = .tup [.str x, b, e, p] ∧ WordD b ∧ WordD e ∧ Val n p
theorem DeedD.val {n : Nat} {nm d : D} (h : DeedD n nm d) : Val (n + 1) d := by
  obtain ⟨x, b, e, p, rfl, hx, rfl, hb, he, hp⟩ := h
  refine val_tup (by simp) fun y hy => ?_
  simp only [List.mem_cons, List.not_mem_nil, or_false] at hy
  rcases hy with rfl | rfl | rfl | rfl
  · exact (flat_str hx).val n
  · exact hb.val _ n
  · exact he.val _ n
  · exact hp
theorem tups_of {n : Nat} : ∀ {nms ds : List D}, Two (DeedD n) nms ds → ∃ ts, tupsOf ds = some ts ∧ nms = ts.map (fun t => .str t.1) ∧ ds = ts.map (fun t => .tup (.str t.1 :: t.2))
  | _, _, .nil => ⟨[], rfl, rfl, rfl⟩
  | _, _, .cons h t => by
    obtain ⟨ts, e1, e2, e3⟩ := tups_of t
    obtain ⟨x, b, e, p, rfl, hx, rfl, hb, he, hp⟩ := h
    refine ⟨(x, [b, e, p]) :: ts, ?_, by rw [e2]; rfl, by rw [e3]; rfl⟩
    show (tupsOf _).map ((x, [b, e, p]) :: ·) = _
    rw [e1]
    rfl
theorem strsOf_deed {n : Nat} {nm d : D} {ds : List D} (h : DeedD n nm d) : strsOf (d :: ds) = none := by
  obtain ⟨x, b, e, p, rfl, hx, rfl, hb, he, hp⟩ := h
  rfl
/-- sorted of deeds of unlike names -/
theorem sorted_deeds {n : Nat} (S : Store) {nms ds : List D} (h : Two (DeedD n) nms ds) (h0 : ds ≠ []) (hl : ds.length < 64) (hnd : ∀ xs : List Str, nms = xs.map .str → nodupS xs = true) : ∃ es, sortedP S [.lst ds] = some (.lst es) ∧ es.length = ds.length ∧ ∀ d ∈ es, d ∈ ds := by
  obtain ⟨ts, e1, e2, e3⟩ := tups_of h
  have hs : strsOf ds = none := by
    cases h with
    | nil => exact absurd rfl h0
    | cons a b => exact strsOf_deed a
  have hn : nodupS (ts.map (·.1)) = true := hnd _ (by rw [e2, List.map_map]; rfl)
  refine ⟨(sortK (·.1) ts).map fun t => .tup (.str t.1 :: t.2), ?_, ?_, ?_⟩
  · unfold sortedP
    simp [asS, asL, hl, hs, e1, hn]
  · rw [List.length_map, (sortK_perm _ ts).length_eq, e3, List.length_map]
  · intro d hd
    obtain ⟨t, ht, rfl⟩ := List.mem_map.mp hd
    rw [e3]
    exact List.mem_map.mpr ⟨t, (sortK_perm _ ts).mem_iff.mp ht, rfl⟩
theorem word_some {S R : Store} {names : List D} (h : Bag S R) (h0 : names ≠ []) (hl : names.length < 1000) (hw : ∀ d ∈ names, WordD d) : ∃ d S', m__law_some [.loc 0, .tup names] S = .ok d S' ∧ WordD d ∧ Bag S' R := by
  obtain ⟨d, S', e, m, b⟩ := some_any (things := .tup names) h (.inl rfl) h0 (by omega)
  exact ⟨d, S', e, hw d m, b⟩
theorem eq_words (S : Store) {a b : D} (ha : WordD a) (hb : WordD b) : ∃ k, eqP S a b = some (.bl k) := by
  obtain ⟨x, _, rfl⟩ := ha
  obtain ⟨y, _, rfl⟩ := hb
  unfold eqP eqQ scalD
  simp [L2.scal]
theorem scalL_words : ∀ {ds : List D}, (∀ d ∈ ds, WordD d) → ∃ vs, scalL ds = some vs
  | [], _ => ⟨[], rfl⟩
  | d :: ds, h => by
    obtain ⟨x, hx, rfl⟩ := h d (by simp)
    obtain ⟨vs, e⟩ := scalL_words (ds := ds) (fun d' hd => h d' (by simp [hd]))
    refine ⟨.str x :: vs, ?_⟩
    simp [scalL, scalD, e]
theorem in_words (S : Store) {a : D} {ds : List D} (ha : WordD a) (h : ∀ d ∈ ds, WordD d) : ∃ k, inP S a (.tup ds) = some (.bl k) := by
  obtain ⟨x, _, rfl⟩ := ha
  obtain ⟨vs, e⟩ := scalL_words h
  refine ⟨inV (.str x) vs, ?_⟩
  unfold inP inQ
  simp [asQ, scalD, e]

/- L20 -/

theorem cut_take (l : List D) (j : Nat) : cutD l none (some (j : Int)) = l.take j := by
  have z1 : HT.sIx l.length 0 none = 0 := rfl
  have z2 : HT.sIx l.length l.length (some (j : Int)) = min j l.length := HT.sIx_nat _ _ _
  unfold cutD
  rw [z1, z2]
  simp
/-- mixed, and so many of them -/
theorem mixed_cut {S R : Store} {ds : List D} {m : Int} (hb : Bag S R) (h0 : ds ≠ []) (hl : ds.length ≤ 50) (hm : m = ds.length) (hw : ∀ d ∈ ds, WordD d) :
    ∃ n l v ns S1 S2, m__law_mixed [.loc 0, .lst ds] S = .ok (.loc n) S1 ∧ m__law_take [.loc 0, .int m] S1 = .ok (.int v) S2 ∧ slP S2 (.loc n) none (some (1 + v)) = some (.lst ns) ∧
      ns ≠ [] ∧ ns.length ≤ ds.length ∧ (∀ d ∈ ns, WordD d) ∧ Bag S2 (R ++ [.lst l]) := by
  have hpos : 0 < ds.length := List.length_pos_iff.mpr h0
  obtain ⟨l, S1, e1, p, b1⟩ := mixed_any hb hl
  obtain ⟨v, S2, e2, v0, v1, b2⟩ := take_any (many := m) b1 (by omega) (by omega)
  obtain ⟨j, rfl⟩ : ∃ j : Nat, v = (j : Int) := ⟨v.toNat, by omega⟩
  have hg : S2[R.length + 1]? = some (.lst l) := by
    rw [bag_get b2]
    exact last_get R _
  have hsl : slP S2 (.loc (R.length + 1)) none (some (1 + (j : Int))) = some (.lst (l.take (1 + j))) := by
    have e : (1 + (j : Int)) = ((1 + j : Nat) : Int) := by omega
    rw [e]
    unfold slP asS asL
    simp [hg, ← cut_take]
  have hll := p.length_eq
  refine ⟨_, l, _, l.take (1 + j), S1, S2, e1, e2, hsl, ?_, ?_, ?_, b2⟩
  · intro z
    have := congrArg List.length z
    rw [List.length_take, List.length_nil] at this
    omega
  · rw [List.length_take]
    omega
  · exact fun d hd => hw d (p.mem_iff.mp (List.mem_of_mem_take hd))
/-- the deeds -/
theorem deeds_any {R : Store} {names ends : List D} {items : List D} (h0 : names ≠ []) (hl : names.length < 1000) (hw : ∀ d ∈ names, WordD d) (hi : ∀ d ∈ items, WordD d) {S : Store} (hb : Bag S R) :
    ∃ ys S', lcL (fun _ => true) (gN 5) yesT (tupM (consM (varM 5) (consM (callM 2 m__law_some (consM (varM 0) (consM (varM 1) nilM))) (consM (callM 2 m__law_some (consM (varM 0) (consM (varM 1) nilM))) (consM (callM 2 (m__law_big_price 20) (consM (varM 0) (consM (cM (.int 2)) nilM))) nilM)))))
      [some (.loc 0), some (.tup names), some (.tup ends), none, none, none, none, none, none] items S = .ok ys S' ∧ Two (DeedD 3) items ys ∧ Bag S' R := by
  have l4 := len_ok 4 (by decide)
  refine lc_map (I := fun S => Bag S R) hb fun d hd S hS => ⟨_, rfl, ?_⟩
  obtain ⟨x, hx, rfl⟩ := hi d hd
  obtain ⟨b, S1, e1, w1, b1⟩ := word_some hS h0 hl hw
  obtain ⟨e, S2, e2, w2, b2⟩ := word_some b1 h0 hl hw
  obtain ⟨p, S3, e3, v3, b3⟩ := price_any 2 20 b2 (by decide)
  refine ⟨.tup [.str x, b, e, p], S3, ?_, ⟨x, b, e, p, rfl, hx, rfl, w1, w2, v3⟩, b3⟩
  simp [gN, tupM, consM, nilM, M.bind, varM, var, M.pure, callM, cM, e1, e2, l4]
  have e3' : m__law_big_price 20 [.loc 0, .int 2] S2 = .ok p S3 := e3
  simp [e3', l4]
/-- the deeds that may be shown -/
theorem first_any {names ends ys nms : List D} {nm : D} (hn : atI names 0 = some nm) (hnw : WordD nm) (he : ∀ d ∈ ends, WordD d) (t : Two (DeedD 3) nms ys) (S : Store) :
    ∃ zs, lcL (fun _ => true) (gT (gs1 (gN 5) (gs1 (gN 6) (gs1 (gN 7) (gs1 (gN 8) gs0))))) (andM (tV (bin2 eqP (varM 6) (bin2 ixP (varM 1) (cM (.int 0))))) (tV (bin2 inP (varM 7) (varM 2)))) (varM 5)
      [some (.loc 0), some (.tup names), some (.tup ends), some (.lst ys), none, none, none, none, none] ys S = .ok zs S ∧ (∀ y ∈ zs, WordD y) ∧ zs.length ≤ ys.length := by
  refine lc_sift fun d hd => ?_
  obtain ⟨nm', _, x, b, e, p, rfl, hx, rfl, hb, he', hp⟩ := t.mem d hd
  obtain ⟨k1, q1⟩ := eq_words S hb hnw
  obtain ⟨k2, q2⟩ := in_words S he' he
  refine ⟨_, rfl, k1 && k2, ?_, fun _ => ⟨.str x, ?_, x, hx, rfl⟩⟩
  · cases k1 <;> simp [andM, toB, M.bind, varM, var, M.op2, M.pure, bin2, cM, ix_tup', hn, q1, q2, M.lift, asB]
  · simp [gT, gs1, gN, gs0, varM, var, M.pure]

/- L21 -/

theorem word_of {x : Str} (h : x ∈ words) : WordD (.str x) := ⟨x, h, rfl⟩
/-- l == [] -/
theorem eq_lnil {L : Nat} (S : Store) {n : Nat} {ds : List D} (hn : n ≤ 60) (h : ValL L n (.lst ds)) : eqP S (.lst ds) (.lst []) = some (.bl ds.isEmpty) := by
  obtain ⟨p, h1, h2, h3⟩ := val_py S h
  have e1 : D.py S (.lst ds) = (D.pyL S ds).map .list := by simp [D.py]
  cases q : D.pyL S ds with
  | none => rw [e1, q] at h1; cases h1
  | some ps =>
    rw [e1, q] at h1
    obtain rfl := Option.some.inj h1
    have e0 : D.py S (.lst []) = some (.list []) := by simp [D.py, D.pyL]
    have hsh : SeqAt.shaped (.list ps) = true := by
      unfold SeqAt.shaped
      rw [h2]
      simp
      omega
    have hsh0 : SeqAt.shaped (.list []) = true := by decide +kernel
    have hemp : PyData.eqv (.list ps) (.list []) = ds.isEmpty := by
      cases ds with
      | nil =>
        have : ps = [] := by simpa [D.pyL] using q.symm
        subst this
        rfl
      | cons d ds =>
        cases ps with
        | nil =>
          unfold D.pyL at q
          split at q <;> cases q
        | cons p ps => simp [PyData.eqv, PyData.eqvAll]
    unfold eqP eqQ
    simp only [scalD]
    unfold eqDeep
    simp [e1, q, e0, hsh, hsh0, hemp]
theorem ne_lnil {L : Nat} (S : Store) {n : Nat} {ds : List D} (hn : n ≤ 60) (h : ValL L n (.lst ds)) : neP S (.lst ds) (.lst []) = some (.bl (!ds.isEmpty)) := by
  have e := eq_lnil S hn h
  unfold eqP at e
  unfold neP
  cases q : eqQ S (.lst ds) (.lst []) with
  | none => rw [q] at e; cases e
  | some b =>
    rw [q] at e
    injection e with e
    injection e with e
    subst e
    rfl
theorem ne_lst_nil (S : Store) {ds : List D} (h : ∀ d ∈ ds, WordD d) (hl : ds.length ≤ 405) : neP S (.lst ds) (.lst []) = some (.bl (!ds.isEmpty)) :=
  ne_lnil S (n := 1) (by decide) (val_lst (L := 405) (n := 0) hl fun e he => (h e he).val _ 0)
theorem tuple_lst (S : Store) (ds : List D) : tupleP S [.lst ds] = some (.tup ds) := rfl
theorem take_words {j : Nat} : ∀ d ∈ ([.str "buy", .str "d1", .str "go2", .str "plain", .str "z"] : List D).take j, WordD d := fun d hd => by
  have h := List.mem_of_mem_take hd
  simp only [List.mem_cons, List.not_mem_nil, or_false] at h
  rcases h with rfl | rfl | rfl | rfl | rfl <;> exact word_of (by decide)
theorem at_first {ds : List D} (h : ds ≠ []) (hw : ∀ d ∈ ds, WordD d) : ∃ d, atI ds (0 : Int) = some d ∧ WordD d := by
  cases ds with
  | nil => exact absurd rfl h
  | cons d ds => exact ⟨d, atI_nat (j := 0) rfl, hw d (by simp)⟩
def fiveL : List Str := ["buy", "d1", "go2", "plain", "z"]
theorem take_nodup (j : Nat) (xs : List Str) (h : ([.str "buy", .str "d1", .str "go2", .str "plain", .str "z"] : List D).take j = xs.map .str) : nodupS xs = true := by
  have e : ([.str "buy", .str "d1", .str "go2", .str "plain", .str "z"] : List D) = fiveL.map D.str := rfl
  rw [e, ← List.map_take] at h
  have inj : ∀ {as bs : List Str}, as.map D.str = bs.map D.str → as = bs := fun {as bs} => by
    intro h
    exact (List.map_inj_right (fun x y z => by injection z)).mp h
  have := inj h
  subst this
  rcases j with _ | _ | _ | _ | _ | j
  · decide +kernel
  · decide +kernel
  · decide +kernel
  · decide +kernel
  · decide +kernel
  · have : fiveL.take (j + 1 + 1 + 1 + 1 + 1) = fiveL := List.take_of_length_le (by simp [fiveL])
    rw [this]
    decide +kernel
theorem still_lst (xs ys : List D) : still (.lst xs) ys = fun _ => true := rfl
/-- a drawn shop -/
theorem shop_any {S R : Store} (hb : Bag S R) : ∃ d S' R', m__law_big_shop [.loc 0] S = .ok d S' ∧ Val 6 d ∧ Bag S' R' := by
  have l0 := len_ok 0 (by decide)
  have l4 := len_ok 4 (by decide)
  have l5 := len_ok 5 (by decide)
  obtain ⟨i1, l1, v1, ns, S1, S2, e1, e2, sl1, n0, nl, nw, b2⟩ := mixed_cut (ds := [.str "plain", .str "card", .str "gold", .str "s3"]) (m := 4) hb (by simp) (by simp) rfl (fun d hd => by
    simp only [List.mem_cons, List.not_mem_nil, or_false] at hd
    rcases hd with rfl | rfl | rfl | rfl <;> exact word_of (by decide))
  simp at nl
  obtain ⟨i2, l2, v2, es, S3, S4, e3, e4, sl2, m0, ml, mw, b4⟩ := mixed_cut (ds := ns) (m := ns.length) b2 n0 (by omega) rfl nw
  obtain ⟨ends, es1, es2, es3⟩ := sorted_strs S4 (d := .lst es) (ds := es) rfl (by omega) mw
  obtain ⟨v, S5, e5, v0, v5, b5⟩ := take_any (many := 5) b4 (by decide) (by decide)
  obtain ⟨j, rfl⟩ : ∃ j : Nat, v = (j : Int) := ⟨v.toNat, by omega⟩
  have hj : (1 + (j : Int)) = ((1 + j : Nat) : Int) := by omega
  obtain ⟨ys, S6, e6, t6, b6⟩ := deeds_any (names := ns) (ends := ends) (items := ([.str "buy", .str "d1", .str "go2", .str "plain", .str "z"] : List D).take (1 + j)) n0 (by omega) nw take_words b5
  have hys := t6.length
  have hys2 : ys.length = 1 + j := by
    rw [hys]
    simp
    omega
  obtain ⟨nm, hn, hnw⟩ := at_first n0 nw
  obtain ⟨zs, e7, zw, zl⟩ := first_any (names := ns) (ends := ends) hn hnw es3 t6 S6
  have hne := ne_lst_nil S6 zw (by omega)
  obtain ⟨ss, e8, sl, sm⟩ := sorted_deeds S6 t6 (by intro z; rw [z] at hys2; simp at hys2; omega) (by omega) (take_nodup (1 + j))
  have hyl : ys.length ≤ sizeLine := len_ok _ (by omega)
  have hzl : zs.length ≤ sizeLine := len_ok _ (by omega)
  have vss : Val 5 (.tup ss) := val_tup (by omega) fun e he => by
    obtain ⟨nm', _, h⟩ := t6.mem e (sm e he)
    exact h.val
  have vns : Val 5 (.tup ns) := val_tup (by omega) fun e he => (nw e he).val _ _
  have ves : Val 5 (.tup ends) := val_tup (by omega) fun e he => (es3 e he).val _ _
  have fin : ∀ {x : D} {S' : Store}, Val 5 x → Val 6 (.tup [.tup ns, .tup ends, .tup ss, x]) := fun hx => val_tup (by simp) fun e he => by
    simp only [List.mem_cons, List.not_mem_nil, or_false] at he
    rcases he with rfl | rfl | rfl | rfl
    · exact vns
    · exact ves
    · exact vss
    · exact hx
  have vnon : Val 5 .non := (show Flat .non from .inl rfl).val 5
  have hs1 := fun S => tuple_lst S ns
  have hl1 : ∀ S, listP S [.tup ns] = some (.lst ns) := fun S => list_tup S ns
  have hlen : ∀ S, lenP S [.tup ns] = some (.int ns.length) := fun S => len_tup S ns
  have hcut : ∀ S, slP S (.tup [.str "buy", .str "d1", .str "go2", .str "plain", .str "z"]) none (some (1 + (j : Int))) = some (.tup (([.str "buy", .str "d1", .str "go2", .str "plain", .str "z"] : List D).take (1 + j))) := fun S => by
    rw [sl_tup, hj, cut_take]
  cases hz : zs.isEmpty with
  | true =>
    rw [hz] at hne
    refine ⟨_, S6, _, ?_, fin (S' := S6) vnon, b6⟩
    unfold m__law_big_shop
    simp [tV, toB, bltM, consM, nilM, M.bind, varM, var, M.opL, M.op2, M.op1, M.lift, asB, M.pure, bin2, callM, cM, SR.of, SR.bind, lstM, l4, e1, e2, slM, noP, opP, optI, asI, opS, add_ints, sl1, hs1, hl1, e3, hlen, e4, sl2, es1, tuple_lst, tupM, l5, e5, hcut, lcM, lcI, seqI, srcA, wipeE, e6, hyl, asS, asL, still_lst, e7, hzl, e8, ifV, andM, hne, l0]
  | false =>
    rw [hz] at hne
    obtain ⟨w, S7, e9, w0, w2, b7⟩ := take_any (many := 2) b6 (by decide) (by decide)
    by_cases hw0 : w = 0
    · obtain ⟨z, hz1, hz2⟩ := at_first (ds := zs) (by intro q; rw [q] at hz; cases hz) zw
      subst hw0
      refine ⟨_, S7, _, ?_, fin (S' := S7) (hz2.val _ 5), b7⟩
      unfold m__law_big_shop
      simp [tV, toB, bltM, consM, nilM, M.bind, varM, var, M.opL, M.op2, M.op1, M.lift, asB, M.pure, bin2, callM, cM, SR.of, SR.bind, lstM, l4, e1, e2, slM, noP, opP, optI, asI, opS, add_ints, sl1, hs1, hl1, e3, hlen, e4, sl2, es1, tuple_lst, tupM, l5, e5, hcut, lcM, lcI, seqI, srcA, wipeE, e6, hyl, asS, asL, still_lst, e7, hzl, e8, ifV, andM, hne, l0, e9, eq_ints, ix_lst, hz1]
    · refine ⟨_, S7, _, ?_, fin (S' := S7) vnon, b7⟩
      unfold m__law_big_shop
      simp [tV, toB, bltM, consM, nilM, M.bind, varM, var, M.opL, M.op2, M.op1, M.lift, asB, M.pure, bin2, callM, cM, SR.of, SR.bind, lstM, l4, e1, e2, slM, noP, opP, optI, asI, opS, add_ints, sl1, hs1, hl1, e3, hlen, e4, sl2, es1, tuple_lst, tupM, l5, e5, hcut, lcM, lcI, seqI, srcA, wipeE, e6, hyl, asS, asL, still_lst, e7, hzl, e8, ifV, andM, hne, l0, e9, eq_ints, hw0]

/- L22 -/

/-! ### names -/
def lettersS : Str := "abcdefghijklmnopqrstuvwxyz"
def signsS : Str := "abcdefghijklmnopqrstuvwxyz0123456789"
def letterC (c : Nat) : Bool := decide (c ∈ lettersS.cps.toList)
def signC (c : Nat) : Bool := decide (c ∈ signsS.cps.toList)
def reservedL : List Str := ["barred", "deed", "down", "each", "else", "ends", "from", "full", "greatest", "half", "if", "is", "least", "less", "money", "packs", "plus", "reaches", "share", "shown", "standing", "then", "to", "until", "up"]
/-- a text is a name, as the program asks -/
def nmP (x : Str) : Bool := match x.cps.toList with
  | [] => false
  | c :: r => decide (r.length < 8) && letterC c && !(inV (.str x) (reservedL.map .str)) && (c :: r).all signC
theorem len_cps {x : Str} {c : Nat} {r : List Nat} (h : x.cps.toList = c :: r) : x.length = r.length + 1 := by
  have : x.cps.toList.length = x.length := by simp [Str.length]
  rw [← this, h]
  rfl
theorem len_cps0 {x : Str} (h : x.cps.toList = []) : x.length = 0 := by
  have : x.cps.toList.length = x.length := by simp [Str.length]
  rw [← this, h]
  rfl
theorem kit_ss : L2.kitB "str" "str" = some true := by decide +kernel
theorem letters_digits (S : Store) : addP S c_LETTERS c_DIGITS = some (.str signsS) := by
  have e : lettersS ++ ("0123456789" : Str) = signsS := by decide +kernel
  show (if lettersS.length + ("0123456789" : Str).length ≤ sizeLine then some (D.str (lettersS ++ ("0123456789" : Str))) else none) = _
  rw [if_pos (by decide +kernel), e]
theorem scal_res : scalL (reservedL.map D.str) = some (reservedL.map V.str) := by decide +kernel
theorem in_reserved (S : Store) (x : Str) : ninP S (.str x) c_RESERVED = some (.bl (!(inV (.str x) (reservedL.map .str)))) := by
  have e : c_RESERVED = .tup (reservedL.map D.str) := rfl
  rw [e]
  unfold ninP inQ
  simp [asQ, scalD, scal_res]
theorem in_text (S : Store) (c : Nat) (y : Str) : inP S (.str ⟨#[c]⟩) (.str y) = some (.bl (decide (c ∈ y.cps.toList))) := by
  unfold inP inQ
  simp
theorem nin_text (S : Store) (c : Nat) (y : Str) : ninP S (.str ⟨#[c]⟩) (.str y) = some (.bl (!decide (c ∈ y.cps.toList))) := by
  unfold ninP inQ
  simp
theorem lc_signs (S : Store) (d : D) : ∀ l : List Nat, lcL (fun _ => true) (gN 1) yesT (bin2 inP (varM 1) (bin2 addP (cM c_LETTERS) (cM c_DIGITS))) [some d, none] (l.map fun c => D.str ⟨#[c]⟩) S = .ok (l.map fun c => D.bl (signC c)) S
  | [] => rfl
  | c :: l => by
    have ih := lc_signs S d l
    rw [List.map_cons]
    unfold lcL
    simp [gN, yesT, M.pure, bin2, M.bind, varM, var, cM, M.op2, letters_digits, in_text, ih, signC]
theorem bls_map (f : Nat → Bool) : ∀ l : List Nat, blsOf (l.map fun c => D.bl (f c)) = some (l.map f)
  | [] => rfl
  | c :: l => by
    rw [List.map_cons]
    show (blsOf _).map (f c :: ·) = _
    rw [bls_map f l]
    rfl
theorem at_first_of {α : Type} {c : α} {r : List α} : atI (c :: r) (0 : Int) = some c := atI_nat (j := 0) rfl
/-- the program's is_name of a text -/
theorem is_name_str (x : Str) (S : Store) (hx : x.length ≤ sizeLine) : m_is_name [.str x] S = .ok (.bl (nmP x)) S := by
  cases e : x.cps.toList with
  | nil =>
    have h0 := len_cps0 e
    unfold m_is_name nmP
    simp [e, h0, toB, bltM, consM, nilM, M.bind, varM, var, M.opL, M.op2, M.lift, asB, M.pure, bin2, isiP, tyName, kit_ss, chain2, lenP, leP, orM, notT, tV, SR.of, SR.bind]
  | cons c r =>
    have h0 := len_cps e
    have hi : ∀ S, ixP S (.str x) (.int 0) = some (.str ⟨#[c]⟩) := fun S => by
      show (if x.length ≤ sizeLine then _ else none) = _
      rw [if_pos hx, e, at_first_of]
      rfl
    have h1 : (1 : Int) ≤ (x.length : Int) := by omega
    have hl : ∀ S, ninP S (.str ⟨#[c]⟩) c_LETTERS = some (.bl (!letterC c)) := fun S => nin_text S c _
    have hr := fun S => in_reserved S x
    have hlen := fun S : Store => (show lenP S [.str x] = some (.int x.length) from if_pos hx)
    by_cases h2 : r.length < 8
    · have h2' : (x.length : Int) ≤ 8 := by omega
      have hcut : (c :: r).length ≤ sizeLine := by rw [sizeLine_eq]; simp; omega
      have hl9 : r.length + 1 ≤ sizeLine := by rw [sizeLine_eq]; omega
      have hlc := lc_signs S (.str x) (c :: r)
      have hb := bls_map signC (c :: r)
      rw [List.map_cons, List.map_cons] at hlc
      rw [List.map_cons, List.map_cons] at hb
      cases k1 : letterC c with
      | false =>
        unfold m_is_name nmP
        simp [e, h1, h2, h2', k1, toB, bltM, consM, nilM, M.bind, varM, var, M.opL, M.op2, M.lift, asB, M.pure, bin2, isiP, tyName, kit_ss, chain2, hlen, leP, orM, notT, tV, SR.of, SR.bind, c_MOST_LETTERS, hi, hl]
      | true =>
        cases k2 : inV (.str x) (reservedL.map .str) with
        | true =>
          unfold m_is_name nmP
          simp [e, h1, h2, h2', k1, k2, toB, bltM, consM, nilM, M.bind, varM, var, M.opL, M.op2, M.lift, asB, M.pure, bin2, isiP, tyName, kit_ss, chain2, hlen, leP, orM, notT, tV, SR.of, SR.bind, c_MOST_LETTERS, hi, hl, andV, hr]
        | false =>
          unfold m_is_name nmP
          simp [e, h1, h2, h2', k1, k2, toB, bltM, consM, nilM, M.bind, varM, var, M.opL, M.op2, M.lift, asB, M.pure, bin2, isiP, tyName, kit_ss, chain2, hlen, leP, orM, notT, tV, SR.of, SR.bind, c_MOST_LETTERS, hi, hl, andV, hr, lcM, lcI, seqI, srcA, wipeE, hlc, allP, asS, asL, hb, hl9]
    · have h2' : ¬ (x.length : Int) ≤ 8 := by omega
      unfold m_is_name nmP
      simp [e, h1, h2, h2', toB, bltM, consM, nilM, M.bind, varM, var, M.opL, M.op2, M.lift, asB, M.pure, bin2, isiP, tyName, kit_ss, chain2, hlen, leP, orM, notT, tV, SR.of, SR.bind, c_MOST_LETTERS, hi, hl]

/- L23 -/
/-- l == [], the items being plain data -/
theorem eq_lnil_py (S : Store) {ds : List D} (h : ∀ e ∈ ds, ∃ p, e.py S = some p ∧ p.canLay0 = true ∧ p.depth ≤ 60) : eqP S (.lst ds) (.lst []) = some (.bl ds.isEmpty) := by
  obtain ⟨ps, g1, g2, g3, g4⟩ := pyL_of (S := S) (n := 60) h
  have e1 : D.py S (.lst ds) = some (.list ps) := by simp [D.py, g1]
  have e0 : D.py S (.lst []) = some (.list []) := by simp [D.py, D.pyL]
  have hsh : SeqAt.shaped (.list ps) = true := by
    unfold SeqAt.shaped
    simp only [PyData.canLay0, PyData.depth, g2]
    simp
    omega
  have hsh0 : SeqAt.shaped (.list []) = true := by decide +kernel
  have hemp : PyData.eqv (.list ps) (.list []) = ds.isEmpty := by
    cases ds with
    | nil =>
      have : ps = [] := List.length_eq_zero_iff.mp g4
      subst this
      rfl
    | cons d ds =>
      cases ps with
      | nil => simp at g4
      | cons p ps => simp [PyData.eqv, PyData.eqvAll]
  unfold eqP eqQ
  simp only [scalD]
  unfold eqDeep
  simp [e1, e0, hsh, hsh0, hemp]
theorem filter_empty (f : Nat → Bool) : ∀ l : List Nat, (l.filter fun c => !f c).isEmpty = l.all f
  | [] => rfl
  | c :: l => by
    have ih := filter_empty f l
    cases k : f c <;> simp [k, ih]
/- L24 -/

/-! ### plain values of some depth, and what they are -/
def FlatD : D → Prop
  | .non => True
  | .bl _ => True
  | .int _ => True
  | .str x => x.length ≤ sizeLine ∧ PyData.strOk x = true
  | _ => False
def PlD : Nat → D → Prop
  | 0, d => FlatD d
  | n + 1, d => FlatD d ∨ ∃ ds : List D, (d = .tup ds ∨ d = .lst ds) ∧ ∀ e ∈ ds, PlD n e
theorem words_len : (words.all fun x => decide (x.length ≤ 20)) = true := by decide +kernel
theorem flatD_of {d : D} (h : Flat d) : FlatD d := by
  rcases h with rfl | ⟨b, rfl⟩ | ⟨i, rfl, _⟩ | ⟨x, hx, rfl⟩
  · exact trivial
  · exact trivial
  · exact trivial
  · refine ⟨?_, List.all_eq_true.mp words_ok x hx⟩
    have := List.all_eq_true.mp words_len x hx
    have := of_decide_eq_true this
    rw [sizeLine_eq]
    omega
theorem pl_of_val {L : Nat} : ∀ {n : Nat} {d : D}, ValL L n d → PlD n d
  | 0, _, h => flatD_of h
  | n + 1, _, h => by
    rcases h with h | ⟨ds, h1, _, h3⟩
    · exact .inl (flatD_of h)
    · exact .inr ⟨ds, h1, fun e he => pl_of_val (h3 e he)⟩
theorem FlatD.pl {d : D} (h : FlatD d) : ∀ n, PlD n d
  | 0 => h
  | _ + 1 => .inl h
theorem PlD.succ : ∀ {n : Nat} {d : D}, PlD n d → PlD (n + 1) d
  | 0, _, h => .inl h
  | n + 1, d, h => by
    rcases h with h | ⟨ds, h1, h2⟩
    · exact .inl h
    · exact .inr ⟨ds, h1, fun e he => (h2 e he).succ⟩
theorem PlD.mono {n m : Nat} {d : D} (h : PlD n d) (hm : n ≤ m) : PlD m d := by
  obtain ⟨k, rfl⟩ := Nat.exists_eq_add_of_le hm
  induction k with
  | zero => exact h
  | succ k ih => exact (ih (by omega)).succ
theorem pl_tup {n : Nat} {ds : List D} (h : ∀ e ∈ ds, PlD n e) : PlD (n + 1) (.tup ds) := .inr ⟨ds, .inl rfl, h⟩
theorem pl_lst {n : Nat} {ds : List D} (h : ∀ e ∈ ds, PlD n e) : PlD (n + 1) (.lst ds) := .inr ⟨ds, .inr rfl, h⟩
theorem pl_items {n : Nat} {ds : List D} (h : PlD n (.tup ds)) : ∃ m, n = m + 1 ∧ ∀ e ∈ ds, PlD m e := by
  cases n with
  | zero => exact absurd h (fun z => z)
  | succ n =>
    rcases h with h | ⟨es, e | e, h3⟩
    · exact absurd h (fun z => z)
    · cases e
      exact ⟨n, rfl, h3⟩
    · cases e
theorem pl_itemsL {n : Nat} {ds : List D} (h : PlD n (.lst ds)) : ∃ m, n = m + 1 ∧ ∀ e ∈ ds, PlD m e := by
  cases n with
  | zero => exact absurd h (fun z => z)
  | succ n =>
    rcases h with h | ⟨es, e | e, h3⟩
    · exact absurd h (fun z => z)
    · cases e
    · cases e
      exact ⟨n, rfl, h3⟩
theorem flatD_py {d : D} (h : FlatD d) (S : Store) : ∃ p, d.py S = some p ∧ p.canLay0 = true ∧ p.depth = 0 := by
  cases d with
  | non => exact ⟨.none, rfl, rfl, rfl⟩
  | bl b => exact ⟨.bool b, rfl, rfl, rfl⟩
  | int i => exact ⟨.int i, rfl, rfl, rfl⟩
  | str x => exact ⟨.str x, rfl, h.2, rfl⟩
  | _ => exact h.elim
theorem pl_py (S : Store) : ∀ {n : Nat} {d : D}, PlD n d → ∃ p, d.py S = some p ∧ p.canLay0 = true ∧ p.depth ≤ n
  | 0, d, h => by
    obtain ⟨p, h1, h2, h3⟩ := flatD_py h S
    exact ⟨p, h1, h2, by omega⟩
  | n + 1, d, h => by
    rcases h with h | ⟨ds, hd, hv⟩
    · obtain ⟨p, h1, h2, h3⟩ := flatD_py h S
      exact ⟨p, h1, h2, by omega⟩
    · obtain ⟨ps, g1, g2, g3, g4⟩ := pyL_of (S := S) (n := n) fun e he => pl_py S (hv e he)
      rcases hd with rfl | rfl
      · exact ⟨.tuple ps, by simp [D.py, g1], by simp [PyData.canLay0, g2], by simp only [PyData.depth]; omega⟩
      · exact ⟨.list ps, by simp [D.py, g1], by simp [PyData.canLay0, g2], by simp only [PyData.depth]; omega⟩
/-- t == () -/
theorem eq_tnil (S : Store) {n : Nat} {ds : List D} (hn : n ≤ 60) (h : PlD n (.tup ds)) : eqP S (.tup ds) (.tup []) = some (.bl ds.isEmpty) := by
  obtain ⟨m, rfl, hi⟩ := pl_items h
  obtain ⟨ps, g1, g2, g3, g4⟩ := pyL_of (S := S) (n := m) fun e he => pl_py S (hi e he)
  have e1 : D.py S (.tup ds) = some (.tuple ps) := by simp [D.py, g1]
  have e0 : D.py S (.tup []) = some (.tuple []) := by simp [D.py, D.pyL]
  have hsh : SeqAt.shaped (.tuple ps) = true := by
    unfold SeqAt.shaped
    simp only [PyData.canLay0, PyData.depth, g2]
    simp
    omega
  have hsh0 : SeqAt.shaped (.tuple []) = true := by decide +kernel
  have hemp : PyData.eqv (.tuple ps) (.tuple []) = ds.isEmpty := by
    cases ds with
    | nil =>
      have : ps = [] := List.length_eq_zero_iff.mp g4
      subst this
      rfl
    | cons d ds =>
      cases ps with
      | nil => simp at g4
      | cons p ps => simp [PyData.eqv, PyData.eqvAll]
  unfold eqP eqQ
  simp only [scalD]
  unfold eqDeep
  simp [e1, e0, hsh, hsh0, hemp]
/-- l == [] -/
theorem eq_nil_l (S : Store) {n : Nat} {ds : List D} (hn : n ≤ 60) (h : ∀ e ∈ ds, PlD n e) : eqP S (.lst ds) (.lst []) = some (.bl ds.isEmpty) := eq_lnil_py S fun e he => by
  obtain ⟨p, h1, h2, h3⟩ := pl_py S (h e he)
  exact ⟨p, h1, h2, by omega⟩
/-- the kinds -/
def kindD : D → String
  | .non => "NoneType"
  | .bl _ => "bool"
  | .int _ => "int"
  | .str _ => "str"
  | .tup _ => "tuple"
  | .lst _ => "list"
  | _ => ""
theorem ty_pl {n : Nat} {d : D} (h : PlD n d) (S : Store) : tyName S d = some (kindD d) := by
  have fl : ∀ {d : D}, FlatD d → tyName S d = some (kindD d) := fun {d} h => by
    cases d <;> first | rfl | exact h.elim
  cases n with
  | zero => exact fl h
  | succ n =>
    rcases h with h | ⟨ds, rfl | rfl, _⟩
    · exact fl h
    · rfl
    · rfl
def isIntD : D → Bool
  | .int _ => true
  | _ => false
def isStrD : D → Bool
  | .str _ => true
  | _ => false
theorem kit_tab : ((["NoneType", "bool", "int", "str", "tuple", "list"].all fun a => ["int", "bool", "str", "tuple"].all fun b => L2.kitB a b == some (a == b || (a == "bool" && b == "int"))) = true) := by decide +kernel
theorem kit_is (a b : String) (ha : a ∈ ["NoneType", "bool", "int", "str", "tuple", "list"]) (hb : b ∈ ["int", "bool", "str", "tuple"]) : L2.kitB a b = some (a == b || (a == "bool" && b == "int")) := by
  have h := List.all_eq_true.mp (List.all_eq_true.mp kit_tab a ha) b hb
  exact eq_of_beq h
theorem kind_in {n : Nat} {d : D} (h : PlD n d) : kindD d ∈ ["NoneType", "bool", "int", "str", "tuple", "list"] := by
  have fl : ∀ {d : D}, FlatD d → kindD d ∈ ["NoneType", "bool", "int", "str", "tuple", "list"] := fun {d} h => by
    cases d <;> first | exact h.elim | simp [kindD]
  cases n with
  | zero => exact fl h
  | succ n =>
    rcases h with h | ⟨ds, rfl | rfl, _⟩
    · exact fl h
    · simp [kindD]
    · simp [kindD]
theorem isi_pl {n : Nat} {d : D} (h : PlD n d) (S : Store) {b : String} (hb : b ∈ ["int", "bool", "str", "tuple"]) : isiP S [d, .ty b] = some (.bl (kindD d == b || (kindD d == "bool" && b == "int"))) := by
  show (match tyName S d with
    | some t => (kitB t b).map D.bl
    | none => none) = _
  rw [ty_pl h S]
  show (kitB (kindD d) b).map D.bl = _
  rw [kit_is _ _ (kind_in h) hb]
  rfl
theorem isi_tuple {n : Nat} {d : D} (h : PlD n d) (S : Store) : isiP S [d, .ty "tuple"] = some (.bl (isTupD d)) := by
  rw [isi_pl h S (by simp)]
  cases d <;> rfl
theorem isi_str {n : Nat} {d : D} (h : PlD n d) (S : Store) : isiP S [d, .ty "str"] = some (.bl (isStrD d)) := by
  rw [isi_pl h S (by simp)]
  cases d <;> rfl
def isBlD : D → Bool
  | .bl _ => true
  | _ => false
theorem isi_bool {n : Nat} {d : D} (h : PlD n d) (S : Store) : isiP S [d, .ty "bool"] = some (.bl (isBlD d)) := by
  rw [isi_pl h S (by simp)]
  cases d <;> rfl
theorem isi_int {n : Nat} {d : D} (h : PlD n d) (S : Store) : isiP S [d, .ty "int"] = some (.bl (isIntD d || isBlD d)) := by
  rw [isi_pl h S (by simp)]
  cases d <;> rfl
/-! ### numbers -/
def wholeB (lo hi : Int) : D → Bool
  | .int i => decide (lo ≤ i) && decide (i ≤ hi)
  | _ => false
theorem is_number_pl {n : Nat} {d : D} (h : PlD n d) (S : Store) : m_is_number [d] S = .ok (.bl (isIntD d)) S := by
  have h1 := fun S => isi_int h S
  have h2 := fun S => isi_bool h S
  unfold m_is_number
  cases d <;> simp [andV, notV, toB, bltM, consM, nilM, M.bind, varM, var, M.opL, h1, h2, isIntD, isBlD, M.lift, asB, M.pure, cM, SR.of, SR.bind]
theorem is_between_pl {n : Nat} {d : D} (h : PlD n d) (lo hi : Int) (S : Store) : m_is_between [d, .int lo, .int hi] S = .ok (.bl (wholeB lo hi d)) S := by
  have h1 := fun S => is_number_pl h S
  unfold m_is_between
  cases d with
  | int i =>
    by_cases a : lo ≤ i
    · by_cases b : i ≤ hi <;> simp [andV, toB, callM, consM, nilM, M.bind, varM, var, M.op2, M.lift, asB, M.pure, cM, h1, isIntD, chain2, leP, a, b, wholeB, SR.of, SR.bind]
    · simp [andV, toB, callM, consM, nilM, M.bind, varM, var, M.op2, M.lift, asB, M.pure, cM, h1, isIntD, chain2, leP, a, wholeB, SR.of, SR.bind]
  | _ => simp [andV, toB, callM, consM, nilM, M.bind, varM, var, M.op2, M.lift, asB, M.pure, cM, h1, isIntD, wholeB, SR.of, SR.bind]
theorem is_money_pl {n : Nat} {d : D} (h : PlD n d) (S : Store) : m_is_money [d] S = .ok (.bl (wholeB (-1000000) 1000000 d)) S := by
  have h1 := fun S => is_between_pl h (-1000000) 1000000 S
  unfold m_is_money
  simp [callM, consM, nilM, M.bind, varM, var, M.op1, M.lift, asB, M.pure, cM, h1, un1, c_MOST_MONEY, neg_int, SR.of, SR.bind]
/-! ### names -/
def nameB : D → Bool
  | .str x => nmP x
  | _ => false
theorem is_name_pl {n : Nat} {d : D} (h : PlD n d) (S : Store) : m_is_name [d] S = .ok (.bl (nameB d)) S := by
  cases d with
  | str x =>
    have hx : x.length ≤ sizeLine := by
      cases n with
      | zero => exact h.1
      | succ n =>
        rcases h with h | ⟨ds, e | e, _⟩
        · exact h.1
        · cases e
        · cases e
    exact is_name_str x S hx
  | _ =>
    have h1 := fun S => isi_str h S
    unfold m_is_name
    simp [orM, notT, tV, toB, bltM, M.opL, consM, nilM, M.bind, varM, var, M.op2, M.lift, asB, M.pure, cM, h1, isStrD, nameB, SR.of, SR.bind]
/- L25 -/

/-! ### prices, as the program asks -/
def keysW : List String := ["barred", "money", "each", "packs", "full", "greatest", "least", "less", "plus", "from", "share", "above", "down", "half", "up"]
theorem key_tab : (keysW.all fun a => keysW.all fun b => (decide (Str.ofString a = Str.ofString b)) == (a == b)) = true := by decide +kernel
theorem key_eq {a b : String} (ha : a ∈ keysW) (hb : b ∈ keysW) : (Str.ofString a = Str.ofString b) = (a = b) := by
  have h := List.all_eq_true.mp (List.all_eq_true.mp key_tab a ha) b hb
  have h := eq_of_beq h
  by_cases e : a = b
  · subst e
    simp
  · rw [beq_eq_false_iff_ne.mpr e] at h
    have h := of_decide_eq_false h
    simp [e, h]
def wayB : D → Bool
  | .str x => decide (x = "down") || (decide (x = "half") || decide (x = "up"))
  | _ => false
abbrev moneyB : D → Bool := wholeB (-1000000) 1000000
/-- prices as to their form; so deep at the most -/
def priceB : Nat → D → Bool
  | k + 1, .tup (.str w :: r) =>
    if w = "barred" then (match r with
      | [] => true
      | _ => false)
    else if w = "money" ∨ w = "each" then (match r with
      | [m] => moneyB m
      | _ => false)
    else if w = "packs" ∨ w = "full" then (match r with
      | [a, m] => wholeB 2 60 a && moneyB m
      | _ => false)
    else if w = "greatest" ∨ w = "least" ∨ w = "less" ∨ w = "plus" then (match r with
      | [p, q] => priceB k p && priceB k q
      | _ => false)
    else if w = "from" then (match r with
      | [f, p, q] => wholeB 1 200 f && (priceB k p && priceB k q)
      | _ => false)
    else if w = "share" then (match r with
      | [p, a, u, z] => priceB k p && (wholeB 0 999 a && (wholeB 1 1000 u && wayB z))
      | _ => false)
    else if w = "above" then (match r with
      | [p, m, q, s] => priceB k p && (moneyB m && (priceB k q && priceB k s))
      | _ => false)
    else false
  | _, _ => false
theorem eq_strs (S : Store) (x y : Str) : eqP S (.str x) (.str y) = some (.bl (decide (x = y))) := by
  unfold eqP eqQ scalD
  simp [L2.scal]
theorem ne_strs (S : Store) (x y : Str) : neP S (.str x) (.str y) = some (.bl (!decide (x = y))) := by
  unfold neP eqQ scalD
  simp [L2.scal]
theorem ne_ints (S : Store) (i j : Int) : neP S (.int i) (.int j) = some (.bl (!decide (i = j))) := by
  unfold neP eqQ scalD
  simp [L2.scal]
theorem eqV_str (x y : Str) : L2.eqV (.str y) (.str x) = decide (x = y) := by
  by_cases h : x = y
  · subst h
    simp [L2.eqV]
  · have h' : y ≠ x := fun z => h z.symm
    simp [L2.eqV, h, h']
theorem in_tup2 (S : Store) (x a b : Str) : inP S (.str x) (.tup [.str a, .str b]) = some (.bl (decide (x = a) || decide (x = b))) := by
  unfold inP inQ
  simp [asQ, scalD, scalL, L2.inV, eqV_str]
theorem nin_tup2 (S : Store) (x a b : Str) : ninP S (.str x) (.tup [.str a, .str b]) = some (.bl (!(decide (x = a) || decide (x = b)))) := by
  unfold ninP inQ
  simp [asQ, scalD, scalL, L2.inV, eqV_str]
theorem in_tup3 (S : Store) (x a b c : Str) : inP S (.str x) (.tup [.str a, .str b, .str c]) = some (.bl (decide (x = a) || (decide (x = b) || decide (x = c)))) := by
  unfold inP inQ
  simp [asQ, scalD, scalL, L2.inV, eqV_str]
theorem nin_tup3 (S : Store) (x a b c : Str) : ninP S (.str x) (.tup [.str a, .str b, .str c]) = some (.bl (!(decide (x = a) || (decide (x = b) || decide (x = c))))) := by
  unfold ninP inQ
  simp [asQ, scalD, scalL, L2.inV, eqV_str]
theorem in_tup4 (S : Store) (x a b c d : Str) : inP S (.str x) (.tup [.str a, .str b, .str c, .str d]) = some (.bl (decide (x = a) || (decide (x = b) || (decide (x = c) || decide (x = d))))) := by
  unfold inP inQ
  simp [asQ, scalD, scalL, L2.inV, eqV_str]
theorem is_one_of_pl {n : Nat} {d : D} (h : PlD n d) (S : Store) : m_is_one_of [d, c_WAYS] S = .ok (.bl (wayB d)) S := by
  have h1 := fun S => isi_str h S
  unfold m_is_one_of
  cases d <;> simp [andV, toB, bltM, M.opL, consM, nilM, M.bind, varM, var, M.op2, M.lift, asB, M.pure, cM, h1, isStrD, bin2, c_WAYS, in_tup3, wayB, SR.of, SR.bind]
theorem at_0 (a : D) (r : List D) : atI (a :: r) (0 : Int) = some a := atI_nat (j := 0) rfl
theorem at_1 (a b : D) (r : List D) : atI (a :: b :: r) (1 : Int) = some b := atI_nat (j := 1) rfl
theorem at_2 (a b c : D) (r : List D) : atI (a :: b :: c :: r) (2 : Int) = some c := atI_nat (j := 2) rfl
theorem at_3 (a b c d : D) (r : List D) : atI (a :: b :: c :: d :: r) (3 : Int) = some d := atI_nat (j := 3) rfl
theorem at_4 (a b c d e : D) (r : List D) : atI (a :: b :: c :: d :: e :: r) (4 : Int) = some e := atI_nat (j := 4) rfl
/-- prices without prices in them -/
theorem plain_run {n k : Nat} {w : Str} {r : List D} (hi : ∀ e ∈ r, PlD n e) (S : Store) (hp : w ≠ "greatest" ∧ w ≠ "least" ∧ w ≠ "less" ∧ w ≠ "plus" ∧ w ≠ "from" ∧ w ≠ "share" ∧ w ≠ "above") :
    m_is_plain_price [.tup (.str w :: r)] S = .ok (.bl (priceB (k + 1) (.tup (.str w :: r)))) S := by
  obtain ⟨g1, g2, g3, g4, g5, g6, g7⟩ := hp
  have ix0 : ∀ S, ixP S (.tup (.str w :: r)) (.int 0) = some (.str w) := fun S => at_0 _ _
  have hlen : ∀ S, lenP S [.tup (.str w :: r)] = some (.int (r.length + 1 : Nat)) := fun S => len_tup S _
  have l2 := len_ok 2 (by decide)
  unfold m_is_plain_price priceB
  by_cases c1 : w = "barred"
  · have c1 := eq_true c1
    cases r with
    | nil => simp [tV, toB, bltM, M.opL, consM, nilM, M.bind, varM, var, M.op2, M.lift, asB, M.pure, cM, bin2, ix0, eq_strs, c1, hlen, eq_ints, SR.of, SR.bind]
    | cons a r =>
      have e1 : ¬ ((r.length : Int) + 1 + 1 = 1) := by omega
      simp [tV, toB, bltM, M.opL, consM, nilM, M.bind, varM, var, M.op2, M.lift, asB, M.pure, cM, bin2, ix0, eq_strs, c1, hlen, e1, eq_ints, SR.of, SR.bind]
  by_cases c2 : w = "money" ∨ w = "each"
  · have c2 := eq_true c2
    have c2' : (decide (w = "money") || decide (w = "each")) = true := by simpa using c2
    rcases r with _ | ⟨a, _ | ⟨b, r⟩⟩
    · simp [tV, toB, bltM, M.opL, consM, nilM, M.bind, varM, var, M.op2, M.lift, asB, M.pure, cM, bin2, ix0, eq_strs, c1, c2, c2', tupM, l2, in_tup2, hlen, eq_ints, andV, SR.of, SR.bind]
    · have hm := fun S => is_money_pl (hi a (by simp)) S
      have ix1 : ∀ S, ixP S (.tup [.str w, a]) (.int 1) = some a := fun S => at_1 _ _ _
      simp [tV, toB, bltM, M.opL, consM, nilM, M.bind, varM, var, M.op2, M.lift, asB, M.pure, cM, bin2, ix0, ix1, eq_strs, c1, c2, c2', tupM, l2, in_tup2, hlen, eq_ints, andV, callM, hm, SR.of, SR.bind]
    · have e1 : ¬ ((r.length : Int) + 1 + 1 + 1 = 2) := by omega
      simp [tV, toB, bltM, M.opL, consM, nilM, M.bind, varM, var, M.op2, M.lift, asB, M.pure, cM, bin2, ix0, eq_strs, c1, c2, c2', tupM, l2, in_tup2, hlen, eq_ints, andV, e1, SR.of, SR.bind]
  have c2' : (decide (w = "money") || decide (w = "each")) = false := by simpa using c2
  by_cases c3 : w = "packs" ∨ w = "full"
  · have c3 := eq_true c3
    have c3' : (decide (w = "packs") || decide (w = "full")) = true := by simpa using c3
    rcases r with _ | ⟨a, _ | ⟨b, _ | ⟨c, r⟩⟩⟩
    · simp [tV, toB, bltM, M.opL, consM, nilM, M.bind, varM, var, M.op2, M.lift, asB, M.pure, cM, bin2, ix0, eq_strs, c1, c2, c2', c3, c3', tupM, l2, in_tup2, nin_tup2, hlen, eq_ints, ne_ints, orM, andV, SR.of, SR.bind]
    · simp [tV, toB, bltM, M.opL, consM, nilM, M.bind, varM, var, M.op2, M.lift, asB, M.pure, cM, bin2, ix0, eq_strs, c1, c2, c2', c3, c3', tupM, l2, in_tup2, nin_tup2, hlen, eq_ints, ne_ints, orM, andV, SR.of, SR.bind]
    · have hm := fun S => is_money_pl (hi b (by simp)) S
      have hw := fun S => is_between_pl (hi a (by simp)) 2 60 S
      have ix1 : ∀ S, ixP S (.tup [.str w, a, b]) (.int 1) = some a := fun S => at_1 _ _ _
      have ix2 : ∀ S, ixP S (.tup [.str w, a, b]) (.int 2) = some b := fun S => at_2 _ _ _ _
      cases k1 : wholeB 2 60 a <;> simp [tV, toB, bltM, M.opL, consM, nilM, M.bind, varM, var, M.op2, M.lift, asB, M.pure, cM, bin2, ix0, ix1, ix2, eq_strs, c1, c2, c2', c3, c3', tupM, l2, in_tup2, nin_tup2, hlen, eq_ints, ne_ints, orM, andV, callM, hm, hw, k1, c_MOST_PACK, SR.of, SR.bind]
    · have e1 : ¬ ((r.length : Int) + 1 + 1 + 1 + 1 = 3) := by omega
      simp [tV, toB, bltM, M.opL, consM, nilM, M.bind, varM, var, M.op2, M.lift, asB, M.pure, cM, bin2, ix0, eq_strs, c1, c2, c2', c3, c3', tupM, l2, in_tup2, nin_tup2, hlen, eq_ints, ne_ints, orM, andV, e1, SR.of, SR.bind]
  have c3' : (decide (w = "packs") || decide (w = "full")) = false := by simpa using c3
  simp [tV, toB, bltM, M.opL, consM, nilM, M.bind, varM, var, M.op2, M.lift, asB, M.pure, cM, bin2, ix0, eq_strs, c1, c2, c2', c3, c3', tupM, l2, in_tup2, nin_tup2, hlen, eq_ints, ne_ints, orM, andV, g1, g2, g3, g4, g5, g6, g7, SR.of, SR.bind]

/- L26 -/

theorem in_pairs (S : Store) (x : Str) : inP S (.str x) c_PAIRS = some (.bl (decide (x = "greatest") || (decide (x = "least") || (decide (x = "less") || decide (x = "plus"))))) := in_tup4 S x _ _ _ _
theorem all_3 (S : Store) (a b c : Bool) : allP S [.lst [.bl a, .bl b, .bl c]] = some (.bl (a && (b && c))) := by
  cases a <;> cases b <;> cases c <;> rfl
/-- the program's is_price -/
theorem is_price_pl : ∀ (n k : Nat) {d : D} (S : Store), PlD n d → n < k → n ≤ 50 → m_is_price k [d] S = .ok (.bl (priceB k d)) S
  | n, 0, d, S, _, hk, _ => absurd hk (by omega)
  | n, k + 1, d, S, h, hk, hn => by
    have hT := fun S => isi_tuple h S
    have l3 := len_ok 3 (by decide)
    cases d with
    | tup ds =>
      have hE := fun S => eq_tnil S (by omega) h
      obtain ⟨m, rfl, hi⟩ := pl_items h
      have hlen : ∀ S, lenP S [.tup ds] = some (.int ds.length) := fun S => len_tup S _
      cases ds with
      | nil =>
        unfold m_is_price priceB
        simp [tV, toB, bltM, M.opL, consM, nilM, M.bind, varM, var, M.op2, M.lift, asB, M.pure, cM, bin2, hT, isTupD, hE, orM, notT, tupM, SR.of, SR.bind]
      | cons w r =>
        have hS := fun S => isi_str (hi w (by simp)) S
        have ix0 : ∀ S, ixP S (.tup (w :: r)) (.int 0) = some w := fun S => at_0 _ _
        cases w with
        | str w =>
          have hr : ∀ e ∈ r, PlD m e := fun e he => hi e (by simp [he])
          have ip : ∀ e ∈ r, ∀ S, m_is_price k [e] S = .ok (.bl (priceB k e)) S := fun e he S => is_price_pl m k S (hr e he) (by omega) (by omega)
          by_cases c1 : w = "greatest" ∨ w = "least" ∨ w = "less" ∨ w = "plus"
          · have c1' : (decide (w = "greatest") || (decide (w = "least") || (decide (w = "less") || decide (w = "plus")))) = true := by simpa using c1
            have c1'' := eq_true c1
            have o1 : (w = "barred") = False := eq_false fun z => by
              rw [z] at c1
              revert c1
              decide +kernel
            have o2 : (w = "money" ∨ w = "each") = False := eq_false fun z => by
              rcases z with z | z <;> rw [z] at c1 <;> revert c1 <;> decide +kernel
            have o3 : (w = "packs" ∨ w = "full") = False := eq_false fun z => by
              rcases z with z | z <;> rw [z] at c1 <;> revert c1 <;> decide +kernel
            rcases r with _ | ⟨a, _ | ⟨b, _ | ⟨c, r⟩⟩⟩
            · unfold m_is_price priceB
              simp [tV, toB, bltM, M.opL, consM, nilM, M.bind, varM, var, M.op2, M.lift, asB, M.pure, cM, bin2, hT, isTupD, hE, orM, notT, tupM, hS, isStrD, ix0, in_pairs, c1', c1'', o1, o2, o3, andV, callM, hlen, eq_ints, SR.of, SR.bind]
            · unfold m_is_price priceB
              simp [tV, toB, bltM, M.opL, consM, nilM, M.bind, varM, var, M.op2, M.lift, asB, M.pure, cM, bin2, hT, isTupD, hE, orM, notT, tupM, hS, isStrD, ix0, in_pairs, c1', c1'', o1, o2, o3, andV, callM, hlen, eq_ints, SR.of, SR.bind]
            · have p1 := ip a (by simp)
              have p2 := ip b (by simp)
              have ix1 : ∀ S, ixP S (.tup [.str w, a, b]) (.int 1) = some a := fun S => at_1 _ _ _
              have ix2 : ∀ S, ixP S (.tup [.str w, a, b]) (.int 2) = some b := fun S => at_2 _ _ _ _
              unfold m_is_price priceB
              cases k1 : priceB k a <;> simp [tV, toB, bltM, M.opL, consM, nilM, M.bind, varM, var, M.op2, M.lift, asB, M.pure, cM, bin2, hT, isTupD, hE, orM, notT, tupM, hS, isStrD, ix0, in_pairs, c1', c1'', o1, o2, o3, andV, callM, hlen, eq_ints, ix1, ix2, p1, p2, k1, SR.of, SR.bind]
            · have e1 : ¬ ((r.length : Int) + 1 + 1 + 1 + 1 = 3) := by omega
              unfold m_is_price priceB
              simp [tV, toB, bltM, M.opL, consM, nilM, M.bind, varM, var, M.op2, M.lift, asB, M.pure, cM, bin2, hT, isTupD, hE, orM, notT, tupM, hS, isStrD, ix0, in_pairs, c1', c1'', o1, o2, o3, andV, callM, hlen, eq_ints, e1, SR.of, SR.bind]
          have c1' : (decide (w = "greatest") || (decide (w = "least") || (decide (w = "less") || decide (w = "plus")))) = false := by simpa using c1
          by_cases c2 : w = "from"
          · have d2 := eq_true c2
            have o1 : (w = "barred") = False := by
              rw [c2]
              exact eq_false (by decide +kernel)
            have o2 : (w = "money" ∨ w = "each") = False := by
              rw [c2]
              exact eq_false (by decide +kernel)
            have o3 : (w = "packs" ∨ w = "full") = False := by
              rw [c2]
              exact eq_false (by decide +kernel)
            rcases r with _ | ⟨a, _ | ⟨b, _ | ⟨c, _ | ⟨d, r⟩⟩⟩⟩
            · unfold m_is_price priceB
              simp [tV, toB, bltM, M.opL, consM, nilM, M.bind, varM, var, M.op2, M.lift, asB, M.pure, cM, bin2, hT, isTupD, hE, orM, notT, tupM, hS, isStrD, ix0, in_pairs, eq_strs, c1', c1, d2, o1, o2, o3, andV, callM, hlen, eq_ints, SR.of, SR.bind]
            · unfold m_is_price priceB
              simp [tV, toB, bltM, M.opL, consM, nilM, M.bind, varM, var, M.op2, M.lift, asB, M.pure, cM, bin2, hT, isTupD, hE, orM, notT, tupM, hS, isStrD, ix0, in_pairs, eq_strs, c1', c1, d2, o1, o2, o3, andV, callM, hlen, eq_ints, SR.of, SR.bind]
            · unfold m_is_price priceB
              simp [tV, toB, bltM, M.opL, consM, nilM, M.bind, varM, var, M.op2, M.lift, asB, M.pure, cM, bin2, hT, isTupD, hE, orM, notT, tupM, hS, isStrD, ix0, in_pairs, eq_strs, c1', c1, d2, o1, o2, o3, andV, callM, hlen, eq_ints, SR.of, SR.bind]
            · have w1 := fun S => is_between_pl (hr a (by simp)) 1 200 S
              have p1 := ip b (by simp)
              have p2 := ip c (by simp)
              have ix1 : ∀ S, ixP S (.tup [.str w, a, b, c]) (.int 1) = some a := fun S => at_1 _ _ _
              have ix2 : ∀ S, ixP S (.tup [.str w, a, b, c]) (.int 2) = some b := fun S => at_2 _ _ _ _
              have ix3 : ∀ S, ixP S (.tup [.str w, a, b, c]) (.int 3) = some c := fun S => at_3 _ _ _ _ _
              unfold m_is_price priceB
              cases k1 : wholeB 1 200 a <;> cases k2 : priceB k b <;> simp [tV, toB, bltM, M.opL, consM, nilM, M.bind, varM, var, M.op2, M.lift, asB, M.pure, cM, bin2, hT, isTupD, hE, orM, notT, tupM, hS, isStrD, ix0, in_pairs, eq_strs, c1', c1, d2, o1, o2, o3, andV, callM, hlen, eq_ints, ix1, ix2, ix3, c_MOST_FROM, w1, p1, p2, k1, k2, SR.of, SR.bind]
            · have e1 : ¬ ((r.length : Int) + 1 + 1 + 1 + 1 + 1 = 4) := by omega
              unfold m_is_price priceB
              simp [tV, toB, bltM, M.opL, consM, nilM, M.bind, varM, var, M.op2, M.lift, asB, M.pure, cM, bin2, hT, isTupD, hE, orM, notT, tupM, hS, isStrD, ix0, in_pairs, eq_strs, c1', c1, d2, o1, o2, o3, andV, callM, hlen, eq_ints, e1, SR.of, SR.bind]
          by_cases c3 : w = "above"
          · have d3 := eq_true c3
            have o1 : (w = "barred") = False := by
              rw [c3]
              exact eq_false (by decide +kernel)
            have o2 : (w = "money" ∨ w = "each") = False := by
              rw [c3]
              exact eq_false (by decide +kernel)
            have o3 : (w = "packs" ∨ w = "full") = False := by
              rw [c3]
              exact eq_false (by decide +kernel)
            have o4 : (w = "share") = False := by
              rw [c3]
              exact eq_false (by decide +kernel)
            rcases r with _ | ⟨a, _ | ⟨b, _ | ⟨c, _ | ⟨d, _ | ⟨e, r⟩⟩⟩⟩⟩
            · unfold m_is_price priceB
              simp [tV, toB, bltM, M.opL, consM, nilM, M.bind, varM, var, M.op2, M.lift, asB, M.pure, cM, bin2, hT, isTupD, hE, orM, notT, tupM, hS, isStrD, ix0, in_pairs, eq_strs, c1', c1, c2, d3, o1, o2, o3, o4, andV, callM, hlen, eq_ints, SR.of, SR.bind]
            · unfold m_is_price priceB
              simp [tV, toB, bltM, M.opL, consM, nilM, M.bind, varM, var, M.op2, M.lift, asB, M.pure, cM, bin2, hT, isTupD, hE, orM, notT, tupM, hS, isStrD, ix0, in_pairs, eq_strs, c1', c1, c2, d3, o1, o2, o3, o4, andV, callM, hlen, eq_ints, SR.of, SR.bind]
            · unfold m_is_price priceB
              simp [tV, toB, bltM, M.opL, consM, nilM, M.bind, varM, var, M.op2, M.lift, asB, M.pure, cM, bin2, hT, isTupD, hE, orM, notT, tupM, hS, isStrD, ix0, in_pairs, eq_strs, c1', c1, c2, d3, o1, o2, o3, o4, andV, callM, hlen, eq_ints, SR.of, SR.bind]
            · unfold m_is_price priceB
              simp [tV, toB, bltM, M.opL, consM, nilM, M.bind, varM, var, M.op2, M.lift, asB, M.pure, cM, bin2, hT, isTupD, hE, orM, notT, tupM, hS, isStrD, ix0, in_pairs, eq_strs, c1', c1, c2, d3, o1, o2, o3, o4, andV, callM, hlen, eq_ints, SR.of, SR.bind]
            · have w1 := fun S => is_money_pl (hr b (by simp)) S
              have p1 := ip a (by simp)
              have p2 := ip c (by simp)
              have p3 := ip d (by simp)
              have ix1 : ∀ S, ixP S (.tup [.str w, a, b, c, d]) (.int 1) = some a := fun S => at_1 _ _ _
              have ix2 : ∀ S, ixP S (.tup [.str w, a, b, c, d]) (.int 2) = some b := fun S => at_2 _ _ _ _
              have ix3 : ∀ S, ixP S (.tup [.str w, a, b, c, d]) (.int 3) = some c := fun S => at_3 _ _ _ _ _
              have ix4 : ∀ S, ixP S (.tup [.str w, a, b, c, d]) (.int 4) = some d := fun S => at_4 _ _ _ _ _ _
              unfold m_is_price priceB
              cases k1 : wholeB (-1000000) 1000000 b <;> simp [tV, toB, bltM, M.opL, consM, nilM, M.bind, varM, var, M.op2, M.lift, asB, M.pure, cM, bin2, hT, isTupD, hE, orM, notT, tupM, hS, isStrD, ix0, in_pairs, eq_strs, c1', c1, c2, d3, o1, o2, o3, o4, andV, callM, hlen, eq_ints, ix1, ix2, ix3, ix4, w1, p1, p2, p3, k1, l3, lcM, lcI, seqI, srcA, lcL, wipeE, gN, yesT, all_3, SR.of, SR.bind]
            · have e1 : ¬ ((r.length : Int) + 1 + 1 + 1 + 1 + 1 + 1 = 5) := by omega
              unfold m_is_price priceB
              simp [tV, toB, bltM, M.opL, consM, nilM, M.bind, varM, var, M.op2, M.lift, asB, M.pure, cM, bin2, hT, isTupD, hE, orM, notT, tupM, hS, isStrD, ix0, in_pairs, eq_strs, c1', c1, c2, d3, o1, o2, o3, o4, andV, callM, hlen, eq_ints, e1, SR.of, SR.bind]
          by_cases c4 : w = "share"
          · have d4 := eq_true c4
            have o1 : (w = "barred") = False := by
              rw [c4]
              exact eq_false (by decide +kernel)
            have o2 : (w = "money" ∨ w = "each") = False := by
              rw [c4]
              exact eq_false (by decide +kernel)
            have o3 : (w = "packs" ∨ w = "full") = False := by
              rw [c4]
              exact eq_false (by decide +kernel)
            rcases r with _ | ⟨a, _ | ⟨b, _ | ⟨c, _ | ⟨d, _ | ⟨e, r⟩⟩⟩⟩⟩
            · unfold m_is_price priceB
              simp [tV, toB, bltM, M.opL, consM, nilM, M.bind, varM, var, M.op2, M.lift, asB, M.pure, cM, bin2, hT, isTupD, hE, orM, notT, tupM, hS, isStrD, ix0, in_pairs, eq_strs, ne_strs, c1', c1, c2, c3, d4, o1, o2, o3, andV, callM, hlen, eq_ints, ne_ints, SR.of, SR.bind]
            · unfold m_is_price priceB
              simp [tV, toB, bltM, M.opL, consM, nilM, M.bind, varM, var, M.op2, M.lift, asB, M.pure, cM, bin2, hT, isTupD, hE, orM, notT, tupM, hS, isStrD, ix0, in_pairs, eq_strs, ne_strs, c1', c1, c2, c3, d4, o1, o2, o3, andV, callM, hlen, eq_ints, ne_ints, SR.of, SR.bind]
            · unfold m_is_price priceB
              simp [tV, toB, bltM, M.opL, consM, nilM, M.bind, varM, var, M.op2, M.lift, asB, M.pure, cM, bin2, hT, isTupD, hE, orM, notT, tupM, hS, isStrD, ix0, in_pairs, eq_strs, ne_strs, c1', c1, c2, c3, d4, o1, o2, o3, andV, callM, hlen, eq_ints, ne_ints, SR.of, SR.bind]
            · unfold m_is_price priceB
              simp [tV, toB, bltM, M.opL, consM, nilM, M.bind, varM, var, M.op2, M.lift, asB, M.pure, cM, bin2, hT, isTupD, hE, orM, notT, tupM, hS, isStrD, ix0, in_pairs, eq_strs, ne_strs, c1', c1, c2, c3, d4, o1, o2, o3, andV, callM, hlen, eq_ints, ne_ints, SR.of, SR.bind]
            · have w1 := fun S => is_between_pl (hr b (by simp)) 0 999 S
              have w2 := fun S => is_between_pl (hr c (by simp)) 1 1000 S
              have w3 := fun S => is_one_of_pl (hr d (by simp)) S
              have p1 := ip a (by simp)
              have ix1 : ∀ S, ixP S (.tup [.str w, a, b, c, d]) (.int 1) = some a := fun S => at_1 _ _ _
              have ix2 : ∀ S, ixP S (.tup [.str w, a, b, c, d]) (.int 2) = some b := fun S => at_2 _ _ _ _
              have ix3 : ∀ S, ixP S (.tup [.str w, a, b, c, d]) (.int 3) = some c := fun S => at_3 _ _ _ _ _
              have ix4 : ∀ S, ixP S (.tup [.str w, a, b, c, d]) (.int 4) = some d := fun S => at_4 _ _ _ _ _ _
              unfold m_is_price priceB
              cases k1 : priceB k a <;> cases k2 : wayB d <;> cases k3 : wholeB 0 999 b <;> simp [tV, toB, bltM, M.opL, consM, nilM, M.bind, varM, var, M.op2, M.lift, asB, M.pure, cM, bin2, hT, isTupD, hE, orM, notT, tupM, hS, isStrD, ix0, in_pairs, eq_strs, ne_strs, c1', c1, c2, c3, d4, o1, o2, o3, andV, callM, hlen, eq_ints, ne_ints, ix1, ix2, ix3, ix4, c_MOST_ABOVE, c_MOST_UNDER, w1, w2, w3, p1, k1, k2, k3, SR.of, SR.bind]
            · have e1 : ¬ ((r.length : Int) + 1 + 1 + 1 + 1 + 1 + 1 = 5) := by omega
              unfold m_is_price priceB
              simp [tV, toB, bltM, M.opL, consM, nilM, M.bind, varM, var, M.op2, M.lift, asB, M.pure, cM, bin2, hT, isTupD, hE, orM, notT, tupM, hS, isStrD, ix0, in_pairs, eq_strs, ne_strs, c1', c1, c2, c3, d4, o1, o2, o3, andV, callM, hlen, eq_ints, ne_ints, e1, SR.of, SR.bind]
          have hp := fun S => plain_run (k := k) (w := w) hr S ⟨fun z => c1 (.inl z), fun z => c1 (.inr (.inl z)), fun z => c1 (.inr (.inr (.inl z))), fun z => c1 (.inr (.inr (.inr z))), c2, c4, c3⟩
          unfold m_is_price
          simp [tV, toB, bltM, M.opL, consM, nilM, M.bind, varM, var, M.op2, M.lift, asB, M.pure, cM, bin2, hT, isTupD, hE, orM, notT, tupM, hS, isStrD, ix0, in_pairs, eq_strs, ne_strs, c1', c1, c2, c3, c4, callM, hp, SR.of, SR.bind]
        | _ =>
          unfold m_is_price priceB
          simp [tV, toB, bltM, M.opL, consM, nilM, M.bind, varM, var, M.op2, M.lift, asB, M.pure, cM, bin2, hT, isTupD, hE, orM, notT, tupM, hS, isStrD, ix0, SR.of, SR.bind]
    | _ =>
      unfold m_is_price priceB
      simp [tV, toB, bltM, M.opL, consM, nilM, M.bind, varM, var, M.op2, M.lift, asB, M.pure, cM, bin2, hT, isTupD, orM, notT, SR.of, SR.bind]

/- L27 -/
/-- only new cells behind -/
def Ext (S S' : Store) : Prop := ∃ T, S' = S ++ T
theorem Ext.refl (S : Store) : Ext S S := ⟨[], by simp⟩
theorem Ext.trans {S S' S'' : Store} (a : Ext S S') (b : Ext S' S'') : Ext S S'' := by
  obtain ⟨T, rfl⟩ := a
  obtain ⟨U, rfl⟩ := b
  exact ⟨T ++ U, by simp⟩
theorem Ext.get {S S' : Store} (a : Ext S S') {n : Nat} {c : Cell} (h : S[n]? = some c) : S'[n]? = some c := by
  obtain ⟨T, rfl⟩ := a
  rw [List.getElem?_append_left (List.getElem?_eq_some_iff.mp h).1]
  exact h
theorem Ext.bag {S S' R : Store} (a : Ext S S') (h : Bag S R) : ∃ R', Bag S' R' := by
  obtain ⟨T, rfl⟩ := a
  obtain ⟨a, b, c, cs, rfl, h1⟩ := h
  exact ⟨R ++ T, a, b, c, cs, rfl, h1⟩
/- L31 -/

/-! ### tuples of things, names that rise, deeds -/
theorem lc_all {g : D → Env' → Option Env'} {me : Env' → M D} {ρ : Env'} {S : Store} {f : D → Bool} : ∀ {ds : List D}, (∀ d ∈ ds, ∃ ρ2, g d ρ = some ρ2 ∧ me ρ2 S = .ok (.bl (f d)) S) →
    lcL (fun _ => true) g yesT me ρ ds S = .ok (ds.map fun d => .bl (f d)) S
  | [], _ => rfl
  | d :: ds, h => by
    obtain ⟨ρ2, e1, e2⟩ := h d (by simp)
    have e3 := lc_all (ds := ds) (fun d' hd => h d' (by simp [hd]))
    unfold lcL
    simp [e1, yesT, M.pure, e2, e3]
theorem lc_filter {g : D → Env' → Option Env'} {mt : Env' → M Bool} {me : Env' → M D} {ρ : Env'} {S : Store} {f : D → Bool} {h : D → D} : ∀ {ds : List D}, (∀ d ∈ ds, ∃ ρ2, g d ρ = some ρ2 ∧ mt ρ2 S = .ok (f d) S ∧ (f d = true → me ρ2 S = .ok (h d) S)) →
    lcL (fun _ => true) g mt me ρ ds S = .ok ((ds.filter f).map h) S
  | [], _ => rfl
  | d :: ds, hh => by
    obtain ⟨ρ2, e1, e2, e4⟩ := hh d (by simp)
    have e3 := lc_filter (ds := ds) (fun d' hd => hh d' (by simp [hd]))
    unfold lcL
    cases q : f d with
    | true => simp [e1, e2, q, e4 q, e3]
    | false => simp [e1, e2, q, e3]
theorem bls_all (f : D → Bool) : ∀ ds : List D, blsOf (ds.map fun d => .bl (f d)) = some (ds.map f)
  | [] => rfl
  | d :: ds => by
    rw [List.map_cons]
    show (blsOf _).map (f d :: ·) = _
    rw [bls_all f ds]
    rfl
theorem all_run (f : D → Bool) (ds : List D) (S : Store) : allP S [.lst (ds.map fun d => .bl (f d))] = some (.bl (ds.all f)) := by
  unfold allP
  simp [asS, asL, bls_all]
theorem filter_nil (f : D → Bool) : ∀ l : List D, (l.filter fun c => !f c).isEmpty = l.all f
  | [] => rfl
  | c :: l => by
    have ih := filter_nil f l
    cases k : f c <;> simp [k, ih]
/-- a tuple of things of a kind -/
def tupB (f : D → Bool) : D → Bool
  | .tup ds => ds.all f
  | _ => false
theorem is_tuple_of_pl {n : Nat} {d : D} {x : Str} {Fm : List D → M D} {f : D → Bool} (S : Store) (h : PlD n d) (hl : ∀ ds, d = .tup ds → ds.length ≤ sizeLine) (ht : tab x = some (1, Fm)) (hf : ∀ m e, PlD m e → m < n → Fm [e] S = .ok (.bl (f e)) S) :
    m_is_tuple_of [d, .fn x] S = .ok (.bl (tupB f d)) S := by
  have hT := fun S => isi_tuple h S
  cases d with
  | tup ds =>
    obtain ⟨m, rfl, hi⟩ := pl_items h
    have hll := hl ds rfl
    have hlc := lc_all (g := gN 2) (me := callV tab 1 (consM (varM 2) nilM)) (ρ := [some (.tup ds), some (.fn x), none]) (S := S) (f := f) (ds := ds) (fun e he => ⟨_, rfl, by
      have e1 := hf m e (hi e he) (by omega)
      simp [callV, consM, nilM, M.bind, varM, var, M.pure, ht, e1]⟩)
    unfold m_is_tuple_of
    simp [andV, toB, bltM, M.opL, consM, nilM, M.bind, varM, var, M.op2, M.lift, asB, M.pure, cM, hT, isTupD, lcM, lcI, seqI, srcA, wipeE, hlc, hll, all_run, tupB, SR.of, SR.bind]
  | _ =>
    unfold m_is_tuple_of
    simp [andV, toB, bltM, M.opL, consM, nilM, M.bind, varM, var, M.op2, M.lift, asB, M.pure, cM, hT, isTupD, tupB, SR.of, SR.bind]
theorem is_sized_pl {n : Nat} {d : D} (h : PlD n d) (k : Int) (S : Store) : m_is_sized [d, .int k] S = .ok (.bl (match d with
    | .tup ds => decide ((ds.length : Int) = k)
    | _ => false)) S := by
  have hT := fun S => isi_tuple h S
  unfold m_is_sized
  cases d <;> simp [andV, toB, bltM, M.opL, consM, nilM, M.bind, varM, var, M.op2, M.lift, asB, M.pure, cM, hT, isTupD, bin2, len_tup, eq_ints, SR.of, SR.bind]
/-- a deed -/
def deedB : D → Bool
  | .tup [a, b, c, p] => (nameB a && (nameB b && nameB c)) && priceB 20 p
  | _ => false
theorem cut_3 (a b c d : D) (r : List D) : cutD (a :: b :: c :: d :: r) none (some 3) = [a, b, c] := cut_take _ 3
theorem all3 (S : Store) (a b c : Bool) : allP S [.lst [.bl a, .bl b, .bl c]] = some (.bl (a && (b && c))) := all_3 S a b c
theorem is_deed_pl {n : Nat} {d : D} (h : PlD n d) (hn : n ≤ 20) (S : Store) : m_is_deed [d] S = .ok (.bl (deedB d)) S := by
  have hz := fun S => is_sized_pl h 4 S
  have l3 := len_ok 3 (by decide)
  cases d with
  | tup ds =>
    obtain ⟨m, rfl, hi⟩ := pl_items h
    rcases ds with _ | ⟨a, _ | ⟨b, _ | ⟨c, _ | ⟨p, _ | ⟨q, r⟩⟩⟩⟩⟩
    · unfold m_is_deed
      simp [andV, toB, callM, consM, nilM, M.bind, varM, var, M.lift, asB, M.pure, cM, hz, deedB, SR.of, SR.bind]
    · unfold m_is_deed
      simp [andV, toB, callM, consM, nilM, M.bind, varM, var, M.lift, asB, M.pure, cM, hz, deedB, SR.of, SR.bind]
    · unfold m_is_deed
      simp [andV, toB, callM, consM, nilM, M.bind, varM, var, M.lift, asB, M.pure, cM, hz, deedB, SR.of, SR.bind]
    · unfold m_is_deed
      simp [andV, toB, callM, consM, nilM, M.bind, varM, var, M.lift, asB, M.pure, cM, hz, deedB, SR.of, SR.bind]
    · have n1 := fun S => is_name_pl (hi a (by simp)) S
      have n2 := fun S => is_name_pl (hi b (by simp)) S
      have n3 := fun S => is_name_pl (hi c (by simp)) S
      have p1 := fun S => is_price_pl m 20 S (hi p (by simp)) (by omega) (by omega)
      have ix3 : ∀ S, ixP S (.tup [a, b, c, p]) (.int 3) = some p := fun S => at_3 _ _ _ _ _
      have hsl : ∀ S, slP S (.tup [a, b, c, p]) none (some 3) = some (.tup [a, b, c]) := fun S => by rw [sl_tup, cut_3]
      unfold m_is_deed deedB
      cases q : (nameB a && (nameB b && nameB c)) <;> simp [andV, toB, callM, consM, nilM, M.bind, varM, var, M.lift, asB, M.pure, cM, hz, bltM, M.opL, lcM, lcI, seqI, srcA, wipeE, slM, opP, noP, optI, asI, opS, hsl, lcL, gN, yesT, n1, n2, n3, l3, all3, q, bin2, M.op2, ix3, p1, SR.of, SR.bind]
    · have e1 : ¬ ((r.length : Int) + 1 + 1 + 1 + 1 + 1 = 4) := by omega
      unfold m_is_deed
      simp [andV, toB, callM, consM, nilM, M.bind, varM, var, M.lift, asB, M.pure, cM, hz, deedB, e1, SR.of, SR.bind]
  | _ =>
    unfold m_is_deed
    simp [andV, toB, callM, consM, nilM, M.bind, varM, var, M.lift, asB, M.pure, cM, hz, deedB, SR.of, SR.bind]
/- L32 -/

/-! names that rise -/
def ltB : D → D → Bool
  | .str x, .str y => decide (x.cps.toList < y.cps.toList)
  | _, _ => false
def riseB : List D → Bool
  | a :: b :: r => ltB a b && riseB (b :: r)
  | _ => true
theorem zip_tail (a b : D) (r : List D) : zipD (a :: b :: r) (b :: r) = .tup [a, b] :: zipD (b :: r) r := rfl
theorem mem_zipD : ∀ {xs ys : List D} {d : D}, d ∈ zipD xs ys → ∃ a ∈ xs, ∃ b ∈ ys, d = .tup [a, b]
  | [], _, _, h => by simp [zipD] at h
  | x :: xs, [], _, h => by simp [zipD] at h
  | x :: xs, y :: ys, d, h => by
    have h' : d ∈ D.tup [x, y] :: zipD xs ys := h
    rcases List.mem_cons.mp h' with rfl | h'
    · exact ⟨x, by simp, y, by simp, rfl⟩
    · obtain ⟨a, h1, b, h2, e⟩ := mem_zipD h'
      exact ⟨a, by simp [h1], b, by simp [h2], e⟩
theorem asc_lc (f0 : Option D) (S : Store) : ∀ (ds : List D), (∀ d ∈ ds, isStrD d = true) → lcL (fun _ => true) (gT (gs1 (gN 1) (gs1 (gN 2) gs0))) yesT (bin2 ltP (varM 1) (varM 2)) [f0, none, none] (zipD ds (ds.drop 1)) S = .ok (((zipD ds (ds.drop 1)).map fun d => .bl (match d with
    | .tup [a, b] => ltB a b
    | _ => false))) S := fun ds hd => lc_all (f := fun d => match d with
    | .tup [a, b] => ltB a b
    | _ => false) fun d h => by
  obtain ⟨a, h1, b, h2, rfl⟩ := mem_zipD h
  have ha := hd a h1
  have hb := hd b (List.mem_of_mem_drop h2)
  refine ⟨_, rfl, ?_⟩
  cases a <;> first | cases ha | skip
  cases b <;> first | cases hb | skip
  rfl
theorem rise_all : ∀ ds : List D, (zipD ds (ds.drop 1)).all (fun d => match d with
    | .tup [a, b] => ltB a b
    | _ => false) = riseB ds
  | [] => rfl
  | [a] => rfl
  | a :: b :: r => by
    have ih := rise_all (b :: r)
    have ih' : (zipD (b :: r) r).all _ = _ := ih
    show (ltB a b && (zipD (b :: r) r).all _) = _
    rw [ih']
    rfl
theorem zip_len (xs ys : List D) : (zipD xs ys).length ≤ xs.length := by
  unfold zipD
  rw [List.length_zipWith]
  exact Nat.min_le_left _ _
theorem cut_drop1 (ds : List D) : cutD ds (some 1) none = ds.drop 1 := cut_from ds 1 (by decide)
theorem is_asc_tup {ds : List D} (hl : ds.length ≤ sizeLine) (h : ∀ d ∈ ds, isStrD d = true) (S : Store) : m_is_ascending [.tup ds] S = .ok (.bl (riseB ds)) S := by
  have hsl : ∀ S, slP S (.tup ds) (some 1) none = some (.tup (ds.drop 1)) := fun S => by rw [sl_tup, cut_drop1]
  have hlc := asc_lc (some (.tup ds)) S ds h
  have hz := zip_len ds (ds.drop 1)
  have hz' : (zipD ds (ds.drop 1)).length ≤ sizeLine := by omega
  have ha := all_run (fun d => match d with
    | .tup [a, b] => ltB a b
    | _ => false) (zipD ds (ds.drop 1)) S
  rw [rise_all] at ha
  have hsrc : ∀ S, srcZ [.tup ds, .tup (ds.drop 1)] S = .ok ⟨zipD ds (ds.drop 1), fun _ => true⟩ S := fun S => rfl
  rw [List.drop_one] at *
  unfold m_is_ascending
  simp [bltM, M.opL, consM, nilM, M.bind, varM, var, M.op2, M.pure, cM, lcM, lcI, zipI, slM, opP, noP, optI, asI, opS, hsl, hsrc, wipeE, hlc, hz', ha, M.lift, SR.of, SR.bind]
theorem is_asc_lst {ds : List D} (hl : ds.length ≤ sizeLine) (h : ∀ d ∈ ds, isStrD d = true) (S : Store) : m_is_ascending [.lst ds] S = .ok (.bl (riseB ds)) S := by
  have hsl : ∀ S, slP S (.lst ds) (some 1) none = some (.lst (ds.drop 1)) := fun S => by
    unfold slP asS asL
    simp [cut_drop1]
  have hlc := asc_lc (some (.lst ds)) S ds h
  have hz := zip_len ds (ds.drop 1)
  have hz' : (zipD ds (ds.drop 1)).length ≤ sizeLine := by omega
  have ha := all_run (fun d => match d with
    | .tup [a, b] => ltB a b
    | _ => false) (zipD ds (ds.drop 1)) S
  rw [rise_all] at ha
  have hsrc : ∀ S, srcZ [.lst ds, .lst (ds.drop 1)] S = .ok ⟨zipD ds (ds.drop 1), fun _ => true⟩ S := fun S => rfl
  rw [List.drop_one] at *
  unfold m_is_ascending
  simp [bltM, M.opL, consM, nilM, M.bind, varM, var, M.op2, M.pure, cM, lcM, lcI, zipI, slM, opP, noP, optI, asI, opS, hsl, hsrc, wipeE, hlc, hz', ha, M.lift, SR.of, SR.bind]
/- L33 -/

/-! ### how many names there are -/
abbrev trueKs (seen : List Str) : List (Key × D) := seen.map fun x => (.inr x, .bl true)
theorem put_true (seen : List Str) (x : Str) : putD (trueKs seen) (.inr x) (.bl true) = if (seen.any (· == x)) = true then trueKs seen else trueKs (seen ++ [x]) := by
  have h1 : ((trueKs seen).any fun kv => decide (kv.1 = (.inr x : Key))) = seen.any (· == x) := by
    rw [List.any_map]
    congr 1
    funext y
    by_cases h : y = x
    · subst h
      simp
    · simp [h]
  unfold putD
  rw [h1]
  split
  · rw [List.map_map]
    refine List.map_congr_left fun y _ => ?_
    by_cases h : y = x
    · subst h
      simp
    · simp [h]
  · simp
theorem dc_count (a : List (Option D)) (S : Store) (ρ : Env') : ∀ (xs seen : List Str), seen.length + xs.length ≤ sizeLine → (∀ d, ∃ ρ2, gN 5 d ρ = some ρ2 ∧ varM 5 ρ2 S = .ok d S) →
    ∃ seen', dcL (fun _ => true) (gN 5) yesT (varM 5) (cM (.bl true)) ρ (xs.map .str) (trueKs seen) S = .ok (trueKs seen') S ∧ seen'.length = countNew seen xs seen.length
  | [], seen, _, _ => ⟨seen, rfl, rfl⟩
  | x :: xs, seen, h, hg => by
    obtain ⟨ρ2, e1, e2⟩ := hg (.str x)
    simp only [List.length_cons] at h
    have hl : (trueKs seen).length < sizeLine := by
      rw [List.length_map]
      omega
    have e3 := put_true seen x
    by_cases q : seen.any (· == x) = true
    · rw [if_pos q] at e3
      obtain ⟨seen', e4, e5⟩ := dc_count a S ρ xs seen (by omega) hg
      refine ⟨seen', ?_, ?_⟩
      · rw [List.map_cons]
        unfold dcL
        simp only [e1, yesT, M.pure, e2, cM, keyOf, if_pos hl, e3]
        simpa using e4
      · rw [e5]
        show _ = if seen.any (· == x) = true then countNew seen xs seen.length else countNew (seen ++ [x]) xs (seen.length + 1)
        rw [if_pos q]
    · rw [if_neg q] at e3
      obtain ⟨seen', e4, e5⟩ := dc_count a S ρ xs (seen ++ [x]) (by simp; omega) hg
      refine ⟨seen', ?_, ?_⟩
      · rw [List.map_cons]
        unfold dcL
        simp only [e1, yesT, M.pure, e2, cM, keyOf, if_pos hl, e3]
        simpa using e4
      · rw [e5]
        show _ = if seen.any (· == x) = true then countNew seen xs seen.length else countNew (seen ++ [x]) xs (seen.length + 1)
        rw [if_neg q]
        simp
/-- unlike texts -/
def distB (ds : List D) : Nat := match strsOf ds with
  | some xs => countNew [] xs 0
  | none => 0
theorem strs_all : ∀ {ds : List D}, (∀ d ∈ ds, isStrD d = true) → ∃ xs, strsOf ds = some xs ∧ ds = xs.map .str
  | [], _ => ⟨[], rfl, rfl⟩
  | d :: ds, h => by
    have hd := h d (by simp)
    obtain ⟨xs, e, e2⟩ := strs_all (ds := ds) (fun d' hd => h d' (by simp [hd]))
    cases d with
    | str x =>
      refine ⟨x :: xs, ?_, by rw [e2]; rfl⟩
      show (strsOf ds).map (x :: ·) = _
      rw [e]
      rfl
    | _ => cases hd
/-- len({name: True for name in standings}) -/
theorem len_dict {ds : List D} (hl : ds.length ≤ 100) (h : ∀ d ∈ ds, isStrD d = true) (a c d e f g : Option D) (S : Store) :
    ∃ n S', Ext S S' ∧ dcM (seqI (varM 1)) (gN 5) yesT (varM 5) (cM (.bl true)) [5] [a, some (.tup ds), c, d, e, f, g] S = .ok (.loc n) S' ∧ lenDP S' [.loc n] = some (.int (distB ds)) := by
  obtain ⟨xs, e1, e2⟩ := strs_all h
  have hs := sizeLine_eq
  have hx : xs.length = ds.length := by rw [e2, List.length_map]
  obtain ⟨seen', e3, e4⟩ := dc_count [] S [a, some (.tup ds), c, d, e, none, g] xs [] (by simp; omega) (fun d => ⟨_, rfl, rfl⟩)
  rw [← e2] at e3
  have e3' : dcL (fun _ => true) (gN 5) yesT (varM 5) (cM (.bl true)) [a, some (.tup ds), c, d, e, none, g] ds [] S = .ok (trueKs seen') S := e3
  have hc : distB ds = seen'.length := by
    unfold distB
    rw [e1, e4]
    rfl
  refine ⟨S.length, S ++ [.dct (trueKs seen')], ⟨_, rfl⟩, ?_, ?_⟩
  · simp [dcM, M.bind, seqI, varM, var, M.pure, srcA, wipeE, e3', newDict]
  · rw [hc]
    simp [lenDP, cellD]
theorem len_set {ds : List D} (hl : ds.length ≤ 8) (h : ∀ d ∈ ds, isStrD d = true) (S : Store) : lenSetP S (.tup ds) = some (.int (distB ds)) := by
  obtain ⟨xs, e1, e2⟩ := strs_all h
  show (if ds.length ≤ 8 then (strsOf ds).map fun xs => D.int (countNew [] xs 0) else none) = _
  unfold distB
  rw [if_pos hl, e1]
  rfl

/- L34 -/

/-! ### shops -/
def itemsT : D → List D
  | .tup ds => ds
  | _ => []
def firstD : D → D
  | .tup (a :: _) => a
  | _ => .non
def isNonD : D → Bool
  | .non => true
  | _ => false
def shopB : D → Bool
  | .tup [s, e, t, sh] => tupB nameB s && (tupB nameB e && ((decide (1 ≤ (itemsT s).length) && decide ((itemsT s).length ≤ 6)) && (!decide (distB (itemsT s) < (itemsT s).length) && (!(itemsT e).isEmpty && (riseB (itemsT e) && (tupB deedB t && ((decide (1 ≤ (itemsT t).length) && decide ((itemsT t).length ≤ 12)) && (riseB ((itemsT t).map firstD) && (isNonD sh || nameB sh)))))))))
  | _ => false
theorem name_str {d : D} (h : nameB d = true) : isStrD d = true := by
  cases d <;> first | rfl | cases h
theorem names_str {ds : List D} (h : ds.all nameB = true) : ∀ d ∈ ds, isStrD d = true := fun d hd => name_str (List.all_eq_true.mp h d hd)
theorem deed_first {d : D} (h : deedB d = true) : ∃ a r, d = .tup (a :: r) ∧ nameB a = true := by
  unfold deedB at h
  split at h
  · simp at h
    exact ⟨_, _, rfl, h.1.1⟩
  · cases h
theorem firsts_str {ds : List D} (h : ds.all deedB = true) : ∀ d ∈ ds.map firstD, isStrD d = true := fun d hd => by
  obtain ⟨x, hx, rfl⟩ := List.mem_map.mp hd
  obtain ⟨a, r, rfl, ha⟩ := deed_first (List.all_eq_true.mp h x hx)
  exact name_str ha
theorem is_non (S : Store) (d : D) : isP S d .non = some (.bl (isNonD d)) := by
  cases d <;> rfl
theorem val_len {L n : Nat} {d : D} (h : ValL L n d) (hL : L ≤ 1000) : ∀ ds, d = .tup ds → ds.length ≤ sizeLine := fun ds e => by
  subst e
  exact len_ok _ (Nat.le_trans (val_items h).1 hL)
theorem lc_firsts {g : Nat} {ρ : Env'} (S : Store) {ds : List D} (hh : ∀ d, ∃ ρ2, gN g d ρ = some ρ2 ∧ ∀ S, varM g ρ2 S = .ok d S) (h : ds.all deedB = true) : lcL (fun _ => true) (gN g) yesT (bin2 ixP (varM g) (cM (.int 0))) ρ ds S = .ok (ds.map firstD) S := by
  induction ds with
  | nil => rfl
  | cons d ds ih =>
    rw [List.all_cons, Bool.and_eq_true] at h
    obtain ⟨ρ2, e1, e2⟩ := hh d
    obtain ⟨a, r, rfl, ha⟩ := deed_first h.1
    have ix0 : ∀ S, ixP S (.tup (a :: r)) (.int 0) = some a := fun S => at_0 _ _
    unfold lcL
    simp [e1, yesT, M.pure, bin2, M.bind, e2, cM, M.op2, ix0, ih h.2, firstD]
/-- the program's is_shop -/
theorem is_shop_val {L n : Nat} {d : D} (h : ValL L n d) (hL : L ≤ 410) (hn : n ≤ 20) (S : Store) : ∃ S', Ext S S' ∧ m_is_shop [d] S = .ok (.bl (shopB d)) S' := by
  have hp := pl_of_val h
  have hz := fun S => is_sized_pl hp 4 S
  cases d with
  | tup ds =>
    obtain ⟨_, m, rfl, hi⟩ := val_items h
    rcases ds with _ | ⟨s, _ | ⟨e, _ | ⟨t, _ | ⟨sh, _ | ⟨q, r⟩⟩⟩⟩⟩
    · exact ⟨S, .refl S, by
        unfold m_is_shop
        simp [orM, notT, tV, toB, callM, consM, nilM, M.bind, varM, var, M.lift, asB, M.pure, cM, hz, shopB, SR.of, SR.bind]⟩
    · exact ⟨S, .refl S, by
        unfold m_is_shop
        simp [orM, notT, tV, toB, callM, consM, nilM, M.bind, varM, var, M.lift, asB, M.pure, cM, hz, shopB, SR.of, SR.bind]⟩
    · exact ⟨S, .refl S, by
        unfold m_is_shop
        simp [orM, notT, tV, toB, callM, consM, nilM, M.bind, varM, var, M.lift, asB, M.pure, cM, hz, shopB, SR.of, SR.bind]⟩
    · exact ⟨S, .refl S, by
        unfold m_is_shop
        simp [orM, notT, tV, toB, callM, consM, nilM, M.bind, varM, var, M.lift, asB, M.pure, cM, hz, shopB, SR.of, SR.bind]⟩
    · have ix0 : ∀ S, ixP S (.tup [s, e, t, sh]) (.int 0) = some s := fun S => at_0 _ _
      have ix1 : ∀ S, ixP S (.tup [s, e, t, sh]) (.int 1) = some e := fun S => at_1 _ _ _
      have vs := hi s (by simp)
      have ve := hi e (by simp)
      have vt := hi t (by simp)
      have ts := fun S => is_tuple_of_pl (x := "is_name") (f := nameB) S (pl_of_val vs) (val_len vs (by omega)) (by rfl) (fun m e he _ => is_name_pl he S)
      have te := fun S => is_tuple_of_pl (x := "is_name") (f := nameB) S (pl_of_val ve) (val_len ve (by omega)) (by rfl) (fun m e he _ => is_name_pl he S)
      have td := fun S => is_tuple_of_pl (x := "is_deed") (f := deedB) S (pl_of_val vt) (val_len vt (by omega)) (by rfl) (fun m e he hm => is_deed_pl he (by omega) S)
      have nsh := fun S => is_name_pl (pl_of_val (hi sh (by simp))) S
      cases k1 : tupB nameB s with
      | false => exact ⟨S, .refl S, by
          unfold m_is_shop
          simp [orM, notT, tV, toB, callM, consM, nilM, M.bind, varM, var, M.lift, asB, M.pure, cM, hz, bin2, M.op2, ix0, ts, k1, shopB, SR.of, SR.bind]⟩
      | true =>
      cases k2 : tupB nameB e with
      | false => exact ⟨S, .refl S, by
          unfold m_is_shop
          simp [orM, notT, tV, toB, callM, consM, nilM, M.bind, varM, var, M.lift, asB, M.pure, cM, hz, bin2, M.op2, ix0, ix1, ts, te, k1, k2, shopB, SR.of, SR.bind]⟩
      | true =>
      cases s with
      | tup ns =>
        cases e with
        | tup es =>
          have hs : ∀ d ∈ ns, isStrD d = true := names_str k1
          have he : ∀ d ∈ es, isStrD d = true := names_str k2
          have hls : ∀ S, lenP S [.tup ns] = some (.int ns.length) := fun S => len_tup S _
          have hlt : ∀ S ts, lenP S [.tup ts] = some (.int ts.length) := fun S ts => len_tup S _
          by_cases c1 : 1 ≤ ns.length
          case neg => exact ⟨S, .refl S, by
            have c1' : ¬ ((1 : Int) ≤ (ns.length : Int)) := by omega
            unfold m_is_shop
            simp [orM, notT, tV, toB, callM, consM, nilM, M.bind, varM, var, M.lift, asB, M.pure, cM, hz, bin2, M.op2, ix0, ix1, ts, te, k1, k2, asgM, gT, gs1, gs0, gN, SR.opt, Option.bind, chain2, leP, bltM, M.opL, hls, c1', c1, itemsT, shopB, SR.of, SR.bind]⟩
          have c1' : ((1 : Int) ≤ (ns.length : Int)) := by omega
          by_cases c2 : ns.length ≤ 6
          case neg => exact ⟨S, .refl S, by
            have c2' : ¬ ((ns.length : Int) ≤ 6) := by omega
            unfold m_is_shop
            simp [orM, notT, tV, toB, callM, consM, nilM, M.bind, varM, var, M.lift, asB, M.pure, cM, hz, bin2, M.op2, ix0, ix1, ts, te, k1, k2, asgM, gT, gs1, gs0, gN, SR.opt, Option.bind, chain2, leP, bltM, M.opL, hls, c1', c1, c2, c2', c_MOST_STANDINGS, itemsT, shopB, SR.of, SR.bind]⟩
          have c2' : ((ns.length : Int) ≤ 6) := by omega
          obtain ⟨nd, S1, x1, e1, e2⟩ := len_dict (by omega) hs (some (.tup [.tup ns, .tup es, t, sh])) (some (.tup es)) (some t) (some sh) none none S
          by_cases c3 : distB ns < ns.length
          case pos =>
            refine ⟨S1, x1, ?_⟩
            have c3' : ((distB ns : Int) < (ns.length : Int)) := by omega
            unfold m_is_shop
            simp [orM, notT, tV, toB, callM, consM, nilM, M.bind, varM, var, M.lift, asB, M.pure, cM, hz, M.op2, bin2, ix0, ix1, ts, te, k1, k2, asgM, gT, gs1, gs0, gN, SR.opt, Option.bind, chain2, leP, bltM, M.opL, hls, c1', c1, c2, c2', c_MOST_STANDINGS, e1, e2, ltP, c3, c3', itemsT, shopB, SR.of, SR.bind]
          have c3' : ¬ ((distB ns : Int) < (ns.length : Int)) := by omega
          have hE := fun S => eq_tnil S (by omega) (pl_of_val ve)
          have ha := fun S => is_asc_tup (val_len ve (by omega) es rfl) he S
          refine ⟨S1, x1, ?_⟩
          cases k4 : es.isEmpty with
          | true =>
            unfold m_is_shop
            simp [orM, notT, tV, toB, callM, consM, nilM, M.bind, varM, var, M.lift, asB, M.pure, cM, hz, M.op2, bin2, ix0, ix1, ts, te, k1, k2, asgM, gT, gs1, gs0, gN, SR.opt, Option.bind, chain2, leP, bltM, M.opL, hls, c1', c1, c2, c2', c_MOST_STANDINGS, e1, e2, ltP, c3, c3', itemsT, shopB, SR.of, SR.bind, hE, k4, tupM]
          | false =>
          cases k5 : riseB es with
          | false =>
            unfold m_is_shop
            simp [orM, notT, tV, toB, callM, consM, nilM, M.bind, varM, var, M.lift, asB, M.pure, cM, hz, M.op2, bin2, ix0, ix1, ts, te, k1, k2, asgM, gT, gs1, gs0, gN, SR.opt, Option.bind, chain2, leP, bltM, M.opL, hls, c1', c1, c2, c2', c_MOST_STANDINGS, e1, e2, ltP, c3, c3', itemsT, shopB, SR.of, SR.bind, hE, k4, tupM, ha, k5]
          | true =>
          cases k6 : tupB deedB t with
          | false =>
            unfold m_is_shop
            simp [orM, notT, tV, toB, callM, consM, nilM, M.bind, varM, var, M.lift, asB, M.pure, cM, hz, M.op2, bin2, ix0, ix1, ts, te, k1, k2, asgM, gT, gs1, gs0, gN, SR.opt, Option.bind, chain2, leP, bltM, M.opL, hls, c1', c1, c2, c2', c_MOST_STANDINGS, e1, e2, ltP, c3, c3', itemsT, shopB, SR.of, SR.bind, hE, k4, tupM, ha, k5, td, k6]
          | true =>
          cases t with
          | tup tt =>
            have hlt : ∀ S, lenP S [.tup tt] = some (.int tt.length) := fun S => len_tup S _
            by_cases d1 : 1 ≤ tt.length
            case neg =>
              have d1' : ¬ ((1 : Int) ≤ (tt.length : Int)) := by omega
              unfold m_is_shop
              simp [orM, notT, tV, toB, callM, consM, nilM, M.bind, varM, var, M.lift, asB, M.pure, cM, hz, M.op2, bin2, ix0, ix1, ts, te, k1, k2, asgM, gT, gs1, gs0, gN, SR.opt, Option.bind, chain2, leP, bltM, M.opL, hls, c1', c1, c2, c2', c_MOST_STANDINGS, e1, e2, ltP, c3, c3', itemsT, shopB, SR.of, SR.bind, hE, k4, tupM, ha, k5, td, k6, hlt, d1, d1']
            have d1' : ((1 : Int) ≤ (tt.length : Int)) := by omega
            by_cases d2 : tt.length ≤ 12
            case neg =>
              have d2' : ¬ ((tt.length : Int) ≤ 12) := by omega
              unfold m_is_shop
              simp [orM, notT, tV, toB, callM, consM, nilM, M.bind, varM, var, M.lift, asB, M.pure, cM, hz, M.op2, bin2, ix0, ix1, ts, te, k1, k2, asgM, gT, gs1, gs0, gN, SR.opt, Option.bind, chain2, leP, bltM, M.opL, hls, c1', c1, c2, c2', c_MOST_STANDINGS, e1, e2, ltP, c3, c3', itemsT, shopB, SR.of, SR.bind, hE, k4, tupM, ha, k5, td, k6, hlt, d1, d1', d2, d2', c_MOST_DEEDS]
            have d2' : ((tt.length : Int) ≤ 12) := by omega
            have hf := lc_firsts (g := 6) (ρ := [some (.tup [.tup ns, .tup es, .tup tt, sh]), some (.tup ns), some (.tup es), some (.tup tt), some sh, none, none]) S1 (fun d => ⟨_, rfl, fun S => rfl⟩) k6
            have hfl : (tt.map firstD).length ≤ sizeLine := by
              rw [List.length_map]
              exact len_ok _ (by omega)
            have hr := fun S => is_asc_lst hfl (firsts_str k6) S
            rw [List.length_map] at hfl
            cases k7 : riseB (tt.map firstD) with
            | false =>
              unfold m_is_shop
              simp [orM, notT, tV, toB, callM, consM, nilM, M.bind, varM, var, M.lift, asB, M.pure, cM, hz, M.op2, bin2, ix0, ix1, ts, te, k1, k2, asgM, gT, gs1, gs0, gN, SR.opt, Option.bind, chain2, leP, bltM, M.opL, hls, c1', c1, c2, c2', c_MOST_STANDINGS, e1, e2, ltP, c3, c3', itemsT, shopB, SR.of, SR.bind, hE, k4, tupM, ha, k5, td, k6, hlt, d1, d1', d2, d2', c_MOST_DEEDS, lcM, lcI, seqI, srcA, wipeE, hf, hfl, hr, k7]
            | true =>
            cases k8 : isNonD sh with
            | true =>
              unfold m_is_shop
              simp [orM, notT, tV, toB, callM, consM, nilM, M.bind, varM, var, M.lift, asB, M.pure, cM, hz, M.op2, bin2, ix0, ix1, ts, te, k1, k2, asgM, gT, gs1, gs0, gN, SR.opt, Option.bind, chain2, leP, bltM, M.opL, hls, c1', c1, c2, c2', c_MOST_STANDINGS, e1, e2, ltP, c3, c3', itemsT, shopB, SR.of, SR.bind, hE, k4, tupM, ha, k5, td, k6, hlt, d1, d1', d2, d2', c_MOST_DEEDS, lcM, lcI, seqI, srcA, wipeE, hf, hfl, hr, k7, orV, is_non, k8]
            | false =>
              unfold m_is_shop
              simp [orM, notT, tV, toB, callM, consM, nilM, M.bind, varM, var, M.lift, asB, M.pure, cM, hz, M.op2, bin2, ix0, ix1, ts, te, k1, k2, asgM, gT, gs1, gs0, gN, SR.opt, Option.bind, chain2, leP, bltM, M.opL, hls, c1', c1, c2, c2', c_MOST_STANDINGS, e1, e2, ltP, c3, c3', itemsT, shopB, SR.of, SR.bind, hE, k4, tupM, ha, k5, td, k6, hlt, d1, d1', d2, d2', c_MOST_DEEDS, lcM, lcI, seqI, srcA, wipeE, hf, hfl, hr, k7, orV, is_non, k8, nsh]
          | _ => cases k6
        | _ => cases k2
      | _ => cases k1
    · have e1 : ¬ ((r.length : Int) + 1 + 1 + 1 + 1 + 1 = 4) := by omega
      exact ⟨S, .refl S, by
        unfold m_is_shop
        simp [orM, notT, tV, toB, callM, consM, nilM, M.bind, varM, var, M.lift, asB, M.pure, cM, hz, e1, shopB, SR.of, SR.bind]⟩
  | _ => exact ⟨S, .refl S, by
      unfold m_is_shop
      simp [orM, notT, tV, toB, callM, consM, nilM, M.bind, varM, var, M.lift, asB, M.pure, cM, hz, shopB, SR.of, SR.bind]⟩

end PyM
set_option Elab.async false
set_option linter.all false
set_option maxRecDepth 100000
set_option maxHeartbeats 8000000
namespace PyM
open PySem PySem.Spec PyProof.Rows L2
/-! ### how long values are, written out -/
def ShD (n w : Nat) (d : D) : Prop := ∀ S : Store, ∃ p, d.py S = some p ∧ p.canLay0 = true ∧ p.showable = true ∧ p.depth ≤ n ∧ p.shown.length ≤ w
theorem words_sh : (words.all fun x => decide ((PyData.str x).shown.length ≤ 20)) = true := by decide +kernel
theorem nums_sh : (numsL.all fun i => decide ((PyData.int i).shown.length ≤ 20) && (PyData.int i).showable) = true := by decide +kernel
theorem sh_flat {d : D} (h : Flat d) (n : Nat) : ShD n 20 d := fun S => by
  rcases h with rfl | ⟨b, rfl⟩ | ⟨i, rfl, hi⟩ | ⟨x, hx, rfl⟩
  · exact ⟨.none, rfl, rfl, rfl, Nat.zero_le _, by decide +kernel⟩
  · exact ⟨.bool b, rfl, rfl, rfl, Nat.zero_le _, by cases b <;> decide +kernel⟩
  · have := List.all_eq_true.mp nums_sh i hi
    rw [Bool.and_eq_true] at this
    exact ⟨.int i, rfl, rfl, this.2, Nat.zero_le _, of_decide_eq_true this.1⟩
  · have h1 := List.all_eq_true.mp words_sh x hx
    have h2 := List.all_eq_true.mp words_ok x hx
    exact ⟨.str x, rfl, h2, rfl, Nat.zero_le _, of_decide_eq_true h1⟩
theorem ShD.mono {n m w v : Nat} {d : D} (h : ShD n w d) (hn : n ≤ m) (hw : w ≤ v) : ShD m v d := fun S => by
  obtain ⟨p, h1, h2, h3, h4, h5⟩ := h S
  exact ⟨p, h1, h2, h3, by omega, by omega⟩
inductive ShL (n : Nat) : List D → Nat → Prop
  | nil : ShL n [] 0
  | cons {d : D} {ds : List D} {w W : Nat} : ShD n w d → ShL n ds W → ShL n (d :: ds) (w + 2 + W)
theorem ShL.py {n : Nat} (S : Store) : ∀ {ds : List D} {W : Nat}, ShL n ds W → ∃ ps, D.pyL S ds = some ps ∧ PyData.canLayAll0 ps = true ∧ PyData.showableAll ps = true ∧ PyData.depthAll ps ≤ n ∧ piled (PyData.shownAll ps) ≤ W
  | _, _, .nil => ⟨[], by simp [D.pyL], rfl, rfl, Nat.zero_le _, by simp [PyData.shownAll, piled]⟩
  | _, _, .cons h t => by
    obtain ⟨p, h1, h2, h3, h4, h5⟩ := h S
    obtain ⟨ps, g1, g2, g3, g4, g5⟩ := ShL.py S t
    refine ⟨p :: ps, by simp [D.pyL, h1, g1], by simp [PyData.canLayAll0, h2, g2], by simp [PyData.showableAll, h3, g3], by simp only [PyData.depthAll]; omega, ?_⟩
    simp only [PyData.shownAll, piled, List.map_cons, List.sum_cons] at g5 ⊢
    omega
theorem tuple_len (ts : List Str) : (tupleText ts).length ≤ piled ts + 4 := by
  unfold tupleText
  rw [strLen_append, strLen_append]
  have e1 : (("(" : Str)).length = 1 := by decide +kernel
  have e2 : ((if ts.length == 1 then ",)" else ")" : String) : Str).length ≤ 2 := by split <;> decide +kernel
  cases ts with
  | nil =>
    have e3 : (Str.join ", " []).length = 0 := by decide +kernel
    omega
  | cons a r =>
    have := join_length_add (a :: r) (by simp)
    omega
theorem sh_tup {n W : Nat} {ds : List D} (h : ShL n ds W) : ShD (n + 1) (W + 4) (.tup ds) := fun S => by
  obtain ⟨ps, g1, g2, g3, g4, g5⟩ := h.py S
  refine ⟨.tuple ps, by simp [D.py, g1], by simp [PyData.canLay0, g2], by simp [PyData.showable, g3], by simp only [PyData.depth]; omega, ?_⟩
  have := tuple_len (PyData.shownAll ps)
  show (tupleText (PyData.shownAll ps)).length ≤ _
  omega
/-- a value is alike to itself -/
theorem alike_self {n w : Nat} {ds : List D} (h : ShD n w (.tup ds)) (hn : n ≤ 60) (hw : w ≤ 1000000) (S : Store) : m__law_alike [.tup ds, .tup ds] S = .ok (.bl true) S := by
  obtain ⟨p, h1, h2, h3, h4, h5⟩ := h S
  have hs := sizeLine_eq
  have hnd := PyData.hasDict_of_canLay p h2
  have hr : reprP S [.tup ds] = some (.str p.shown) := by
    unfold reprP
    simp only [isRefD, if_true, h1]
    rw [if_pos]
    simp only [Bool.and_eq_true, decide_eq_true_eq, Bool.not_eq_true']
    refine ⟨⟨⟨h3, hnd⟩, ?_⟩, ?_⟩ <;> omega
  have hsh : SeqAt.shaped p = true := by
    unfold SeqAt.shaped
    rw [h2]
    simp
    omega
  have he : eqP S (.tup ds) (.tup ds) = some (.bl true) := by
    unfold eqP eqQ
    simp only [scalD]
    unfold eqDeep
    simp [h1, hsh, SeqAt.eqv_refl p h2]
  unfold m__law_alike
  simp [andV, toB, bltM, M.opL, consM, nilM, M.bind, varM, var, M.op2, M.lift, asB, M.pure, bin2, hr, eq_strs, he, SR.of, SR.bind]
end PyM
set_option Elab.async false
set_option linter.all false
set_option maxRecDepth 100000
set_option maxHeartbeats 8000000
namespace PyM
open PySem PySem.Spec PyProof.Rows L2
/-! ### how deep and how many -/
def deepF : Nat → D → Int
  | 0, _ => 0
  | k + 1, d => maxL (0 :: (((itemsT d).drop 1).filter isTupD).map fun e => 1 + deepF k e)
def partsF : Nat → D → Int
  | 0, _ => 0
  | k + 1, d => 1 + ((((itemsT d).drop 1).filter isTupD).map fun e => partsF k e).sum
theorem lc_fun {g : D → Env' → Option Env'} {me : Env' → M D} {ρ : Env'} {S : Store} {f : D → D} : ∀ {ds : List D}, (∀ d ∈ ds, ∃ ρ2, g d ρ = some ρ2 ∧ me ρ2 S = .ok (f d) S) → lcL (fun _ => true) g yesT me ρ ds S = .ok (ds.map f) S
  | [], _ => rfl
  | d :: ds, h => by
    obtain ⟨ρ2, e1, e2⟩ := h d (by simp)
    have e3 := lc_fun (ds := ds) (fun d' hd => h d' (by simp [hd]))
    unfold lcL
    simp [e1, yesT, M.pure, e2, e3]
theorem ints_map {α : Type} (f : α → Int) : ∀ l : List α, intsOf (l.map fun e => D.int (f e)) = some (l.map f)
  | [] => rfl
  | a :: l => by
    rw [List.map_cons]
    show (intsOf _).map (f a :: ·) = _
    rw [ints_map f l]
    rfl
theorem max_run {α : Type} (f : α → Int) (l : List α) (S : Store) : maxP S [.lst (.int 0 :: l.map fun e => D.int (f e))] = some (.int (maxL (0 :: l.map f))) := by
  have h : intsOf (.int 0 :: l.map fun e => D.int (f e)) = some (0 :: l.map f) := by
    show (intsOf _).map ((0 : Int) :: ·) = _
    rw [ints_map f l]
    rfl
  unfold maxP
  simp [asS, asL, h]
theorem sum_run {α : Type} (f : α → Int) (l : List α) (S : Store) : sumP S [.lst (l.map fun e => D.int (f e))] = some (.int (l.map f).sum) := by
  unfold sumP
  simp [asS, asL, ints_map f l]
theorem drop_len {ds : List D} {n : Nat} (h : ds.length ≤ n) : ((ds.drop 1).filter isTupD).length ≤ n := Nat.le_trans (List.length_filter_le _ _) (by rw [List.length_drop]; omega)
theorem inner_run {L n : Nat} {ds : List D} (h : ValL L n (.tup ds)) (hL : L ≤ 1000) (S : Store) : m_inner [.tup ds] S = .ok (.lst ((ds.drop 1).filter isTupD)) S := by
  obtain ⟨hl, m, rfl, hi⟩ := val_items h
  have hsl : ∀ S, slP S (.tup ds) (some 1) none = some (.tup (ds.drop 1)) := fun S => by rw [sl_tup, cut_drop1]
  have hlc := lc_filter (g := gN 1) (mt := tV (bltM isiP (consM (varM 1) (consM (cM (.ty "tuple")) nilM)))) (me := varM 1) (ρ := [some (.tup ds), none]) (S := S) (f := isTupD) (h := id) (ds := ds.drop 1) (fun e he => ⟨_, rfl, by
    have e1 := isi_tup (hi e (List.mem_of_mem_drop he)) S
    simp [tV, toB, bltM, M.opL, consM, nilM, M.bind, varM, var, M.pure, cM, e1, M.lift, asB], fun _ => rfl⟩)
  rw [List.map_id] at hlc
  have hfl : ((ds.drop 1).filter isTupD).length ≤ sizeLine := Nat.le_trans (drop_len hl) (len_ok _ (by omega))
  generalize (ds.drop 1).filter isTupD = fs at hlc hfl ⊢
  rw [List.drop_one] at *
  unfold m_inner
  simp [lcM, lcI, seqI, srcA, wipeE, slM, opP, noP, optI, asI, opS, hsl, M.bind, varM, var, M.pure, cM, M.lift, hlc, hfl, SR.of, SR.bind]
theorem deep_run : ∀ (n k : Nat) {d : D} (S : Store), ValL 405 n d → isTupD d = true → n < k → m_deep k [d] S = .ok (.int (deepF k d)) S
  | n, 0, d, S, _, _, hk => absurd hk (by omega)
  | n, k + 1, d, S, h, ht, hk => by
    cases d with
    | tup ds =>
      have hin := fun S => inner_run h (by decide) S
      obtain ⟨hl, m, rfl, hi⟩ := val_items h
      have hlc := lc_fun (g := gN 1) (me := bin2 addP (cM (.int 1)) (callM 1 (m_deep k) (consM (varM 1) nilM))) (ρ := [some (.tup ds), none]) (S := S) (f := fun e => .int (1 + deepF k e)) (ds := (ds.drop 1).filter isTupD) (fun e he => ⟨_, rfl, by
        have he' := List.mem_filter.mp he
        have e1 := deep_run m k S (hi e (List.mem_of_mem_drop he'.1)) he'.2 (by omega)
        simp [bin2, callM, consM, nilM, M.bind, varM, var, M.pure, cM, M.op2, e1, add_ints]⟩)
      have hfl : ((ds.drop 1).filter isTupD).length ≤ 405 := drop_len hl
      have hmx := fun S => max_run (fun e => 1 + deepF k e) ((ds.drop 1).filter isTupD) S
      have hadd := fun S => add_lsts S [.int 0] (((ds.drop 1).filter isTupD).map fun e => .int (1 + deepF k e)) (by rw [sizeLine_eq]; simp only [List.length_map, List.length_cons, List.length_nil]; omega)
      have hst := still_lst ((ds.drop 1).filter isTupD) ((ds.drop 1).filter isTupD)
      have hfs : ((ds.drop 1).filter isTupD).length ≤ sizeLine := len_ok _ (by omega)
      have l1 := len_ok 1 (by decide)
      unfold deepF itemsT
      dsimp only
      generalize (ds.drop 1).filter isTupD = fs at hin hlc hfl hmx hadd hst hfs ⊢
      unfold m_deep
      simp [bltM, M.opL, consM, nilM, bin2, lstM, lcM, lcI, seqI, srcA, asS, asL, wipeE, callM, M.bind, varM, var, M.pure, cM, M.op2, hin, hst, hlc, hfs, hadd, hmx, l1, SR.of, SR.bind]
    | _ => cases ht
theorem parts_run : ∀ (n k : Nat) {d : D} (S : Store), ValL 405 n d → isTupD d = true → n < k → m_many_parts k [d] S = .ok (.int (partsF k d)) S
  | n, 0, d, S, _, _, hk => absurd hk (by omega)
  | n, k + 1, d, S, h, ht, hk => by
    cases d with
    | tup ds =>
      have hin := fun S => inner_run h (by decide) S
      obtain ⟨hl, m, rfl, hi⟩ := val_items h
      have hlc := lc_fun (g := gN 1) (me := callM 1 (m_many_parts k) (consM (varM 1) nilM)) (ρ := [some (.tup ds), none]) (S := S) (f := fun e => .int (partsF k e)) (ds := (ds.drop 1).filter isTupD) (fun e he => ⟨_, rfl, by
        have he' := List.mem_filter.mp he
        have e1 := parts_run m k S (hi e (List.mem_of_mem_drop he'.1)) he'.2 (by omega)
        simp [callM, consM, nilM, M.bind, varM, var, M.pure, cM, M.op2, e1]⟩)
      have hfl : ((ds.drop 1).filter isTupD).length ≤ 405 := drop_len hl
      have hmx := fun S => sum_run (fun e => partsF k e) ((ds.drop 1).filter isTupD) S
      have hst := still_lst ((ds.drop 1).filter isTupD) ((ds.drop 1).filter isTupD)
      have hfs : ((ds.drop 1).filter isTupD).length ≤ sizeLine := len_ok _ (by omega)
      unfold partsF itemsT
      dsimp only
      generalize (ds.drop 1).filter isTupD = fs at hin hlc hfl hmx hst hfs ⊢
      unfold m_many_parts
      simp [bltM, M.opL, consM, nilM, bin2, lstM, lcM, lcI, seqI, srcA, asS, asL, wipeE, callM, M.bind, varM, var, M.pure, cM, M.op2, hin, hst, hlc, hfs, hmx, add_ints, SR.of, SR.bind]
    | _ => cases ht
/-- the law's own size -/
theorem size_run : ∀ (n k : Nat) {d : D} (S : Store), ValL 405 n d → isTupD d = true → n < k → m__law_size k [d] S = .ok (.tup [.int (deepF k d), .int (partsF k d)]) S
  | n, 0, d, S, _, _, hk => absurd hk (by omega)
  | n, k + 1, d, S, h, ht, hk => by
    cases d with
    | tup ds =>
      obtain ⟨hl, m, rfl, hi⟩ := val_items h
      have hsl : ∀ S, slP S (.tup ds) (some 1) none = some (.tup (ds.drop 1)) := fun S => by rw [sl_tup, cut_drop1]
      have l2 := len_ok 2 (by decide)
      have l1 := len_ok 1 (by decide)
      have hlc := lc_filter (g := gN 2) (mt := tV (bltM isiP (consM (varM 2) (consM (cM (.ty "tuple")) nilM)))) (me := callM 1 (m__law_size k) (consM (varM 2) nilM)) (ρ := [some (.tup ds), none, none]) (S := S) (f := isTupD) (h := fun e => .tup [.int (deepF k e), .int (partsF k e)]) (ds := ds.drop 1) (fun e he => ⟨_, rfl, by
        have e1 := isi_tup (hi e (List.mem_of_mem_drop he)) S
        simp [tV, toB, bltM, M.opL, consM, nilM, M.bind, varM, var, M.pure, cM, e1, M.lift, asB], fun ht => by
        have e1 := size_run m k S (hi e (List.mem_of_mem_drop he)) ht (by omega)
        simp [callM, consM, nilM, M.bind, varM, var, M.pure, e1]⟩)
      have hfl : ((ds.drop 1).filter isTupD).length ≤ 405 := drop_len hl
      have hfs : ((ds.drop 1).filter isTupD).length ≤ sizeLine := len_ok _ (by omega)
      have hl2 : ∀ x : D, lcL (fun _ => true) (gN 2) yesT (bin2 addP (cM (.int 1)) (bin2 ixP (varM 2) (cM (.int 0)))) [some (.tup ds), some x, none] (((ds.drop 1).filter isTupD).map fun e => .tup [.int (deepF k e), .int (partsF k e)]) S = .ok (((ds.drop 1).filter isTupD).map fun e => .int (1 + deepF k e)) S := fun x => by
        have := lc_fun (g := gN 2) (me := bin2 addP (cM (.int 1)) (bin2 ixP (varM 2) (cM (.int 0)))) (ρ := [some (.tup ds), some x, none]) (S := S) (f := fun d => match d with
          | .tup [.int a, .int b] => .int (1 + a)
          | _ => .non) (ds := ((ds.drop 1).filter isTupD).map fun e => .tup [.int (deepF k e), .int (partsF k e)]) (fun e he => ⟨_, rfl, by
          obtain ⟨y, _, rfl⟩ := List.mem_map.mp he
          have ix0 : ∀ S, ixP S (.tup [.int (deepF k y), .int (partsF k y)]) (.int 0) = some (.int (deepF k y)) := fun S => at_0 _ _
          simp [bin2, M.bind, varM, var, M.pure, cM, M.op2, ix0, add_ints]⟩)
        rw [this, List.map_map]
        rfl
      have hl3 : ∀ x : D, lcL (fun _ => true) (gN 2) yesT (bin2 ixP (varM 2) (cM (.int 1))) [some (.tup ds), some x, none] (((ds.drop 1).filter isTupD).map fun e => .tup [.int (deepF k e), .int (partsF k e)]) S = .ok (((ds.drop 1).filter isTupD).map fun e => .int (partsF k e)) S := fun x => by
        have := lc_fun (g := gN 2) (me := bin2 ixP (varM 2) (cM (.int 1))) (ρ := [some (.tup ds), some x, none]) (S := S) (f := fun d => match d with
          | .tup [.int a, .int b] => .int b
          | _ => .non) (ds := ((ds.drop 1).filter isTupD).map fun e => .tup [.int (deepF k e), .int (partsF k e)]) (fun e he => ⟨_, rfl, by
          obtain ⟨y, _, rfl⟩ := List.mem_map.mp he
          have ix1 : ∀ S, ixP S (.tup [.int (deepF k y), .int (partsF k y)]) (.int 1) = some (.int (partsF k y)) := fun S => at_1 _ _ _
          simp [bin2, M.bind, varM, var, M.pure, cM, M.op2, ix1]⟩)
        rw [this, List.map_map]
        rfl
      have hmx := fun S => max_run (fun e => 1 + deepF k e) ((ds.drop 1).filter isTupD) S
      have hsm := fun S => sum_run (fun e => partsF k e) ((ds.drop 1).filter isTupD) S
      have hadd := fun S => add_lsts S [.int 0] (((ds.drop 1).filter isTupD).map fun e => .int (1 + deepF k e)) (by rw [sizeLine_eq]; simp only [List.length_map, List.length_cons, List.length_nil]; omega)
      have hst := still_lst (((ds.drop 1).filter isTupD).map fun e => D.tup [.int (deepF k e), .int (partsF k e)]) (((ds.drop 1).filter isTupD).map fun e => D.tup [.int (deepF k e), .int (partsF k e)])
      unfold deepF partsF itemsT
      dsimp only
      generalize (ds.drop 1).filter isTupD = fs at hlc hfl hmx hsm hadd hst hfs hl2 hl3 ⊢
      rw [List.drop_one] at *
      unfold m__law_size
      simp [bltM, M.opL, consM, nilM, bin2, lstM, tupM, lcM, lcI, seqI, srcA, asS, asL, wipeE, callM, slM, opP, noP, optI, asI, opS, hsl, M.bind, varM, var, M.pure, cM, M.op2, M.lift, hst, hlc, hfs, hl2, hl3, hadd, hmx, hsm, add_ints, l1, l2, SR.of, SR.bind]
    | _ => cases ht
end PyM
set_option Elab.async false
set_option linter.all false
set_option maxRecDepth 100000
set_option maxHeartbeats 8000000
namespace PyM
open PySem PySem.Spec PyProof.Rows L2
@[simp] theorem x_raise {c : Str} {m : Env' → M (List (Str × D))} {ρ : Env'} {S : Store} : raiseM c m ρ S = SR.of (m ρ S) ρ (fun fs S' => .exc ρ c fs S') := rfl
@[simp] theorem x_sbind_exc {ρ : Env'} {c : Str} {fs : List (Str × D)} {S : Store} {m : MSt} : SR.bind (.exc ρ c fs S) m = .exc ρ c fs S := rfl
@[simp] theorem x_out_exc {ρ : Env'} {c : Str} {fs : List (Str × D)} {S : Store} : SR.out (.exc ρ c fs S) = .exc c fs S := rfl
@[simp] theorem x_out_nx {ρ : Env'} {S : Store} : SR.out (.nx ρ S) = .ok .non S := rfl
/-- a fault: its sort, and two things told of it -/
abbrev Fault := Str × D × D
def sizeFault (d : D) : Option Fault := if 12 < deepF 20 d then some ("large", .str "deep", .int 12) else if 40 < partsF 20 d then some ("large", .str "parts", .int 40) else none
def excOf (f : Fault) (S : Store) : Res D := if f.1 = "large" then .exc "TooLarge" [("what", f.2.1), ("limit", f.2.2)] S else .exc "BadShop" [("where", f.2.1), ("fault", f.2.2)] S
theorem check_size_run {n : Nat} {d : D} (h : ValL 405 n d) (ht : isTupD d = true) (hn : n < 20) (S : Store) : m_check_size [d] S = match sizeFault d with
    | some f => excOf f S
    | none => .ok .non S := by
  have h1 := fun S => deep_run n 20 S h ht hn
  have h2 := fun S => parts_run n 20 S h ht hn
  unfold sizeFault
  by_cases c1 : 12 < deepF 20 d
  · unfold m_check_size
    simp [c1, excOf, two, tV, toB, callM, consM, nilM, M.bind, varM, var, M.lift, asB, M.pure, cM, bin2, M.op2, h1, gtP, c_MOST_DEEP, c_MOST_PARTS, SR.of]
  · by_cases c2 : 40 < partsF 20 d
    · unfold m_check_size
      simp [c1, c2, excOf, two, tV, toB, callM, consM, nilM, M.bind, varM, var, M.lift, asB, M.pure, cM, bin2, M.op2, h1, h2, gtP, c_MOST_DEEP, c_MOST_PARTS, SR.of]
    · unfold m_check_size
      simp [c1, c2, excOf, two, tV, toB, callM, consM, nilM, M.bind, varM, var, M.lift, asB, M.pure, cM, bin2, M.op2, h1, h2, gtP, c_MOST_DEEP, c_MOST_PARTS, SR.of]
theorem check_price_run {n : Nat} {d : D} (h : ValL 405 n d) (hn : n < 20) (S : Store) : m_check_price [d] S = if priceB 20 d = true then (match sizeFault d with
    | some f => excOf f S
    | none => .ok .non S) else .exc "Nothing" [] S := by
  have h1 := fun S => is_price_pl n 20 S (pl_of_val h) hn (by omega)
  by_cases c : priceB 20 d = true
  · have ht : isTupD d = true := by
      cases d with
      | tup ds => rfl
      | _ => cases c
    have h2 := fun S => check_size_run h ht hn S
    rw [if_pos c]
    unfold m_check_price
    cases q : sizeFault d with
    | none =>
      rw [q] at h2
      simp [notT, tV, toB, callM, consM, nilM, M.bind, varM, var, M.lift, asB, M.pure, exprM, h1, c, h2, SR.of]
    | some f =>
      rw [q] at h2
      unfold excOf at h2 ⊢
      by_cases z : f.1 = "large"
      · simp only [if_pos z] at h2 ⊢
        simp [notT, tV, toB, callM, consM, nilM, M.bind, varM, var, M.lift, asB, M.pure, exprM, h1, c, h2, SR.of]
      · simp only [if_neg z] at h2 ⊢
        simp [notT, tV, toB, callM, consM, nilM, M.bind, varM, var, M.lift, asB, M.pure, exprM, h1, c, h2, SR.of]
  · rw [if_neg c]
    unfold m_check_price
    simp [notT, tV, toB, callM, consM, nilM, M.bind, varM, var, M.lift, asB, M.pure, exprM, h1, c, SR.of]
/-! ### the first fault of a shop -/
def inB (x : D) (ns : List D) : Bool := match scalD x, scalL ns with
  | some v, some vs => inV v vs
  | _, _ => false
def eqB : D → D → Bool
  | .str x, .str y => decide (x = y)
  | _, _ => false
theorem in_run (S : Store) {x : D} {ns : List D} (hx : WordD x) (h : ∀ d ∈ ns, WordD d) : inP S x (.tup ns) = some (.bl (inB x ns)) ∧ ninP S x (.tup ns) = some (.bl (!inB x ns)) := by
  obtain ⟨y, _, rfl⟩ := hx
  obtain ⟨vs, e⟩ := scalL_words h
  unfold inP ninP inQ inB
  simp [asQ, scalD, e]
theorem eq_run (S : Store) {a b : D} (ha : WordD a) (hb : WordD b) : eqP S a b = some (.bl (eqB a b)) ∧ neP S a b = some (.bl (!eqB a b)) := by
  obtain ⟨x, _, rfl⟩ := ha
  obtain ⟨y, _, rfl⟩ := hb
  exact ⟨eq_strs S x y, ne_strs S x y⟩
theorem eq_non (S : Store) {a : D} (ha : WordD a) : eqP S a .non = some (.bl (eqB a .non)) := by
  obtain ⟨x, hx, rfl⟩ := ha
  have ho := List.all_eq_true.mp words_ok x hx
  have h1 : SeqAt.shaped (.str x) = true := by
    unfold SeqAt.shaped
    have : PyData.canLay0 (.str x) = true := ho
    rw [this]
    rfl
  have h2 : SeqAt.shaped .none = true := by decide +kernel
  unfold eqP eqQ
  simp [scalD, L2.scal, eqDeep, D.py, h1, h2, PyData.eqv, eqB]
/-- a deed: name, begin, end, a price so deep at the most -/
def DeedK (n : Nat) (d : D) : Prop := ∃ nm b e p, d = .tup [nm, b, e, p] ∧ WordD nm ∧ WordD b ∧ WordD e ∧ ValL 405 n p ∧ isTupD p = true
def deedFault (ns : List D) : D → Option Fault
  | .tup [nm, b, e, _] => if inB b ns = true ∧ inB e ns = true then none else some ("shop", .tup [.str "deed", nm], .str "standing")
  | _ => none
def largeFault : D → Option Fault
  | .tup [_, _, _, p] => sizeFault p
  | _ => none
def firstF (f : D → Option Fault) : List D → Option Fault
  | [] => none
  | d :: ds => match f d with
    | some x => some x
    | none => firstF f ds
def shownOf (ds : List D) (sh : D) : List D := ds.filter fun d => eqB (firstD d) sh
def shownFault (ns es ds : List D) (sh : D) : Option Fault := if isNonD sh = true then none else match shownOf ds sh with
  | [] => some ("shop", .tup [.str "shown", .int 0], .str "deed")
  | .tup [_, b, e, _] :: _ => if eqB b (ns.headD .non) = true ∧ inB e es = true then none else some ("shop", .tup [.str "shown", .int 0], .str "standing")
  | _ => none
def faultOf (ns es ds : List D) (sh : D) : Option Fault := match firstF largeFault ds with
  | some f => some f
  | none => if es.all (fun e => inB e ns) = true then (match firstF (deedFault ns) ds with
    | some f => some f
    | none => shownFault ns es ds sh) else some ("shop", .tup [.str "ends", .int 0], .str "standing")
def dueD (ns es ds : List D) (sh : D) : D := match faultOf ns es ds sh with
  | some f => .tup [.str f.1, f.2.1, f.2.2]
  | none => .tup [.str "told", .tup [.tup ns, .tup es, .tup ds, sh]]
structure ShK (n : Nat) (ns es ds : List D) (sh : D) : Prop where
  nw : ∀ d ∈ ns, WordD d
  n0 : ns ≠ []
  nl : ns.length ≤ 20
  ew : ∀ d ∈ es, WordD d
  el : es.length ≤ 20
  dk : ∀ d ∈ ds, DeedK n d
  dl : ds.length ≤ 20
  hs : sh = .non ∨ WordD sh
end PyM
set_option Elab.async false
set_option linter.all false
set_option maxRecDepth 100000
set_option maxHeartbeats 8000000
namespace PyM
open PySem PySem.Spec PyProof.Rows L2
theorem seq_for {mi : Env' → M Src} {g : D → Env' → Option Env'} {mb m : MSt} {ρ : Env'} {S : Store} {items : List D} (h : mi ρ S = .ok ⟨items, fun _ => true⟩ S) : seqM (forM mi g mb) m ρ S = SR.bind (loopS (fun _ => true) g mb items ρ S) m := by
  unfold seqM forM
  rw [h]
  rfl
theorem seq_skip {t : Env' → M Bool} {m1 m : MSt} {ρ : Env'} {S S' : Store} (h : t ρ S = .ok false S') : seqM (ifM t m1 nilS) m ρ S = m ρ S' := by
  unfold seqM ifM
  rw [h]
  rfl
theorem seq_take {t : Env' → M Bool} {m1 m m0 : MSt} {ρ : Env'} {S S' : Store} (h : t ρ S = .ok true S') : seqM (ifM t m1 m0) m ρ S = SR.bind (m1 ρ S') m := by
  unfold seqM ifM
  rw [h]
  rfl
theorem seq_set {i : Nat} {a : Env' → M D} {m : MSt} {ρ : Env'} {S S' : Store} {d : D} (h : a ρ S = .ok d S') : seqM (setM i a) m ρ S = m (ρ.set i (some d)) S' := by
  unfold seqM setM
  rw [h]
  rfl
abbrev faultD (f : Fault) : D := .tup [.str f.1, f.2.1, f.2.2]
abbrev tg4 (a b c d : Nat) : D → Env' → Option Env' := gT (gs1 (gN a) (gs1 (gN b) (gs1 (gN c) (gs1 (gN d) gs0))))
abbrev largeTurn : MSt := (seqM (asgM (gT (gs1 (gN 6) (gs1 (gN 7) gs0))) (callM 1 (m__law_size 20) (consM (varM 5) nilM)))
  (ifM (orM (tV (bin2 gtP (varM 6) (cM (.int 12)))) (tV (bin2 gtP (varM 7) (cM (.int 40)))))
  (retM (ifV (tV (bin2 gtP (varM 6) (cM (.int 12)))) (tupM (consM (cM (.str "large")) (consM (cM (.str "deep")) (consM (cM (.int 12)) nilM)))) (tupM (consM (cM (.str "large")) (consM (cM (.str "parts")) (consM (cM (.int 40)) nilM))))))
  nilS))
theorem large_loop {n : Nat} (hn : n < 20) (x0 x1 x8 : Option D) (S : Store) : ∀ (ds : List D) (x2 x3 x4 x5 x6 x7 : Option D), (∀ d ∈ ds, DeedK n d) →
    (∃ f, firstF largeFault ds = some f ∧ loopS (fun _ => true) (tg4 2 3 4 5) largeTurn ds [x0, x1, x2, x3, x4, x5, x6, x7, x8] S = .rt (faultD f) S) ∨
    (firstF largeFault ds = none ∧ ∃ y2 y3 y4 y5 y6 y7, loopS (fun _ => true) (tg4 2 3 4 5) largeTurn ds [x0, x1, x2, x3, x4, x5, x6, x7, x8] S = .nx [x0, x1, y2, y3, y4, y5, y6, y7, x8] S)
  | [], x2, x3, x4, x5, x6, x7, _ => .inr ⟨rfl, x2, x3, x4, x5, x6, x7, rfl⟩
  | d :: ds, x2, x3, x4, x5, x6, x7, h => by
    obtain ⟨nm, b, e, p, rfl, _, _, _, hp, ht⟩ := h d (by simp)
    have hz := fun S => size_run n 20 S hp ht hn
    have l3 := len_ok 3 (by decide)
    have hun : loopS (fun _ => true) (tg4 2 3 4 5) largeTurn (.tup [nm, b, e, p] :: ds) [x0, x1, x2, x3, x4, x5, x6, x7, x8] S = (match largeTurn [x0, x1, some nm, some b, some e, some p, x6, x7, x8] S with
        | .nx ρ2 S2 => loopS (fun _ => true) (tg4 2 3 4 5) largeTurn ds ρ2 S2
        | .ct ρ2 S2 => loopS (fun _ => true) (tg4 2 3 4 5) largeTurn ds ρ2 S2
        | .bk ρ2 S2 => .nx ρ2 S2
        | r => r) := by rfl
    rw [hun]
    show (∃ f, (match sizeFault p with
      | some x => some x
      | none => firstF largeFault ds) = some f ∧ _) ∨ ((match sizeFault p with
      | some x => some x
      | none => firstF largeFault ds) = none ∧ _)
    by_cases c1 : 12 < deepF 20 p
    · have q : sizeFault p = (some ("large", .str "deep", .int 12) : Option Fault) := if_pos c1
      rw [q]
      refine .inl ⟨_, rfl, ?_⟩
      simp [seqM, asgM, gT, gs1, gs0, gN, SR.opt, callM, consM, nilM, M.bind, varM, var, M.pure, hz, orM, tV, toB, bin2, M.op2, gtP, cM, c1, M.lift, asB, retM, ifM, ifV, tupM, l3, SR.of, SR.bind]
    · by_cases c2 : 40 < partsF 20 p
      · have q : sizeFault p = (some ("large", .str "parts", .int 40) : Option Fault) := by
          unfold sizeFault
          rw [if_neg c1, if_pos c2]
        rw [q]
        refine .inl ⟨_, rfl, ?_⟩
        simp [seqM, asgM, gT, gs1, gs0, gN, SR.opt, callM, consM, nilM, M.bind, varM, var, M.pure, hz, orM, tV, toB, bin2, M.op2, gtP, cM, c1, c2, M.lift, asB, retM, ifM, ifV, tupM, l3, SR.of, SR.bind]
      · have q : sizeFault p = none := by
          unfold sizeFault
          rw [if_neg c1, if_neg c2]
        rw [q]
        have hb : largeTurn [x0, x1, some nm, some b, some e, some p, x6, x7, x8] S = .nx [x0, x1, some nm, some b, some e, some p, some (.int (deepF 20 p)), some (.int (partsF 20 p)), x8] S := by
          simp [seqM, asgM, gT, gs1, gs0, gN, SR.opt, callM, consM, nilM, M.bind, varM, var, M.pure, hz, orM, tV, toB, bin2, M.op2, gtP, cM, c1, c2, M.lift, asB, retM, ifM, nilS, SR.of, SR.bind]
        rw [hb]
        exact large_loop hn x0 x1 x8 S ds (some nm) (some b) (some e) (some p) (some (.int (deepF 20 p))) (some (.int (partsF 20 p))) (fun d hd => h d (by simp [hd]))
abbrev deedTurn2 : MSt := (ifM (orM (tV (bin2 ninP (varM 3) (bin2 ixP (varM 0) (cM (.int 0))))) (tV (bin2 ninP (varM 4) (bin2 ixP (varM 0) (cM (.int 0))))))
  (retM (tupM (consM (cM (.str "shop")) (consM (tupM (consM (cM (.str "deed")) (consM (varM 2) nilM))) (consM (cM (.str "standing")) nilM)))))
  nilS)
theorem deed_loop2 {n : Nat} {ns es ds0 : List D} {sh : D} (nw : ∀ d ∈ ns, WordD d) (x1 x6 x7 x8 : Option D) (S : Store) : ∀ (ds : List D) (x2 x3 x4 x5 : Option D), (∀ d ∈ ds, DeedK n d) →
    (∃ f, firstF (deedFault ns) ds = some f ∧ loopS (fun _ => true) (tg4 2 3 4 5) deedTurn2 ds [some (.tup [.tup ns, .tup es, .tup ds0, sh]), x1, x2, x3, x4, x5, x6, x7, x8] S = .rt (faultD f) S) ∨
    (firstF (deedFault ns) ds = none ∧ ∃ y2 y3 y4 y5, loopS (fun _ => true) (tg4 2 3 4 5) deedTurn2 ds [some (.tup [.tup ns, .tup es, .tup ds0, sh]), x1, x2, x3, x4, x5, x6, x7, x8] S = .nx [some (.tup [.tup ns, .tup es, .tup ds0, sh]), x1, y2, y3, y4, y5, x6, x7, x8] S)
  | [], x2, x3, x4, x5, _ => .inr ⟨rfl, x2, x3, x4, x5, rfl⟩
  | d :: ds, x2, x3, x4, x5, h => by
    obtain ⟨nm, b, e, p, rfl, hnm, hb, he, hp, ht⟩ := h d (by simp)
    have l3 := len_ok 3 (by decide)
    have l2 := len_ok 2 (by decide)
    have ix0 : ∀ S, ixP S (.tup [.tup ns, .tup es, .tup ds0, sh]) (.int 0) = some (.tup ns) := fun S => at_0 _ _
    have ib := fun S => (in_run S hb nw).2
    have ie := fun S => (in_run S he nw).2
    have hun : loopS (fun _ => true) (tg4 2 3 4 5) deedTurn2 (.tup [nm, b, e, p] :: ds) [some (.tup [.tup ns, .tup es, .tup ds0, sh]), x1, x2, x3, x4, x5, x6, x7, x8] S = (match deedTurn2 [some (.tup [.tup ns, .tup es, .tup ds0, sh]), x1, some nm, some b, some e, some p, x6, x7, x8] S with
        | .nx ρ2 S2 => loopS (fun _ => true) (tg4 2 3 4 5) deedTurn2 ds ρ2 S2
        | .ct ρ2 S2 => loopS (fun _ => true) (tg4 2 3 4 5) deedTurn2 ds ρ2 S2
        | .bk ρ2 S2 => .nx ρ2 S2
        | r => r) := by rfl
    rw [hun]
    cases c1 : inB b ns with
    | false =>
      have q : firstF (deedFault ns) (.tup [nm, b, e, p] :: ds) = (some ("shop", .tup [.str "deed", nm], .str "standing") : Option Fault) := by simp [firstF, deedFault, c1]
      refine .inl ⟨_, q, ?_⟩
      simp [callM, consM, nilM, M.bind, varM, var, M.pure, orM, tV, toB, bin2, M.op2, cM, ix0, ib, c1, M.lift, asB, retM, ifM, tupM, l3, l2, SR.of, SR.bind]
    | true =>
      cases c2 : inB e ns with
      | false =>
        have q : firstF (deedFault ns) (.tup [nm, b, e, p] :: ds) = (some ("shop", .tup [.str "deed", nm], .str "standing") : Option Fault) := by simp [firstF, deedFault, c1, c2]
        refine .inl ⟨_, q, ?_⟩
        simp [callM, consM, nilM, M.bind, varM, var, M.pure, orM, tV, toB, bin2, M.op2, cM, ix0, ib, ie, c1, c2, M.lift, asB, retM, ifM, tupM, l3, l2, SR.of, SR.bind]
      | true =>
        have q : firstF (deedFault ns) (.tup [nm, b, e, p] :: ds) = firstF (deedFault ns) ds := by simp [firstF, deedFault, c1, c2]
        rw [q]
        have hb2 : deedTurn2 [some (.tup [.tup ns, .tup es, .tup ds0, sh]), x1, some nm, some b, some e, some p, x6, x7, x8] S = .nx [some (.tup [.tup ns, .tup es, .tup ds0, sh]), x1, some nm, some b, some e, some p, x6, x7, x8] S := by
          simp [callM, consM, nilM, M.bind, varM, var, M.pure, orM, tV, toB, bin2, M.op2, cM, ix0, ib, ie, c1, c2, M.lift, asB, retM, ifM, nilS, SR.of, SR.bind]
        rw [hb2]
        exact deed_loop2 nw x1 x6 x7 x8 S ds (some nm) (some b) (some e) (some p) (fun d hd => h d (by simp [hd]))
end PyM
set_option Elab.async false
set_option linter.all false
set_option maxRecDepth 100000
set_option maxHeartbeats 8000000
namespace PyM
open PySem PySem.Spec PyProof.Rows L2
theorem WordD.pl {d : D} (h : WordD d) (n : Nat) : PlD n d := pl_of_val (h.val 405 n)
theorem deed_pl {n : Nat} {d : D} (h : DeedK n d) : PlD (n + 1) d := by
  obtain ⟨nm, b, e, p, rfl, h1, h2, h3, h4, _⟩ := h
  refine pl_tup fun x hx => ?_
  simp only [List.mem_cons, List.not_mem_nil, or_false] at hx
  rcases hx with rfl | rfl | rfl | rfl
  · exact h1.pl n
  · exact h2.pl n
  · exact h3.pl n
  · exact pl_of_val h4
/-- shown is compared -/
theorem eq_sh (S : Store) {a sh : D} (ha : WordD a) (hs : sh = .non ∨ WordD sh) : eqP S a sh = some (.bl (eqB a sh)) := by
  rcases hs with rfl | hs
  · exact eq_non S ha
  · exact (eq_run S ha hs).1
theorem isn_non (S : Store) (d : D) : isnP S d .non = some (.bl (!isNonD d)) := by
  cases d <;> rfl
/-- the law's first fault -/
theorem due_run {n : Nat} {ns es ds : List D} {sh : D} (h : ShK n ns es ds sh) (hn : n < 20) (S : Store) : m__law_due_of [.tup [.tup ns, .tup es, .tup ds, sh]] S = .ok (dueD ns es ds sh) S := by
  have ix0 : ∀ S, ixP S (.tup [.tup ns, .tup es, .tup ds, sh]) (.int 0) = some (.tup ns) := fun S => at_0 _ _
  have ix1 : ∀ S, ixP S (.tup [.tup ns, .tup es, .tup ds, sh]) (.int 1) = some (.tup es) := fun S => at_1 _ _ _
  have ix2 : ∀ S, ixP S (.tup [.tup ns, .tup es, .tup ds, sh]) (.int 2) = some (.tup ds) := fun S => at_2 _ _ _ _
  have ix3 : ∀ S, ixP S (.tup [.tup ns, .tup es, .tup ds, sh]) (.int 3) = some sh := fun S => at_3 _ _ _ _ _
  have l0 := len_ok 0 (by decide)
  have l2 := len_ok 2 (by decide)
  have l3 := len_ok 3 (by decide)
  unfold m__law_due_of dueD faultOf
  simp only [x_body]
  show SR.out (seqM _ _ [some (.tup [.tup ns, .tup es, .tup ds, sh]), none, none, none, none, none, none, none, none] S) = _
  rw [seq_for (items := ds) (by simp [seqI, bin2, M.bind, varM, var, M.pure, cM, M.op2, ix2, srcA])]
  rcases large_loop hn (some (.tup [.tup ns, .tup es, .tup ds, sh])) none none S ds none none none none none none h.dk with ⟨f, e1, e2⟩ | ⟨e1, y2, y3, y4, y5, y6, y7, e2⟩
  · rw [e2, e1]
    rfl
  rw [e2, e1]
  simp only [x_sbind_nx]
  -- the ends
  have hlc : lcL (fun _ => true) (gN 2) (tV (bin2 ninP (varM 2) (bin2 ixP (varM 0) (cM (.int 0))))) (varM 2) [some (.tup [.tup ns, .tup es, .tup ds, sh]), none, none, y3, y4, y5, y6, y7, none] es S = .ok (es.filter fun e => !inB e ns) S := by
    have := lc_filter (g := gN 2) (mt := tV (bin2 ninP (varM 2) (bin2 ixP (varM 0) (cM (.int 0))))) (me := varM 2) (ρ := [some (.tup [.tup ns, .tup es, .tup ds, sh]), none, none, y3, y4, y5, y6, y7, none]) (S := S) (f := fun e => !inB e ns) (h := id) (ds := es) (fun e he => ⟨_, rfl, by
      have e1 := (in_run S (h.ew e he) h.nw).2
      simp [tV, toB, bin2, M.bind, varM, var, M.pure, cM, M.op2, ix0, e1, M.lift, asB], fun _ => rfl⟩)
    rw [List.map_id] at this
    exact this
  have hfl : (es.filter fun e => !inB e ns).length ≤ 405 := Nat.le_trans (List.length_filter_le _ _) (by have := h.el; omega)
  have hne := ne_lst_nil S (ds := es.filter fun e => !inB e ns) (fun d hd => h.ew d (List.mem_filter.mp hd).1) hfl
  rw [filter_nil] at hne
  have hfs : (es.filter fun e => !inB e ns).length ≤ sizeLine := len_ok _ (by omega)
  have test1 : (tV (bin2 neP (lcM (seqI (bin2 ixP (varM 0) (cM (.int 1)))) (gN 2) (tV (bin2 ninP (varM 2) (bin2 ixP (varM 0) (cM (.int 0))))) (varM 2) [2]) (lstM nilM))) [some (.tup [.tup ns, .tup es, .tup ds, sh]), none, y2, y3, y4, y5, y6, y7, none] S = .ok (!es.all fun e => inB e ns) S := by
    simp [tV, toB, bin2, lcM, lcI, seqI, srcA, wipeE, M.bind, varM, var, M.pure, cM, M.op2, ix1, hlc, hfs, lstM, nilM, l0, hne, M.lift, asB]
  by_cases c1 : (es.all fun e => inB e ns) = true
  case neg =>
    have c1' : (es.all fun e => inB e ns) = false := by simpa using c1
    rw [c1'] at test1
    rw [if_neg c1, seq_take test1]
    simp [retM, tupM, consM, nilM, M.bind, cM, M.pure, l2, l3, SR.of]
  rw [c1] at test1
  rw [if_pos c1, seq_skip test1]
  -- the deeds
  rw [seq_for (items := ds) (by simp [seqI, bin2, M.bind, varM, var, M.pure, cM, M.op2, ix2, srcA])]
  rcases deed_loop2 (es := es) (ds0 := ds) (sh := sh) h.nw none y6 y7 none S ds y2 y3 y4 y5 h.dk with ⟨f, e3, e4⟩ | ⟨e3, z2, z3, z4, z5, e4⟩
  · rw [e4, e3]
    rfl
  rw [e4, e3]
  simp only [x_sbind_nx]
  -- what is shown
  have hl5 : lcL (fun _ => true) (gN 8) (tV (bin2 eqP (bin2 ixP (varM 8) (cM (.int 0))) (bin2 ixP (varM 0) (cM (.int 3))))) (varM 8) [some (.tup [.tup ns, .tup es, .tup ds, sh]), none, z2, z3, z4, z5, y6, y7, none] ds S = .ok (shownOf ds sh) S := by
    have := lc_filter (g := gN 8) (mt := tV (bin2 eqP (bin2 ixP (varM 8) (cM (.int 0))) (bin2 ixP (varM 0) (cM (.int 3))))) (me := varM 8) (ρ := [some (.tup [.tup ns, .tup es, .tup ds, sh]), none, z2, z3, z4, z5, y6, y7, none]) (S := S) (f := fun d => eqB (firstD d) sh) (h := id) (ds := ds) (fun d hd => ⟨_, rfl, by
      obtain ⟨nm, b, e, p, rfl, k1, k2, k3, k4, _⟩ := h.dk d hd
      have i0 : ∀ S, ixP S (.tup [nm, b, e, p]) (.int 0) = some nm := fun S => at_0 _ _
      have e1 := eq_sh S k1 h.hs
      simp [tV, toB, bin2, M.bind, varM, var, M.pure, cM, M.op2, ix3, i0, e1, M.lift, asB, firstD], fun _ => rfl⟩)
    rw [List.map_id] at this
    exact this
  have hsl : (shownOf ds sh).length ≤ sizeLine := Nat.le_trans (List.length_filter_le _ _) (len_ok _ (by have := h.dl; omega))
  have sdk : ∀ d ∈ shownOf ds sh, DeedK n d := fun d hd => h.dk d (List.mem_filter.mp hd).1
  have heq := eq_nil_l S (n := n + 1) (ds := shownOf ds sh) (by omega) (fun d hd => deed_pl (sdk d hd))
  rw [seq_set (d := .lst (shownOf ds sh)) (S' := S) (by simp [lcM, lcI, seqI, srcA, wipeE, bin2, M.bind, varM, var, M.pure, cM, M.op2, ix2, hl5, hsl])]
  simp only [List.set]
  unfold shownFault
  cases c2 : isNonD sh with
  | true =>
    rw [seq_skip (S' := S) (by simp [andM, tV, toB, bin2, M.bind, varM, var, M.pure, cM, M.op2, ix3, isn_non, c2, M.lift, asB])]
    rw [seq_skip (S' := S) (by simp [andM, tV, toB, bin2, M.bind, varM, var, M.pure, cM, M.op2, ix3, isn_non, c2, M.lift, asB])]
    simp [retM, tupM, consM, nilM, M.bind, cM, varM, var, M.pure, l2, SR.of]
  | false =>
    have hsw : WordD sh := by
      rcases h.hs with rfl | hs
      · cases c2
      · exact hs
    cases hq : shownOf ds sh with
    | nil =>
      rw [hq] at heq
      rw [seq_take (S' := S) (by simp [andM, tV, toB, bin2, M.bind, varM, var, M.pure, cM, M.op2, ix3, isn_non, c2, lstM, nilM, l0, heq, M.lift, asB])]
      simp [retM, tupM, consM, nilM, M.bind, cM, M.pure, l2, l3, SR.of]
    | cons d0 rest =>
      rw [hq] at heq
      obtain ⟨nm, b, e, p, rfl, k1, k2, k3, k4, _⟩ := sdk d0 (by rw [hq]; simp)
      rw [seq_skip (S' := S) (by simp [andM, tV, toB, bin2, M.bind, varM, var, M.pure, cM, M.op2, ix3, isn_non, c2, lstM, nilM, l0, heq, M.lift, asB])]
      obtain ⟨n0, hn0, hn1⟩ := at_first h.n0 h.nw
      have hd : ns.headD .non = n0 := by
        cases hns : ns with
        | nil => exact absurd hns h.n0
        | cons a r =>
          rw [hns, at_0] at hn0
          exact Option.some.inj hn0
      rw [hd]
      have j0 : ∀ S, ixP S (.lst (.tup [nm, b, e, p] :: rest)) (.int 0) = some (.tup [nm, b, e, p]) := fun S => at_0 _ _
      have j1 : ∀ S, ixP S (.tup [nm, b, e, p]) (.int 1) = some b := fun S => at_1 _ _ _
      have j2 : ∀ S, ixP S (.tup [nm, b, e, p]) (.int 2) = some e := fun S => at_2 _ _ _ _
      have j3 : ∀ S, ixP S (.tup ns) (.int 0) = some n0 := fun S => hn0
      have e5 := fun S => (eq_run S k2 hn1).2
      have e6 := fun S => (in_run S k3 h.ew).2
      cases c3 : eqB b n0 with
      | false =>
        rw [seq_take (S' := S) (by simp [andM, orM, tV, toB, bin2, M.bind, varM, var, M.pure, cM, M.op2, ix3, ix0, ix1, j0, j1, j2, j3, isn_non, c2, e5, c3, M.lift, asB])]
        simp [retM, tupM, consM, nilM, M.bind, cM, M.pure, l2, l3, SR.of, c3]
      | true =>
        cases c4 : inB e es with
        | false =>
          rw [seq_take (S' := S) (by simp [andM, orM, tV, toB, bin2, M.bind, varM, var, M.pure, cM, M.op2, ix3, ix0, ix1, j0, j1, j2, j3, isn_non, c2, e5, c3, e6, c4, M.lift, asB])]
          simp [retM, tupM, consM, nilM, M.bind, cM, M.pure, l2, l3, SR.of, c3, c4]
        | true =>
          rw [seq_skip (S' := S) (by simp [andM, orM, tV, toB, bin2, M.bind, varM, var, M.pure, cM, M.op2, ix3, ix0, ix1, j0, j1, j2, j3, isn_non, c2, e5, c3, e6, c4, M.lift, asB])]
          simp [retM, tupM, consM, nilM, M.bind, cM, varM, var, M.pure, l2, SR.of, c3, c4]
end PyM
set_option Elab.async false
set_option linter.all false
set_option maxRecDepth 100000
set_option maxHeartbeats 8000000
namespace PyM
open PySem PySem.Spec PyProof.Rows L2
/-! ### the program's first fault -/
abbrev sizeTurn : MSt := (exprM (callM 1 m_check_size (consM (bin2 ixP (varM 1) (cM (.int 3))) nilM)))
/-- how a fault flies -/
def excS (f : Fault) (ρ : Env') (S : Store) : SR := if f.1 = "large" then .exc ρ "TooLarge" [("what", f.2.1), ("limit", f.2.2)] S else .exc ρ "BadShop" [("where", f.2.1), ("fault", f.2.2)] S
theorem size_large {d : D} {f : Fault} (h : sizeFault d = some f) : f.1 = "large" := by
  unfold sizeFault at h
  split at h
  · cases h
    rfl
  · split at h
    · cases h
      rfl
    · cases h
theorem size_loop {n : Nat} (hn : n < 20) (x0 : Option D) (rest : List (Option D)) (S : Store) : ∀ (ds : List D) (x1 : Option D), (∀ d ∈ ds, DeedK n d) →
    (∃ f ρ, firstF largeFault ds = some f ∧ f.1 = "large" ∧ loopS (fun _ => true) (gN 1) sizeTurn ds (x0 :: x1 :: rest) S = excS f ρ S) ∨
    (firstF largeFault ds = none ∧ ∃ y1, loopS (fun _ => true) (gN 1) sizeTurn ds (x0 :: x1 :: rest) S = .nx (x0 :: y1 :: rest) S)
  | [], x1, _ => .inr ⟨rfl, x1, rfl⟩
  | d :: ds, x1, h => by
    obtain ⟨nm, b, e, p, rfl, _, _, _, hp, ht⟩ := h d (by simp)
    have hz := fun S => check_size_run hp ht hn S
    have i3 : ∀ S, ixP S (.tup [nm, b, e, p]) (.int 3) = some p := fun S => at_3 _ _ _ _ _
    have hun : loopS (fun _ => true) (gN 1) sizeTurn (.tup [nm, b, e, p] :: ds) (x0 :: x1 :: rest) S = (match sizeTurn (x0 :: some (.tup [nm, b, e, p]) :: rest) S with
        | .nx ρ2 S2 => loopS (fun _ => true) (gN 1) sizeTurn ds ρ2 S2
        | .ct ρ2 S2 => loopS (fun _ => true) (gN 1) sizeTurn ds ρ2 S2
        | .bk ρ2 S2 => .nx ρ2 S2
        | r => r) := by rfl
    rw [hun]
    show (∃ f ρ, (match sizeFault p with
      | some x => some x
      | none => firstF largeFault ds) = some f ∧ _) ∨ ((match sizeFault p with
      | some x => some x
      | none => firstF largeFault ds) = none ∧ _)
    cases q : sizeFault p with
    | some f =>
      have hl := size_large q
      rw [q] at hz
      refine .inl ⟨f, x0 :: some (.tup [nm, b, e, p]) :: rest, rfl, hl, ?_⟩
      simp only [excOf, if_pos hl] at hz
      simp [exprM, callM, consM, nilM, M.bind, bin2, varM, var, M.pure, cM, M.op2, i3, hz, SR.of, excS, hl]
    | none =>
      rw [q] at hz
      have hb : sizeTurn (x0 :: some (.tup [nm, b, e, p]) :: rest) S = .nx (x0 :: some (.tup [nm, b, e, p]) :: rest) S := by
        simp [exprM, callM, consM, nilM, M.bind, bin2, varM, var, M.pure, cM, M.op2, i3, hz, SR.of]
      rw [hb]
      exact size_loop hn x0 rest S ds _ (fun d hd => h d (by simp [hd]))
abbrev deedTurn3 : MSt := (ifM (orM (tV (bin2 ninP (varM 8) (varM 3))) (tV (bin2 ninP (varM 9) (varM 3))))
  (raiseM "BadShop" (two "where" "fault" (consM (tupM (consM (cM (.str "deed")) (consM (varM 7) nilM))) (consM (cM (.str "standing")) nilM))))
  nilS)
theorem deed_loop3 {n : Nat} {ns : List D} (nw : ∀ d ∈ ns, WordD d) (x0 x1 x2 x4 x5 x6 : Option D) (S : Store) : ∀ (ds : List D) (x7 x8 x9 x10 : Option D), (∀ d ∈ ds, DeedK n d) →
    (∃ f ρ, firstF (deedFault ns) ds = some f ∧ f.1 ≠ "large" ∧ loopS (fun _ => true) (tg4 7 8 9 10) deedTurn3 ds [x0, x1, x2, some (.tup ns), x4, x5, x6, x7, x8, x9, x10] S = excS f ρ S) ∨
    (firstF (deedFault ns) ds = none ∧ ∃ y7 y8 y9 y10, loopS (fun _ => true) (tg4 7 8 9 10) deedTurn3 ds [x0, x1, x2, some (.tup ns), x4, x5, x6, x7, x8, x9, x10] S = .nx [x0, x1, x2, some (.tup ns), x4, x5, x6, y7, y8, y9, y10] S)
  | [], x7, x8, x9, x10, _ => .inr ⟨rfl, x7, x8, x9, x10, rfl⟩
  | d :: ds, x7, x8, x9, x10, h => by
    obtain ⟨nm, b, e, p, rfl, hnm, hb, he, hp, ht⟩ := h d (by simp)
    have l2 := len_ok 2 (by decide)
    have ib := fun S => (in_run S hb nw).2
    have ie := fun S => (in_run S he nw).2
    have nl : ((Str.ofString "shop" = Str.ofString "large") = False) := eq_false (by decide +kernel)
    have hun : loopS (fun _ => true) (tg4 7 8 9 10) deedTurn3 (.tup [nm, b, e, p] :: ds) [x0, x1, x2, some (.tup ns), x4, x5, x6, x7, x8, x9, x10] S = (match deedTurn3 [x0, x1, x2, some (.tup ns), x4, x5, x6, some nm, some b, some e, some p] S with
        | .nx ρ2 S2 => loopS (fun _ => true) (tg4 7 8 9 10) deedTurn3 ds ρ2 S2
        | .ct ρ2 S2 => loopS (fun _ => true) (tg4 7 8 9 10) deedTurn3 ds ρ2 S2
        | .bk ρ2 S2 => .nx ρ2 S2
        | r => r) := by rfl
    rw [hun]
    cases c1 : inB b ns with
    | false =>
      have q : firstF (deedFault ns) (.tup [nm, b, e, p] :: ds) = (some ("shop", .tup [.str "deed", nm], .str "standing") : Option Fault) := by simp [firstF, deedFault, c1]
      refine .inl ⟨_, [x0, x1, x2, some (.tup ns), x4, x5, x6, some nm, some b, some e, some p], q, (show ("shop" : Str) ≠ "large" by decide +kernel), ?_⟩
      simp [two, consM, nilM, M.bind, varM, var, M.pure, orM, tV, toB, bin2, M.op2, cM, ib, c1, M.lift, asB, ifM, tupM, l2, SR.of, SR.bind, excS, nl]
    | true =>
      cases c2 : inB e ns with
      | false =>
        have q : firstF (deedFault ns) (.tup [nm, b, e, p] :: ds) = (some ("shop", .tup [.str "deed", nm], .str "standing") : Option Fault) := by simp [firstF, deedFault, c1, c2]
        refine .inl ⟨_, [x0, x1, x2, some (.tup ns), x4, x5, x6, some nm, some b, some e, some p], q, (show ("shop" : Str) ≠ "large" by decide +kernel), ?_⟩
        simp [two, consM, nilM, M.bind, varM, var, M.pure, orM, tV, toB, bin2, M.op2, cM, ib, ie, c1, c2, M.lift, asB, ifM, tupM, l2, SR.of, SR.bind, excS, nl]
      | true =>
        have q : firstF (deedFault ns) (.tup [nm, b, e, p] :: ds) = firstF (deedFault ns) ds := by simp [firstF, deedFault, c1, c2]
        rw [q]
        have hb2 : deedTurn3 [x0, x1, x2, some (.tup ns), x4, x5, x6, some nm, some b, some e, some p] S = .nx [x0, x1, x2, some (.tup ns), x4, x5, x6, some nm, some b, some e, some p] S := by
          simp [consM, nilM, M.bind, varM, var, M.pure, orM, tV, toB, bin2, M.op2, cM, ib, ie, c1, c2, M.lift, asB, ifM, nilS, SR.of, SR.bind]
        rw [hb2]
        exact deed_loop3 nw x0 x1 x2 x4 x5 x6 S ds _ _ _ _ (fun d hd => h d (by simp [hd]))
end PyM
set_option Elab.async false
set_option linter.all false
set_option maxRecDepth 100000
set_option maxHeartbeats 8000000
namespace PyM
open PySem PySem.Spec PyProof.Rows L2
theorem seq_nx {m1 m : MSt} {ρ ρ' : Env'} {S S' : Store} (h : m1 ρ S = .nx ρ' S') : seqM m1 m ρ S = m ρ' S' := by
  unfold seqM
  rw [h]
  rfl
theorem excS_bind {f : Fault} {ρ : Env'} {S : Store} {m : MSt} : SR.bind (excS f ρ S) m = excS f ρ S := by
  unfold excS
  split <;> rfl
theorem excS_out {f : Fault} {ρ : Env'} {S : Store} : SR.out (excS f ρ S) = excOf f S := by
  unfold excS excOf
  split <;> rfl
def told (f : Option Fault) (S : Store) : Res D := match f with
  | some f => excOf f S
  | none => .ok .non S
theorem is_sh (S : Store) {sh : D} : isP S sh .non = some (.bl (isNonD sh)) := is_non S sh
/-- check_shop raises the first fault, and none but it -/
theorem check_shop_run {n : Nat} {ns es ds : List D} {sh : D} (h : ShK n ns es ds sh) (hn : n < 18) (hv : ValL 405 20 (.tup [.tup ns, .tup es, .tup ds, sh])) (hB : shopB (.tup [.tup ns, .tup es, .tup ds, sh]) = true) (S : Store) : ∃ S', Ext S S' ∧ m_check_shop [.tup [.tup ns, .tup es, .tup ds, sh]] S = told (faultOf ns es ds sh) S' := by
  obtain ⟨S1, x1, e0⟩ := is_shop_val hv (by decide) (by decide) S
  rw [hB] at e0
  refine ⟨S1, x1, ?_⟩
  have l0 := len_ok 0 (by decide)
  have l2 := len_ok 2 (by decide)
  have nl : ((Str.ofString "shop" = Str.ofString "large") = False) := eq_false (by decide +kernel)
  unfold m_check_shop faultOf
  simp only [x_body]
  show SR.out (seqM _ _ [some (.tup [.tup ns, .tup es, .tup ds, sh]), none, none, none, none, none, none, none, none, none, none] S) = _
  rw [seq_skip (S' := S1) (by simp [notT, tV, toB, callM, consM, nilM, M.bind, varM, var, M.lift, asB, M.pure, e0])]
  rw [seq_nx (ρ' := [some (.tup [.tup ns, .tup es, .tup ds, sh]), none, none, some (.tup ns), some (.tup es), some (.tup ds), some sh, none, none, none, none]) (S' := S1) (by rfl)]
  rw [seq_for (items := ds) (by simp [seqI, M.bind, varM, var, M.pure, srcA])]
  rcases size_loop (show n < 20 by omega) (some (.tup [.tup ns, .tup es, .tup ds, sh])) [none, some (.tup ns), some (.tup es), some (.tup ds), some sh, none, none, none, none] S1 ds none h.dk with ⟨f, ρ, e1, _, e2⟩ | ⟨e1, y1, e2⟩
  · rw [e2, e1, excS_bind, excS_out]
    rfl
  rw [e2, e1]
  simp only [x_sbind_nx]
  have hlc : lcL (fun _ => true) (gN 7) (tV (bin2 ninP (varM 7) (varM 3))) (varM 7) [some (.tup [.tup ns, .tup es, .tup ds, sh]), y1, none, some (.tup ns), some (.tup es), some (.tup ds), some sh, none, none, none, none] es S1 = .ok (es.filter fun e => !inB e ns) S1 := by
    have := lc_filter (g := gN 7) (mt := tV (bin2 ninP (varM 7) (varM 3))) (me := varM 7) (ρ := [some (.tup [.tup ns, .tup es, .tup ds, sh]), y1, none, some (.tup ns), some (.tup es), some (.tup ds), some sh, none, none, none, none]) (S := S1) (f := fun e => !inB e ns) (h := id) (ds := es) (fun e he => ⟨_, rfl, by
      have e1 := (in_run S1 (h.ew e he) h.nw).2
      simp [tV, toB, bin2, M.bind, varM, var, M.pure, M.op2, e1, M.lift, asB], fun _ => rfl⟩)
    rw [List.map_id] at this
    exact this
  have hfl : (es.filter fun e => !inB e ns).length ≤ 405 := Nat.le_trans (List.length_filter_le _ _) (by have := h.el; omega)
  have hne := ne_lst_nil S1 (ds := es.filter fun e => !inB e ns) (fun d hd => h.ew d (List.mem_filter.mp hd).1) hfl
  rw [filter_nil] at hne
  have hfs : (es.filter fun e => !inB e ns).length ≤ sizeLine := len_ok _ (by omega)
  have test1 : (tV (bin2 neP (lcM (seqI (varM 4)) (gN 7) (tV (bin2 ninP (varM 7) (varM 3))) (varM 7) [7]) (lstM nilM))) [some (.tup [.tup ns, .tup es, .tup ds, sh]), y1, none, some (.tup ns), some (.tup es), some (.tup ds), some sh, none, none, none, none] S1 = .ok (!es.all fun e => inB e ns) S1 := by
    simp [tV, toB, bin2, lcM, lcI, seqI, srcA, wipeE, M.bind, varM, var, M.pure, cM, M.op2, hlc, hfs, lstM, nilM, l0, hne, M.lift, asB]
  by_cases c1 : (es.all fun e => inB e ns) = true
  case neg =>
    have c1' : (es.all fun e => inB e ns) = false := by simpa using c1
    rw [c1'] at test1
    rw [if_neg c1, seq_take test1]
    simp [two, told, excOf, nl, tupM, consM, nilM, M.bind, cM, M.pure, l2, SR.of]
  rw [c1] at test1
  rw [if_pos c1, seq_skip test1]
  rw [seq_for (items := ds) (by simp [seqI, M.bind, varM, var, M.pure, srcA])]
  rcases deed_loop3 h.nw (some (.tup [.tup ns, .tup es, .tup ds, sh])) y1 none (some (.tup es)) (some (.tup ds)) (some sh) S1 ds none none none none h.dk with ⟨f, ρ, e3, _, e4⟩ | ⟨e3, z7, z8, z9, z10, e4⟩
  · rw [e4, e3, excS_bind, excS_out]
    rfl
  rw [e4, e3]
  simp only [x_sbind_nx]
  unfold shownFault
  cases c2 : isNonD sh with
  | true =>
    rw [seq_take (S' := S1) (by simp [tV, toB, bin2, M.bind, varM, var, M.pure, cM, M.op2, is_non, c2, M.lift, asB])]
    rfl
  | false =>
    rw [seq_skip (S' := S1) (by simp [tV, toB, bin2, M.bind, varM, var, M.pure, cM, M.op2, is_non, c2, M.lift, asB])]
    have hl5 : lcL (fun _ => true) (gN 1) (tV (bin2 eqP (bin2 ixP (varM 1) (cM (.int 0))) (varM 6))) (varM 1) [some (.tup [.tup ns, .tup es, .tup ds, sh]), none, none, some (.tup ns), some (.tup es), some (.tup ds), some sh, z7, z8, z9, z10] ds S1 = .ok (shownOf ds sh) S1 := by
      have := lc_filter (g := gN 1) (mt := tV (bin2 eqP (bin2 ixP (varM 1) (cM (.int 0))) (varM 6))) (me := varM 1) (ρ := [some (.tup [.tup ns, .tup es, .tup ds, sh]), none, none, some (.tup ns), some (.tup es), some (.tup ds), some sh, z7, z8, z9, z10]) (S := S1) (f := fun d => eqB (firstD d) sh) (h := id) (ds := ds) (fun d hd => ⟨_, rfl, by
        obtain ⟨nm, b, e, p, rfl, k1, k2, k3, k4, _⟩ := h.dk d hd
        have i0 : ∀ S, ixP S (.tup [nm, b, e, p]) (.int 0) = some nm := fun S => at_0 _ _
        have e1 := eq_sh S1 k1 h.hs
        simp [tV, toB, bin2, M.bind, varM, var, M.pure, cM, M.op2, i0, e1, M.lift, asB, firstD], fun _ => rfl⟩)
      rw [List.map_id] at this
      exact this
    have hsl : (shownOf ds sh).length ≤ sizeLine := Nat.le_trans (List.length_filter_le _ _) (len_ok _ (by have := h.dl; omega))
    have sdk : ∀ d ∈ shownOf ds sh, DeedK n d := fun d hd => h.dk d (List.mem_filter.mp hd).1
    have heq := eq_nil_l S1 (n := n + 1) (ds := shownOf ds sh) (by omega) (fun d hd => deed_pl (sdk d hd))
    rw [seq_set (d := .lst (shownOf ds sh)) (S' := S1) (by simp [lcM, lcI, seqI, srcA, wipeE, M.bind, varM, var, M.pure, hl5, hsl])]
    simp only [List.set]
    have hsw : WordD sh := by
      rcases h.hs with rfl | hs
      · cases c2
      · exact hs
    cases hq : shownOf ds sh with
    | nil =>
      rw [hq] at heq
      rw [seq_take (S' := S1) (by simp [tV, toB, bin2, M.bind, varM, var, M.pure, cM, M.op2, lstM, nilM, l0, heq, M.lift, asB])]
      simp [two, told, excOf, nl, tupM, consM, nilM, M.bind, cM, M.pure, l2, SR.of]
    | cons d0 rest =>
      rw [hq] at heq
      obtain ⟨nm, b, e, p, rfl, k1, k2, k3, k4, _⟩ := sdk d0 (by rw [hq]; simp)
      rw [seq_skip (S' := S1) (by simp [tV, toB, bin2, M.bind, varM, var, M.pure, cM, M.op2, lstM, nilM, l0, heq, M.lift, asB])]
      obtain ⟨n0, hn0, hn1⟩ := at_first h.n0 h.nw
      have hd : ns.headD .non = n0 := by
        cases hns : ns with
        | nil => exact absurd hns h.n0
        | cons a r =>
          rw [hns, at_0] at hn0
          exact Option.some.inj hn0
      rw [hd]
      have j0 : ∀ S, ixP S (.lst (.tup [nm, b, e, p] :: rest)) (.int 0) = some (.tup [nm, b, e, p]) := fun S => at_0 _ _
      have j1 : ∀ S, ixP S (.tup [nm, b, e, p]) (.int 1) = some b := fun S => at_1 _ _ _
      have j2 : ∀ S, ixP S (.tup [nm, b, e, p]) (.int 2) = some e := fun S => at_2 _ _ _ _
      have j3 : ∀ S, ixP S (.tup ns) (.int 0) = some n0 := fun S => hn0
      have e5 := fun S => (eq_run S k2 hn1).2
      have e6 := fun S => (in_run S k3 h.ew).2
      cases c3 : eqB b n0 with
      | false =>
        simp [two, told, excOf, nl, orM, tV, toB, bin2, M.bind, varM, var, M.pure, cM, M.op2, j0, j1, j2, j3, e5, c3, M.lift, asB, tupM, consM, nilM, l2, SR.of, SR.bind]
      | true =>
        cases c4 : inB e es with
        | false =>
          simp [two, told, excOf, nl, orM, tV, toB, bin2, M.bind, varM, var, M.pure, cM, M.op2, j0, j1, j2, j3, e5, c3, e6, c4, M.lift, asB, tupM, consM, nilM, l2, SR.of, SR.bind]
        | true =>
          simp [two, told, excOf, nl, orM, tV, toB, bin2, M.bind, varM, var, M.pure, cM, M.op2, j0, j1, j2, j3, e5, c3, e6, c4, M.lift, asB, tupM, consM, nilM, l2, SR.of, SR.bind]
end PyM
set_option Elab.async false
set_option linter.all false
set_option maxRecDepth 100000
set_option maxHeartbeats 8000000
namespace PyM
open PySem PySem.Spec PyProof.Rows L2
/-! ### prices that are prices -/
@[simp] theorem kn_barred_money : (Str.ofString "barred" = Str.ofString "money") = False := eq_false (by decide +kernel)
@[simp] theorem kn_barred_each : (Str.ofString "barred" = Str.ofString "each") = False := eq_false (by decide +kernel)
@[simp] theorem kn_barred_packs : (Str.ofString "barred" = Str.ofString "packs") = False := eq_false (by decide +kernel)
@[simp] theorem kn_barred_full : (Str.ofString "barred" = Str.ofString "full") = False := eq_false (by decide +kernel)
@[simp] theorem kn_barred_greatest : (Str.ofString "barred" = Str.ofString "greatest") = False := eq_false (by decide +kernel)
@[simp] theorem kn_barred_least : (Str.ofString "barred" = Str.ofString "least") = False := eq_false (by decide +kernel)
@[simp] theorem kn_barred_less : (Str.ofString "barred" = Str.ofString "less") = False := eq_false (by decide +kernel)
@[simp] theorem kn_barred_plus : (Str.ofString "barred" = Str.ofString "plus") = False := eq_false (by decide +kernel)
@[simp] theorem kn_barred_from : (Str.ofString "barred" = Str.ofString "from") = False := eq_false (by decide +kernel)
@[simp] theorem kn_barred_share : (Str.ofString "barred" = Str.ofString "share") = False := eq_false (by decide +kernel)
@[simp] theorem kn_barred_above : (Str.ofString "barred" = Str.ofString "above") = False := eq_false (by decide +kernel)
@[simp] theorem kn_money_barred : (Str.ofString "money" = Str.ofString "barred") = False := eq_false (by decide +kernel)
@[simp] theorem kn_money_each : (Str.ofString "money" = Str.ofString "each") = False := eq_false (by decide +kernel)
@[simp] theorem kn_money_packs : (Str.ofString "money" = Str.ofString "packs") = False := eq_false (by decide +kernel)
@[simp] theorem kn_money_full : (Str.ofString "money" = Str.ofString "full") = False := eq_false (by decide +kernel)
@[simp] theorem kn_money_greatest : (Str.ofString "money" = Str.ofString "greatest") = False := eq_false (by decide +kernel)
@[simp] theorem kn_money_least : (Str.ofString "money" = Str.ofString "least") = False := eq_false (by decide +kernel)
@[simp] theorem kn_money_less : (Str.ofString "money" = Str.ofString "less") = False := eq_false (by decide +kernel)
@[simp] theorem kn_money_plus : (Str.ofString "money" = Str.ofString "plus") = False := eq_false (by decide +kernel)
@[simp] theorem kn_money_from : (Str.ofString "money" = Str.ofString "from") = False := eq_false (by decide +kernel)
@[simp] theorem kn_money_share : (Str.ofString "money" = Str.ofString "share") = False := eq_false (by decide +kernel)
@[simp] theorem kn_money_above : (Str.ofString "money" = Str.ofString "above") = False := eq_false (by decide +kernel)
@[simp] theorem kn_each_barred : (Str.ofString "each" = Str.ofString "barred") = False := eq_false (by decide +kernel)
@[simp] theorem kn_each_money : (Str.ofString "each" = Str.ofString "money") = False := eq_false (by decide +kernel)
@[simp] theorem kn_each_packs : (Str.ofString "each" = Str.ofString "packs") = False := eq_false (by decide +kernel)
@[simp] theorem kn_each_full : (Str.ofString "each" = Str.ofString "full") = False := eq_false (by decide +kernel)
@[simp] theorem kn_each_greatest : (Str.ofString "each" = Str.ofString "greatest") = False := eq_false (by decide +kernel)
@[simp] theorem kn_each_least : (Str.ofString "each" = Str.ofString "least") = False := eq_false (by decide +kernel)
@[simp] theorem kn_each_less : (Str.ofString "each" = Str.ofString "less") = False := eq_false (by decide +kernel)
@[simp] theorem kn_each_plus : (Str.ofString "each" = Str.ofString "plus") = False := eq_false (by decide +kernel)
@[simp] theorem kn_each_from : (Str.ofString "each" = Str.ofString "from") = False := eq_false (by decide +kernel)
@[simp] theorem kn_each_share : (Str.ofString "each" = Str.ofString "share") = False := eq_false (by decide +kernel)
@[simp] theorem kn_each_above : (Str.ofString "each" = Str.ofString "above") = False := eq_false (by decide +kernel)
@[simp] theorem kn_packs_barred : (Str.ofString "packs" = Str.ofString "barred") = False := eq_false (by decide +kernel)
@[simp] theorem kn_packs_money : (Str.ofString "packs" = Str.ofString "money") = False := eq_false (by decide +kernel)
@[simp] theorem kn_packs_each : (Str.ofString "packs" = Str.ofString "each") = False := eq_false (by decide +kernel)
@[simp] theorem kn_packs_full : (Str.ofString "packs" = Str.ofString "full") = False := eq_false (by decide +kernel)
@[simp] theorem kn_packs_greatest : (Str.ofString "packs" = Str.ofString "greatest") = False := eq_false (by decide +kernel)
@[simp] theorem kn_packs_least : (Str.ofString "packs" = Str.ofString "least") = False := eq_false (by decide +kernel)
@[simp] theorem kn_packs_less : (Str.ofString "packs" = Str.ofString "less") = False := eq_false (by decide +kernel)
@[simp] theorem kn_packs_plus : (Str.ofString "packs" = Str.ofString "plus") = False := eq_false (by decide +kernel)
@[simp] theorem kn_packs_from : (Str.ofString "packs" = Str.ofString "from") = False := eq_false (by decide +kernel)
@[simp] theorem kn_packs_share : (Str.ofString "packs" = Str.ofString "share") = False := eq_false (by decide +kernel)
@[simp] theorem kn_packs_above : (Str.ofString "packs" = Str.ofString "above") = False := eq_false (by decide +kernel)
@[simp] theorem kn_full_barred : (Str.ofString "full" = Str.ofString "barred") = False := eq_false (by decide +kernel)
@[simp] theorem kn_full_money : (Str.ofString "full" = Str.ofString "money") = False := eq_false (by decide +kernel)
@[simp] theorem kn_full_each : (Str.ofString "full" = Str.ofString "each") = False := eq_false (by decide +kernel)
@[simp] theorem kn_full_packs : (Str.ofString "full" = Str.ofString "packs") = False := eq_false (by decide +kernel)
@[simp] theorem kn_full_greatest : (Str.ofString "full" = Str.ofString "greatest") = False := eq_false (by decide +kernel)
@[simp] theorem kn_full_least : (Str.ofString "full" = Str.ofString "least") = False := eq_false (by decide +kernel)
@[simp] theorem kn_full_less : (Str.ofString "full" = Str.ofString "less") = False := eq_false (by decide +kernel)
@[simp] theorem kn_full_plus : (Str.ofString "full" = Str.ofString "plus") = False := eq_false (by decide +kernel)
@[simp] theorem kn_full_from : (Str.ofString "full" = Str.ofString "from") = False := eq_false (by decide +kernel)
@[simp] theorem kn_full_share : (Str.ofString "full" = Str.ofString "share") = False := eq_false (by decide +kernel)
@[simp] theorem kn_full_above : (Str.ofString "full" = Str.ofString "above") = False := eq_false (by decide +kernel)
@[simp] theorem kn_greatest_barred : (Str.ofString "greatest" = Str.ofString "barred") = False := eq_false (by decide +kernel)
@[simp] theorem kn_greatest_money : (Str.ofString "greatest" = Str.ofString "money") = False := eq_false (by decide +kernel)
@[simp] theorem kn_greatest_each : (Str.ofString "greatest" = Str.ofString "each") = False := eq_false (by decide +kernel)
@[simp] theorem kn_greatest_packs : (Str.ofString "greatest" = Str.ofString "packs") = False := eq_false (by decide +kernel)
@[simp] theorem kn_greatest_full : (Str.ofString "greatest" = Str.ofString "full") = False := eq_false (by decide +kernel)
@[simp] theorem kn_greatest_least : (Str.ofString "greatest" = Str.ofString "least") = False := eq_false (by decide +kernel)
@[simp] theorem kn_greatest_less : (Str.ofString "greatest" = Str.ofString "less") = False := eq_false (by decide +kernel)
@[simp] theorem kn_greatest_plus : (Str.ofString "greatest" = Str.ofString "plus") = False := eq_false (by decide +kernel)
@[simp] theorem kn_greatest_from : (Str.ofString "greatest" = Str.ofString "from") = False := eq_false (by decide +kernel)
@[simp] theorem kn_greatest_share : (Str.ofString "greatest" = Str.ofString "share") = False := eq_false (by decide +kernel)
@[simp] theorem kn_greatest_above : (Str.ofString "greatest" = Str.ofString "above") = False := eq_false (by decide +kernel)
@[simp] theorem kn_least_barred : (Str.ofString "least" = Str.ofString "barred") = False := eq_false (by decide +kernel)
@[simp] theorem kn_least_money : (Str.ofString "least" = Str.ofString "money") = False := eq_false (by decide +kernel)
@[simp] theorem kn_least_each : (Str.ofString "least" = Str.ofString "each") = False := eq_false (by decide +kernel)
@[simp] theorem kn_least_packs : (Str.ofString "least" = Str.ofString "packs") = False := eq_false (by decide +kernel)
@[simp] theorem kn_least_full : (Str.ofString "least" = Str.ofString "full") = False := eq_false (by decide +kernel)
@[simp] theorem kn_least_greatest : (Str.ofString "least" = Str.ofString "greatest") = False := eq_false (by decide +kernel)
@[simp] theorem kn_least_less : (Str.ofString "least" = Str.ofString "less") = False := eq_false (by decide +kernel)
@[simp] theorem kn_least_plus : (Str.ofString "least" = Str.ofString "plus") = False := eq_false (by decide +kernel)
@[simp] theorem kn_least_from : (Str.ofString "least" = Str.ofString "from") = False := eq_false (by decide +kernel)
@[simp] theorem kn_least_share : (Str.ofString "least" = Str.ofString "share") = False := eq_false (by decide +kernel)
@[simp] theorem kn_least_above : (Str.ofString "least" = Str.ofString "above") = False := eq_false (by decide +kernel)
@[simp] theorem kn_less_barred : (Str.ofString "less" = Str.ofString "barred") = False := eq_false (by decide +kernel)
@[simp] theorem kn_less_money : (Str.ofString "less" = Str.ofString "money") = False := eq_false (by decide +kernel)
@[simp] theorem kn_less_each : (Str.ofString "less" = Str.ofString "each") = False := eq_false (by decide +kernel)
@[simp] theorem kn_less_packs : (Str.ofString "less" = Str.ofString "packs") = False := eq_false (by decide +kernel)
@[simp] theorem kn_less_full : (Str.ofString "less" = Str.ofString "full") = False := eq_false (by decide +kernel)
@[simp] theorem kn_less_greatest : (Str.ofString "less" = Str.ofString "greatest") = False := eq_false (by decide +kernel)
@[simp] theorem kn_less_least : (Str.ofString "less" = Str.ofString "least") = False := eq_false (by decide +kernel)
@[simp] theorem kn_less_plus : (Str.ofString "less" = Str.ofString "plus") = False := eq_false (by decide +kernel)
@[simp] theorem kn_less_from : (Str.ofString "less" = Str.ofString "from") = False := eq_false (by decide +kernel)
@[simp] theorem kn_less_share : (Str.ofString "less" = Str.ofString "share") = False := eq_false (by decide +kernel)
@[simp] theorem kn_less_above : (Str.ofString "less" = Str.ofString "above") = False := eq_false (by decide +kernel)
@[simp] theorem kn_plus_barred : (Str.ofString "plus" = Str.ofString "barred") = False := eq_false (by decide +kernel)
@[simp] theorem kn_plus_money : (Str.ofString "plus" = Str.ofString "money") = False := eq_false (by decide +kernel)
@[simp] theorem kn_plus_each : (Str.ofString "plus" = Str.ofString "each") = False := eq_false (by decide +kernel)
@[simp] theorem kn_plus_packs : (Str.ofString "plus" = Str.ofString "packs") = False := eq_false (by decide +kernel)
@[simp] theorem kn_plus_full : (Str.ofString "plus" = Str.ofString "full") = False := eq_false (by decide +kernel)
@[simp] theorem kn_plus_greatest : (Str.ofString "plus" = Str.ofString "greatest") = False := eq_false (by decide +kernel)
@[simp] theorem kn_plus_least : (Str.ofString "plus" = Str.ofString "least") = False := eq_false (by decide +kernel)
@[simp] theorem kn_plus_less : (Str.ofString "plus" = Str.ofString "less") = False := eq_false (by decide +kernel)
@[simp] theorem kn_plus_from : (Str.ofString "plus" = Str.ofString "from") = False := eq_false (by decide +kernel)
@[simp] theorem kn_plus_share : (Str.ofString "plus" = Str.ofString "share") = False := eq_false (by decide +kernel)
@[simp] theorem kn_plus_above : (Str.ofString "plus" = Str.ofString "above") = False := eq_false (by decide +kernel)
@[simp] theorem kn_from_barred : (Str.ofString "from" = Str.ofString "barred") = False := eq_false (by decide +kernel)
@[simp] theorem kn_from_money : (Str.ofString "from" = Str.ofString "money") = False := eq_false (by decide +kernel)
@[simp] theorem kn_from_each : (Str.ofString "from" = Str.ofString "each") = False := eq_false (by decide +kernel)
@[simp] theorem kn_from_packs : (Str.ofString "from" = Str.ofString "packs") = False := eq_false (by decide +kernel)
@[simp] theorem kn_from_full : (Str.ofString "from" = Str.ofString "full") = False := eq_false (by decide +kernel)
@[simp] theorem kn_from_greatest : (Str.ofString "from" = Str.ofString "greatest") = False := eq_false (by decide +kernel)
@[simp] theorem kn_from_least : (Str.ofString "from" = Str.ofString "least") = False := eq_false (by decide +kernel)
@[simp] theorem kn_from_less : (Str.ofString "from" = Str.ofString "less") = False := eq_false (by decide +kernel)
@[simp] theorem kn_from_plus : (Str.ofString "from" = Str.ofString "plus") = False := eq_false (by decide +kernel)
@[simp] theorem kn_from_share : (Str.ofString "from" = Str.ofString "share") = False := eq_false (by decide +kernel)
@[simp] theorem kn_from_above : (Str.ofString "from" = Str.ofString "above") = False := eq_false (by decide +kernel)
@[simp] theorem kn_share_barred : (Str.ofString "share" = Str.ofString "barred") = False := eq_false (by decide +kernel)
@[simp] theorem kn_share_money : (Str.ofString "share" = Str.ofString "money") = False := eq_false (by decide +kernel)
@[simp] theorem kn_share_each : (Str.ofString "share" = Str.ofString "each") = False := eq_false (by decide +kernel)
@[simp] theorem kn_share_packs : (Str.ofString "share" = Str.ofString "packs") = False := eq_false (by decide +kernel)
@[simp] theorem kn_share_full : (Str.ofString "share" = Str.ofString "full") = False := eq_false (by decide +kernel)
@[simp] theorem kn_share_greatest : (Str.ofString "share" = Str.ofString "greatest") = False := eq_false (by decide +kernel)
@[simp] theorem kn_share_least : (Str.ofString "share" = Str.ofString "least") = False := eq_false (by decide +kernel)
@[simp] theorem kn_share_less : (Str.ofString "share" = Str.ofString "less") = False := eq_false (by decide +kernel)
@[simp] theorem kn_share_plus : (Str.ofString "share" = Str.ofString "plus") = False := eq_false (by decide +kernel)
@[simp] theorem kn_share_from : (Str.ofString "share" = Str.ofString "from") = False := eq_false (by decide +kernel)
@[simp] theorem kn_share_above : (Str.ofString "share" = Str.ofString "above") = False := eq_false (by decide +kernel)
@[simp] theorem kn_above_barred : (Str.ofString "above" = Str.ofString "barred") = False := eq_false (by decide +kernel)
@[simp] theorem kn_above_money : (Str.ofString "above" = Str.ofString "money") = False := eq_false (by decide +kernel)
@[simp] theorem kn_above_each : (Str.ofString "above" = Str.ofString "each") = False := eq_false (by decide +kernel)
@[simp] theorem kn_above_packs : (Str.ofString "above" = Str.ofString "packs") = False := eq_false (by decide +kernel)
@[simp] theorem kn_above_full : (Str.ofString "above" = Str.ofString "full") = False := eq_false (by decide +kernel)
@[simp] theorem kn_above_greatest : (Str.ofString "above" = Str.ofString "greatest") = False := eq_false (by decide +kernel)
@[simp] theorem kn_above_least : (Str.ofString "above" = Str.ofString "least") = False := eq_false (by decide +kernel)
@[simp] theorem kn_above_less : (Str.ofString "above" = Str.ofString "less") = False := eq_false (by decide +kernel)
@[simp] theorem kn_above_plus : (Str.ofString "above" = Str.ofString "plus") = False := eq_false (by decide +kernel)
@[simp] theorem kn_above_from : (Str.ofString "above" = Str.ofString "from") = False := eq_false (by decide +kernel)
@[simp] theorem kn_above_share : (Str.ofString "above" = Str.ofString "share") = False := eq_false (by decide +kernel)
structure GP (n w : Nat) (p : D) : Prop where
  v : ValL 405 (n + 1) p
  t : isTupD p = true
  b : ∀ k, n < k → priceB k p = true
  s : ShD (n + 1) w p
theorem GP.mono {n m w u : Nat} {p : D} (h : GP n w p) (hn : n ≤ m) (hw : w ≤ u) : GP m u p :=
  ⟨h.v.mono (by omega), h.t, fun k hk => h.b k (by omega), h.s.mono (by omega) hw⟩
theorem sl1 {n w W : Nat} {d : D} {ds : List D} (h : ShD n w d) (t : ShL n ds W) : ShL n (d :: ds) (w + 2 + W) := .cons h t
theorem gp_leaf {x : Str} {i : Int} (hx : x = "money" ∨ x = "each") (hi : i ∈ numsL) (hb : moneyB (.int i) = true) : GP 0 60 (.tup [.str x, .int i]) := by
  have hw : x ∈ words := by rcases hx with rfl | rfl <;> decide
  refine ⟨val_tup (by simp) fun e he => ?_, rfl, fun k hk => ?_, ?_⟩
  · simp only [List.mem_cons, List.not_mem_nil, or_false] at he
    rcases he with rfl | rfl
    · exact flat_str hw
    · exact flat_int _ hi
  · obtain ⟨j, rfl⟩ : ∃ j, k = j + 1 := ⟨k - 1, by omega⟩
    rcases hx with rfl | rfl <;> simpa [priceB] using hb
  · exact (sh_tup (.cons (sh_flat (flat_str hw) 0) (.cons (sh_flat (flat_int _ hi) 0) .nil))).mono (by omega) (by omega)
theorem gp_leaf3 {x : Str} {a i : Int} (hx : x = "packs" ∨ x = "full") (ha : a ∈ numsL) (hi : i ∈ numsL) (hc : wholeB 2 60 (.int a) = true) (hb : moneyB (.int i) = true) : GP 0 80 (.tup [.str x, .int a, .int i]) := by
  have hw : x ∈ words := by rcases hx with rfl | rfl <;> decide
  refine ⟨val_tup (by simp) fun e he => ?_, rfl, fun k hk => ?_, ?_⟩
  · simp only [List.mem_cons, List.not_mem_nil, or_false] at he
    rcases he with rfl | rfl | rfl
    · exact flat_str hw
    · exact flat_int _ ha
    · exact flat_int _ hi
  · obtain ⟨j, rfl⟩ : ∃ j, k = j + 1 := ⟨k - 1, by omega⟩
    have hbc : (wholeB 2 60 (.int a) && moneyB (.int i)) = true := by rw [hc, hb]; rfl
    rcases hx with rfl | rfl <;> simpa [priceB] using hbc
  · exact (sh_tup (.cons (sh_flat (flat_str hw) 0) (.cons (sh_flat (flat_int _ ha) 0) (.cons (sh_flat (flat_int _ hi) 0) .nil)))).mono (by omega) (by omega)
theorem gp_barred : GP 0 60 (.tup [.str "barred"]) := by
  have hw : ("barred" : Str) ∈ words := by decide
  refine ⟨val_tup (by simp) fun e he => ?_, rfl, fun k hk => ?_, ?_⟩
  · simp only [List.mem_cons, List.not_mem_nil, or_false] at he
    subst he
    exact flat_str hw
  · obtain ⟨j, rfl⟩ : ∃ j, k = j + 1 := ⟨k - 1, by omega⟩
    simp [priceB]
  · exact (sh_tup (.cons (sh_flat (flat_str hw) 0) .nil)).mono (by omega) (by omega)
theorem gp_bin {x : Str} {n w u : Nat} {p q : D} (hx : x = "plus" ∨ x = "less" ∨ x = "least" ∨ x = "greatest") (hp : GP n w p) (hq : GP n u q) : GP (n + 1) (w + u + 40) (.tup [.str x, p, q]) := by
  have hw : x ∈ words := by rcases hx with rfl | rfl | rfl | rfl <;> decide
  refine ⟨val_tup (by simp) fun e he => ?_, rfl, fun k hk => ?_, ?_⟩
  · simp only [List.mem_cons, List.not_mem_nil, or_false] at he
    rcases he with rfl | rfl | rfl
    · exact (flat_str hw).val _
    · exact hp.v
    · exact hq.v
  · obtain ⟨j, rfl⟩ : ∃ j, k = j + 1 := ⟨k - 1, by omega⟩
    have h1 := hp.b j (by omega)
    have h2 := hq.b j (by omega)
    rcases hx with rfl | rfl | rfl | rfl <;> simp [priceB, h1, h2]
  · exact (sh_tup (.cons (sh_flat (flat_str hw) (n + 1)) (.cons hp.s (.cons hq.s .nil)))).mono (by omega) (by omega)
theorem gp_from {a : Int} {n w u : Nat} {p q : D} (ha : a ∈ numsL) (hc : wholeB 1 200 (.int a) = true) (hp : GP n w p) (hq : GP n u q) : GP (n + 1) (w + u + 60) (.tup [.str "from", .int a, p, q]) := by
  have hw : ("from" : Str) ∈ words := by decide
  refine ⟨val_tup (by simp) fun e he => ?_, rfl, fun k hk => ?_, ?_⟩
  · simp only [List.mem_cons, List.not_mem_nil, or_false] at he
    rcases he with rfl | rfl | rfl | rfl
    · exact (flat_str hw).val _
    · exact (flat_int _ ha).val _
    · exact hp.v
    · exact hq.v
  · obtain ⟨j, rfl⟩ : ∃ j, k = j + 1 := ⟨k - 1, by omega⟩
    have h1 := hp.b j (by omega)
    have h2 := hq.b j (by omega)
    simp [priceB, hc, h1, h2]
  · exact (sh_tup (.cons (sh_flat (flat_str hw) (n + 1)) (.cons (sh_flat (flat_int _ ha) (n + 1)) (.cons hp.s (.cons hq.s .nil))))).mono (by omega) (by omega)
theorem gp_share {a c : Int} {z : Str} {n w : Nat} {p : D} (ha : a ∈ numsL) (hc : c ∈ numsL) (ha2 : wholeB 0 999 (.int a) = true) (hc2 : wholeB 1 1000 (.int c) = true) (hz : z = "down" ∨ z = "half" ∨ z = "up") (hp : GP n w p) : GP (n + 1) (w + 100) (.tup [.str "share", p, .int a, .int c, .str z]) := by
  have hw : ("share" : Str) ∈ words := by decide
  have hzw : z ∈ words := by rcases hz with rfl | rfl | rfl <;> decide
  have hzz : wayB (.str z) = true := by rcases hz with rfl | rfl | rfl <;> decide +kernel
  refine ⟨val_tup (by simp) fun e he => ?_, rfl, fun k hk => ?_, ?_⟩
  · simp only [List.mem_cons, List.not_mem_nil, or_false] at he
    rcases he with rfl | rfl | rfl | rfl | rfl
    · exact (flat_str hw).val _
    · exact hp.v
    · exact (flat_int _ ha).val _
    · exact (flat_int _ hc).val _
    · exact (flat_str hzw).val _
  · obtain ⟨j, rfl⟩ : ∃ j, k = j + 1 := ⟨k - 1, by omega⟩
    have h1 := hp.b j (by omega)
    simp [priceB, ha2, hc2, h1, hzz]
  · exact (sh_tup (.cons (sh_flat (flat_str hw) (n + 1)) (.cons hp.s (.cons (sh_flat (flat_int _ ha) (n + 1)) (.cons (sh_flat (flat_int _ hc) (n + 1)) (.cons (sh_flat (flat_str hzw) (n + 1)) .nil)))))).mono (by omega) (by omega)
theorem gp_above {m : Int} {n w : Nat} {p q r : D} (hm : m ∈ numsL) (hm2 : moneyB (.int m) = true) (hp : GP n w p) (hq : GP n w q) (hr : GP n w r) : GP (n + 1) (3 * w + 80) (.tup [.str "above", p, .int m, q, r]) := by
  have hw : ("above" : Str) ∈ words := by decide
  refine ⟨val_tup (by simp) fun e he => ?_, rfl, fun k hk => ?_, ?_⟩
  · simp only [List.mem_cons, List.not_mem_nil, or_false] at he
    rcases he with rfl | rfl | rfl | rfl | rfl
    · exact (flat_str hw).val _
    · exact hp.v
    · exact (flat_int _ hm).val _
    · exact hq.v
    · exact hr.v
  · obtain ⟨j, rfl⟩ : ∃ j, k = j + 1 := ⟨k - 1, by omega⟩
    have h1 := hp.b j (by omega)
    have h2 := hq.b j (by omega)
    have h3 := hr.b j (by omega)
    simp [priceB, hm2, h1, h2, h3]
  · exact (sh_tup (.cons (sh_flat (flat_str hw) (n + 1)) (.cons hp.s (.cons (sh_flat (flat_int _ hm) (n + 1)) (.cons hq.s (.cons hr.s .nil)))))).mono (by omega) (by omega)
end PyM
set_option Elab.async false
set_option linter.all false
set_option maxRecDepth 100000
set_option maxHeartbeats 8000000
namespace PyM
open PySem PySem.Spec PyProof.Rows L2
def wt : Nat → Nat
  | 0 => 100
  | n + 1 => 3 * wt n + 200
theorem wt_ge : ∀ n, 100 ≤ wt n
  | 0 => Nat.le_refl _
  | n + 1 => by
    have := wt_ge n
    show _ ≤ 3 * wt n + 200
    omega
/-- prices, deep 0 -/
theorem good_0 (k : Nat) {S R : Store} (h : Bag S R) (deep : Int) (hd : deep ≤ 0) : ∃ d S', m__law_big_price (k + 1) [.loc 0, .int deep] S = .ok d S' ∧ GP 0 100 d ∧ Bag S' R := by
  obtain ⟨v, S1, e1, v0, v1, b1⟩ := take_any (many := 5) h (by decide) (by decide)
  have hgt : decide (0 < deep) = false := decide_eq_false (by omega)
  have hgt' : ¬ (0 < deep) := by omega
  have l2 := len_ok 2 (by decide)
  have l3 := len_ok 3 (by decide)
  have l6 := len_ok 6 (by decide)
  have l1 := len_ok 1 (by decide)
  by_cases c1 : v < 2
  · obtain ⟨x, S2, e2, m2, b2⟩ := some_any (things := .lst [.str "money", .str "each"]) b1 (.inr rfl) (by simp) (by decide)
    obtain ⟨y, S3, e3, m3, b3⟩ := some_any (things := .lst [.int 0, .int 7, .int (-12), .int 1000000, .int (-1000000), .int 45]) b2 (.inr rfl) (by simp) (by decide)
    refine ⟨.tup [x, y], S3, ?_, ?_, b3⟩
    · unfold m__law_big_price
      simp [ifV, toB, bltM, consM, nilM, M.bind, varM, var, M.opL, M.op2, M.op1, M.lift, asB, M.pure, bin2, callM, gtP, ltP, hgt', e1, c1, lstM, l2, l6, e2, e3, un1, neg_int, tupM, SR.of, SR.bind]
    · simp only [List.mem_cons, List.not_mem_nil, or_false] at m2 m3
      have gm2 : ∃ s : Str, x = .str s ∧ (s = "money" ∨ s = "each") := by
        rcases m2 with rfl | rfl <;> exact ⟨_, rfl, by simp⟩
      have gm3 : ∃ i : Int, y = .int i ∧ i ∈ numsL ∧ moneyB (.int i) = true := by
        rcases m3 with rfl | rfl | rfl | rfl | rfl | rfl <;> exact ⟨_, rfl, by decide, by decide⟩
      obtain ⟨s, rfl, hs⟩ := gm2
      obtain ⟨i, rfl, hi, hb⟩ := gm3
      exact (gp_leaf hs hi hb).mono (by omega) (by omega)
  · by_cases c2 : v < 4
    · obtain ⟨x, S2, e2, m2, b2⟩ := some_any (things := .lst [.str "packs", .str "full"]) b1 (.inr rfl) (by simp) (by decide)
      obtain ⟨y, S3, e3, m3, b3⟩ := some_any (things := .lst [.int 2, .int 6, .int 60]) b2 (.inr rfl) (by simp) (by decide)
      obtain ⟨z, S4, e4, m4, b4⟩ := some_any (things := .lst [.int 3, .int (-4), .int 99]) b3 (.inr rfl) (by simp) (by decide)
      refine ⟨.tup [x, y, z], S4, ?_, ?_, b4⟩
      · unfold m__law_big_price
        simp [ifV, toB, bltM, consM, nilM, M.bind, varM, var, M.opL, M.op2, M.op1, M.lift, asB, M.pure, bin2, callM, gtP, ltP, hgt', e1, c1, c2, lstM, l2, l3, e2, e3, e4, un1, neg_int, tupM, SR.of, SR.bind]
      · simp only [List.mem_cons, List.not_mem_nil, or_false] at m2 m3 m4
        have gm2 : ∃ s : Str, x = .str s ∧ (s = "packs" ∨ s = "full") := by
          rcases m2 with rfl | rfl <;> exact ⟨_, rfl, by simp⟩
        have gm3 : ∃ i : Int, y = .int i ∧ i ∈ numsL ∧ wholeB 2 60 (.int i) = true := by
          rcases m3 with rfl | rfl | rfl <;> exact ⟨_, rfl, by decide, by decide⟩
        have gm4 : ∃ i : Int, z = .int i ∧ i ∈ numsL ∧ moneyB (.int i) = true := by
          rcases m4 with rfl | rfl | rfl <;> exact ⟨_, rfl, by decide, by decide⟩
        obtain ⟨s, rfl, hs⟩ := gm2
        obtain ⟨i, rfl, hi, hb⟩ := gm3
        obtain ⟨i2, rfl, hi2, hb2⟩ := gm4
        exact (gp_leaf3 hs hi hi2 hb hb2).mono (by omega) (by omega)
    · have c3 : v = 4 := by omega
      subst c3
      refine ⟨.tup [.str "barred"], S1, ?_, ?_, b1⟩
      · unfold m__law_big_price
        simp [ifV, toB, bltM, consM, nilM, M.bind, varM, var, M.opL, M.op2, M.op1, M.lift, asB, M.pure, bin2, callM, gtP, ltP, hgt', e1, eq_ints, l1, tupM, SR.of, SR.bind]
      · exact gp_barred.mono (by omega) (by omega)



/-- prices of any depth -/
theorem price_good {R : Store} : ∀ (n k : Nat) {S : Store}, Bag S R → n < k → ∃ d S', m__law_big_price k [.loc 0, .int n] S = .ok d S' ∧ GP n (wt n) d ∧ Bag S' R
  | 0, k + 1, S, h, _ => good_0 k h 0 (by decide)
  | n + 1, k + 1, S, h, hk => by
    obtain ⟨v, S1, e1, v0, v1, b1⟩ := take_any (many := 11) h (by decide) (by decide)
    have hgt : (0 : Int) < (n : Int) + 1 := by omega
    have l1 := len_ok 1 (by decide)
    have l2 := len_ok 2 (by decide)
    have l3 := len_ok 3 (by decide)
    have l4 := len_ok 4 (by decide)
    have l5 := len_ok 5 (by decide)
    have l6 := len_ok 6 (by decide)
    by_cases c1 : v < 2
    · obtain ⟨x, S2, e2, m2, b2⟩ := some_any (things := .lst [.str "money", .str "each"]) b1 (.inr rfl) (by simp) (by decide)
      obtain ⟨y, S3, e3, m3, b3⟩ := some_any (things := .lst [.int 0, .int 7, .int (-12), .int 1000000, .int (-1000000), .int 45]) b2 (.inr rfl) (by simp) (by decide)
      refine ⟨.tup [x, y], S3, ?_, ?_, b3⟩
      · unfold m__law_big_price
        simp [ifV, toB, bltM, consM, nilM, M.bind, varM, var, M.opL, M.op2, M.op1, M.lift, asB, M.pure, bin2, callM, gtP, ltP, hgt, e1, c1, lstM, l2, l6, e2, e3, un1, neg_int, tupM, SR.of, SR.bind]
      · simp only [List.mem_cons, List.not_mem_nil, or_false] at m2 m3
        have gm2 : ∃ s : Str, x = .str s ∧ (s = "money" ∨ s = "each") := by
          rcases m2 with rfl | rfl <;> exact ⟨_, rfl, by simp⟩
        have gm3 : ∃ i : Int, y = .int i ∧ i ∈ numsL ∧ moneyB (.int i) = true := by
          rcases m3 with rfl | rfl | rfl | rfl | rfl | rfl <;> exact ⟨_, rfl, by decide, by decide⟩
        obtain ⟨s, rfl, hs⟩ := gm2
        obtain ⟨i, rfl, hi, hb⟩ := gm3
        exact (gp_leaf hs hi hb).mono (by omega) (by have := wt_ge n; show _ ≤ 3 * wt n + 200; omega)
    by_cases c2 : v < 4
    · obtain ⟨x, S2, e2, m2, b2⟩ := some_any (things := .lst [.str "packs", .str "full"]) b1 (.inr rfl) (by simp) (by decide)
      obtain ⟨y, S3, e3, m3, b3⟩ := some_any (things := .lst [.int 2, .int 6, .int 60]) b2 (.inr rfl) (by simp) (by decide)
      obtain ⟨z, S4, e4, m4, b4⟩ := some_any (things := .lst [.int 3, .int (-4), .int 99]) b3 (.inr rfl) (by simp) (by decide)
      refine ⟨.tup [x, y, z], S4, ?_, ?_, b4⟩
      · unfold m__law_big_price
        simp [ifV, toB, bltM, consM, nilM, M.bind, varM, var, M.opL, M.op2, M.op1, M.lift, asB, M.pure, bin2, callM, gtP, ltP, hgt, e1, c1, c2, lstM, l2, l3, e2, e3, e4, un1, neg_int, tupM, SR.of, SR.bind]
      · simp only [List.mem_cons, List.not_mem_nil, or_false] at m2 m3 m4
        have gm2 : ∃ s : Str, x = .str s ∧ (s = "packs" ∨ s = "full") := by
          rcases m2 with rfl | rfl <;> exact ⟨_, rfl, by simp⟩
        have gm3 : ∃ i : Int, y = .int i ∧ i ∈ numsL ∧ wholeB 2 60 (.int i) = true := by
          rcases m3 with rfl | rfl | rfl <;> exact ⟨_, rfl, by decide, by decide⟩
        have gm4 : ∃ i : Int, z = .int i ∧ i ∈ numsL ∧ moneyB (.int i) = true := by
          rcases m4 with rfl | rfl | rfl <;> exact ⟨_, rfl, by decide, by decide⟩
        obtain ⟨s, rfl, hs⟩ := gm2
        obtain ⟨i, rfl, hi, hb⟩ := gm3
        obtain ⟨i2, rfl, hi2, hb2⟩ := gm4
        exact (gp_leaf3 hs hi hi2 hb hb2).mono (by omega) (by have := wt_ge n; show _ ≤ 3 * wt n + 200; omega)
    by_cases c3 : v = 4
    · subst c3
      refine ⟨.tup [.str "barred"], S1, ?_, ?_, b1⟩
      · unfold m__law_big_price
        simp [ifV, toB, bltM, consM, nilM, M.bind, varM, var, M.opL, M.op2, M.op1, M.lift, asB, M.pure, bin2, callM, gtP, ltP, hgt, e1, eq_ints, l1, tupM, SR.of, SR.bind]
      · exact gp_barred.mono (by omega) (by have := wt_ge n; show _ ≤ 3 * wt n + 200; omega)
    obtain ⟨p, S2, ep, vp, b2⟩ := price_good n k b1 (by omega)
    obtain ⟨q, S3, eq, vq, b3⟩ := price_good n k b2 (by omega)
    by_cases c5 : v = 5
    · subst c5
      obtain ⟨x, S4, e4, m4, b4⟩ := some_any (things := .lst [.int 1, .int 12, .int 200]) b3 (.inr rfl) (by simp) (by decide)
      refine ⟨.tup [.str "from", x, p, q], S4, ?_, ?_, b4⟩
      · unfold m__law_big_price
        simp [ifV, toB, bltM, consM, nilM, M.bind, varM, var, M.opL, M.op2, M.op1, M.lift, asB, M.pure, bin2, callM, gtP, ltP, hgt, e1, eq_ints, parM, subP, ep, eq, e4, lstM, l3, l4, tupM, SR.of, SR.bind]
      · simp only [List.mem_cons, List.not_mem_nil, or_false] at m4
        have gm4 : ∃ i : Int, x = .int i ∧ i ∈ numsL ∧ wholeB 1 200 (.int i) = true := by
          rcases m4 with rfl | rfl | rfl <;> exact ⟨_, rfl, by decide, by decide⟩
        obtain ⟨i, rfl, hi, hb⟩ := gm4
        exact (gp_from hi hb vp vq).mono (by omega) (by have := wt_ge n; show _ ≤ 3 * wt n + 200; omega)
    by_cases c6 : v = 6
    · subst c6
      obtain ⟨x, S4, e4, m4, b4⟩ := some_any (things := .lst [.int 0, .int 19, .int 999]) b3 (.inr rfl) (by simp) (by decide)
      obtain ⟨y, S5, e5, m5, b5⟩ := some_any (things := .lst [.int 1, .int 100, .int 1000]) b4 (.inr rfl) (by simp) (by decide)
      obtain ⟨z, S6, e6, m6, b6⟩ := some_any (things := .lst [.str "down", .str "half", .str "up"]) b5 (.inr rfl) (by simp) (by decide)
      refine ⟨.tup [.str "share", p, x, y, z], S6, ?_, ?_, b6⟩
      · unfold m__law_big_price
        simp [ifV, toB, bltM, consM, nilM, M.bind, varM, var, M.opL, M.op2, M.op1, M.lift, asB, M.pure, bin2, callM, gtP, ltP, hgt, e1, eq_ints, parM, subP, ep, eq, e4, e5, e6, lstM, l3, l5, tupM, SR.of, SR.bind]
      · simp only [List.mem_cons, List.not_mem_nil, or_false] at m4 m5 m6
        have gm4 : ∃ i : Int, x = .int i ∧ i ∈ numsL ∧ wholeB 0 999 (.int i) = true := by
          rcases m4 with rfl | rfl | rfl <;> exact ⟨_, rfl, by decide, by decide⟩
        have gm5 : ∃ i : Int, y = .int i ∧ i ∈ numsL ∧ wholeB 1 1000 (.int i) = true := by
          rcases m5 with rfl | rfl | rfl <;> exact ⟨_, rfl, by decide, by decide⟩
        have gm6 : ∃ s : Str, z = .str s ∧ (s = "down" ∨ s = "half" ∨ s = "up") := by
          rcases m6 with rfl | rfl | rfl <;> exact ⟨_, rfl, by simp⟩
        obtain ⟨i, rfl, hi, hb⟩ := gm4
        obtain ⟨i2, rfl, hi2, hb2⟩ := gm5
        obtain ⟨s, rfl, hs⟩ := gm6
        exact (gp_share hi hi2 hb hb2 hs vp).mono (by omega) (by have := wt_ge n; show _ ≤ 3 * wt n + 200; omega)
    by_cases c7 : v = 7
    · subst c7
      obtain ⟨x, S4, e4, m4, b4⟩ := some_any (things := .lst [.int (-5), .int 0, .int 100]) b3 (.inr rfl) (by simp) (by decide)
      obtain ⟨r, S5, er, vr, b5⟩ := price_good n k b4 (by omega)
      refine ⟨.tup [.str "above", p, x, q, r], S5, ?_, ?_, b5⟩
      · unfold m__law_big_price
        simp [ifV, toB, bltM, consM, nilM, M.bind, varM, var, M.opL, M.op2, M.op1, M.lift, asB, M.pure, bin2, callM, gtP, ltP, hgt, e1, eq_ints, parM, subP, ep, eq, e4, er, un1, neg_int, lstM, l3, l5, tupM, SR.of, SR.bind]
      · simp only [List.mem_cons, List.not_mem_nil, or_false] at m4
        have gm4 : ∃ i : Int, x = .int i ∧ i ∈ numsL ∧ moneyB (.int i) = true := by
          rcases m4 with rfl | rfl | rfl <;> exact ⟨_, rfl, by decide, by decide⟩
        obtain ⟨i, rfl, hi, hb⟩ := gm4
        exact (gp_above hi hb vp vq vr).mono (by omega) (by have := wt_ge n; show _ ≤ 3 * wt n + 200; omega)
    obtain ⟨x, S4, e4, m4, b4⟩ := some_any (things := .lst [.str "plus", .str "less", .str "least", .str "greatest"]) b3 (.inr rfl) (by simp) (by decide)
    refine ⟨.tup [x, p, q], S4, ?_, ?_, b4⟩
    · unfold m__law_big_price
      simp [ifV, toB, bltM, consM, nilM, M.bind, varM, var, M.opL, M.op2, M.op1, M.lift, asB, M.pure, bin2, callM, gtP, ltP, hgt, e1, c1, c2, c3, c5, c6, c7, eq_ints, parM, subP, ep, eq, e4, lstM, l3, l4, tupM, SR.of, SR.bind]
    · simp only [List.mem_cons, List.not_mem_nil, or_false] at m4
      have gm4 : ∃ s : Str, x = .str s ∧ (s = "plus" ∨ s = "less" ∨ s = "least" ∨ s = "greatest") := by
        rcases m4 with rfl | rfl | rfl | rfl <;> exact ⟨_, rfl, by simp⟩
      obtain ⟨s, rfl, hs⟩ := gm4
      exact (gp_bin hs vp vq).mono (by omega) (by have := wt_ge n; show _ ≤ 3 * wt n + 200; omega)


end PyM
set_option Elab.async false
set_option linter.all false
set_option maxRecDepth 100000
set_option maxHeartbeats 8000000
namespace PyM
open PySem PySem.Spec PyProof.Rows L2
/-! ### rising and unlike -/
theorem rise_of {α : Type} (k : α → Str) : ∀ l : List α, Asc k l → (l.map k).Nodup → riseB (l.map fun t => .str (k t)) = true
  | [], _, _ => rfl
  | [a], _, _ => rfl
  | a :: b :: r, h, hn => by
    have h' := List.pairwise_cons.mp h
    have hn' := List.nodup_cons.mp hn
    have ih := rise_of k (b :: r) h'.2 hn'.2
    have h1 : strLt (k b) (k a) = false := h'.1 b (by simp)
    have h2 : strLt (k a) (k b) = true := by
      cases q : strLt (k a) (k b) with
      | true => rfl
      | false =>
        have e := strLt_tri q h1
        exact absurd (by rw [e]; simp) hn'.1
    show (ltB (.str (k a)) (.str (k b)) && riseB ((b :: r).map fun t => .str (k t))) = true
    rw [ih]
    have : ltB (.str (k a)) (.str (k b)) = strLt (k a) (k b) := rfl
    rw [this, h2]
    rfl
theorem nodup_of_S : ∀ {xs : List Str}, nodupS xs = true → xs.Nodup
  | [], _ => List.nodup_nil
  | x :: xs, h => by
    unfold nodupS at h
    rw [Bool.and_eq_true] at h
    refine List.nodup_cons.mpr ⟨fun hx => ?_, nodup_of_S h.2⟩
    have : xs.any (· == x) = true := List.any_eq_true.mpr ⟨x, hx, beq_self_eq_true x⟩
    rw [this] at h
    cases h.1
theorem nodup_map_of {α β : Type} (f : α → β) : ∀ {l : List α}, (l.map f).Nodup → l.Nodup
  | [], _ => List.nodup_nil
  | a :: l, h => by
    have h' := List.nodup_cons.mp h
    exact List.nodup_cons.mpr ⟨fun ha => h'.1 (List.mem_map.mpr ⟨a, ha, rfl⟩), nodup_map_of f h'.2⟩
theorem count_nodup : ∀ (xs seen : List Str) (m : Nat), xs.Nodup → (∀ x ∈ xs, x ∉ seen) → countNew seen xs m = m + xs.length
  | [], _, _, _, _ => rfl
  | x :: xs, seen, m, h, hs => by
    have h' := List.nodup_cons.mp h
    have hx : ¬ (seen.any (· == x) = true) := fun z => by
      obtain ⟨y, hy, e⟩ := List.any_eq_true.mp z
      have := eq_of_beq e
      subst this
      exact hs y (by simp) hy
    unfold countNew
    rw [if_neg hx, count_nodup xs _ _ h'.2 (fun y hy hm => by
      rcases List.mem_append.mp hm with hm | hm
      · exact hs y (by simp [hy]) hm
      · rw [List.mem_singleton] at hm
        subst hm
        exact h'.1 hy)]
    simp
    omega
theorem dist_all {ds : List D} (h : ∀ d ∈ ds, isStrD d = true) (hn : ds.Nodup) : distB ds = ds.length := by
  obtain ⟨xs, e1, e2⟩ := strs_all h
  unfold distB
  rw [e1]
  subst e2
  show countNew [] xs 0 = _
  rw [count_nodup xs [] 0 (nodup_map_of _ hn) (by simp)]
  simp
def NameD (d : D) : Prop := WordD d ∧ nameB d = true
theorem sorted_names (S : Store) {d : D} {ds : List D} (hd : asS S d = some ds) (hl : ds.length < 64) (h : ∀ d ∈ ds, WordD d) (hn : ds.Nodup) : ∃ es, sortedP S [d] = some (.lst es) ∧ es.length = ds.length ∧ (∀ d ∈ es, d ∈ ds) ∧ riseB es = true := by
  obtain ⟨xs, e, e2, hw⟩ := strs_of h
  refine ⟨(sortK id xs).map .str, ?_, ?_, ?_, ?_⟩
  · unfold sortedP
    simp [hd, hl, e]
  · rw [List.length_map, (sortK_perm id xs).length_eq, e2, List.length_map]
  · intro d hd
    obtain ⟨x, hx, rfl⟩ := List.mem_map.mp hd
    rw [e2]
    exact List.mem_map.mpr ⟨x, (sortK_perm id xs).mem_iff.mp hx, rfl⟩
  · have hx : xs.Nodup := nodup_map_of D.str (by rw [← e2]; exact hn)
    have := rise_of id (sortK id xs) (sortK_asc id xs) (by
      rw [List.map_id]
      exact (sortK_perm id xs).nodup_iff.mpr hx)
    exact this
theorem sorted_deeds2 {n : Nat} (S : Store) {nms ds : List D} (h : Two (DeedD n) nms ds) (h0 : ds ≠ []) (hl : ds.length < 64) (hnd : ∀ xs : List Str, nms = xs.map .str → nodupS xs = true) : ∃ es, sortedP S [.lst ds] = some (.lst es) ∧ es.length = ds.length ∧ (∀ d ∈ es, d ∈ ds) ∧ riseB (es.map firstD) = true := by
  obtain ⟨ts, e1, e2, e3⟩ := tups_of h
  have hs : strsOf ds = none := by
    cases h with
    | nil => exact absurd rfl h0
    | cons a b => exact strsOf_deed a
  have hn : nodupS (ts.map (·.1)) = true := hnd _ (by rw [e2, List.map_map]; rfl)
  refine ⟨(sortK (·.1) ts).map fun t => .tup (.str t.1 :: t.2), ?_, ?_, ?_, ?_⟩
  · unfold sortedP
    simp [asS, asL, hl, hs, e1, hn]
  · rw [List.length_map, (sortK_perm _ ts).length_eq, e3, List.length_map]
  · intro d hd
    obtain ⟨t, ht, rfl⟩ := List.mem_map.mp hd
    rw [e3]
    exact List.mem_map.mpr ⟨t, (sortK_perm _ ts).mem_iff.mp ht, rfl⟩
  · rw [List.map_map]
    exact rise_of (fun t : Str × List D => t.1) _ (sortK_asc _ ts) (((sortK_perm _ ts).map _).nodup_iff.mpr (nodup_of_S hn))
theorem Two.imp {α β : Type} {B C : α → β → Prop} (h : ∀ a b, B a b → C a b) : ∀ {as : List α} {bs : List β}, Two B as bs → Two C as bs
  | _, _, .nil => .nil
  | _, _, .cons a t => .cons (h _ _ a) (t.imp h)
/-- mixed, and so many of them, all unlike -/
theorem mixed_cut2 {S R : Store} {ds : List D} {m : Int} (hb : Bag S R) (h0 : ds ≠ []) (hl : ds.length ≤ 50) (hm : m = ds.length) (hn : ds.Nodup) :
    ∃ n l v ns S1 S2, m__law_mixed [.loc 0, .lst ds] S = .ok (.loc n) S1 ∧ m__law_take [.loc 0, .int m] S1 = .ok (.int v) S2 ∧ slP S2 (.loc n) none (some (1 + v)) = some (.lst ns) ∧
      ns ≠ [] ∧ ns.length ≤ ds.length ∧ (∀ d ∈ ns, d ∈ ds) ∧ ns.Nodup ∧ Bag S2 (R ++ [.lst l]) := by
  have hpos : 0 < ds.length := List.length_pos_iff.mpr h0
  obtain ⟨l, S1, e1, p, b1⟩ := mixed_any hb hl
  obtain ⟨v, S2, e2, v0, v1, b2⟩ := take_any (many := m) b1 (by omega) (by omega)
  obtain ⟨j, rfl⟩ : ∃ j : Nat, v = (j : Int) := ⟨v.toNat, by omega⟩
  have hg : S2[R.length + 1]? = some (.lst l) := by
    rw [bag_get b2]
    exact last_get R _
  have hsl : slP S2 (.loc (R.length + 1)) none (some (1 + (j : Int))) = some (.lst (l.take (1 + j))) := by
    have e : (1 + (j : Int)) = ((1 + j : Nat) : Int) := by omega
    rw [e]
    unfold slP asS asL
    simp [hg, ← cut_take]
  have hll := p.length_eq
  refine ⟨_, l, _, l.take (1 + j), S1, S2, e1, e2, hsl, ?_, ?_, ?_, ?_, b2⟩
  · intro z
    have := congrArg List.length z
    rw [List.length_take, List.length_nil] at this
    omega
  · rw [List.length_take]
    omega
  · exact fun d hd => p.mem_iff.mp (List.mem_of_mem_take hd)
  · exact (p.nodup_iff.mpr hn).sublist (List.take_sublist _ _)
/-! ### good shops -/
structure DeedG (n w : Nat) (nm d : D) : Prop where
  ex : ∃ x b e p, nm = .str x ∧ x ∈ words ∧ nameB (.str x) = true ∧ d = .tup [.str x, b, e, p] ∧ NameD b ∧ NameD e ∧ GP n w p
theorem DeedG.dd {n w : Nat} {nm d : D} (h : DeedG n w nm d) : DeedD (n + 1) nm d := by
  obtain ⟨x, b, e, p, h1, h2, h3, h4, h5, h6, h7⟩ := h.ex
  exact ⟨x, b, e, p, h1, h2, h4, h5.1, h6.1, h7.v⟩
theorem some_of {S R : Store} {names : List D} (h : Bag S R) (h0 : names ≠ []) (hl : names.length < 1000) (hw : ∀ d ∈ names, NameD d) : ∃ d S', m__law_some [.loc 0, .tup names] S = .ok d S' ∧ NameD d ∧ Bag S' R := by
  obtain ⟨d, S', e, m, b⟩ := some_any (things := .tup names) h (.inl rfl) h0 (by omega)
  exact ⟨d, S', e, hw d m, b⟩
theorem deeds_good {R : Store} {names ends : List D} {items : List D} (h0 : names ≠ []) (hl : names.length < 1000) (hw : ∀ d ∈ names, NameD d) (hi : ∀ d ∈ items, NameD d) {S : Store} (hb : Bag S R) :
    ∃ ys S', lcL (fun _ => true) (gN 5) yesT (tupM (consM (varM 5) (consM (callM 2 m__law_some (consM (varM 0) (consM (varM 1) nilM))) (consM (callM 2 m__law_some (consM (varM 0) (consM (varM 1) nilM))) (consM (callM 2 (m__law_big_price 20) (consM (varM 0) (consM (cM (.int 2)) nilM))) nilM)))))
      [some (.loc 0), some (.tup names), some (.tup ends), none, none, none, none, none, none] items S = .ok ys S' ∧ Two (DeedG 2 (wt 2)) items ys ∧ Bag S' R := by
  have l4 := len_ok 4 (by decide)
  refine lc_map (I := fun S => Bag S R) hb fun d hd S hS => ⟨_, rfl, ?_⟩
  obtain ⟨⟨x, hx, rfl⟩, hxn⟩ := hi d hd
  obtain ⟨b, S1, e1, w1, b1⟩ := some_of hS h0 hl hw
  obtain ⟨e, S2, e2, w2, b2⟩ := some_of b1 h0 hl hw
  obtain ⟨p, S3, e3, v3, b3⟩ := price_good 2 20 b2 (by decide)
  refine ⟨.tup [.str x, b, e, p], S3, ?_, ⟨x, b, e, p, rfl, hx, hxn, rfl, w1, w2, v3⟩, b3⟩
  simp [gN, tupM, consM, nilM, M.bind, varM, var, M.pure, callM, cM, e1, e2, l4]
  have e3' : m__law_big_price 20 [.loc 0, .int 2] S2 = .ok p S3 := e3
  simp [e3', l4]
theorem first_good {names ends ys nms : List D} {nm : D} (hn : atI names 0 = some nm) (hnw : WordD nm) (he : ∀ d ∈ ends, WordD d) (t : Two (DeedG 2 (wt 2)) nms ys) (S : Store) :
    ∃ zs, lcL (fun _ => true) (gT (gs1 (gN 5) (gs1 (gN 6) (gs1 (gN 7) (gs1 (gN 8) gs0))))) (andM (tV (bin2 eqP (varM 6) (bin2 ixP (varM 1) (cM (.int 0))))) (tV (bin2 inP (varM 7) (varM 2)))) (varM 5)
      [some (.loc 0), some (.tup names), some (.tup ends), some (.lst ys), none, none, none, none, none] ys S = .ok zs S ∧ (∀ y ∈ zs, NameD y) ∧ zs.length ≤ ys.length := by
  refine lc_sift fun d hd => ?_
  obtain ⟨nm', _, x, b, e, p, rfl, hx, hxn, rfl, hb, he', hp⟩ := t.mem d hd
  obtain ⟨k1, q1⟩ := eq_words S hb.1 hnw
  obtain ⟨k2, q2⟩ := in_words S he'.1 he
  refine ⟨_, rfl, k1 && k2, ?_, fun _ => ⟨.str x, ?_, ⟨x, hx, rfl⟩, hxn⟩⟩
  · cases k1 <;> simp [andM, toB, M.bind, varM, var, M.op2, M.pure, bin2, cM, ix_tup', hn, q1, q2, M.lift, asB]
  · simp [gT, gs1, gN, gs0, varM, var, M.pure]
structure Good (ns es ds : List D) (sh : D) : Prop where
  nw : ∀ d ∈ ns, NameD d
  n0 : ns ≠ []
  nl : ns.length ≤ 6
  nn : ns.Nodup
  ew : ∀ d ∈ es, NameD d
  e0 : es ≠ []
  el : es.length ≤ 6
  er : riseB es = true
  dk : ∀ d ∈ ds, ∃ nm, DeedG 14 20000 nm d
  d0 : ds ≠ []
  dl : ds.length ≤ 12
  dr : riseB (ds.map firstD) = true
  hs : sh = .non ∨ NameD sh
  nq : ∀ d ∈ ns, d ≠ .str "nope"
  dq : ∀ d ∈ ds, firstD d ≠ .str "nope"
theorem four_nope : ∀ d ∈ ([.str "plain", .str "card", .str "gold", .str "s3"] : List D), d ≠ .str "nope" := fun d hd => by
  simp only [List.mem_cons, List.not_mem_nil, or_false] at hd
  rcases hd with rfl | rfl | rfl | rfl <;> (intro z; injection z with z; revert z; decide +kernel)
theorem five_nope {j : Nat} : ∀ d ∈ ([.str "buy", .str "d1", .str "go2", .str "plain", .str "z"] : List D).take j, d ≠ .str "nope" := fun d hd => by
  have h := List.mem_of_mem_take hd
  simp only [List.mem_cons, List.not_mem_nil, or_false] at h
  rcases h with rfl | rfl | rfl | rfl | rfl <;> (intro z; injection z with z; revert z; decide +kernel)
theorem four_names : ∀ d ∈ ([.str "plain", .str "card", .str "gold", .str "s3"] : List D), NameD d := fun d hd => by
  simp only [List.mem_cons, List.not_mem_nil, or_false] at hd
  rcases hd with rfl | rfl | rfl | rfl <;> exact ⟨word_of (by decide), by decide +kernel⟩
theorem five_names {j : Nat} : ∀ d ∈ ([.str "buy", .str "d1", .str "go2", .str "plain", .str "z"] : List D).take j, NameD d := fun d hd => by
  have h := List.mem_of_mem_take hd
  simp only [List.mem_cons, List.not_mem_nil, or_false] at h
  rcases h with rfl | rfl | rfl | rfl | rfl <;> exact ⟨word_of (by decide), by decide +kernel⟩
theorem nodup_strs {xs : List Str} (h : nodupS xs = true) : (xs.map D.str).Nodup := List.Pairwise.map _ (fun a b hab e => hab (by injection e)) (nodup_of_S h)
/-- a drawn shop -/
theorem shop_good {S R : Store} (hb : Bag S R) : ∃ ns es ds sh S' R', m__law_big_shop [.loc 0] S = .ok (.tup [.tup ns, .tup es, .tup ds, sh]) S' ∧ Good ns es ds sh ∧ Bag S' R' := by
  have l0 := len_ok 0 (by decide)
  have l4 := len_ok 4 (by decide)
  have l5 := len_ok 5 (by decide)
  obtain ⟨i1, l1, v1, ns, S1, S2, e1, e2, sl1, n0, nl, nw0, nn, b2⟩ := mixed_cut2 (ds := [.str "plain", .str "card", .str "gold", .str "s3"]) (m := 4) hb (by simp) (by simp) rfl (nodup_strs (xs := ["plain", "card", "gold", "s3"]) (by decide +kernel))
  have nw : ∀ d ∈ ns, NameD d := fun d hd => four_names d (nw0 d hd)
  simp at nl
  obtain ⟨i2, l2, v2, es, S3, S4, e3, e4, sl2, m0, ml, mw0, mn, b4⟩ := mixed_cut2 (ds := ns) (m := ns.length) b2 n0 (by omega) rfl nn
  obtain ⟨ends, es1, es2, es3, es4⟩ := sorted_names S4 (d := .lst es) (ds := es) rfl (by omega) (fun d hd => (nw d (mw0 d hd)).1) mn
  have ew : ∀ d ∈ ends, NameD d := fun d hd => nw d (mw0 d (es3 d hd))
  obtain ⟨v, S5, e5, v0, v5, b5⟩ := take_any (many := 5) b4 (by decide) (by decide)
  obtain ⟨j, rfl⟩ : ∃ j : Nat, v = (j : Int) := ⟨v.toNat, by omega⟩
  have hj : (1 + (j : Int)) = ((1 + j : Nat) : Int) := by omega
  obtain ⟨ys, S6, e6, t6, b6⟩ := deeds_good (names := ns) (ends := ends) (items := ([.str "buy", .str "d1", .str "go2", .str "plain", .str "z"] : List D).take (1 + j)) n0 (by omega) nw five_names b5
  have hys := t6.length
  have hys2 : ys.length = 1 + j := by
    rw [hys]
    simp
    omega
  have y0 : ys ≠ [] := by intro z; rw [z] at hys2; simp at hys2; omega
  obtain ⟨nm, hn, hnw⟩ := at_first n0 (fun d hd => (nw d hd).1)
  obtain ⟨zs, e7, zw, zl⟩ := first_good (names := ns) (ends := ends) hn hnw (fun d hd => (ew d hd).1) t6 S6
  have hne := ne_lst_nil S6 (fun d hd => (zw d hd).1) (show zs.length ≤ 405 by omega)
  obtain ⟨ss, e8, sl, sm, sr⟩ := sorted_deeds2 S6 (t6.imp fun _ _ h => h.dd) y0 (by omega) (take_nodup (1 + j))
  have hyl : ys.length ≤ sizeLine := len_ok _ (by omega)
  have hzl : zs.length ≤ sizeLine := len_ok _ (by omega)
  have fin : ∀ {x : D}, (x = .non ∨ NameD x) → Good ns ends ss x := fun hx => ⟨nw, n0, by omega, nn, ew, by
      intro z
      rw [z] at es2
      exact m0 (List.length_eq_zero_iff.mp es2.symm), by omega, es4, fun d hd => by
      obtain ⟨nm', _, h⟩ := t6.mem d (sm d hd)
      obtain ⟨x, b, e, p, h1, h2, h3, h4, h5, h6, h7⟩ := h.ex
      exact ⟨nm', ⟨x, b, e, p, h1, h2, h3, h4, h5, h6, h7.mono (by omega) (by decide)⟩⟩, by
      intro z
      rw [z] at sl
      exact y0 (List.length_eq_zero_iff.mp sl.symm), by omega, sr, hx, fun d hd => four_nope d (nw0 d hd), fun d hd => by
      obtain ⟨nm', hm, h⟩ := t6.mem d (sm d hd)
      obtain ⟨x, b, e, p, h1, h2, h3, h4, h5, h6, h7⟩ := h.ex
      rw [h4]
      show D.str x ≠ _
      rw [← h1]
      exact five_nope nm' hm⟩
  have hs1 := fun S => tuple_lst S ns
  have hl1 : ∀ S, listP S [.tup ns] = some (.lst ns) := fun S => list_tup S ns
  have hlen : ∀ S, lenP S [.tup ns] = some (.int ns.length) := fun S => len_tup S ns
  have hcut : ∀ S, slP S (.tup [.str "buy", .str "d1", .str "go2", .str "plain", .str "z"]) none (some (1 + (j : Int))) = some (.tup (([.str "buy", .str "d1", .str "go2", .str "plain", .str "z"] : List D).take (1 + j))) := fun S => by
    rw [sl_tup, hj, cut_take]
  cases hz : zs.isEmpty with
  | true =>
    rw [hz] at hne
    refine ⟨ns, ends, ss, .non, S6, _, ?_, fin (.inl rfl), b6⟩
    unfold m__law_big_shop
    simp [tV, toB, bltM, consM, nilM, M.bind, varM, var, M.opL, M.op2, M.op1, M.lift, asB, M.pure, bin2, callM, cM, SR.of, SR.bind, lstM, l4, e1, e2, slM, noP, opP, optI, asI, opS, add_ints, sl1, hs1, hl1, e3, hlen, e4, sl2, es1, tuple_lst, tupM, l5, e5, hcut, lcM, lcI, seqI, srcA, wipeE, e6, hyl, asS, asL, still_lst, e7, hzl, e8, ifV, andM, hne, l0]
  | false =>
    rw [hz] at hne
    obtain ⟨w, S7, e9, w0, w2, b7⟩ := take_any (many := 2) b6 (by decide) (by decide)
    by_cases hw0 : w = 0
    · obtain ⟨z, zr, rfl⟩ : ∃ z zr, zs = z :: zr := by
        cases zs with
        | nil => cases hz
        | cons z zr => exact ⟨z, zr, rfl⟩
      have hz1 : atI (z :: zr) (0 : Int) = some z := at_0 _ _
      subst hw0
      refine ⟨ns, ends, ss, z, S7, _, ?_, fin (.inr (zw z (by simp))), b7⟩
      unfold m__law_big_shop
      simp [tV, toB, bltM, consM, nilM, M.bind, varM, var, M.opL, M.op2, M.op1, M.lift, asB, M.pure, bin2, callM, cM, SR.of, SR.bind, lstM, l4, e1, e2, slM, noP, opP, optI, asI, opS, add_ints, sl1, hs1, hl1, e3, hlen, e4, sl2, es1, tuple_lst, tupM, l5, e5, hcut, lcM, lcI, seqI, srcA, wipeE, e6, hyl, asS, asL, still_lst, e7, e8, ifV, andM, hne, l0, e9, eq_ints, ix_lst, hz1]
      simp at hzl
      simp [hzl, tV, toB, bltM, consM, nilM, M.bind, varM, var, M.opL, M.op2, M.op1, M.lift, asB, M.pure, bin2, callM, cM, SR.of, SR.bind, lstM, l4, e1, e2, slM, noP, opP, optI, asI, opS, add_ints, sl1, hs1, hl1, e3, hlen, e4, sl2, es1, tuple_lst, tupM, l5, e5, hcut, lcM, lcI, seqI, srcA, wipeE, e6, hyl, asS, asL, still_lst, e7, e8, ifV, andM, hne, l0, e9, eq_ints, ix_lst, hz1]
    · refine ⟨ns, ends, ss, .non, S7, _, ?_, fin (.inl rfl), b7⟩
      unfold m__law_big_shop
      simp [tV, toB, bltM, consM, nilM, M.bind, varM, var, M.opL, M.op2, M.op1, M.lift, asB, M.pure, bin2, callM, cM, SR.of, SR.bind, lstM, l4, e1, e2, slM, noP, opP, optI, asI, opS, add_ints, sl1, hs1, hl1, e3, hlen, e4, sl2, es1, tuple_lst, tupM, l5, e5, hcut, lcM, lcI, seqI, srcA, wipeE, e6, hyl, asS, asL, still_lst, e7, hzl, e8, ifV, andM, hne, l0, e9, eq_ints, hw0]
end PyM
set_option Elab.async false
set_option linter.all false
set_option maxRecDepth 100000
set_option maxHeartbeats 8000000
namespace PyM
open PySem PySem.Spec PyProof.Rows L2
variable {ns es ds : List D} {sh : D}
theorem Good.shk (h : Good ns es ds sh) : ShK 15 ns es ds sh := ⟨fun d hd => (h.nw d hd).1, h.n0, by have := h.nl; omega, fun d hd => (h.ew d hd).1, by have := h.el; omega, fun d hd => by
  obtain ⟨_, x, b, e, p, h1, h2, h3, h4, h5, h6, h7⟩ := h.dk d hd
  exact ⟨_, b, e, p, h4, ⟨x, h2, rfl⟩, h5.1, h6.1, h7.v, h7.t⟩, by have := h.dl; omega, by
  rcases h.hs with e | e
  · exact .inl e
  · exact .inr e.1⟩
abbrev shopD (ns es ds : List D) (sh : D) : D := .tup [.tup ns, .tup es, .tup ds, sh]
theorem Good.val (h : Good ns es ds sh) : ValL 405 20 (shopD ns es ds sh) := by
  refine (val_tup (n := 17) (by simp) fun e he => ?_).mono (by decide)
  simp only [List.mem_cons, List.not_mem_nil, or_false] at he
  rcases he with rfl | rfl | rfl | rfl
  · exact val_tup (n := 16) (by have := h.nl; omega) fun e he => (h.nw e he).1.val _ _
  · exact val_tup (n := 16) (by have := h.el; omega) fun e he => (h.ew e he).1.val _ _
  · refine val_tup (n := 16) (by have := h.dl; omega) fun e he => ?_
    obtain ⟨_, x, b, e, p, h1, h2, h3, rfl, h5, h6, h7⟩ := h.dk e he
    refine val_tup (n := 15) (by simp) fun y hy => ?_
    simp only [List.mem_cons, List.not_mem_nil, or_false] at hy
    rcases hy with rfl | rfl | rfl | rfl
    · exact (flat_str h2).val _
    · exact h5.1.val _ _
    · exact h6.1.val _ _
    · exact h7.v
  · rcases h.hs with rfl | hs
    · exact (show Flat .non from .inl rfl).val _
    · exact hs.1.val _ _
theorem Good.shop (h : Good ns es ds sh) : shopB (shopD ns es ds sh) = true := by
  have h1 : ns.all nameB = true := List.all_eq_true.mpr fun d hd => (h.nw d hd).2
  have h2 : es.all nameB = true := List.all_eq_true.mpr fun d hd => (h.ew d hd).2
  have h3 : ds.all deedB = true := List.all_eq_true.mpr fun d hd => by
    obtain ⟨_, x, b, e, p, _, h2, h3, rfl, h5, h6, h7⟩ := h.dk d hd
    unfold deedB
    simp [h3, h5.2, h6.2, h7.b 20 (by decide)]
  have h4 := dist_all (names_str h1) h.nn
  have l1 : 1 ≤ ns.length := List.length_pos_iff.mpr h.n0
  have l2 : 1 ≤ ds.length := List.length_pos_iff.mpr h.d0
  have l3 : es.isEmpty = false := by
    cases es with
    | nil => exact absurd rfl h.e0
    | cons a b => rfl
  have h5 : (isNonD sh || nameB sh) = true := by
    rcases h.hs with rfl | hs
    · rfl
    · rw [hs.2, Bool.or_true]
  have h6 := h.nl
  have h7 := h.dl
  simp only [shopD, shopB, tupB, itemsT, h1, h2, h3, h4, h.er, h.dr, h5, l3, Nat.lt_irrefl, decide_false, Bool.not_false, Bool.and_true, Bool.true_and, Bool.and_eq_true, decide_eq_true_eq]
  exact ⟨⟨decide_eq_true l1, decide_eq_true h6⟩, decide_eq_true l2, decide_eq_true h7⟩
theorem sh_str (n : Nat) (x : Str) (h1 : PyData.strOk x = true) (h2 : (PyData.str x).shown.length ≤ 20) : ShD n 20 (.str x) := fun S => ⟨.str x, rfl, h1, rfl, Nat.zero_le _, h2⟩
theorem sh_int (n : Nat) (i : Int) (h1 : (PyData.int i).showable = true) (h2 : (PyData.int i).shown.length ≤ 20) : ShD n 20 (.int i) := fun S => ⟨.int i, rfl, rfl, h1, Nat.zero_le _, h2⟩
theorem WordD.shw {d : D} (h : WordD d) (n : Nat) : ShD n 20 d := by
  obtain ⟨x, hx, rfl⟩ := h
  exact sh_flat (flat_str hx) n
theorem sh_list {n w : Nat} : ∀ {ds : List D}, (∀ d ∈ ds, ShD n w d) → ShL n ds (ds.length * (w + 2))
  | [], _ => by
    rw [List.length_nil, Nat.zero_mul]
    exact .nil
  | d :: ds, h => by
    have e : (d :: ds).length * (w + 2) = w + 2 + ds.length * (w + 2) := by
      rw [List.length_cons, Nat.succ_mul]
      omega
    rw [e]
    exact .cons (h d (by simp)) (sh_list fun e he => h e (by simp [he]))
theorem Good.sh_deed (h : Good ns es ds sh) : ∀ d ∈ ds, ShD 16 20100 d := fun d hd => by
  obtain ⟨_, x, b, e, p, _, h2, h3, rfl, h5, h6, h7⟩ := h.dk d hd
  exact (sh_tup (.cons (sh_flat (flat_str h2) 15) (.cons (h5.1.shw 15) (.cons (h6.1.shw 15) (.cons h7.s .nil))))).mono (by omega) (by omega)
theorem Good.shd (h : Good ns es ds sh) : ShD 18 300000 (shopD ns es ds sh) := by
  have l1 := h.nl
  have l2 := h.el
  have l3 := h.dl
  have a1 : ShD 17 200 (.tup ns) := (sh_tup (n := 16) (sh_list (w := 20) fun d hd => (h.nw d hd).1.shw 16)).mono (by omega) (by omega)
  have a2 : ShD 17 200 (.tup es) := (sh_tup (n := 16) (sh_list (w := 20) fun d hd => (h.ew d hd).1.shw 16)).mono (by omega) (by omega)
  have a3 : ShD 17 250000 (.tup ds) := (sh_tup (n := 16) (sh_list h.sh_deed)).mono (by omega) (by omega)
  have a4 : ShD 17 20 sh := by
    rcases h.hs with rfl | hs
    · exact sh_flat (.inl rfl) 17
    · exact hs.1.shw 17
  exact (sh_tup (.cons a1 (.cons a2 (.cons a3 (.cons a4 .nil))))).mono (by omega) (by omega)
/-! ### what a fault may be -/
def FOk (f : Fault) : Prop := (f.1 = "large" ∨ f.1 = "shop") ∧ ShD 3 300 (faultD f)
theorem sh3 {a b c : D} {u v w : Nat} (h1 : ShD 2 u a) (h2 : ShD 2 v b) (h3 : ShD 2 w c) (hl : u + v + w ≤ 200) : ShD 3 300 (.tup [a, b, c]) := (sh_tup (.cons h1 (.cons h2 (.cons h3 .nil)))).mono (by omega) (by omega)
theorem sh2 {n : Nat} {a b : D} {u v : Nat} (h1 : ShD n u a) (h2 : ShD n v b) : ShD (n + 1) (u + v + 8) (.tup [a, b]) := (sh_tup (.cons h1 (.cons h2 .nil))).mono (by omega) (by omega)
theorem s_large (n : Nat) : ShD n 20 (.str "large") := sh_str n _ (by decide +kernel) (by decide +kernel)
theorem s_shop (n : Nat) : ShD n 20 (.str "shop") := sh_str n _ (by decide +kernel) (by decide +kernel)
theorem s_deep (n : Nat) : ShD n 20 (.str "deep") := sh_str n _ (by decide +kernel) (by decide +kernel)
theorem s_parts (n : Nat) : ShD n 20 (.str "parts") := sh_str n _ (by decide +kernel) (by decide +kernel)
theorem s_deed (n : Nat) : ShD n 20 (.str "deed") := sh_str n _ (by decide +kernel) (by decide +kernel)
theorem s_shown (n : Nat) : ShD n 20 (.str "shown") := sh_str n _ (by decide +kernel) (by decide +kernel)
theorem s_ends (n : Nat) : ShD n 20 (.str "ends") := sh_str n _ (by decide +kernel) (by decide +kernel)
theorem s_standing (n : Nat) : ShD n 20 (.str "standing") := sh_str n _ (by decide +kernel) (by decide +kernel)
theorem s_told (n : Nat) : ShD n 20 (.str "told") := sh_str n _ (by decide +kernel) (by decide +kernel)
theorem s_12 (n : Nat) : ShD n 20 (.int 12) := sh_int n _ (by decide +kernel) (by decide +kernel)
theorem s_40 (n : Nat) : ShD n 20 (.int 40) := sh_int n _ (by decide +kernel) (by decide +kernel)
theorem s_0 (n : Nat) : ShD n 20 (.int 0) := sh_int n _ (by decide +kernel) (by decide +kernel)
theorem size_fok {d : D} {f : Fault} (h : sizeFault d = some f) : FOk f := by
  unfold sizeFault at h
  split at h
  · cases h
    exact ⟨.inl rfl, sh3 (s_large 2) (s_deep 2) (s_12 2) (by decide)⟩
  · split at h
    · cases h
      exact ⟨.inl rfl, sh3 (s_large 2) (s_parts 2) (s_40 2) (by decide)⟩
    · cases h
theorem first_fok {F : D → Option Fault} {f : Fault} : ∀ {ds : List D}, (∀ d ∈ ds, ∀ f, F d = some f → FOk f) → firstF F ds = some f → FOk f
  | [], _, h => by cases h
  | d :: ds, hh, h => by
    unfold firstF at h
    cases q : F d with
    | some g =>
      rw [q] at h
      cases h
      exact hh d (by simp) _ q
    | none =>
      rw [q] at h
      exact first_fok (fun d hd => hh d (by simp [hd])) h
theorem large_fok {d : D} {f : Fault} (h : largeFault d = some f) : FOk f := by
  unfold largeFault at h
  split at h
  · exact size_fok h
  · cases h
theorem Good.fok (h : Good ns es ds sh) {f : Fault} (hf : faultOf ns es ds sh = some f) : FOk f := by
  unfold faultOf at hf
  split at hf
  · rename_i g q
    cases hf
    exact first_fok (fun d hd f hf => large_fok hf) q
  split at hf
  · split at hf
    · rename_i g q
      cases hf
      refine first_fok (fun d hd f hf => ?_) q
      obtain ⟨_, x, b, e, p, _, h2, h3, rfl, h5, h6, h7⟩ := h.dk d hd
      unfold deedFault at hf
      dsimp only at hf
      split at hf
      · cases hf
      · cases hf
        exact ⟨.inr rfl, sh3 (s_shop 2) (sh2 (s_deed 1) (sh_flat (flat_str h2) 1)) (s_standing 2) (by decide)⟩
    · unfold shownFault at hf
      split at hf
      · cases hf
      · split at hf
        · cases hf
          exact ⟨.inr rfl, sh3 (s_shop 2) (sh2 (s_shown 1) (s_0 1)) (s_deed 2) (by decide)⟩
        · split at hf
          · cases hf
          · cases hf
            exact ⟨.inr rfl, sh3 (s_shop 2) (sh2 (s_shown 1) (s_0 1)) (s_standing 2) (by decide)⟩
        · cases hf
  · cases hf
    exact ⟨.inr rfl, sh3 (s_shop 2) (sh2 (s_ends 1) (s_0 1)) (s_standing 2) (by decide)⟩
/-- what is due can be told, and written out -/
theorem Good.due_sh (h : Good ns es ds sh) : ∃ xs, dueD ns es ds sh = .tup xs ∧ ShD 20 400000 (.tup xs) := by
  unfold dueD
  cases q : faultOf ns es ds sh with
  | some f => exact ⟨_, rfl, (h.fok q).2.mono (by omega) (by omega)⟩
  | none => exact ⟨_, rfl, (sh2 (s_told 18) h.shd).mono (by omega) (by omega)⟩
/-- the program's check of a good shop -/
theorem Good.check (h : Good ns es ds sh) (S : Store) : ∃ S', Ext S S' ∧ m_check_shop [shopD ns es ds sh] S = told (faultOf ns es ds sh) S' := check_shop_run h.shk (by decide) h.val h.shop S
theorem Good.due (h : Good ns es ds sh) (S : Store) : m__law_due_of [shopD ns es ds sh] S = .ok (dueD ns es ds sh) S := due_run h.shk (by decide) S
end PyM
set_option Elab.async false
set_option linter.all false
set_option maxRecDepth 100000
set_option maxHeartbeats 8000000
namespace PyM
open PySem PySem.Spec PyProof.Rows L2
variable {ns es ds : List D} {sh : D}
theorem sub_tb : subT "TooLarge" "BadShop" = some false := by decide +kernel
theorem sub_tt : subT "TooLarge" "TooLarge" = some true := by decide +kernel
theorem sub_bb : subT "BadShop" "BadShop" = some true := by decide +kernel
theorem sub_nn : subT "Nothing" "Nothing" = some true := by decide +kernel
theorem fl_w : flT "BadShop" "where" = true := by decide +kernel
theorem fl_f : flT "BadShop" "fault" = true := by decide +kernel
theorem fl_t : flT "TooLarge" "what" = true := by decide +kernel
theorem fl_l : flT "TooLarge" "limit" = true := by decide +kernel
theorem fd_1 (f g : Str) (a b : D) : fieldD f [f, g] [a, b] = some a := by simp [fieldD]
theorem fd_w (a b : D) : fieldD "fault" ["where", "fault"] [a, b] = some b := by
  have : ((("where" : Str) = ("fault" : Str)) = False) := eq_false (by decide +kernel)
  simp [fieldD, this]
theorem fd_l (a b : D) : fieldD "limit" ["what", "limit"] [a, b] = some b := by
  have : ((("what" : Str) = ("limit" : Str)) = False) := eq_false (by decide +kernel)
  simp [fieldD, this]
theorem shop_large : ((Str.ofString "shop" = Str.ofString "large") = False) := eq_false (by decide +kernel)
def dueOf (f : Option Fault) (d : D) : D := match f with
  | some f => .tup [.str f.1, f.2.1, f.2.2]
  | none => .tup [.str "told", d]
/-- what the program tells of a shop -/
theorem told_gen {d : D} {f : Option Fault} {S S1 : Store} (e : m_check_shop [d] S = told f S1) (hf : ∀ g, f = some g → g.1 = "large" ∨ g.1 = "shop") : m__law_told_of [d] S = .ok (dueOf f d) S1 := by
  unfold dueOf
  have l2 := len_ok 2 (by decide)
  have l3 := len_ok 3 (by decide)
  cases f with
  | none =>
    simp only [told] at e
    have ec : m_checked_shop [d] S = .ok d S1 := by
      unfold m_checked_shop
      simp [exprM, callM, consM, nilM, M.bind, varM, var, M.pure, e, SR.of, SR.bind]
    unfold m__law_told_of
    simp [tryM, tupM, callM, consM, nilM, M.bind, cM, varM, var, M.pure, ec, l2, SR.of, SR.bind]
  | some f =>
    obtain ⟨s, a, b⟩ := f
    rcases hf _ rfl with q | q
    · dsimp only at q
      subst q
      have e' : m_check_shop [d] S = .exc "TooLarge" [("what", a), ("limit", b)] S1 := by
        rw [e]
        simp [told, excOf]
      have ec : m_checked_shop [d] S = .exc "TooLarge" [("what", a), ("limit", b)] S1 := by
        unfold m_checked_shop
        simp [exprM, callM, consM, nilM, M.bind, varM, var, M.pure, e', SR.of, SR.bind]
      unfold m__law_told_of
      simp [tryM, catchM, runH, wipeR, noExc, sub_tb, sub_tt, fldM, fl_t, fl_l, fd_1, fd_l, tupM, callM, consM, nilM, M.bind, M.lift, cM, varM, var, M.pure, ec, l2, l3, SR.of, SR.bind]
    · dsimp only at q
      subst q
      have e' : m_check_shop [d] S = .exc "BadShop" [("where", a), ("fault", b)] S1 := by
        rw [e]
        simp [told, excOf, shop_large]
      have ec : m_checked_shop [d] S = .exc "BadShop" [("where", a), ("fault", b)] S1 := by
        unfold m_checked_shop
        simp [exprM, callM, consM, nilM, M.bind, varM, var, M.pure, e', SR.of, SR.bind]
      unfold m__law_told_of
      simp [tryM, catchM, runH, wipeR, noExc, sub_bb, fldM, fl_w, fl_f, fd_1, fd_w, tupM, callM, consM, nilM, M.bind, M.lift, cM, varM, var, M.pure, ec, l2, l3, SR.of, SR.bind]
theorem Good.told_run (h : Good ns es ds sh) (S : Store) : ∃ S', Ext S S' ∧ m__law_told_of [shopD ns es ds sh] S = .ok (dueD ns es ds sh) S' := by
  obtain ⟨S1, x1, e⟩ := h.check S
  exact ⟨S1, x1, told_gen e fun g hg => (h.fok hg).1⟩
/-! ### the deeds of a shop that is let -/
theorem Good.let (h : Good ns es ds sh) (hf : faultOf ns es ds sh = none) (S : Store) : ∃ S', Ext S S' ∧ m_check_shop [shopD ns es ds sh] S = .ok .non S' := by
  obtain ⟨S1, x1, e⟩ := h.check S
  rw [hf] at e
  exact ⟨S1, x1, e⟩
theorem deed_of_run {d nm : D} {tt found : List D} {S S1 : Store} (e : m_check_shop [d] S = .ok .non S1) (i2 : ∀ S, ixP S d (.int 2) = some (.tup tt))
    (hl : lcL (fun _ => true) (gN 3) (andM (tV (callM 1 m_is_name (consM (varM 1) nilM))) (tV (bin2 eqP (bin2 ixP (varM 3) (cM (.int 0))) (varM 1)))) (varM 3) [some d, some nm, none, none] tt S1 = .ok found S1) (hs : found.length ≤ 405) (hp : ∃ n, n ≤ 60 ∧ ∀ d ∈ found, PlD n d) :
    m_deed_of [d, nm] S = match found with
      | [] => .exc "Nothing" [] S1
      | x :: _ => .ok x S1 := by
  have l0 := len_ok 0 (by decide)
  have hsz : found.length ≤ sizeLine := len_ok _ (by omega)
  obtain ⟨n, hn, hp⟩ := hp
  have he := fun S => eq_nil_l S (n := n) (ds := found) hn hp
  unfold m_deed_of
  simp only [x_body]
  show SR.out (seqM _ _ [some d, some nm, none, none] S) = _
  rw [seq_nx (ρ' := [some d, some nm, none, none]) (S' := S1) (by simp [exprM, callM, consM, nilM, M.bind, varM, var, M.pure, e, SR.of])]
  rw [seq_set (d := .lst found) (S' := S1) (by simp [lcM, lcI, seqI, srcA, bin2, M.op2, cM, i2, wipeE, M.bind, varM, var, M.pure, hl, hsz])]
  simp only [List.set]
  cases found with
  | nil =>
    rw [seq_take (S' := S1) (by simp [tV, toB, bin2, M.bind, varM, var, M.pure, cM, M.op2, lstM, nilM, l0, he, M.lift, asB])]
    rfl
  | cons x r =>
    rw [seq_skip (S' := S1) (by simp [tV, toB, bin2, M.bind, varM, var, M.pure, cM, M.op2, lstM, nilM, l0, he, M.lift, asB])]
    have i0 : ∀ S, ixP S (.lst (x :: r)) (.int 0) = some x := fun S => at_0 _ _
    simp [bin2, M.bind, varM, var, M.pure, cM, M.op2, i0, SR.of]
/-- a deed by its name -/
theorem Good.deed_lc (h : Good ns es ds sh) {nm : D} (hn : NameD nm) (a c : Option D) (S : Store) : lcL (fun _ => true) (gN 3) (andM (tV (callM 1 m_is_name (consM (varM 1) nilM))) (tV (bin2 eqP (bin2 ixP (varM 3) (cM (.int 0))) (varM 1)))) (varM 3) [a, some nm, c, none] ds S = .ok (ds.filter fun d => eqB (firstD d) nm) S := by
  have := lc_filter (g := gN 3) (mt := andM (tV (callM 1 m_is_name (consM (varM 1) nilM))) (tV (bin2 eqP (bin2 ixP (varM 3) (cM (.int 0))) (varM 1)))) (me := varM 3) (ρ := [a, some nm, c, none]) (S := S) (f := fun d => eqB (firstD d) nm) (h := id) (ds := ds) (fun d hd => ⟨_, rfl, by
    obtain ⟨_, x, b, e, p, _, h2, h3, rfl, h5, h6, h7⟩ := h.dk d hd
    have i0 : ∀ S, ixP S (.tup [.str x, b, e, p]) (.int 0) = some (.str x) := fun S => at_0 _ _
    have e1 := (eq_run S (⟨x, h2, rfl⟩ : WordD (.str x)) hn.1).1
    have e2 := is_name_pl (hn.1.pl 0) S
    rw [hn.2] at e2
    simp [andM, callM, consM, nilM, tV, toB, bin2, M.bind, varM, var, M.pure, cM, M.op2, i0, e1, e2, M.lift, asB, firstD], fun _ => rfl⟩)
  rw [List.map_id] at this
  exact this
/-- no deed by what is no name -/
theorem deed_lc_no {nm : D} (hp : PlD 0 nm) (hn : nameB nm = false) (a c : Option D) (S : Store) : lcL (fun _ => true) (gN 3) (andM (tV (callM 1 m_is_name (consM (varM 1) nilM))) (tV (bin2 eqP (bin2 ixP (varM 3) (cM (.int 0))) (varM 1)))) (varM 3) [a, some nm, c, none] ds S = .ok [] S := by
  have := lc_filter (g := gN 3) (mt := andM (tV (callM 1 m_is_name (consM (varM 1) nilM))) (tV (bin2 eqP (bin2 ixP (varM 3) (cM (.int 0))) (varM 1)))) (me := varM 3) (ρ := [a, some nm, c, none]) (S := S) (f := fun d => false) (h := id) (ds := ds) (fun d hd => ⟨_, rfl, by
    have e2 := is_name_pl hp S
    rw [hn] at e2
    simp [andM, callM, consM, nilM, tV, toB, bin2, M.bind, varM, var, M.pure, cM, M.op2, e2, M.lift, asB], fun _ => rfl⟩)
  rw [List.map_id] at this
  rw [this]
  simp
theorem Good.pld (h : Good ns es ds sh) {f : D → Bool} : ∃ n, n ≤ 60 ∧ ∀ d ∈ ds.filter f, PlD n d := ⟨16, by decide, fun d hd => deed_pl (h.shk.dk d (List.mem_filter.mp hd).1)⟩
theorem rise_lt : ∀ {l : List D} {a : D}, riseB (a :: l) = true → (∀ d ∈ a :: l, isStrD d = true) → ∀ d ∈ l, ltB a d = true
  | [], _, _, _, d, hd => by simp at hd
  | b :: r, a, h, hs, d, hd => by
    have h' : (ltB a b && riseB (b :: r)) = true := h
    rw [Bool.and_eq_true] at h'
    rcases List.mem_cons.mp hd with rfl | hd
    · exact h'.1
    · have h2 := rise_lt h'.2 (fun d hd => hs d (by simp at hd ⊢; right; exact hd)) d hd
      have sa := hs a (by simp)
      have sb := hs b (by simp)
      have sd := hs d (by simp [hd])
      cases a <;> first | cases sa | skip
      cases b <;> first | cases sb | skip
      cases d <;> first | cases sd | skip
      exact decide_eq_true (List.lt_trans (of_decide_eq_true h'.1) (of_decide_eq_true h2))
theorem lt_ne {a b : D} (h : ltB a b = true) : eqB a b = false ∧ eqB b a = false := by
  cases a <;> cases b <;> first | exact ⟨rfl, rfl⟩ | skip
  rename_i x y
  have hne : x ≠ y := fun z => by
    subst z
    exact List.lt_irrefl _ (of_decide_eq_true h)
  exact ⟨decide_eq_false hne, decide_eq_false fun z => hne z.symm⟩
/-- names that rise tell the deeds apart -/
theorem filter_one : ∀ {ds : List D}, riseB (ds.map firstD) = true → (∀ d ∈ ds, isStrD (firstD d) = true) → ∀ d ∈ ds, (ds.filter fun e => eqB (firstD e) (firstD d)) = [d]
  | [], _, _, d, hd => by simp at hd
  | a :: r, h, hs, d, hd => by
    have hstr : ∀ x ∈ (a :: r).map firstD, isStrD x = true := fun x hx => by
      obtain ⟨y, hy, rfl⟩ := List.mem_map.mp hx
      exact hs y hy
    have hlt : ∀ e ∈ r, ltB (firstD a) (firstD e) = true := fun e he => rise_lt (a := firstD a) (l := r.map firstD) h hstr _ (List.mem_map.mpr ⟨e, he, rfl⟩)
    have hr : riseB (r.map firstD) = true := by
      cases r with
      | nil => rfl
      | cons b r => 
        have h' : (ltB (firstD a) (firstD b) && riseB ((b :: r).map firstD)) = true := h
        rw [Bool.and_eq_true] at h'
        exact h'.2
    rcases List.mem_cons.mp hd with rfl | hd
    · have e1 : eqB (firstD d) (firstD d) = true := by
        have := hs d (by simp)
        cases q : firstD d <;> rw [q] at this <;> first | exact decide_eq_true rfl | cases this
      have e2 : (r.filter fun e => eqB (firstD e) (firstD d)) = [] := List.filter_eq_nil_iff.mpr fun e he => by
        rw [(lt_ne (hlt e he)).2]
        decide
      rw [List.filter_cons, e1, e2]
      rfl
    · have e1 := (lt_ne (hlt d hd)).1
      rw [List.filter_cons, e1]
      exact filter_one hr (fun d hd => hs d (by simp [hd])) d hd
theorem Good.deed_at (h : Good ns es ds sh) (hf : faultOf ns es ds sh = none) {d : D} (hd : d ∈ ds) (S : Store) : ∃ S', Ext S S' ∧ m_deed_of [shopD ns es ds sh, firstD d] S = .ok d S' := by
  obtain ⟨S1, x1, e⟩ := h.let hf S
  have hst : ∀ d ∈ ds, NameD (firstD d) := fun d hd => by
    obtain ⟨_, x, b, e, p, _, h2, h3, rfl, h5, h6, h7⟩ := h.dk d hd
    exact ⟨⟨x, h2, rfl⟩, h3⟩
  have one := filter_one h.dr (fun d hd => name_str (hst d hd).2) d hd
  refine ⟨S1, x1, ?_⟩
  rw [deed_of_run e (fun S => at_2 _ _ _ _) (h.deed_lc (hst d hd) _ _ S1) (Nat.le_trans (List.length_filter_le _ _) (by have := h.dl; omega)) h.pld, one]
theorem Good.deed_nope (h : Good ns es ds sh) (hf : faultOf ns es ds sh = none) (S : Store) : ∃ S', Ext S S' ∧ m_deed_of [shopD ns es ds sh, .str "nope"] S = .exc "Nothing" [] S' := by
  obtain ⟨S1, x1, e⟩ := h.let hf S
  have hn : NameD (.str "nope") := ⟨word_of (by decide), by decide +kernel⟩
  have no : (ds.filter fun d => eqB (firstD d) (.str "nope")) = [] := List.filter_eq_nil_iff.mpr fun d hd => by
    have := h.dq d hd
    cases q : firstD d <;> first | (intro z; cases z; done) | skip
    rename_i x
    rw [q] at this
    exact fun z => this (congrArg D.str (of_decide_eq_true z))
  refine ⟨S1, x1, ?_⟩
  rw [deed_of_run e (fun S => at_2 _ _ _ _) (h.deed_lc hn _ _ S1) (Nat.le_trans (List.length_filter_le _ _) (by have := h.dl; omega)) h.pld, no]
theorem Good.deed_non (h : Good ns es ds sh) (hf : faultOf ns es ds sh = none) (S : Store) : ∃ S', Ext S S' ∧ m_deed_of [shopD ns es ds sh, .non] S = .exc "Nothing" [] S' := by
  obtain ⟨S1, x1, e⟩ := h.let hf S
  refine ⟨S1, x1, ?_⟩
  rw [deed_of_run e (fun S => at_2 _ _ _ _) (deed_lc_no (ds := ds) (nm := .non) (by exact trivial) rfl _ _ S1) (by simp) ⟨0, by decide, by simp⟩]
end PyM
set_option Elab.async false
set_option linter.all false
set_option maxRecDepth 100000
set_option maxHeartbeats 8000000
namespace PyM
open PySem PySem.Spec PyProof.Rows L2
variable {ns es ds : List D} {sh : D}
theorem inB_cons {x y : Str} {ns : List D} (h : ∀ d ∈ ns, WordD d) : inB (.str x) (.str y :: ns) = (decide (x = y) || inB (.str x) ns) := by
  obtain ⟨vs, e⟩ := scalL_words h
  unfold inB
  simp [scalD, scalL, e, inV, eqV_str]
theorem inB_mem {x : Str} : ∀ {ns : List D}, (∀ d ∈ ns, WordD d) → .str x ∈ ns → inB (.str x) ns = true
  | [], _, h => by simp at h
  | d :: ns, hw, h => by
    obtain ⟨y, _, rfl⟩ := hw d (by simp)
    rw [inB_cons fun d hd => hw d (by simp [hd])]
    rcases List.mem_cons.mp h with e | h
    · injection e with e
      rw [e]
      simp
    · rw [inB_mem (fun d hd => hw d (by simp [hd])) h, Bool.or_true]
theorem inB_no {x : Str} : ∀ {ns : List D}, (∀ d ∈ ns, WordD d) → (∀ d ∈ ns, d ≠ .str x) → inB (.str x) ns = false
  | [], _, _ => rfl
  | d :: ns, hw, h => by
    have hd := h d (by simp)
    obtain ⟨y, _, rfl⟩ := hw d (by simp)
    rw [inB_cons fun d hd => hw d (by simp [hd]), inB_no (fun d hd => hw d (by simp [hd])) (fun d hd => h d (by simp [hd]))]
    have : x ≠ y := fun z => hd (by rw [z])
    simp [this]
def secD : D → D
  | .tup (_ :: b :: _) => b
  | _ => .non
theorem nope_name : NameD (.str "nope") := ⟨word_of (by decide), by decide +kernel⟩
/-- the deeds from a standing -/
theorem Good.from_run (h : Good ns es ds sh) (hf : faultOf ns es ds sh = none) {nm : D} (hn : NameD nm) (hm : nm ∈ ns) (S : Store) : ∃ S', Ext S S' ∧ m_deeds_from [shopD ns es ds sh, nm] S = .ok (.tup (ds.filter fun d => eqB (secD d) nm)) S' := by
  obtain ⟨S1, x1, e⟩ := h.let hf S
  refine ⟨S1, x1, ?_⟩
  have hw : ∀ d ∈ ns, WordD d := fun d hd => (h.nw d hd).1
  have e2 := fun S => is_name_pl (hn.1.pl 0) S
  rw [hn.2] at e2
  have e3 := fun S => (in_run S hn.1 hw).2
  have e4 : inB nm ns = true := by
    obtain ⟨x, _, rfl⟩ := hn.1
    exact inB_mem hw hm
  rw [e4] at e3
  have i0 : ∀ S, ixP S (shopD ns es ds sh) (.int 0) = some (.tup ns) := fun S => at_0 _ _
  have i2 : ∀ S, ixP S (shopD ns es ds sh) (.int 2) = some (.tup ds) := fun S => at_2 _ _ _ _
  have hlc : lcL (fun _ => true) (gN 2) (tV (bin2 eqP (bin2 ixP (varM 2) (cM (.int 1))) (varM 1))) (varM 2) [some (shopD ns es ds sh), some nm, none] ds S1 = .ok (ds.filter fun d => eqB (secD d) nm) S1 := by
    have := lc_filter (g := gN 2) (mt := tV (bin2 eqP (bin2 ixP (varM 2) (cM (.int 1))) (varM 1))) (me := varM 2) (ρ := [some (shopD ns es ds sh), some nm, none]) (S := S1) (f := fun d => eqB (secD d) nm) (h := id) (ds := ds) (fun d hd => ⟨_, rfl, by
      obtain ⟨_, x, b, e, p, _, h2, h3, rfl, h5, h6, h7⟩ := h.dk d hd
      have i1 : ∀ S, ixP S (.tup [.str x, b, e, p]) (.int 1) = some b := fun S => at_1 _ _ _
      have e1 := (eq_run S1 h5.1 hn.1).1
      simp [tV, toB, bin2, M.bind, varM, var, M.pure, cM, M.op2, i1, e1, M.lift, asB, secD], fun _ => rfl⟩)
    rw [List.map_id] at this
    exact this
  have hsz : (ds.filter fun d => eqB (secD d) nm).length ≤ sizeLine := Nat.le_trans (List.length_filter_le _ _) (len_ok _ (by have := h.dl; omega))
  generalize shopD ns es ds sh = d at *
  unfold m_deeds_from
  simp only [x_body]
  show SR.out (seqM _ _ [some d, some nm, none] S) = _
  rw [seq_nx (ρ' := [some d, some nm, none]) (S' := S1) (by simp [exprM, callM, consM, nilM, M.bind, varM, var, M.pure, e, SR.of])]
  rw [seq_skip (S' := S1) (by simp [orM, notT, tV, toB, callM, consM, nilM, bin2, M.bind, varM, var, M.pure, cM, M.op2, e2, i0, e3, M.lift, asB])]
  simp [bltM, M.opL, consM, nilM, lcM, lcI, seqI, srcA, wipeE, bin2, M.bind, varM, var, M.pure, cM, M.op2, i2, hlc, hsz, tuple_lst, SR.of]
theorem Good.from_nope (h : Good ns es ds sh) (hf : faultOf ns es ds sh = none) (S : Store) : ∃ S', Ext S S' ∧ m_deeds_from [shopD ns es ds sh, .str "nope"] S = .exc "Nothing" [] S' := by
  obtain ⟨S1, x1, e⟩ := h.let hf S
  refine ⟨S1, x1, ?_⟩
  have hw : ∀ d ∈ ns, WordD d := fun d hd => (h.nw d hd).1
  have e2 := fun S => is_name_pl (nope_name.1.pl 0) S
  rw [nope_name.2] at e2
  have e3 := fun S => (in_run S nope_name.1 hw).2
  rw [inB_no hw h.nq] at e3
  have i0 : ∀ S, ixP S (shopD ns es ds sh) (.int 0) = some (.tup ns) := fun S => at_0 _ _
  generalize shopD ns es ds sh = d at *
  unfold m_deeds_from
  simp only [x_body]
  show SR.out (seqM _ _ [some d, some (.str "nope"), none] S) = _
  rw [seq_nx (ρ' := [some d, some (.str "nope"), none]) (S' := S1) (by simp [exprM, callM, consM, nilM, M.bind, varM, var, M.pure, e, SR.of])]
  rw [seq_take (S' := S1) (by simp [orM, notT, tV, toB, callM, consM, nilM, bin2, M.bind, varM, var, M.pure, cM, M.op2, e2, i0, e3, M.lift, asB])]
  rfl
theorem Good.lst_no (h : Good ns es ds sh) (S : Store) : ∃ S', Ext S S' ∧ m_checked_shop [.lst [.tup ns, .tup es, .tup ds, sh]] S = .exc "Nothing" [] S' := by
  have hv : ValL 405 20 (.lst [.tup ns, .tup es, .tup ds, sh]) := by
    obtain ⟨h1, m, h2, h3⟩ := val_items h.val
    obtain rfl : m = 19 := by omega
    exact val_lst (by simp) h3
  obtain ⟨S1, x1, e⟩ := is_shop_val hv (by decide) (by decide) S
  have e : m_is_shop [.lst [.tup ns, .tup es, .tup ds, sh]] S = .ok (.bl false) S1 := e
  refine ⟨S1, x1, ?_⟩
  generalize D.lst [.tup ns, .tup es, .tup ds, sh] = d at *
  have ec : m_check_shop [d] S = .exc "Nothing" [] S1 := by
    unfold m_check_shop
    simp only [x_body]
    show SR.out (seqM _ _ [some d, none, none, none, none, none, none, none, none, none, none] S) = _
    rw [seq_take (S' := S1) (by simp [notT, tV, toB, callM, consM, nilM, M.bind, varM, var, M.lift, asB, M.pure, e])]
    rfl
  unfold m_checked_shop
  simp [exprM, callM, consM, nilM, M.bind, varM, var, M.pure, ec, SR.of, SR.bind]
theorem money_no (S : Store) : m_check_price [.tup [.str "money"]] S = .exc "Nothing" [] S := by
  have hv : ValL 405 1 (.tup [.str "money"]) := val_tup (by simp) fun e he => by
    simp only [List.mem_cons, List.not_mem_nil, or_false] at he
    subst he
    exact flat_str (by decide)
  rw [check_price_run hv (by decide) S, if_neg (by decide +kernel)]
/-- calls that are nothing -/
theorem Good.odd_run (h : Good ns es ds sh) (hf : faultOf ns es ds sh = none) {w : Int} (hw : w = 0 ∨ w = 1 ∨ w = 2 ∨ w = 3 ∨ w = 4) (S : Store) : ∃ S', Ext S S' ∧ m__law_odd_call [shopD ns es ds sh, .int w] S = .exc "Nothing" [] S' := by
  have l2 := len_ok 2 (by decide)
  have l1 := len_ok 1 (by decide)
  rcases hw with rfl | rfl | rfl | rfl | rfl
  · obtain ⟨S1, x1, e⟩ := h.deed_nope hf S
    refine ⟨S1, x1, ?_⟩
    have i0 : ∀ S, ixP S (.lst [.str "nope", .non]) (.int 0) = some (.str "nope") := fun S => at_0 _ _
    generalize shopD ns es ds sh = d at *
    unfold m__law_odd_call
    simp [tV, toB, bin2, ltP, callM, consM, nilM, lstM, M.bind, varM, var, M.lift, asB, M.pure, cM, M.op2, l2, i0, e, SR.of, SR.bind]
  · obtain ⟨S1, x1, e⟩ := h.deed_non hf S
    refine ⟨S1, x1, ?_⟩
    have i0 : ∀ S, ixP S (.lst [.str "nope", .non]) (.int 1) = some .non := fun S => at_1 _ _ _
    generalize shopD ns es ds sh = d at *
    unfold m__law_odd_call
    simp [tV, toB, bin2, ltP, callM, consM, nilM, lstM, M.bind, varM, var, M.lift, asB, M.pure, cM, M.op2, l2, i0, e, SR.of, SR.bind]
  · obtain ⟨S1, x1, e⟩ := h.from_nope hf S
    refine ⟨S1, x1, ?_⟩
    generalize shopD ns es ds sh = d at *
    unfold m__law_odd_call
    simp [tV, toB, bin2, ltP, eq_ints, callM, consM, nilM, lstM, M.bind, varM, var, M.lift, asB, M.pure, cM, M.op2, l2, e, SR.of, SR.bind]
  · obtain ⟨S1, x1, e⟩ := h.lst_no S
    refine ⟨S1, x1, ?_⟩
    have hl : ∀ S, listP S [shopD ns es ds sh] = some (.lst [.tup ns, .tup es, .tup ds, sh]) := fun S => list_tup S _
    generalize shopD ns es ds sh = d at *
    unfold m__law_odd_call
    simp [tV, toB, bin2, ltP, eq_ints, bltM, M.opL, hl, ifV, callM, consM, nilM, lstM, M.bind, varM, var, M.lift, asB, M.pure, cM, M.op2, l2, e, SR.of, SR.bind]
  · refine ⟨S, .refl S, ?_⟩
    have e := fun S => money_no S
    generalize shopD ns es ds sh = d at *
    unfold m__law_odd_call
    simp [tV, toB, bin2, ltP, eq_ints, bltM, M.opL, ifV, callM, consM, nilM, tupM, M.bind, varM, var, M.lift, asB, M.pure, cM, M.op2, l1, e, SR.of, SR.bind]
end PyM
set_option Elab.async false
set_option linter.all false
set_option maxRecDepth 100000
set_option maxHeartbeats 8000000
namespace PyM
open PySem PySem.Spec PyProof.Rows L2
abbrev priceTurn : MSt := (setM 3 (ifV (tV (bin2 eqP (varM 4) (cM (.int 0)))) (tupM (consM (cM (.str "share")) (consM (varM 3) (consM (cM (.int 1)) (consM (cM (.int 2)) (consM (cM (.str "up")) nilM)))))) (ifV (tV (bin2 eqP (varM 4) (cM (.int 1)))) (tupM (consM (cM (.str "from")) (consM (cM (.int 3)) (consM (tupM (consM (cM (.str "barred")) nilM)) (consM (varM 3) nilM))))) (tupM (consM (cM (.str "least")) (consM (varM 3) (consM (tupM (consM (cM (.str "money")) (consM (cM (.int 2)) nilM))) nilM)))))))
theorem price_turn (S : Store) {n w : Nat} {p : D} (h : GP n w p) (x0 x1 x2 : Option D) (v : Int) : ∃ q, priceTurn [x0, x1, x2, some p, some (.int v)] S = .nx [x0, x1, x2, some q, some (.int v)] S ∧ GP (n + 1) (w + 200) q := by
  have l5 := len_ok 5 (by decide)
  have l4 := len_ok 4 (by decide)
  have l3 := len_ok 3 (by decide)
  have l2 := len_ok 2 (by decide)
  have l1 := len_ok 1 (by decide)
  by_cases c0 : v = 0
  · subst c0
    refine ⟨.tup [.str "share", p, .int 1, .int 2, .str "up"], ?_, (gp_share (a := 1) (c := 2) (by decide) (by decide) (by decide) (by decide) (.inr (.inr rfl)) h).mono (by omega) (by omega)⟩
    simp [ifV, tV, toB, bin2, M.bind, varM, var, M.pure, cM, M.op2, eq_ints, M.lift, asB, tupM, consM, nilM, l5, SR.of]
  · by_cases c1 : v = 1
    · subst c1
      refine ⟨.tup [.str "from", .int 3, .tup [.str "barred"], p], ?_, (gp_from (a := 3) (by decide) (by decide) (gp_barred.mono (Nat.zero_le n) (Nat.le_refl _)) h).mono (by omega) (by omega)⟩
      simp [ifV, tV, toB, bin2, M.bind, varM, var, M.pure, cM, M.op2, eq_ints, M.lift, asB, tupM, consM, nilM, l4, l1, SR.of]
    · refine ⟨.tup [.str "least", p, .tup [.str "money", .int 2]], ?_, (gp_bin (x := "least") (.inr (.inr (.inl rfl))) h ((gp_leaf (x := "money") (i := 2) (.inl rfl) (by decide) (by decide)).mono (Nat.zero_le n) (Nat.le_refl _))).mono (by omega) (by omega)⟩
      simp [ifV, tV, toB, bin2, M.bind, varM, var, M.pure, cM, M.op2, eq_ints, c0, c1, M.lift, asB, tupM, consM, nilM, l3, l2, SR.of]
theorem price_loop (S : Store) (x0 x2 : Option D) (v : Int) : ∀ (its : List D) {n w : Nat} {p : D} (x1 : Option D), GP n w p → ∃ y1 q, loopS (fun _ => true) (gN 1) priceTurn its [x0, x1, x2, some p, some (.int v)] S = .nx [x0, y1, x2, some q, some (.int v)] S ∧ GP (n + its.length) (w + 200 * its.length) q
  | [], n, w, p, x1, h => ⟨x1, p, rfl, h⟩
  | d :: its, n, w, p, x1, h => by
    obtain ⟨q, e, hq⟩ := price_turn S h x0 (some d) x2 v
    obtain ⟨y1, r, e2, hr⟩ := price_loop S x0 x2 v its (some d) hq
    refine ⟨y1, r, ?_, hr.mono (by simp; omega) (by simp; omega)⟩
    have hun : loopS (fun _ => true) (gN 1) priceTurn (d :: its) [x0, x1, x2, some p, some (.int v)] S = (match priceTurn [x0, some d, x2, some p, some (.int v)] S with
        | .nx ρ2 S2 => loopS (fun _ => true) (gN 1) priceTurn its ρ2 S2
        | .ct ρ2 S2 => loopS (fun _ => true) (gN 1) priceTurn its ρ2 S2
        | .bk ρ2 S2 => .nx ρ2 S2
        | r => r) := by rfl
    rw [hun, e]
    exact e2
abbrev partsTurn : MSt := (setM 2 (tupM (consM (cM (.str "plus")) (consM (varM 2) (consM (varM 2) nilM)))))
theorem parts_loop (S : Store) (x0 x3 x4 : Option D) : ∀ (its : List D) {n w : Nat} {p : D} (x1 : Option D), GP n w p → ∃ y1 q, loopS (fun _ => true) (gN 1) partsTurn its [x0, x1, some p, x3, x4] S = .nx [x0, y1, some q, x3, x4] S ∧ GP (n + its.length) (2 ^ its.length * (w + 40)) q
  | [], n, w, p, x1, h => ⟨x1, p, rfl, h.mono (Nat.le_refl _) (by simp)⟩
  | d :: its, n, w, p, x1, h => by
    have l3 := len_ok 3 (by decide)
    have hq := gp_bin (x := "plus") (.inl rfl) h h
    have e : partsTurn [x0, some d, some p, x3, x4] S = .nx [x0, some d, some (.tup [.str "plus", p, p]), x3, x4] S := by
      simp [M.bind, varM, var, M.pure, cM, tupM, consM, nilM, l3, SR.of]
    obtain ⟨y1, r, e2, hr⟩ := parts_loop S x0 x3 x4 its (some d) hq
    refine ⟨y1, r, ?_, hr.mono (by simp; omega) (by
      rw [List.length_cons, Nat.pow_succ]
      have : w + w + 40 + 40 = 2 * (w + 40) := by omega
      rw [this, ← Nat.mul_assoc]
      exact Nat.le_refl _)⟩
    have hun : loopS (fun _ => true) (gN 1) partsTurn (d :: its) [x0, x1, some p, x3, x4] S = (match partsTurn [x0, some d, some p, x3, x4] S with
        | .nx ρ2 S2 => loopS (fun _ => true) (gN 1) partsTurn its ρ2 S2
        | .ct ρ2 S2 => loopS (fun _ => true) (gN 1) partsTurn its ρ2 S2
        | .bk ρ2 S2 => .nx ρ2 S2
        | r => r) := by rfl
    rw [hun, e]
    exact e2
theorem src_small {j : Nat} (hj : j ≤ 100) (S : Store) : srcR1 [.int (j : Int)] S = .ok (srcR 0 j) S := by
  have hr : rngOk (j : Int) := by
    unfold rngOk
    have e3 : (2 : Int) ^ 62 = 4611686018427387904 := by decide
    omega
  unfold srcR1
  simp only [hr, if_true]
theorem src_len (j : Nat) : (srcR 0 (j : Int)).items.length = j := by simp [srcR]
/-- a great price -/
theorem large_any {S R : Store} (hb : Bag S R) : ∃ p S', m__law_large [.loc 0] S = .ok p S' ∧ GP 14 20000 p ∧ Bag S' R := by
  have l3 := len_ok 3 (by decide)
  have l2 := len_ok 2 (by decide)
  obtain ⟨v, S1, e1, _, _, b1⟩ := take_any (many := 3) hb (by decide) (by decide)
  obtain ⟨k, S2, e2, m2, b2⟩ := some_any (things := .lst [.int 11, .int 12, .int 13]) b1 (.inr rfl) (by simp) (by decide)
  obtain ⟨j, rfl, hj⟩ : ∃ j : Nat, k = .int (j : Int) ∧ j ≤ 13 := by
    simp only [List.mem_cons, List.not_mem_nil, or_false] at m2
    rcases m2 with rfl | rfl | rfl
    · exact ⟨11, rfl, by decide⟩
    · exact ⟨12, rfl, by decide⟩
    · exact ⟨13, rfl, by decide⟩
  have g0 : GP 0 60 (.tup [.str "each", .int 1]) := gp_leaf (.inr rfl) (by decide) (by decide)
  obtain ⟨y1, p, e3, gp⟩ := price_loop S2 (some (.loc 0)) none v (srcR 0 (j : Int)).items none g0
  rw [src_len] at gp
  have gp : GP 13 2660 p := gp.mono (by omega) (by omega)
  have g1 : GP 1 200 (.tup [.str "plus", .tup [.str "money", .int 1], .tup [.str "each", .int 2]]) := (gp_bin (x := "plus") (.inl rfl) (gp_leaf (x := "money") (i := 1) (.inl rfl) (by decide) (by decide)) (gp_leaf (x := "each") (i := 2) (.inr rfl) (by decide) (by decide))).mono (by omega) (by omega)
  obtain ⟨z1, q, e4, gq⟩ := parts_loop S2 (some (.loc 0)) (some p) (some (.int v)) (srcR 0 ((4 : Nat) : Int)).items y1 g1
  rw [src_len] at gq
  have gq : GP 13 3840 q := gq.mono (by decide) (by decide)
  have gr : GP 14 20000 (.tup [.str "plus", p, q]) := (gp_bin (x := "plus") (.inl rfl) gp gq).mono (by omega) (by omega)
  obtain ⟨r, S3, e5, m5, b3⟩ := some_any (things := .lst [p, q, .tup [.str "plus", p, q]]) b2 (.inr rfl) (by simp) (by simp)
  have gf : GP 14 20000 r := by
    simp only [List.mem_cons, List.not_mem_nil, or_false] at m5
    rcases m5 with rfl | rfl | rfl
    · exact gp.mono (by omega) (by omega)
    · exact gq.mono (by omega) (by omega)
    · exact gr
  refine ⟨r, S3, ?_, gf, b3⟩
  have s1 := fun S => src_small (j := j) (by omega) S
  have s2 : ∀ S, srcR1 [.int 4] S = .ok (srcR 0 4) S := fun S => src_small (j := 4) (by decide) S
  have chk : ∀ k : Int, (srcR 0 k).chk = fun _ => true := fun _ => rfl
  unfold m__law_large
  simp only [x_body]
  show SR.out (seqM _ _ [some (.loc 0), none, none, none, none] S) = _
  rw [seq_nx (ρ' := [some (.loc 0), none, none, some (.tup [.str "each", .int 1]), some (.int v)]) (S' := S1) (by simp [parM, tupM, callM, consM, nilM, M.bind, varM, var, M.pure, cM, e1, l2, SR.of])]
  rw [seq_nx (ρ' := [some (.loc 0), y1, none, some p, some (.int v)]) (S' := S2) (by
    have : rngI1 (consM (callM 2 m__law_some (consM (varM 0) (consM (lstM (consM (cM (.int 11)) (consM (cM (.int 12)) (consM (cM (.int 13)) nilM)))) nilM))) nilM) [some (.loc 0), none, none, some (.tup [.str "each", .int 1]), some (.int v)] S1 = .ok (srcR 0 j) S2 := by
      simp [rngI1, callM, consM, nilM, lstM, M.bind, varM, var, M.pure, cM, l3, e2, s1]
    unfold forM
    rw [this]
    simp only [x_of_ok, chk]
    exact e3)]
  rw [seq_set (d := .tup [.str "plus", .tup [.str "money", .int 1], .tup [.str "each", .int 2]]) (S' := S2) (by simp [tupM, consM, nilM, M.bind, M.pure, cM, l3, l2])]
  simp only [List.set]
  rw [seq_nx (ρ' := [some (.loc 0), z1, some q, some p, some (.int v)]) (S' := S2) (by
    have : rngI1 (consM (cM (.int 4)) nilM) [some (.loc 0), y1, some (.tup [.str "plus", .tup [.str "money", .int 1], .tup [.str "each", .int 2]]), some p, some (.int v)] S2 = .ok (srcR 0 4) S2 := by
      simp [rngI1, consM, nilM, M.bind, M.pure, cM, s2]
    unfold forM
    rw [this]
    simp only [x_of_ok, chk]
    exact e4)]
  simp [callM, lstM, tupM, consM, nilM, M.bind, varM, var, M.pure, cM, l3, e5, SR.of]
end PyM
set_option Elab.async false
set_option linter.all false
set_option maxRecDepth 100000
set_option maxHeartbeats 8000000
namespace PyM
open PySem PySem.Spec PyProof.Rows L2
variable {ns es ds : List D} {sh : D}
theorem rep_map {d d' : D} : ∀ (ds : List D) (j : Nat), ds[j]? = some d → firstD d' = firstD d → (ds.take j ++ [d'] ++ ds.drop (j + 1)).map firstD = ds.map firstD
  | [], j, h, _ => by simp at h
  | a :: r, 0, h, hf => by
    simp at h
    subst h
    simp [hf]
  | a :: r, j + 1, h, hf => by
    have h' : r[j]? = some d := by simpa using h
    have := rep_map r j h' hf
    simp at this ⊢
    exact this
theorem Good.rep (h : Good ns es ds sh) {j : Nat} {d d' : D} {L : List D} (hL : L = ds.take j ++ [d'] ++ ds.drop (j + 1)) (hj : ds[j]? = some d) (hf : firstD d' = firstD d) (hd : ∃ nm, DeedG 14 20000 nm d') : Good ns es L sh := by
  have hm := rep_map ds j hj hf
  rw [← hL] at hm
  have hlen : L.length = ds.length := by
    have := congrArg List.length hm
    simpa using this
  have hmem : ∀ x ∈ L, x ∈ ds ∨ x = d' := fun x hx => by
    rw [hL] at hx
    rcases List.mem_append.mp hx with hx | hx
    · rcases List.mem_append.mp hx with hx | hx
      · exact .inl (List.mem_of_mem_take hx)
      · exact .inr (List.mem_singleton.mp hx)
    · exact .inl (List.mem_of_mem_drop hx)
  refine { h with dk := ?_, d0 := ?_, dl := ?_, dr := ?_, dq := ?_ }
  · intro x hx
    rcases hmem x hx with hx | rfl
    · exact h.dk x hx
    · exact hd
  · intro z
    rw [z] at hlen
    exact h.d0 (List.length_eq_zero_iff.mp hlen.symm)
  · rw [hlen]
    exact h.dl
  · rw [hm]
    exact h.dr
  · intro x hx
    rcases hmem x hx with hx | rfl
    · exact h.dq x hx
    · rw [hf]
      exact h.dq d (List.mem_of_getElem? hj)
theorem at_last {ds : List D} (h : ds ≠ []) : ∃ d, atI ds (-1) = some d ∧ d ∈ ds := by
  have hl : 0 < ds.length := List.length_pos_iff.mpr h
  have hj : ds.length - 1 < ds.length := by omega
  refine ⟨ds[ds.length - 1], ?_, List.getElem_mem hj⟩
  unfold atI ixN
  rw [if_neg (by decide), if_pos (by omega)]
  have : ((-1 : Int) + (ds.length : Int)).toNat = ds.length - 1 := by omega
  simp only [Option.bind, this]
  exact List.getElem?_eq_getElem hj
/-- one deed of a good shop -/
theorem Good.pick (h : Good ns es ds sh) {S R : Store} (hb : Bag S R) : ∃ (j : Nat) (x : Str) (b e p : D) (S' : Store), m__law_take [.loc 0, .int ds.length] S = .ok (.int (j : Int)) S' ∧ Bag S' R ∧ ds[j]? = some (.tup [.str x, b, e, p]) ∧ DeedG 14 20000 (.str x) (.tup [.str x, b, e, p]) ∧ j < ds.length := by
  have hl : 0 < ds.length := List.length_pos_iff.mpr h.d0
  have h12 := h.dl
  obtain ⟨v, S1, e1, v0, v1, b1⟩ := take_any (many := ds.length) hb (by omega) (by omega)
  obtain ⟨j, rfl⟩ : ∃ j : Nat, v = (j : Int) := ⟨v.toNat, by omega⟩
  have hj : j < ds.length := by omega
  obtain ⟨_, x, b, e, p, h1, h2, h3, h4, h5, h6, h7⟩ := h.dk ds[j] (List.getElem_mem hj)
  exact ⟨j, x, b, e, p, S1, e1, b1, by rw [List.getElem?_eq_getElem hj, h4], ⟨x, b, e, p, rfl, h2, h3, rfl, h5, h6, h7⟩, hj⟩
theorem bent_any (h : Good ns es ds sh) {S R : Store} (hb : Bag S R) : ∃ ns' es' ds' sh' S', m__law_bent [.loc 0, shopD ns es ds sh] S = .ok (shopD ns' es' ds' sh') S' ∧ Good ns' es' ds' sh' ∧ Bag S' R := by
  have l1 := len_ok 1 (by decide)
  have l2 := len_ok 2 (by decide)
  have l3 := len_ok 3 (by decide)
  have l4 := len_ok 4 (by decide)
  have h12 := h.dl
  obtain ⟨v, S1, e1, v0, v1, b1⟩ := take_any (many := 6) hb (by decide) (by decide)
  have nope := nope_name
  obtain ⟨n0, hn0, hn1⟩ : ∃ d, atI ns (0 : Int) = some d ∧ NameD d := by
    cases hns : ns with
    | nil => exact absurd hns h.n0
    | cons d r => exact ⟨d, at_0 _ _, h.nw d (by rw [hns]; simp)⟩
  have pre : ∀ m : MSt, (bodyM 9 (seqM (asgM (gT (gs1 (gN 3) (gs1 (gN 4) (gs1 (gN 5) (gs1 (gN 6) gs0))))) (varM 1)) (seqM (setM 2 (callM 2 m__law_take (consM (varM 0) (consM (cM (.int 6)) nilM)))) m))) [.loc 0, shopD ns es ds sh] S = SR.out (m [some (.loc 0), some (shopD ns es ds sh), some (.int v), some (.tup ns), some (.tup es), some (.tup ds), some sh, none, none] S1) := fun m => by
    simp only [x_body]
    show SR.out (seqM _ _ [some (.loc 0), some (shopD ns es ds sh), none, none, none, none, none, none, none] S) = _
    rw [seq_nx (ρ' := [some (.loc 0), some (shopD ns es ds sh), none, some (.tup ns), some (.tup es), some (.tup ds), some sh, none, none]) (S' := S) (by rfl)]
    rw [seq_set (d := .int v) (S' := S1) (by simp [callM, consM, nilM, M.bind, varM, var, M.pure, cM, e1])]
    rfl
  have i3 : ∀ S, ixP S (.tup ns) (.int 0) = some n0 := fun S => hn0
  have hcase : v = 0 ∨ v = 1 ∨ v = 2 ∨ v = 3 ∨ v = 4 ∨ v = 5 := by omega
  rcases hcase with rfl | rfl | rfl | rfl | rfl | rfl
  · refine ⟨ns, [.str "nope"], ds, sh, S1, ?_, { h with ew := ?_, e0 := by simp, el := by simp, er := rfl }, b1⟩
    · unfold m__law_bent
      rw [pre]
      simp [tV, toB, bin2, M.bind, varM, var, M.pure, cM, M.op2, eq_ints, M.lift, asB, tupM, consM, nilM, l1, l4, SR.of, SR.bind]
    · intro d hd
      simp only [List.mem_cons, List.not_mem_nil, or_false] at hd
      subst hd
      exact nope
  · obtain ⟨j, x, b, e, p, S2, e2, b2, hj, hd, hjl⟩ := h.pick b1
    obtain ⟨o, S3, e3, m3, b3⟩ := some_any (things := .lst [.tup [.str "nope", n0], .tup [n0, .str "nope"]]) b2 (.inr rfl) (by simp) (by simp)
    obtain ⟨_, _, _, _, hx0, hx, hxn, hx1, hb5, he5, hp5⟩ := hd.ex
    injection hx0 with hx0
    subst hx0
    injection hx1 with hx1
    injection hx1 with hx2 hx1
    injection hx1 with hb1 hx1
    injection hx1 with he1 hx1
    injection hx1 with hp1 _
    subst hb1 he1 hp1
    obtain ⟨o1, o2, rfl, w1, w2⟩ : ∃ o1 o2, o = .tup [o1, o2] ∧ NameD o1 ∧ NameD o2 := by
      simp only [List.mem_cons, List.not_mem_nil, or_false] at m3
      rcases m3 with rfl | rfl
      · exact ⟨_, _, rfl, nope, hn1⟩
      · exact ⟨_, _, rfl, hn1, nope⟩
    have hlen : ∀ S, lenP S [.tup ds] = some (.int ds.length) := fun S => len_tup S ds
    have ij : ∀ S, ixP S (.tup ds) (.int (j : Int)) = some (.tup [.str x, b, e, p]) := fun S => atI_nat hj
    have s1 : ∀ S, slP S (.tup [.str x, b, e, p]) none (some 1) = some (.tup [.str x]) := fun S => by
      rw [sl_tup, show (1 : Int) = ((1 : Nat) : Int) from rfl, cut_take]
      rfl
    have s3 : ∀ S, slP S (.tup [.str x, b, e, p]) (some 3) none = some (.tup [p]) := fun S => by
      rw [sl_tup, cut_from _ _ (by decide)]
      rfl
    have a1 : ∀ S, addP S (.tup [.str x]) (.tup [o1, o2]) = some (.tup [.str x, o1, o2]) := fun S => add_tups S _ _ (by simpa using l3)
    have a2 : ∀ S, addP S (.tup [.str x, o1, o2]) (.tup [p]) = some (.tup [.str x, o1, o2, p]) := fun S => add_tups S _ _ (by simpa using l4)
    obtain ⟨T, hT⟩ : ∃ T, T = ds.take j := ⟨_, rfl⟩
    obtain ⟨U, hU⟩ : ∃ U, U = ds.drop (j + 1) := ⟨_, rfl⟩
    obtain ⟨L1, q1⟩ : ∃ L, L = T ++ [.tup [.str x, o1, o2, p]] := ⟨_, rfl⟩
    obtain ⟨L, q2⟩ : ∃ L, L = L1 ++ U := ⟨_, rfl⟩
    have lT : T.length ≤ 12 := by rw [hT, List.length_take]; omega
    have lU : U.length ≤ 12 := by rw [hU, List.length_drop]; omega
    have lL : L1.length ≤ 13 := by rw [q1, List.length_append, List.length_singleton]; omega
    have t1 : ∀ S, slP S (.tup ds) none (some (j : Int)) = some (.tup T) := fun S => by rw [sl_tup, cut_take, hT]
    have t2 : ∀ S, slP S (.tup ds) (some ((j : Int) + 1)) none = some (.tup U) := fun S => by
      rw [sl_tup, cut_from _ _ (by omega), hU]
      have : ((j : Int) + 1).toNat = j + 1 := by omega
      rw [this]
    have a3 : ∀ S, addP S (.tup T) (.tup [.tup [.str x, o1, o2, p]]) = some (.tup L1) := fun S => by
      rw [add_tups S _ _ (len_ok _ (by simp; omega)), q1]
    have a4 : ∀ S, addP S (.tup L1) (.tup U) = some (.tup L) := fun S => by
      rw [add_tups S _ _ (len_ok _ (by omega)), q2]
    refine ⟨ns, es, L, sh, S3, ?_, h.rep (j := j) (d := .tup [.str x, b, e, p]) (d' := .tup [.str x, o1, o2, p]) (by rw [q2, q1, hT, hU]) hj rfl ⟨.str x, ⟨x, o1, o2, p, rfl, hx, hxn, rfl, w1, w2, hp5⟩⟩, b3⟩
    unfold m__law_bent
    rw [pre]
    simp [tV, toB, bin2, bltM, M.opL, callM, M.bind, varM, var, M.pure, cM, M.op2, eq_ints, M.lift, asB, tupM, lstM, consM, nilM, slM, noP, opP, optI, asI, opS, add_ints, hlen, e2, ij, s1, s3, i3, e3, a1, a2, t1, t2, a3, a4, l1, l2, l4, SR.of, SR.bind]
  · obtain ⟨dl, hl1, hl2⟩ := at_last h.d0
    obtain ⟨df, hf1, hf2⟩ : ∃ d, atI ds (0 : Int) = some d ∧ d ∈ ds := by
      cases hds : ds with
      | nil => exact absurd hds h.d0
      | cons d r => exact ⟨d, at_0 _ _, by simp⟩
    obtain ⟨_, xl, bl, el, pl, _, hxl, hnl, rfl, _, _, _⟩ := h.dk dl hl2
    obtain ⟨_, xf, bf, ef, pf, _, hxf, hnf, rfl, _, _, _⟩ := h.dk df hf2
    obtain ⟨o, S3, e3, m3, b3⟩ := some_any (things := .lst [.str "nope", .str xl, .str xf]) b1 (.inr rfl) (by simp) (by simp)
    have j1 : ∀ S, ixP S (.tup ds) (.int (-1)) = some (.tup [.str xl, bl, el, pl]) := fun S => hl1
    have j2 : ∀ S, ixP S (.tup ds) (.int 0) = some (.tup [.str xf, bf, ef, pf]) := fun S => hf1
    have j3 : ∀ S, ixP S (.tup [.str xl, bl, el, pl]) (.int 0) = some (.str xl) := fun S => at_0 _ _
    have j4 : ∀ S, ixP S (.tup [.str xf, bf, ef, pf]) (.int 0) = some (.str xf) := fun S => at_0 _ _
    refine ⟨ns, es, ds, o, S3, ?_, { h with hs := ?_ }, b3⟩
    · unfold m__law_bent
      rw [pre]
      simp [tV, toB, bin2, un1, M.op1, neg_int, callM, M.bind, varM, var, M.pure, cM, M.op2, eq_ints, M.lift, asB, tupM, lstM, consM, nilM, j1, j2, j3, j4, e3, l3, l4, SR.of, SR.bind]
    · refine .inr ?_
      simp only [List.mem_cons, List.not_mem_nil, or_false] at m3
      rcases m3 with rfl | rfl | rfl
      · exact nope
      · exact ⟨⟨xl, hxl, rfl⟩, hnl⟩
      · exact ⟨⟨xf, hxf, rfl⟩, hnf⟩
  · obtain ⟨j, x, b, e, p, S2, e2, b2, hj, hd, hjl⟩ := h.pick b1
    obtain ⟨g, S3, e3, gg, b3⟩ := large_any b2
    obtain ⟨_, _, _, _, hx0, hx, hxn, hx1, hb5, he5, hp5⟩ := hd.ex
    injection hx0 with hx0
    subst hx0
    injection hx1 with hx1
    injection hx1 with hx2 hx1
    injection hx1 with hb1 hx1
    injection hx1 with he1 hx1
    injection hx1 with hp1 _
    subst hb1 he1 hp1
    have hlen : ∀ S, lenP S [.tup ds] = some (.int ds.length) := fun S => len_tup S ds
    have ij : ∀ S, ixP S (.tup ds) (.int (j : Int)) = some (.tup [.str x, b, e, p]) := fun S => atI_nat hj
    have s3 : ∀ S, slP S (.tup [.str x, b, e, p]) none (some 3) = some (.tup [.str x, b, e]) := fun S => by
      rw [sl_tup, show (3 : Int) = ((3 : Nat) : Int) from rfl, cut_take]
      rfl
    have a1 : ∀ S, addP S (.tup [.str x, b, e]) (.tup [g]) = some (.tup [.str x, b, e, g]) := fun S => add_tups S _ _ (by simpa using l4)
    obtain ⟨T, hT⟩ : ∃ T, T = ds.take j := ⟨_, rfl⟩
    obtain ⟨U, hU⟩ : ∃ U, U = ds.drop (j + 1) := ⟨_, rfl⟩
    obtain ⟨L1, q1⟩ : ∃ L, L = T ++ [.tup [.str x, b, e, g]] := ⟨_, rfl⟩
    obtain ⟨L, q2⟩ : ∃ L, L = L1 ++ U := ⟨_, rfl⟩
    have lT : T.length ≤ 12 := by rw [hT, List.length_take]; omega
    have lU : U.length ≤ 12 := by rw [hU, List.length_drop]; omega
    have lL : L1.length ≤ 13 := by rw [q1, List.length_append, List.length_singleton]; omega
    have t1 : ∀ S, slP S (.tup ds) none (some (j : Int)) = some (.tup T) := fun S => by rw [sl_tup, cut_take, hT]
    have t2 : ∀ S, slP S (.tup ds) (some ((j : Int) + 1)) none = some (.tup U) := fun S => by
      rw [sl_tup, cut_from _ _ (by omega), hU]
      have : ((j : Int) + 1).toNat = j + 1 := by omega
      rw [this]
    have a3 : ∀ S, addP S (.tup T) (.tup [.tup [.str x, b, e, g]]) = some (.tup L1) := fun S => by
      rw [add_tups S _ _ (len_ok _ (by simp; omega)), q1]
    have a4 : ∀ S, addP S (.tup L1) (.tup U) = some (.tup L) := fun S => by
      rw [add_tups S _ _ (len_ok _ (by omega)), q2]
    refine ⟨ns, es, L, sh, S3, ?_, h.rep (j := j) (d := .tup [.str x, b, e, p]) (d' := .tup [.str x, b, e, g]) (by rw [q2, q1, hT, hU]) hj rfl ⟨.str x, ⟨x, b, e, g, rfl, hx, hxn, rfl, hb5, he5, gg⟩⟩, b3⟩
    unfold m__law_bent
    rw [pre]
    simp [tV, toB, bin2, bltM, M.opL, callM, M.bind, varM, var, M.pure, cM, M.op2, eq_ints, M.lift, asB, tupM, lstM, consM, nilM, slM, noP, opP, optI, asI, opS, add_ints, hlen, e2, ij, s3, i3, e3, a1, t1, t2, a3, a4, l1, l2, l4, SR.of, SR.bind]
  · have hr : ∀ S, revP S (.tup ns) = some (.tup ns.reverse) := fun S => rfl
    refine ⟨ns.reverse, es, ds, sh, S1, ?_, { h with nw := fun d hd => h.nw d (List.mem_reverse.mp hd), n0 := ?_, nl := by rw [List.length_reverse]; exact h.nl, nn := (List.reverse_perm ns).nodup_iff.mpr h.nn, nq := fun d hd => h.nq d (List.mem_reverse.mp hd) }, b1⟩
    · unfold m__law_bent
      rw [pre]
      generalize ns.reverse = nr at *
      simp [tV, toB, bin2, ifV, revM, un1, M.op1, hr, M.bind, varM, var, M.pure, cM, M.op2, eq_ints, M.lift, asB, tupM, consM, nilM, l4, SR.of, SR.bind]
    · intro z
      exact h.n0 (List.reverse_eq_nil_iff.mp z)
  · refine ⟨ns, es, ds, sh, S1, ?_, h, b1⟩
    unfold m__law_bent
    rw [pre]
    simp [tV, toB, bin2, ifV, M.bind, varM, var, M.pure, cM, M.op2, eq_ints, M.lift, asB, SR.of, SR.bind]
end PyM
set_option Elab.async false
set_option linter.all false
set_option maxRecDepth 100000
set_option maxHeartbeats 8000000
namespace PyM
open PySem PySem.Spec PyProof.Rows L2
variable {ns es ds : List D} {sh : D}
theorem ne_same {n w : Nat} {ds : List D} (h : ShD n w (.tup ds)) (hn : n ≤ 60) (S : Store) : neP S (.tup ds) (.tup ds) = some (.bl false) := by
  obtain ⟨p, h1, h2, h3, h4, h5⟩ := h S
  have hsh : SeqAt.shaped p = true := by
    unfold SeqAt.shaped
    rw [h2]
    simp
    omega
  unfold neP eqQ
  simp only [scalD]
  unfold eqDeep
  simp [h1, hsh, SeqAt.eqv_refl p h2]
theorem lc_none {g : D → Env' → Option Env'} {mt : Env' → M Bool} {me : Env' → M D} {ρ : Env'} : ∀ {ds : List D} (S : Store), (∀ d ∈ ds, ∀ S, ∃ ρ2 S', g d ρ = some ρ2 ∧ Ext S S' ∧ mt ρ2 S = .ok false S') → ∃ S', Ext S S' ∧ lcL (fun _ => true) g mt me ρ ds S = .ok [] S'
  | [], S, _ => ⟨S, .refl S, rfl⟩
  | d :: ds, S, h => by
    obtain ⟨ρ2, S1, e1, x1, e2⟩ := h d (by simp) S
    obtain ⟨S2, x2, e3⟩ := lc_none (me := me) (ds := ds) S1 (fun d' hd => h d' (by simp [hd]))
    refine ⟨S2, x1.trans x2, ?_⟩
    unfold lcL
    simp [e1, e2, e3]
abbrev tryLarge : MSt := (tryM subT (ifM (orM (tV (bin2 isnP (callM 1 m_check_price (consM (varM 5) nilM)) (cM .non))) (orM (tV (bin2 gtP (varM 8) (cM (.int 12)))) (tV (bin2 gtP (varM 9) (cM (.int 40))))))
  (retM (cM (.bl false)))
  nilS) [⟨"TooLarge", (some 11), fun a dx c fn ds => (ifM (orM (tV (bin2 neP (tupM (consM (fldM flT a dx c fn 11 "what") (consM (fldM flT a dx c fn 11 "limit") nilM))) (ifV (tV (bin2 gtP (varM 8) (cM (.int 12)))) (tupM (consM (cM (.str "deep")) (consM (cM (.int 12)) nilM))) (tupM (consM (cM (.str "parts")) (consM (cM (.int 40)) nilM)))))) (andM (tV (bin2 leP (varM 8) (cM (.int 12)))) (tV (bin2 leP (varM 9) (cM (.int 40))))))
  (retM (cM (.bl false)))
  nilS)⟩])
theorem try_large (S : Store) {p : D} (h : GP 14 20000 p) (x0 x1 x2 x3 x4 x6 x7 x10 : Option D) : tryLarge [x0, x1, x2, x3, x4, some p, x6, x7, some (.int (deepF 20 p)), some (.int (partsF 20 p)), x10, none] S = .nx [x0, x1, x2, x3, x4, some p, x6, x7, some (.int (deepF 20 p)), some (.int (partsF 20 p)), x10, none] S := by
  have l2 := len_ok 2 (by decide)
  have e := fun S => check_price_run h.v (by decide) S
  simp only [h.b 20 (by decide), if_true] at e
  by_cases c1 : 12 < deepF 20 p
  · have q : sizeFault p = (some ("large", .str "deep", .int 12) : Option Fault) := if_pos c1
    rw [q] at e
    have e' : ∀ S, m_check_price [p] S = .exc "TooLarge" [("what", .str "deep"), ("limit", .int 12)] S := fun S => by
      rw [e]
      simp [excOf]
    have hne := fun S => ne_same (sh2 (s_deep 1) (s_12 1)) (by decide) S
    have c1' : ¬ (deepF 20 p ≤ 12) := by omega
    simp [tryM, catchM, runH, wipeR, noExc, sub_tt, fldM, fl_t, fl_l, fd_1, fd_l, tupM, callM, consM, nilM, M.bind, M.lift, cM, varM, var, M.pure, e', l2, SR.of, SR.bind, orM, andM, ifV, tV, toB, bin2, M.op2, asB, gtP, leP, c1, c1', hne]
  · by_cases c2 : 40 < partsF 20 p
    · have q : sizeFault p = (some ("large", .str "parts", .int 40) : Option Fault) := by
        unfold sizeFault
        rw [if_neg c1, if_pos c2]
      rw [q] at e
      have e' : ∀ S, m_check_price [p] S = .exc "TooLarge" [("what", .str "parts"), ("limit", .int 40)] S := fun S => by
        rw [e]
        simp [excOf]
      have hne := fun S => ne_same (sh2 (s_parts 1) (s_40 1)) (by decide) S
      have c1' : deepF 20 p ≤ 12 := by omega
      have c2' : ¬ (partsF 20 p ≤ 40) := by omega
      simp [tryM, catchM, runH, wipeR, noExc, sub_tt, fldM, fl_t, fl_l, fd_1, fd_l, tupM, callM, consM, nilM, M.bind, M.lift, cM, varM, var, M.pure, e', l2, SR.of, SR.bind, orM, andM, ifV, tV, toB, bin2, M.op2, asB, gtP, leP, c1, c1', c2, c2', hne]
    · have q : sizeFault p = none := by
        unfold sizeFault
        rw [if_neg c1, if_neg c2]
      rw [q] at e
      simp [tryM, callM, consM, nilM, M.bind, M.lift, cM, varM, var, M.pure, e, SR.of, SR.bind, orM, tV, toB, bin2, M.op2, asB, gtP, c1, c2, isn_non, isNonD]
abbrev nameTurn : MSt := (ifM (notT (tV (callM 2 m__law_alike (consM (callM 2 m_deeds_from (consM (varM 3) (consM (varM 6) nilM))) (consM (bltM tupleP (consM (lcM (seqI (bin2 ixP (varM 3) (cM (.int 2)))) (gN 10) (tV (bin2 eqP (bin2 ixP (varM 10) (cM (.int 1))) (varM 6))) (varM 10) [10]) nilM)) nilM)))))
  (retM (cM (.bl false)))
  nilS)
theorem Good.from_sh (h : Good ns es ds sh) (f : D → Bool) : ShD 17 250000 (.tup (ds.filter f)) := by
  have hl : (ds.filter f).length ≤ 12 := Nat.le_trans (List.length_filter_le _ _) h.dl
  exact (sh_tup (n := 16) (sh_list fun d hd => h.sh_deed d (List.mem_filter.mp hd).1)).mono (by omega) (by omega)
theorem name_loop (h : Good ns es ds sh) (hf : faultOf ns es ds sh = none) (x0 x1 x2 x4 x5 x7 x8 x9 x10 x11 : Option D) : ∀ (its : List D) (S : Store) (x6 : Option D), (∀ d ∈ its, d ∈ ns) →
    ∃ y6 S', Ext S S' ∧ loopS (fun _ => true) (gN 6) nameTurn its [x0, x1, x2, some (shopD ns es ds sh), x4, x5, x6, x7, x8, x9, x10, x11] S = .nx [x0, x1, x2, some (shopD ns es ds sh), x4, x5, y6, x7, x8, x9, x10, x11] S'
  | [], S, x6, _ => ⟨x6, S, .refl S, rfl⟩
  | nm :: its, S, x6, hi => by
    have hm := hi nm (by simp)
    have hn := h.nw nm hm
    obtain ⟨S1, x1', e1⟩ := h.from_run hf hn hm S
    obtain ⟨y6, S2, x2', e2⟩ := name_loop h hf x0 x1 x2 x4 x5 x7 x8 x9 x10 x11 its S1 (some nm) (fun d hd => hi d (by simp [hd]))
    refine ⟨y6, S2, x1'.trans x2', ?_⟩
    have i2 : ∀ S, ixP S (shopD ns es ds sh) (.int 2) = some (.tup ds) := fun S => at_2 _ _ _ _
    have hlc : lcL (fun _ => true) (gN 10) (tV (bin2 eqP (bin2 ixP (varM 10) (cM (.int 1))) (varM 6))) (varM 10) [x0, x1, x2, some (shopD ns es ds sh), x4, x5, some nm, x7, x8, x9, none, x11] ds S1 = .ok (ds.filter fun d => eqB (secD d) nm) S1 := by
      have := lc_filter (g := gN 10) (mt := tV (bin2 eqP (bin2 ixP (varM 10) (cM (.int 1))) (varM 6))) (me := varM 10) (ρ := [x0, x1, x2, some (shopD ns es ds sh), x4, x5, some nm, x7, x8, x9, none, x11]) (S := S1) (f := fun d => eqB (secD d) nm) (h := id) (ds := ds) (fun d hd => ⟨_, rfl, by
        obtain ⟨_, x, b, e, p, _, h2, h3, rfl, h5, h6, h7⟩ := h.dk d hd
        have i1 : ∀ S, ixP S (.tup [.str x, b, e, p]) (.int 1) = some b := fun S => at_1 _ _ _
        have e1 := (eq_run S1 h5.1 hn.1).1
        simp [tV, toB, bin2, M.bind, varM, var, M.pure, cM, M.op2, i1, e1, M.lift, asB, secD], fun _ => rfl⟩)
      rw [List.map_id] at this
      exact this
    have hsz : (ds.filter fun d => eqB (secD d) nm).length ≤ sizeLine := Nat.le_trans (List.length_filter_le _ _) (len_ok _ (by have := h.dl; omega))
    have hal := alike_self (h.from_sh fun d => eqB (secD d) nm) (by decide) (by decide) S1
    have hun : loopS (fun _ => true) (gN 6) nameTurn (nm :: its) [x0, x1, x2, some (shopD ns es ds sh), x4, x5, x6, x7, x8, x9, x10, x11] S = (match nameTurn [x0, x1, x2, some (shopD ns es ds sh), x4, x5, some nm, x7, x8, x9, x10, x11] S with
        | .nx ρ2 S2 => loopS (fun _ => true) (gN 6) nameTurn its ρ2 S2
        | .ct ρ2 S2 => loopS (fun _ => true) (gN 6) nameTurn its ρ2 S2
        | .bk ρ2 S2 => .nx ρ2 S2
        | r => r) := by rfl
    have hb : nameTurn [x0, x1, x2, some (shopD ns es ds sh), x4, x5, some nm, x7, x8, x9, x10, x11] S = .nx [x0, x1, x2, some (shopD ns es ds sh), x4, x5, some nm, x7, x8, x9, x10, x11] S1 := by
      generalize shopD ns es ds sh = d at *
      generalize (ds.filter fun d => eqB (secD d) nm) = fs at *
      simp [notT, tV, toB, callM, consM, nilM, bin2, bltM, M.opL, M.bind, varM, var, M.pure, cM, M.op2, e1, i2, lcM, lcI, seqI, srcA, wipeE, hlc, hsz, tuple_lst, hal, M.lift, asB, SR.of]
    rw [hun, hb]
    exact e2
abbrev oddTurn : MSt := (tryM subT (seqM (exprM (callM 2 m__law_odd_call (consM (varM 3) (consM (varM 7) nilM))))
  (retM (cM (.bl false)))) [⟨"Nothing", none, fun a dx c fn ds => ctM⟩])
theorem odd_loop (h : Good ns es ds sh) (hf : faultOf ns es ds sh = none) (x0 x1 x2 x4 x5 x6 x8 x9 x10 x11 : Option D) : ∀ (its : List D) (S : Store) (x7 : Option D), (∀ d ∈ its, ∃ w : Int, d = .int w ∧ (w = 0 ∨ w = 1 ∨ w = 2 ∨ w = 3 ∨ w = 4)) →
    ∃ y7 S', Ext S S' ∧ loopS (fun _ => true) (gN 7) oddTurn its [x0, x1, x2, some (shopD ns es ds sh), x4, x5, x6, x7, x8, x9, x10, x11] S = .nx [x0, x1, x2, some (shopD ns es ds sh), x4, x5, x6, y7, x8, x9, x10, x11] S'
  | [], S, x7, _ => ⟨x7, S, .refl S, rfl⟩
  | d :: its, S, x7, hi => by
    obtain ⟨w, rfl, hw⟩ := hi d (by simp)
    obtain ⟨S1, x1', e1⟩ := h.odd_run hf hw S
    obtain ⟨y7, S2, x2', e2⟩ := odd_loop h hf x0 x1 x2 x4 x5 x6 x8 x9 x10 x11 its S1 (some (.int w)) (fun d hd => hi d (by simp [hd]))
    refine ⟨y7, S2, x1'.trans x2', ?_⟩
    have hun : loopS (fun _ => true) (gN 7) oddTurn (.int w :: its) [x0, x1, x2, some (shopD ns es ds sh), x4, x5, x6, x7, x8, x9, x10, x11] S = (match oddTurn [x0, x1, x2, some (shopD ns es ds sh), x4, x5, x6, some (.int w), x8, x9, x10, x11] S with
        | .nx ρ2 S2 => loopS (fun _ => true) (gN 7) oddTurn its ρ2 S2
        | .ct ρ2 S2 => loopS (fun _ => true) (gN 7) oddTurn its ρ2 S2
        | .bk ρ2 S2 => .nx ρ2 S2
        | r => r) := by rfl
    have hb : oddTurn [x0, x1, x2, some (shopD ns es ds sh), x4, x5, x6, some (.int w), x8, x9, x10, x11] S = .ct [x0, x1, x2, some (shopD ns es ds sh), x4, x5, x6, some (.int w), x8, x9, x10, x11] S1 := by
      generalize shopD ns es ds sh = d at *
      have hb0 : seqM (exprM (callM 2 m__law_odd_call (consM (varM 3) (consM (varM 7) nilM)))) (retM (cM (.bl false))) [x0, x1, x2, some d, x4, x5, x6, some (.int w), x8, x9, x10, x11] S = .exc [x0, x1, x2, some d, x4, x5, x6, some (.int w), x8, x9, x10, x11] "Nothing" [] S1 := by
        simp [exprM, callM, consM, nilM, M.bind, varM, var, M.pure, e1, SR.of]
      unfold oddTurn tryM
      rw [hb0]
      simp [catchM, runH, noExc, sub_nn, ctM]
    rw [hun, hb]
    exact e2
end PyM
set_option Elab.async false
set_option linter.all false
set_option maxRecDepth 100000
set_option maxHeartbeats 8000000
namespace PyM
open PySem PySem.Spec PyProof.Rows L2
abbrev deedLc : Env' → M D := (lcM (seqI (bin2 ixP (varM 3) (cM (.int 2)))) (gN 10) (tV (bin2 neP (callM 2 m_deed_of (consM (varM 3) (consM (bin2 ixP (varM 10) (cM (.int 0))) nilM))) (varM 10))) (varM 10) [10])
abbrev lawTurn : MSt :=
  (seqM (setM 3 (callM 2 m__law_bent (consM (varM 1) (consM (callM 2 m__law_bent (consM (varM 1) (consM (callM 1 m__law_big_shop (consM (varM 1) nilM)) nilM))) nilM))))
  (seqM (setM 4 (callM 1 m__law_due_of (consM (varM 3) nilM)))
  (seqM (ifM (notT (tV (callM 2 m__law_alike (consM (callM 1 m__law_told_of (consM (varM 3) nilM)) (consM (varM 4) nilM)))))
  (retM (cM (.bl false)))
  nilS)
  (seqM (setM 5 (callM 1 m__law_large (consM (varM 1) nilM)))
  (seqM (asgM (gT (gs1 (gN 8) (gs1 (gN 9) gs0))) (callM 1 (m__law_size 20) (consM (varM 5) nilM)))
  (seqM tryLarge
  (seqM (ifM (tV (bin2 neP (bin2 ixP (varM 4) (cM (.int 0))) (cM (.str "told"))))
  ctM
  nilS)
  (seqM (ifM (tV (bin2 neP deedLc (lstM nilM)))
  (retM (cM (.bl false)))
  nilS)
  (seqM (forM (seqI (bin2 ixP (varM 3) (cM (.int 0)))) (gN 6) nameTurn)
  (forM (rngI1 (consM (cM (.int 5)) nilM)) (gN 7) oddTurn))))))))))
theorem law_is : m_law = bodyM 12 (seqM (setM 1 (callM 1 m__law_bag (consM (varM 0) nilM)))
  (seqM (forM (rngI1 (consM (cM (.int 10)) nilM)) (gN 2) lawTurn)
  (retM (cM (.bl true))))) := rfl
theorem shop_told : ((Str.ofString "shop" = Str.ofString "told") = False) := eq_false (by decide +kernel)
theorem large_told : ((Str.ofString "large" = Str.ofString "told") = False) := eq_false (by decide +kernel)
theorem ne_nil_nil (S : Store) : neP S (.lst []) (.lst []) = some (.bl false) := by
  have := ne_lst_nil S (ds := []) (by simp) (by simp)
  simpa using this
theorem law_turn {S R : Store} (hb : Bag S R) (s t x3 x4 x5 x6 x7 x8 x9 x10 : Option D) : ∃ y3 y4 y5 y6 y7 y8 y9 y10 S' R', (lawTurn [s, some (.loc 0), t, x3, x4, x5, x6, x7, x8, x9, x10, none] S = .nx [s, some (.loc 0), t, y3, y4, y5, y6, y7, y8, y9, y10, none] S' ∨ lawTurn [s, some (.loc 0), t, x3, x4, x5, x6, x7, x8, x9, x10, none] S = .ct [s, some (.loc 0), t, y3, y4, y5, y6, y7, y8, y9, y10, none] S') ∧ Bag S' R' := by
  have l0 := len_ok 0 (by decide)
  obtain ⟨ns0, es0, ds0, sh0, S1, R1, e1, g0, b1⟩ := shop_good hb
  obtain ⟨ns1, es1, ds1, sh1, S2, e2, g1, b2⟩ := bent_any g0 b1
  obtain ⟨ns, es, ds, sh, S3, e3, g, b3⟩ := bent_any g1 b2
  have e4 := g.due S3
  obtain ⟨S4, x4', e5⟩ := g.told_run S3
  obtain ⟨R4, b4⟩ := x4'.bag b3
  obtain ⟨xs, q1, q2⟩ := g.due_sh
  have e6 := alike_self q2 (by decide) (by decide) S4
  rw [← q1] at e6
  obtain ⟨p, S5, e7, gp, b5⟩ := large_any b4
  have e8 := size_run 15 20 S5 gp.v gp.t (by decide)
  have fin : ∀ {ρ : Env'} {S' : Store} {r : SR}, r = r := rfl
  -- walking ahead
  have walk : lawTurn [s, some (.loc 0), t, x3, x4, x5, x6, x7, x8, x9, x10, none] S = (seqM (ifM (tV (bin2 neP (bin2 ixP (varM 4) (cM (.int 0))) (cM (.str "told")))) ctM nilS)
      (seqM (ifM (tV (bin2 neP deedLc (lstM nilM))) (retM (cM (.bl false))) nilS)
      (seqM (forM (seqI (bin2 ixP (varM 3) (cM (.int 0)))) (gN 6) nameTurn)
      (forM (rngI1 (consM (cM (.int 5)) nilM)) (gN 7) oddTurn)))) [s, some (.loc 0), t, some (shopD ns es ds sh), some (dueD ns es ds sh), some p, x6, x7, some (.int (deepF 20 p)), some (.int (partsF 20 p)), x10, none] S5 := by
    have e1' : m__law_big_shop [.loc 0] S = .ok (shopD ns0 es0 ds0 sh0) S1 := e1
    generalize shopD ns0 es0 ds0 sh0 = d0 at *
    generalize shopD ns1 es1 ds1 sh1 = d1 at *
    generalize shopD ns es ds sh = d at *
    generalize dueD ns es ds sh = du at *
    refine (seq_set (d := d) (S' := S3) ?_).trans ?_
    · simp [callM, consM, nilM, M.bind, varM, var, M.pure, e1', e2, e3]
    simp only [List.set]
    refine (seq_set (d := du) (S' := S3) ?_).trans ?_
    · simp [callM, consM, nilM, M.bind, varM, var, M.pure, e4]
    simp only [List.set]
    refine (seq_skip (S' := S4) ?_).trans ?_
    · simp [notT, tV, toB, callM, consM, nilM, M.bind, varM, var, M.pure, e5, e6, M.lift, asB]
    refine (seq_set (d := p) (S' := S5) ?_).trans ?_
    · simp [callM, consM, nilM, M.bind, varM, var, M.pure, e7]
    simp only [List.set]
    refine (seq_nx (ρ' := [s, some (.loc 0), t, some d, some du, some p, x6, x7, some (.int (deepF 20 p)), some (.int (partsF 20 p)), x10, none]) (S' := S5) ?_).trans ?_
    · simp [asgM, callM, consM, nilM, M.bind, varM, var, M.pure, e8, SR.of, gT, gs1, gs0, gN, SR.opt]
    exact seq_nx (try_large S5 gp _ _ _ _ _ _ _ _)
  rw [walk]
  cases hf : faultOf ns es ds sh with
  | some f =>
    have hdu : dueD ns es ds sh = .tup [.str f.1, f.2.1, f.2.2] := by
      unfold dueD
      rw [hf]
    rw [hdu]
    have i0 : ∀ S, ixP S (.tup [.str f.1, f.2.1, f.2.2]) (.int 0) = some (.str f.1) := fun S => at_0 _ _
    have hne : decide (f.1 = "told") = false := by
      rcases (g.fok hf).1 with q | q
      · rw [q]
        decide +kernel
      · rw [q]
        decide +kernel
    refine ⟨some (shopD ns es ds sh), some (.tup [.str f.1, f.2.1, f.2.2]), some p, x6, x7, some (.int (deepF 20 p)), some (.int (partsF 20 p)), x10, S5, R4, .inr ?_, b5⟩
    generalize shopD ns es ds sh = d at *
    rw [seq_take (S' := S5) (by simp [tV, toB, bin2, M.bind, varM, var, M.pure, cM, M.op2, i0, ne_strs, hne, M.lift, asB])]
    rfl
  | none =>
    have hdu : dueD ns es ds sh = .tup [.str "told", shopD ns es ds sh] := by
      unfold dueD
      rw [hf]
    rw [hdu]
    have i0 : ∀ S, ixP S (.tup [.str "told", shopD ns es ds sh]) (.int 0) = some (.str "told") := fun S => at_0 _ _
    have k0 : ∀ S, ixP S (shopD ns es ds sh) (.int 0) = some (.tup ns) := fun S => at_0 _ _
    have k2 : ∀ S, ixP S (shopD ns es ds sh) (.int 2) = some (.tup ds) := fun S => at_2 _ _ _ _
    rw [seq_skip (S' := S5) (by
      generalize shopD ns es ds sh = d at *
      simp [tV, toB, bin2, M.bind, varM, var, M.pure, cM, M.op2, i0, ne_strs, M.lift, asB])]
    obtain ⟨S6, x6', e9⟩ := lc_none (g := gN 10) (mt := tV (bin2 neP (callM 2 m_deed_of (consM (varM 3) (consM (bin2 ixP (varM 10) (cM (.int 0))) nilM))) (varM 10))) (me := varM 10) (ρ := [s, some (.loc 0), t, some (shopD ns es ds sh), some (.tup [.str "told", shopD ns es ds sh]), some p, x6, x7, some (.int (deepF 20 p)), some (.int (partsF 20 p)), none, none]) (ds := ds) S5 (fun d hd S => by
        obtain ⟨S', x', e⟩ := g.deed_at hf hd S
        have hsh := g.sh_deed d hd
        obtain ⟨_, x, b, e', pr, _, h2, h3, rfl, h5, h6, h7⟩ := g.dk d hd
        have hne := fun S => ne_same hsh (by decide) S
        have j0 : ∀ S, ixP S (.tup [.str x, b, e', pr]) (.int 0) = some (.str x) := fun S => at_0 _ _
        have e : m_deed_of [shopD ns es ds sh, .str x] S = .ok (.tup [.str x, b, e', pr]) S' := e
        refine ⟨_, S', rfl, x', ?_⟩
        generalize shopD ns es ds sh = d at *
        simp [tV, toB, bin2, callM, consM, nilM, M.bind, varM, var, M.pure, cM, M.op2, j0, e, hne, M.lift, asB])
    obtain ⟨y6, S7, x7', e10⟩ := name_loop g hf s (some (.loc 0)) t (some (.tup [.str "told", shopD ns es ds sh])) (some p) x7 (some (.int (deepF 20 p))) (some (.int (partsF 20 p))) x10 none ns S6 x6 (fun d hd => hd)
    obtain ⟨y7, S8, x8', e11⟩ := odd_loop g hf s (some (.loc 0)) t (some (.tup [.str "told", shopD ns es ds sh])) (some p) y6 (some (.int (deepF 20 p))) (some (.int (partsF 20 p))) x10 none (srcR 0 5).items S7 x7 (fun d hd => by
      have : (srcR 0 5).items = [.int 0, .int 1, .int 2, .int 3, .int 4] := by rfl
      rw [this] at hd
      simp only [List.mem_cons, List.not_mem_nil, or_false] at hd
      rcases hd with rfl | rfl | rfl | rfl | rfl
      · exact ⟨0, rfl, by decide⟩
      · exact ⟨1, rfl, by decide⟩
      · exact ⟨2, rfl, by decide⟩
      · exact ⟨3, rfl, by decide⟩
      · exact ⟨4, rfl, by decide⟩)
    obtain ⟨R8, b8⟩ := ((x6'.trans x7').trans x8').bag b5
    refine ⟨some (shopD ns es ds sh), some (.tup [.str "told", shopD ns es ds sh]), some p, y6, y7, some (.int (deepF 20 p)), some (.int (partsF 20 p)), x10, S8, R8, .inl ?_, b8⟩
    have s5 : ∀ S, srcR1 [.int 5] S = .ok (srcR 0 5) S := fun S => src_small (j := 5) (by decide) S
    have chk : ∀ k : Int, (srcR 0 k).chk = fun _ => true := fun _ => rfl
    rw [seq_skip (S' := S6) (by
      generalize shopD ns es ds sh = d at *
      simp [tV, toB, lcM, lcI, seqI, srcA, wipeE, lstM, nilM, bin2, M.bind, varM, var, M.pure, cM, M.op2, k2, e9, ne_nil_nil, l0, M.lift, asB])]
    rw [seq_for (items := ns) (by
      generalize shopD ns es ds sh = d at *
      simp [seqI, bin2, M.bind, varM, var, M.pure, cM, M.op2, k0, srcA])]
    rw [e10]
    simp only [x_sbind_nx]
    unfold forM
    simp only [rngI1, consM, nilM, M.bind, cM, M.pure, s5, SR.of, chk]
    exact e11
theorem law_loop (s : Option D) : ∀ (its : List D) {S R : Store} (t x3 x4 x5 x6 x7 x8 x9 x10 : Option D), Bag S R → ∃ ρ' S', loopS (fun _ => true) (gN 2) lawTurn its [s, some (.loc 0), t, x3, x4, x5, x6, x7, x8, x9, x10, none] S = .nx ρ' S'
  | [], S, R, t, x3, x4, x5, x6, x7, x8, x9, x10, _ => ⟨_, S, rfl⟩
  | d :: its, S, R, t, x3, x4, x5, x6, x7, x8, x9, x10, hb => by
    obtain ⟨y3, y4, y5, y6, y7, y8, y9, y10, S1, R1, e1, b1⟩ := law_turn hb s (some d) x3 x4 x5 x6 x7 x8 x9 x10
    obtain ⟨ρ', S', e2⟩ := law_loop s its (some d) y3 y4 y5 y6 y7 y8 y9 y10 b1
    refine ⟨ρ', S', ?_⟩
    have hun : loopS (fun _ => true) (gN 2) lawTurn (d :: its) [s, some (.loc 0), t, x3, x4, x5, x6, x7, x8, x9, x10, none] S = (match lawTurn [s, some (.loc 0), some d, x3, x4, x5, x6, x7, x8, x9, x10, none] S with
        | .nx ρ2 S2 => loopS (fun _ => true) (gN 2) lawTurn its ρ2 S2
        | .ct ρ2 S2 => loopS (fun _ => true) (gN 2) lawTurn its ρ2 S2
        | .bk ρ2 S2 => .nx ρ2 S2
        | r => r) := by rfl
    rw [hun]
    rcases e1 with e1 | e1
    · rw [e1]
      exact e2
    · rw [e1]
      exact e2
/-- the plain law -/
theorem plain_law (ns : List Int) (h : ns.length ≤ 63) : ∃ S', m_law [.scr (ns.map .int)] [] = .ok (.bl true) S' := by
  have e1 := bag_made ns h []
  have b1 : Bag [bagC 0 1234567891 0 (ns.map absI)] [] := ⟨0, 1234567891, 0, ns.map absI, rfl, by decide, by decide, by simpa using h⟩
  have hsrc : ∀ S, srcR1 [.int 10] S = .ok (srcR 0 10) S := fun S => src_small (j := 10) (by decide) S
  obtain ⟨ρ', S', e2⟩ := law_loop (some (.scr (ns.map .int))) (srcR 0 10).items none none none none none none none none none b1
  refine ⟨S', ?_⟩
  rw [law_is]
  have hchk : (srcR 0 10).chk = fun _ => true := rfl
  simp only [x_body]
  refine (congrArg SR.out ((seq_set (d := .loc 0) (S' := [bagC 0 1234567891 0 (ns.map absI)]) ?_).trans ?_)).trans (b := SR.out (.rt (.bl true) S')) rfl
  · simp [callM, consM, nilM, M.bind, varM, var, M.pure, e1]
  · have e3 : forM (rngI1 (consM (cM (.int 10)) nilM)) (gN 2) lawTurn [some (.scr (ns.map .int)), some (.loc 0), none, none, none, none, none, none, none, none, none, none] [bagC 0 1234567891 0 (ns.map absI)] = .nx ρ' S' := by
      unfold forM
      simp only [rngI1, consM, nilM, M.bind, cM, M.pure, hsrc, SR.of, hchk]
      exact e2
    show seqM _ _ [some (.scr (ns.map .int)), some (.loc 0), none, none, none, none, none, none, none, none, none, none] [bagC 0 1234567891 0 (ns.map absI)] = _
    unfold seqM
    rw [e3]
    rfl
end PyM
set_option Elab.async false
set_option linter.all false
set_option maxRecDepth 100000
set_option maxHeartbeats 4000000
namespace PyM
open PySem PySem.Spec PyProof.Rows L2
/-- a def as the top has left it -/
structure FAt (K : W.Frag) (x : Str) (i : Nat) : Prop where
  ex : ∃ (f : Addr) (oc : Value) (od : Option Addr) (kV dc pm : Value) (an : Option Addr) (cd ct : Value) (sl : Array (Option Value)), W.nsIn K mainGlobals x = some (some (.ref f)) ∧
    K.lookup f = some ⟨oc, od, .func (W.fnOf x x (defArgs (top i)) (defBody (top i)) (defScope (top i)) .none kV dc pm an cd ct), sl⟩ ∧ W.codeIn K cd x = true ∧ W.keepIn K (.ref f) = true
theorem FAt.of {K : W.Frag} {x : Str} {i : Nat} {f : Addr} {oc : Value} {od : Option Addr} {kV dc pm : Value} {an : Option Addr} {cd ct : Value} {sl : Array (Option Value)} (a : W.nsIn K mainGlobals x = some (some (.ref f)))
    (l : K.lookup f = some ⟨oc, od, .func (W.fnOf x x (defArgs (top i)) (defBody (top i)) (defScope (top i)) .none kV dc pm an cd ct), sl⟩) (c : W.codeIn K cd x = true) (k : W.keepIn K (.ref f) = true) : FAt K x i := ⟨f, oc, od, kV, dc, pm, an, cd, ct, sl, a, l, c, k⟩
theorem FAt.fnd {K : W.Frag} {h : Heap} {mg : Str → Option Value} {x : Str} {i : Nat} {ps : List Str} (F : FAt K x i) (X : K.In h) (G : h.Ns mainGlobals mg)
    (hb : ∀ (kV doc pm : Value) (an : Option Addr) (cdv ct : Value) (us : List Value), us.length = ps.length → bindArgs (W.fnOf x x (defArgs (top i)) (defBody (top i)) (defScope (top i)) .none kV doc pm an cdv ct) ⟨us, []⟩ = pure (ps.zip us)) : Fnd K mg x i ps := by
  obtain ⟨f, oc, od, kV, dc, pm, an, cd, ct, sl, a, l, c, k⟩ := F.ex
  have F1 := fun_mk (st := top i) l c k
  exact ⟨f, _, F1, W.mg_of X G a, F1.binds hb⟩
/-- constants -/
inductive StrsV : List Value → List Str → Prop
  | nil : StrsV [] []
  | cons (x : Str) (t : Tok) {us : List Value} {xs : List Str} : StrsV us xs → StrsV (.str x t :: us) (x :: xs)
theorem StrsV.vals : ∀ {us : List Value} {xs : List Str}, StrsV us xs → Vals (xs.map V.str) us
  | _, _, .nil => .nil
  | _, _, .cons x t h => .cons ⟨t, rfl⟩ h.vals
theorem con_int {K : W.Frag} {h : Heap} {mg : Str → Option Value} {x : Str} {i : Int} {t : Tok} (X : K.In h) (G : h.Ns mainGlobals mg) (e : W.nsIn K mainGlobals x = some (some (.int i t))) : Con K mg x (.int i) := ⟨.int i, _, W.mg_of X G e, ⟨t, rfl⟩, fun _ _ => .int i⟩
theorem con_str {K : W.Frag} {h : Heap} {mg : Str → Option Value} {x z : Str} {t : Tok} (X : K.In h) (G : h.Ns mainGlobals mg) (e : W.nsIn K mainGlobals x = some (some (.str z t))) : Con K mg x (.str z) := ⟨.str z, _, W.mg_of X G e, ⟨t, rfl⟩, fun _ _ => .str z⟩
theorem strs_denM {K : W.Frag} {mg : Str → Option Value} {μ : Pl} {H : Hp} : ∀ (xs : List Str), DenL K mg μ H (xs.map V.str) (xs.map D.str)
  | [] => .nil
  | x :: xs => .cons (.str x) (strs_denM xs)
theorem con_tup {K : W.Frag} {h : Heap} {mg : Str → Option Value} {x : Str} {a : Addr} {oc : Value} {od : Option Addr} {its : List Value} {n : Nat} {sl : Array (Option Value)} {xs : List Str} (X : K.In h) (G : h.Ns mainGlobals mg) (e : W.nsIn K mainGlobals x = some (some (.ref a)))
    (l : K.lookup a = some ⟨oc, od, .seq its.toArray n, sl⟩) (c : oc = .type "tuple") (v : StrsV its xs) (hl : xs.length ≤ 1000) : Con K mg x (.tup (xs.map .str)) := by
  refine ⟨.ref a, _, W.mg_of X G e, rfl, fun μ H => .tup (.inr ⟨_, its.toArray, n, l, c, rfl, ?_, by simpa using v.vals⟩) (strs_denM xs)⟩
  have := v.vals.length
  have hs := sizeLine_eq
  simp at this ⊢
  omega

theorem all_k {P : Program} {w : World} {K : W.Frag} {h : Heap} {mg : Str → Option Value} {C_BadShop : Addr} {nm_BadShop q_BadShop qu_BadShop fi_BadShop : Str} {N_BadShop f_BadShop cda_BadShop cc_BadShop : Addr} {bs_BadShop bm_BadShop sub_BadShop : List Value} {sn_BadShop : List Str} {ab_BadShop : Bool} {col_BadShop : Option Bool} {dd_BadShop od_BadShop an_BadShop cdd_BadShop cld_BadShop : Option Addr} {m0_BadShop m1_BadShop m2_BadShop m3_BadShop m5_BadShop : Option Value} {oc_BadShop kV_BadShop dc_BadShop pm_BadShop ct_BadShop ccl_BadShop cl_BadShop : Value} {vs_BadShop : Array Value} {sl_BadShop ccs_BadShop csl_BadShop : Array (Option Value)} {tf_BadShop : Tok} {C_Nothing : Addr} {C_TooLarge : Addr} {nm_TooLarge q_TooLarge qu_TooLarge fi_TooLarge : Str} {N_TooLarge f_TooLarge cda_TooLarge cc_TooLarge : Addr} {bs_TooLarge bm_TooLarge sub_TooLarge : List Value} {sn_TooLarge : List Str} {ab_TooLarge : Bool} {col_TooLarge : Option Bool} {dd_TooLarge od_TooLarge an_TooLarge cdd_TooLarge cld_TooLarge : Option Addr} {m0_TooLarge m1_TooLarge m2_TooLarge m3_TooLarge m5_TooLarge : Option Value} {oc_TooLarge kV_TooLarge dc_TooLarge pm_TooLarge ct_TooLarge ccl_TooLarge cl_TooLarge : Value} {vs_TooLarge : Array Value} {sl_TooLarge ccs_TooLarge csl_TooLarge : Array (Option Value)} {tf_TooLarge : Tok} (X : K.In h) (G : h.Ns mainGlobals mg)
    (F_is_number : FAt K "is_number" 20)
    (F_is_between : FAt K "is_between" 21)
    (F_is_name : FAt K "is_name" 22)
    (F_is_sized : FAt K "is_sized" 23)
    (F_is_one_of : FAt K "is_one_of" 25)
    (F_is_money : FAt K "is_money" 26)
    (F_is_plain_price : FAt K "is_plain_price" 27)
    (F_is_price : FAt K "is_price" 28)
    (F_is_deed : FAt K "is_deed" 29)
    (F_is_tuple_of : FAt K "is_tuple_of" 24)
    (F_is_ascending : FAt K "is_ascending" 30)
    (F_is_shop : FAt K "is_shop" 31)
    (F_inner : FAt K "inner" 35)
    (F_deep : FAt K "deep" 36)
    (F_many_parts : FAt K "many_parts" 37)
    (F_check_size : FAt K "check_size" 38)
    (F_check_price : FAt K "check_price" 39)
    (F_check_shop : FAt K "check_shop" 40)
    (F_checked_shop : FAt K "checked_shop" 41)
    (F_deed_of : FAt K "deed_of" 42)
    (F_deeds_from : FAt K "deeds_from" 43)
    (F__law_size : FAt K "_law_size" 45)
    (F__law_take : FAt K "_law_take" 46)
    (F__law_some : FAt K "_law_some" 47)
    (F__law_bag : FAt K "_law_bag" 48)
    (F__law_mixed : FAt K "_law_mixed" 49)
    (F__law_big_price : FAt K "_law_big_price" 50)
    (F__law_big_shop : FAt K "_law_big_shop" 51)
    (F__law_alike : FAt K "_law_alike" 52)
    (F__law_due_of : FAt K "_law_due_of" 53)
    (F__law_told_of : FAt K "_law_told_of" 54)
    (F__law_large : FAt K "_law_large" 55)
    (F__law_bent : FAt K "_law_bent" 56)
    (F__law_odd_call : FAt K "_law_odd_call" 57)
    (F_law : FAt K "law" 58)
    (B_abs : W.nsIn K mainGlobals "abs" = some none)
    (B_all : W.nsIn K mainGlobals "all" = some none)
    (B_bool : W.nsIn K mainGlobals "bool" = some none)
    (B_int : W.nsIn K mainGlobals "int" = some none)
    (B_isinstance : W.nsIn K mainGlobals "isinstance" = some none)
    (B_len : W.nsIn K mainGlobals "len" = some none)
    (B_list : W.nsIn K mainGlobals "list" = some none)
    (B_max : W.nsIn K mainGlobals "max" = some none)
    (B_range : W.nsIn K mainGlobals "range" = some none)
    (B_repr : W.nsIn K mainGlobals "repr" = some none)
    (B_sorted : W.nsIn K mainGlobals "sorted" = some none)
    (B_str : W.nsIn K mainGlobals "str" = some none)
    (B_sum : W.nsIn K mainGlobals "sum" = some none)
    (B_tuple : W.nsIn K mainGlobals "tuple" = some none)
    (B_zip : W.nsIn K mainGlobals "zip" = some none)
    (C_DIGITS : Con K mg "DIGITS" c_DIGITS)
    (C_LETTERS : Con K mg "LETTERS" c_LETTERS)
    (C_MOST_ABOVE : Con K mg "MOST_ABOVE" c_MOST_ABOVE)
    (C_MOST_DEEDS : Con K mg "MOST_DEEDS" c_MOST_DEEDS)
    (C_MOST_DEEP : Con K mg "MOST_DEEP" c_MOST_DEEP)
    (C_MOST_FROM : Con K mg "MOST_FROM" c_MOST_FROM)
    (C_MOST_LETTERS : Con K mg "MOST_LETTERS" c_MOST_LETTERS)
    (C_MOST_MONEY : Con K mg "MOST_MONEY" c_MOST_MONEY)
    (C_MOST_PACK : Con K mg "MOST_PACK" c_MOST_PACK)
    (C_MOST_PARTS : Con K mg "MOST_PARTS" c_MOST_PARTS)
    (C_MOST_STANDINGS : Con K mg "MOST_STANDINGS" c_MOST_STANDINGS)
    (C_MOST_UNDER : Con K mg "MOST_UNDER" c_MOST_UNDER)
    (C_PAIRS : Con K mg "PAIRS" c_PAIRS)
    (C_RESERVED : Con K mg "RESERVED" c_RESERVED)
    (C_WAYS : Con K mg "WAYS" c_WAYS)
    (A_BadShop : W.nsIn K mainGlobals "BadShop" = some (some (.ref C_BadShop)))
    (k_BadShop : W.keepIn K (.ref C_BadShop) = true)
    (ic_BadShop : W.isClsIn K C_BadShop = true)
    (s_BadShop : W.subIn K (.ref C_BadShop) (.type "BaseException") = some true)
    (t_BadShop : W.typeIn K (.ref C_BadShop) = some (.type "type"))
    (ga_BadShop : W.findIn K (.ref C_BadShop) "__getattribute__" = some (some (.builtin "BaseException.__getattribute__")))
    (gg_BadShop : W.findIn K (.ref C_BadShop) "__getattr__" = some none)
    (hd_BadShop : W.hasDictIn K C_BadShop = true)
    (l_BadShop : K.lookup C_BadShop = some (excClassObj nm_BadShop q_BadShop C_BadShop N_BadShop bs_BadShop bm_BadShop true sn_BadShop sub_BadShop ab_BadShop col_BadShop dd_BadShop m0_BadShop m1_BadShop m2_BadShop m3_BadShop m5_BadShop "ValueError.__new__"))
    (v_BadShop : PySem.HandSPX.refsVE bm_BadShop = true)
    (sa_BadShop : W.findIn K (.ref C_BadShop) "__setattr__" = some (some (.builtin "object.__setattr__")))
    (np_BadShop : W.findIn K (.ref C_BadShop) "where" = some none)
    (nq_BadShop : W.findIn K (.ref C_BadShop) "fault" = some none)
    (i_BadShop : W.findIn K (.ref C_BadShop) "__init__" = some (some (.ref f_BadShop)))
    (ti_BadShop : W.typeIn K (.ref f_BadShop) = some (.type "function"))
    (su_BadShop : W.ks_superIn K C_BadShop C_BadShop "__init__" = some (some (.builtin "ValueError.__init__")))
    (sv_BadShop : W.subIn K (.ref C_BadShop) (.type "ValueError") = some true)
    (se_BadShop : W.mroIn K C_BadShop (.ref C_BadShop) = some true)
    (lf_BadShop : K.lookup f_BadShop = some ⟨oc_BadShop, od_BadShop, .func (W.ksFn "__init__" qu_BadShop (defArgs (clsDef (top 3) 0)) (defBody (clsDef (top 3) 0)) (defScope (clsDef (top 3) 0)) .none kV_BadShop dc_BadShop pm_BadShop an_BadShop (.ref cda_BadShop) ct_BadShop cc_BadShop), sl_BadShop⟩)
    (cf_BadShop : W.codeIn K (.ref cda_BadShop) qu_BadShop = true)
    (lcd_BadShop : K.lookup cda_BadShop = some ⟨ccl_BadShop, cdd_BadShop, .fields vs_BadShop, ccs_BadShop⟩)
    (hv_BadShop : vs_BadShop[2]? = some (.str fi_BadShop tf_BadShop))
    (hf_BadShop : ((P.main.file : Str) == fi_BadShop) = true)
    (lcc_BadShop : K.lookup cc_BadShop = some ⟨cl_BadShop, cld_BadShop, .cell (some (.ref C_BadShop)), csl_BadShop⟩)
    (A_Nothing : W.nsIn K mainGlobals "Nothing" = some (some (.ref C_Nothing)))
    (k_Nothing : W.keepIn K (.ref C_Nothing) = true)
    (ic_Nothing : W.isClsIn K C_Nothing = true)
    (s_Nothing : W.subIn K (.ref C_Nothing) (.type "BaseException") = some true)
    (t_Nothing : W.typeIn K (.ref C_Nothing) = some (.type "type"))
    (ga_Nothing : W.findIn K (.ref C_Nothing) "__getattribute__" = some (some (.builtin "BaseException.__getattribute__")))
    (gg_Nothing : W.findIn K (.ref C_Nothing) "__getattr__" = some none)
    (hd_Nothing : W.hasDictIn K C_Nothing = true)
    (x_Nothing : W.excIn K C_Nothing [.type "ValueError", .type "Exception", .type "BaseException", .type "object"] "ValueError.__new__" = true)
    (A_TooLarge : W.nsIn K mainGlobals "TooLarge" = some (some (.ref C_TooLarge)))
    (k_TooLarge : W.keepIn K (.ref C_TooLarge) = true)
    (ic_TooLarge : W.isClsIn K C_TooLarge = true)
    (s_TooLarge : W.subIn K (.ref C_TooLarge) (.type "BaseException") = some true)
    (t_TooLarge : W.typeIn K (.ref C_TooLarge) = some (.type "type"))
    (ga_TooLarge : W.findIn K (.ref C_TooLarge) "__getattribute__" = some (some (.builtin "BaseException.__getattribute__")))
    (gg_TooLarge : W.findIn K (.ref C_TooLarge) "__getattr__" = some none)
    (hd_TooLarge : W.hasDictIn K C_TooLarge = true)
    (l_TooLarge : K.lookup C_TooLarge = some (excClassObj nm_TooLarge q_TooLarge C_TooLarge N_TooLarge bs_TooLarge bm_TooLarge true sn_TooLarge sub_TooLarge ab_TooLarge col_TooLarge dd_TooLarge m0_TooLarge m1_TooLarge m2_TooLarge m3_TooLarge m5_TooLarge "ValueError.__new__"))
    (v_TooLarge : PySem.HandSPX.refsVE bm_TooLarge = true)
    (sa_TooLarge : W.findIn K (.ref C_TooLarge) "__setattr__" = some (some (.builtin "object.__setattr__")))
    (np_TooLarge : W.findIn K (.ref C_TooLarge) "what" = some none)
    (nq_TooLarge : W.findIn K (.ref C_TooLarge) "limit" = some none)
    (i_TooLarge : W.findIn K (.ref C_TooLarge) "__init__" = some (some (.ref f_TooLarge)))
    (ti_TooLarge : W.typeIn K (.ref f_TooLarge) = some (.type "function"))
    (su_TooLarge : W.ks_superIn K C_TooLarge C_TooLarge "__init__" = some (some (.builtin "ValueError.__init__")))
    (sv_TooLarge : W.subIn K (.ref C_TooLarge) (.type "ValueError") = some true)
    (se_TooLarge : W.mroIn K C_TooLarge (.ref C_TooLarge) = some true)
    (lf_TooLarge : K.lookup f_TooLarge = some ⟨oc_TooLarge, od_TooLarge, .func (W.ksFn "__init__" qu_TooLarge (defArgs (clsDef (top 5) 0)) (defBody (clsDef (top 5) 0)) (defScope (clsDef (top 5) 0)) .none kV_TooLarge dc_TooLarge pm_TooLarge an_TooLarge (.ref cda_TooLarge) ct_TooLarge cc_TooLarge), sl_TooLarge⟩)
    (cf_TooLarge : W.codeIn K (.ref cda_TooLarge) qu_TooLarge = true)
    (lcd_TooLarge : K.lookup cda_TooLarge = some ⟨ccl_TooLarge, cdd_TooLarge, .fields vs_TooLarge, ccs_TooLarge⟩)
    (hv_TooLarge : vs_TooLarge[2]? = some (.str fi_TooLarge tf_TooLarge))
    (hf_TooLarge : ((P.main.file : Str) == fi_TooLarge) = true)
    (lcc_TooLarge : K.lookup cc_TooLarge = some ⟨cl_TooLarge, cld_TooLarge, .cell (some (.ref C_TooLarge)), csl_TooLarge⟩)
    (opq : W.nsIn K cStatics "thirdparty.any" = some none)
    (nosup : W.nsIn K mainGlobals "super" = some none)
    (topn : (P.main.scope.names.lookup ("super" : Str)).isSome = false)
    (e_BadShop_BadShop : W.subIn K (.ref C_BadShop) (.ref C_BadShop) = some true)
    (e_BadShop_Nothing : W.subIn K (.ref C_BadShop) (.ref C_Nothing) = some false)
    (e_BadShop_TooLarge : W.subIn K (.ref C_BadShop) (.ref C_TooLarge) = some false)
    (e_Nothing_BadShop : W.subIn K (.ref C_Nothing) (.ref C_BadShop) = some false)
    (e_Nothing_Nothing : W.subIn K (.ref C_Nothing) (.ref C_Nothing) = some true)
    (e_Nothing_TooLarge : W.subIn K (.ref C_Nothing) (.ref C_TooLarge) = some false)
    (e_TooLarge_BadShop : W.subIn K (.ref C_TooLarge) (.ref C_BadShop) = some false)
    (e_TooLarge_Nothing : W.subIn K (.ref C_TooLarge) (.ref C_Nothing) = some false)
    (e_TooLarge_TooLarge : W.subIn K (.ref C_TooLarge) (.ref C_TooLarge) = some true) :
    ∀ base : Heap, K.In base → base.Ns mainGlobals mg → Def P w K mg base (L2.CX P w) 31 "law" 1 m_law := by
  intro base _ _
  have g_BadShop := W.mg_of X G A_BadShop
  have g_Nothing := W.mg_of X G A_Nothing
  have g_TooLarge := W.mg_of X G A_TooLarge
  have Sb : Subs K mg subT := by
    intro c h b C Hc hs h1 h2
    unfold subT at hs
    split at hs
    · rename_i z
      obtain ⟨rfl, rfl⟩ := z
      obtain rfl := Option.some.inj hs
      rw [g_BadShop] at h1
      rw [g_BadShop] at h2
      cases h1
      cases h2
      exact exm_of s_BadShop ic_BadShop t_BadShop e_BadShop_BadShop
    split at hs
    · rename_i z
      obtain ⟨rfl, rfl⟩ := z
      obtain rfl := Option.some.inj hs
      rw [g_BadShop] at h1
      rw [g_Nothing] at h2
      cases h1
      cases h2
      exact exm_of s_Nothing ic_Nothing t_Nothing e_BadShop_Nothing
    split at hs
    · rename_i z
      obtain ⟨rfl, rfl⟩ := z
      obtain rfl := Option.some.inj hs
      rw [g_BadShop] at h1
      rw [g_TooLarge] at h2
      cases h1
      cases h2
      exact exm_of s_TooLarge ic_TooLarge t_TooLarge e_BadShop_TooLarge
    split at hs
    · rename_i z
      obtain ⟨rfl, rfl⟩ := z
      obtain rfl := Option.some.inj hs
      rw [g_Nothing] at h1
      rw [g_BadShop] at h2
      cases h1
      cases h2
      exact exm_of s_BadShop ic_BadShop t_BadShop e_Nothing_BadShop
    split at hs
    · rename_i z
      obtain ⟨rfl, rfl⟩ := z
      obtain rfl := Option.some.inj hs
      rw [g_Nothing] at h1
      rw [g_Nothing] at h2
      cases h1
      cases h2
      exact exm_of s_Nothing ic_Nothing t_Nothing e_Nothing_Nothing
    split at hs
    · rename_i z
      obtain ⟨rfl, rfl⟩ := z
      obtain rfl := Option.some.inj hs
      rw [g_Nothing] at h1
      rw [g_TooLarge] at h2
      cases h1
      cases h2
      exact exm_of s_TooLarge ic_TooLarge t_TooLarge e_Nothing_TooLarge
    split at hs
    · rename_i z
      obtain ⟨rfl, rfl⟩ := z
      obtain rfl := Option.some.inj hs
      rw [g_TooLarge] at h1
      rw [g_BadShop] at h2
      cases h1
      cases h2
      exact exm_of s_BadShop ic_BadShop t_BadShop e_TooLarge_BadShop
    split at hs
    · rename_i z
      obtain ⟨rfl, rfl⟩ := z
      obtain rfl := Option.some.inj hs
      rw [g_TooLarge] at h1
      rw [g_Nothing] at h2
      cases h1
      cases h2
      exact exm_of s_Nothing ic_Nothing t_Nothing e_TooLarge_Nothing
    split at hs
    · rename_i z
      obtain ⟨rfl, rfl⟩ := z
      obtain rfl := Option.some.inj hs
      rw [g_TooLarge] at h1
      rw [g_TooLarge] at h2
      cases h1
      cases h2
      exact exm_of s_TooLarge ic_TooLarge t_TooLarge e_TooLarge_TooLarge
    cases hs
  have Fl : Flds K mg flT := by
    intro c f C hs h1
    unfold flT at hs
    simp only [Bool.or_eq_true, decide_eq_true_eq] at hs
    rcases hs with ((⟨rfl, rfl⟩ | ⟨rfl, rfl⟩) | ⟨rfl, rfl⟩) | ⟨rfl, rfl⟩
    · rw [g_BadShop] at h1
      cases h1
      exact ⟨⟨ga_BadShop, gg_BadShop, s_BadShop, hd_BadShop⟩, np_BadShop⟩
    · rw [g_BadShop] at h1
      cases h1
      exact ⟨⟨ga_BadShop, gg_BadShop, s_BadShop, hd_BadShop⟩, nq_BadShop⟩
    · rw [g_TooLarge] at h1
      cases h1
      exact ⟨⟨ga_TooLarge, gg_TooLarge, s_TooLarge, hd_TooLarge⟩, np_TooLarge⟩
    · rw [g_TooLarge] at h1
      cases h1
      exact ⟨⟨ga_TooLarge, gg_TooLarge, s_TooLarge, hd_TooLarge⟩, nq_TooLarge⟩
  have T : Txt P K mg := ⟨W.mg_none_of X G B_abs, W.mg_none_of X G B_all, W.mg_none_of X G B_bool, W.mg_none_of X G B_int, W.mg_none_of X G B_isinstance, W.mg_none_of X G B_len, W.mg_none_of X G B_list, W.mg_none_of X G B_max, W.mg_none_of X G B_range, W.mg_none_of X G B_repr, W.mg_none_of X G B_sorted, W.mg_none_of X G B_str, W.mg_none_of X G B_sum, W.mg_none_of X G B_tuple, W.mg_none_of X G B_zip, C_DIGITS, C_LETTERS, C_MOST_ABOVE, C_MOST_DEEDS, C_MOST_DEEP, C_MOST_FROM, C_MOST_LETTERS, C_MOST_MONEY, C_MOST_PACK, C_MOST_PARTS, C_MOST_STANDINGS, C_MOST_UNDER, C_PAIRS, C_RESERVED, C_WAYS, ⟨C_BadShop, g_BadShop⟩, ⟨C_BadShop, f_BadShop, g_BadShop, ⟨⟨nm_BadShop, q_BadShop, N_BadShop, bs_BadShop, bm_BadShop, sn_BadShop, sub_BadShop, ab_BadShop, col_BadShop, dd_BadShop, m0_BadShop, m1_BadShop, m2_BadShop, m3_BadShop, m5_BadShop, l_BadShop, v_BadShop⟩, sa_BadShop, s_BadShop, t_BadShop, k_BadShop⟩, np_BadShop, nq_BadShop, i_BadShop, ti_BadShop, su_BadShop, sv_BadShop, se_BadShop, opq, W.mg_none_of X G nosup, ⟨qu_BadShop, oc_BadShop, od_BadShop, kV_BadShop, dc_BadShop, pm_BadShop, an_BadShop, cda_BadShop, cc_BadShop, ct_BadShop, sl_BadShop, ccl_BadShop, cl_BadShop, cdd_BadShop, cld_BadShop, vs_BadShop, ccs_BadShop, csl_BadShop, fi_BadShop, tf_BadShop, lf_BadShop, cf_BadShop, lcd_BadShop, hv_BadShop, hf_BadShop, lcc_BadShop⟩, topn⟩, ⟨C_Nothing, g_Nothing⟩, ⟨⟨C_Nothing, g_Nothing, x_Nothing, k_Nothing, s_Nothing, t_Nothing⟩⟩, ⟨C_TooLarge, g_TooLarge⟩, ⟨C_TooLarge, f_TooLarge, g_TooLarge, ⟨⟨nm_TooLarge, q_TooLarge, N_TooLarge, bs_TooLarge, bm_TooLarge, sn_TooLarge, sub_TooLarge, ab_TooLarge, col_TooLarge, dd_TooLarge, m0_TooLarge, m1_TooLarge, m2_TooLarge, m3_TooLarge, m5_TooLarge, l_TooLarge, v_TooLarge⟩, sa_TooLarge, s_TooLarge, t_TooLarge, k_TooLarge⟩, np_TooLarge, nq_TooLarge, i_TooLarge, ti_TooLarge, su_TooLarge, sv_TooLarge, se_TooLarge, opq, W.mg_none_of X G nosup, ⟨qu_TooLarge, oc_TooLarge, od_TooLarge, kV_TooLarge, dc_TooLarge, pm_TooLarge, an_TooLarge, cda_TooLarge, cc_TooLarge, ct_TooLarge, sl_TooLarge, ccl_TooLarge, cl_TooLarge, cdd_TooLarge, cld_TooLarge, vs_TooLarge, ccs_TooLarge, csl_TooLarge, fi_TooLarge, tf_TooLarge, lf_TooLarge, cf_TooLarge, lcd_TooLarge, hv_TooLarge, hf_TooLarge, lcc_TooLarge⟩, topn⟩, Sb, Fl⟩
  have G_is_number : Fnd K mg "is_number" 20 ["thing"] := F_is_number.fnd X G fun _ _ _ _ _ _ us hl => match us, hl with | [_], _ => rfl
  have G_is_between : Fnd K mg "is_between" 21 ["thing", "low", "high"] := F_is_between.fnd X G fun _ _ _ _ _ _ us hl => match us, hl with | [_, _, _], _ => rfl
  have G_is_name : Fnd K mg "is_name" 22 ["thing"] := F_is_name.fnd X G fun _ _ _ _ _ _ us hl => match us, hl with | [_], _ => rfl
  have G_is_sized : Fnd K mg "is_sized" 23 ["thing", "many"] := F_is_sized.fnd X G fun _ _ _ _ _ _ us hl => match us, hl with | [_, _], _ => rfl
  have G_is_one_of : Fnd K mg "is_one_of" 25 ["thing", "words"] := F_is_one_of.fnd X G fun _ _ _ _ _ _ us hl => match us, hl with | [_, _], _ => rfl
  have G_is_money : Fnd K mg "is_money" 26 ["thing"] := F_is_money.fnd X G fun _ _ _ _ _ _ us hl => match us, hl with | [_], _ => rfl
  have G_is_plain_price : Fnd K mg "is_plain_price" 27 ["thing"] := F_is_plain_price.fnd X G fun _ _ _ _ _ _ us hl => match us, hl with | [_], _ => rfl
  have G_is_price : Fnd K mg "is_price" 28 ["thing"] := F_is_price.fnd X G fun _ _ _ _ _ _ us hl => match us, hl with | [_], _ => rfl
  have G_is_deed : Fnd K mg "is_deed" 29 ["thing"] := F_is_deed.fnd X G fun _ _ _ _ _ _ us hl => match us, hl with | [_], _ => rfl
  have G_is_tuple_of : Fnd K mg "is_tuple_of" 24 ["thing", "is_one"] := F_is_tuple_of.fnd X G fun _ _ _ _ _ _ us hl => match us, hl with | [_, _], _ => rfl
  have G_is_ascending : Fnd K mg "is_ascending" 30 ["names"] := F_is_ascending.fnd X G fun _ _ _ _ _ _ us hl => match us, hl with | [_], _ => rfl
  have G_is_shop : Fnd K mg "is_shop" 31 ["thing"] := F_is_shop.fnd X G fun _ _ _ _ _ _ us hl => match us, hl with | [_], _ => rfl
  have G_inner : Fnd K mg "inner" 35 ["price"] := F_inner.fnd X G fun _ _ _ _ _ _ us hl => match us, hl with | [_], _ => rfl
  have G_deep : Fnd K mg "deep" 36 ["price"] := F_deep.fnd X G fun _ _ _ _ _ _ us hl => match us, hl with | [_], _ => rfl
  have G_many_parts : Fnd K mg "many_parts" 37 ["price"] := F_many_parts.fnd X G fun _ _ _ _ _ _ us hl => match us, hl with | [_], _ => rfl
  have G_check_size : Fnd K mg "check_size" 38 ["price"] := F_check_size.fnd X G fun _ _ _ _ _ _ us hl => match us, hl with | [_], _ => rfl
  have G_check_price : Fnd K mg "check_price" 39 ["thing"] := F_check_price.fnd X G fun _ _ _ _ _ _ us hl => match us, hl with | [_], _ => rfl
  have G_check_shop : Fnd K mg "check_shop" 40 ["shop"] := F_check_shop.fnd X G fun _ _ _ _ _ _ us hl => match us, hl with | [_], _ => rfl
  have G_checked_shop : Fnd K mg "checked_shop" 41 ["thing"] := F_checked_shop.fnd X G fun _ _ _ _ _ _ us hl => match us, hl with | [_], _ => rfl
  have G_deed_of : Fnd K mg "deed_of" 42 ["shop", "name"] := F_deed_of.fnd X G fun _ _ _ _ _ _ us hl => match us, hl with | [_, _], _ => rfl
  have G_deeds_from : Fnd K mg "deeds_from" 43 ["shop", "standing"] := F_deeds_from.fnd X G fun _ _ _ _ _ _ us hl => match us, hl with | [_, _], _ => rfl
  have G__law_size : Fnd K mg "_law_size" 45 ["price"] := F__law_size.fnd X G fun _ _ _ _ _ _ us hl => match us, hl with | [_], _ => rfl
  have G__law_take : Fnd K mg "_law_take" 46 ["bag", "many"] := F__law_take.fnd X G fun _ _ _ _ _ _ us hl => match us, hl with | [_, _], _ => rfl
  have G__law_some : Fnd K mg "_law_some" 47 ["bag", "things"] := F__law_some.fnd X G fun _ _ _ _ _ _ us hl => match us, hl with | [_, _], _ => rfl
  have G__law_bag : Fnd K mg "_law_bag" 48 ["script"] := F__law_bag.fnd X G fun _ _ _ _ _ _ us hl => match us, hl with | [_], _ => rfl
  have G__law_mixed : Fnd K mg "_law_mixed" 49 ["bag", "things"] := F__law_mixed.fnd X G fun _ _ _ _ _ _ us hl => match us, hl with | [_, _], _ => rfl
  have G__law_big_price : Fnd K mg "_law_big_price" 50 ["bag", "deep_v"] := F__law_big_price.fnd X G fun _ _ _ _ _ _ us hl => match us, hl with | [_, _], _ => rfl
  have G__law_big_shop : Fnd K mg "_law_big_shop" 51 ["bag"] := F__law_big_shop.fnd X G fun _ _ _ _ _ _ us hl => match us, hl with | [_], _ => rfl
  have G__law_alike : Fnd K mg "_law_alike" 52 ["found", "wanted"] := F__law_alike.fnd X G fun _ _ _ _ _ _ us hl => match us, hl with | [_, _], _ => rfl
  have G__law_due_of : Fnd K mg "_law_due_of" 53 ["shop"] := F__law_due_of.fnd X G fun _ _ _ _ _ _ us hl => match us, hl with | [_], _ => rfl
  have G__law_told_of : Fnd K mg "_law_told_of" 54 ["shop"] := F__law_told_of.fnd X G fun _ _ _ _ _ _ us hl => match us, hl with | [_], _ => rfl
  have G__law_large : Fnd K mg "_law_large" 55 ["bag"] := F__law_large.fnd X G fun _ _ _ _ _ _ us hl => match us, hl with | [_], _ => rfl
  have G__law_bent : Fnd K mg "_law_bent" 56 ["bag", "shop"] := F__law_bent.fnd X G fun _ _ _ _ _ _ us hl => match us, hl with | [_, _], _ => rfl
  have G__law_odd_call : Fnd K mg "_law_odd_call" 57 ["shop", "way"] := F__law_odd_call.fnd X G fun _ _ _ _ _ _ us hl => match us, hl with | [_, _], _ => rfl
  have G_law : Fnd K mg "law" 58 ["script"] := F_law.fnd X G fun _ _ _ _ _ _ us hl => match us, hl with | [_], _ => rfl
  have D_is_number := d_is_number (P := P) (w := w) (base := base) T G_is_number 
  have D_is_between := d_is_between (P := P) (w := w) (base := base) T G_is_between D_is_number
  have D_is_name := d_is_name (P := P) (w := w) (base := base) T G_is_name 
  have D_is_sized := d_is_sized (P := P) (w := w) (base := base) T G_is_sized 
  have D_is_one_of := d_is_one_of (P := P) (w := w) (base := base) T G_is_one_of 
  have D_is_money := d_is_money (P := P) (w := w) (base := base) T G_is_money D_is_between
  have D_is_plain_price := d_is_plain_price (P := P) (w := w) (base := base) T G_is_plain_price D_is_between D_is_money
  have D_is_price := d_is_price (P := P) (w := w) (base := base) T G_is_price D_is_between D_is_one_of D_is_money D_is_plain_price 20
  have D_is_deed := d_is_deed (P := P) (w := w) (base := base) T G_is_deed D_is_name D_is_sized D_is_price
  have D_is_tuple_of := d_is_tuple_of (P := P) (w := w) (base := base) T G_is_tuple_of D_is_name D_is_deed
  have D_is_ascending := d_is_ascending (P := P) (w := w) (base := base) T G_is_ascending 
  have D_is_shop := d_is_shop (P := P) (w := w) (base := base) T G_is_shop D_is_name D_is_sized D_is_deed D_is_tuple_of D_is_ascending
  have D_inner := d_inner (P := P) (w := w) (base := base) T G_inner 
  have D_deep := d_deep (P := P) (w := w) (base := base) T G_deep D_inner 20
  have D_many_parts := d_many_parts (P := P) (w := w) (base := base) T G_many_parts D_inner 20
  have D_check_size := d_check_size (P := P) (w := w) (base := base) T G_check_size D_deep D_many_parts
  have D_check_price := d_check_price (P := P) (w := w) (base := base) T G_check_price D_is_price D_check_size
  have D_check_shop := d_check_shop (P := P) (w := w) (base := base) T G_check_shop D_is_shop D_check_size
  have D_checked_shop := d_checked_shop (P := P) (w := w) (base := base) T G_checked_shop D_check_shop
  have D_deed_of := d_deed_of (P := P) (w := w) (base := base) T G_deed_of D_is_name D_check_shop
  have D_deeds_from := d_deeds_from (P := P) (w := w) (base := base) T G_deeds_from D_is_name D_check_shop
  have D__law_size := d__law_size (P := P) (w := w) (base := base) T G__law_size  20
  have D__law_take := d__law_take (P := P) (w := w) (base := base) T G__law_take 
  have D__law_some := d__law_some (P := P) (w := w) (base := base) T G__law_some D__law_take
  have D__law_bag := d__law_bag (P := P) (w := w) (base := base) T G__law_bag 
  have D__law_mixed := d__law_mixed (P := P) (w := w) (base := base) T G__law_mixed D__law_take
  have D__law_big_price := d__law_big_price (P := P) (w := w) (base := base) T G__law_big_price D__law_take D__law_some 20
  have D__law_big_shop := d__law_big_shop (P := P) (w := w) (base := base) T G__law_big_shop D__law_take D__law_some D__law_mixed D__law_big_price
  have D__law_alike := d__law_alike (P := P) (w := w) (base := base) T G__law_alike 
  have D__law_due_of := d__law_due_of (P := P) (w := w) (base := base) T G__law_due_of D__law_size
  have D__law_told_of := d__law_told_of (P := P) (w := w) (base := base) T G__law_told_of D_checked_shop
  have D__law_large := d__law_large (P := P) (w := w) (base := base) T G__law_large D__law_take D__law_some
  have D__law_bent := d__law_bent (P := P) (w := w) (base := base) T G__law_bent D__law_take D__law_some D__law_large
  have D__law_odd_call := d__law_odd_call (P := P) (w := w) (base := base) T G__law_odd_call D_check_price D_checked_shop D_deed_of D_deeds_from
  have D_law := d_law (P := P) (w := w) (base := base) T G_law D_check_price D_deed_of D_deeds_from D__law_size D__law_bag D__law_big_shop D__law_alike D__law_due_of D__law_told_of D__law_large D__law_bent D__law_odd_call
  exact D_law

end PyM
open PySem PySem.W PyProof.Rows PyM
set_option maxRecDepth 100000 in
set_option maxHeartbeats 0 in
theorem PySem.Challenge.cw_leantill_k02_shops_that_are_let_holds : PySem.Challenge.rw_leantill_k02_shops_that_are_let.Holds := by
  w_on; o_law; k_head; (case hw => w_witness2)
  k_fill
  refine PyM.walk_mirrorX (l := PySem.Challenge.rw_leantill_k02_shops_that_are_let) (n := 63) (k := 31) (Fm := PyM.m_law) rfl (by decide) rfl ⟨rfl, by decide, by decide⟩ (fun w h Y => PySem.W.kIn_of Y) ?F PyM.plain_law
  case F =>
    intro w mg h KX G
    refine' PyM.all_k KX G ?F_is_number ?F_is_between ?F_is_name ?F_is_sized ?F_is_one_of ?F_is_money ?F_is_plain_price ?F_is_price ?F_is_deed ?F_is_tuple_of ?F_is_ascending ?F_is_shop ?F_inner ?F_deep ?F_many_parts ?F_check_size ?F_check_price ?F_check_shop ?F_checked_shop ?F_deed_of ?F_deeds_from ?F__law_size ?F__law_take ?F__law_some ?F__law_bag ?F__law_mixed ?F__law_big_price ?F__law_big_shop ?F__law_alike ?F__law_due_of ?F__law_told_of ?F__law_large ?F__law_bent ?F__law_odd_call ?F_law ?B_abs ?B_all ?B_bool ?B_int ?B_isinstance ?B_len ?B_list ?B_max ?B_range ?B_repr ?B_sorted ?B_str ?B_sum ?B_tuple ?B_zip ?C_DIGITS ?C_LETTERS ?C_MOST_ABOVE ?C_MOST_DEEDS ?C_MOST_DEEP ?C_MOST_FROM ?C_MOST_LETTERS ?C_MOST_MONEY ?C_MOST_PACK ?C_MOST_PARTS ?C_MOST_STANDINGS ?C_MOST_UNDER ?C_PAIRS ?C_RESERVED ?C_WAYS ?A_BadShop ?k_BadShop ?ic_BadShop ?s_BadShop ?t_BadShop ?ga_BadShop ?gg_BadShop ?hd_BadShop ?l_BadShop ?v_BadShop ?sa_BadShop ?np_BadShop ?nq_BadShop ?i_BadShop ?ti_BadShop ?su_BadShop ?sv_BadShop ?se_BadShop ?lf_BadShop ?cf_BadShop ?lcd_BadShop ?hv_BadShop ?hf_BadShop ?lcc_BadShop ?A_Nothing ?k_Nothing ?ic_Nothing ?s_Nothing ?t_Nothing ?ga_Nothing ?gg_Nothing ?hd_Nothing ?x_Nothing ?A_TooLarge ?k_TooLarge ?ic_TooLarge ?s_TooLarge ?t_TooLarge ?ga_TooLarge ?gg_TooLarge ?hd_TooLarge ?l_TooLarge ?v_TooLarge ?sa_TooLarge ?np_TooLarge ?nq_TooLarge ?i_TooLarge ?ti_TooLarge ?su_TooLarge ?sv_TooLarge ?se_TooLarge ?lf_TooLarge ?cf_TooLarge ?lcd_TooLarge ?hv_TooLarge ?hf_TooLarge ?lcc_TooLarge ?opq ?nosup ?topn ?e_BadShop_BadShop ?e_BadShop_Nothing ?e_BadShop_TooLarge ?e_Nothing_BadShop ?e_Nothing_Nothing ?e_Nothing_TooLarge ?e_TooLarge_BadShop ?e_TooLarge_Nothing ?e_TooLarge_TooLarge
    (case F_is_number => refine' FAt.of ?a ?l ?c ?k; (case a => k_is); (case l => k_is); (case c => k_is); (case k => k_is))
    (case F_is_between => refine' FAt.of ?a ?l ?c ?k; (case a => k_is); (case l => k_is); (case c => k_is); (case k => k_is))
    (case F_is_name => refine' FAt.of ?a ?l ?c ?k; (case a => k_is); (case l => k_is); (case c => k_is); (case k => k_is))
    (case F_is_sized => refine' FAt.of ?a ?l ?c ?k; (case a => k_is); (case l => k_is); (case c => k_is); (case k => k_is))
    (case F_is_one_of => refine' FAt.of ?a ?l ?c ?k; (case a => k_is); (case l => k_is); (case c => k_is); (case k => k_is))
    (case F_is_money => refine' FAt.of ?a ?l ?c ?k; (case a => k_is); (case l => k_is); (case c => k_is); (case k => k_is))
    (case F_is_plain_price => refine' FAt.of ?a ?l ?c ?k; (case a => k_is); (case l => k_is); (case c => k_is); (case k => k_is))
    (case F_is_price => refine' FAt.of ?a ?l ?c ?k; (case a => k_is); (case l => k_is); (case c => k_is); (case k => k_is))
    (case F_is_deed => refine' FAt.of ?a ?l ?c ?k; (case a => k_is); (case l => k_is); (case c => k_is); (case k => k_is))
    (case F_is_tuple_of => refine' FAt.of ?a ?l ?c ?k; (case a => k_is); (case l => k_is); (case c => k_is); (case k => k_is))
    (case F_is_ascending => refine' FAt.of ?a ?l ?c ?k; (case a => k_is); (case l => k_is); (case c => k_is); (case k => k_is))
    (case F_is_shop => refine' FAt.of ?a ?l ?c ?k; (case a => k_is); (case l => k_is); (case c => k_is); (case k => k_is))
    (case F_inner => refine' FAt.of ?a ?l ?c ?k; (case a => k_is); (case l => k_is); (case c => k_is); (case k => k_is))
    (case F_deep => refine' FAt.of ?a ?l ?c ?k; (case a => k_is); (case l => k_is); (case c => k_is); (case k => k_is))
    (case F_many_parts => refine' FAt.of ?a ?l ?c ?k; (case a => k_is); (case l => k_is); (case c => k_is); (case k => k_is))
    (case F_check_size => refine' FAt.of ?a ?l ?c ?k; (case a => k_is); (case l => k_is); (case c => k_is); (case k => k_is))
    (case F_check_price => refine' FAt.of ?a ?l ?c ?k; (case a => k_is); (case l => k_is); (case c => k_is); (case k => k_is))
    (case F_check_shop => refine' FAt.of ?a ?l ?c ?k; (case a => k_is); (case l => k_is); (case c => k_is); (case k => k_is))
    (case F_checked_shop => refine' FAt.of ?a ?l ?c ?k; (case a => k_is); (case l => k_is); (case c => k_is); (case k => k_is))
    (case F_deed_of => refine' FAt.of ?a ?l ?c ?k; (case a => k_is); (case l => k_is); (case c => k_is); (case k => k_is))
    (case F_deeds_from => refine' FAt.of ?a ?l ?c ?k; (case a => k_is); (case l => k_is); (case c => k_is); (case k => k_is))
    (case F__law_size => refine' FAt.of ?a ?l ?c ?k; (case a => k_is); (case l => k_is); (case c => k_is); (case k => k_is))
    (case F__law_take => refine' FAt.of ?a ?l ?c ?k; (case a => k_is); (case l => k_is); (case c => k_is); (case k => k_is))
    (case F__law_some => refine' FAt.of ?a ?l ?c ?k; (case a => k_is); (case l => k_is); (case c => k_is); (case k => k_is))
    (case F__law_bag => refine' FAt.of ?a ?l ?c ?k; (case a => k_is); (case l => k_is); (case c => k_is); (case k => k_is))
    (case F__law_mixed => refine' FAt.of ?a ?l ?c ?k; (case a => k_is); (case l => k_is); (case c => k_is); (case k => k_is))
    (case F__law_big_price => refine' FAt.of ?a ?l ?c ?k; (case a => k_is); (case l => k_is); (case c => k_is); (case k => k_is))
    (case F__law_big_shop => refine' FAt.of ?a ?l ?c ?k; (case a => k_is); (case l => k_is); (case c => k_is); (case k => k_is))
    (case F__law_alike => refine' FAt.of ?a ?l ?c ?k; (case a => k_is); (case l => k_is); (case c => k_is); (case k => k_is))
    (case F__law_due_of => refine' FAt.of ?a ?l ?c ?k; (case a => k_is); (case l => k_is); (case c => k_is); (case k => k_is))
    (case F__law_told_of => refine' FAt.of ?a ?l ?c ?k; (case a => k_is); (case l => k_is); (case c => k_is); (case k => k_is))
    (case F__law_large => refine' FAt.of ?a ?l ?c ?k; (case a => k_is); (case l => k_is); (case c => k_is); (case k => k_is))
    (case F__law_bent => refine' FAt.of ?a ?l ?c ?k; (case a => k_is); (case l => k_is); (case c => k_is); (case k => k_is))
    (case F__law_odd_call => refine' FAt.of ?a ?l ?c ?k; (case a => k_is); (case l => k_is); (case c => k_is); (case k => k_is))
    (case F_law => refine' FAt.of ?a ?l ?c ?k; (case a => k_is); (case l => k_is); (case c => k_is); (case k => k_is))
    (case B_abs => k_is)
    (case B_all => k_is)
    (case B_bool => k_is)
    (case B_int => k_is)
    (case B_isinstance => k_is)
    (case B_len => k_is)
    (case B_list => k_is)
    (case B_max => k_is)
    (case B_range => k_is)
    (case B_repr => k_is)
    (case B_sorted => k_is)
    (case B_str => k_is)
    (case B_sum => k_is)
    (case B_tuple => k_is)
    (case B_zip => k_is)
    (case C_LETTERS => refine' con_str KX G ?e_LETTERS; (case e_LETTERS => k_is))
    (case C_DIGITS => refine' con_str KX G ?e_DIGITS; (case e_DIGITS => k_is))
    (case C_MOST_LETTERS => refine' con_int KX G ?e_MOST_LETTERS; (case e_MOST_LETTERS => k_is))
    (case C_MOST_MONEY => refine' con_int KX G ?e_MOST_MONEY; (case e_MOST_MONEY => k_is))
    (case C_MOST_PACK => refine' con_int KX G ?e_MOST_PACK; (case e_MOST_PACK => k_is))
    (case C_MOST_FROM => refine' con_int KX G ?e_MOST_FROM; (case e_MOST_FROM => k_is))
    (case C_MOST_ABOVE => refine' con_int KX G ?e_MOST_ABOVE; (case e_MOST_ABOVE => k_is))
    (case C_MOST_UNDER => refine' con_int KX G ?e_MOST_UNDER; (case e_MOST_UNDER => k_is))
    (case C_MOST_STANDINGS => refine' con_int KX G ?e_MOST_STANDINGS; (case e_MOST_STANDINGS => k_is))
    (case C_MOST_DEEDS => refine' con_int KX G ?e_MOST_DEEDS; (case e_MOST_DEEDS => k_is))
    (case C_WAYS => refine' con_tup (xs := ["down", "half", "up"]) KX G ?e_WAYS ?l_WAYS ?c_WAYS ?v_WAYS ?h_WAYS; (case e_WAYS => k_is); (case l_WAYS => k_is); (case c_WAYS => rfl); (case v_WAYS => repeat (first | exact StrsV.nil | refine StrsV.cons _ _ ?_)); (case h_WAYS => decide))
    (case C_PAIRS => refine' con_tup (xs := ["greatest", "least", "less", "plus"]) KX G ?e_PAIRS ?l_PAIRS ?c_PAIRS ?v_PAIRS ?h_PAIRS; (case e_PAIRS => k_is); (case l_PAIRS => k_is); (case c_PAIRS => rfl); (case v_PAIRS => repeat (first | exact StrsV.nil | refine StrsV.cons _ _ ?_)); (case h_PAIRS => decide))
    (case C_RESERVED => refine' con_tup (xs := ["barred", "deed", "down", "each", "else", "ends", "from", "full", "greatest", "half", "if", "is", "least", "less", "money", "packs", "plus", "reaches", "share", "shown", "standing", "then", "to", "until", "up"]) KX G ?e_RESERVED ?l_RESERVED ?c_RESERVED ?v_RESERVED ?h_RESERVED; (case e_RESERVED => k_is); (case l_RESERVED => k_is); (case c_RESERVED => rfl); (case v_RESERVED => repeat (first | exact StrsV.nil | refine StrsV.cons _ _ ?_)); (case h_RESERVED => decide))
    (case C_MOST_DEEP => refine' con_int KX G ?e_MOST_DEEP; (case e_MOST_DEEP => k_is))
    (case C_MOST_PARTS => refine' con_int KX G ?e_MOST_PARTS; (case e_MOST_PARTS => k_is))
    (case A_BadShop => k_is)
    (case k_BadShop => k_is)
    (case ic_BadShop => k_is)
    (case s_BadShop => k_is)
    (case t_BadShop => k_is)
    (case ga_BadShop => k_is)
    (case gg_BadShop => k_is)
    (case hd_BadShop => k_is)
    (case l_BadShop => k_is)
    (case v_BadShop => decide +kernel)
    (case sa_BadShop => k_is)
    (case np_BadShop => k_is)
    (case nq_BadShop => k_is)
    (case i_BadShop => k_is)
    (case ti_BadShop => k_is)
    (case su_BadShop => ks_is)
    (case sv_BadShop => k_is)
    (case se_BadShop => k_is)
    (case lf_BadShop => k_is)
    (case cf_BadShop => k_is)
    (case lcd_BadShop => k_is)
    (case hv_BadShop => rfl)
    (case hf_BadShop => decide +kernel)
    (case lcc_BadShop => k_is)
    (case A_Nothing => k_is)
    (case k_Nothing => k_is)
    (case ic_Nothing => k_is)
    (case s_Nothing => k_is)
    (case t_Nothing => k_is)
    (case ga_Nothing => k_is)
    (case gg_Nothing => k_is)
    (case hd_Nothing => k_is)
    (case x_Nothing => first | k_exc | k_is)
    (case A_TooLarge => k_is)
    (case k_TooLarge => k_is)
    (case ic_TooLarge => k_is)
    (case s_TooLarge => k_is)
    (case t_TooLarge => k_is)
    (case ga_TooLarge => k_is)
    (case gg_TooLarge => k_is)
    (case hd_TooLarge => k_is)
    (case l_TooLarge => k_is)
    (case v_TooLarge => decide +kernel)
    (case sa_TooLarge => k_is)
    (case np_TooLarge => k_is)
    (case nq_TooLarge => k_is)
    (case i_TooLarge => k_is)
    (case ti_TooLarge => k_is)
    (case su_TooLarge => ks_is)
    (case sv_TooLarge => k_is)
    (case se_TooLarge => k_is)
    (case lf_TooLarge => k_is)
    (case cf_TooLarge => k_is)
    (case lcd_TooLarge => k_is)
    (case hv_TooLarge => rfl)
    (case hf_TooLarge => decide +kernel)
    (case lcc_TooLarge => k_is)
    (case opq => k_is)
    (case nosup => k_is)
    (case topn => first | rfl | decide +kernel)
    (case e_BadShop_BadShop => first | rfl | k_is)
    (case e_BadShop_Nothing => first | rfl | k_is)
    (case e_BadShop_TooLarge => first | rfl | k_is)
    (case e_Nothing_BadShop => first | rfl | k_is)
    (case e_Nothing_Nothing => first | rfl | k_is)
    (case e_Nothing_TooLarge => first | rfl | k_is)
    (case e_TooLarge_BadShop => first | rfl | k_is)
    (case e_TooLarge_Nothing => first | rfl | k_is)
    (case e_TooLarge_TooLarge => first | rfl | k_is)
