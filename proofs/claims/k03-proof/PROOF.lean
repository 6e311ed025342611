import PyProof.Rows.All
import Wide.All
import OpenK.AllK
import Wide.FinOn
import HandS.ForMost
import HandS.TupAny
import HandS.IsInst
import HandS.ForExc
import HandS.Zip
import HandS.CallLocal
import HandS.More
import HandS.Text
import HandS.Ends
import HandS.DictComp
import HandS.Style
import PyProof.ReprRoads
import HandS.SortRule
import HandS.Strs
import PyProof.DictUpdate
import PyProof.Draws
import HandS.ExcField
import HandS.ExcInit
import HandS.TryMany
import HandS.RaiseMore
import KE.KExcSuper
import KE.GoesEnum
import HandS.Iter
import HandS.FStr
import HandS.ReplaceLit
import KE.GoesMore
import KE.GoesComp
import HandS.HotCalls
import HandS.ReplaceList
import KE.IntTextLaws
import PyProof.StrLawsRepr
import PySem.Challenge.RW_leantill_k03_tokens_of_texts
set_option Elab.async false
set_option linter.all false
set_option maxRecDepth 100000
set_option maxHeartbeats 2000000
/-! PyM: a monadic mirror of Python over plain data. -/
namespace PyM
open PySem PySem.Spec PyProof.Rows L2

/-- a value of the mirror -/
inductive D where
  | non | bl (b : Bool) | int (i : Int) | str (x : Str) | tup (ds : List D) | lst (ds : List D) | loc (n : Nat) | fn (x : Str) | ty (n : String) | scr (ds : List D) | exo (a dx : Nat) (c : Str) (fn : List Str) (ds : List D)
/-- what is changed in place -/
inductive Cell where
  | lst (ds : List D)
  | dct (kvs : List (Key × D))
abbrev Store := List Cell
/-- the places: of what is changed in place; of lists that are being built -/
structure Pl where
  c : List Addr
  h : List Addr

/-- a list that nobody changes: frozen, or an object of the module -/
def ScrAt (K : PySem.W.Frag) (H : Hp) (a : Addr) (vs : List V) : Prop := (∃ ob, H a = some (.frz ob (.lst vs))) ∨
  ∃ (o : Obj) (its : Array Value) (n : Nat), K.lookup a = some o ∧ o.cls = .type "list" ∧ o.dict = none ∧ o.data = .seq its n ∧ its.size ≤ sizeLine ∧ Vals vs its.toList
mutual
/-- what a value of the layer stands for -/
inductive Den (K : PySem.W.Frag) (mg : Str → Option Value) (μ : Pl) (H : Hp) : V → D → Prop
  | non : Den K mg μ H .non .non
  | bl (b : Bool) : Den K mg μ H (.bl b) (.bl b)
  | int (i : Int) : Den K mg μ H (.int i) (.int i)
  | str (x : Str) : Den K mg μ H (.str x) (.str x)
  | ty (n : String) : Den K mg μ H (.ty n) (.ty n)
  | tup {a : Addr} {vs : List V} {ds : List D} : SqT K H a vs → DenL K mg μ H vs ds → Den K mg μ H (.ref a) (.tup ds)
  | lst {a : Addr} {vs : List V} {ds : List D} : H a = some (.lst vs) → a ∉ μ.c → a ∉ μ.h → DenL K mg μ H vs ds → Den K mg μ H (.ref a) (.lst ds)
  | scr {a : Addr} {vs : List V} {ds : List D} : ScrAt K H a vs → DenL K mg μ H vs ds → Den K mg μ H (.ref a) (.scr ds)
  | loc {n : Nat} {a : Addr} : μ.c[n]? = some a → Den K mg μ H (.ref a) (.loc n)
  | fn {x : Str} {f : Addr} : mg x = some (.ref f) → Den K mg μ H (.ref f) (.fn x)
  | exo0 (a : Addr) {dx : Nat} {c : Str} : Den K mg μ H (.ref a) (.exo a dx c [] [])
  | exo1 (a : Addr) {dx : Addr} {c : Str} {fv : List (Str × V)} {fn : List Str} {ds : List D} : H dx = some (.xd fv) → fv.map (·.1) = fn → DenL K mg μ H (fv.map (·.2)) ds → Den K mg μ H (.ref a) (.exo a dx c fn ds)
inductive DenL (K : PySem.W.Frag) (mg : Str → Option Value) (μ : Pl) (H : Hp) : List V → List D → Prop
  | nil : DenL K mg μ H [] []
  | cons {v : V} {vs : List V} {d : D} {ds : List D} : Den K mg μ H v d → DenL K mg μ H vs ds → DenL K mg μ H (v :: vs) (d :: ds)
end

section
variable {K : PySem.W.Frag} {mg : Str → Option Value} {μ μ' : Pl} {H H' : Hp}
theorem DenL.length : ∀ {vs : List V} {ds : List D}, DenL K mg μ H vs ds → vs.length = ds.length
  | _, _, .nil => rfl
  | _, _, .cons _ t => congrArg (· + 1) t.length
theorem DenL.get : ∀ {vs : List V} {ds : List D} {i : Nat} {d : D}, DenL K mg μ H vs ds → ds[i]? = some d → ∃ v, vs[i]? = some v ∧ Den K mg μ H v d
  | _, _, _, _, .nil, e => by simp at e
  | _, _, 0, _, .cons h _, e => by
    obtain rfl := Option.some.inj e
    exact ⟨_, rfl, h⟩
  | _, _, i + 1, _, .cons _ t, e => by
    obtain ⟨v, a, b⟩ := DenL.get (i := i) t (by simpa using e)
    exact ⟨v, by simpa using a, b⟩
theorem DenL.getV : ∀ {vs : List V} {ds : List D} {i : Nat} {v : V}, DenL K mg μ H vs ds → vs[i]? = some v → ∃ d, ds[i]? = some d ∧ Den K mg μ H v d
  | _, _, _, _, .nil, e => by simp at e
  | _, _, 0, _, .cons h _, e => by
    obtain rfl := Option.some.inj e
    exact ⟨_, rfl, h⟩
  | _, _, i + 1, _, .cons _ t, e => by
    obtain ⟨v, a, b⟩ := DenL.getV (i := i) t (by simpa using e)
    exact ⟨v, by simpa using a, b⟩
theorem DenL.append : ∀ {vs ws : List V} {ds es : List D}, DenL K mg μ H vs ds → DenL K mg μ H ws es → DenL K mg μ H (vs ++ ws) (ds ++ es)
  | _, _, _, _, .nil, s => s
  | _, _, _, _, .cons h t, s => .cons h (DenL.append t s)
theorem DenL.take : ∀ {vs : List V} {ds : List D} (n : Nat), DenL K mg μ H vs ds → DenL K mg μ H (vs.take n) (ds.take n)
  | _, _, 0, _ => .nil
  | _, _, _ + 1, .nil => .nil
  | _, _, n + 1, .cons h t => .cons h (DenL.take n t)
theorem DenL.drop : ∀ {vs : List V} {ds : List D} (n : Nat), DenL K mg μ H vs ds → DenL K mg μ H (vs.drop n) (ds.drop n)
  | _, _, 0, h => h
  | _, _, _ + 1, .nil => .nil
  | _, _, n + 1, .cons _ t => DenL.drop n t
theorem DenL.set {v : V} {d : D} (hd : Den K mg μ H v d) : ∀ {vs : List V} {ds : List D} (i : Nat), DenL K mg μ H vs ds → DenL K mg μ H (vs.set i v) (ds.set i d)
  | _, _, _, .nil => .nil
  | _, _, 0, .cons _ t => .cons hd t
  | _, _, i + 1, .cons h t => .cons h (DenL.set hd i t)
theorem DenL.reverse : ∀ {vs : List V} {ds : List D}, DenL K mg μ H vs ds → DenL K mg μ H vs.reverse ds.reverse
  | _, _, .nil => .nil
  | _, _, .cons h t => by
    rw [List.reverse_cons, List.reverse_cons]
    exact (DenL.reverse t).append (.cons h .nil)

/-- what stands at the place of a cell -/
def CellOk (K : PySem.W.Frag) (mg : Str → Option Value) (μ : Pl) (H : Hp) (a : Addr) : Cell → Prop
  | .lst ds => ∃ vs, H a = some (.lst vs) ∧ DenL K mg μ H vs ds
  | .dct kvs => ∃ ws, H a = some (.dK ws) ∧ ws.map (·.1) = kvs.map (·.1) ∧ DenL K mg μ H (ws.map (·.2)) (kvs.map (·.2))
/-- of the kinds that are changed in place -/
def Chg (o : HO) : Prop := (∃ vs, o = .lst vs) ∨ ∃ ws, o = .dK ws
structure Ok (K : PySem.W.Frag) (mg : Str → Option Value) (μ : Pl) (H : Hp) (S : Store) : Prop where
  len : μ.c.length = S.length
  nd : μ.c.Nodup
  hd : ∀ a ∈ μ.h, a ∉ μ.c ∧ ∃ vs, H a = some (.lst vs)
  at_ : ∀ (n : Nat) (a : Addr) (c : Cell), μ.c[n]? = some a → S[n]? = some c → CellOk K mg μ H a c
/-- values keep what they stand for -/
structure StepD (μ μ' : Pl) (H H' : Hp) : Prop where
  pre : μ.c <+: μ'.c
  keep : ∀ a o, a ∉ μ.c → a ∉ μ.h → (∀ ws, o ≠ .dK ws) → H a = some o → H' a = some o
  new : ∀ a, a ∈ μ'.c ∨ a ∈ μ'.h → a ∈ μ.c ∨ a ∈ μ.h ∨ ∀ xs, H a ≠ some (.lst xs)
structure Step (μ μ' : Pl) (H H' : Hp) : Prop where
  pre : μ.c <+: μ'.c
  hid : μ'.h = μ.h
  keep : ∀ a o, a ∉ μ.c → H a = some o → H' a = some o
  new : ∀ a, a ∈ μ'.c → a ∈ μ.c ∨ H a = none
theorem Step.d (s : Step μ μ' H H') : StepD μ μ' H H' := ⟨s.pre, fun a o h _ _ e => s.keep a o h e, fun a h => by
  rcases h with h | h
  · exact (s.new a h).elim .inl fun z => .inr (.inr fun xs q => by rw [z] at q; cases q)
  · exact .inr (.inl (by rw [← s.hid]; exact h))⟩
theorem Step.refl : Step μ μ H H := ⟨List.prefix_refl μ.c, rfl, fun _ _ _ h => h, fun _ h => .inl h⟩
theorem Step.trans {μ'' : Pl} {H'' : Hp} (a : Step μ μ' H H') (b : Step μ' μ'' H' H'') : Step μ μ'' H H'' where
  pre := a.pre.trans b.pre
  hid := b.hid.trans a.hid
  keep := fun x o hx h => by
    have hx' : x ∉ μ'.c := fun z => by
      rcases a.new x z with z | z
      · exact hx z
      · rw [z] at h; cases h
    exact b.keep x o hx' (a.keep x o hx h)
  new := fun x hx => by
    rcases b.new x hx with z | z
    · exact a.new x z
    · by_cases hm : x ∈ μ.c
      · exact .inl hm
      · refine .inr ?_
        cases e : H x with
        | none => rfl
        | some o => rw [a.keep x o hm e] at z; cases z
/-- something new that is no cell -/
theorem Step.fresh {p : Addr} {o : HO} (hp : H p = none) : Step μ μ H (upd H p o) := ⟨List.prefix_refl μ.c, rfl, fun a u _ h => by
  rw [upd_ne (ne_of_none h hp)]
  exact h, fun _ h => .inl h⟩
def Pl.add (μ : Pl) (p : Addr) : Pl := ⟨μ.c ++ [p], μ.h⟩
/-- a new cell -/
theorem Step.cell {p : Addr} {o : HO} (hp : H p = none) : Step μ (μ.add p) H (upd H p o) := ⟨List.prefix_append μ.c [p], rfl, fun a u _ h => by
  rw [upd_ne (ne_of_none h hp)]
  exact h, fun a h => by
  rcases List.mem_append.mp h with h | h
  · exact .inl h
  · exact .inr (by rw [List.mem_singleton.mp h]; exact hp)⟩
/-- a cell is stored to -/
theorem Step.put {n : Nat} {a : Addr} {o : HO} (ha : μ.c[n]? = some a) : Step μ μ H (upd H a o) := ⟨List.prefix_refl μ.c, rfl, fun b u hb h => by
  rw [upd_ne (fun z => hb (by rw [z]; exact List.mem_of_getElem? ha))]
  exact h, fun _ h => .inl h⟩
theorem Ok.chg {S : Store} (o : Ok K mg μ H S) {a : Addr} (ha : a ∈ μ.c) : ∃ u, H a = some u ∧ Chg u := by
  obtain ⟨n, hn⟩ := List.getElem?_of_mem ha
  have hl : n < S.length := by rw [← o.len]; exact (List.getElem?_eq_some_iff.mp hn).1
  have hc := o.at_ n a S[n] hn (List.getElem?_eq_getElem hl)
  cases e : S[n] with
  | lst ds => rw [e] at hc; obtain ⟨vs, h, _⟩ := hc; exact ⟨_, h, .inl ⟨vs, rfl⟩⟩
  | dct ds => rw [e] at hc; obtain ⟨vs, h, _⟩ := hc; exact ⟨_, h, .inr ⟨vs, rfl⟩⟩
theorem Ok.nofree {S : Store} (o : Ok K mg μ H S) {p : Addr} (hp : H p = none) : p ∉ μ.c ∧ p ∉ μ.h := by
  refine ⟨fun z => ?_, fun z => ?_⟩
  · obtain ⟨u, e, _⟩ := o.chg z
    rw [hp] at e; cases e
  · obtain ⟨_, vs, e⟩ := o.hd p z
    rw [hp] at e; cases e
/-- what is no list and no dict is neither a cell nor hidden -/
theorem Ok.noChg {S : Store} (o : Ok K mg μ H S) {a : Addr} {u : HO} (e : H a = some u) (hu : ¬ Chg u) : a ∉ μ.c ∧ a ∉ μ.h := ⟨fun z => by
  obtain ⟨w, e', hw⟩ := o.chg z
  rw [e] at e'
  obtain rfl := Option.some.inj e'
  exact hu hw, fun z => by
  obtain ⟨_, vs, e'⟩ := o.hd a z
  rw [e] at e'
  obtain rfl := Option.some.inj e'
  exact hu (.inl ⟨vs, rfl⟩)⟩
theorem StepD.trans {μ'' : Pl} {H'' : Hp} {S : Store} (a : StepD μ μ' H H') (b : StepD μ' μ'' H' H'') (o : Ok K mg μ' H' S) : StepD μ μ'' H H'' where
  pre := a.pre.trans b.pre
  keep := fun x u hc hh hu h => by
    have h' := a.keep x u hc hh hu h
    by_cases hl : ∃ xs, u = .lst xs
    · obtain ⟨xs, rfl⟩ := hl
      have z : ¬ (x ∈ μ'.c ∨ x ∈ μ'.h) := fun z => by
        rcases a.new x z with q | q | q
        · exact hc q
        · exact hh q
        · exact q _ h
      exact b.keep x _ (fun q => z (.inl q)) (fun q => z (.inr q)) hu h'
    · obtain ⟨z1, z2⟩ := o.noChg h' (fun z => by
        rcases z with ⟨xs, z⟩ | ⟨ws, z⟩
        · exact hl ⟨xs, z⟩
        · exact hu ws z)
      exact b.keep x u z1 z2 hu h'
  new := fun x hx => by
    rcases b.new x hx with z | z | z
    · exact a.new x (.inl z)
    · exact a.new x (.inr z)
    · by_cases hc : x ∈ μ.c
      · exact .inl hc
      by_cases hh : x ∈ μ.h
      · exact .inr (.inl hh)
      exact .inr (.inr fun xs e => z xs (a.keep x _ hc hh (fun _ q => nomatch q) e))
theorem nd_lst {vs : List V} : ∀ ws : List (Key × V), HO.lst vs ≠ .dK ws := fun _ q => HO.noConfusion q
theorem nd_tup {vs : List V} : ∀ ws : List (Key × V), HO.tup vs ≠ .dK ws := fun _ q => HO.noConfusion q
theorem nd_frz {ob : Obj} {u : HO} : ∀ ws : List (Key × V), HO.frz ob u ≠ .dK ws := fun _ q => HO.noConfusion q
mutual
theorem Den.monoD {S : Store} (o : Ok K mg μ H S) (st : StepD μ μ' H H') : ∀ {v : V} (d : D), Den K mg μ H v d → Den K mg μ' H' v d
  | _, .non, .non => .non
  | _, .bl _, .bl b => .bl b
  | _, .int _, .int i => .int i
  | _, .str _, .str x => .str x
  | _, .ty _, .ty n => .ty n
  | _, .tup ds, .tup (a := a) (vs := vs) h t => .tup (by
      rcases h with (h | ⟨ob, h⟩) | h
      · obtain ⟨z1, z2⟩ := o.noChg h (fun z => by rcases z with ⟨_, z⟩ | ⟨_, z⟩ <;> cases z)
        exact .inl (.inl (st.keep _ _ z1 z2 nd_tup h))
      · obtain ⟨z1, z2⟩ := o.noChg h (fun z => by rcases z with ⟨_, z⟩ | ⟨_, z⟩ <;> cases z)
        exact .inl (.inr ⟨ob, st.keep _ _ z1 z2 nd_frz h⟩)
      · exact .inr h) (DenL.monoD o st ds t)
  | _, .lst ds, .lst (a := a) (vs := vs) h hn hh t => .lst (st.keep _ _ hn hh nd_lst h) (fun z => by
        rcases st.new _ (.inl z) with z | z | z
        · exact hn z
        · exact hh z
        · exact z _ h) (fun z => by
        rcases st.new _ (.inr z) with z | z | z
        · exact hn z
        · exact hh z
        · exact z _ h) (DenL.monoD o st ds t)
  | _, .scr ds, .scr (a := a) (vs := vs) h t => .scr (by
        rcases h with ⟨ob, h⟩ | h
        · obtain ⟨z1, z2⟩ := o.noChg h (fun z => by rcases z with ⟨_, z⟩ | ⟨_, z⟩ <;> cases z)
          exact .inl ⟨ob, st.keep _ _ z1 z2 nd_frz h⟩
        · exact .inr h) (DenL.monoD o st ds t)
  | _, .loc _, .loc h => .loc (by
      obtain ⟨r, hr⟩ := st.pre
      rw [← hr]
      rw [List.getElem?_append_left (List.getElem?_eq_some_iff.mp h).1]
      exact h)
  | _, .fn _, .fn h => .fn h
  | _, .exo _ _ _ _ _, .exo0 a => .exo0 a
  | _, .exo _ _ _ _ ds, .exo1 a h e t => .exo1 a (by
      obtain ⟨z1, z2⟩ := o.noChg h (fun z => by rcases z with ⟨_, z⟩ | ⟨_, z⟩ <;> cases z)
      exact st.keep _ _ z1 z2 (fun _ z => HO.noConfusion z) h) e (DenL.monoD o st ds t)
theorem DenL.monoD {S : Store} (o : Ok K mg μ H S) (st : StepD μ μ' H H') : ∀ {vs : List V} (ds : List D), DenL K mg μ H vs ds → DenL K mg μ' H' vs ds
  | _, [], .nil => .nil
  | _, d :: ds, .cons h t => .cons (Den.monoD o st d h) (DenL.monoD o st ds t)
end
theorem Den.mono {S : Store} (o : Ok K mg μ H S) (st : Step μ μ' H H') {v : V} (d : D) (h : Den K mg μ H v d) : Den K mg μ' H' v d := h.monoD o st.d
theorem DenL.mono {S : Store} (o : Ok K mg μ H S) (st : Step μ μ' H H') {vs : List V} (ds : List D) (h : DenL K mg μ H vs ds) : DenL K mg μ' H' vs ds := h.monoD o st.d
theorem CellOk.monoD {S : Store} (o : Ok K mg μ H S) (st : StepD μ μ' H H') {a : Addr} (ha : H' a = H a) : ∀ {c : Cell}, CellOk K mg μ H a c → CellOk K mg μ' H' a c
  | .lst _, ⟨vs, h, t⟩ => ⟨vs, by rw [ha]; exact h, t.monoD o st⟩
  | .dct _, ⟨ws, h, e, t⟩ => ⟨ws, by rw [ha]; exact h, e, t.monoD o st⟩
theorem Ok.fresh {S : Store} (o : Ok K mg μ H S) {p : Addr} {ob : HO} (hp : H p = none) : Ok K mg μ (upd H p ob) S := ⟨o.len, o.nd, fun a ha => by
  obtain ⟨z, vs, e⟩ := o.hd a ha
  exact ⟨z, vs, by rw [upd_ne (ne_of_none e hp)]; exact e⟩, fun n a c ha hc => by
  obtain ⟨u, e, _⟩ := o.chg (List.mem_of_getElem? ha)
  exact (o.at_ n a c ha hc).monoD o (Step.fresh hp).d (upd_ne (ne_of_none e hp))⟩
/-- a new cell, its content as wanted -/
theorem Ok.cellC {S : Store} (o : Ok K mg μ H S) {p : Addr} {ob : HO} {c : Cell} (hp : H p = none) (hc : CellOk K mg (μ.add p) (upd H p ob) p c) : Ok K mg (μ.add p) (upd H p ob) (S ++ [c]) := by
  obtain ⟨hpm, hph⟩ := o.nofree hp
  refine ⟨by simp [Pl.add, o.len], ?_, fun a ha => ?_, fun n a c' ha hc' => ?_⟩
  · exact List.nodup_append.mpr ⟨o.nd, by simp, fun a ha b hb => by
      rw [List.mem_singleton.mp hb]
      exact fun z => hpm (by rw [← z]; exact ha)⟩
  · obtain ⟨z, vs, e⟩ := o.hd a ha
    refine ⟨fun q => ?_, vs, by rw [upd_ne (ne_of_none e hp)]; exact e⟩
    rcases List.mem_append.mp q with q | q
    · exact z q
    · rw [List.mem_singleton.mp q, hp] at e; cases e
  · unfold Pl.add at ha
    dsimp only at ha
    by_cases hn : n < μ.c.length
    · rw [List.getElem?_append_left hn] at ha
      rw [List.getElem?_append_left (by rw [← o.len]; exact hn)] at hc'
      obtain ⟨u, e, _⟩ := o.chg (List.mem_of_getElem? ha)
      exact (o.at_ n a c' ha hc').monoD o (Step.cell hp).d (upd_ne (ne_of_none e hp))
    · rw [List.getElem?_append_right (by omega)] at ha
      rw [List.getElem?_append_right (by rw [← o.len]; omega)] at hc'
      rw [o.len] at ha
      cases hk : n - S.length with
      | zero =>
        rw [hk] at ha hc'
        obtain rfl : p = a := by simpa using ha
        obtain rfl : c = c' := by simpa using hc'
        exact hc
      | succ k => rw [hk] at ha; simp at ha
theorem Ok.atNew {S : Store} (o : Ok K mg μ H S) {p : Addr} : (μ.add p).c[S.length]? = some p := by
  show (μ.c ++ [p])[S.length]? = some p
  rw [← o.len, List.getElem?_append_right (Nat.le_refl _), Nat.sub_self]
  rfl
theorem Ok.cell {S : Store} (o : Ok K mg μ H S) {p : Addr} {vs : List V} {ds : List D} (hp : H p = none) (t : DenL K mg μ H vs ds) : Ok K mg (μ.add p) (upd H p (.lst vs)) (S ++ [.lst ds]) :=
  o.cellC hp ⟨vs, upd_same, t.mono o (Step.cell hp)⟩
theorem Ok.cellD {S : Store} (o : Ok K mg μ H S) {p : Addr} {ws : List (Key × V)} {kvs : List (Key × D)} (hp : H p = none) (e : ws.map (·.1) = kvs.map (·.1)) (t : DenL K mg μ H (ws.map (·.2)) (kvs.map (·.2))) : Ok K mg (μ.add p) (upd H p (.dK ws)) (S ++ [.dct kvs]) :=
  o.cellC hp ⟨ws, upd_same, e, t.mono o (Step.cell hp)⟩
/-- a cell is stored to -/
theorem Ok.putC {S : Store} (o : Ok K mg μ H S) {n : Nat} {a : Addr} {ob : HO} {c : Cell} (ha : μ.c[n]? = some a) (hc : CellOk K mg μ (upd H a ob) a c) : Ok K mg μ (upd H a ob) (S.set n c) := by
  have hl := (List.getElem?_eq_some_iff.mp ha).1
  refine ⟨by simp [o.len], o.nd, fun b hb => ?_, fun m b c' hb hc' => ?_⟩
  · obtain ⟨z, vs, e⟩ := o.hd b hb
    exact ⟨z, vs, by rw [upd_ne (fun q => z (by rw [q]; exact List.mem_of_getElem? ha))]; exact e⟩
  by_cases hm : m = n
  · subst hm
    rw [ha] at hb
    obtain rfl := Option.some.inj hb
    rw [List.getElem?_set_self (by rw [← o.len]; exact hl)] at hc'
    obtain rfl := Option.some.inj hc'
    exact hc
  · rw [List.getElem?_set_ne (fun z => hm z.symm)] at hc'
    have hab : b ≠ a := fun z => hm (by
      subst z
      exact ((List.getElem?_inj (i := m) (j := n) (List.getElem?_eq_some_iff.mp hb).1 o.nd).mp (by rw [hb, ha])))
    exact (o.at_ m b c' hb hc').monoD o (Step.put ha).d (upd_ne hab)
theorem Ok.put {S : Store} (o : Ok K mg μ H S) {n : Nat} {a : Addr} {vs : List V} {ds : List D} (ha : μ.c[n]? = some a) (t : DenL K mg μ H vs ds) : Ok K mg μ (upd H a (.lst vs)) (S.set n (.lst ds)) :=
  o.putC ha ⟨vs, upd_same, t.mono o (Step.put ha)⟩
theorem Ok.putD {S : Store} (o : Ok K mg μ H S) {n : Nat} {a : Addr} {ws : List (Key × V)} {kvs : List (Key × D)} (ha : μ.c[n]? = some a) (e : ws.map (·.1) = kvs.map (·.1)) (t : DenL K mg μ H (ws.map (·.2)) (kvs.map (·.2))) : Ok K mg μ (upd H a (.dK ws)) (S.set n (.dct kvs)) :=
  o.putC ha ⟨ws, upd_same, e, t.mono o (Step.put ha)⟩
/-! a dict made ahead of its pairs -/
theorem Step.made {p : Addr} {ob : HO} (st : Step μ μ' H H') (hp : H p = none) : Step μ (μ'.add p) H (upd H' p ob) := ⟨st.pre.trans (List.prefix_append _ _), st.hid, fun a u ha e => by
  rw [upd_ne (ne_of_none e hp)]
  exact st.keep a u ha e, fun a h => by
  rcases List.mem_append.mp h with h | h
  · exact st.new a h
  · exact .inr (by rw [List.mem_singleton.mp h]; exact hp)⟩
theorem made_step {p : Addr} {ob : HO} {ws : List (Key × V)} (hp : H p = some (.dK ws)) : StepD μ (μ.add p) H (upd H p ob) := ⟨List.prefix_append _ _, fun a u _ _ hu e => by
  by_cases z : a = p
  · subst z
    rw [hp] at e
    exact absurd (Option.some.inj e).symm (hu ws)
  · rw [upd_ne z]; exact e, fun a h => by
  rcases h with h | h
  · rcases List.mem_append.mp h with h | h
    · exact .inl h
    · exact .inr (.inr fun xs q => by
        rw [List.mem_singleton.mp h, hp] at q; cases q)
  · exact .inr (.inl h)⟩
theorem Ok.made {S : Store} (o : Ok K mg μ H S) {p : Addr} {ob : HO} {c : Cell} {ws : List (Key × V)} (hp : H p = some (.dK ws)) (hn : p ∉ μ.c) (hc : CellOk K mg (μ.add p) (upd H p ob) p c) : Ok K mg (μ.add p) (upd H p ob) (S ++ [c]) := by
  refine ⟨by simp [Pl.add, o.len], ?_, fun a ha => ?_, fun n a c' ha hc' => ?_⟩
  · exact List.nodup_append.mpr ⟨o.nd, by simp, fun a ha b hb => by
      rw [List.mem_singleton.mp hb]
      exact fun z => hn (by rw [← z]; exact ha)⟩
  · obtain ⟨z, vs, e⟩ := o.hd a ha
    have hap : a ≠ p := fun q => by rw [q, hp] at e; cases e
    refine ⟨fun q => ?_, vs, by rw [upd_ne hap]; exact e⟩
    rcases List.mem_append.mp q with q | q
    · exact z q
    · exact hap (List.mem_singleton.mp q)
  · unfold Pl.add at ha
    dsimp only at ha
    by_cases hl : n < μ.c.length
    · rw [List.getElem?_append_left hl] at ha
      rw [List.getElem?_append_left (by rw [← o.len]; exact hl)] at hc'
      exact (o.at_ n a c' ha hc').monoD o (made_step hp) (upd_ne (fun z => hn (by rw [← z]; exact List.mem_of_getElem? ha)))
    · rw [List.getElem?_append_right (by omega)] at ha
      rw [List.getElem?_append_right (by rw [← o.len]; omega)] at hc'
      rw [o.len] at ha
      cases hk : n - S.length with
      | zero =>
        rw [hk] at ha hc'
        obtain rfl : p = a := by simpa using ha
        obtain rfl : c = c' := by simpa using hc'
        exact hc
      | succ k => rw [hk] at ha; simp at ha
/-! a list that is being built -/
def Pl.hide (μ : Pl) (p : Addr) : Pl := ⟨μ.c, p :: μ.h⟩
def Pl.show_ (μ : Pl) (h : List Addr) : Pl := ⟨μ.c, h⟩
theorem hide_step {p : Addr} {o : HO} (hp : H p = none) : StepD μ (μ.hide p) H (upd H p o) := ⟨List.prefix_refl μ.c, fun a u _ _ _ h => by
  rw [upd_ne (ne_of_none h hp)]
  exact h, fun a h => by
  rcases h with h | h
  · exact .inl h
  · rcases List.mem_cons.mp h with h | h
    · exact .inr (.inr fun xs q => by rw [h, hp] at q; cases q)
    · exact .inr (.inl h)⟩
theorem Ok.hide {S : Store} (o : Ok K mg μ H S) {p : Addr} {vs : List V} (hp : H p = none) : Ok K mg (μ.hide p) (upd H p (.lst vs)) S := by
  obtain ⟨hpm, hph⟩ := o.nofree hp
  refine ⟨o.len, o.nd, fun a ha => ?_, fun n a c ha hc => ?_⟩
  · rcases List.mem_cons.mp ha with z | z
    · rw [z]; exact ⟨hpm, vs, upd_same⟩
    · obtain ⟨q, ws, e⟩ := o.hd a z
      exact ⟨q, ws, by rw [upd_ne (ne_of_none e hp)]; exact e⟩
  · obtain ⟨u, e, _⟩ := o.chg (List.mem_of_getElem? ha)
    exact (o.at_ n a c ha hc).monoD o (hide_step hp) (upd_ne (ne_of_none e hp))
/-- the hidden list gets another content -/
theorem grow_step {p : Addr} {o : HO} (hp : p ∈ μ.h) : StepD μ μ H (upd H p o) := ⟨List.prefix_refl μ.c, fun a u _ hh _ h => by
  rw [upd_ne (fun z => hh (by rw [z]; exact hp))]
  exact h, fun a h => h.elim .inl fun z => .inr (.inl z)⟩
theorem Ok.grow {S : Store} (o : Ok K mg μ H S) {p : Addr} {vs : List V} (hp : p ∈ μ.h) : Ok K mg μ (upd H p (.lst vs)) S := by
  refine ⟨o.len, o.nd, fun a ha => ?_, fun n a c ha hc => ?_⟩
  · obtain ⟨q, ws, e⟩ := o.hd a ha
    by_cases z : a = p
    · rw [z]; exact ⟨(o.hd p hp).1, vs, upd_same⟩
    · exact ⟨q, ws, by rw [upd_ne z]; exact e⟩
  · exact (o.at_ n a c ha hc).monoD o (grow_step hp) (upd_ne (fun z => (o.hd p hp).1 (by rw [← z]; exact List.mem_of_getElem? ha)))
mutual
theorem Den.bare {h' : List Addr} (hs : ∀ a ∈ h', a ∈ μ.h) : ∀ {v : V} (d : D), Den K mg μ H v d → Den K mg (μ.show_ h') H v d
  | _, .non, .non => .non
  | _, .bl _, .bl b => .bl b
  | _, .int _, .int i => .int i
  | _, .str _, .str x => .str x
  | _, .ty _, .ty n => .ty n
  | _, .tup ds, .tup h t => .tup h (DenL.bare hs ds t)
  | _, .lst ds, .lst h hn hh t => .lst h hn (fun z => hh (hs _ z)) (DenL.bare hs ds t)
  | _, .scr ds, .scr h t => .scr h (DenL.bare hs ds t)
  | _, .loc _, .loc h => .loc h
  | _, .fn _, .fn h => .fn h
  | _, .exo _ _ _ _ _, .exo0 a => .exo0 a
  | _, .exo _ _ _ _ ds, .exo1 a h e t => .exo1 a h e (DenL.bare hs ds t)
theorem DenL.bare {h' : List Addr} (hs : ∀ a ∈ h', a ∈ μ.h) : ∀ {vs : List V} (ds : List D), DenL K mg μ H vs ds → DenL K mg (μ.show_ h') H vs ds
  | _, [], .nil => .nil
  | _, d :: ds, .cons h t => .cons (Den.bare hs d h) (DenL.bare hs ds t)
end
theorem Ok.bare {S : Store} (o : Ok K mg μ H S) {h' : List Addr} (hs : ∀ a ∈ h', a ∈ μ.h) : Ok K mg (μ.show_ h') H S := ⟨o.len, o.nd, fun a ha => o.hd a (hs a ha), fun n a c ha hc => by
  have := o.at_ n a c ha hc
  cases c with
  | lst ds => obtain ⟨vs, h, t⟩ := this; exact ⟨vs, h, t.bare hs⟩
  | dct ds => obtain ⟨vs, h, e, t⟩ := this; exact ⟨vs, h, e, t.bare hs⟩⟩
end
end PyM
set_option Elab.async false
set_option linter.all false
set_option maxRecDepth 100000
set_option maxHeartbeats 2000000
namespace PyM
open PySem PySem.Spec PyProof.Rows L2

/-! ### results -/
inductive Res (α : Type) where
  | ok (x : α) (S : Store)
  | exc (c : Str) (fs : List (Str × D)) (S : Store)
  | bad
abbrev M (α : Type) := Store → Res α
namespace M
def pure {α : Type} (x : α) : M α := fun S => .ok x S
def bind {α β : Type} (m : M α) (k : α → M β) : M β := fun S => match m S with
  | .ok x S' => k x S'
  | .exc c fs S' => .exc c fs S'
  | .bad => .bad
def bad {α : Type} : M α := fun _ => .bad
def lift {α : Type} (o : Option α) : M α := fun S => match o with
  | some x => .ok x S
  | none => .bad
end M
/-- an operation that reads the store -/
def M.op2 (f : Store → D → D → Option D) (x y : D) : M D := fun S => match f S x y with
  | some d => .ok d S
  | none => .bad
def M.op1 (f : Store → D → Option D) (x : D) : M D := fun S => match f S x with
  | some d => .ok d S
  | none => .bad
abbrev Env' := List (Option D)
def var (ρ : Env') (i : Nat) : M D := match ρ[i]? with
  | some (some d) => M.pure d
  | _ => M.bad

section
variable (K : PySem.W.Frag) (mg : Str → Option Value)
def EnvOk (μ : Pl) (H : Hp) (σ : L2.St) (ρ : Env') : Prop := ρ.length = σ.length ∧ ∀ (i : Nat) (d : D), ρ[i]? = some (some d) → ∃ v, σ[i]? = some (some v) ∧ Den K mg μ H v d
def ExcIs (μ : Pl) (H : Hp) (cls : Value) (d : Option Addr) (c : Str) (fs : List (Str × D)) : Prop := ∃ C : Addr, mg c = some (.ref C) ∧ cls = .ref C ∧
  ((fs = [] ∧ d = none) ∨ ∃ (dx : Addr) (fv : List (Str × V)), d = some dx ∧ H dx = some (.xd fv) ∧ fv.map (·.1) = fs.map (·.1) ∧ DenL K mg μ H (fv.map (·.2)) (fs.map (·.2)))
def XP (μ : Pl) (H : Hp) (E : XK) (c : Str) (fs : List (Str × D)) (S' : Store) : Prop :=
  ∀ cls d H' μ', Step μ μ' H H' → Ok K mg μ' H' S' → ExcIs K mg μ' H' cls d c fs → E cls d H'
def PostD (μ : Pl) (H : Hp) (E : XK) (r : Res D) (Q : VK) : Prop := match r with
  | .ok d S' => ∀ v H' μ', Step μ μ' H H' → Ok K mg μ' H' S' → Den K mg μ' H' v d → Q v H'
  | .exc c fs S' => XP K mg μ H E c fs S'
  | .bad => False
def PostB (μ : Pl) (H : Hp) (E : XK) (r : Res Bool) (Q : Bool → Hp → Prop) : Prop := match r with
  | .ok b S' => ∀ H' μ', Step μ μ' H H' → Ok K mg μ' H' S' → Q b H'
  | .exc c fs S' => XP K mg μ H E c fs S'
  | .bad => False
def PostL (μ : Pl) (H : Hp) (E : XK) (r : Res (List D)) (Q : List V → Hp → Prop) : Prop := match r with
  | .ok ds S' => ∀ vs H' μ', Step μ μ' H H' → Ok K mg μ' H' S' → DenL K mg μ' H' vs ds → Q vs H'
  | .exc c fs S' => XP K mg μ H E c fs S'
  | .bad => False
/-- the readings -/
def tE (E : L2.St → XK) (m : Env' → M D) : TE := fun σ H Q => ∃ ρ μ S, EnvOk K mg μ H σ ρ ∧ Ok K mg μ H S ∧ PostD K mg μ H (E σ) (m ρ S) Q
def tB' (E : L2.St → XK) (m : Env' → M Bool) : TT := fun σ H Q => ∃ ρ μ S, EnvOk K mg μ H σ ρ ∧ Ok K mg μ H S ∧ PostB K mg μ H (E σ) (m ρ S) Q
def tA' (E : L2.St → XK) (m : Env' → M (List D)) : TA := fun σ H Q => ∃ ρ μ S, EnvOk K mg μ H σ ρ ∧ Ok K mg μ H S ∧ PostL K mg μ H (E σ) (m ρ S) Q
end
section
variable {K : PySem.W.Frag} {mg : Str → Option Value} {μ μ' : Pl} {H H' : Hp} {S S' : Store} {σ : L2.St} {ρ : Env'} {E : XK}
theorem EnvOk.mono (e : EnvOk K mg μ H σ ρ) (o : Ok K mg μ H S) (st : Step μ μ' H H') : EnvOk K mg μ' H' σ ρ := ⟨e.1, fun i d h => by
  obtain ⟨v, a, b⟩ := e.2 i d h
  exact ⟨v, a, b.mono o st⟩⟩
theorem XP.of {c : Str} {fs : List (Str × D)} (st : Step μ μ' H H') (h : XP K mg μ H E c fs S) : XP K mg μ' H' E c fs S := fun cls d H2 μ2 s2 o2 x => h cls d H2 μ2 (st.trans s2) o2 x
theorem PostD.of {r : Res D} {Q : VK} (st : Step μ μ' H H') (h : PostD K mg μ H E r Q) : PostD K mg μ' H' E r Q := by
  cases r with
  | ok d S' => exact fun v H2 μ2 s2 o2 x => h v H2 μ2 (st.trans s2) o2 x
  | exc c fs S' => exact XP.of st h
  | bad => exact h
theorem PostB.of {r : Res Bool} {Q : Bool → Hp → Prop} (st : Step μ μ' H H') (h : PostB K mg μ H E r Q) : PostB K mg μ' H' E r Q := by
  cases r with
  | ok d S' => exact fun H2 μ2 s2 o2 => h H2 μ2 (st.trans s2) o2
  | exc c fs S' => exact XP.of st h
  | bad => exact h
theorem PostL.of {r : Res (List D)} {Q : List V → Hp → Prop} (st : Step μ μ' H H') (h : PostL K mg μ H E r Q) : PostL K mg μ' H' E r Q := by
  cases r with
  | ok d S' => exact fun v H2 μ2 s2 o2 x => h v H2 μ2 (st.trans s2) o2 x
  | exc c fs S' => exact XP.of st h
  | bad => exact h
theorem PostD.imp {r : Res D} {Q Q' : VK} (h : PostD K mg μ H E r Q) (k : ∀ d S', r = .ok d S' → ∀ v H' μ', Step μ μ' H H' → Ok K mg μ' H' S' → Den K mg μ' H' v d → Q v H' → Q' v H') : PostD K mg μ H E r Q' := by
  cases r with
  | ok d S' => exact fun v H2 μ2 s2 o2 x => k d S' rfl v H2 μ2 s2 o2 x (h v H2 μ2 s2 o2 x)
  | exc c fs S' => exact h
  | bad => exact h
/-- a part, then the rest -/
theorem PostD.bind {α : Type} {m : M D} {k : D → M α} {S : Store} {R : Res α → Prop} (hx : ∀ c fs S', m S = .exc c fs S' → R (.exc c fs S')) (hok : ∀ d S', m S = .ok d S' → R (k d S')) (hb : R .bad) : R (M.bind m k S) := by
  unfold M.bind
  cases e : m S with
  | ok d S' => exact hok d S' e
  | exc c fs S' => exact hx c fs S' e
  | bad => exact hb
end

/-! ### weakening -/
theorem _root_.L2.PE.weak {X : Cx} {e : Expr} {t t' : TE} (h : PE X e t) (w : ∀ σ H Q, t' σ H Q → t σ H Q) : PE X e t' := ⟨fun pins s σ H Q I q => h.run pins s σ H Q I (w σ H Q q)⟩
theorem _root_.L2.PT.weak {X : Cx} {e : Expr} {t t' : TT} (h : PT X e t) (w : ∀ σ H Q, t' σ H Q → t σ H Q) : PT X e t' := ⟨fun pins s σ H Q I q => h.run pins s σ H Q I (w σ H Q q)⟩
theorem _root_.L2.PW.weak {X : Cx} {e : Expr} {t t' : TT} (h : PW X e t) (w : ∀ σ H Q, t' σ H Q → t σ H Q) : PW X e t' := ⟨fun whole pins s σ H Q I q => h.run whole pins s σ H Q I (w σ H Q q)⟩
theorem _root_.L2.PA.weak {X : Cx} {es : List Expr} {t t' : TA} (h : PA X es t) (w : ∀ σ H Q, t' σ H Q → t σ H Q) : PA X es t' := ⟨fun pos pins s σ H Q I q => h.run pos pins s σ H Q I (w σ H Q q)⟩

abbrev ME (X : Cx) (E : L2.St → XK) (e : Expr) (m : Env' → M D) : Prop := PE X e (tE X.K X.mg E m)
abbrev MT (X : Cx) (E : L2.St → XK) (e : Expr) (m : Env' → M Bool) : Prop := PT X e (tB' X.K X.mg E m)
abbrev MW (X : Cx) (E : L2.St → XK) (e : Expr) (m : Env' → M Bool) : Prop := PW X e (tB' X.K X.mg E m)
abbrev MA (X : Cx) (E : L2.St → XK) (es : List Expr) (m : Env' → M (List D)) : Prop := PA X es (tA' X.K X.mg E m)

section
variable {X : Cx} {E : L2.St → XK} {a b c e : Expr} {es : List Expr} {ma mb mc : Env' → M D} {pos : Pos}

/-- from a reading t of a part with m, for the reading t' of the whole: run the part -/
theorem tE.run {K : PySem.W.Frag} {mg : Str → Option Value} {m : Env' → M D} {σ : L2.St} {H : Hp} {μ : Pl} {ρ : Env'} {S : Store} {α : Type} {k : D → M α} {Q : VK} {R : Res α → Prop}
    (he : EnvOk K mg μ H σ ρ) (ho : Ok K mg μ H S) (hR : R (M.bind (m ρ) k S)) (hx : ∀ c fs S', R (.exc c fs S') → XP K mg μ H (E σ) c fs S') (hb : ¬ R .bad)
    (hk : ∀ d S', m ρ S = .ok d S' → R (k d S') → ∀ v H' μ', Step μ μ' H H' → Ok K mg μ' H' S' → EnvOk K mg μ' H' σ ρ → Den K mg μ' H' v d → Q v H') : tE K mg E m σ H Q := by
  refine ⟨ρ, μ, S, he, ho, ?_⟩
  unfold M.bind at hR
  cases e : m ρ S with
  | ok d S' =>
    rw [e] at hR
    exact fun v H' μ' st o' hd => hk d S' e hR v H' μ' st o' (he.mono ho st) hd
  | exc c fs S' =>
    rw [e] at hR
    exact hx c fs S' hR
  | bad =>
    rw [e] at hR
    exact absurd hR hb

theorem me_var (i : Nat) {x : Str} (hN : X.N[i]? = some x := by rfl) (hv : Vis X.env.scope x := by first | exact Or.inl rfl | exact Or.inr (Or.inl rfl) | exact Or.inr (Or.inr rfl)) (hd : (x == ("__debug__" : Str)) = false := by decide)
    (hcd : (x == ("__classdict__" : Str)) = false := by decide) : ME X E (.Name x pos) (fun ρ => var ρ i) := (pe_var hN hv hd hcd).weak fun σ H Q h => by
  obtain ⟨ρ, μ, S, he, ho, h0⟩ := h
  have h : PostD X.K X.mg μ H (E σ) (var ρ i S) Q := h0
  unfold var at h
  cases e : ρ[i]? with
  | none => rw [e] at h; exact h.elim
  | some o =>
    cases o with
    | none => rw [e] at h; exact h.elim
    | some d =>
      rw [e] at h
      obtain ⟨v, a, b⟩ := he.2 i d e
      exact ⟨v, a, h v H μ .refl ho b⟩
/-- a value that is the same everywhere -/
theorem me_const {v : V} {d : D} (h : PE X e (tC v)) (hd : ∀ μ H, Den X.K X.mg μ H v d) : ME X E e (fun _ => M.pure d) := h.weak fun σ H Q h => by
  obtain ⟨ρ, μ, S, he, ho, h⟩ := h
  exact h v H μ .refl ho (hd μ H)
theorem me_int {i : Int} {j} : ME X E (.Constant (.int i) j pos) (fun _ => M.pure (.int i)) := me_const pe_int fun _ _ => .int i
theorem me_bl {i : Bool} {j} : ME X E (.Constant (.bool i) j pos) (fun _ => M.pure (.bl i)) := me_const pe_bl fun _ _ => .bl i
theorem me_non {j} : ME X E (.Constant .none j pos) (fun _ => M.pure .non) := me_const pe_non fun _ _ => .non
theorem me_str {x : Str} {j} : ME X E (.Constant (.str x) j pos) (fun _ => M.pure (.str x)) := me_const pe_str fun _ _ => .str x
/-- a global that is a def -/
theorem me_fn {x : Str} {f : Addr} (hm : X.mg x = some (.ref f)) (hg : Gl X x := by rfl) (hd : (x == ("__debug__" : Str)) = false := by decide) : ME X E (.Name x pos) (fun _ => M.pure (.fn x)) :=
  me_const (pe_glob (v := .ref f) hg hm rfl hd) fun _ _ => .fn hm
theorem me_glob {x : Str} {v : V} {u : Value} {d : D} (hm : X.mg x = some u) (r : RelV v u) (hd : ∀ μ H, Den X.K X.mg μ H v d) (hg : Gl X x := by rfl) (hdb : (x == ("__debug__" : Str)) = false := by decide) : ME X E (.Name x pos) (fun _ => M.pure d) :=
  me_const (pe_glob hg hm r hdb) hd

/-! ### two-place operations -/
/-- what an operation asks by values -/
def rP2 (K : PySem.W.Frag) (mg : Str → Option Value) (f : Store → D → D → Option D) : R2 := fun v w H Q => ∃ μ S x y d, Ok K mg μ H S ∧ Den K mg μ H v x ∧ Den K mg μ H w y ∧ f S x y = some d ∧
  ∀ v' H', Step μ μ H H' → Ok K mg μ H' S → Den K mg μ H' v' d → Q v' H'
def bin2 (f : Store → D → D → Option D) (ma mb : Env' → M D) : Env' → M D := fun ρ => M.bind (ma ρ) fun x => M.bind (mb ρ) fun y => M.op2 f x y
theorem tOp_of {f : Store → D → D → Option D} {σ : L2.St} {H : Hp} {Q : VK} (h : tE X.K X.mg E (bin2 f ma mb) σ H Q) : tOp (rP2 X.K X.mg f) (tE X.K X.mg E ma) (tE X.K X.mg E mb) σ H Q := by
  obtain ⟨ρ, μ, S, he, ho, h⟩ := h
  refine tE.run (k := fun x => M.bind (mb ρ) fun y => M.op2 f x y) (R := fun r => PostD X.K X.mg μ H (E σ) r Q) he ho h (fun _ _ _ z => z) (fun z => z) fun x S1 _ h1 v H1 μ1 s1 o1 e1 d1 => ?_
  refine tE.run (k := fun y => M.op2 f x y) (R := fun r => PostD X.K X.mg μ1 H1 (E σ) r Q) e1 o1 (PostD.of s1 h1) (fun _ _ _ z => z) (fun z => z) fun y S2 _ h2 w H2 μ2 s2 o2 e2 d2 => ?_
  unfold M.op2 at h2
  cases q : f S2 x y with
  | none => rw [q] at h2; exact h2.elim
  | some d =>
    rw [q] at h2
    exact ⟨μ2, S2, x, y, d, o2, d1.mono o1 s2, d2, q, fun v' H' st o' hd => h2 v' H' μ2 (s2.trans st) o' hd⟩
theorem me_bin {op : Operator} {f : Store → D → D → Option D} (hr : OpR X (binaryOp op) (rP2 X.K X.mg f)) (ha : ME X E a ma) (hb : ME X E b mb) : ME X E (.BinOp a op b pos) (bin2 f ma mb) :=
  (pe_op hr ha hb).weak fun _ _ _ h => tOp_of h
theorem me_cmp {op : CmpOp} {f : Store → D → D → Option D} (hr : OpR X (compareOp op) (rP2 X.K X.mg f)) (ha : ME X E a ma) (hb : ME X E b mb) (hm : behindInMarks op b = false := by rfl) : ME X E (.Compare a [op] [b] pos) (bin2 f ma mb) :=
  (pe_cmpR hr ha hb hm).weak fun _ _ _ h => tOp_of h
end
end PyM
set_option Elab.async false
set_option linter.all false
set_option maxRecDepth 100000
set_option maxHeartbeats 2000000
namespace PyM
open PySem PySem.Spec PyProof.Rows L2

/-! ### operations on values of the mirror -/
/-- a list's items, wherever it is kept -/
def asL (S : Store) : D → Option (List D)
  | .lst ds => some ds
  | .loc n => match S[n]? with
    | some (.lst ds) => some ds
    | _ => none
  | _ => none
def addP (S : Store) : D → D → Option D
  | .int i, .int j => some (.int (i + j))
  | .str x, .str y => if x.length + y.length ≤ sizeLine then some (.str (x ++ y)) else none
  | .tup xs, .tup ys => if xs.length + ys.length ≤ sizeLine then some (.tup (xs ++ ys)) else none
  | x, y => match asL S x, asL S y with
    | some xs, some ys => if xs.length + ys.length ≤ sizeLine then some (.lst (xs ++ ys)) else none
    | _, _ => none
def subP (_ : Store) : D → D → Option D
  | .int i, .int j => some (.int (i - j))
  | _, _ => none
instance (i j : Int) : Decidable (CMul i j) := by unfold CMul; exact inferInstance
instance (i j : Int) : Decidable (CDiv i j) := by unfold CDiv; exact inferInstance
instance (i j : Int) : Decidable (CPow i j) := by unfold CPow; exact inferInstance
def mulP (_ : Store) : D → D → Option D
  | .int i, .int j => if CMul i j then some (.int (i * j)) else none
  | _, _ => none
def divP (_ : Store) : D → D → Option D
  | .int i, .int j => if CDiv i j then some (.int (i / j)) else none
  | _, _ => none
def modP (_ : Store) : D → D → Option D
  | .int i, .int j => if 0 < j then some (.int (i % j)) else none
  | _, _ => none
def powP (_ : Store) : D → D → Option D
  | .int i, .int j => if CPow i j then some (.int (i ^ j.toNat)) else none
  | _, _ => none
/- the plain data -/
mutual
def D.py (S : Store) : D → Option PyData
  | .non => some .none
  | .bl b => some (.bool b)
  | .int i => some (.int i)
  | .str x => some (.str x)
  | .tup ds => (D.pyL S ds).map .tuple
  | .lst ds => (D.pyL S ds).map .list
  | .loc n => match S[n]? with
    | some (.lst ds) => (D.pyF ds).map .list
    | _ => none
  | .fn _ => none
  | .ty _ => none
  | .scr _ => none
  | .exo _ _ _ _ _ => none
def D.pyL (S : Store) : List D → Option (List PyData)
  | [] => some []
  | d :: ds => match D.py S d, D.pyL S ds with
    | some p, some ps => some (p :: ps)
    | _, _ => none
/-- flat items of a cell -/
def D.pyF : List D → Option (List PyData)
  | [] => some []
  | .non :: ds => (D.pyF ds).map (.none :: ·)
  | .bl b :: ds => (D.pyF ds).map (.bool b :: ·)
  | .int i :: ds => (D.pyF ds).map (.int i :: ·)
  | .str x :: ds => (D.pyF ds).map (.str x :: ·)
  | _ :: _ => none
end
def scalD : D → Option V
  | .non => some .non
  | .bl b => some (.bl b)
  | .int i => some (.int i)
  | .str x => some (.str x)
  | _ => none
def scalL : List D → Option (List V)
  | [] => some []
  | d :: ds => match scalD d, scalL ds with
    | some v, some vs => some (v :: vs)
    | _, _ => none
def eqDeep (S : Store) (x y : D) : Option Bool := match x.py S, y.py S with
  | some p, some q => if SeqAt.shaped p && SeqAt.shaped q then some (PyData.eqv p q) else none
  | _, _ => none
def eqQ (S : Store) (x y : D) : Option Bool := match scalD x, scalD y with
  | some v, some w => if scal v w then some (decide (v = w)) else eqDeep S x y
  | _, _ => eqDeep S x y
def eqP (S : Store) (x y : D) : Option D := (eqQ S x y).map .bl
def neP (S : Store) (x y : D) : Option D := (eqQ S x y).map fun b => .bl (!b)
def ltP (_ : Store) : D → D → Option D
  | .int i, .int j => some (.bl (decide (i < j)))
  | .str x, .str y => some (.bl (decide (x.cps.toList < y.cps.toList)))
  | _, _ => none
def leP (_ : Store) : D → D → Option D
  | .int i, .int j => some (.bl (decide (i ≤ j)))
  | _, _ => none
def gtP (_ : Store) : D → D → Option D
  | .int i, .int j => some (.bl (decide (j < i)))
  | _, _ => none
def geP (_ : Store) : D → D → Option D
  | .int i, .int j => some (.bl (decide (j ≤ i)))
  | _, _ => none
def isP (_ : Store) : D → D → Option D
  | .non, .non => some (.bl true)
  | _, .non => some (.bl false)
  | _, _ => none
def isnP (_ : Store) : D → D → Option D
  | .non, .non => some (.bl false)
  | _, .non => some (.bl true)
  | _, _ => none
/-- a list's or a tuple's items -/
def asQ (S : Store) : D → Option (List D)
  | .tup ds => some ds
  | d => asL S d
def inQ (S : Store) : D → D → Option Bool
  | .str x, .str y => match x.cps.toList with
    | [c] => some (decide (c ∈ y.cps.toList))
    | _ => none
  | x, y => match asQ S y with
    | some ds => match scalD x, scalL ds with
      | some v, some vs => some (inV v vs)
      | _, _ => none
    | none => none
def inP (S : Store) (x y : D) : Option D := (inQ S x y).map .bl
def ninP (S : Store) (x y : D) : Option D := (inQ S x y).map fun b => .bl (!b)
section
variable {K : PySem.W.Frag} {mg : Str → Option Value} {μ : Pl} {H : Hp} {S : Store}
theorem asL_den (o : Ok K mg μ H S) {v : V} {d : D} {ds : List D} (h : Den K mg μ H v d) (e : asL S d = some ds) : ∃ (p : Addr) (vs : List V), v = .ref p ∧ H p = some (.lst vs) ∧ DenL K mg μ H vs ds := by
  cases h with
  | lst h1 h2 hh h3 =>
    obtain rfl := Option.some.inj e
    exact ⟨_, _, rfl, h1, h3⟩
  | loc h1 =>
    rename_i n a
    unfold asL at e
    dsimp only at e
    cases q : S[n]? with
    | none => rw [q] at e; cases e
    | some c =>
      cases c with
      | dct kvs => rw [q] at e; cases e
      | lst es =>
        rw [q] at e
        obtain rfl := Option.some.inj e
        obtain ⟨vs, h2, h3⟩ := o.at_ n a _ h1 q
        exact ⟨_, vs, rfl, h2, h3⟩
  | _ => cases e
/-- a new list, a new tuple -/
theorem new_lst (o : Ok K mg μ H S) {p : Addr} {vs : List V} {ds : List D} (hp : H p = none) (t : DenL K mg μ H vs ds) :
    Step μ μ H (upd H p (.lst vs)) ∧ Ok K mg μ (upd H p (.lst vs)) S ∧ Den K mg μ (upd H p (.lst vs)) (.ref p) (.lst ds) :=
  ⟨.fresh hp, o.fresh hp, .lst upd_same (o.nofree hp).1 (o.nofree hp).2 (t.mono o (.fresh hp))⟩
theorem new_tup (o : Ok K mg μ H S) {p : Addr} {vs : List V} {ds : List D} (hp : H p = none) (t : DenL K mg μ H vs ds) :
    Step μ μ H (upd H p (.tup vs)) ∧ Ok K mg μ (upd H p (.tup vs)) S ∧ Den K mg μ (upd H p (.tup vs)) (.ref p) (.tup ds) :=
  ⟨.fresh hp, o.fresh hp, .tup (.inl (.inl upd_same)) (t.mono o (.fresh hp))⟩
theorem addP_inv {x y d : D} (h : addP S x y = some d) : (∃ i j, x = .int i ∧ y = .int j ∧ d = .int (i + j)) ∨ (∃ a b, x = .str a ∧ y = .str b ∧ a.length + b.length ≤ sizeLine ∧ d = .str (a ++ b)) ∨
    (∃ a b, x = .tup a ∧ y = .tup b ∧ a.length + b.length ≤ sizeLine ∧ d = .tup (a ++ b)) ∨ (∃ a b, asL S x = some a ∧ asL S y = some b ∧ a.length + b.length ≤ sizeLine ∧ d = .lst (a ++ b)) := by
  unfold addP at h
  split at h
  · exact .inl ⟨_, _, rfl, rfl, (Option.some.inj h).symm⟩
  · split at h
    · exact .inr (.inl ⟨_, _, rfl, rfl, by assumption, (Option.some.inj h).symm⟩)
    · cases h
  · split at h
    · exact .inr (.inr (.inl ⟨_, _, rfl, rfl, by assumption, (Option.some.inj h).symm⟩))
    · cases h
  · split at h
    · split at h
      · exact .inr (.inr (.inr ⟨_, _, by assumption, by assumption, by assumption, (Option.some.inj h).symm⟩))
      · cases h
    · cases h
end
section
variable {X : Cx}
theorem r_add : OpR X (binaryOp .Add) (rP2 X.K X.mg addP) := by
  intro pins s σ H x y v u Q I rx ry h
  obtain ⟨μ, S, a, b, d, o, da, db, e, k⟩ := h
  rcases addP_inv e with ⟨i, j, rfl, rfl, rfl⟩ | ⟨i, j, rfl, rfl, z, rfl⟩ | ⟨i, j, rfl, rfl, z, rfl⟩ | ⟨i, j, e1, e2, z, rfl⟩
  · cases da; cases db
    exact op_add pins s σ H _ _ v u Q I rx ry ⟨i, j, rfl, rfl, k _ _ .refl o (.int _)⟩
  · cases da; cases db
    exact op_add_str pins s σ H _ _ v u Q I rx ry ⟨i, j, rfl, rfl, z, k _ _ .refl o (.str _)⟩
  · cases da with
    | tup h1 h2 =>
      cases db with
      | tup h3 h4 =>
        rename_i p vs q ws
        have l1 := h2.length
        have l2 := h4.length
        refine op_catA pins s σ H _ _ v u Q I rx ry ⟨p, q, vs, ws, rfl, rfl, h1, h3, by omega, fun ev => ?_, fun _ ew => ?_, fun _ _ p hp => ?_⟩
        · subst ev
          cases h2
          exact k _ _ .refl o (.tup h3 h4)
        · subst ew
          cases h4
          rw [List.append_nil] at k
          exact k _ _ .refl o (.tup h1 h2)
        · obtain ⟨s1, o1, d1⟩ := new_tup o hp (h2.append h4)
          exact k _ _ s1 o1 d1
  · obtain ⟨p, vs, rfl, h1, h2⟩ := asL_den o da e1
    obtain ⟨q, ws, rfl, h3, h4⟩ := asL_den o db e2
    have l1 := h2.length
    have l2 := h4.length
    refine op_cat pins s σ H _ _ v u Q I rx ry ⟨p, q, vs, ws, rfl, rfl, h1, h3, by omega, fun p hp => ?_⟩
    obtain ⟨s1, o1, d1⟩ := new_lst o hp (h2.append h4)
    exact k _ _ s1 o1 d1
theorem r_sub : OpR X (binaryOp .Sub) (rP2 X.K X.mg subP) := by
  intro pins s σ H x y v u Q I rx ry h
  obtain ⟨μ, S, a, b, d, o, da, db, e, k⟩ := h
  unfold subP at e
  split at e
  · obtain rfl := Option.some.inj e
    cases da; cases db
    exact op_sub pins s σ H _ _ v u Q I rx ry ⟨_, _, rfl, rfl, k _ _ .refl o (.int _)⟩
  · cases e
theorem r_mul : OpR X (binaryOp .Mult) (rP2 X.K X.mg mulP) := by
  intro pins s σ H x y v u Q I rx ry h
  obtain ⟨μ, S, a, b, d, o, da, db, e, k⟩ := h
  unfold mulP at e
  split at e
  · split at e
    · obtain rfl := Option.some.inj e
      cases da; cases db
      exact op_mul pins s σ H _ _ v u Q I rx ry ⟨_, _, rfl, rfl, by assumption, k _ _ .refl o (.int _)⟩
    · cases e
  · cases e
theorem r_div : OpR X (binaryOp .FloorDiv) (rP2 X.K X.mg divP) := by
  intro pins s σ H x y v u Q I rx ry h
  obtain ⟨μ, S, a, b, d, o, da, db, e, k⟩ := h
  unfold divP at e
  split at e
  · split at e
    · obtain rfl := Option.some.inj e
      cases da; cases db
      exact op_fdiv pins s σ H _ _ v u Q I rx ry ⟨_, _, rfl, rfl, by assumption, k _ _ .refl o (.int _)⟩
    · cases e
  · cases e
theorem r_mod : OpR X (binaryOp .Mod) (rP2 X.K X.mg modP) := by
  intro pins s σ H x y v u Q I rx ry h
  obtain ⟨μ, S, a, b, d, o, da, db, e, k⟩ := h
  unfold modP at e
  split at e
  · split at e
    · obtain rfl := Option.some.inj e
      cases da; cases db
      exact op_mod pins s σ H _ _ v u Q I rx ry ⟨_, _, rfl, rfl, by assumption, k _ _ .refl o (.int _)⟩
    · cases e
  · cases e
theorem r_pow : OpR X (binaryOp .Pow) (rP2 X.K X.mg powP) := by
  intro pins s σ H x y v u Q I rx ry h
  obtain ⟨μ, S, a, b, d, o, da, db, e, k⟩ := h
  unfold powP at e
  split at e
  · split at e
    · obtain rfl := Option.some.inj e
      cases da; cases db
      exact op_pow pins s σ H _ _ v u Q I rx ry ⟨_, _, rfl, rfl, by assumption, k _ _ .refl o (.int _)⟩
    · cases e
  · cases e
end
section
variable {K : PySem.W.Frag} {mg : Str → Option Value} {μ : Pl} {H : Hp} {S : Store}
theorem scalD_den {v w : V} {d : D} (h : Den K mg μ H v d) (e : scalD d = some w) : v = w := by
  cases h <;> simp [scalD] at e <;> exact e
theorem scalL_den : ∀ {vs ws : List V} {ds : List D}, DenL K mg μ H vs ds → scalL ds = some ws → vs = ws
  | _, _, _, .nil, e => by simp [scalL] at e; exact e.symm ▸ rfl
  | _, _, _, .cons (d := d) (ds := ds) h t, e => by
    unfold scalL at e
    cases e1 : scalD d with
    | none => rw [e1] at e; cases e
    | some v =>
      cases e2 : scalL ds with
      | none => rw [e1, e2] at e; cases e
      | some vs =>
        rw [e1, e2] at e
        rw [← Option.some.inj e, scalD_den h e1, scalL_den t e2]
theorem scalD_flat {d : D} {v : V} (e : scalD d = some v) : flatV v = true := by
  cases d <;> simp [scalD] at e <;> subst e <;> rfl
theorem scalL_flat : ∀ {ds : List D} {vs : List V}, scalL ds = some vs → vs.all flatV = true
  | [], _, e => by simp [scalL] at e; subst e; rfl
  | d :: ds, _, e => by
    unfold scalL at e
    cases e1 : scalD d with
    | none => rw [e1] at e; cases e
    | some v =>
      cases e2 : scalL ds with
      | none => rw [e1, e2] at e; cases e
      | some vs =>
        rw [e1, e2] at e
        obtain rfl := Option.some.inj e
        simp [scalD_flat e1, scalL_flat e2]
theorem pyF_den : ∀ {vs : List V} (ds : List D) {ps : List PyData}, DenL K mg μ H vs ds → D.pyF ds = some ps → DpAll K H vs ps
  | _, [], _, .nil, e => by simp [D.pyF] at e; subst e; exact .nil
  | _, d :: ds, _, .cons h t, e => by
    cases h <;> simp [D.pyF] at e <;> obtain ⟨qs, e, rfl⟩ := e
    · exact .cons .non (pyF_den ds t e)
    · exact .cons (.bl _) (pyF_den ds t e)
    · exact .cons (.int _) (pyF_den ds t e)
    · exact .cons (.str _) (pyF_den ds t e)
mutual
theorem py_den (o : Ok K mg μ H S) : ∀ {v : V} (d : D) {p : PyData}, Den K mg μ H v d → d.py S = some p → Dp K H v p
  | _, .non, _, .non, e => by simp [D.py] at e; subst e; exact .non
  | _, .bl _, _, .bl b, e => by simp [D.py] at e; subst e; exact .bl b
  | _, .int _, _, .int i, e => by simp [D.py] at e; subst e; exact .int i
  | _, .str _, _, .str x, e => by simp [D.py] at e; subst e; exact .str x
  | _, .ty _, _, .ty n, e => by simp [D.py] at e
  | _, .tup ds, _, .tup h t, e => by
    simp [D.py] at e
    obtain ⟨ps, e, rfl⟩ := e
    exact .tup h (pyL_den o ds t e)
  | _, .lst ds, _, .lst h hn _ t, e => by
    simp [D.py] at e
    obtain ⟨ps, e, rfl⟩ := e
    exact .lst (.inl (.inl h)) (pyL_den o ds t e)
  | _, .scr ds, _, .scr h t, e => by simp [D.py] at e
  | _, .loc n, _, .loc (a := a) h, e => by
    unfold D.py at e
    cases q : S[n]? with
    | none => rw [q] at e; cases e
    | some c =>
      cases c with
      | dct kvs => rw [q] at e; cases e
      | lst es =>
        rw [q] at e
        simp at e
        obtain ⟨ps, e, rfl⟩ := e
        obtain ⟨vs, h2, h3⟩ := o.at_ n a _ h q
        exact .lst (.inl (.inl h2)) (pyF_den es h3 e)
  | _, .fn _, _, .fn h, e => by simp [D.py] at e
theorem pyL_den (o : Ok K mg μ H S) : ∀ {vs : List V} (ds : List D) {ps : List PyData}, DenL K mg μ H vs ds → D.pyL S ds = some ps → DpAll K H vs ps
  | _, [], _, .nil, e => by simp [D.pyL] at e; subst e; exact .nil
  | _, d :: ds, _, .cons h t, e => by
    unfold D.pyL at e
    cases e1 : d.py S with
    | none => rw [e1] at e; cases e
    | some p =>
      cases e2 : D.pyL S ds with
      | none => rw [e1, e2] at e; cases e
      | some ps =>
        rw [e1, e2] at e
        obtain rfl := Option.some.inj e
        exact .cons (py_den o d h e1) (pyL_den o ds t e2)
end
theorem asQ_den (o : Ok K mg μ H S) {v : V} {d : D} {ds : List D} (h : Den K mg μ H v d) (e : asQ S d = some ds) : ∃ (p : Addr) (vs : List V), v = .ref p ∧ (SqL K H p vs ∨ SqT K H p vs) ∧ DenL K mg μ H vs ds := by
  cases h with
  | tup h1 h2 =>
    obtain rfl := Option.some.inj e
    exact ⟨_, _, rfl, .inr h1, h2⟩
  | lst h1 h2 hh h3 =>
    obtain rfl := Option.some.inj e
    exact ⟨_, _, rfl, .inl (.inl (.inl h1)), h3⟩
  | loc h1 =>
    obtain ⟨p, vs, e1, h2, h3⟩ := asL_den o (.loc h1) e
    exact ⟨p, vs, e1, .inl (.inl (.inl h2)), h3⟩
  | _ => cases e
end
section
variable {X : Cx}
theorem r_eqQ {pins : List (Addr × Obj)} {s : Shared} {σ : L2.St} {H : Hp} {x y : V} {v u : Value} {Q : VK} {μ : Pl} {S : Store} {a b : D} {k : Bool} (hu : X.A.units + 64 < cLine) (I : Inv X pins σ H s) (rx : RelV x v) (ry : RelV y u)
    (o : Ok X.K X.mg μ H S) (da : Den X.K X.mg μ H x a) (db : Den X.K X.mg μ H y b) (e : eqQ S a b = some k) :
    (Q (.bl k) H → wpAny (model X.prog X.w) X.A (compareOp .Eq v u) (EP X pins σ Q) X.xe s) ∧ (Q (.bl (!k)) H → wpAny (model X.prog X.w) X.A (compareOp .NotEq v u) (EP X pins σ Q) X.xe s) := by
  have deep : eqDeep S a b = some k → (Q (.bl k) H → wpAny (model X.prog X.w) X.A (compareOp .Eq v u) (EP X pins σ Q) X.xe s) ∧ (Q (.bl (!k)) H → wpAny (model X.prog X.w) X.A (compareOp .NotEq v u) (EP X pins σ Q) X.xe s) := by
    intro e
    unfold eqDeep at e
    cases e1 : a.py S with
    | none => rw [e1] at e; cases e
    | some p =>
      cases e2 : b.py S with
      | none => rw [e1, e2] at e; cases e
      | some q =>
        rw [e1, e2] at e
        dsimp only at e
        split at e
        · rename_i hs
          obtain ⟨hs1, hs2⟩ := Bool.and_eq_true_iff.mp hs
          obtain rfl := Option.some.inj e
          exact ⟨fun q' => op_eqD hu pins s σ H x y v u Q I rx ry ⟨p, q, py_den o a da e1, py_den o b db e2, hs1, hs2, q'⟩,
            fun q' => op_neD hu pins s σ H x y v u Q I rx ry ⟨p, q, py_den o a da e1, py_den o b db e2, hs1, hs2, q'⟩⟩
        · cases e
  unfold eqQ at e
  split at e
  · rename_i p q e1 e2
    split at e
    · rename_i hs
      obtain rfl := Option.some.inj e
      obtain rfl := scalD_den da e1
      obtain rfl := scalD_den db e2
      exact ⟨fun q' => op_eq pins s σ H x y v u Q I rx ry ⟨hs, q'⟩, fun q' => op_ne pins s σ H x y v u Q I rx ry ⟨hs, q'⟩⟩
    · exact deep e
  · exact deep e
theorem r_eq (hu : X.A.units + 64 < cLine) : OpR X (compareOp .Eq) (rP2 X.K X.mg eqP) := by
  intro pins s σ H x y v u Q I rx ry h
  obtain ⟨μ, S, a, b, d, o, da, db, e, k⟩ := h
  unfold eqP at e
  cases q : eqQ S a b with
  | none => rw [q] at e; cases e
  | some r =>
    rw [q] at e
    obtain rfl := Option.some.inj e
    exact (r_eqQ hu I rx ry o da db q).1 (k _ _ .refl o (.bl _))
theorem r_ne (hu : X.A.units + 64 < cLine) : OpR X (compareOp .NotEq) (rP2 X.K X.mg neP) := by
  intro pins s σ H x y v u Q I rx ry h
  obtain ⟨μ, S, a, b, d, o, da, db, e, k⟩ := h
  unfold neP at e
  cases q : eqQ S a b with
  | none => rw [q] at e; cases e
  | some r =>
    rw [q] at e
    obtain rfl := Option.some.inj e
    exact (r_eqQ hu I rx ry o da db q).2 (k _ _ .refl o (.bl _))
theorem r_lt : OpR X (compareOp .Lt) (rP2 X.K X.mg ltP) := by
  intro pins s σ H x y v u Q I rx ry h
  obtain ⟨μ, S, a, b, d, o, da, db, e, k⟩ := h
  unfold ltP at e
  split at e
  · obtain rfl := Option.some.inj e
    cases da; cases db
    exact op_lt pins s σ H _ _ v u Q I rx ry ⟨_, _, rfl, rfl, k _ _ .refl o (.bl _)⟩
  · obtain rfl := Option.some.inj e
    cases da; cases db
    exact op_lt_str pins s σ H _ _ v u Q I rx ry ⟨_, _, rfl, rfl, k _ _ .refl o (.bl _)⟩
  · cases e
theorem r_le : OpR X (compareOp .LtE) (rP2 X.K X.mg leP) := by
  intro pins s σ H x y v u Q I rx ry h
  obtain ⟨μ, S, a, b, d, o, da, db, e, k⟩ := h
  unfold leP at e
  split at e
  · obtain rfl := Option.some.inj e
    cases da; cases db
    exact op_le pins s σ H _ _ v u Q I rx ry ⟨_, _, rfl, rfl, k _ _ .refl o (.bl _)⟩
  · cases e
theorem r_gt : OpR X (compareOp .Gt) (rP2 X.K X.mg gtP) := by
  intro pins s σ H x y v u Q I rx ry h
  obtain ⟨μ, S, a, b, d, o, da, db, e, k⟩ := h
  unfold gtP at e
  split at e
  · obtain rfl := Option.some.inj e
    cases da; cases db
    exact op_gt pins s σ H _ _ v u Q I rx ry ⟨_, _, rfl, rfl, k _ _ .refl o (.bl _)⟩
  · cases e
theorem r_ge : OpR X (compareOp .GtE) (rP2 X.K X.mg geP) := by
  intro pins s σ H x y v u Q I rx ry h
  obtain ⟨μ, S, a, b, d, o, da, db, e, k⟩ := h
  unfold geP at e
  split at e
  · obtain rfl := Option.some.inj e
    cases da; cases db
    exact op_ge pins s σ H _ _ v u Q I rx ry ⟨_, _, rfl, rfl, k _ _ .refl o (.bl _)⟩
  · cases e
theorem den_non {K : PySem.W.Frag} {mg : Str → Option Value} {μ : Pl} {H : Hp} {v : V} {d : D} (h : Den K mg μ H v d) : v = .non ↔ d = .non := by
  cases h <;> simp
theorem r_is : OpR X (compareOp .Is) (rP2 X.K X.mg isP) := by
  intro pins s σ H x y v u Q I rx ry h
  obtain ⟨μ, S, a, b, d, o, da, db, e, k⟩ := h
  unfold isP at e
  split at e
  · obtain rfl := Option.some.inj e
    cases da; cases db
    exact op_isN pins s σ H _ _ v u Q I rx ry ⟨rfl, by
      rw [decide_eq_true rfl]
      exact k _ _ .refl o (.bl _)⟩
  · rename_i hn
    obtain rfl := Option.some.inj e
    cases db
    exact op_isN pins s σ H _ _ v u Q I rx ry ⟨rfl, by
      rw [decide_eq_false (fun z => hn ((den_non da).mp z))]
      exact k _ _ .refl o (.bl _)⟩
  · cases e
theorem r_isn : OpR X (compareOp .IsNot) (rP2 X.K X.mg isnP) := by
  intro pins s σ H x y v u Q I rx ry h
  obtain ⟨μ, S, a, b, d, o, da, db, e, k⟩ := h
  unfold isnP at e
  split at e
  · obtain rfl := Option.some.inj e
    cases da; cases db
    exact op_notN pins s σ H _ _ v u Q I rx ry ⟨rfl, by
      rw [decide_eq_true rfl]
      exact k _ _ .refl o (.bl _)⟩
  · rename_i hn
    obtain rfl := Option.some.inj e
    cases db
    exact op_notN pins s σ H _ _ v u Q I rx ry ⟨rfl, by
      rw [decide_eq_false (fun z => hn ((den_non da).mp z))]
      exact k _ _ .refl o (.bl _)⟩
  · cases e
theorem inQ_run {pins : List (Addr × Obj)} {s : Shared} {σ : L2.St} {H : Hp} {x y : V} {v u : Value} {Q : VK} {μ : Pl} {S : Store} {a b : D} {k : Bool} (I : Inv X pins σ H s) (rx : RelV x v) (ry : RelV y u)
    (o : Ok X.K X.mg μ H S) (da : Den X.K X.mg μ H x a) (db : Den X.K X.mg μ H y b) (e : inQ S a b = some k) :
    (Q (.bl k) H → wpAny (model X.prog X.w) X.A (compareOp .In v u) (EP X pins σ Q) X.xe s) ∧ (Q (.bl (!k)) H → wpAny (model X.prog X.w) X.A (compareOp .NotIn v u) (EP X pins σ Q) X.xe s) := by
  unfold inQ at e
  split at e
  · rename_i x y
    split at e
    · rename_i c hc
      obtain rfl := Option.some.inj e
      cases da; cases db
      have ex : x = ⟨#[c]⟩ := by
        have : x.cps = #[c] := by
          rw [← Array.toList_inj]
          exact hc
        cases x
        simp at this
        rw [this]
      exact ⟨fun q => op_in_sign pins s σ H _ _ v u Q I rx ry ⟨c, y, by rw [ex], rfl, q⟩, fun q => op_notIn_sign pins s σ H _ _ v u Q I rx ry ⟨c, y, by rw [ex], rfl, q⟩⟩
    · cases e
  · split at e
    · rename_i ds hq
      split at e
      · rename_i v0 vs e1 e2
        obtain rfl := Option.some.inj e
        obtain ⟨p, ws, rfl, hs, hd⟩ := asQ_den o db hq
        obtain rfl := scalD_den da e1
        obtain rfl := scalL_den hd e2
        exact ⟨fun q => op_in_seq pins s σ H _ _ v u Q I rx ry ⟨p, ws, rfl, hs, scalD_flat e1, scalL_flat e2, q⟩, fun q => op_notIn_seq pins s σ H _ _ v u Q I rx ry ⟨p, ws, rfl, hs, scalD_flat e1, scalL_flat e2, q⟩⟩
      · cases e
    · cases e
theorem r_in : OpR X (compareOp .In) (rP2 X.K X.mg inP) := by
  intro pins s σ H x y v u Q I rx ry h
  obtain ⟨μ, S, a, b, d, o, da, db, e, k⟩ := h
  unfold inP at e
  cases q : inQ S a b with
  | none => rw [q] at e; cases e
  | some r =>
    rw [q] at e
    obtain rfl := Option.some.inj e
    exact (inQ_run I rx ry o da db q).1 (k _ _ .refl o (.bl _))
theorem r_nin : OpR X (compareOp .NotIn) (rP2 X.K X.mg ninP) := by
  intro pins s σ H x y v u Q I rx ry h
  obtain ⟨μ, S, a, b, d, o, da, db, e, k⟩ := h
  unfold ninP at e
  cases q : inQ S a b with
  | none => rw [q] at e; cases e
  | some r =>
    rw [q] at e
    obtain rfl := Option.some.inj e
    exact (inQ_run I rx ry o da db q).2 (k _ _ .refl o (.bl _))
end
end PyM
set_option Elab.async false
set_option linter.all false
set_option maxRecDepth 100000
set_option maxHeartbeats 2000000
namespace PyM
open PySem PySem.Spec PyProof.Rows L2

def asB : D → Option Bool
  | .bl b => some b
  | _ => none
def asI : D → Option Int
  | .int i => some i
  | _ => none
def toB (m : M D) : M Bool := M.bind m fun d => M.lift (asB d)
section
variable {X : Cx} {E : L2.St → XK} {a b c e : Expr} {es rest : List Expr} {ma mb mc : Env' → M D} {ta tb : Env' → M Bool} {pos : Pos}
theorem tB'.run {K : PySem.W.Frag} {mg : Str → Option Value} {m : Env' → M Bool} {σ : L2.St} {H : Hp} {μ : Pl} {ρ : Env'} {S : Store} {α : Type} {k : Bool → M α} {Q : Bool → Hp → Prop} {R : Res α → Prop}
    (he : EnvOk K mg μ H σ ρ) (ho : Ok K mg μ H S) (hR : R (M.bind (m ρ) k S)) (hx : ∀ c fs S', R (.exc c fs S') → XP K mg μ H (E σ) c fs S') (hb : ¬ R .bad)
    (hk : ∀ d S', m ρ S = .ok d S' → R (k d S') → ∀ H' μ', Step μ μ' H H' → Ok K mg μ' H' S' → EnvOk K mg μ' H' σ ρ → Q d H') : tB' K mg E m σ H Q := by
  refine ⟨ρ, μ, S, he, ho, ?_⟩
  unfold M.bind at hR
  cases e : m ρ S with
  | ok d S' =>
    rw [e] at hR
    exact fun H' μ' st o' => hk d S' e hR H' μ' st o' (he.mono ho st)
  | exc c fs S' =>
    rw [e] at hR
    exact hx c fs S' hR
  | bad =>
    rw [e] at hR
    exact absurd hR hb
theorem tA'.run {K : PySem.W.Frag} {mg : Str → Option Value} {m : Env' → M (List D)} {σ : L2.St} {H : Hp} {μ : Pl} {ρ : Env'} {S : Store} {α : Type} {k : List D → M α} {Q : List V → Hp → Prop} {R : Res α → Prop}
    (he : EnvOk K mg μ H σ ρ) (ho : Ok K mg μ H S) (hR : R (M.bind (m ρ) k S)) (hx : ∀ c fs S', R (.exc c fs S') → XP K mg μ H (E σ) c fs S') (hb : ¬ R .bad)
    (hk : ∀ d S', m ρ S = .ok d S' → R (k d S') → ∀ v H' μ', Step μ μ' H H' → Ok K mg μ' H' S' → EnvOk K mg μ' H' σ ρ → DenL K mg μ' H' v d → Q v H') : tA' K mg E m σ H Q := by
  refine ⟨ρ, μ, S, he, ho, ?_⟩
  unfold M.bind at hR
  cases e : m ρ S with
  | ok d S' =>
    rw [e] at hR
    exact fun v H' μ' st o' dd => hk d S' e hR v H' μ' st o' (he.mono ho st) dd
  | exc c fs S' =>
    rw [e] at hR
    exact hx c fs S' hR
  | bad =>
    rw [e] at hR
    exact absurd hR hb
/-- a value of the mirror that is a truth -/
theorem tTest_of {K : PySem.W.Frag} {mg : Str → Option Value} {m : Env' → M D} {σ : L2.St} {H : Hp} {Q : Bool → Hp → Prop} (h : tB' K mg E (fun ρ => toB (m ρ)) σ H Q) : tE K mg E m σ H fun x H1 => ∃ k, x = .bl k ∧ Q k H1 := by
  obtain ⟨ρ, μ, S, he, ho, h⟩ := h
  refine tE.run (k := fun d => M.lift (asB d)) (R := fun r => PostB K mg μ H (E σ) r Q) he ho h (fun _ _ _ z => z) (fun z => z) fun d S1 _ h1 v H1 μ1 s1 o1 e1 d1 => ?_
  cases d1 with
  | bl k => exact ⟨k, rfl, h1 H1 μ1 s1 o1⟩
  | _ => exact h1.elim
theorem mt_val (h : ME X E e ma) (he : ∀ whole, isTrue e X.env whole = (do let v ← whole; standAt e.pos; holding [v] (truthy v)) := by intro _; rfl) : MT X E e (fun ρ => toB (ma ρ)) :=
  (pt_val h he).weak fun _ _ _ h => tTest_of h
theorem mt_cmp {op : CmpOp} {f : Store → D → D → Option D} (hr : OpR X (compareOp op) (rP2 X.K X.mg f)) (ha : ME X E a ma) (hb : ME X E b mb) (hm : behindInMarks op b = false := by rfl) : MT X E (.Compare a [op] [b] pos) (fun ρ => toB (bin2 f ma mb ρ)) :=
  (pt_cmpR hr ha hb hm).weak fun _ _ _ h => tOp_of (tTest_of h)
theorem mt_not (ha : MT X E a ta) : MT X E (.UnaryOp .Not a pos) (fun ρ => M.bind (ta ρ) fun c => M.pure (!c)) := (pt_not ha).weak fun σ H Q h => by
  obtain ⟨ρ, μ, S, he, ho, h⟩ := h
  exact tB'.run (k := fun c => M.pure (!c)) (R := fun r => PostB X.K X.mg μ H (E σ) r Q) he ho h (fun _ _ _ z => z) (fun z => z) fun d S1 _ h1 H1 μ1 s1 o1 e1 => h1 H1 μ1 s1 o1
def andM (ta tb : Env' → M Bool) : Env' → M Bool := fun ρ => M.bind (ta ρ) fun c => if c = true then tb ρ else M.pure false
def orM (ta tb : Env' → M Bool) : Env' → M Bool := fun ρ => M.bind (ta ρ) fun c => if c = true then M.pure true else tb ρ
theorem mw_and1 (ha : MT X E a ta) : MW X E (.BoolOp .And [a] pos) ta := pw_and1 ha
theorem mw_or1 (ha : MT X E a ta) : MW X E (.BoolOp .Or [a] pos) ta := pw_or1 ha
theorem mw_and (ha : MT X E a ta) (hb : MW X E (.BoolOp .And (b :: rest) pos) tb) : MW X E (.BoolOp .And (a :: b :: rest) pos) (andM ta tb) := (pw_and ha hb).weak fun σ H Q h => by
  obtain ⟨ρ, μ, S, he, ho, h⟩ := h
  refine tB'.run (k := fun c => if c = true then tb ρ else M.pure false) (R := fun r => PostB X.K X.mg μ H (E σ) r Q) he ho h (fun _ _ _ z => z) (fun z => z) fun d S1 _ h1 H1 μ1 s1 o1 e1 => ?_
  cases d with
  | true => exact ⟨ρ, μ1, S1, e1, o1, PostB.of s1 h1⟩
  | false => exact h1 H1 μ1 s1 o1
theorem mw_or (ha : MT X E a ta) (hb : MW X E (.BoolOp .Or (b :: rest) pos) tb) : MW X E (.BoolOp .Or (a :: b :: rest) pos) (orM ta tb) := (pw_or ha hb).weak fun σ H Q h => by
  obtain ⟨ρ, μ, S, he, ho, h⟩ := h
  refine tB'.run (k := fun c => if c = true then M.pure true else tb ρ) (R := fun r => PostB X.K X.mg μ H (E σ) r Q) he ho h (fun _ _ _ z => z) (fun z => z) fun d S1 _ h1 H1 μ1 s1 o1 e1 => ?_
  cases d with
  | true => exact h1 H1 μ1 s1 o1
  | false => exact ⟨ρ, μ1, S1, e1, o1, PostB.of s1 h1⟩
theorem mt_bool {op : BoolOp} {l : List Expr} (h : MW X E (.BoolOp op l pos) ta) : MT X E (.BoolOp op l pos) ta := PW.pt h
/-! values -/
def andV (ma mb : Env' → M D) : Env' → M D := fun ρ => M.bind (toB (ma ρ)) fun c => if c = true then mb ρ else M.pure (.bl false)
def orV (ma mb : Env' → M D) : Env' → M D := fun ρ => M.bind (toB (ma ρ)) fun c => if c = true then M.pure (.bl true) else mb ρ
theorem toB_bind {α : Type} {m : M D} {k : Bool → M α} : M.bind (toB m) k = M.bind m fun d => M.bind (M.lift (asB d)) k := by
  funext S
  unfold toB M.bind
  cases m S <;> rfl
theorem me_one {op} (h : ME X E a ma) : ME X E (.BoolOp op [a] pos) ma := pe_one h
theorem me_and (ha : ME X E a ma) (hb : ME X E (.BoolOp .And (b :: rest) pos) mb) : ME X E (.BoolOp .And (a :: b :: rest) pos) (andV ma mb) := (pe_and ha hb).weak fun σ H Q h => by
  obtain ⟨ρ, μ, S, he, ho, h⟩ := h
  unfold andV at h
  rw [toB_bind] at h
  refine tE.run (R := fun r => PostD X.K X.mg μ H (E σ) r Q) he ho h (fun _ _ _ z => z) (fun z => z) fun d S1 _ h1 v H1 μ1 s1 o1 e1 d1 => ?_
  cases d1 with
  | bl k =>
    refine ⟨k, rfl, ?_⟩
    cases k with
    | true => exact ⟨ρ, μ1, S1, e1, o1, PostD.of s1 h1⟩
    | false => exact h1 (.bl false) H1 μ1 s1 o1 (.bl _)
  | _ => exact h1.elim
theorem me_or (ha : ME X E a ma) (hb : ME X E (.BoolOp .Or (b :: rest) pos) mb) : ME X E (.BoolOp .Or (a :: b :: rest) pos) (orV ma mb) := (pe_or ha hb).weak fun σ H Q h => by
  obtain ⟨ρ, μ, S, he, ho, h⟩ := h
  unfold orV at h
  rw [toB_bind] at h
  refine tE.run (R := fun r => PostD X.K X.mg μ H (E σ) r Q) he ho h (fun _ _ _ z => z) (fun z => z) fun d S1 _ h1 v H1 μ1 s1 o1 e1 d1 => ?_
  cases d1 with
  | bl k =>
    refine ⟨k, rfl, ?_⟩
    cases k with
    | true => exact h1 (.bl true) H1 μ1 s1 o1 (.bl _)
    | false => exact ⟨ρ, μ1, S1, e1, o1, PostD.of s1 h1⟩
  | _ => exact h1.elim
def notV (ma : Env' → M D) : Env' → M D := fun ρ => M.bind (toB (ma ρ)) fun c => M.pure (.bl (!c))
theorem me_not (ha : ME X E a ma) : ME X E (.UnaryOp .Not a pos) (notV ma) := (pe_not ha).weak fun σ H Q h => by
  obtain ⟨ρ, μ, S, he, ho, h⟩ := h
  unfold notV at h
  rw [toB_bind] at h
  refine tE.run (R := fun r => PostD X.K X.mg μ H (E σ) r Q) he ho h (fun _ _ _ z => z) (fun z => z) fun d S1 _ h1 v H1 μ1 s1 o1 e1 d1 => ?_
  cases d1 with
  | bl k => exact ⟨k, rfl, h1 _ H1 μ1 s1 o1 (.bl _)⟩
  | _ => exact h1.elim
theorem me_if (hc : MT X E c ta) (ha : ME X E a ma) (hb : ME X E b mb) : ME X E (.IfExp c a b pos) (fun ρ => M.bind (ta ρ) fun k => if k = true then ma ρ else mb ρ) := (pe_ifExp hc ha hb).weak fun σ H Q h => by
  obtain ⟨ρ, μ, S, he, ho, h⟩ := h
  refine tB'.run (k := fun c => if c = true then ma ρ else mb ρ) (R := fun r => PostD X.K X.mg μ H (E σ) r Q) he ho h (fun _ _ _ z => z) (fun z => z) fun d S1 _ h1 H1 μ1 s1 o1 e1 => ?_
  cases d with
  | true => exact ⟨ρ, μ1, S1, e1, o1, PostD.of s1 h1⟩
  | false => exact ⟨ρ, μ1, S1, e1, o1, PostD.of s1 h1⟩
/-! chains a op b op' c -/
def chain2 (f g : Store → D → D → Option D) (ma mb mc : Env' → M D) : Env' → M D := fun ρ => M.bind (ma ρ) fun x => M.bind (mb ρ) fun y => M.bind (M.op2 f x y) fun z => M.bind (M.lift (asB z)) fun k =>
  if k = true then M.bind (mc ρ) fun w => M.op2 g y w else M.pure (.bl false)
theorem tChain_of {f g : Store → D → D → Option D} {σ : L2.St} {H : Hp} {Q : VK} (h : tE X.K X.mg E (chain2 f g ma mb mc) σ H Q) : tChain (rP2 X.K X.mg f) (rP2 X.K X.mg g) (tE X.K X.mg E ma) (tE X.K X.mg E mb) (tE X.K X.mg E mc) σ H Q := by
  obtain ⟨ρ, μ, S, he, ho, h⟩ := h
  refine tE.run (R := fun r => PostD X.K X.mg μ H (E σ) r Q) he ho h (fun _ _ _ z => z) (fun z => z) fun x S1 _ h1 v H1 μ1 s1 o1 e1 d1 => ?_
  refine tE.run (R := fun r => PostD X.K X.mg μ1 H1 (E σ) r Q) e1 o1 (PostD.of s1 h1) (fun _ _ _ z => z) (fun z => z) fun y S2 _ h2 w H2 μ2 s2 o2 e2 d2 => ?_
  have h2' := PostD.of s2 h2
  unfold M.bind M.op2 at h2'
  dsimp only at h2'
  cases q : f S2 x y with
  | none => rw [q] at h2'; exact h2'.elim
  | some d =>
    rw [q] at h2'
    refine ⟨μ2, S2, x, y, d, o2, d1.mono o1 s2, d2, q, fun v' H3 st o3 hd => ?_⟩
    cases hd with
    | bl k =>
      refine ⟨k, rfl, ?_⟩
      cases k with
      | false => exact h2' (.bl false) H3 μ2 st o3 (.bl _)
      | true =>
        have e3 := e2.mono o2 st
        have h3 : PostD X.K X.mg μ2 H2 (E σ) (M.bind (mc ρ) (fun w => M.op2 g y w) S2) Q := h2'
        refine tE.run (R := fun r => PostD X.K X.mg μ2 H3 (E σ) r Q) e3 o3 (PostD.of st h3) (fun _ _ _ z => z) (fun z => z) fun w' S4 _ h4 v4 H4 μ4 s4 o4 e4 d4 => ?_
        unfold M.op2 at h4
        cases q' : g S4 y w' with
        | none => rw [q'] at h4; exact h4.elim
        | some d' =>
          rw [q'] at h4
          exact ⟨μ4, S4, y, w', d', o4, (d2.mono o2 st).mono o3 s4, d4, q', fun v' H' st' o' hd' => h4 v' H' μ4 (s4.trans st') o' hd'⟩
    | _ => exact h2'.elim
theorem me_chain {op op' : CmpOp} {f g : Store → D → D → Option D} (hr : OpR X (compareOp op) (rP2 X.K X.mg f)) (hr' : OpR X (compareOp op') (rP2 X.K X.mg g)) (ha : ME X E a ma) (hb : ME X E b mb) (hc : ME X E c mc)
    (hm : lastMarks [op, op'] [b, c] = false := by with_unfolding_all rfl) : ME X E (.Compare a [op, op'] [b, c] pos) (chain2 f g ma mb mc) := (pe_chain hr hr' ha hb hc hm).weak fun _ _ _ h => tChain_of h
theorem mt_chain {op op' : CmpOp} {f g : Store → D → D → Option D} (hr : OpR X (compareOp op) (rP2 X.K X.mg f)) (hr' : OpR X (compareOp op') (rP2 X.K X.mg g)) (ha : ME X E a ma) (hb : ME X E b mb) (hc : ME X E c mc)
    (hm : lastMarks [op, op'] [b, c] = false := by with_unfolding_all rfl) : MT X E (.Compare a [op, op'] [b, c] pos) (fun ρ => toB (chain2 f g ma mb mc ρ)) := (pt_chain hr hr' ha hb hc hm).weak fun _ _ _ h => tChain_of (tTest_of h)
/-! one-place -/
def rP1 (K : PySem.W.Frag) (mg : Str → Option Value) (f : Store → D → Option D) : V → Hp → VK → Prop := fun v H Q => ∃ μ S x d, Ok K mg μ H S ∧ Den K mg μ H v x ∧ f S x = some d ∧ ∀ v' H', Step μ μ H H' → Ok K mg μ H' S → Den K mg μ H' v' d → Q v' H'
def un1 (f : Store → D → Option D) (ma : Env' → M D) : Env' → M D := fun ρ => M.bind (ma ρ) fun x => M.op1 f x
theorem me_un {op : UnaryOp} {f : Store → D → Option D} (hr : UnR X (unaryOp op) (rP1 X.K X.mg f)) (ha : ME X E a ma) : ME X E (.UnaryOp op a pos) (un1 f ma) := (pe_un hr ha).weak fun σ H Q h => by
  obtain ⟨ρ, μ, S, he, ho, h⟩ := h
  refine tE.run (R := fun r => PostD X.K X.mg μ H (E σ) r Q) he ho h (fun _ _ _ z => z) (fun z => z) fun x S1 _ h1 v H1 μ1 s1 o1 e1 d1 => ?_
  unfold M.op1 at h1
  cases q : f S1 x with
  | none => rw [q] at h1; exact h1.elim
  | some d =>
    rw [q] at h1
    exact ⟨μ1, S1, x, d, o1, d1, q, fun v' H' st o' hd => h1 v' H' μ1 (s1.trans st) o' hd⟩
def negP (_ : Store) : D → Option D
  | .int i => some (.int (-i))
  | _ => none
theorem r_neg : UnR X (unaryOp .USub) (rP1 X.K X.mg negP) := by
  intro pins s σ H x v Q I rx h
  obtain ⟨μ, S, a, d, o, da, e, k⟩ := h
  unfold negP at e
  split at e
  · obtain rfl := Option.some.inj e
    cases da
    exact un_neg pins s σ H _ v Q I rx ⟨_, rfl, k _ _ .refl o (.int _)⟩
  · cases e
/-! argument lists, displays -/
theorem ma_nil : MA X E [] (fun _ => M.pure []) := pa_nil.weak fun σ H Q h => by
  obtain ⟨ρ, μ, S, he, ho, h⟩ := h
  exact h [] H μ .refl ho .nil
theorem ma_cons {ms : Env' → M (List D)} (ha : ME X E a ma) (hr : MA X E es ms) (hs : starEach (a :: es) X.env = (false, eval a X.env) :: starEach es X.env := by rfl) :
    MA X E (a :: es) (fun ρ => M.bind (ma ρ) fun d => M.bind (ms ρ) fun ds => M.pure (d :: ds)) := (pa_cons ha hr hs).weak fun σ H Q h => by
  obtain ⟨ρ, μ, S, he, ho, h⟩ := h
  refine tE.run (R := fun r => PostL X.K X.mg μ H (E σ) r Q) he ho h (fun _ _ _ z => z) (fun z => z) fun x S1 _ h1 v H1 μ1 s1 o1 e1 d1 => ?_
  refine tA'.run (R := fun r => PostL X.K X.mg μ1 H1 (E σ) r Q) e1 o1 (PostL.of s1 h1) (fun _ _ _ z => z) (fun z => z) fun ds S2 _ h2 vs H2 μ2 s2 o2 e2 d2 => ?_
  exact h2 (v :: vs) H2 μ2 s2 o2 (.cons (d1.mono o1 s2) d2)
def tupM (ms : Env' → M (List D)) : Env' → M D := fun ρ => M.bind (ms ρ) fun ds => if ds.length ≤ sizeLine then M.pure (.tup ds) else M.bad
def lstM (ms : Env' → M (List D)) : Env' → M D := fun ρ => M.bind (ms ρ) fun ds => if ds.length ≤ sizeLine then M.pure (.lst ds) else M.bad
/-- a new list that will be changed in place -/
def newCell (ds : List D) : M D := fun S => if ds.length ≤ sizeLine then .ok (.loc S.length) (S ++ [.lst ds]) else .bad
theorem me_tup {x1} {ms : Env' → M (List D)} (h : MA X E es ms) : ME X E (.Tuple es x1 pos) (tupM ms) := (pe_tup h).weak fun σ H Q h => by
  obtain ⟨ρ, μ, S, he, ho, h⟩ := h
  refine tA'.run (R := fun r => PostD X.K X.mg μ H (E σ) r Q) he ho h (fun _ _ _ z => z) (fun z => z) fun ds S1 _ h1 vs H1 μ1 s1 o1 e1 d1 => ?_
  have hl := d1.length
  split at h1
  · refine ⟨by omega, fun p hp => ?_⟩
    obtain ⟨s2, o2, d2⟩ := new_tup o1 hp d1
    exact h1 _ _ μ1 (s1.trans s2) o2 d2
  · exact h1.elim
theorem me_lst {ms : Env' → M (List D)} (h : MA X E es ms) : ME X E (.List es pos) (lstM ms) := (pe_lst h).weak fun σ H Q h => by
  obtain ⟨ρ, μ, S, he, ho, h⟩ := h
  refine tA'.run (R := fun r => PostD X.K X.mg μ H (E σ) r Q) he ho h (fun _ _ _ z => z) (fun z => z) fun ds S1 _ h1 vs H1 μ1 s1 o1 e1 d1 => ?_
  have hl := d1.length
  split at h1
  · refine ⟨by omega, fun p hp => ?_⟩
    obtain ⟨s2, o2, d2⟩ := new_lst o1 hp d1
    exact h1 _ _ μ1 (s1.trans s2) o2 d2
  · exact h1.elim
theorem me_cell {ms : Env' → M (List D)} (h : MA X E es ms) : ME X E (.List es pos) (fun ρ => M.bind (ms ρ) newCell) := (pe_lst h).weak fun σ H Q h => by
  obtain ⟨ρ, μ, S, he, ho, h⟩ := h
  refine tA'.run (R := fun r => PostD X.K X.mg μ H (E σ) r Q) he ho h (fun _ _ _ z => z) (fun z => z) fun ds S1 _ h1 vs H1 μ1 s1 o1 e1 d1 => ?_
  have hl := d1.length
  unfold newCell at h1
  split at h1
  · refine ⟨by omega, fun p hp => ?_⟩
    refine h1 _ _ (μ1.add p) (s1.trans (.cell hp)) (o1.cell hp d1) (.loc o1.atNew)
  · exact h1.elim
end
end PyM
set_option Elab.async false
set_option linter.all false
set_option maxRecDepth 100000
set_option maxHeartbeats 2000000
namespace PyM
open PySem PySem.Spec PyProof.Rows L2

/-! ### a def's promise where no repr is under way -/
structure FnG (P : Program) (w : World) (K : W.Frag) (mg : Str → Option Value) (base : Heap) (CX : CXT) (k : Nat) (f : Addr) (fd : FuncData) (ps : List Str) (sp : Sp) : Prop where
  len : ∀ vs H Q E, sp vs H Q E → vs.length = ps.length
  go : ∀ (A : Around) (outer : List Env) (s : Shared) (H : Hp) (args : Args) (us : List Value) (vs : List V) (Q : VK) (E : XK), A.guards = some [] → Room k A → Env0 P w K mg base A outer s H →
    BindsTo s fd args (ps.zip us) → Vals vs us → sp vs H Q E → codeAny (model P w) A (.call (.ref f) args) (CR CX outer P w H s Q E) s
theorem FnG.mono {P : Program} {w : World} {K : W.Frag} {mg : Str → Option Value} {base : Heap} {CX : CXT} {j k : Nat} {f : Addr} {fd : FuncData} {ps : List Str} {sp : Sp} (F : FnG P w K mg base CX j f fd ps sp) (h : j ≤ k) :
    FnG P w K mg base CX k f fd ps sp := ⟨F.len, fun A o s H a us vs Q E hg hr => F.go A o s H a us vs Q E hg (hr.mono h)⟩
theorem deeper_guards (A : Around) (env : Env) : (A.deeper env).guards = A.guards := rfl
section
variable {CX : CXT} {P : Program} {w : World} {K : W.Frag} {mg : Str → Option Value} {base : Heap} {k : Nat} {f : Addr}
/-- a def keeps its promise, by the reading of its body -/
theorem FnG.mk' {x qual : Str} {st : Stmt} {fd : FuncData} {N ps : List Str} {sp : Sp} (F : Fun K x qual st f fd) (S : FnScope N ps (defScope st)) (hlen : ∀ vs H Q E, sp vs H Q E → vs.length = ps.length)
    (hb : ∀ (cdv : Value) (A : Around) (outer : List Env) (s : Shared) (H : Hp) (vs : List V) (Q : VK) (E : XK), A.guards = some [] → Room k (A.deeper (envOfC qual (defScope st) s.heap.objs.size f cdv)) → sp vs H Q E →
      ∃ t, PSs (cxOf CX P w K mg base N qual (defScope st) f cdv A outer s H E) (defBody st) t ∧ t ⟨fun _ H' => Q .non H', Q, fun _ _ => False, fun _ _ => False⟩ (start N vs) H) :
    FnG P w K mg base CX (k + 1) f fd ps sp := by
  obtain ⟨oc, od, kV, doc, pm, an, cdv, ct, osl, rfl, lk, hcd⟩ := F.ex
  refine ⟨hlen, ?_⟩
  intro A outer s H args us vs Q E hG hr e0 hbind hv hs
  have hl := hlen _ _ _ _ hs
  have inK : K.In s.heap := e0.mod.kin.keeps fun b o e => (e0.bs b o e).1
  have noLim : s.heap.NoLimit := e0.mod.nolimit.keeps fun b o e => (e0.bs b o e).1
  have kinds : ∀ y ∈ ps.zip us, (defScope st).names.lookup y.1 = some .local ∨ ((defScope st).names.lookup y.1 = some .cell ∧ ((cellsFrom (s.heap.objs.size + 1) (defScope st).names []).lookup y.1).isSome = true) := by
    rintro ⟨n, v⟩ hy
    cases S.par n (List.of_mem_zip hy).1 with
    | inl q => exact Or.inl q
    | inr q => exact Or.inr ⟨q, W.cellsFrom_some _ _ _ (Or.inl q)⟩
  refine codeAny_call_function hr.depth (inK _ _ lk) rfl S.co S.gen rfl (W.codeRec_of inK hcd) ?_
  refine hbind _ _ _ _ (wpAny_newFunctionEnv_cells S.kind kinds ?_)
  intro env he s1 x
  subst he
  refine ⟨noLim.keeps x.toInCall.keep, codeAny_func ?_⟩
  obtain ⟨t, ht, hq⟩ := hb cdv A outer s H vs Q E hG (hr.deeper _) hs
  have I := inv_start (CX := CX) (E := E) S hr.hd e0 hl hv x
  refine wpAny_mono (ht.run [] s1 _ H _ I hq) ?_ (fun e s' z => z)
  intro fl s' z
  cases fl with
  | ret u =>
    obtain ⟨v, σ', H', J, rv, q⟩ := z
    exact ⟨v, H', J.os, J.bare, J.base, J.hok, rv, q⟩
  | next =>
    obtain ⟨σ', H', J, q⟩ := z
    exact ⟨.non, H', J.os, J.bare, J.base, J.hok, rfl, q⟩
  | brk =>
    obtain ⟨_, _, _, q⟩ := z
    exact (show False from q).elim
  | cont =>
    obtain ⟨_, _, _, q⟩ := z
    exact (show False from q).elim
end
section
variable {X : Cx} {CX : CXT} {k : Nat} {f : Addr} {fd : FuncData} {ps : List Str} {sp : Sp} {ds : List Value} {dvs : List V}
/-- the callee runs -/
theorem FnG.called {E : XK} {pins : List (Addr × Obj)} {σ : L2.St} {H : Hp} {s : Shared} {Q : VK} {us : List Value} {vs : List V} (F : FnG X.prog X.w X.K X.mg X.base CX k f fd ps sp) (hG : X.A.guards = some []) (hr : Room k X.A)
    (hb : Binds X.K fd ps []) (hx : PassesAt CX X σ E) (I : Inv X pins σ H s) (r : Vals vs us) (h : sp vs H Q E) : wpAny (model X.prog X.w) X.A (call (.ref f) us) (EP X pins σ Q) X.xe s := by
  have hl : us.length = ps.length := by
    rw [← r.length]
    exact F.len _ _ _ _ h
  have hbt := hb s us I.kIn (by rw [List.append_nil]; exact hl)
  rw [List.append_nil] at hbt
  refine wpAny_call (codeAny_mono (F.go X.A X.stack s H ⟨us, []⟩ us vs Q E hG hr I.env0 hbt r h) ?_)
  intro res s' hq
  match res, hq with
  | .error e, hq => exact hx pins H s e s' I hq
  | .ok (.ret u), hq => exact I.after hq
end
/-- a mirror's promise -/
def spM (K : W.Frag) (mg : Str → Option Value) (n : Nat) (Fm : List D → M D) : Sp := fun vs H Q E => vs.length = n ∧ ∃ ds μ S, DenL K mg μ H vs ds ∧ Ok K mg μ H S ∧ PostD K mg μ H E (Fm ds S) Q
section
variable {X : Cx} {E : L2.St → XK} {a b c e : Expr} {es rest : List Expr} {ma mb mc : Env' → M D} {ms : Env' → M (List D)} {pos p : Pos}
/-- f(..), f a def of the text -/
theorem me_call {CX : CXT} {k n : Nat} {f : Addr} {fd : FuncData} {ps : List Str} {Fm : List D → M D} {x : Str} (F : FnG X.prog X.w X.K X.mg X.base CX k f fd ps (spM X.K X.mg n Fm)) (hG : X.A.guards = some []) (hr : Room k X.A)
    (hm : X.mg x = some (.ref f)) (hk : W.keepIn X.K (.ref f) = true) (hb : Binds X.K fd ps []) (hx : ∀ σ, PassesAt CX X σ (E σ)) (ha : MA X E (e :: es) ms) (hlen : ∀ ρ S ds S', ms ρ S = .ok ds S' → ds.length = n)
    (hg : Gl X x := by rfl) (hdb : (x == ("__debug__" : Str)) = false := by decide) (he : starEach (e :: es) X.env = (false, eval e X.env) :: starEach es X.env := by rfl) (hpl : (backTo pos (starEach es X.env)).any (·.1) = false := by rfl) :
    ME X E (.Call (.Name x p) (e :: es) [] pos) (fun ρ => M.bind (ms ρ) Fm) := by
  refine ⟨fun pins s σ H Q I h => ?_⟩
  obtain ⟨ρ, μ, S, hE, hO, h⟩ := h
  have hA : tA' X.K X.mg E ms σ H fun vs H1 => spM X.K X.mg n Fm vs H1 Q (E σ) := tA'.run (k := Fm) (R := fun r => PostD X.K X.mg μ H (E σ) r Q) hE hO h (fun _ _ _ z => z) (fun z => z) fun ds S1 hds h1 vs H1 μ1 s1 o1 e1 d1 =>
    ⟨by rw [d1.length]; exact hlen _ _ _ _ hds, ds, μ1, S1, d1, o1, PostD.of s1 h1⟩
  refine wpAny_Call_Name_kw (ld_glob I hg hm ?_ hdb)
  refine W.callWith_K (h₀ := X.base) I.ok.mod.kin hk (thn (ha.run pos pins s σ H _ I hA) ?_) he hpl
  intro us s1 hz
  obtain ⟨vs, H1, I1, r, q⟩ := hz
  exact ⟨I1.kIn, F.called hG hr hb (hx σ) I1 r q⟩
/-! built-in calls by values -/
def rPL (K : W.Frag) (mg : Str → Option Value) (f : Store → List D → Option D) : List V → Hp → VK → Prop := fun vs H Q => ∃ μ S ds d, Ok K mg μ H S ∧ DenL K mg μ H vs ds ∧ f S ds = some d ∧ ∀ v' H', Step μ μ H H' → Ok K mg μ H' S → Den K mg μ H' v' d → Q v' H'
def M.opL (f : Store → List D → Option D) (ds : List D) : M D := fun S => match f S ds with
  | some d => .ok d S
  | none => .bad
def bltM (f : Store → List D → Option D) (ms : Env' → M (List D)) : Env' → M D := fun ρ => M.bind (ms ρ) fun ds => M.opL f ds
theorem tCB_of {f : Store → List D → Option D} {σ : L2.St} {H : Hp} {Q : VK} (h : tE X.K X.mg E (bltM f ms) σ H Q) : tCB (rPL X.K X.mg f) (tA' X.K X.mg E ms) σ H Q := by
  obtain ⟨ρ, μ, S, hE, hO, h⟩ := h
  refine tA'.run (R := fun r => PostD X.K X.mg μ H (E σ) r Q) hE hO h (fun _ _ _ z => z) (fun z => z) fun ds S1 hds h1 vs H1 μ1 s1 o1 e1 d1 => ?_
  unfold M.opL at h1
  cases q : f S1 ds with
  | none => rw [q] at h1; exact h1.elim
  | some d =>
    rw [q] at h1
    exact ⟨μ1, S1, ds, d, o1, d1, q, fun v' H' st o' hd => h1 v' H' μ1 (s1.trans st) o' hd⟩
theorem me_blt {id : String} {x : Str} {f : Store → List D → Option D} (hc : CallR X (.builtin id) (rPL X.K X.mg f)) (hm : X.mg x = none) (hv : bootBuiltins x = some (.builtin id)) (ha : MA X E (e :: es) ms) (hg : Gl X x := by rfl) (hn : x ≠ "__name__" := by decide)
    (hdb : (x == ("__debug__" : Str)) = false := by decide) (he : starEach (e :: es) X.env = (false, eval e X.env) :: starEach es X.env := by rfl) (hpl : (backTo pos (starEach es X.env)).any (·.1) = false := by rfl) :
    ME X E (.Call (.Name x p) (e :: es) [] pos) (bltM f ms) := (pe_callB hc hg hm hv ha hn hdb he hpl).weak fun _ _ _ h => tCB_of h
theorem me_bty {T : String} {x : Str} {f : Store → List D → Option D} (hc : CallR X (.type T) (rPL X.K X.mg f)) (hm : X.mg x = none) (hv : bootBuiltins x = some (.type T)) (ha : MA X E (e :: es) ms) (hg : Gl X x := by rfl) (hn : x ≠ "__name__" := by decide)
    (hdb : (x == ("__debug__" : Str)) = false := by decide) (he : starEach (e :: es) X.env = (false, eval e X.env) :: starEach es X.env := by rfl) (hpl : (backTo pos (starEach es X.env)).any (·.1) = false := by rfl) :
    ME X E (.Call (.Name x p) (e :: es) [] pos) (bltM f ms) := (pe_callTy hc hg hm hv ha hn hdb he hpl).weak fun _ _ _ h => tCB_of h
/-- a built-in type as a value -/
theorem me_ty {T : String} {x : Str} (hm : X.mg x = none) (hv : bootBuiltins x = some (.type T)) (hg : Gl X x := by rfl) (hn : x ≠ "__name__" := by decide) (hd : (x == ("__debug__" : Str)) = false := by decide) : ME X E (.Name x pos) (fun _ => M.pure (.ty T)) :=
  me_const (pe_bltn (v := .ty T) hg hm hv rfl hn hd) fun _ _ => .ty T
end
section
variable {K : W.Frag} {mg : Str → Option Value} {μ : Pl} {H : Hp} {S : Store}
theorem den1 {vs : List V} {d : D} (h : DenL K mg μ H vs [d]) : ∃ v, vs = [v] ∧ Den K mg μ H v d := by
  cases h with
  | cons a b => cases b; exact ⟨_, rfl, a⟩
theorem den2 {vs : List V} {d d' : D} (h : DenL K mg μ H vs [d, d']) : ∃ v v', vs = [v, v'] ∧ Den K mg μ H v d ∧ Den K mg μ H v' d' := by
  cases h with
  | cons a b =>
    obtain ⟨w, rfl, c⟩ := den1 b
    exact ⟨_, _, rfl, a, c⟩
end
/-! ### len, isinstance, int, abs, tuple, list -/
def lenP (S : Store) : List D → Option D
  | [.str z] => if z.length ≤ sizeLine then some (.int z.length) else none
  | [d] => (asQ S d).map fun ds => .int ds.length
  | _ => none
def tyName (S : Store) : D → Option String
  | .non => some "NoneType"
  | .bl _ => some "bool"
  | .int _ => some "int"
  | .str _ => some "str"
  | .tup _ => some "tuple"
  | .lst _ => some "list"
  | .loc n => match S[n]? with
    | some (.lst _) => some "list"
    | some (.dct _) => some "dict"
    | none => none
  | _ => none
def isiP (S : Store) : List D → Option D
  | [d, .ty n] => match tyName S d with
    | some t => (kitB t n).map .bl
    | none => none
  | _ => none
def intP (_ : Store) : List D → Option D
  | [.int i] => some (.int i)
  | [.bl k] => some (.int (if k then 1 else 0))
  | _ => none
def absP (_ : Store) : List D → Option D
  | [.int i] => some (.int (if i < 0 then -i else i))
  | _ => none
def tupleP (S : Store) : List D → Option D
  | [.tup ds] => some (.tup ds)
  | [d] => (asL S d).map .tup
  | _ => none
def listP (S : Store) : List D → Option D
  | [d] => (asQ S d).map .lst
  | _ => none
section
variable {X : Cx}
theorem c_len : CallR X (.builtin "len") (rPL X.K X.mg lenP) := by
  intro pins s σ H xs us Q I r h
  obtain ⟨μ, S, ds, d, o, dl, e, k⟩ := h
  unfold lenP at e
  split at e
  · split at e
    · obtain rfl := Option.some.inj e
      obtain ⟨v, rfl, dv⟩ := den1 dl
      cases dv
      exact call_len_str pins s σ H _ us Q I r ⟨_, rfl, by assumption, k _ _ .refl o (.int _)⟩
    · cases e
  · rename_i d0 _
    cases q : asQ S d0 with
    | none => rw [q] at e; cases e
    | some es =>
      rw [q] at e
      obtain rfl := Option.some.inj e
      obtain ⟨v, rfl, dv⟩ := den1 dl
      obtain ⟨p, vs, rfl, hs, hd⟩ := asQ_den o dv q
      refine call_len_seq pins s σ H _ us Q I r ⟨p, vs, rfl, hs, ?_⟩
      rw [hd.length]
      exact k _ _ .refl o (.int _)
  · cases e
theorem ty_den {K : W.Frag} {mg : Str → Option Value} {μ : Pl} {H : Hp} {S : Store} (o : Ok K mg μ H S) {v : V} {d : D} {t : String} (h : Den K mg μ H v d) (e : tyName S d = some t) : TyX K H v (.type t) := by
  cases h with
  | non => obtain rfl := Option.some.inj e; exact .base .non
  | bl b => obtain rfl := Option.some.inj e; exact .base (.bl b)
  | int i => obtain rfl := Option.some.inj e; exact .base (.int i)
  | str x => obtain rfl := Option.some.inj e; exact .base (.str x)
  | ty n => cases e
  | scr a b => cases e
  | fn a => cases e
  | exo0 a => cases e
  | exo1 a => cases e
  | lst h1 h2 hh h3 => obtain rfl := Option.some.inj e; exact .base (.lst h1)
  | loc h1 =>
    rename_i n a
    unfold tyName at e
    dsimp only at e
    cases q : S[n]? with
    | none => rw [q] at e; cases e
    | some c =>
      rw [q] at e
      cases c with
      | lst es =>
        obtain rfl := Option.some.inj e
        obtain ⟨vs, h2, _⟩ := o.at_ n a _ h1 q
        exact .base (.lst h2)
      | dct kvs =>
        obtain rfl := Option.some.inj e
        obtain ⟨vs, h2, _⟩ := o.at_ n a _ h1 q
        exact .base (.dK h2)
  | tup h1 h2 =>
    obtain rfl := Option.some.inj e
    rcases h1 with (h1 | ⟨ob, h1⟩) | ⟨ob, its, n, h1, h3, _⟩
    · exact .base (.tup h1)
    · exact .fTuple h1
    · exact .kTuple h1 h3
theorem c_isi : CallR X (.builtin "isinstance") (rPL X.K X.mg isiP) := by
  intro pins s σ H xs us Q I r h
  obtain ⟨μ, S, ds, d, o, dl, e, k⟩ := h
  unfold isiP at e
  split at e
  · rename_i d0 n
    split at e
    · rename_i t ht
      cases q : kitB t n with
      | none => rw [q] at e; cases e
      | some b =>
        rw [q] at e
        obtain rfl := Option.some.inj e
        obtain ⟨v, v', rfl, dv, dv'⟩ := den2 dl
        cases dv'
        exact call_isi pins s σ H _ us Q I r ⟨v, .ty n, .type t, .type n, b, rfl, .ty n, ty_den o dv ht, kit_ty q, k _ _ .refl o (.bl _)⟩
    · cases e
  · cases e
theorem c_int : CallR X (.type "int") (rPL X.K X.mg intP) := by
  intro pins s σ H xs us Q I r h
  obtain ⟨μ, S, ds, d, o, dl, e, k⟩ := h
  unfold intP at e
  split at e
  · obtain rfl := Option.some.inj e
    obtain ⟨v, rfl, dv⟩ := den1 dl
    cases dv
    exact call_int1 pins s σ H _ us Q I r (.inl ⟨_, rfl, k _ _ .refl o (.int _)⟩)
  · obtain rfl := Option.some.inj e
    obtain ⟨v, rfl, dv⟩ := den1 dl
    cases dv
    exact call_int1 pins s σ H _ us Q I r (.inr ⟨_, rfl, k _ _ .refl o (.int _)⟩)
  · cases e
theorem c_abs : CallR X (.builtin "abs") (rPL X.K X.mg absP) := by
  intro pins s σ H xs us Q I r h
  obtain ⟨μ, S, ds, d, o, dl, e, k⟩ := h
  unfold absP at e
  split at e
  · obtain rfl := Option.some.inj e
    obtain ⟨v, rfl, dv⟩ := den1 dl
    cases dv
    exact call_abs pins s σ H _ us Q I r ⟨_, rfl, k _ _ .refl o (.int _)⟩
  · cases e
theorem c_tuple : CallR X (.type "tuple") (rPL X.K X.mg tupleP) := by
  intro pins s σ H xs us Q I r h
  obtain ⟨μ, S, ds, d, o, dl, e, k⟩ := h
  unfold tupleP at e
  split at e
  · obtain rfl := Option.some.inj e
    obtain ⟨v, rfl, dv⟩ := den1 dl
    cases dv with
    | tup h1 h2 => exact call_tuple_of pins s σ H _ us Q I r ⟨_, _, rfl, .inr ⟨h1, k _ _ .refl o (.tup h1 h2)⟩⟩
  · rename_i d0 _
    cases q : asL S d0 with
    | none => rw [q] at e; cases e
    | some es =>
      rw [q] at e
      obtain rfl := Option.some.inj e
      obtain ⟨v, rfl, dv⟩ := den1 dl
      obtain ⟨p, vs, rfl, h1, h2⟩ := asL_den o dv q
      refine call_tuple_of pins s σ H _ us Q I r ⟨p, vs, rfl, .inl ⟨.inl (.inl h1), fun l hl => ?_⟩⟩
      obtain ⟨s2, o2, d2⟩ := new_tup o hl h2
      exact k _ _ s2 o2 d2
  · cases e
theorem c_list : CallR X (.type "list") (rPL X.K X.mg listP) := by
  intro pins s σ H xs us Q I r h
  obtain ⟨μ, S, ds, d, o, dl, e, k⟩ := h
  unfold listP at e
  split at e
  · rename_i d0
    cases q : asQ S d0 with
    | none => rw [q] at e; cases e
    | some es =>
      rw [q] at e
      obtain rfl := Option.some.inj e
      obtain ⟨v, rfl, dv⟩ := den1 dl
      obtain ⟨p, vs, rfl, h1, h2⟩ := asQ_den o dv q
      refine call_list_of pins s σ H _ us Q I r ⟨p, vs, rfl, h1, fun l hl => ?_⟩
      obtain ⟨s2, o2, d2⟩ := new_lst o hl h2
      exact k _ _ s2 o2 d2
  · cases e
end
end PyM
set_option Elab.async false
set_option linter.all false
set_option maxRecDepth 100000
set_option maxHeartbeats 2000000
namespace PyM
open PySem PySem.Spec PyProof.Rows L2

/-! ### statements -/
inductive SR where
  | nx (ρ : Env') (S : Store)
  | rt (d : D) (S : Store)
  | bk (ρ : Env') (S : Store)
  | ct (ρ : Env') (S : Store)
  | exc (ρ : Env') (c : Str) (fs : List (Str × D)) (S : Store)
  | bad
abbrev MSt := Env' → Store → SR
/-- an expression's outcome, then .. -/
def SR.of {α : Type} (r : Res α) (ρ : Env') (k : α → Store → SR) : SR := match r with
  | .ok x S => k x S
  | .exc c fs S => .exc ρ c fs S
  | .bad => .bad
def SR.bind (r : SR) (k : MSt) : SR := match r with
  | .nx ρ S => k ρ S
  | r => r
section
variable (K : W.Frag) (mg : Str → Option Value)
def PostS (μ : Pl) (H : Hp) (E : L2.St → XK) (r : SR) (D : Ends) : Prop := match r with
  | .nx ρ S => ∀ σ' H' μ', Step μ μ' H H' → Ok K mg μ' H' S → EnvOk K mg μ' H' σ' ρ → D.nx σ' H'
  | .bk ρ S => ∀ σ' H' μ', Step μ μ' H H' → Ok K mg μ' H' S → EnvOk K mg μ' H' σ' ρ → D.bk σ' H'
  | .ct ρ S => ∀ σ' H' μ', Step μ μ' H H' → Ok K mg μ' H' S → EnvOk K mg μ' H' σ' ρ → D.ct σ' H'
  | .rt d S => ∀ v H' μ', Step μ μ' H H' → Ok K mg μ' H' S → Den K mg μ' H' v d → D.rt v H'
  | .exc ρ c fs S => ∀ σ' H' μ', Step μ μ' H H' → Ok K mg μ' H' S → EnvOk K mg μ' H' σ' ρ → ∀ cls d, ExcIs K mg μ' H' cls d c fs → E σ' cls d H'
  | .bad => False
def tS (E : L2.St → XK) (m : MSt) : TS := fun D σ H => ∃ ρ μ S, EnvOk K mg μ H σ ρ ∧ Ok K mg μ H S ∧ PostS K mg μ H E (m ρ S) D
end
section
variable {K : W.Frag} {mg : Str → Option Value} {μ μ' : Pl} {H H' : Hp} {S S' : Store} {σ : L2.St} {ρ : Env'} {E : L2.St → XK}
theorem PostS.of {r : SR} {D : Ends} (st : Step μ μ' H H') (h : PostS K mg μ H E r D) : PostS K mg μ' H' E r D := by
  cases r with
  | nx ρ S => exact fun σ' H2 μ2 s2 o2 x => h σ' H2 μ2 (st.trans s2) o2 x
  | bk ρ S => exact fun σ' H2 μ2 s2 o2 x => h σ' H2 μ2 (st.trans s2) o2 x
  | ct ρ S => exact fun σ' H2 μ2 s2 o2 x => h σ' H2 μ2 (st.trans s2) o2 x
  | rt d S => exact fun σ' H2 μ2 s2 o2 x => h σ' H2 μ2 (st.trans s2) o2 x
  | exc ρ c fs S => exact fun σ' H2 μ2 s2 o2 x => h σ' H2 μ2 (st.trans s2) o2 x
  | bad => exact h
/-- an exception out of an expression -/
theorem PostS.xp {D : Ends} {c : Str} {fs : List (Str × PyM.D)} (he : EnvOk K mg μ H σ ρ) (ho : Ok K mg μ H S) (h : PostS K mg μ H E (.exc ρ c fs S') D) : XP K mg μ H (E σ) c fs S' :=
  fun cls d H' μ' st o' x => h σ H' μ' st o' (he.mono ho st) cls d x
theorem EnvOk.set {v : V} {d : D} (he : EnvOk K mg μ H σ ρ) (i : Nat) (hd : Den K mg μ H v d) : EnvOk K mg μ H (σ.set i (some v)) (ρ.set i (some d)) := by
  refine ⟨by simp [he.1], fun j e h => ?_⟩
  by_cases hj : j = i
  · subst hj
    have hl : j < ρ.length := by
      have := (List.getElem?_eq_some_iff.mp h).1
      simpa using this
    rw [List.getElem?_set_self hl] at h
    obtain rfl := Option.some.inj (Option.some.inj h)
    exact ⟨v, by rw [List.getElem?_set_self (by rw [← he.1]; exact hl)], hd⟩
  · rw [List.getElem?_set_ne (fun z => hj z.symm)] at h
    obtain ⟨w, a, b⟩ := he.2 j e h
    exact ⟨w, by rw [List.getElem?_set_ne (fun z => hj z.symm)]; exact a, b⟩
end
theorem _root_.L2.PS.weak {X : Cx} {st : Stmt} {t t' : TS} (h : PS X st t) (w : ∀ D σ H, t' D σ H → t D σ H) : PS X st t' := ⟨fun pins s σ H D I q => h.run pins s σ H D I (w D σ H q)⟩
theorem _root_.L2.PSs.weak {X : Cx} {st : List Stmt} {t t' : TS} (h : PSs X st t) (w : ∀ D σ H, t' D σ H → t D σ H) : PSs X st t' := ⟨fun pins s σ H D I q => h.run pins s σ H D I (w D σ H q)⟩
abbrev MS (X : Cx) (E : L2.St → XK) (st : Stmt) (m : MSt) : Prop := PS X st (tS X.K X.mg E m)
abbrev MSs (X : Cx) (E : L2.St → XK) (st : List Stmt) (m : MSt) : Prop := PSs X st (tS X.K X.mg E m)
section
variable {X : Cx} {E : L2.St → XK} {a b c e : Expr} {es : List Expr} {ma mb mc : Env' → M D} {mt : Env' → M Bool} {ms : Env' → M (List D)} {st : Stmt} {sts rest : List Stmt} {m m1 m2 : MSt} {pos p : Pos}
theorem tE.runS {K : W.Frag} {mg : Str → Option Value} {μ : Pl} {H : Hp} {S : Store} {σ : L2.St} {ρ : Env'} {D : Ends} {k : PyM.D → Store → SR} {Q : VK} {m : Env' → M PyM.D} (he : EnvOk K mg μ H σ ρ) (ho : Ok K mg μ H S)
    (h : PostS K mg μ H E (SR.of (m ρ S) ρ k) D) (hk : ∀ d S', m ρ S = .ok d S' → PostS K mg μ H E (k d S') D → ∀ v H' μ', Step μ μ' H H' → Ok K mg μ' H' S' → EnvOk K mg μ' H' σ ρ → Den K mg μ' H' v d → Q v H') : tE K mg E m σ H Q := by
  refine ⟨ρ, μ, S, he, ho, ?_⟩
  unfold SR.of at h
  cases e : m ρ S with
  | ok d S' =>
    rw [e] at h
    exact fun v H' μ' st o' dd => hk d S' e h v H' μ' st o' (he.mono ho st) dd
  | exc c fs S' => rw [e] at h; exact PostS.xp he ho h
  | bad => rw [e] at h; exact h.elim
theorem tB'.runS {K : W.Frag} {mg : Str → Option Value} {μ : Pl} {H : Hp} {S : Store} {σ : L2.St} {ρ : Env'} {D : Ends} {k : Bool → Store → SR} {Q : Bool → Hp → Prop} {m : Env' → M Bool} (he : EnvOk K mg μ H σ ρ) (ho : Ok K mg μ H S)
    (h : PostS K mg μ H E (SR.of (m ρ S) ρ k) D) (hk : ∀ d S', m ρ S = .ok d S' → PostS K mg μ H E (k d S') D → ∀ H' μ', Step μ μ' H H' → Ok K mg μ' H' S' → EnvOk K mg μ' H' σ ρ → Q d H') : tB' K mg E m σ H Q := by
  refine ⟨ρ, μ, S, he, ho, ?_⟩
  unfold SR.of at h
  cases e : m ρ S with
  | ok d S' =>
    rw [e] at h
    exact fun H' μ' st o' => hk d S' e h H' μ' st o' (he.mono ho st)
  | exc c fs S' => rw [e] at h; exact PostS.xp he ho h
  | bad => rw [e] at h; exact h.elim
theorem mss_nil : MSs X E [] (fun ρ S => .nx ρ S) := pss_nil.weak fun D σ H h => by
  obtain ⟨ρ, μ, S, he, ho, h⟩ := h
  exact h σ H μ .refl ho he
theorem mss_cons (h1 : MS X E st m1) (h2 : MSs X E rest m2) : MSs X E (st :: rest) (fun ρ S => SR.bind (m1 ρ S) m2) := (pss_cons h1 h2).weak fun D σ H h => by
  obtain ⟨ρ, μ, S, he, ho, h⟩ := h
  refine ⟨ρ, μ, S, he, ho, ?_⟩
  dsimp only at h
  unfold SR.bind at h
  cases e : m1 ρ S with
  | nx ρ' S' =>
    rw [e] at h
    exact fun σ' H' μ' st o' e' => ⟨ρ', μ', S', e', o', PostS.of st h⟩
  | _ => rw [e] at h; exact h
theorem mss_one (h1 : MS X E st m1) : MSs X E [st] m1 := pss_one h1
theorem ms_pass : MS X E (.Pass pos) (fun ρ S => .nx ρ S) := ps_pass.weak fun D σ H h => by
  obtain ⟨ρ, μ, S, he, ho, h⟩ := h
  exact h σ H μ .refl ho he
theorem ms_break : MS X E (.Break pos) (fun ρ S => .bk ρ S) := ps_break.weak fun D σ H h => by
  obtain ⟨ρ, μ, S, he, ho, h⟩ := h
  exact h σ H μ .refl ho he
theorem ms_cont : MS X E (.Continue pos) (fun ρ S => .ct ρ S) := ps_continue.weak fun D σ H h => by
  obtain ⟨ρ, μ, S, he, ho, h⟩ := h
  exact h σ H μ .refl ho he
theorem ms_expr (he : ME X E e ma) (hs : swapsWith e none pos.line X.env = pure false := by rfl) : MS X E (.Expr e pos) (fun ρ S => SR.of (ma ρ S) ρ fun _ S' => .nx ρ S') := (ps_expr he hs).weak fun D σ H h => by
  obtain ⟨ρ, μ, S, he, ho, h⟩ := h
  exact tE.runS he ho h fun d S' _ h' v H' μ' st o' e' _ => h' σ H' μ' st o' e'
theorem ms_ret (he : ME X E e ma) : MS X E (.Return (some e) pos) (fun ρ S => SR.of (ma ρ S) ρ fun d S' => .rt d S') := (ps_ret he).weak fun D σ H h => by
  obtain ⟨ρ, μ, S, he, ho, h⟩ := h
  exact tE.runS he ho h fun d S' _ h' v H' μ' st o' e' dd => h' v H' μ' st o' dd
theorem ms_retN : MS X E (.Return none pos) (fun ρ S => .rt .non S) := ps_retN.weak fun D σ H h => by
  obtain ⟨ρ, μ, S, he, ho, h⟩ := h
  exact h .non H μ .refl ho .non
theorem ms_if {sa sb : List Stmt} (hc : MT X E c mt) (ha : MSs X E sa m1) (hb : MSs X E sb m2) : MS X E (.If c sa sb pos) (fun ρ S => SR.of (mt ρ S) ρ fun k S' => if k = true then m1 ρ S' else m2 ρ S') := (ps_if hc ha hb).weak fun D σ H h => by
  obtain ⟨ρ, μ, S, he, ho, h⟩ := h
  refine tB'.runS he ho h fun d S' _ h' H' μ' st o' e' => ?_
  cases d with
  | true => exact ⟨ρ, μ', S', e', o', PostS.of st h'⟩
  | false => exact ⟨ρ, μ', S', e', o', PostS.of st h'⟩
theorem ms_set (i : Nat) {x : Str} {pos' : Pos} (hN : X.N.Nodup) (he : ME X E e ma) (hi : X.N[i]? = some x := by rfl) (hx : Loc X.env.scope x := by first | exact Or.inl rfl | exact Or.inr rfl) (hs : swapsWith e (some (.Name x pos')) pos.line X.env = pure false := by rfl)
    (hf : X.fn x = true ∨ X.env.scope.names.lookup x = some .local := by first | exact .inl rfl | exact .inr rfl) :
    MS X E (.Assign [.Name x pos'] e pos) (fun ρ S => SR.of (ma ρ S) ρ fun d S' => .nx (ρ.set i (some d)) S') := (ps_set hN hi hx he hs hf).weak fun D σ H h => by
  obtain ⟨ρ, μ, S, he, ho, h⟩ := h
  exact tE.runS he ho h fun d S' _ h' v H' μ' st o' e' dd => h' _ H' μ' st o' (e'.set i dd)
/-! ### targets -/
def SameBut (w : List Nat) (σ σ' : L2.St) : Prop := σ'.length = σ.length ∧ ∀ i, i ∉ w → σ'[i]? = σ[i]?
theorem SameBut.refl {w : List Nat} {σ : L2.St} : SameBut w σ σ := ⟨rfl, fun _ _ => rfl⟩
theorem SameBut.trans {w w' : List Nat} {σ σ' σ'' : L2.St} (a : SameBut w σ σ') (b : SameBut w' σ' σ'') : SameBut (w ++ w') σ σ'' := ⟨b.1.trans a.1, fun i hi => (b.2 i fun z => hi (List.mem_append_right _ z)).trans (a.2 i fun z => hi (List.mem_append_left _ z))⟩
def tG (K : W.Frag) (mg : Str → Option Value) (w : List Nat) (g : D → Env' → Option Env') : TG := fun v σ H Q => ∃ ρ μ S d ρ', EnvOk K mg μ H σ ρ ∧ Ok K mg μ H S ∧ Den K mg μ H v d ∧ g d ρ = some ρ' ∧ ∀ σ', SameBut w σ σ' → EnvOk K mg μ H σ' ρ' → Q σ' H
def tGs (K : W.Frag) (mg : Str → Option Value) (w : List Nat) (g : List D → Env' → Option Env') : TGs := fun vs σ H Q => ∃ ρ μ S ds ρ', EnvOk K mg μ H σ ρ ∧ Ok K mg μ H S ∧ DenL K mg μ H vs ds ∧ g ds ρ = some ρ' ∧ ∀ σ', SameBut w σ σ' → EnvOk K mg μ H σ' ρ' → Q σ' H
theorem _root_.L2.PG.weak {X : Cx} {tg : Expr} {t t' : TG} (h : PG X tg t) (w : ∀ v σ H Q, t' v σ H Q → t v σ H Q) : PG X tg t' := ⟨fun pins s σ H v u Q I r q => h.run pins s σ H v u Q I r (w v σ H Q q)⟩
theorem _root_.L2.PGs.weak {X : Cx} {tg : List Expr} {t t' : TGs} (h : PGs X tg t) (w : ∀ v σ H Q, t' v σ H Q → t v σ H Q) : PGs X tg t' := ⟨fun pins s σ H v u Q I r q => h.run pins s σ H v u Q I r (w v σ H Q q)⟩
abbrev MG (X : Cx) (tg : Expr) (w : List Nat) (g : D → Env' → Option Env') : Prop := PG X tg (tG X.K X.mg w g)
abbrev MGs (X : Cx) (tg : List Expr) (w : List Nat) (g : List D → Env' → Option Env') : Prop := PGs X tg (tGs X.K X.mg w g)
def gN (i : Nat) : D → Env' → Option Env' := fun d ρ => some (ρ.set i (some d))
def gT (g : List D → Env' → Option Env') : D → Env' → Option Env' := fun d ρ => match d with
  | .tup ds => g ds ρ
  | _ => none
def gs0 : List D → Env' → Option Env' := fun ds ρ => match ds with
  | [] => some ρ
  | _ => none
def gs1 (g : D → Env' → Option Env') (gs : List D → Env' → Option Env') : List D → Env' → Option Env' := fun ds ρ => match ds with
  | d :: r => (g d ρ).bind (gs r)
  | [] => none
variable {tg : Expr} {tgs : List Expr} {w w' : List Nat} {g : D → Env' → Option Env'} {gs : List D → Env' → Option Env'}
theorem mg_name (i : Nat) {x : Str} (hN : X.N.Nodup) (hi : X.N[i]? = some x := by rfl) (hx : Loc X.env.scope x := by first | exact Or.inl rfl | exact Or.inr rfl) (hf : X.fn x = true ∨ X.env.scope.names.lookup x = some .local := by first | exact .inl rfl | exact .inr rfl) : MG X (.Name x pos) [i] (gN i) :=
  (pg_name hN hi hx hf).weak fun v σ H Q h => by
    obtain ⟨ρ, μ, S, d, ρ', he, ho, dd, eg, k⟩ := h
    obtain rfl := Option.some.inj eg
    refine k _ ⟨by simp, fun j hj => ?_⟩ (he.set i dd)
    rw [List.getElem?_set_ne (fun z => hj (by simp [z]))]
theorem mgs_nil : MGs X [] [] gs0 := pgs_nil.weak fun vs σ H Q h => by
  obtain ⟨ρ, μ, S, ds, ρ', he, ho, dd, eg, k⟩ := h
  cases dd with
  | nil =>
    obtain rfl := Option.some.inj eg
    exact ⟨rfl, k σ .refl he⟩
  | cons _ _ => cases eg
theorem mgs_cons (h1 : MG X tg w g) (h2 : MGs X tgs w' gs) (hs : (assignEach (tg :: tgs) X.env).map (·.2) = assign tg X.env :: (assignEach tgs X.env).map (·.2) := by rfl) : MGs X (tg :: tgs) (w ++ w') (gs1 g gs) := (pgs_cons h1 h2 hs).weak fun vs σ H Q h => by
  obtain ⟨ρ, μ, S, ds, ρ', he, ho, dd, eg, k⟩ := h
  cases dd with
  | nil => cases eg
  | cons d1 d2 =>
    unfold gs1 at eg
    dsimp only at eg
    rename_i v vs d r
    cases q : g d ρ with
    | none => rw [q] at eg; cases eg
    | some ρ1 =>
      rw [q] at eg
      exact ⟨v, vs, rfl, ρ, μ, S, d, ρ1, he, ho, d1, q, fun σ1 sb e1 => ⟨ρ1, μ, S, r, ρ', e1, ho, d2, eg, fun σ2 sb2 e2 => k σ2 (sb.trans sb2) e2⟩⟩
theorem gs_len (n : Nat) (h : ∀ ds ρ ρ', gs ds ρ = some ρ' → ds.length = n) : ∀ ds ρ ρ', gs1 g gs ds ρ = some ρ' → ds.length = n + 1 := fun ds ρ ρ' e => by
  unfold gs1 at e
  cases ds with
  | nil => cases e
  | cons d r =>
    dsimp only at e
    cases q : g d ρ with
    | none => rw [q] at e; cases e
    | some ρ1 => rw [q] at e; simp [h _ _ _ e]
theorem gs0_len : ∀ ds ρ ρ', gs0 ds ρ = some ρ' → ds.length = 0 := fun ds ρ ρ' e => by
  unfold gs0 at e
  cases ds with
  | nil => rfl
  | cons d r => cases e
theorem mg_tup {k : Nat} {n : Nat} (hc : X.calm = true) (h : MGs X tgs w gs) (hl : ∀ ds ρ ρ', gs ds ρ = some ρ' → ds.length = n) (hn : (assignEach tgs X.env).length = n := by rfl) (hst : (assignEach tgs X.env).findIdx? (·.1) = none := by rfl) : MG X (.Tuple tgs k pos) w (gT gs) :=
  (pg_tup hc h hn hst).weak fun v σ H Q h => by
    obtain ⟨ρ, μ, S, d, ρ', he, ho, dd, eg, k⟩ := h
    cases dd with
    | tup h1 h2 => exact ⟨_, _, rfl, h1, by rw [h2.length]; exact hl _ _ _ eg, ρ, μ, S, _, ρ', he, ho, h2, eg, k⟩
    | _ => cases eg
def SR.opt (o : Option Env') (S : Store) : SR := match o with
  | some ρ => .nx ρ S
  | none => .bad
theorem ms_asg (he : ME X E e ma) (hg : MG X tg w g) (hs : swapsWithSole [tg] e pos.line X.env = pure false := by rfl) (hw : swappedStores [tg] e X.env = pure none := by rfl)
    (h1 : (assignEach [tg] X.env).map (·.2) = [assign tg X.env] := by rfl) : MS X E (.Assign [tg] e pos) (fun ρ S => SR.of (ma ρ S) ρ fun d S' => SR.opt (g d ρ) S') := (ps_asg he hg hs hw h1).weak fun D σ H h => by
  obtain ⟨ρ, μ, S, he, ho, h⟩ := h
  refine tE.runS he ho h fun d S' _ h' v H' μ' st o' e' dd => ?_
  unfold SR.opt at h'
  cases q : g d ρ with
  | none => rw [q] at h'; exact h'.elim
  | some ρ1 =>
    rw [q] at h'
    exact ⟨ρ, μ', S', d, ρ1, e', o', dd, q, fun σ' _ e2 => h' σ' H' μ' st o' e2⟩
/-! ### loops -/
structure Src where
  items : List D
  chk : Store → Bool
/-- an iterator walks a source -/
def JOk (K : W.Frag) (mg : Str → Option Value) (J : It) (src : Src) (μ : Pl) (H : Hp) : Prop := ∀ μ' H' S', StepD μ μ' H H' → Ok K mg μ' H' S' → src.chk S' = true → ∀ i, (src.items.length ≤ i → J.stop i H') ∧
  (∀ d, src.items[i]? = some d → J.go i H' ∧ ∀ x H'', J.yld i H' x H'' → Step μ' μ' H' H'' ∧ Ok K mg μ' H'' S' ∧ Den K mg μ' H'' x d)
theorem JOk.mono {K : W.Frag} {mg : Str → Option Value} {J : It} {src : Src} {μ μ' : Pl} {H H' : Hp} {S : Store} (h : JOk K mg J src μ H) (st : Step μ μ' H H') (o : Ok K mg μ' H' S) : JOk K mg J src μ' H' := fun μ2 H2 S2 s2 => h μ2 H2 S2 (st.d.trans s2 o)
def PostI (K : W.Frag) (mg : Str → Option Value) (μ : Pl) (H : Hp) (E : XK) (r : Res Src) (R : It → Hp → Prop) : Prop := match r with
  | .ok src S' => ∀ J H' μ', Step μ μ' H H' → Ok K mg μ' H' S' → JOk K mg J src μ' H' → R J H'
  | .exc c fs S' => XP K mg μ H E c fs S'
  | .bad => False
def tI (K : W.Frag) (mg : Str → Option Value) (E : L2.St → XK) (mi : Env' → M Src) : TI := fun σ H R => ∃ ρ μ S, EnvOk K mg μ H σ ρ ∧ Ok K mg μ H S ∧ PostI K mg μ H (E σ) (mi ρ S) R
theorem _root_.L2.PI.weak {X : Cx} {tg iter : Expr} {t t' : TI} (h : PI X tg iter t) (w : ∀ σ H R, t' σ H R → t σ H R) : PI X tg iter t' := ⟨fun pins s σ H R I q => h.run pins s σ H R I (w σ H R q)⟩
abbrev MI (X : Cx) (E : L2.St → XK) (tg iter : Expr) (mi : Env' → M Src) : Prop := PI X tg iter (tI X.K X.mg E mi)
/-- the turns -/
def loopS (chk : Store → Bool) (g : D → Env' → Option Env') (mb : MSt) : List D → MSt
  | [], ρ, S => if chk S = true then .nx ρ S else .bad
  | d :: ds, ρ, S => if chk S = true then (match g d ρ with
      | none => .bad
      | some ρ' => match mb ρ' S with
        | .nx ρ2 S2 => loopS chk g mb ds ρ2 S2
        | .ct ρ2 S2 => loopS chk g mb ds ρ2 S2
        | .bk ρ2 S2 => .nx ρ2 S2
        | r => r) else .bad
def forM (mi : Env' → M Src) (g : D → Env' → Option Env') (mb : MSt) : MSt := fun ρ S => SR.of (mi ρ S) ρ fun src S' => loopS src.chk g mb src.items ρ S'
theorem ms_for {iter : Expr} {body : List Stmt} {mi : Env' → M Src} {mb : MSt} (hp : PassesOwn (model X.prog X.w) X.A X.env X.xe) (hc : X.calm = true) (hi : MI X E tg iter mi) (hg : MG X tg w g) (hb : MSs X E body mb)
    (hs : ∀ x, foldedSetIterable iter X.env x = pure x := by intro _; rfl) : MS X E (.For tg iter body [] pos) (forM mi g mb) := (ps_for hp hc hi hg hb hs).weak fun D σ H h => by
  obtain ⟨ρ, μ, S, he, ho, h⟩ := h
  refine ⟨ρ, μ, S, he, ho, ?_⟩
  unfold forM SR.of at h
  cases e : mi ρ S with
  | bad => rw [e] at h; exact h.elim
  | exc c fs S' => rw [e] at h; exact PostS.xp he ho h
  | ok src S1 =>
    rw [e] at h
    intro J H1 μ1 s1 o1 j1
    refine ⟨fun i m σ H => m = src.items.length - i ∧ i ≤ src.items.length ∧ ∃ ρ μ S, EnvOk X.K X.mg μ H σ ρ ∧ Ok X.K X.mg μ H S ∧ JOk X.K X.mg J src μ H ∧ PostS X.K X.mg μ H E (loopS src.chk g mb (src.items.drop i) ρ S) D,
      ⟨src.items.length, by simp, Nat.zero_le _, ρ, μ1, S1, he.mono ho s1, o1, j1, PostS.of s1 h⟩, ?_⟩
    rintro i m σ H ⟨rfl, hi, ρ, μ, S, he, ho, hj, h⟩
    by_cases hlt : i < src.items.length
    · rw [List.drop_eq_getElem_cons hlt] at h
      unfold loopS at h
      split at h
      · rename_i hchk
        have hj' := (hj μ H S (Step.refl).d ho hchk i).2 _ (List.getElem?_eq_getElem hlt)
        cases q : g src.items[i] ρ with
        | none => rw [q] at h; exact h.elim
        | some ρ1 =>
          rw [q] at h
          dsimp only at h
          refine .inr ⟨hj'.1, fun σ' H' => ∃ ρ μ S, EnvOk X.K X.mg μ H' σ' ρ ∧ Ok X.K X.mg μ H' S ∧ JOk X.K X.mg J src μ H' ∧ PostS X.K X.mg μ H' E (loopS src.chk g mb (src.items.drop (i + 1)) ρ S) D,
            fun σ' H' p' => ⟨src.items.length - (i + 1), by omega, rfl, hlt, p'⟩, fun x H' y => ?_⟩
          obtain ⟨s2, o2, d2⟩ := hj'.2 x H' y
          have he2 := he.mono ho s2
          refine ⟨ρ, μ, S, _, ρ1, he2, o2, d2, q, fun σ' _ e' => ⟨ρ1, μ, S, e', o2, ?_⟩⟩
          have h2 := PostS.of s2 h
          have hj2 := hj.mono s2 o2
          cases r : mb ρ1 S with
          | nx ρ3 S3 => rw [r] at h2; exact fun σ3 H3 μ3 s3 o3 e3 => ⟨ρ3, μ3, S3, e3, o3, hj2.mono s3 o3, PostS.of s3 h2⟩
          | ct ρ3 S3 => rw [r] at h2; exact fun σ3 H3 μ3 s3 o3 e3 => ⟨ρ3, μ3, S3, e3, o3, hj2.mono s3 o3, PostS.of s3 h2⟩
          | bk ρ3 S3 => rw [r] at h2; exact h2
          | rt d S3 => rw [r] at h2; exact h2
          | exc ρ3 c fs S3 => rw [r] at h2; exact h2
          | bad => rw [r] at h2; exact h2
      · exact h.elim
    · rw [List.drop_eq_nil_of_le (by omega)] at h
      unfold loopS at h
      split at h
      · rename_i hchk
        exact .inl ⟨(hj μ H S (Step.refl).d ho hchk i).1 (by omega), h σ H μ .refl ho he⟩
      · exact h.elim
end
end PyM
set_option Elab.async false
set_option linter.all false
set_option maxRecDepth 100000
set_option maxHeartbeats 2000000
namespace PyM
open PySem PySem.Spec PyProof.Rows L2

/-- a list's items, the frozen one's too -/
def asS (S : Store) : D → Option (List D)
  | .scr ds => some ds
  | d => asL S d
/-- a list's or a tuple's -/
def asA (S : Store) : D → Option (List D)
  | .tup ds => some ds
  | d => asS S d
section
variable {K : W.Frag} {mg : Str → Option Value} {μ μ' : Pl} {H H' : Hp} {S S' : Store} {σ : L2.St} {ρ : Env'}
theorem asS_den (o : Ok K mg μ H S) {v : V} {d : D} {ds : List D} (h : Den K mg μ H v d) (e : asS S d = some ds) : ∃ (p : Addr) (vs : List V), v = .ref p ∧ SqL K H p vs ∧ DenL K mg μ H vs ds := by
  cases h with
  | scr h1 h2 =>
    obtain rfl := Option.some.inj e
    rcases h1 with ⟨ob, h1⟩ | h1
    · exact ⟨_, _, rfl, .inl (.inr ⟨ob, h1⟩), h2⟩
    · exact ⟨_, _, rfl, .inr h1, h2⟩
  | lst h1 h2 h3 h4 =>
    obtain ⟨p, vs, e1, e2, e3⟩ := asL_den o (.lst h1 h2 h3 h4) e
    exact ⟨p, vs, e1, .inl (.inl e2), e3⟩
  | loc h1 =>
    obtain ⟨p, vs, e1, e2, e3⟩ := asL_den o (.loc h1) e
    exact ⟨p, vs, e1, .inl (.inl e2), e3⟩
  | _ => cases e
theorem asA_den (o : Ok K mg μ H S) {v : V} {d : D} {ds : List D} (h : Den K mg μ H v d) (e : asA S d = some ds) : ∃ (p : Addr) (vs : List V), v = .ref p ∧ (SqL K H p vs ∨ SqT K H p vs) ∧ DenL K mg μ H vs ds := by
  cases h with
  | tup h1 h2 =>
    obtain rfl := Option.some.inj e
    exact ⟨_, _, rfl, .inr h1, h2⟩
  | scr h1 h2 =>
    obtain ⟨p, vs, e1, e2, e3⟩ := asS_den o (.scr h1 h2) e
    exact ⟨p, vs, e1, .inl e2, e3⟩
  | lst h1 h2 h3 h4 =>
    obtain ⟨p, vs, e1, e2, e3⟩ := asS_den o (.lst h1 h2 h3 h4) e
    exact ⟨p, vs, e1, .inl e2, e3⟩
  | loc h1 =>
    obtain ⟨p, vs, e1, e2, e3⟩ := asS_den o (.loc h1) e
    exact ⟨p, vs, e1, .inl e2, e3⟩
  | _ => cases e
theorem EnvOk.monoD (e : EnvOk K mg μ H σ ρ) (o : Ok K mg μ H S) (st : StepD μ μ' H H') : EnvOk K mg μ' H' σ ρ := ⟨e.1, fun i d h => by
  obtain ⟨v, a, b⟩ := e.2 i d h
  exact ⟨v, a, b.monoD o st⟩⟩
/-! ### sources -/
mutual
def D.beq : D → D → Bool
  | .non, .non => true
  | .bl a, .bl b => a == b
  | .int a, .int b => a == b
  | .str a, .str b => a == b
  | .tup a, .tup b => D.beqL a b
  | .lst a, .lst b => D.beqL a b
  | .loc a, .loc b => a == b
  | .fn a, .fn b => a == b
  | .exo a x c f ds, .exo b y d g es => a == b && (x == y && (c == d && (f == g && D.beqL ds es)))
  | .ty a, .ty b => a == b
  | .scr a, .scr b => D.beqL a b
  | _, _ => false
def D.beqL : List D → List D → Bool
  | [], [] => true
  | a :: as, b :: bs => D.beq a b && D.beqL as bs
  | _, _ => false
end
mutual
theorem D.eq_of_beq : ∀ (a b : D), D.beq a b = true → a = b
  | .non, b, h => by cases b <;> simp [D.beq] at h <;> rfl
  | .bl a, b, h => by cases b <;> simp [D.beq] at h; rw [h]
  | .int a, b, h => by cases b <;> simp [D.beq] at h; rw [h]
  | .str a, b, h => by cases b <;> simp [D.beq] at h; rw [h]
  | .loc a, b, h => by cases b <;> simp [D.beq] at h; rw [h]
  | .fn a, b, h => by cases b <;> simp [D.beq] at h; rw [h]
  | .exo a x c f ds, b, h => by
    cases b <;> simp [D.beq] at h
    obtain ⟨rfl, rfl, rfl, rfl, h⟩ := h
    rw [D.eq_of_beqL ds _ h]
  | .ty a, b, h => by cases b <;> simp [D.beq] at h; rw [h]
  | .tup a, b, h => by
    cases b <;> simp [D.beq] at h
    rw [D.eq_of_beqL a _ h]
  | .lst a, b, h => by
    cases b <;> simp [D.beq] at h
    rw [D.eq_of_beqL a _ h]
  | .scr a, b, h => by
    cases b <;> simp [D.beq] at h
    rw [D.eq_of_beqL a _ h]
theorem D.eq_of_beqL : ∀ (a b : List D), D.beqL a b = true → a = b
  | [], b, h => by cases b <;> simp [D.beqL] at h; rfl
  | x :: a, b, h => by
    cases b <;> simp [D.beqL] at h
    rw [D.eq_of_beq x _ h.1, D.eq_of_beqL a _ h.2]
end
mutual
theorem D.beq_refl : ∀ (a : D), D.beq a a = true
  | .non => rfl
  | .bl a => by simp [D.beq]
  | .int a => by simp [D.beq]
  | .str a => by simp [D.beq]
  | .loc a => by simp [D.beq]
  | .fn a => by simp [D.beq]
  | .exo a x c f ds => by simp [D.beq, D.beqL_refl ds]
  | .ty a => by simp [D.beq]
  | .tup a => by simp [D.beq, D.beqL_refl a]
  | .lst a => by simp [D.beq, D.beqL_refl a]
  | .scr a => by simp [D.beq, D.beqL_refl a]
theorem D.beqL_refl : ∀ (a : List D), D.beqL a a = true
  | [] => rfl
  | x :: a => by simp [D.beqL, D.beq_refl x, D.beqL_refl a]
end
/-- d's items still are ds -/
def still (d : D) (ds : List D) (S : Store) : Bool := match d with
  | .loc n => (match S[n]? with
    | some (.lst es) => D.beqL es ds
    | _ => false)
  | _ => true
theorem still_as {S S' : Store} {d : D} {ds : List D} (e : asS S d = some ds) (h : still d ds S' = true) : asS S' d = some ds := by
  cases d with
  | loc n =>
    unfold still at h
    dsimp only at h
    split at h
    · rename_i es q
      have := D.eq_of_beqL _ _ h
      subst this
      show (match S'[n]? with
        | some (.lst ds) => some ds
        | _ => none) = some es
      rw [q]
    · cases h
  | _ => exact e
def srcA (d : D) : M Src := fun S => match d with
  | .tup ds => .ok ⟨ds, fun _ => true⟩ S
  | .str x => .ok ⟨x.cps.toList.map fun c => .str ⟨#[c]⟩, fun _ => true⟩ S
  | d => match asS S d with
    | some ds => .ok ⟨ds, still d ds⟩ S
    | none => .bad
theorem jok_tup {a : Addr} {d : D} {ds : List D} (o : Ok K mg μ H S) (h : Den K mg μ H (.ref a) (.tup ds)) : JOk K mg (Itt K a) ⟨ds, fun _ => true⟩ μ H := by
  intro μ' H' S' st o' _ i
  have h' := h.monoD o st
  cases h' with
  | tup h1 h2 =>
    refine ⟨fun hi => ⟨_, h1, by rw [h2.length]; exact hi⟩, fun d hd => ?_⟩
    obtain ⟨v, hv, dv⟩ := h2.get hd
    refine ⟨⟨_, v, h1, hv⟩, fun x H'' y => ?_⟩
    obtain ⟨rfl, y⟩ := y
    have := y _ h1
    rw [hv] at this
    obtain rfl := Option.some.inj this
    exact ⟨.refl, o', dv⟩
theorem jok_list {a : Addr} {d : D} {ds : List D} (o : Ok K mg μ H S) (h : Den K mg μ H (.ref a) d) (ea : asS S d = some ds) : JOk K mg (Itl K a) ⟨ds, still d ds⟩ μ H := by
  intro μ' H' S' st o' hc i
  obtain ⟨p, vs, e, h1, h2⟩ := asS_den o' (h.monoD o st) (still_as ea hc)
  obtain rfl := V.ref.inj e
  refine ⟨fun hi => ⟨_, h1, by rw [h2.length]; exact hi⟩, fun d hd => ?_⟩
  obtain ⟨v, hv, dv⟩ := h2.get hd
  refine ⟨⟨_, v, h1, hv⟩, fun x H'' y => ?_⟩
  obtain ⟨rfl, y⟩ := y
  have := y _ h1
  rw [hv] at this
  obtain rfl := Option.some.inj this
  exact ⟨.refl, o', dv⟩
theorem jok_str {x : Str} : JOk K mg (Its x) ⟨x.cps.toList.map fun c => .str ⟨#[c]⟩, fun _ => true⟩ μ H := by
  intro μ' H' S' st o' _ i
  refine ⟨fun hi => by show x.cps.size ≤ i; simpa using hi, fun d hd => ?_⟩
  have hd' : (x.cps.toList.map fun c => D.str ⟨#[c]⟩)[i]? = some d := hd
  rw [List.getElem?_map] at hd'
  cases q : x.cps.toList[i]? with
  | none => rw [q] at hd'; cases hd'
  | some c =>
    rw [q] at hd'
    obtain rfl := Option.some.inj hd'
    have q' : x.cps[i]? = some c := by simpa using q
    refine ⟨(Array.getElem?_eq_some_iff.mp q').1, fun y H'' z => ?_⟩
    obtain ⟨rfl, c', hc', rfl⟩ := z
    rw [q'] at hc'
    obtain rfl := Option.some.inj hc'
    exact ⟨.refl, o', .str _⟩
theorem jok_range {lo : Int} {n : Nat} : JOk K mg (Itr lo n) ⟨(List.range n).map fun (i : Nat) => .int (lo + i), fun _ => true⟩ μ H := by
  intro μ' H' S' st o' _ i
  refine ⟨fun hi => by show n ≤ i; simpa using hi, fun d hd => ?_⟩
  have hd' : ((List.range n).map fun (i : Nat) => D.int (lo + i))[i]? = some d := hd
  rw [List.getElem?_map] at hd'
  cases q : (List.range n)[i]? with
  | none => rw [q] at hd'; cases hd'
  | some c =>
    rw [q] at hd'
    obtain rfl := Option.some.inj hd'
    obtain ⟨h1, h2⟩ := List.getElem?_eq_some_iff.mp q
    rw [List.getElem_range] at h2
    subst h2
    refine ⟨by show i < n; simpa using h1, fun y H'' z => ?_⟩
    obtain ⟨rfl, rfl⟩ := z
    exact ⟨.refl, o', .int _⟩
def zipD (xs ys : List D) : List D := List.zipWith (fun x y => .tup [x, y]) xs ys
theorem zipD_get {xs ys : List D} {i : Nat} {d : D} (h : (zipD xs ys)[i]? = some d) : ∃ x y, xs[i]? = some x ∧ ys[i]? = some y ∧ d = .tup [x, y] := by
  unfold zipD at h
  rw [List.getElem?_zipWith] at h
  cases e1 : xs[i]? with
  | none => rw [e1] at h; cases h
  | some x =>
    cases e2 : ys[i]? with
    | none => rw [e1, e2] at h; cases h
    | some y =>
      rw [e1, e2] at h
      exact ⟨x, y, rfl, rfl, (Option.some.inj h).symm⟩
theorem jok_zipT {a b : Addr} {xs ys : List D} (o : Ok K mg μ H S) (h : Den K mg μ H (.ref a) (.tup xs)) (h' : Den K mg μ H (.ref b) (.tup ys)) : JOk K mg (RZ.ItzT K a b) ⟨zipD xs ys, fun _ => true⟩ μ H := by
  intro μ' H' S' st o' _ i
  have g := h.monoD o st
  have g' := h'.monoD o st
  cases g with
  | tup h1 h2 =>
    cases g' with
    | tup h3 h4 =>
      rename_i vs ws
      refine ⟨fun hi => ⟨vs, ws, h1, h3, ?_⟩, fun d hd => ?_⟩
      · have hi' : (zipD xs ys).length ≤ i := hi
        unfold zipD at hi'
        rw [List.length_zipWith] at hi'
        rw [h2.length, h4.length]
        omega
      · obtain ⟨x, y, ex, ey, rfl⟩ := zipD_get hd
        obtain ⟨v, hv, dv⟩ := h2.get ex
        obtain ⟨w, hw, dw⟩ := h4.get ey
        refine ⟨⟨vs, ws, v, w, h1, h3, hv, hw⟩, fun z H'' q => ?_⟩
        obtain ⟨T, v', w', rfl, hT, rfl, q1, q2⟩ := q
        have := q1 _ h1
        rw [hv] at this
        obtain rfl := Option.some.inj this
        have := q2 _ h3
        rw [hw] at this
        obtain rfl := Option.some.inj this
        exact new_tup o' hT (.cons dv (.cons dw .nil))
theorem jok_zip {a b : Addr} {d d' : D} {xs ys : List D} (o : Ok K mg μ H S) (h : Den K mg μ H (.ref a) d) (h' : Den K mg μ H (.ref b) d') (ea : asS S d = some xs) (eb : asS S d' = some ys) : JOk K mg (Itz K a b) ⟨zipD xs ys, fun S' => still d xs S' && still d' ys S'⟩ μ H := by
  intro μ' H' S' st o' hc i
  obtain ⟨hc1, hc2⟩ := Bool.and_eq_true_iff.mp hc
  obtain ⟨p, vs, e, h1, h2⟩ := asS_den o' (h.monoD o st) (still_as ea hc1)
  obtain rfl := V.ref.inj e
  obtain ⟨p, ws, e, h3, h4⟩ := asS_den o' (h'.monoD o st) (still_as eb hc2)
  obtain rfl := V.ref.inj e
  refine ⟨fun hi => ⟨vs, ws, h1, h3, ?_⟩, fun d hd => ?_⟩
  · have hi' : (zipD xs ys).length ≤ i := hi
    unfold zipD at hi'
    rw [List.length_zipWith] at hi'
    rw [h2.length, h4.length]
    omega
  · obtain ⟨x, y, ex, ey, rfl⟩ := zipD_get hd
    obtain ⟨v, hv, dv⟩ := h2.get ex
    obtain ⟨w, hw, dw⟩ := h4.get ey
    refine ⟨⟨vs, ws, v, w, h1, h3, hv, hw⟩, fun z H'' q => ?_⟩
    obtain ⟨T, v', w', rfl, hT, rfl, q1, q2⟩ := q
    have := q1 _ h1
    rw [hv] at this
    obtain rfl := Option.some.inj this
    have := q2 _ h3
    rw [hw] at this
    obtain rfl := Option.some.inj this
    exact new_tup o' hT (.cons dv (.cons dw .nil))
def rngOk (j : Int) : Prop := -(2 ^ 62) ≤ j ∧ j < 2 ^ 62
instance (j : Int) : Decidable (rngOk j) := by unfold rngOk; exact inferInstance
def srcR (lo hi : Int) : Src := ⟨(List.range (hi - lo).toNat).map fun (i : Nat) => .int (lo + i), fun _ => true⟩
def srcR1 (ds : List D) : M Src := fun S => match ds with
  | [.int j] => if rngOk j then .ok (srcR 0 j) S else .bad
  | _ => .bad
def srcR2 (ds : List D) : M Src := fun S => match ds with
  | [.int i, .int j] => if rngOk i ∧ rngOk j then .ok (srcR i j) S else .bad
  | _ => .bad
def srcZ (ds : List D) : M Src := fun S => match ds with
  | [.tup xs, .tup ys] => .ok ⟨zipD xs ys, fun _ => true⟩ S
  | [a, b] => match asS S a, asS S b with
    | some xs, some ys => .ok ⟨zipD xs ys, fun S' => still a xs S' && still b ys S'⟩ S
    | _, _ => .bad
  | _ => .bad
end
section
variable {X : Cx} {E : L2.St → XK} {a b e : Expr} {es : List Expr} {ma mb : Env' → M D} {ms : Env' → M (List D)} {pos p : Pos} {tg : Expr}
theorem _root_.L2.PI.or {X : Cx} {tg iter : Expr} {t t' : TI} (h : PI X tg iter t) (h' : PI X tg iter t') : PI X tg iter (fun σ H R => t σ H R ∨ t' σ H R) := ⟨fun pins s σ H R I q => by
  rcases q with q | q
  · exact h.run pins s σ H R I q
  · exact h'.run pins s σ H R I q⟩
/-- a list, a tuple, a text walked -/
theorem mi_seq (ha : ME X E a ma) : MI X E tg a (fun ρ => M.bind (ma ρ) srcA) := (((pi_list ha).or ((pi_tup ha).or (pi_str ha))) : PI X tg a _).weak fun σ H R h => by
  obtain ⟨ρ, μ, S, he, ho, h⟩ := h
  dsimp only at h
  unfold M.bind at h
  cases e : ma ρ S with
  | bad => rw [e] at h; exact h.elim
  | exc c fs S' =>
    rw [e] at h
    exact .inl ⟨ρ, μ, S, he, ho, by rw [e]; exact h⟩
  | ok d S1 =>
    rw [e] at h
    have gen : ∀ ds, srcA d S1 = .ok ⟨ds, still d ds⟩ S1 → asS S1 d = some ds → iList X.K (tE X.K X.mg E ma) σ H R := fun ds e1 e2 => by
      dsimp only at h
      rw [e1] at h
      refine ⟨ρ, μ, S, he, ho, ?_⟩
      rw [e]
      intro v H1 μ1 s1 o1 d1
      obtain ⟨p, vs, rfl, h1, h2⟩ := asS_den o1 d1 e2
      exact ⟨p, rfl, ⟨vs, h1⟩, h _ H1 μ1 s1 o1 (jok_list o1 d1 e2)⟩
    cases d with
    | tup ds =>
      refine .inr (.inl ⟨ρ, μ, S, he, ho, ?_⟩)
      rw [e]
      intro v H1 μ1 s1 o1 d1
      cases d1 with
      | tup h1 h2 => exact ⟨_, rfl, ⟨_, h1⟩, h _ H1 μ1 s1 o1 (jok_tup (d := .non) o1 (.tup h1 h2))⟩
    | str x =>
      refine .inr (.inr ⟨ρ, μ, S, he, ho, ?_⟩)
      rw [e]
      intro v H1 μ1 s1 o1 d1
      cases d1
      exact ⟨x, rfl, h _ H1 μ1 s1 o1 jok_str⟩
    | lst ds => exact .inl (gen ds rfl rfl)
    | scr ds => exact .inl (gen ds rfl rfl)
    | loc n =>
      cases q : asS S1 (.loc n) with
      | some ds => exact .inl (gen ds (by unfold srcA; dsimp only; rw [q]) q)
      | none =>
        dsimp only at h
        unfold srcA at h
        dsimp only at h
        rw [q] at h
        exact h.elim
    | non => exact h.elim
    | bl b => exact h.elim
    | int i => exact h.elim
    | fn x => exact h.elim
    | exo _ _ _ _ _ => exact h.elim
    | ty n => exact h.elim
theorem mi_range1 (ha : MA X E [a] ms) (hm : X.mg "range" = none) (hg : Gl X "range" := by rfl) (hs : starEach [a] X.env = [(false, eval a X.env)] := by rfl) : MI X E tg (.Call (.Name "range" p) [a] [] pos) (fun ρ => M.bind (ms ρ) srcR1) :=
  (pi_range1 hg hm ha hs).weak fun σ H R h => by
    obtain ⟨ρ, μ, S, he, ho, h⟩ := h
    refine tA'.run (k := srcR1) (R := fun r => PostI X.K X.mg μ H (E σ) r R) he ho h (fun _ _ _ z => z) (fun z => z) fun ds S1 _ h1 vs H1 μ1 s1 o1 e1 d1 => ?_
    unfold srcR1 at h1
    split at h1
    · split at h1
      · rename_i hj
        obtain ⟨v, rfl, dv⟩ := den1 d1
        cases dv
        refine ⟨_, rfl, hj.1, hj.2, h1 _ H1 μ1 s1 o1 ?_⟩
        unfold srcR
        rw [Int.sub_zero]
        exact jok_range
      · exact h1.elim
    · exact h1.elim
theorem mi_range2 (ha : MA X E [a, b] ms) (hm : X.mg "range" = none) (hg : Gl X "range" := by rfl) (hs : starEach [a, b] X.env = [(false, eval a X.env), (false, eval b X.env)] := by rfl) (hs2 : starEach [b] X.env = [(false, eval b X.env)] := by rfl) :
    MI X E tg (.Call (.Name "range" p) [a, b] [] pos) (fun ρ => M.bind (ms ρ) srcR2) :=
  (pi_range2 hg hm ha hs hs2).weak fun σ H R h => by
    obtain ⟨ρ, μ, S, he, ho, h⟩ := h
    refine tA'.run (k := srcR2) (R := fun r => PostI X.K X.mg μ H (E σ) r R) he ho h (fun _ _ _ z => z) (fun z => z) fun ds S1 _ h1 vs H1 μ1 s1 o1 e1 d1 => ?_
    unfold srcR2 at h1
    split at h1
    · split at h1
      · rename_i hj
        obtain ⟨v, w, rfl, dv, dw⟩ := den2 d1
        cases dv
        cases dw
        exact ⟨_, _, rfl, ⟨hj.1.1, hj.1.2, hj.2.1, hj.2.2⟩, h1 _ H1 μ1 s1 o1 jok_range⟩
      · exact h1.elim
    · exact h1.elim
theorem mi_zip {elts : List Expr} {kk : Nat} {tpos : Pos} (ha : MA X E [a, b] ms) (hm : X.mg "zip" = none) (hg : Gl X "zip" := by rfl) (hs : starEach [a, b] X.env = (false, eval a X.env) :: starEach [b] X.env := by rfl) (hpl : (backTo pos (starEach [b] X.env)).any (·.1) = false := by rfl) :
    MI X E (.Tuple elts kk tpos) (.Call (.Name "zip" p) [a, b] [] pos) (fun ρ => M.bind (ms ρ) srcZ) :=
  (RZ.pi_zipA hg hm ha hs hpl).weak fun σ H R h => by
    obtain ⟨ρ, μ, S, he, ho, h⟩ := h
    refine tA'.run (k := srcZ) (R := fun r => PostI X.K X.mg μ H (E σ) r R) he ho h (fun _ _ _ z => z) (fun z => z) fun ds S1 _ h1 vs H1 μ1 s1 o1 e1 d1 => ?_
    unfold srcZ at h1
    split at h1
    · obtain ⟨v, w, rfl, dv, dw⟩ := den2 d1
      cases dv with
      | tup h2 h3 =>
        cases dw with
        | tup h4 h5 => exact ⟨_, _, _, _, rfl, .inr ⟨h2, h4, h1 _ H1 μ1 s1 o1 (jok_zipT o1 (.tup h2 h3) (.tup h4 h5))⟩⟩
    · rename_i x y _
      split at h1
      · rename_i xs ys q1 q2
        obtain ⟨v, w, rfl, dv, dw⟩ := den2 d1
        obtain ⟨p1, vs1, rfl, h2, h3⟩ := asS_den o1 dv q1
        obtain ⟨p2, vs2, rfl, h4, h5⟩ := asS_den o1 dw q2
        exact ⟨p1, p2, vs1, vs2, rfl, .inl ⟨h2, h4, h1 _ H1 μ1 s1 o1 (jok_zip o1 dv dw q1 q2)⟩⟩
      · exact h1.elim
    · exact h1.elim
/-! ### subscripts, slices -/
def ixP (S : Store) : D → D → Option D
  | .str z, .int i => if z.length ≤ sizeLine then (atI z.cps.toList i).map fun c => .str ⟨#[c]⟩ else none
  | d, .int i => match asA S d with
    | some ds => atI ds i
    | none => none
  | _, _ => none
theorem atI_den {K : W.Frag} {mg : Str → Option Value} {μ : Pl} {H : Hp} {vs : List V} {ds : List D} {i : Int} {d : D} (h : DenL K mg μ H vs ds) (e : atI ds i = some d) : ∃ v, atI vs i = some v ∧ Den K mg μ H v d := by
  unfold atI at e ⊢
  rw [h.length]
  cases q : ixN ds.length i with
  | none => rw [q] at e; cases e
  | some j =>
    rw [q] at e
    exact h.get e
theorem r_ix : IxR X (rP2 X.K X.mg ixP) := by
  intro value slice pins s σ H x y v u Q I rx ry h hs
  obtain ⟨μ, S, a, b, d, o, da, db, e, k⟩ := h
  refine ix_seq value slice pins s σ H x y v u Q I rx ry ?_ hs
  unfold ixP at e
  split at e
  · split at e
    · rename_i z i hz
      cases da
      cases db
      cases q : atI z.cps.toList i with
      | none => rw [q] at e; cases e
      | some c =>
        rw [q] at e
        obtain rfl := Option.some.inj e
        exact .inr (.inr ⟨z, i, c, rfl, rfl, hz, q, k _ _ .refl o (.str _)⟩)
    · cases e
  · split at e
    · rename_i ds q
      cases db
      obtain ⟨p, vs, rfl, hq, hd⟩ := asA_den o da q
      obtain ⟨w, hw, dw⟩ := atI_den hd e
      rcases hq with hq | hq
      · exact .inl ⟨p, vs, _, w, rfl, rfl, hq, hw, k _ _ .refl o dw⟩
      · exact .inr (.inl ⟨p, vs, _, w, rfl, rfl, hq, hw, k _ _ .refl o dw⟩)
    · cases e
  · cases e
theorem me_ix (ha : ME X E a ma) (hb : ME X E b mb) (hs : PlainIx b := by intro _ _; rfl) : ME X E (.Subscript a b pos) (bin2 ixP ma mb) := (pe_ix r_ix ha hb hs).weak fun _ _ _ h => tOp_of h
def cutD (xs : List D) (lo hi : Option Int) : List D := (xs.drop (HT.sIx xs.length 0 lo)).take (HT.sIx xs.length xs.length hi - HT.sIx xs.length 0 lo)
theorem cut_den {K : W.Frag} {mg : Str → Option Value} {μ : Pl} {H : Hp} {vs : List V} {ds : List D} {lo hi : Option Int} (h : DenL K mg μ H vs ds) : DenL K mg μ H (cutV vs lo hi) (cutD ds lo hi) := by
  unfold cutV cutD
  rw [h.length]
  exact (h.drop _).take _
def slP (S : Store) (d : D) (lo hi : Option Int) : Option D := match d with
  | .str z => if z.length ≤ sizeLine then some (.str (cutS z lo hi)) else none
  | .tup ds => some (.tup (cutD ds lo hi))
  | d => match asS S d with
    | some ds => some (.lst (cutD ds lo hi))
    | none => none
def rPS (K : W.Frag) (mg : Str → Option Value) : V → Option Int → Option Int → Hp → VK → Prop := fun x lo hi H Q => ∃ μ S a d, Ok K mg μ H S ∧ Den K mg μ H x a ∧ slP S a lo hi = some d ∧ ∀ v' H', Step μ μ H H' → Ok K mg μ H' S → Den K mg μ H' v' d → Q v' H'
theorem r_sl : SlR X (rPS X.K X.mg) := by
  intro pins s σ H x v vl vu lo hi sl Q I rx hs pl pu h
  obtain ⟨μ, S, a, d, o, da, e, k⟩ := h
  unfold slP at e
  split at e
  · split at e
    · obtain rfl := Option.some.inj e
      cases da
      exact sl_str pins s σ H _ v vl vu lo hi sl Q I rx hs pl pu ⟨_, rfl, by assumption, k _ _ .refl o (.str _)⟩
    · cases e
  · rename_i ds
    obtain rfl := Option.some.inj e
    cases da with
    | tup h1 h2 =>
      rename_i p vs
      refine sl_tupA pins s σ H _ v vl vu lo hi sl Q I rx hs pl pu ⟨p, vs, rfl, h1, fun hw => ?_, fun _ q hq => ?_⟩
      · have e1 : cutD ds lo hi = ds := by
          rw [h2.length] at hw
          unfold cutD
          rw [hw.1, hw.2, List.drop_zero, Nat.sub_zero, List.take_length]
        rw [e1] at k
        exact k _ _ .refl o (.tup h1 h2)
      · obtain ⟨s1, o1, d1⟩ := new_tup o hq (cut_den (lo := lo) (hi := hi) h2)
        exact k _ _ s1 o1 d1
  · split at e
    · rename_i ds q
      obtain rfl := Option.some.inj e
      obtain ⟨p, vs, rfl, h1, h2⟩ := asS_den o da q
      refine sl_list pins s σ H _ v vl vu lo hi sl Q I rx hs pl pu ⟨p, vs, rfl, h1, fun q hq => ?_⟩
      obtain ⟨s1, o1, d1⟩ := new_lst o hq (cut_den (lo := lo) (hi := hi) h2)
      exact k _ _ s1 o1 d1
    · cases e
def PostO (K : W.Frag) (mg : Str → Option Value) (μ : Pl) (H : Hp) (E : XK) (r : Res (Option Int)) (Q : Option Int → Hp → Prop) : Prop := match r with
  | .ok i S' => ∀ H' μ', Step μ μ' H H' → Ok K mg μ' H' S' → Q i H'
  | .exc c fs S' => XP K mg μ H E c fs S'
  | .bad => False
def tO' (K : W.Frag) (mg : Str → Option Value) (E : L2.St → XK) (m : Env' → M (Option Int)) : TO := fun σ H Q => ∃ ρ μ S, EnvOk K mg μ H σ ρ ∧ Ok K mg μ H S ∧ PostO K mg μ H (E σ) (m ρ S) Q
theorem _root_.L2.PO.weak {X : Cx} {e : Option Expr} {t t' : TO} (h : PO X e t) (w : ∀ σ H Q, t' σ H Q → t σ H Q) : PO X e t' := ⟨fun pins s σ H Q I q => h.run pins s σ H Q I (w σ H Q q)⟩
abbrev MO (X : Cx) (E : L2.St → XK) (e : Option Expr) (m : Env' → M (Option Int)) : Prop := PO X e (tO' X.K X.mg E m)
theorem mo_none : MO X E none (fun _ => M.pure none) := po_none.weak fun σ H Q h => by
  obtain ⟨ρ, μ, S, he, ho, h⟩ := h
  exact h H μ .refl ho
def optI (m : M D) : M (Option Int) := M.bind m fun d => M.lift ((asI d).map some)
theorem mo_some (ha : ME X E a ma) : MO X E (some a) (fun ρ => optI (ma ρ)) := (po_some ha).weak fun σ H Q h => by
  obtain ⟨ρ, μ, S, he, ho, h⟩ := h
  refine tE.run (k := fun d => M.lift ((asI d).map some)) (R := fun r => PostO X.K X.mg μ H (E σ) r Q) he ho h (fun _ _ _ z => z) (fun z => z) fun d S1 _ h1 v H1 μ1 s1 o1 e1 d1 => ?_
  cases d1 with
  | int i => exact ⟨i, rfl, h1 H1 μ1 s1 o1⟩
  | _ => exact h1.elim
def opS (f : Store → D → Option Int → Option Int → Option D) (d : D) (lo hi : Option Int) : M D := fun S => match f S d lo hi with
  | some r => .ok r S
  | none => .bad
def slM (ma : Env' → M D) (ml mh : Env' → M (Option Int)) : Env' → M D := fun ρ => M.bind (ma ρ) fun d => M.bind (ml ρ) fun lo => M.bind (mh ρ) fun hi => opS slP d lo hi
theorem tO'.run {K : W.Frag} {mg : Str → Option Value} {m : Env' → M (Option Int)} {σ : L2.St} {H : Hp} {μ : Pl} {ρ : Env'} {S : Store} {α : Type} {k : Option Int → M α} {Q : Option Int → Hp → Prop} {R : Res α → Prop}
    (he : EnvOk K mg μ H σ ρ) (ho : Ok K mg μ H S) (hR : R (M.bind (m ρ) k S)) (hx : ∀ c fs S', R (.exc c fs S') → XP K mg μ H (E σ) c fs S') (hb : ¬ R .bad)
    (hk : ∀ d S', m ρ S = .ok d S' → R (k d S') → ∀ H' μ', Step μ μ' H H' → Ok K mg μ' H' S' → EnvOk K mg μ' H' σ ρ → Q d H') : tO' K mg E m σ H Q := by
  refine ⟨ρ, μ, S, he, ho, ?_⟩
  unfold M.bind at hR
  cases e : m ρ S with
  | ok d S' =>
    rw [e] at hR
    exact fun H' μ' st o' => hk d S' e hR H' μ' st o' (he.mono ho st)
  | exc c fs S' =>
    rw [e] at hR
    exact hx c fs S' hR
  | bad =>
    rw [e] at hR
    exact absurd hR hb
theorem me_slice {lo hi : Option Expr} {ml mh : Env' → M (Option Int)} {p2 : Pos} (ha : ME X E a ma) (hl : MO X E lo ml) (hh : MO X E hi mh) : ME X E (.Subscript a (.Slice lo hi none p2) pos) (slM ma ml mh) := (pe_slice r_sl ha hl hh).weak fun σ H Q h => by
  obtain ⟨ρ, μ, S, he, ho, h⟩ := h
  refine tE.run (R := fun r => PostD X.K X.mg μ H (E σ) r Q) he ho h (fun _ _ _ z => z) (fun z => z) fun d S1 _ h1 v H1 μ1 s1 o1 e1 d1 => ?_
  refine tO'.run (R := fun r => PostD X.K X.mg μ1 H1 (E σ) r Q) e1 o1 (PostD.of s1 h1) (fun _ _ _ z => z) (fun z => z) fun l S2 _ h2 H2 μ2 s2 o2 e2 => ?_
  refine tO'.run (R := fun r => PostD X.K X.mg μ2 H2 (E σ) r Q) e2 o2 (PostD.of s2 h2) (fun _ _ _ z => z) (fun z => z) fun u S3 _ h3 H3 μ3 s3 o3 e3 => ?_
  unfold opS at h3
  cases q : slP S3 d l u with
  | none => rw [q] at h3; exact h3.elim
  | some r =>
    rw [q] at h3
    exact ⟨μ3, S3, d, r, o3, (d1.mono o1 s2).mono o2 s3, q, fun v' H' st o' hd => h3 v' H' μ3 (s3.trans st) o' hd⟩
end
end PyM
set_option Elab.async false
set_option linter.all false
set_option maxRecDepth 100000
set_option maxHeartbeats 2000000
namespace PyM
open PySem PySem.Spec PyProof.Rows L2

/-! ### comprehensions -/
def wipeE (ρ : Env') : List Nat → Env'
  | [] => ρ
  | v :: vs => (wipeE ρ vs).set v none
theorem wipe_get {σ : L2.St} {i : Nat} : ∀ {vs : List Nat}, i ∉ vs → (wipe σ vs)[i]? = σ[i]?
  | [], _ => rfl
  | v :: vs, h => by
    unfold wipe
    rw [List.getElem?_set_ne (fun z => h (by simp [z]))]
    exact wipe_get fun z => h (by simp [z])
theorem wipe_in {σ : L2.St} {i : Nat} : ∀ {vs : List Nat}, i ∈ vs → i < σ.length → (wipe σ vs)[i]? = some none
  | [], h, _ => by simp at h
  | v :: vs, h, hl => by
    unfold wipe
    by_cases e : v = i
    · rw [e, List.getElem?_set_self (by rw [wipe_length]; exact hl)]
    · rw [List.getElem?_set_ne e]
      exact wipe_in (by rcases List.mem_cons.mp h with z | z; exact absurd z.symm e; exact z) hl
theorem wipeE_some {ρ : Env'} {i : Nat} {x : D} : ∀ {vs : List Nat}, (wipeE ρ vs)[i]? = some (some x) → ρ[i]? = some (some x) ∧ i ∉ vs
  | [], h => ⟨h, by simp⟩
  | v :: vs, h => by
    unfold wipeE at h
    by_cases e : v = i
    · subst e
      have hl : v < (wipeE ρ vs).length := by
        have := (List.getElem?_eq_some_iff.mp h).1
        simpa using this
      rw [List.getElem?_set_self hl] at h
      cases h
    · rw [List.getElem?_set_ne e] at h
      obtain ⟨h1, h2⟩ := wipeE_some h
      exact ⟨h1, fun z => (List.mem_cons.mp z).elim (fun q => e q.symm) h2⟩
theorem wipeE_length (ρ : Env') : ∀ vs : List Nat, (wipeE ρ vs).length = ρ.length
  | [] => rfl
  | v :: vs => by unfold wipeE; rw [List.length_set, wipeE_length ρ vs]
section
variable {K : W.Frag} {mg : Str → Option Value} {μ μ' : Pl} {H H' : Hp} {S S' : Store} {σ σ' : L2.St} {ρ : Env'}
theorem EnvOk.wipe (he : EnvOk K mg μ H σ ρ) (vs : List Nat) : EnvOk K mg μ H (L2.wipe σ vs) (wipeE ρ vs) := ⟨by rw [wipeE_length, wipe_length]; exact he.1, fun i d h => by
  obtain ⟨h1, h2⟩ := wipeE_some h
  obtain ⟨v, a, b⟩ := he.2 i d h1
  exact ⟨v, by rw [wipe_get h2]; exact a, b⟩⟩
theorem wipe_same {w vs : List Nat} (hw : ∀ i ∈ w, i ∈ vs) (h : SameBut w (L2.wipe σ vs) σ') : L2.wipe σ' vs = L2.wipe σ vs := by
  refine List.ext_getElem? fun i => ?_
  have hl : σ'.length = σ.length := by rw [h.1, wipe_length]
  by_cases hi : i ∈ vs
  · by_cases hlt : i < σ.length
    · rw [wipe_in hi (by omega), wipe_in hi hlt]
    · rw [List.getElem?_eq_none (by rw [wipe_length]; omega), List.getElem?_eq_none (by rw [wipe_length]; omega)]
  · rw [wipe_get hi, h.2 i (fun z => hi (hw i z))]
theorem Step.bare {c c' : List Addr} {h h' : List Addr} (st : Step ⟨c, h⟩ ⟨c', h⟩ H H') : Step ⟨c, h'⟩ ⟨c', h'⟩ H H' := ⟨st.pre, rfl, st.keep, st.new⟩
theorem Step.grown {p : Addr} {o : HO} (st : Step μ μ' H H') (hp : H p = none) : Step μ μ' H (upd H' p o) := ⟨st.pre, st.hid, fun a u ha e => by
  rw [upd_ne (ne_of_none e hp)]
  exact st.keep a u ha e, st.new⟩
theorem Step.hidden {p : Addr} {c : List Addr} (st : Step μ ⟨c, μ.h⟩ H H') (hp : H p = none) : StepD μ ⟨c, p :: μ.h⟩ H H' := ⟨st.pre, fun a o h _ _ e => st.keep a o h e, fun a h => by
  rcases h with h | h
  · exact (st.new a h).elim .inl fun z => .inr (.inr fun xs q => by rw [z] at q; cases q)
  · rcases List.mem_cons.mp h with h | h
    · exact .inr (.inr fun xs q => by rw [h, hp] at q; cases q)
    · exact .inr (.inl h)⟩
end
/-- the turns of [elt for target in .. if ..] -/
def lcL (chk : Store → Bool) (g : D → Env' → Option Env') (mt : Env' → M Bool) (me : Env' → M D) (ρ : Env') : List D → M (List D)
  | [], S => if chk S = true then .ok [] S else .bad
  | d :: ds, S => if chk S = true then (match g d ρ with
    | none => .bad
    | some ρ2 => match mt ρ2 S with
      | .ok true S1 => (match me ρ2 S1 with
        | .ok y S2 => (match lcL chk g mt me ρ ds S2 with
          | .ok ys S3 => .ok (y :: ys) S3
          | _ => .bad)
        | _ => .bad)
      | .ok false S1 => lcL chk g mt me ρ ds S1
      | _ => .bad) else .bad
/-- its list -/
def lcI (mi : Env' → M Src) (g : D → Env' → Option Env') (mt : Env' → M Bool) (me : Env' → M D) (own : List Nat) : Env' → M (List D) := fun ρ => M.bind (mi ρ) fun src S => match lcL src.chk g mt me (wipeE ρ own) src.items S with
  | .ok ys S' => if ys.length ≤ sizeLine then .ok ys S' else .bad
  | _ => .bad
def lcM (mi : Env' → M Src) (g : D → Env' → Option Env') (mt : Env' → M Bool) (me : Env' → M D) (own : List Nat) : Env' → M D := fun ρ => M.bind (lcI mi g mt me own ρ) fun ys => M.pure (.lst ys)
abbrev EB : L2.St → XK := fun _ _ _ _ => False
abbrev MTs (X : Cx) (E : L2.St → XK) (ifs : List Expr) (mt : Env' → M Bool) : Prop := PTs X ifs (tB' X.K X.mg E mt)
theorem _root_.L2.PTs.weak {X : Cx} {e : List Expr} {t t' : TT} (h : PTs X e t) (w : ∀ σ H Q, t' σ H Q → t σ H Q) : PTs X e t' := ⟨fun pins s σ H Q I q => h.run pins s σ H Q I (w σ H Q q)⟩
section
variable {X : Cx} {E : L2.St → XK} {a b e : Expr} {es : List Expr} {ma mb : Env' → M D} {ms : Env' → M (List D)} {mt : Env' → M Bool} {pos p : Pos} {tg : Expr}
theorem mts_nil : MTs X E [] (fun _ => M.pure true) := pts_nil.weak fun σ H Q h => by
  obtain ⟨ρ, μ, S, he, ho, h⟩ := h
  exact h H μ .refl ho
theorem mts_one (h : MT X E a mt) : MTs X E [a] mt := pts_one h
/-- the whole invariant of the turns -/
theorem lc_read {K : W.Frag} {mg : Str → Option Value} {w : List Nat} {g : D → Env' → Option Env'} {me : Env' → M D} {mi : Env' → M Src} {vs : List Nat} {σ : L2.St} {H : Hp} {Q : VK}
    (hw : ∀ i ∈ w, i ∈ vs) {ρ : Env'} {μ : Pl} {S : Store} (he : EnvOk K mg μ H σ ρ) (ho : Ok K mg μ H S)
    (hx : ∀ c fs S', lcI mi g mt me vs ρ S = .exc c fs S' → XP K mg μ H (E σ) c fs S') (hb : lcI mi g mt me vs ρ S ≠ .bad)
    (hk : ∀ ys S', lcI mi g mt me vs ρ S = .ok ys S' → ∀ D H' μ' zs, Step μ μ' H H' → Ok K mg μ' H' S' → H' D = some (.lst zs) → D ∉ μ'.c → D ∉ μ'.h → DenL K mg μ' H' zs ys → Q (.ref D) H') :
    tLc (tI K mg E mi) (tG K mg w g) (tB' K mg EB mt) (tE K mg EB me) vs σ H Q := by
  refine ⟨ρ, μ, S, he, ho, ?_⟩
  unfold lcI at hx hb hk
  unfold M.bind at hx hb hk
  cases e : mi ρ S with
  | bad => rw [e] at hb; exact absurd rfl hb
  | exc c fs S' => rw [e] at hx; exact hx c fs S' rfl
  | ok src S1 =>
    rw [e] at hb hk
    clear hx
    dsimp only at hb hk
    intro J H1 μ1 s1 o1 j1 Dn hD
    cases el : lcL src.chk g mt me (wipeE ρ vs) src.items S1 with
    | bad => rw [el] at hb; exact absurd rfl hb
    | exc c fs S' => rw [el] at hb; exact absurd rfl hb
    | ok ys Sf =>
      rw [el] at hb hk
      dsimp only at hb hk
      by_cases hsz : ys.length ≤ sizeLine
      case neg => rw [if_neg hsz] at hb; exact absurd rfl hb
      rw [if_pos hsz] at hk
      have hk := hk ys Sf rfl
      have e1 : EnvOk K mg μ1 H1 (wipe σ vs) (wipeE ρ vs) := (he.mono ho s1).wipe vs
      refine ⟨fun i m H' => m = src.items.length - i ∧ i ≤ src.items.length ∧ ∃ (c' : List Addr) (S' : Store) (acc : List V) (accd ys' : List D), Step μ1 ⟨c', μ1.h⟩ H1 H' ∧ Ok K mg ⟨c', Dn :: μ1.h⟩ H' S' ∧ H' Dn = some (.lst acc) ∧
        DenL K mg ⟨c', Dn :: μ1.h⟩ H' acc accd ∧ lcL src.chk g mt me (wipeE ρ vs) (src.items.drop i) S' = .ok ys' Sf ∧ accd ++ ys' = ys,
        ⟨src.items.length, by simp, Nat.zero_le _, μ1.c, S1, [], [], ys, (Step.refl (μ := μ1) (H := H1)).grown hD, o1.hide hD, upd_same, .nil, el, rfl⟩, ?_⟩
      rintro i m H' ⟨rfl, hi, c', S', acc, accd, ys', st, o', hDn, hacc, hl, happ⟩
      have sd := st.hidden (p := Dn) hD
      by_cases hlt : i < src.items.length
      · rw [List.drop_eq_getElem_cons hlt] at hl
        unfold lcL at hl
        split at hl
        · rename_i hchk
          have hj := (j1 _ H' S' sd o' hchk i).2 _ (List.getElem?_eq_getElem hlt)
          cases q : g src.items[i] (wipeE ρ vs) with
          | none => rw [q] at hl; cases hl
          | some ρ2 =>
            rw [q] at hl
            dsimp only at hl
            refine .inr ⟨hj.1, fun H' => ∃ (c' : List Addr) (S' : Store) (acc : List V) (accd ys' : List D), Step μ1 ⟨c', μ1.h⟩ H1 H' ∧ Ok K mg ⟨c', Dn :: μ1.h⟩ H' S' ∧ H' Dn = some (.lst acc) ∧
              DenL K mg ⟨c', Dn :: μ1.h⟩ H' acc accd ∧ lcL src.chk g mt me (wipeE ρ vs) (src.items.drop (i + 1)) S' = .ok ys' Sf ∧ accd ++ ys' = ys, fun H' p' => ⟨src.items.length - (i + 1), by omega, rfl, hlt, p'⟩, fun x H2 y => ?_⟩
            obtain ⟨s2, o2, d2⟩ := hj.2 x H2 y
            have e2 : EnvOk K mg ⟨c', Dn :: μ1.h⟩ H2 (wipe σ vs) (wipeE ρ vs) := (e1.monoD o1 sd).mono o' s2
            have hDn2 : H2 Dn = some (.lst acc) := s2.keep _ _ (o'.hd Dn (by simp)).1 hDn
            refine ⟨_, _, S', _, ρ2, e2, o2, d2, q, fun σ' sb e3 => ⟨wipe_same hw sb, ρ2, _, S', e3, o2, ?_⟩⟩
            cases r : mt ρ2 S' with
            | bad => rw [r] at hl; cases hl
            | exc c fs S2 => rw [r] at hl; cases hl
            | ok k S2 =>
              rw [r] at hl
              intro H3 μ3 s3 o3
              obtain ⟨c3, h3⟩ := μ3
              obtain rfl : h3 = Dn :: μ1.h := s3.hid
              have hDn3 : H3 Dn = some (.lst acc) := s3.keep _ _ (o2.hd Dn (by simp)).1 hDn2
              cases k with
              | false =>
                exact ⟨c3, S2, acc, accd, ys', (st.trans (s2.bare.trans s3.bare)), o3, hDn3, (hacc.mono o' s2).mono o2 s3, hl, happ⟩
              | true =>
                dsimp only at hl
                refine ⟨ρ2, _, S2, e3.mono o2 s3, o3, ?_⟩
                cases r2 : me ρ2 S2 with
                | bad => rw [r2] at hl; cases hl
                | exc c fs S2 => rw [r2] at hl; cases hl
                | ok y S3 =>
                  rw [r2] at hl
                  dsimp only at hl
                  cases r3 : lcL src.chk g mt me (wipeE ρ vs) (src.items.drop (i + 1)) S3 with
                  | bad => rw [r3] at hl; cases hl
                  | exc c fs S2 => rw [r3] at hl; cases hl
                  | ok ys2 S4 =>
                    rw [r3] at hl
                    injection hl with hl1 hl2
                    subst hl1 hl2
                    intro v H4 μ4 s4 o4 d4
                    obtain ⟨c4, h4⟩ := μ4
                    obtain rfl : h4 = Dn :: μ1.h := s4.hid
                    have hDn4 : H4 Dn = some (.lst acc) := s4.keep _ _ (o3.hd Dn (by simp)).1 hDn3
                    have hacc4 := ((hacc.mono o' s2).mono o2 s3).mono o3 s4
                    have hlen := hacc4.length
                    have gs : StepD ⟨c4, Dn :: μ1.h⟩ ⟨c4, Dn :: μ1.h⟩ H4 (upd H4 Dn (.lst (acc ++ [v]))) := grow_step (by simp)
                    refine ⟨acc, hDn4, ?_, c4, S3, acc ++ [v], accd ++ [y], ys2, (st.trans (s2.bare.trans (s3.bare.trans s4.bare))).grown hD, o4.grow (by simp), upd_same, (hacc4.monoD o4 gs).append (.cons (d4.monoD o4 gs) .nil), r3, by rw [List.append_assoc]; exact happ⟩
                    have : ys.length = accd.length + (ys2.length + 1) := by rw [← happ]; simp
                    omega
        · cases hl
      · rw [List.drop_eq_nil_of_le (by omega)] at hl
        unfold lcL at hl
        split at hl
        · rename_i hchk
          injection hl with hl1 hl2
          subst hl1 hl2
          rw [List.append_nil] at happ
          subst happ
          refine .inl ⟨(j1 _ H' _ sd o' hchk i).1 (by omega), ?_⟩
          have hsub : ∀ a ∈ μ1.h, a ∈ (⟨c', Dn :: μ1.h⟩ : Pl).h := fun a h => List.mem_cons_of_mem _ h
          exact hk Dn H' ⟨c', μ1.h⟩ acc (s1.trans st) (o'.bare hsub) hDn (o'.hd Dn (by simp)).1 (o1.nofree hD).2 (hacc.bare hsub)
        · cases hl
theorem me_lc {elt iter : Expr} {ifs : List Expr} {scope : Scope} {mi : Env' → M Src} {w : List Nat} {g : D → Env' → Option Env'} {me : Env' → M D} (own : List (Str × Nat)) (hc : X.calm = true) (hN : X.N.Nodup) (hi : MI X E tg iter mi) (ok : BlkOk X.N X.env.scope scope own)
    (hg : ∀ (s : Shared) (H : Hp) (C : Addr) (cl : List (Str × Addr)) (fp : List Addr), MG (X.blk s H scope (compEnvC scope cl C X.env) fp) tg w g) (ht : ∀ (s : Shared) (H : Hp) (C : Addr) (cl : List (Str × Addr)) (fp : List Addr), MTs (X.blk s H scope (compEnvC scope cl C X.env) fp) EB ifs mt)
    (he : ∀ (s : Shared) (H : Hp) (C : Addr) (cl : List (Str × Addr)) (fp : List Addr), ME (X.blk s H scope (compEnvC scope cl C X.env) fp) EB elt me) (hw : ∀ i ∈ w, i ∈ own.map (·.2) := by decide) (hs : ∀ x, foldedSetIterable iter X.env x = pure x := by intro _; rfl) :
    ME X E (.ListComp elt [⟨tg, iter, ifs, 0⟩] scope pos) (lcM mi g mt me (own.map (·.2))) := (pe_lc (wi := tI X.K X.mg E mi) (g := tG X.K X.mg w g) (tt := tB' X.K X.mg EB mt) (te := tE X.K X.mg EB me) hc hN hi ok hg ht he hs).weak fun σ H Q h => by
  obtain ⟨ρ, μ, S, hE, ho, h⟩ := h
  unfold lcM M.bind at h
  refine lc_read (g := g) (mt := mt) (me := me) hw hE ho (fun c fs S' e => ?_) (fun e => ?_) (fun ys S' e D H' μ' zs st o' hD n1 n2 hz => ?_)
  · rw [e] at h; exact h
  · rw [e] at h; exact h
  · rw [e] at h
    exact h _ H' μ' st o' (.lst hD n1 n2 hz)
/-- a new list that will be changed in place -/
def lcC (mi : Env' → M Src) (g : D → Env' → Option Env') (mt : Env' → M Bool) (me : Env' → M D) (own : List Nat) : Env' → M D := fun ρ => M.bind (lcI mi g mt me own ρ) newCell
end
end PyM
set_option Elab.async false
set_option linter.all false
set_option maxRecDepth 100000
set_option maxHeartbeats 2000000
namespace PyM
open PySem PySem.Spec PyProof.Rows L2

/-! ### methods of lists and texts -/
def rPM (K : W.Frag) (mg : Str → Option Value) (f : Store → D → List D → Option (D × Store)) : V → List V → Hp → VK → Prop := fun x vs H Q => ∃ μ S a ds d S', Ok K mg μ H S ∧ Den K mg μ H x a ∧ DenL K mg μ H vs ds ∧ f S a ds = some (d, S') ∧
  ∀ v' H' μ', Step μ μ' H H' → Ok K mg μ' H' S' → Den K mg μ' H' v' d → Q v' H'
def M.opM (f : Store → D → List D → Option (D × Store)) (a : D) (ds : List D) : M D := fun S => match f S a ds with
  | some (d, S') => .ok d S'
  | none => .bad
def tyOk (T : String) (S : Store) (a : D) : Bool := match T, a with
  | "str", .str _ => true
  | "list", a => (asS S a).isSome
  | _, _ => false
def M.guard (p : Store → Bool) : M Unit := fun S => if p S = true then .ok () S else .bad
theorem guard_bind {α : Type} {p : Store → Bool} {k : Unit → M α} {S : Store} : M.bind (M.guard p) k S = if p S = true then k () S else .bad := by
  unfold M.bind M.guard
  cases p S <;> rfl
def methM (T : String) (f : Store → D → List D → Option (D × Store)) (mo : Env' → M D) (ms : Env' → M (List D)) : Env' → M D := fun ρ => M.bind (mo ρ) fun a => M.bind (M.guard fun S => tyOk T S a) fun _ => M.bind (ms ρ) fun ds => M.opM f a ds
theorem tyOk_den {K : W.Frag} {mg : Str → Option Value} {μ : Pl} {H : Hp} {S : Store} {T : String} {v : V} {a : D} (o : Ok K mg μ H S) (h : Den K mg μ H v a) (e : tyOk T S a = true) : tyV K T v H := by
  unfold tyOk at e
  split at e
  · cases h
    rfl
  · cases q : asS S a with
    | none => rw [q] at e; cases e
    | some ds =>
      obtain ⟨p, vs, rfl, h1, h2⟩ := asS_den o h q
      exact .inl ⟨rfl, vs, h1⟩
  · cases e
section
variable {X : Cx} {E : L2.St → XK} {a b c e : Expr} {es rest : List Expr} {ma mb mc mo : Env' → M D} {ms : Env' → M (List D)} {pos p cpos apos : Pos}
theorem me_meth {name : Str} {T id : String} {f : Store → D → List D → Option (D × Store)} (pa : PlainAttrs T) (slot : Slot T name id) (hty : typeOf (.builtin id) = pure (.type "method_descriptor")) (hm : MtR X id (rPM X.K X.mg f)) (ho : ME X E a mo) (ha : MA X E (e :: es) ms)
    (hbase : attributeBase a name X.env (eval a X.env) = eval a X.env := by rfl)
    (hfew : ((backTo cpos (starEach (e :: es) X.env)).all (fun x => !x.1) && (backToKw cpos (keywordEach [] X.env)).all (fun x => x.1.isSome)
      && decide ((e :: es).length + ([] : List Keyword).length + (if ([] : List Keyword).isEmpty then 0 else 1) < 30)) = true := by rfl)
    (hline : (apos.endLine == cpos.line) = true := by rfl) (hs : starEach (e :: es) X.env = (false, eval e X.env) :: starEach es X.env := by rfl) (hplain : (backTo cpos (starEach es X.env)).any (·.1) = false := by rfl) :
    ME X E (.Call (.Attribute a name apos) (e :: es) [] cpos) (methM T f mo ms) := (pe_bm pa slot hty hm ho ha hbase hfew hline hs hplain).weak fun σ H Q h => by
  obtain ⟨ρ, μ, S, he, hok, h⟩ := h
  refine tE.run (R := fun r => PostD X.K X.mg μ H (E σ) r Q) he hok h (fun _ _ _ z => z) (fun z => z) fun x S1 _ h1 v H1 μ1 s1 o1 e1 d1 => ?_
  rw [guard_bind] at h1
  cases g : tyOk T S1 x with
  | false => rw [if_neg (by rw [g]; decide)] at h1; exact h1.elim
  | true =>
    rw [if_pos g] at h1
    refine ⟨tyOk_den o1 d1 g, ?_⟩
    have h1' : PostD X.K X.mg μ H (E σ) (M.bind (ms ρ) (fun ds => M.opM f x ds) S1) Q := h1
    refine tA'.run (R := fun r => PostD X.K X.mg μ1 H1 (E σ) r Q) e1 o1 (PostD.of s1 h1') (fun _ _ _ z => z) (fun z => z) fun ds S2 _ h2 vs H2 μ2 s2 o2 e2 d2 => ?_
    unfold M.opM at h2
    cases q : f S2 x ds with
    | none => rw [q] at h2; exact h2.elim
    | some r =>
      obtain ⟨d, S3⟩ := r
      rw [q] at h2
      exact ⟨μ2, S2, x, ds, d, S3, o2, d1.mono o1 s2, d2, q, fun v' H' μ' st o' hd => h2 v' H' μ' (s2.trans st) o' hd⟩
theorem me_meth0 {name : Str} {T id : String} {f : Store → D → List D → Option (D × Store)} (pa : PlainAttrs T) (slot : Slot T name id) (hty : typeOf (.builtin id) = pure (.type "method_descriptor")) (hm : MtR X id (rPM X.K X.mg f)) (ho : ME X E a mo)
    (hbase : attributeBase a name X.env (eval a X.env) = eval a X.env := by rfl) (hline : (apos.endLine == cpos.line) = true := by rfl) :
    ME X E (.Call (.Attribute a name apos) [] [] cpos) (methM T f mo fun _ => M.pure []) := (pe_bm0 pa slot hty hm ho hbase hline).weak fun σ H Q h => by
  obtain ⟨ρ, μ, S, he, hok, h⟩ := h
  refine tE.run (R := fun r => PostD X.K X.mg μ H (E σ) r Q) he hok h (fun _ _ _ z => z) (fun z => z) fun x S1 _ h1 v H1 μ1 s1 o1 e1 d1 => ?_
  rw [guard_bind] at h1
  cases g : tyOk T S1 x with
  | false => rw [if_neg (by rw [g]; decide)] at h1; exact h1.elim
  | true =>
    rw [if_pos g] at h1
    refine ⟨tyOk_den o1 d1 g, ?_⟩
    have h2 : PostD X.K X.mg μ H (E σ) (M.opM f x [] S1) Q := h1
    unfold M.opM at h2
    cases q : f S1 x [] with
    | none => rw [q] at h2; exact h2.elim
    | some r =>
      obtain ⟨d, S3⟩ := r
      rw [q] at h2
      exact ⟨μ1, S1, x, [], d, S3, o1, d1, .nil, q, fun v' H' μ' st o' hd => h2 v' H' μ' (s1.trans st) o' hd⟩
end
/-- a cell's list -/
def cellL (S : Store) (a : D) : Option (Nat × List D) := match a with
  | .loc n => match S[n]? with
    | some (.lst xs) => some (n, xs)
    | _ => none
  | _ => none
theorem cellL_den {K : W.Frag} {mg : Str → Option Value} {μ : Pl} {H : Hp} {S : Store} {v : V} {a : D} {n : Nat} {ds : List D} (o : Ok K mg μ H S) (h : Den K mg μ H v a) (e : cellL S a = some (n, ds)) : ∃ (p : Addr) (vs : List V), a = .loc n ∧ v = .ref p ∧ μ.c[n]? = some p ∧ H p = some (.lst vs) ∧ DenL K mg μ H vs ds := by
  unfold cellL at e
  split at e
  · rename_i m
    split at e
    · rename_i xs q
      injection e with e
      injection e with e1 e2
      subst e1 e2
      cases h with
      | loc h =>
        obtain ⟨vs, h1, h2⟩ := o.at_ _ _ _ h q
        exact ⟨_, vs, rfl, rfl, h, h1, h2⟩
    · cases e
  · cases e
def appendP (S : Store) (a : D) (ds : List D) : Option (D × Store) := match cellL S a, ds with
  | some (n, xs), [y] => if xs.length < sizeLine then some (.non, S.set n (.lst (xs ++ [y]))) else none
  | _, _ => none
def insertP (S : Store) (a : D) (ds : List D) : Option (D × Store) := match cellL S a, ds with
  | some (n, xs), [.int i, y] => if xs.length < sizeLine ∧ 0 ≤ i ∧ i < 2 ^ 63 then some (.non, S.set n (.lst (xs.take i.toNat ++ [y] ++ xs.drop i.toNat))) else none
  | _, _ => none
def popP (S : Store) (a : D) (ds : List D) : Option (D × Store) := match cellL S a, ds with
  | some (n, xs), [] => match xs[xs.length - 1]? with
    | some y => some (y, S.set n (.lst xs.dropLast))
    | none => none
  | _, _ => none
def extendP (S : Store) (a : D) (ds : List D) : Option (D × Store) := match cellL S a, ds with
  | some (n, xs), [b] => match asL S b with
    | some ys => if xs.length + ys.length ≤ sizeLine then some (.non, S.set n (.lst (xs ++ ys))) else none
    | none => none
  | _, _ => none
def splitP (S : Store) (a : D) (ds : List D) : Option (D × Store) := match a, ds with
  | .str x, [.str y] => if (y.length == 0) = false ∧ x.length + 2 ≤ sizeLine then some (.lst ((Txt.split x y).map .str), S) else none
  | _, _ => none
theorem strs_den {K : W.Frag} {mg : Str → Option Value} {μ : Pl} {H : Hp} : ∀ (ys : List Str), DenL K mg μ H (ys.map V.str) (ys.map D.str)
  | [] => .nil
  | y :: ys => .cons (.str y) (strs_den ys)
section
variable {X : Cx}
theorem m_append : MtR X "list.append" (rPM X.K X.mg appendP) := by
  intro pins s σ H x xs v us Q I rx rs h
  obtain ⟨μ, S, a, ds, d, S', o, da, dd, e, k⟩ := h
  unfold appendP at e
  split at e
  · rename_i n zs y q
    split at e
    · injection e with e
      injection e with e1 e2
      subst e1 e2
      obtain ⟨p, vs, rfl, rfl, hn, hp, hz⟩ := cellL_den o da q
      obtain ⟨w, rfl, dw⟩ := den1 dd
      have hl := hz.length
      exact mt_append pins s σ H _ _ v us Q I rx rs ⟨p, vs, w, rfl, rfl, hp, by omega, k _ _ μ (.put hn) (o.put hn (hz.append (.cons dw .nil))) .non⟩
    · cases e
  · cases e
theorem m_insert : MtR X "list.insert" (rPM X.K X.mg insertP) := by
  intro pins s σ H x xs v us Q I rx rs h
  obtain ⟨μ, S, a, ds, d, S', o, da, dd, e, k⟩ := h
  unfold insertP at e
  split at e
  · rename_i n zs i y q
    split at e
    · rename_i hi
      injection e with e
      injection e with e1 e2
      subst e1 e2
      obtain ⟨p, vs, rfl, rfl, hn, hp, hz⟩ := cellL_den o da q
      obtain ⟨w0, w, rfl, d0, dw⟩ := den2 dd
      cases d0
      have hl := hz.length
      exact mt_insert pins s σ H _ _ v us Q I rx rs ⟨p, vs, i, w, rfl, rfl, hp, by omega, hi.2.1, hi.2.2, k _ _ μ (.put hn) (o.put hn (((hz.take _).append (.cons dw .nil)).append (hz.drop _))) .non⟩
    · cases e
  · cases e
theorem m_pop : MtR X "list.pop" (rPM X.K X.mg popP) := by
  intro pins s σ H x xs v us Q I rx rs h
  obtain ⟨μ, S, a, ds, d, S', o, da, dd, e, k⟩ := h
  unfold popP at e
  split at e
  · rename_i n zs q
    split at e
    · rename_i y hy
      injection e with e
      injection e with e1 e2
      subst e1 e2
      obtain ⟨p, vs, rfl, rfl, hn, hp, hz⟩ := cellL_den o da q
      cases dd
      have hl := hz.length
      obtain ⟨w, hw, dw⟩ := hz.get hy
      refine mt_pop pins s σ H _ _ v us Q I rx rs ⟨p, vs, w, rfl, rfl, hp, by rw [hl]; exact hw, k _ _ μ (.put hn) (o.put hn ?_) (dw.mono o (.put hn))⟩
      rw [List.dropLast_eq_take, List.dropLast_eq_take, hl]
      exact hz.take _
    · cases e
  · cases e
theorem m_extend : MtR X "list.extend" (rPM X.K X.mg extendP) := by
  intro pins s σ H x xs v us Q I rx rs h
  obtain ⟨μ, S, a, ds, d, S', o, da, dd, e, k⟩ := h
  unfold extendP at e
  split at e
  · rename_i n zs b q
    split at e
    · rename_i ys hy
      split at e
      · injection e with e
        injection e with e1 e2
        subst e1 e2
        obtain ⟨p, vs, rfl, rfl, hn, hp, hz⟩ := cellL_den o da q
        obtain ⟨w, rfl, dw⟩ := den1 dd
        obtain ⟨p2, ws, rfl, hp2, hw⟩ := asL_den o dw hy
        have hl := hz.length
        have hl2 := hw.length
        exact mt_extend pins s σ H _ _ v us Q I rx rs ⟨p, p2, vs, ws, rfl, rfl, hp, hp2, by omega, k _ _ μ (.put hn) (o.put hn (hz.append hw)) .non⟩
      · cases e
    · cases e
  · cases e
theorem m_split : MtR X "str.split" (rPM X.K X.mg splitP) := by
  intro pins s σ H x xs v us Q I rx rs h
  obtain ⟨μ, S, a, ds, d, S', o, da, dd, e, k⟩ := h
  unfold splitP at e
  split at e
  · split at e
    · rename_i hy
      injection e with e
      injection e with e1 e2
      subst e1 e2
      cases da
      obtain ⟨w, rfl, dw⟩ := den1 dd
      cases dw
      refine mt_split pins s σ H _ _ v us Q I rx rs ⟨_, _, rfl, rfl, hy.1, hy.2, fun p hp => ?_⟩
      obtain ⟨s2, o2, d2⟩ := new_lst o hp (strs_den (K := X.K) (mg := X.mg) (μ := μ) (H := H) (Txt.split _ _))
      exact k _ _ μ s2 o2 d2
    · cases e
  · cases e
end
/-! ### stores to places of lists -/
def setP (S : Store) (a i y : D) : Option Store := match cellL S a, i with
  | some (n, xs), .int k => match ixN xs.length k with
    | some j => some (S.set n (.lst (xs.set j y)))
    | none => none
  | _, _ => none
def rPSet (K : W.Frag) (mg : Str → Option Value) : TSet := fun o i v H Q => ∃ μ S a k y S', Ok K mg μ H S ∧ Den K mg μ H o a ∧ Den K mg μ H i k ∧ Den K mg μ H v y ∧ setP S a k y = some S' ∧ ∀ H', Step μ μ H H' → Ok K mg μ H' S' → Q H'
section
variable {X : Cx} {E : L2.St → XK} {a b c e : Expr} {es rest : List Expr} {ma mb mc mo mi : Env' → M D} {ms : Env' → M (List D)} {pos p cpos apos : Pos}
theorem r_set : PSet X (rPSet X.K X.mg) := by
  intro pins s σ H o i v ov iv u Q I ro ri rv h
  obtain ⟨μ, S, a, k, y, S', ok, da, dk, dy, e, q⟩ := h
  unfold setP at e
  split at e
  · rename_i n xs m hc
    split at e
    · rename_i j hj
      obtain rfl := Option.some.inj e
      obtain ⟨p, vs, rfl, rfl, hn, hp, hz⟩ := cellL_den ok da hc
      cases dk
      exact set_list pins s σ H _ _ v ov iv u Q I ro ri rv ⟨p, vs, m, j, rfl, rfl, hp, by rw [hz.length]; exact hj, q _ (.put hn) (ok.put hn (hz.set dy j))⟩
    · cases e
  · cases e
def SR.put (o : Option Store) (ρ : Env') : SR := match o with
  | some S => .nx ρ S
  | none => .bad
theorem ms_setsub {pos' : Pos} (ho : ME X E a mo) (hi : ME X E b mi) (he : ME X E e ma) (hs : swapsWithSole [.Subscript a b pos'] e pos.line X.env = pure false := by rfl) (hw : swappedStores [.Subscript a b pos'] e X.env = pure none := by rfl)
    (h1 : (assignEach [.Subscript a b pos'] X.env).map (·.2) = [assign (.Subscript a b pos') X.env] := by rfl)
    (hh : ∀ v, assign (.Subscript a b pos') X.env v = (do
      let ov ← holding [v] (eval a X.env)
      let iv ← holding [v, ov] (eval b X.env)
      standAt pos'
      holding [v, ov, iv] (setItem ov iv v)
      release [v, ov, iv] []) := by intro _; rfl) :
    MS X E (.Assign [.Subscript a b pos'] e pos) (fun ρ S => SR.of (ma ρ S) ρ fun d S1 => SR.of (mo ρ S1) ρ fun o S2 => SR.of (mi ρ S2) ρ fun i S3 => SR.put (setP S3 o i d) ρ) := (ps_asg he (pg_sub ho hi r_set hh) hs hw h1).weak fun D σ H h => by
  obtain ⟨ρ, μ, S, hE, hO, h⟩ := h
  refine tE.runS hE hO h fun d S1 _ h v H1 μ1 s1 o1 e1 d1 => ?_
  refine tE.runS e1 o1 (PostS.of s1 h) fun oo S2 _ h w H2 μ2 s2 o2 e2 d2 => ?_
  refine tE.runS e2 o2 (PostS.of s2 h) fun ii S3 _ h x H3 μ3 s3 o3 e3 d3 => ?_
  have h := PostS.of s3 h
  unfold SR.put at h
  cases q : setP S3 oo ii d with
  | none => rw [q] at h; exact h.elim
  | some S4 =>
    rw [q] at h
    exact ⟨μ3, S3, oo, ii, d, S4, o3, d2.mono o2 s3, d3, (d1.mono o1 s2).mono o2 s3, q, fun H' st o' => h σ H' μ3 st o' (e3.mono o3 st)⟩
theorem tA'.runS {K : W.Frag} {mg : Str → Option Value} {μ : Pl} {H : Hp} {S : Store} {σ : L2.St} {ρ : Env'} {D : Ends} {k : List PyM.D → Store → SR} {Q : List V → Hp → Prop} {m : Env' → M (List PyM.D)} (he : EnvOk K mg μ H σ ρ) (ho : Ok K mg μ H S)
    (h : PostS K mg μ H E (SR.of (m ρ S) ρ k) D) (hk : ∀ d S', m ρ S = .ok d S' → PostS K mg μ H E (k d S') D → ∀ v H' μ', Step μ μ' H H' → Ok K mg μ' H' S' → EnvOk K mg μ' H' σ ρ → DenL K mg μ' H' v d → Q v H') : tA' K mg E m σ H Q := by
  refine ⟨ρ, μ, S, he, ho, ?_⟩
  unfold SR.of at h
  cases e : m ρ S with
  | ok d S' =>
    rw [e] at h
    exact fun v H' μ' st o' dd => hk d S' e h v H' μ' st o' (he.mono ho st) dd
  | exc c fs S' => rw [e] at h; exact PostS.xp he ho h
  | bad => rw [e] at h; exact h.elim
/-- two names at once -/
theorem ms_par (i j : Nat) {x y : Str} {px py pt : Pos} {kt k2 pt2} (hc : X.calm = true) (hN : X.N.Nodup) (ha : MA X E [a, b] ms) (hi : X.N[i]? = some x := by rfl) (hj : X.N[j]? = some y := by rfl) (hij : i ≠ j := by decide)
    (hx : X.env.scope.names.lookup x = some .local := by rfl) (hy : X.env.scope.names.lookup y = some .local := by rfl)
    (hw : swappedStores [.Tuple [.Name x px, .Name y py] kt pt] (.Tuple [a, b] k2 pt2) X.env = pure (some [x, y]) := by rfl)
    (hs : swapsWithSole [.Tuple [.Name x px, .Name y py] kt pt] (.Tuple [a, b] k2 pt2) pos.line X.env = pure false := by rfl) :
    MS X E (.Assign [.Tuple [.Name x px, .Name y py] kt pt] (.Tuple [a, b] k2 pt2) pos) (fun ρ S => SR.of (ms ρ S) ρ fun l S' => match l with
      | [d, d'] => .nx ((ρ.set i (some d)).set j (some d')) S'
      | _ => .bad) := (ps_par hc hN hi hj hij hx hy ha hw hs).weak fun D σ H h => by
  obtain ⟨ρ, μ, S, hE, hO, h⟩ := h
  refine tA'.runS hE hO h fun l S1 _ h vs H1 μ1 s1 o1 e1 d1 => ?_
  split at h
  · obtain ⟨v, w, rfl, dv, dw⟩ := den2 d1
    exact ⟨v, w, rfl, h _ H1 μ1 s1 o1 ((e1.set i dv).set j dw)⟩
  · exact h.elim
/-- xs[i] += int -/
def augP (S : Store) (o i y : D) : Option Store := match ixP S o i, y with
  | some (.int x), .int z => setP S o i (.int (x + z))
  | _, _ => none
end
end PyM
set_option Elab.async false
set_option linter.all false
set_option maxRecDepth 100000
set_option maxHeartbeats 2000000
namespace PyM
open PySem PySem.Spec PyProof.Rows L2

/-! ### defs of the text -/
/-- the def x keeps the mirror Fm of n arguments -/
structure Def (P : Program) (w : World) (K : W.Frag) (mg : Str → Option Value) (base : Heap) (CX : CXT) (k : Nat) (x : Str) (n : Nat) (Fm : List D → M D) : Prop where
  ex : ∃ (f : Addr) (fd : FuncData) (ps : List Str), FnG P w K mg base CX k f fd ps (spM K mg n Fm) ∧ mg x = some (.ref f) ∧ W.keepIn K (.ref f) = true ∧ Binds K fd ps []
theorem Def.mono {P : Program} {w : World} {K : W.Frag} {mg : Str → Option Value} {base : Heap} {CX : CXT} {j k : Nat} {x : Str} {n : Nat} {Fm : List D → M D} (F : Def P w K mg base CX j x n Fm) (h : j ≤ k) : Def P w K mg base CX k x n Fm := by
  obtain ⟨f, fd, ps, F, a, b, c⟩ := F.ex
  exact ⟨f, fd, ps, F.mono h, a, b, c⟩
def M.argn (n : Nat) (ds : List D) : M (List D) := fun S => if ds.length = n then .ok ds S else .bad
def callM (n : Nat) (Fm : List D → M D) (ms : Env' → M (List D)) : Env' → M D := fun ρ => M.bind (ms ρ) fun ds => if ds.length = n then Fm ds else M.bad
/-- the defs that a local may hold -/
abbrev Tab := Str → Option (Nat × (List D → M D))
def callV (tab : Tab) (i : Nat) (ms : Env' → M (List D)) : Env' → M D := fun ρ => M.bind (var ρ i) fun f => match f with
  | .fn x => (match tab x with
    | some (n, Fm) => M.bind (ms ρ) fun ds => if ds.length = n then Fm ds else M.bad
    | none => M.bad)
  | _ => M.bad
section
variable {X : Cx} {E : L2.St → XK} {a b c e : Expr} {es rest : List Expr} {ma mb mc mo mi : Env' → M D} {ms : Env' → M (List D)} {pos p cpos apos : Pos} {CX : CXT} {k n : Nat} {x : Str} {Fm : List D → M D}
theorem me_def (F : Def X.prog X.w X.K X.mg X.base CX k x n Fm) (hG : X.A.guards = some []) (hr : Room k X.A) (hx : ∀ σ, PassesAt CX X σ (E σ)) (ha : MA X E (e :: es) ms) (hg : Gl X x := by rfl) (hdb : (x == ("__debug__" : Str)) = false := by decide)
    (he : starEach (e :: es) X.env = (false, eval e X.env) :: starEach es X.env := by rfl) (hpl : (backTo pos (starEach es X.env)).any (·.1) = false := by rfl) : ME X E (.Call (.Name x p) (e :: es) [] pos) (callM n Fm ms) := by
  refine ⟨fun pins s σ H Q I h => ?_⟩
  obtain ⟨f, fd, ps, F, hm, hk, hb⟩ := F.ex
  obtain ⟨ρ, μ, S, hE, hO, h⟩ := h
  have hA : tA' X.K X.mg E ms σ H fun vs H1 => spM X.K X.mg n Fm vs H1 Q (E σ) := tA'.run (k := fun ds => if ds.length = n then Fm ds else M.bad) (R := fun r => PostD X.K X.mg μ H (E σ) r Q) hE hO h (fun _ _ _ z => z) (fun z => z) fun ds S1 hds h1 vs H1 μ1 s1 o1 e1 d1 => by
    by_cases hl : ds.length = n
    · rw [if_pos hl] at h1
      exact ⟨by rw [d1.length]; exact hl, ds, μ1, S1, d1, o1, PostD.of s1 h1⟩
    · rw [if_neg hl] at h1
      exact h1.elim
  refine wpAny_Call_Name_kw (ld_glob I hg hm ?_ hdb)
  refine W.callWith_K (h₀ := X.base) I.ok.mod.kin hk (thn (ha.run pos pins s σ H _ I hA) ?_) he hpl
  intro us s1 hz
  obtain ⟨vs, H1, I1, r, q⟩ := hz
  exact ⟨I1.kIn, F.called hG hr hb (hx σ) I1 r q⟩
/-- a local that holds a def -/
theorem me_local {tab : Tab} (i : Nat) (T : ∀ x n Fm, tab x = some (n, Fm) → Def X.prog X.w X.K X.mg X.base CX k x n Fm) (hG : X.A.guards = some []) (hr : Room k X.A) (hx : ∀ σ, PassesAt CX X σ (E σ)) (ha : MA X E (e :: es) ms) (hN : X.N[i]? = some x := by rfl)
    (hv : Vis X.env.scope x := by first | exact Or.inl rfl | exact Or.inr (Or.inl rfl) | exact Or.inr (Or.inr rfl)) (hdb : (x == ("__debug__" : Str)) = false := by decide) (hcd : (x == ("__classdict__" : Str)) = false := by decide)
    (he : starEach (e :: es) X.env = (false, eval e X.env) :: starEach es X.env := by rfl) (hpl : (backTo pos (starEach es X.env)).any (·.1) = false := by rfl) : ME X E (.Call (.Name x p) (e :: es) [] pos) (callV tab i ms) := by
  refine ⟨fun pins s σ H Q I h => ?_⟩
  obtain ⟨ρ, μ, S, hE, hO, h⟩ := h
  unfold callV M.bind var at h
  cases q : ρ[i]? with
  | none => rw [q] at h; exact h.elim
  | some o =>
    cases o with
    | none => rw [q] at h; exact h.elim
    | some d =>
      rw [q] at h
      cases d with
      | fn y =>
        dsimp only [M.pure] at h
        cases t : tab y with
        | none => rw [t] at h; exact h.elim
        | some z =>
          obtain ⟨n, Fm⟩ := z
          rw [t] at h
          obtain ⟨f, fd, ps, F, hm, hk, hb⟩ := (T y n Fm t).ex
          obtain ⟨v, hv', dv⟩ := hE.2 i _ q
          have hvf : v = .ref f := by
            cases dv with
            | fn h' => rw [hm] at h'; cases h'; rfl
          subst hvf
          refine wpAny_Call_Name_kw (thn ((pe_var (pos := p) hN hv hdb hcd).run pins s σ H (fun v H1 => v = .ref f ∧ H1 = H) I ⟨.ref f, hv', rfl, rfl⟩) fun u s1 ⟨v, H1, I1, r1, q1⟩ => ?_)
          obtain ⟨rfl, rfl⟩ := q1
          cases r1
          have h' : PostD X.K X.mg μ H1 (E σ) (M.bind (ms ρ) (fun ds => if ds.length = n then Fm ds else M.bad) S) Q := h
          have hA : tA' X.K X.mg E ms σ H1 fun vs H1 => spM X.K X.mg n Fm vs H1 Q (E σ) := tA'.run (k := fun ds => if ds.length = n then Fm ds else M.bad) (R := fun r => PostD X.K X.mg μ H1 (E σ) r Q) hE hO h' (fun _ _ _ z => z) (fun z => z) fun ds S1 hds h1 vs H1 μ1 s1 o1 e1 d1 => by
            by_cases hl : ds.length = n
            · rw [if_pos hl] at h1
              exact ⟨by rw [d1.length]; exact hl, ds, μ1, S1, d1, o1, PostD.of s1 h1⟩
            · rw [if_neg hl] at h1
              exact h1.elim
          refine W.callWith_K (h₀ := X.base) I.ok.mod.kin hk (thn (ha.run pos pins s1 σ _ _ I1 hA) fun us s2 ⟨vs, H2, I2, r, q⟩ => ⟨I2.kIn, F.called hG hr hb (hx σ) I2 r q⟩) he hpl
      | _ => exact h.elim
end
/-! ### a def's mirror: its body's -/
def SR.out (r : SR) : Res D := match r with
  | .nx _ S => .ok .non S
  | .rt d S => .ok d S
  | .exc _ c fs S => .exc c fs S
  | _ => .bad
/-- N: how many slots there are -/
def bodyM (N : Nat) (m : MSt) : List D → M D := fun ds S => (m (ds.map some ++ List.replicate (N - ds.length) none) S).out
theorem denL_env {K : W.Frag} {mg : Str → Option Value} {μ : Pl} {H : Hp} {vs : List V} {ds : List D} (h : DenL K mg μ H vs ds) (N : List Str) : EnvOk K mg μ H (L2.start N vs) (ds.map some ++ List.replicate (N.length - ds.length) none) := by
  have hl := h.length
  refine ⟨by simp [L2.start, hl], fun i d e => ?_⟩
  unfold L2.start
  by_cases hi : i < ds.length
  · rw [List.getElem?_append_left (by simpa using hi), List.getElem?_map] at e
    cases q : ds[i]? with
    | none => rw [q] at e; cases e
    | some d' =>
      rw [q] at e
      obtain rfl := Option.some.inj (Option.some.inj e)
      obtain ⟨v, hv, dv⟩ := h.get q
      exact ⟨v, by rw [List.getElem?_append_left (by simp; omega), List.getElem?_map, hv]; rfl, dv⟩
  · rw [List.getElem?_append_right (by simp; omega)] at e
    rw [List.getElem?_replicate] at e
    split at e <;> cases e
/-- a def of the text, by its body -/
theorem Def.of {CX : CXT} {P : Program} {w : World} {K : W.Frag} {mg : Str → Option Value} {base : Heap} {k : Nat} {f : Addr} {x qual : Str} {st : Stmt} {fd : FuncData} {N ps : List Str} {m : MSt} (F : Fun K x qual st f fd) (S : FnScope N ps (defScope st)) (hm : mg x = some (.ref f)) (hb : Binds K fd ps [])
    (h : ∀ (cdv : Value) (A : Around) (outer : List Env) (s : Shared) (H : Hp) (E : XK), (A.deeper (envOfC qual (defScope st) s.heap.objs.size f cdv)).guards = some [] → Room k (A.deeper (envOfC qual (defScope st) s.heap.objs.size f cdv)) →
      MSs (cxOf CX P w K mg base N qual (defScope st) f cdv A outer s H E) (fun _ => E) (defBody st) m) : Def P w K mg base CX (k + 1) x ps.length (bodyM N.length m) := by
  refine ⟨f, fd, ps, FnG.mk' F S (fun vs H Q E h => h.1) (fun cdv A outer s H vs Q E hG hr hs => ⟨_, h cdv A outer s H E hG hr, ?_⟩), hm, F.kp, hb⟩
  obtain ⟨hl, ds, μ, Sx, dd, ok, hp⟩ := hs
  refine ⟨_, μ, Sx, denL_env dd N, ok, ?_⟩
  unfold bodyM at hp
  cases r : m (ds.map some ++ List.replicate (N.length - ds.length) none) Sx with
  | nx ρ S' => rw [r] at hp; exact fun σ' H' μ' st o' _ => hp .non H' μ' st o' .non
  | rt d S' => rw [r] at hp; exact hp
  | bk ρ S' => rw [r] at hp; exact hp.elim
  | ct ρ S' => rw [r] at hp; exact hp.elim
  | exc ρ c fs S' => rw [r] at hp; exact fun σ' H' μ' st o' _ cls d x => hp cls d H' μ' st o' x
  | bad => rw [r] at hp; exact hp
theorem pass_0 {X : Cx} {E : L2.St → XK} : ∀ σ, PassesAt CX0 X σ (E σ) := fun _ _ _ _ _ _ _ h => h.elim
end PyM
set_option Elab.async false
set_option linter.all false
set_option maxRecDepth 100000
set_option maxHeartbeats 2000000
namespace PyM
open PySem PySem.Spec PyProof.Rows L2

/-! ### the mirror's words in short -/
def varM (i : Nat) : Env' → M D := fun ρ => var ρ i
def cM (d : D) : Env' → M D := fun _ => M.pure d
def ifV (t : Env' → M Bool) (a b : Env' → M D) : Env' → M D := fun ρ => M.bind (t ρ) fun k => if k = true then a ρ else b ρ
def cellM (ms : Env' → M (List D)) : Env' → M D := fun ρ => M.bind (ms ρ) newCell
def noP : Env' → M (Option Int) := fun _ => M.pure none
def opP (a : Env' → M D) : Env' → M (Option Int) := fun ρ => optI (a ρ)
def tV (a : Env' → M D) : Env' → M Bool := fun ρ => toB (a ρ)
def notT (a : Env' → M Bool) : Env' → M Bool := fun ρ => M.bind (a ρ) fun c => M.pure (!c)
def yesT : Env' → M Bool := fun _ => M.pure true
def nilM : Env' → M (List D) := fun _ => M.pure []
def consM (a : Env' → M D) (ms : Env' → M (List D)) : Env' → M (List D) := fun ρ => M.bind (a ρ) fun d => M.bind (ms ρ) fun ds => M.pure (d :: ds)
def seqI (a : Env' → M D) : Env' → M Src := fun ρ => M.bind (a ρ) srcA
def rngI1 (ms : Env' → M (List D)) : Env' → M Src := fun ρ => M.bind (ms ρ) srcR1
def rngI2 (ms : Env' → M (List D)) : Env' → M Src := fun ρ => M.bind (ms ρ) srcR2
def zipI (ms : Env' → M (List D)) : Env' → M Src := fun ρ => M.bind (ms ρ) srcZ
def retM (a : Env' → M D) : MSt := fun ρ S => SR.of (a ρ S) ρ fun d S' => .rt d S'
def retN : MSt := fun ρ S => .rt .non S
def exprM (a : Env' → M D) : MSt := fun ρ S => SR.of (a ρ S) ρ fun _ S' => .nx ρ S'
def ifM (t : Env' → M Bool) (m1 m2 : MSt) : MSt := fun ρ S => SR.of (t ρ S) ρ fun k S' => if k = true then m1 ρ S' else m2 ρ S'
def setM (i : Nat) (a : Env' → M D) : MSt := fun ρ S => SR.of (a ρ S) ρ fun d S' => .nx (ρ.set i (some d)) S'
def asgM (g : D → Env' → Option Env') (a : Env' → M D) : MSt := fun ρ S => SR.of (a ρ S) ρ fun d S' => SR.opt (g d ρ) S'
def parM (i j : Nat) (ms : Env' → M (List D)) : MSt := fun ρ S => SR.of (ms ρ S) ρ fun l S' => match l with
  | [d, d'] => .nx ((ρ.set i (some d)).set j (some d')) S'
  | _ => .bad
def putM (o i a : Env' → M D) : MSt := fun ρ S => SR.of (a ρ S) ρ fun d S1 => SR.of (o ρ S1) ρ fun o S2 => SR.of (i ρ S2) ρ fun i S3 => SR.put (setP S3 o i d) ρ
def seqM (m1 m2 : MSt) : MSt := fun ρ S => SR.bind (m1 ρ S) m2
def nilS : MSt := fun ρ S => .nx ρ S
def brkM : MSt := fun ρ S => .bk ρ S
def ctM : MSt := fun ρ S => .ct ρ S
def augM (o i a : Env' → M D) : MSt := fun ρ S => SR.of (o ρ S) ρ fun o S1 => SR.of (i ρ S1) ρ fun i S2 => SR.of (M.op2 ixP o i S2) ρ fun x S3 => SR.of (a ρ S3) ρ fun y S4 => match x, y with
  | .int x, .int y => SR.put (setP S4 o i (.int (x + y))) ρ
  | _, _ => .bad
section
variable {X : Cx} {E : L2.St → XK} {a b c e o : Expr} {es rest : List Expr} {ma mb mc mo mi me : Env' → M D} {ms : Env' → M (List D)} {ta tb : Env' → M Bool} {pos p cpos apos : Pos} {st : Stmt} {sts sa sb : List Stmt} {m m1 m2 : MSt} {tg iter : Expr} {src : Env' → M Src} {w : List Nat} {g : D → Env' → Option Env'}
theorem e_var (i : Nat) {x : Str} (hN : X.N[i]? = some x := by rfl) (hv : Vis X.env.scope x := by first | exact Or.inl rfl | exact Or.inr (Or.inl rfl) | exact Or.inr (Or.inr rfl)) (hd : (x == ("__debug__" : Str)) = false := by decide)
    (hcd : (x == ("__classdict__" : Str)) = false := by decide) : ME X E (.Name x pos) (varM i) := me_var i hN hv hd hcd
theorem e_int {i : Int} {j} : ME X E (.Constant (.int i) j pos) (cM (.int i)) := me_int
theorem e_bl {i : Bool} {j} : ME X E (.Constant (.bool i) j pos) (cM (.bl i)) := me_bl
theorem e_non {j} : ME X E (.Constant .none j pos) (cM .non) := me_non
theorem e_str {x : Str} {j} : ME X E (.Constant (.str x) j pos) (cM (.str x)) := me_str
theorem e_fn {CX : CXT} {k n : Nat} {x : Str} {Fm : List D → M D} (F : Def X.prog X.w X.K X.mg X.base CX k x n Fm) (hg : Gl X x := by rfl) (hd : (x == ("__debug__" : Str)) = false := by decide) : ME X E (.Name x pos) (cM (.fn x)) := by
  obtain ⟨f, fd, ps, _, hm, _⟩ := F.ex
  exact me_fn hm hg hd
/-- a global that is a constant -/
def Con (K : W.Frag) (mg : Str → Option Value) (x : Str) (d : D) : Prop := ∃ (v : V) (u : Value), mg x = some u ∧ RelV v u ∧ ∀ μ H, Den K mg μ H v d
theorem e_con {x : Str} {d : D} (C : Con X.K X.mg x d) (hg : Gl X x := by rfl) (hd : (x == ("__debug__" : Str)) = false := by decide) : ME X E (.Name x pos) (cM d) := by
  obtain ⟨v, u, hm, r, h⟩ := C
  exact me_glob hm r h hg hd
theorem e_ty {T : String} {x : Str} (hm : X.mg x = none) (hv : bootBuiltins x = some (.type T)) (hg : Gl X x := by rfl) (hn : x ≠ "__name__" := by decide) (hd : (x == ("__debug__" : Str)) = false := by decide) : ME X E (.Name x pos) (cM (.ty T)) := me_ty hm hv hg hn hd
theorem e_if (hc : MT X E c ta) (ha : ME X E a ma) (hb : ME X E b mb) : ME X E (.IfExp c a b pos) (ifV ta ma mb) := me_if hc ha hb
theorem e_cell (h : MA X E es ms) : ME X E (.List es pos) (cellM ms) := me_cell h
theorem o_none : MO X E none noP := mo_none
theorem o_some (ha : ME X E a ma) : MO X E (some a) (opP ma) := mo_some ha
theorem t_val (h : ME X E e ma) (he : ∀ whole, isTrue e X.env whole = (do let v ← whole; standAt e.pos; holding [v] (truthy v)) := by intro _; rfl) : MT X E e (tV ma) := mt_val h he
theorem t_cmp {op : CmpOp} {f : Store → D → D → Option D} (hr : OpR X (compareOp op) (rP2 X.K X.mg f)) (ha : ME X E a ma) (hb : ME X E b mb) (hm : behindInMarks op b = false := by rfl) : MT X E (.Compare a [op] [b] pos) (tV (bin2 f ma mb)) := mt_cmp hr ha hb hm
theorem t_chain {op op' : CmpOp} {f g : Store → D → D → Option D} (hr : OpR X (compareOp op) (rP2 X.K X.mg f)) (hr' : OpR X (compareOp op') (rP2 X.K X.mg g)) (ha : ME X E a ma) (hb : ME X E b mb) (hc : ME X E c mc)
    (hm : lastMarks [op, op'] [b, c] = false := by with_unfolding_all rfl) : MT X E (.Compare a [op, op'] [b, c] pos) (tV (chain2 f g ma mb mc)) := mt_chain hr hr' ha hb hc hm
theorem t_not (ha : MT X E a ta) : MT X E (.UnaryOp .Not a pos) (notT ta) := mt_not ha
theorem a_nil : MA X E [] nilM := ma_nil
theorem a_cons (ha : ME X E a ma) (hr : MA X E es ms) (hs : starEach (a :: es) X.env = (false, eval a X.env) :: starEach es X.env := by rfl) : MA X E (a :: es) (consM ma ms) := ma_cons ha hr hs
theorem i_seq (ha : ME X E a ma) : MI X E tg a (seqI ma) := mi_seq ha
theorem i_rng1 (ha : MA X E [a] ms) (hm : X.mg "range" = none) (hg : Gl X "range" := by rfl) (hs : starEach [a] X.env = [(false, eval a X.env)] := by rfl) : MI X E tg (.Call (.Name "range" p) [a] [] pos) (rngI1 ms) := mi_range1 ha hm hg hs
theorem i_rng2 (ha : MA X E [a, b] ms) (hm : X.mg "range" = none) (hg : Gl X "range" := by rfl) (hs : starEach [a, b] X.env = [(false, eval a X.env), (false, eval b X.env)] := by rfl) (hs2 : starEach [b] X.env = [(false, eval b X.env)] := by rfl) :
    MI X E tg (.Call (.Name "range" p) [a, b] [] pos) (rngI2 ms) := mi_range2 ha hm hg hs hs2
theorem i_zip {elts : List Expr} {kk : Nat} {tpos : Pos} (ha : MA X E [a, b] ms) (hm : X.mg "zip" = none) (hg : Gl X "zip" := by rfl) (hs : starEach [a, b] X.env = (false, eval a X.env) :: starEach [b] X.env := by rfl) (hpl : (backTo pos (starEach [b] X.env)).any (·.1) = false := by rfl) :
    MI X E (.Tuple elts kk tpos) (.Call (.Name "zip" p) [a, b] [] pos) (zipI ms) := mi_zip ha hm hg hs hpl
theorem ts_nil : MTs X E [] yesT := mts_nil
theorem s_ret (he : ME X E e ma) : MS X E (.Return (some e) pos) (retM ma) := ms_ret he
theorem s_retN : MS X E (.Return none pos) retN := ms_retN
theorem s_expr (he : ME X E e ma) (hs : swapsWith e none pos.line X.env = pure false := by rfl) : MS X E (.Expr e pos) (exprM ma) := ms_expr he hs
theorem s_if (hc : MT X E c ta) (ha : MSs X E sa m1) (hb : MSs X E sb m2) : MS X E (.If c sa sb pos) (ifM ta m1 m2) := ms_if hc ha hb
theorem s_set (i : Nat) {x : Str} {pos' : Pos} (hN : X.N.Nodup) (he : ME X E e ma) (hi : X.N[i]? = some x := by rfl) (hx : Loc X.env.scope x := by first | exact Or.inl rfl | exact Or.inr rfl) (hs : swapsWith e (some (.Name x pos')) pos.line X.env = pure false := by rfl)
    (hf : X.fn x = true ∨ X.env.scope.names.lookup x = some .local := by first | exact .inl rfl | exact .inr rfl) : MS X E (.Assign [.Name x pos'] e pos) (setM i ma) := ms_set i hN he hi hx hs hf
theorem s_asg (he : ME X E e ma) (hg : MG X tg w g) (hs : swapsWithSole [tg] e pos.line X.env = pure false := by rfl) (hw : swappedStores [tg] e X.env = pure none := by rfl)
    (h1 : (assignEach [tg] X.env).map (·.2) = [assign tg X.env] := by rfl) : MS X E (.Assign [tg] e pos) (asgM g ma) := ms_asg he hg hs hw h1
theorem s_par (i j : Nat) {x y : Str} {px py pt : Pos} {kt k2 pt2} (hc : X.calm = true) (hN : X.N.Nodup) (ha : MA X E [a, b] ms) (hi : X.N[i]? = some x := by rfl) (hj : X.N[j]? = some y := by rfl) (hij : i ≠ j := by decide)
    (hx : X.env.scope.names.lookup x = some .local := by rfl) (hy : X.env.scope.names.lookup y = some .local := by rfl)
    (hw : swappedStores [.Tuple [.Name x px, .Name y py] kt pt] (.Tuple [a, b] k2 pt2) X.env = pure (some [x, y]) := by rfl)
    (hs : swapsWithSole [.Tuple [.Name x px, .Name y py] kt pt] (.Tuple [a, b] k2 pt2) pos.line X.env = pure false := by rfl) :
    MS X E (.Assign [.Tuple [.Name x px, .Name y py] kt pt] (.Tuple [a, b] k2 pt2) pos) (parM i j ms) := ms_par i j hc hN ha hi hj hij hx hy hw hs
theorem s_put {pos' : Pos} (ho : ME X E a mo) (hi : ME X E b mi) (he : ME X E e ma) (hs : swapsWithSole [.Subscript a b pos'] e pos.line X.env = pure false := by rfl) (hw : swappedStores [.Subscript a b pos'] e X.env = pure none := by rfl)
    (h1 : (assignEach [.Subscript a b pos'] X.env).map (·.2) = [assign (.Subscript a b pos') X.env] := by rfl)
    (hh : ∀ v, assign (.Subscript a b pos') X.env v = (do
      let ov ← holding [v] (eval a X.env)
      let iv ← holding [v, ov] (eval b X.env)
      standAt pos'
      holding [v, ov, iv] (setItem ov iv v)
      release [v, ov, iv] []) := by intro _; rfl) : MS X E (.Assign [.Subscript a b pos'] e pos) (putM mo mi ma) := ms_setsub ho hi he hs hw h1 hh
theorem s_nil : MSs X E [] nilS := mss_nil
theorem s_cons (h1 : MS X E st m1) (h2 : MSs X E sts m2) : MSs X E (st :: sts) (seqM m1 m2) := mss_cons h1 h2
theorem s_one (h1 : MS X E st m1) : MSs X E [st] m1 := mss_one h1
theorem s_break : MS X E (.Break pos) brkM := ms_break
theorem s_cont : MS X E (.Continue pos) ctM := ms_cont
/-- xs[i], by values, where no slice is -/
theorem get_ix : PGet X (rP2 X.K X.mg ixP) := by
  intro pins s σ H o i ov iv Q I ro ri h
  obtain ⟨μ, S, a, k, d, ok, da, dk, e, q⟩ := h
  unfold ixP at e
  split at e
  · split at e
    · rename_i z i hz
      cases da
      cases dk
      obtain ⟨t, rfl⟩ := ro
      obtain ⟨t', rfl⟩ := ri
      cases q' : atI z.cps.toList i with
      | none => rw [q'] at e; cases e
      | some c =>
        rw [q'] at e
        obtain rfl := Option.some.inj e
        obtain ⟨j, h1, h2, h3, h4, h5⟩ := atI_get q'
        have hl : z.cps.toList.length = z.length := by simp [Str.length]
        rw [hl] at h1 h4 h5
        have hn := line63
        exact getItem_str (c := c) (by
          have e1 : decide (i < -(2 ^ 63 : Int)) = false := decide_eq_false (by omega)
          have e2 : decide (i ≥ 2 ^ 63) = false := decide_eq_false (by omega)
          rw [e1, e2, Bool.or_false]) (by rw [h1]; simpa using h2) ⟨.str ⟨#[c]⟩, H, I.tok _, ⟨_, rfl⟩, q _ _ .refl ok (.str _)⟩
    · cases e
  · split at e
    · rename_i i _ _ ds hq
      cases dk
      obtain ⟨p, vs, rfl, hq, hd⟩ := asA_den ok da hq
      obtain ⟨w, hw, dw⟩ := atI_den hd e
      cases ro
      obtain ⟨t, rfl⟩ := ri
      obtain ⟨j, h1, h2, h3, h4, h5⟩ := atI_get hw
      have hn := line63
      rcases hq with hq | hq
      · obtain ⟨its, r, pl, hz⟩ := I.list hq
        obtain ⟨u, eu, ru⟩ := r.get h2
        have hl := r.length
        have fin : EP X pins σ Q u s := ⟨w, H, I, ru, q _ _ .refl ok dw⟩
        by_cases h0 : 0 ≤ i
        · have hj : i.toNat = j := by
            rw [seqIndex_of h0 h5] at h1
            exact Option.some.inj h1
          exact wpAny_getItem_list pl.isList h0 (by omega) (by rw [hj]; simpa using eu) fin
        · have hj : (i + (its.toArray.size : Int)).toNat = j := by
            rw [seqIndex_neg (by omega) h4] at h1
            rw [List.size_toArray, ← hl]
            exact Option.some.inj h1
          exact wpAny_getItem_list_neg pl.isList (by omega) (by rw [List.size_toArray] <;> omega) (by omega) (by rw [hj]; simpa using eu) fin
      · obtain ⟨its, r, pl, hz⟩ := I.tuple hq
        obtain ⟨u, eu, ru⟩ := r.get h2
        have hl := r.length
        exact getItem_tuple (j := j) pl (by omega) (by omega) (by rw [List.size_toArray, ← hl]; exact h1) (by simpa using eu) ⟨w, H, I, ru, q _ _ .refl ok dw⟩
    · cases e
  · cases e
theorem s_aug {tpos : Pos} (ho : ME X E o mo) (hi : ME X E b mi) (he : ME X E e ma) (hh : ∀ ov iv new, augStore b ov iv new = (do holding [new, ov, iv] (setItem ov iv new); release [new, ov, iv] []; pure .next) := by intros; rfl) :
    MS X E (.AugAssign (.Subscript o b tpos) .Add e pos) (augM mo mi ma) := (ps_augS ho hi get_ix he ip_add r_set hh).weak fun D σ H h => by
  obtain ⟨ρ, μ, S, hE, hO, h0⟩ := h
  refine tE.runS hE hO h0 fun oo S1 _ h1 v H1 μ1 s1 o1 e1 d1 => ?_
  refine tE.runS e1 o1 (PostS.of s1 h1) fun ii S2 _ h2 w H2 μ2 s2 o2 e2 d2 => ?_
  have h3 := PostS.of s2 h2
  clear h2 h1 h0
  unfold SR.of M.op2 at h3
  cases q : ixP S2 oo ii with
  | none => rw [q] at h3; exact h3.elim
  | some x =>
    rw [q] at h3
    dsimp only at h3
    refine ⟨μ2, S2, oo, ii, x, o2, d1.mono o1 s2, d2, q, fun v' H3 st3 o3 d3 => ?_⟩
    have h4 := PostS.of st3 h3
    have e3 := e2.mono o2 st3
    clear h3
    refine tE.runS e3 o3 h4 fun y S4 _ h5 z H4 μ4 s4 o4 e4 d4 => ?_
    clear h4
    have h6 := PostS.of s4 h5
    clear h5
    cases d3 with
    | int xi =>
      cases d4 with
      | int yi =>
        refine ⟨xi, yi, rfl, rfl, ?_⟩
        dsimp only at h6
        unfold SR.put at h6
        cases qs : setP S4 oo ii (.int (xi + yi)) with
        | none => rw [qs] at h6; exact h6.elim
        | some S5 =>
          rw [qs] at h6
          exact ⟨μ4, S4, oo, ii, _, S5, o4, ((d1.mono o1 s2).mono o2 st3).mono o3 s4, (d2.mono o2 st3).mono o3 s4, .int _, qs, fun H' st o' => h6 σ H' μ4 st o' (e4.mono o4 st)⟩
      | _ => exact h6.elim
    | _ => exact h6.elim
end
/-! ### all -/
def blsOf : List D → Option (List Bool)
  | [] => some []
  | .bl b :: ds => (blsOf ds).map (b :: ·)
  | _ :: _ => none
def allP (S : Store) : List D → Option D
  | [d] => match asS S d with
    | some ds => (blsOf ds).map fun bs => .bl (bs.all id)
    | none => none
  | _ => none
theorem blsOf_den {K : W.Frag} {mg : Str → Option Value} {μ : Pl} {H : Hp} : ∀ {vs : List V} {ds : List D} {bs : List Bool}, DenL K mg μ H vs ds → blsOf ds = some bs → vs = bs.map V.bl
  | _, _, _, .nil, e => by simp [blsOf] at e; subst e; rfl
  | _, d :: ds, _, .cons h t, e => by
    cases h <;> simp [blsOf] at e
    obtain ⟨bs, e, rfl⟩ := e
    rw [blsOf_den t e]
    rfl
theorem c_all {X : Cx} (hc : X.calm = true) : CallR X (.builtin "all") (rPL X.K X.mg allP) := by
  intro pins s σ H xs us Q I r h
  obtain ⟨μ, S, ds, d, o, dl, e, k⟩ := h
  unfold allP at e
  split at e
  · split at e
    · rename_i es q
      cases hb : blsOf es with
      | none => rw [hb] at e; cases e
      | some bs =>
        rw [hb] at e
        obtain rfl := Option.some.inj e
        obtain ⟨v, rfl, dv⟩ := den1 dl
        obtain ⟨p, vs, rfl, h1, h2⟩ := asS_den o dv q
        obtain rfl := blsOf_den h2 hb
        exact cr_all hc pins s σ H _ us Q I r ⟨p, bs, rfl, h1, k _ _ .refl o (.bl _)⟩
    · cases e
  · cases e
end PyM
set_option Elab.async false
set_option linter.all false
set_option maxRecDepth 100000
set_option maxHeartbeats 2000000
namespace PyM
open PySem PySem.Spec PyProof.Rows L2

section
variable {X : Cx} {E : L2.St → XK} {a b e : Expr} {es : List Expr} {ma mb mo mi : Env' → M D} {ms : Env' → M (List D)} {mt : Env' → M Bool} {pos p spos : Pos} {tg : Expr}
/-- name = [..] on one line -/
theorem s_setlc (i : Nat) {y : Str} {py : Pos} {elt iter : Expr} {ifs : List Expr} {scope : Scope} {mi : Env' → M Src} {w : List Nat} {g : D → Env' → Option Env'} {me : Env' → M D} (own : List (Str × Nat)) (hc : X.calm = true) (hN : X.N.Nodup) (hi : MI X E tg iter mi) (ok : BlkOk X.N X.env.scope scope own)
    (hg : ∀ (s : Shared) (H : Hp) (C : Addr) (cl : List (Str × Addr)) (fp : List Addr), MG (X.blk s H scope (compEnvC scope cl C X.env) fp) tg w g) (ht : ∀ (s : Shared) (H : Hp) (C : Addr) (cl : List (Str × Addr)) (fp : List Addr), MTs (X.blk s H scope (compEnvC scope cl C X.env) fp) EB ifs mt)
    (he : ∀ (s : Shared) (H : Hp) (C : Addr) (cl : List (Str × Addr)) (fp : List Addr), ME (X.blk s H scope (compEnvC scope cl C X.env) fp) EB elt me) (hw : ∀ i ∈ w, i ∈ own.map (·.2) := by decide) (hs : ∀ x, foldedSetIterable iter X.env x = pure x := by intro _; rfl)
    (hy : X.N[i]? = some y := by rfl) (hyl : X.env.scope.names.lookup y = some .local := by rfl) (hk : X.env.scope.kind = .function := by rfl) (hl : (py.line == pos.line) = true := by rfl) (ha : (scope.names.any fun (n, k) => n == y && (k == .local || k == .cell)) = false := by decide +kernel) :
    MS X E (.Assign [.Name y py] (.ListComp elt [⟨tg, iter, ifs, 0⟩] scope pos) spos) (setM i (lcM mi g mt me (own.map (·.2)))) :=
  (ps_setLc (i := i) (wi := tI X.K X.mg E mi) (g := tG X.K X.mg w g) (tt := tB' X.K X.mg EB mt) (te := tE X.K X.mg EB me) hc hN hy hyl (sw_true hk hyl hl ha) hi ok hg ht he hs).weak fun D σ H h => by
  obtain ⟨ρ, μ, S, hE, ho, h⟩ := h
  unfold setM SR.of lcM M.bind at h
  have z := lc_read (E := E) (g := g) (mt := mt) (me := me) (mi := mi) (K := X.K) (mg := X.mg) (σ := σ) (H := H) (Q := fun x H1 => D.nx (σ.set i (some x)) H1) hw hE ho (fun c fs S' e => by
    rw [e] at h
    exact PostS.xp hE ho h) (fun e => by rw [e] at h; exact h) (fun ys S' e Dn H' μ' zs st o' hD n1 n2 hz => by
    rw [e] at h
    exact h _ H' μ' st o' ((hE.mono ho st).set i (.lst hD n1 n2 hz)))
  exact z
end
/-! ### dicts that are cells, their keys ints and texts -/
def keyOf : D → Option Key
  | .int i => some (.inl i)
  | .str x => some (.inr x)
  | _ => none
def valD (kvs : List (Key × D)) (k : Key) : Option D := (kvs.find? fun kv => decide (kv.1 = k)).map (·.2)
def cellD (S : Store) (a : D) : Option (Nat × List (Key × D)) := match a with
  | .loc n => match S[n]? with
    | some (.dct kvs) => some (n, kvs)
    | _ => none
  | _ => none
def dgetP (S : Store) (a i : D) : Option D := match cellD S a, keyOf i with
  | some (_, kvs), some k => valD kvs k
  | _, _ => none
def dinP (S : Store) (i a : D) : Option D := match cellD S a, keyOf i with
  | some (_, kvs), some k => some (.bl (valD kvs k).isSome)
  | _, _ => none
def dninP (S : Store) (i a : D) : Option D := match cellD S a, keyOf i with
  | some (_, kvs), some k => some (.bl (!(valD kvs k).isSome))
  | _, _ => none
section
variable {K : W.Frag} {mg : Str → Option Value} {μ : Pl} {H : Hp} {S : Store}
theorem key_den {v : V} {d : D} {k : Key} (h : Den K mg μ H v d) (e : keyOf d = some k) : v = kV k := by
  cases h <;> simp [keyOf] at e <;> subst e <;> rfl
theorem cellD_den {v : V} {a : D} {n : Nat} {kvs : List (Key × D)} (o : Ok K mg μ H S) (h : Den K mg μ H v a) (e : cellD S a = some (n, kvs)) : ∃ (p : Addr) (ws : List (Key × V)), a = .loc n ∧ v = .ref p ∧ μ.c[n]? = some p ∧ H p = some (.dK ws) ∧ ws.map (·.1) = kvs.map (·.1) ∧ DenL K mg μ H (ws.map (·.2)) (kvs.map (·.2)) := by
  unfold cellD at e
  split at e
  · rename_i m
    split at e
    · rename_i xs q
      injection e with e
      injection e with e1 e2
      subst e1 e2
      cases h with
      | loc h =>
        obtain ⟨vs, h1, h2, h3⟩ := o.at_ _ _ _ h q
        exact ⟨_, vs, rfl, rfl, h, h1, h2, h3⟩
    · cases e
  · cases e
theorem val_den {k : Key} : ∀ {ws : List (Key × V)} {kvs : List (Key × D)}, ws.map (·.1) = kvs.map (·.1) → DenL K mg μ H (ws.map (·.2)) (kvs.map (·.2)) → (valV ws k = none ∧ valD kvs k = none) ∨ ∃ v d, valV ws k = some v ∧ valD kvs k = some d ∧ Den K mg μ H v d
  | [], [], _, _ => .inl ⟨rfl, rfl⟩
  | [], _ :: _, e, _ => by cases e
  | _ :: _, [], e, _ => by cases e
  | w :: ws, kv :: kvs, e, h => by
    rw [List.map_cons, List.map_cons] at e h
    injection e with e1 e2
    cases h with
    | cons h1 h2 =>
      by_cases hk : w.1 = k
      · refine .inr ⟨w.2, kv.2, valV_pos hk, ?_, h1⟩
        unfold valD
        rw [List.find?_cons_of_pos (by rw [← e1]; exact decide_eq_true hk)]
        rfl
      · rw [valV_neg hk]
        have e3 : valD (kv :: kvs) k = valD kvs k := by
          unfold valD
          rw [List.find?_cons_of_neg (by rw [← e1]; simpa using hk)]
        rw [e3]
        exact val_den e2 h2
end
section
variable {X : Cx} {E : L2.St → XK} {a b e : Expr} {es : List Expr} {ma mb mo mi : Env' → M D} {ms : Env' → M (List D)} {pos p : Pos}
theorem r_din (hu : X.A.units + 1 < cLine) : OpR X (compareOp .In) (rP2 X.K X.mg dinP) := by
  intro pins s σ H x y v u Q I rx ry h
  obtain ⟨μ, S, i, a, d, o, di, da, e, k⟩ := h
  unfold dinP at e
  split at e
  · rename_i n kvs key q1 q2
    obtain rfl := Option.some.inj e
    obtain ⟨p, ws, rfl, rfl, hn, hp, h1, h2⟩ := cellD_den o da q1
    obtain rfl := key_den di q2
    cases ry
    refine d_in hu I (.k hp) rx fun s' I' => ⟨.bl (valV ws key).isSome, H, I', rfl, ?_⟩
    rcases val_den (k := key) h1 h2 with ⟨z1, z2⟩ | ⟨w, d, z1, z2, _⟩
    · rw [z1]; rw [z2] at k; exact k _ _ .refl o (.bl _)
    · rw [z1]; rw [z2] at k; exact k _ _ .refl o (.bl _)
  · cases e
theorem r_dnin (hu : X.A.units + 1 < cLine) : OpR X (compareOp .NotIn) (rP2 X.K X.mg dninP) := by
  intro pins s σ H x y v u Q I rx ry h
  obtain ⟨μ, S, i, a, d, o, di, da, e, k⟩ := h
  unfold dninP at e
  split at e
  · rename_i n kvs key q1 q2
    obtain rfl := Option.some.inj e
    obtain ⟨p, ws, rfl, rfl, hn, hp, h1, h2⟩ := cellD_den o da q1
    obtain rfl := key_den di q2
    cases ry
    refine d_notIn hu I (.k hp) rx fun s' I' => ⟨.bl (!(valV ws key).isSome), H, I', rfl, ?_⟩
    rcases val_den (k := key) h1 h2 with ⟨z1, z2⟩ | ⟨w, d, z1, z2, _⟩
    · rw [z1]; rw [z2] at k; exact k _ _ .refl o (.bl _)
    · rw [z1]; rw [z2] at k; exact k _ _ .refl o (.bl _)
  · cases e
theorem e_dget (hu : X.A.units + 1 < cLine) (ha : ME X E a ma) (hb : ME X E b mb) (hs : NoSl b := by intro _ _; rfl) : ME X E (.Subscript a b pos) (bin2 dgetP ma mb) := (pe_dget hu ha hb hs).weak fun σ H Q h => by
  obtain ⟨ρ, μ, S, he, ho, h⟩ := h
  refine tE.run (k := fun x => M.bind (mb ρ) fun y => M.op2 dgetP x y) (R := fun r => PostD X.K X.mg μ H (E σ) r Q) he ho h (fun _ _ _ z => z) (fun z => z) fun x S1 _ h1 v H1 μ1 s1 o1 e1 d1 => ?_
  refine tE.run (k := fun y => M.op2 dgetP x y) (R := fun r => PostD X.K X.mg μ1 H1 (E σ) r Q) e1 o1 (PostD.of s1 h1) (fun _ _ _ z => z) (fun z => z) fun y S2 _ h2 w H2 μ2 s2 o2 e2 d2 => ?_
  unfold M.op2 at h2
  cases q : dgetP S2 x y with
  | none => rw [q] at h2; exact h2.elim
  | some d =>
    rw [q] at h2
    unfold dgetP at q
    split at q
    · rename_i n kvs key q1 q2
      obtain ⟨p, ws, rfl, rfl, hn, hp, z1, z2⟩ := cellD_den o2 (d1.mono o1 s2) q1
      obtain rfl := key_den d2 q2
      rcases val_den (k := key) z1 z2 with ⟨_, z4⟩ | ⟨v', d', z3, z4, z5⟩
      · rw [z4] at q; cases q
      · rw [z4] at q
        obtain rfl := Option.some.inj q
        exact ⟨p, v', rfl, by rw [← z3]; exact .k hp, PostD.of s2 h2 v' H2 μ2 .refl o2 z5⟩
    · cases q
/-! displays -/
def putD (kvs : List (Key × D)) (k : Key) (v : D) : List (Key × D) := if (kvs.any fun kv => decide (kv.1 = k)) = true then kvs.map (fun kv => if kv.1 = k then (kv.1, v) else kv) else kvs ++ [(k, v)]
def mergeD (kvs more : List (Key × D)) : List (Key × D) := more.foldl (fun acc kv => putD acc kv.1 kv.2) kvs
end
end PyM
set_option Elab.async false
set_option linter.all false
set_option maxRecDepth 100000
set_option maxHeartbeats 2000000
namespace PyM
open PySem PySem.Spec PyProof.Rows L2

theorem ty_list_insert : typeOf (.builtin "list.insert") = pure (.type "method_descriptor") := by show builtinType _ = _; rw [builtinType_eq_fast]; kernel_rfl
/-! ### dict displays -/
def keysD : List (D × D) → Option (List (Key × D))
  | [] => some []
  | (k, v) :: r => match keyOf k, keysD r with
    | some k, some r => some ((k, v) :: r)
    | _, _ => none
def newDict (kvs : List (Key × D)) : M D := fun S => .ok (.loc S.length) (S ++ [.dct kvs])
def nilP : Env' → M (List (D × D)) := fun _ => M.pure []
def consP (a c : Env' → M D) (m : Env' → M (List (D × D))) : Env' → M (List (D × D)) := fun ρ => M.bind (a ρ) fun k => M.bind (c ρ) fun v => M.bind (m ρ) fun r => M.pure ((k, v) :: r)
def dispM (m : Env' → M (List (D × D))) : Env' → M D := fun ρ => M.bind (m ρ) fun ps => match keysD ps with
  | some kvs => if kvs.length ≤ 15 then newDict (mergeD [] kvs) else M.bad
  | none => M.bad
section
variable {K : W.Frag} {mg : Str → Option Value}
abbrev DenP (K : W.Frag) (mg : Str → Option Value) (μ : Pl) (H : Hp) (vs : List (V × V)) (ps : List (D × D)) : Prop := DenL K mg μ H (vs.map (·.1)) (ps.map (·.1)) ∧ DenL K mg μ H (vs.map (·.2)) (ps.map (·.2))
def PostP (K : W.Frag) (mg : Str → Option Value) (μ : Pl) (H : Hp) (E : XK) (r : Res (List (D × D))) (Q : List (V × V) → Hp → Prop) : Prop := match r with
  | .ok ps S' => ∀ vs H' μ', Step μ μ' H H' → Ok K mg μ' H' S' → DenP K mg μ' H' vs ps → Q vs H'
  | .exc c fs S' => XP K mg μ H E c fs S'
  | .bad => False
theorem PostP.of {μ μ' : Pl} {H H' : Hp} {E : XK} {r : Res (List (D × D))} {Q : List (V × V) → Hp → Prop} (st : Step μ μ' H H') (h : PostP K mg μ H E r Q) : PostP K mg μ' H' E r Q := by
  cases r with
  | ok d S' => exact fun v H2 μ2 s2 o2 x => h v H2 μ2 (st.trans s2) o2 x
  | exc c fs S' => exact XP.of st h
  | bad => exact h
theorem keys_den {μ : Pl} {H : Hp} : ∀ {vs : List (V × V)} {ps : List (D × D)} {kvs : List (Key × D)}, DenP K mg μ H vs ps → keysD ps = some kvs →
    ∃ ws : List (Key × V), vs = ws.map (fun kv => (kV kv.1, kv.2)) ∧ ws.map (·.1) = kvs.map (·.1) ∧ DenL K mg μ H (ws.map (·.2)) (kvs.map (·.2))
  | [], [], _, _, e => by
    obtain rfl := Option.some.inj e
    exact ⟨[], rfl, rfl, .nil⟩
  | [], _ :: _, _, h, _ => by cases h.1
  | _ :: _, [], _, h, _ => by cases h.1
  | (v1, v2) :: vs, (k, d) :: ps, kvs, ⟨h1, h2⟩, e => by
    cases h1 with
    | cons a1 a2 =>
      cases h2 with
      | cons b1 b2 =>
        unfold keysD at e
        cases q1 : keyOf k with
        | none => rw [q1] at e; cases e
        | some key =>
          cases q2 : keysD ps with
          | none => rw [q1, q2] at e; cases e
          | some r =>
            rw [q1, q2] at e
            obtain rfl := Option.some.inj e
            obtain ⟨ws, e1, e2, e3⟩ := keys_den ⟨a2, b2⟩ q2
            have e4 : v1 = kV key := key_den a1 q1
            exact ⟨(key, v2) :: ws, by rw [e1, e4]; rfl, by simp [e2], .cons b1 e3⟩
theorem any_keys (k : Key) : ∀ {ws : List (Key × V)} {kvs : List (Key × D)}, ws.map (·.1) = kvs.map (·.1) → (ws.any fun kv => decide (kv.1 = k)) = (kvs.any fun kv => decide (kv.1 = k))
  | [], [], _ => rfl
  | [], _ :: _, e => by cases e
  | _ :: _, [], e => by cases e
  | w :: ws, v :: kvs, e => by
    rw [List.map_cons, List.map_cons] at e
    injection e with e1 e2
    rw [List.any_cons, List.any_cons, e1, any_keys k e2]
theorem put_den {μ : Pl} {H : Hp} {k : Key} {v : V} {d : D} (hd : Den K mg μ H v d) {ws : List (Key × V)} {kvs : List (Key × D)} (e : ws.map (·.1) = kvs.map (·.1)) (h : DenL K mg μ H (ws.map (·.2)) (kvs.map (·.2))) :
    (putK ws k v).map (·.1) = (putD kvs k d).map (·.1) ∧ DenL K mg μ H ((putK ws k v).map (·.2)) ((putD kvs k d).map (·.2)) := by
  unfold putK putD
  rw [any_keys k e]
  split
  · rename_i hany
    clear hany
    induction ws generalizing kvs with
    | nil =>
      cases kvs with
      | nil => exact ⟨rfl, .nil⟩
      | cons _ _ => cases e
    | cons w ws ih =>
      cases kvs with
      | nil => cases e
      | cons kv kvs =>
        rw [List.map_cons, List.map_cons] at e h
        injection e with e1 e2
        cases h with
        | cons h1 h2 =>
          obtain ⟨i1, i2⟩ := ih e2 h2
          by_cases hk : w.1 = k
          · have hk' : kv.1 = k := by rw [← e1]; exact hk
            simp only [List.map_cons, if_pos hk, if_pos hk', e1]
            exact ⟨by simpa using i1, .cons hd i2⟩
          · have hk' : ¬ kv.1 = k := by rw [← e1]; exact hk
            simp only [List.map_cons, if_neg hk, if_neg hk', e1]
            exact ⟨by simpa using i1, .cons h1 i2⟩
  · simp only [List.map_append, List.map_cons, List.map_nil]
    exact ⟨by rw [e], h.append (.cons hd .nil)⟩
theorem merge_den {μ : Pl} {H : Hp} : ∀ {more : List (Key × V)} {mored : List (Key × D)} {ws : List (Key × V)} {kvs : List (Key × D)}, more.map (·.1) = mored.map (·.1) → DenL K mg μ H (more.map (·.2)) (mored.map (·.2)) → ws.map (·.1) = kvs.map (·.1) → DenL K mg μ H (ws.map (·.2)) (kvs.map (·.2)) →
    (mergeK ws more).map (·.1) = (mergeD kvs mored).map (·.1) ∧ DenL K mg μ H ((mergeK ws more).map (·.2)) ((mergeD kvs mored).map (·.2))
  | [], [], _, _, _, _, e, h => ⟨e, h⟩
  | [], _ :: _, _, _, e, _, _, _ => by cases e
  | _ :: _, [], _, _, e, _, _, _ => by cases e
  | m :: more, n :: mored, ws, kvs, e1, h1, e2, h2 => by
    rw [List.map_cons, List.map_cons] at e1 h1
    injection e1 with e11 e12
    cases h1 with
    | cons a b =>
      obtain ⟨p1, p2⟩ := put_den (k := m.1) a e2 h2
      have := merge_den (ws := putK ws m.1 m.2) (kvs := putD kvs n.1 n.2) e12 b (by rw [← e11]; exact p1) (by rw [← e11]; exact p2)
      exact this
end
/-- the pairs of a display -/
structure MP (X : Cx) (E : L2.St → XK) (pos : Pos) (keys : List (Option Expr)) (values : List Expr) (m : Env' → M (List (D × D))) : Prop where
  ex : ∃ trs, PPs X pos keys values trs ∧ ∀ σ H Q ρ μ S, EnvOk X.K X.mg μ H σ ρ → Ok X.K X.mg μ H S → PostP X.K X.mg μ H (E σ) (m ρ S) Q → tPairs trs σ H Q
section
variable {X : Cx} {E : L2.St → XK} {a b e : Expr} {ma mb : Env' → M D} {m : Env' → M (List (D × D))} {pos p : Pos} {keys : List (Option Expr)} {values : List Expr}
theorem p_nil : MP X E pos [] [] nilP := ⟨[], pps_nil, fun σ H Q ρ μ S he ho h => h [] H μ .refl ho ⟨.nil, .nil⟩⟩
theorem p_cons (ha : ME X E a ma) (hb : ME X E b mb) (hr : MP X E pos keys values m) : MP X E pos (some a :: keys) (b :: values) (consP ma mb m) := by
  obtain ⟨trs, hp, ht⟩ := hr.ex
  refine ⟨_ :: trs, pps_cons ha hb hp, fun σ H Q ρ μ S he ho h => ?_⟩
  refine tE.run (R := fun r => PostP X.K X.mg μ H (E σ) r Q) he ho h (fun _ _ _ z => z) (fun z => z) fun x S1 _ h1 v H1 μ1 s1 o1 e1 d1 => ?_
  refine tE.run (R := fun r => PostP X.K X.mg μ1 H1 (E σ) r Q) e1 o1 (PostP.of s1 h1) (fun _ _ _ z => z) (fun z => z) fun y S2 _ h2 w H2 μ2 s2 o2 e2 d2 => ?_
  refine ht σ H2 _ ρ μ2 S2 e2 o2 ?_
  have h3 := PostP.of s2 h2
  unfold M.bind at h3
  cases q : m ρ S2 with
  | bad => rw [q] at h3; exact h3
  | exc c fs S' => rw [q] at h3; exact h3
  | ok r S3 =>
    rw [q] at h3
    exact fun vs H3 μ3 s3 o3 dp => h3 ((v, w) :: vs) H3 μ3 s3 o3 ⟨.cons ((d1.mono o1 s2).mono o2 s3) dp.1, .cons (d2.mono o2 s3) dp.2⟩
theorem e_disp (h : MP X E pos keys values m) (hall : keys.all (·.isSome) = true := by rfl) (hl : keys.length = values.length := by rfl) (h0 : keys ≠ [] := by intro z; cases z) (h15 : keys.length ≤ 15 := by decide) : ME X E (.Dict keys values pos) (dispM m) := by
  obtain ⟨trs, hp, ht⟩ := h.ex
  refine (pe_disp hp hall hl h0 h15).weak fun σ H Q h => ?_
  obtain ⟨ρ, μ, S, he, ho, h⟩ := h
  intro p hpn
  have s0 : Step μ μ H (upd H p (.dK [])) := .fresh hpn
  refine ht σ _ _ ρ μ S (he.mono ho s0) (ho.fresh hpn) ?_
  unfold dispM M.bind at h
  cases q : m ρ S with
  | bad => rw [q] at h; exact h.elim
  | exc c fs S' => rw [q] at h; exact XP.of s0 h
  | ok ps S1 =>
    rw [q] at h
    intro vs H2 μ2 s2 o2 dp
    dsimp only at h
    cases qk : keysD ps with
    | none => rw [qk] at h; exact h.elim
    | some kvs =>
      rw [qk] at h
      dsimp only at h
      split at h
      · rename_i hl15
        have hp2 : H2 p = some (.dK []) := s2.keep p _ (ho.nofree hpn).1 upd_same
        have hnc : p ∉ μ2.c := fun z => by
          rcases s2.new p z with z | z
          · exact (ho.nofree hpn).1 z
          · rw [upd_same] at z; cases z
        obtain ⟨ws, e1, e2, e3⟩ := keys_den dp qk
        have hlen : ws.length = kvs.length := by simpa using congrArg List.length e2
        refine ⟨hp2, ws, e1, by omega, ?_⟩
        obtain ⟨g1, g2⟩ := merge_den (K := X.K) (mg := X.mg) (μ := μ2) (H := H2) (ws := []) (kvs := []) e2 e3 rfl .nil
        exact h _ _ (μ2.add p) ((s0.trans s2).made hpn) (o2.made hp2 hnc ⟨_, upd_same, g1, g2.monoD o2 (made_step hp2)⟩) (.loc o2.atNew)
      · exact h.elim
/-! ### dict comprehensions -/
def dcL (chk : Store → Bool) (g : D → Env' → Option Env') (mt : Env' → M Bool) (mk mv : Env' → M D) (ρ : Env') : List D → List (Key × D) → M (List (Key × D))
  | [], acc, S => if chk S = true then .ok acc S else .bad
  | d :: ds, acc, S => if chk S = true then (match g d ρ with
    | none => .bad
    | some ρ2 => match mt ρ2 S with
      | .ok true S1 => (match mk ρ2 S1 with
        | .ok k S2 => (match mv ρ2 S2 with
          | .ok v S3 => (match keyOf k with
            | some key => if acc.length < sizeLine then dcL chk g mt mk mv ρ ds (putD acc key v) S3 else .bad
            | none => .bad)
          | _ => .bad)
        | _ => .bad)
      | .ok false S1 => dcL chk g mt mk mv ρ ds acc S1
      | _ => .bad) else .bad
def dcM (mi : Env' → M Src) (g : D → Env' → Option Env') (mt : Env' → M Bool) (mk mv : Env' → M D) (own : List Nat) : Env' → M D := fun ρ => M.bind (mi ρ) fun src S => match dcL src.chk g mt mk mv (wipeE ρ own) src.items [] S with
  | .ok kvs S' => newDict kvs S'
  | _ => .bad
theorem Step.dk {μ μ' : Pl} {H H' : Hp} {p : Addr} {o : HO} (st : Step μ μ' H H') (hp : H p = none) : Step μ μ' H (upd H' p o) := st.grown hp
/-- a dict that is no cell gets another content -/
theorem dk_step {μ : Pl} {H : Hp} {p : Addr} {o : HO} {ws : List (Key × V)} (hp : H p = some (.dK ws)) : StepD μ μ H (upd H p o) := ⟨List.prefix_refl μ.c, fun a u _ _ hu e => by
  by_cases z : a = p
  · subst z
    rw [hp] at e
    exact absurd (Option.some.inj e).symm (hu ws)
  · rw [upd_ne z]; exact e, fun a h => h.elim .inl fun z => .inr (.inl z)⟩
theorem Ok.dk {K : W.Frag} {mg : Str → Option Value} {μ : Pl} {H : Hp} {S : Store} (o : Ok K mg μ H S) {p : Addr} {ob : HO} {ws : List (Key × V)} (hp : H p = some (.dK ws)) (hn : p ∉ μ.c) : Ok K mg μ (upd H p ob) S := ⟨o.len, o.nd, fun a ha => by
  obtain ⟨z, vs, e⟩ := o.hd a ha
  exact ⟨z, vs, by rw [upd_ne (fun q => by rw [q, hp] at e; cases e)]; exact e⟩, fun n a c ha hc =>
  (o.at_ n a c ha hc).monoD o (dk_step hp) (upd_ne (fun z => hn (by rw [← z]; exact List.mem_of_getElem? ha)))⟩
theorem e_dc {kx vx tg iter : Expr} {ifs : List Expr} {scope : Scope} {mi : Env' → M Src} {mt : Env' → M Bool} {w : List Nat} {g : D → Env' → Option Env'} {mk mv : Env' → M D} (own : List (Str × Nat)) (hc : X.calm = true) (hN : X.N.Nodup) (hi : MI X E tg iter mi) (ok : BlkOk X.N X.env.scope scope own)
    (hg : ∀ (s : Shared) (H : Hp) (C : Addr) (cl : List (Str × Addr)) (fp : List Addr), MG (X.blk s H scope (compEnvC scope cl C X.env) fp) tg w g) (ht : ∀ (s : Shared) (H : Hp) (C : Addr) (cl : List (Str × Addr)) (fp : List Addr), MTs (X.blk s H scope (compEnvC scope cl C X.env) fp) EB ifs mt)
    (hk : ∀ (s : Shared) (H : Hp) (C : Addr) (cl : List (Str × Addr)) (fp : List Addr), ME (X.blk s H scope (compEnvC scope cl C X.env) fp) EB kx mk)
    (hv : ∀ (s : Shared) (H : Hp) (C : Addr) (cl : List (Str × Addr)) (fp : List Addr), ME (X.blk s H scope (compEnvC scope cl C X.env) fp) EB vx mv) (hw : ∀ i ∈ w, i ∈ own.map (·.2) := by decide) (hs : ∀ x, foldedSetIterable iter X.env x = pure x := by intro _; rfl) :
    ME X E (.DictComp kx vx [⟨tg, iter, ifs, 0⟩] scope pos) (dcM mi g mt mk mv (own.map (·.2))) :=
  (pe_dc (wi := tI X.K X.mg E mi) (g := tG X.K X.mg w g) (tt := tB' X.K X.mg EB mt) (tk := tE X.K X.mg EB mk) (tv := tE X.K X.mg EB mv) hc hN hi ok hg ht hk hv hs).weak fun σ H Q h => by
  obtain ⟨ρ, μ, S, he, ho, h⟩ := h
  refine ⟨ρ, μ, S, he, ho, ?_⟩
  unfold dcM M.bind at h
  cases e : mi ρ S with
  | bad => rw [e] at h; exact h.elim
  | exc c fs S' => rw [e] at h; exact h
  | ok src S1 =>
    rw [e] at h
    dsimp only at h
    generalize hvs : own.map (·.2) = vs at h hw ⊢
    intro J H1 μ1 s1 o1 j1 Dn hD
    have h := PostD.of s1 h
    cases el : dcL src.chk g mt mk mv (wipeE ρ vs) src.items [] S1 with
    | bad => rw [el] at h; exact h.elim
    | exc c fs S' => rw [el] at h; exact h.elim
    | ok kvf Sf =>
      rw [el] at h
      have e1 : EnvOk X.K X.mg μ1 H1 (wipe σ vs) (wipeE ρ vs) := (he.mono ho s1).wipe vs
      refine ⟨fun i m H' => m = src.items.length - i ∧ i ≤ src.items.length ∧ ∃ (μ' : Pl) (S' : Store) (acc : List (Key × V)) (accd : List (Key × PyM.D)), Step μ1 μ' H1 H' ∧ Ok X.K X.mg μ' H' S' ∧ H' Dn = some (.dK acc) ∧ Dn ∉ μ'.c ∧ acc.map (·.1) = accd.map (·.1) ∧
        DenL X.K X.mg μ' H' (acc.map (·.2)) (accd.map (·.2)) ∧ dcL src.chk g mt mk mv (wipeE ρ vs) (src.items.drop i) accd S' = .ok kvf Sf,
        ⟨src.items.length, by simp, Nat.zero_le _, μ1, S1, [], [], (Step.refl (μ := μ1) (H := H1)).grown hD, o1.fresh hD, upd_same, (o1.nofree hD).1, rfl, .nil, el⟩, ?_⟩
      rintro i m H' ⟨rfl, hi, μ', S', acc, accd, st, o', hDn, hnc, hk1, hacc, hl⟩
      by_cases hlt : i < src.items.length
      · rw [List.drop_eq_getElem_cons hlt] at hl
        unfold dcL at hl
        split at hl
        · rename_i hchk
          have hj := (j1 _ H' S' st.d o' hchk i).2 _ (List.getElem?_eq_getElem hlt)
          cases q : g src.items[i] (wipeE ρ vs) with
          | none => rw [q] at hl; cases hl
          | some ρ2 =>
            rw [q] at hl
            dsimp only at hl
            refine .inr ⟨hj.1, fun H' => ∃ (μ' : Pl) (S' : Store) (acc : List (Key × V)) (accd : List (Key × PyM.D)), Step μ1 μ' H1 H' ∧ Ok X.K X.mg μ' H' S' ∧ H' Dn = some (.dK acc) ∧ Dn ∉ μ'.c ∧ acc.map (·.1) = accd.map (·.1) ∧
              DenL X.K X.mg μ' H' (acc.map (·.2)) (accd.map (·.2)) ∧ dcL src.chk g mt mk mv (wipeE ρ vs) (src.items.drop (i + 1)) accd S' = .ok kvf Sf, fun H' p' => ⟨src.items.length - (i + 1), by omega, rfl, hlt, p'⟩, fun x H2 y => ?_⟩
            obtain ⟨s2, o2, d2⟩ := hj.2 x H2 y
            have e2 : EnvOk X.K X.mg μ' H2 (wipe σ vs) (wipeE ρ vs) := (e1.mono o1 st).mono o' s2
            have hDn2 : H2 Dn = some (.dK acc) := s2.keep _ _ hnc hDn
            refine ⟨_, _, S', _, ρ2, e2, o2, d2, q, fun σ' sb e3 => ⟨wipe_same hw sb, ρ2, _, S', e3, o2, ?_⟩⟩
            have nc : ∀ {μa μb : Pl} {Ha Hb : Hp}, Step μa μb Ha Hb → Dn ∉ μa.c → Ha Dn = some (.dK acc) → Dn ∉ μb.c := fun sx hx hy z => by
              rcases sx.new _ z with z | z
              · exact hx z
              · rw [hy] at z; cases z
            cases r : mt ρ2 S' with
            | bad => rw [r] at hl; cases hl
            | exc c fs S2 => rw [r] at hl; cases hl
            | ok k S2 =>
              rw [r] at hl
              intro H3 μ3 s3 o3
              have hDn3 : H3 Dn = some (.dK acc) := s3.keep _ _ hnc hDn2
              have hnc3 := nc s3 hnc hDn2
              cases k with
              | false => exact ⟨μ3, S2, acc, accd, (st.trans (s2.trans s3)), o3, hDn3, hnc3, hk1, (hacc.mono o' s2).mono o2 s3, hl⟩
              | true =>
                dsimp only at hl
                refine ⟨ρ2, _, S2, e3.mono o2 s3, o3, ?_⟩
                cases r2 : mk ρ2 S2 with
                | bad => rw [r2] at hl; cases hl
                | exc c fs S2 => rw [r2] at hl; cases hl
                | ok kd S3 =>
                  rw [r2] at hl
                  dsimp only at hl
                  intro kv H4 μ4 s4 o4 d4
                  have hDn4 : H4 Dn = some (.dK acc) := s4.keep _ _ hnc3 hDn3
                  have hnc4 := nc s4 hnc3 hDn3
                  refine ⟨ρ2, _, S3, (e3.mono o2 s3).mono o3 s4, o4, ?_⟩
                  cases r3 : mv ρ2 S3 with
                  | bad => rw [r3] at hl; cases hl
                  | exc c fs S2 => rw [r3] at hl; cases hl
                  | ok vd S4 =>
                    rw [r3] at hl
                    dsimp only at hl
                    intro vv H5 μ5 s5 o5 d5
                    have hDn5 : H5 Dn = some (.dK acc) := s5.keep _ _ hnc4 hDn4
                    have hnc5 := nc s5 hnc4 hDn4
                    cases r4 : keyOf kd with
                    | none => rw [r4] at hl; cases hl
                    | some key =>
                      rw [r4] at hl
                      dsimp only at hl
                      split at hl
                      · rename_i hsz
                        have hlen : acc.length = accd.length := by simpa using congrArg List.length hk1
                        obtain ⟨p1, p2⟩ := put_den (k := key) d5 hk1 ((((hacc.mono o' s2).mono o2 s3).mono o3 s4).mono o4 s5)
                        exact ⟨acc, key, key_den d4 r4, hDn5, by omega, μ5, S4, putK acc key vv, putD accd key vd, (st.trans (s2.trans (s3.trans (s4.trans s5)))).grown hD, o5.dk hDn5 hnc5, upd_same, hnc5, p1, p2.monoD o5 (dk_step hDn5), hl⟩
                      · cases hl
        · cases hl
      · rw [List.drop_eq_nil_of_le (by omega)] at hl
        unfold dcL at hl
        split at hl
        · rename_i hchk
          injection hl with hl1 hl2
          subst hl1 hl2
          refine .inl ⟨(j1 _ H' _ st.d o' hchk i).1 (by omega), ?_⟩
          have e5 : H' = upd H' Dn (.dK acc) := by
            funext z
            unfold upd
            split
            · rename_i hz
              rw [hz]; exact hDn
            · rfl
          refine h _ H' (μ'.add Dn) ?_ ?_ (.loc o'.atNew)
          · have := st.made (ob := .dK acc) hD
            rw [← e5] at this
            exact this
          · have g2 := hacc.monoD o' (made_step (μ := μ') (ob := .dK acc) hDn)
            have := o'.made (ob := .dK acc) (c := .dct accd) hDn hnc ⟨acc, upd_same, hk1, g2⟩
            rw [← e5] at this
            exact this
        · cases hl
end
/-- len of a dict -/
def lenDP (S : Store) : List D → Option D
  | [a] => match cellD S a with
    | some (_, kvs) => some (.int kvs.length)
    | none => none
  | _ => none
theorem c_lenD {X : Cx} : CallR X (.builtin "len") (rPL X.K X.mg lenDP) := by
  intro pins s σ H xs us Q I r h
  obtain ⟨μ, S, ds, d, o, dl, e, k⟩ := h
  unfold lenDP at e
  split at e
  · split at e
    · rename_i n kvs q
      obtain rfl := Option.some.inj e
      obtain ⟨v, rfl, dv⟩ := den1 dl
      obtain ⟨p, ws, rfl, rfl, hn, hp, h1, h2⟩ := cellD_den o dv q
      rw [Vals.ref1 r]
      have hlen : ws.length = kvs.length := by simpa using congrArg List.length h1
      exact d_len I (.inl hp) fun t s' I' => ⟨.int ws.length, H, I', ⟨t, rfl⟩, by rw [hlen]; exact k _ _ .refl o (.int _)⟩
    · cases e
  · cases e
end PyM
set_option Elab.async false
set_option linter.all false
set_option maxRecDepth 100000
set_option maxHeartbeats 2000000
namespace PyM
open PySem PySem.Spec PyProof.Rows L2 HT

/-! ### t[::-1] -/
theorem fm_congr {α β : Type} {f g : α → Option β} : ∀ {l : List α}, (∀ m ∈ l, f m = g m) → l.filterMap f = l.filterMap g
  | [], _ => rfl
  | m :: l, h => by
    rw [List.filterMap_cons, List.filterMap_cons, h m (by simp), fm_congr fun x hx => h x (by simp [hx])]
theorem pick_rev (xs : Array Value) : ((List.range xs.size).filterMap fun (m : Nat) => xs[(((xs.size : Int) - 1) + (m : Int) * (-1)).toNat]?) = xs.toList.reverse := by
  have h1 : ∀ (l : List Value) (n : Nat), n ≤ l.length → ((List.range n).filterMap fun (m : Nat) => l[m]?) = l.take n := by
    intro l n
    induction n with
    | zero => intro _; simp
    | succ n ih =>
      intro hn
      rw [List.range_succ, List.filterMap_append, ih (by omega), List.take_add_one]
      congr 1
  have h2 := h1 xs.toList.reverse xs.size (by simp)
  rw [List.take_of_length_le (by simp)] at h2
  rw [← h2]
  refine fm_congr fun m hm => ?_
  have hm := List.mem_range.mp hm
  rw [List.getElem?_reverse (by simpa using hm)]
  have e : (((xs.size : Int) - 1) + (m : Int) * (-1)).toNat = xs.toList.length - 1 - m := by
    have : xs.toList.length = xs.size := by simp
    omega
  rw [e]
  simp
section
variable {prog : Program} {w : World} {A : Around} {E : Value → Shared → Prop} {s : Shared}
theorem adjust_rev (n : Nat) : Builtin.Slice.sliceAdjust none none (-1) (n : Int) = ((n : Int) - 1, -1) := by
  unfold Builtin.Slice.sliceAdjust
  simp
theorem places_rev (n : Nat) : Builtin.Slice.slicePlaces ((n : Int) - 1) (-1) (-1) = n := by
  unfold Builtin.Slice.slicePlaces
  simp
  try omega
theorem sliceApplied_rev {sl : Addr} {vl vu vs : Value} {n : Nat} {Q : Int × Int × Nat → Shared → Prop} (hs : s.heap.IsSliceOf sl vl vu vs) (pl : IsPart vl none) (pu : IsPart vu none) (ps : IsPart vs (some (-1)))
    (h : Q ((n : Int) - 1, -1, n) s) : wpAny (model prog w) A (Builtin.Slice.sliceApplied (.ref sl) (pure (n : Int))) Q E s := by
  obtain ⟨os, hos, hcs, hds⟩ := id hs
  unfold Builtin.Slice.sliceApplied Builtin.Slice.sliceFields
  refine wpAny_bind (wpAny_bind (wpAny_field hos hds (x := vl) rfl (wpAny_bind (wpAny_field hos hds (x := vu) rfl (wpAny_bind (wpAny_field hos hds (x := vs) rfl (wpAny_pure ?_)))))))
  refine wpAny_bind (slicePart_ ps ?_)
  show wpAny _ _ (if ((-1 : Int) == 0) = true then _ else _) _ _ s
  rw [if_neg (by decide)]
  refine wpAny_bind (slicePart_ pl (wpAny_bind (slicePart_ pu (wpAny_bind (wpAny_pure ?_)))))
  show wpAny _ _ (match Builtin.Slice.sliceAdjust none none (-1) (n : Int) with | (lo, hi) => pure (lo, (-1 : Int), Builtin.Slice.slicePlaces lo hi (-1))) _ _ s
  rw [adjust_rev]
  show wpAny _ _ (pure ((n : Int) - 1, (-1 : Int), Builtin.Slice.slicePlaces ((n : Int) - 1) (-1) (-1))) _ _ s
  rw [places_rev]
  exact wpAny_pure h
theorem getItem_tuple_rev {t sl : Addr} {items : Array Value} {vl vu vs : Value} {Q : Value → Shared → Prop} (ht : IsTup s.heap t items) (hs : s.heap.IsSliceOf sl vl vu vs) (pl : IsPart vl none) (pu : IsPart vu none) (ps : IsPart vs (some (-1)))
    (h : Q (.ref s.heap.objs.size) { s with heap := s.heap.push { cls := .type "tuple", data := .seq items.toList.reverse.toArray } }) (hsz : items.size ≤ sizeLine) : wpAny (model prog w) A (getItem (.ref t) (.ref sl)) Q E s := by
  have htake : sizeOk (.seq items.toList.reverse.toArray) := by
    show items.toList.reverse.toArray.size ≤ sizeLine
    simpa using hsz
  obtain ⟨os, hos, hcs, hds⟩ := id hs
  have hTs : s.TypeIs (.ref sl) "slice" := ⟨os, hos, hcs⟩
  unfold getItem
  try with_reducible refine wpAny_holding ?_
  first | refine wpAny_bind (wpAny_pure ?_) | skip
  refine wpAny_bind (wpAny_sequenceKey ht.typeIs (by decide) ?_)
  refine wpAny_bind (wpAny_callSpecial?_slot (name := Str.ofString "__getitem__") ht.typeIs PyProof.Rows.slot_tuple_getitem
    (wpAny_call_entry PyProof.Rows.slot_tuple_getitem ht.typeIs entry_tuple_getitem ?_ (args_tuple_getitem _ _)))
  show wpAny _ _ (Builtin.Tuple.tupleItemsOf (.ref t) >>= _) _ _ s
  refine wpAny_bind (tupleItemsOf_ ht ?_)
  refine wpAny_bind (wpAny_typeOf hTs ?_)
  rw [if_pos (by decide)]
  refine wpAny_bind (sliceApplied_rev hs pl pu ps ?_)
  show wpAny _ _ (if (((items.size : Int) - 1) == 0 && (-1 : Int) == 1 && items.size == items.size) = true then _ else _) _ _ s
  rw [if_neg (by simp), pick_rev]
  first
    | exact wpAny_bind (m := Builtin.Tuple.tupleExact _) (wpAny_newObj_type (wpAny_pure ⟨_, rfl, wpAny_pure h⟩) htake)
    | exact wpAny_bind (m := Builtin.Tuple.tupleExact _) (wpAny_newObj_type (wpAny_bind (wpAny_pure (wpAny_pure ⟨_, rfl, wpAny_pure h⟩))) htake)
    | exact wpAny_bind (wpAny_bind (m := Builtin.Tuple.tupleExact _) (wpAny_newObj_type (wpAny_pure (wpAny_pure ⟨_, rfl, wpAny_pure h⟩)) htake))
    | exact wpAny_bind (wpAny_bind (m := Builtin.Tuple.tupleExact _) (wpAny_newObj_type (wpAny_pure ⟨_, rfl, wpAny_pure h⟩) htake))
end
/-- xs[::-1] of a list or a tuple -/
def revP (S : Store) (d : D) : Option D := match d with
  | .tup ds => some (.tup ds.reverse)
  | d => (asS S d).map fun ds => .lst ds.reverse
def revM (ma : Env' → M D) : Env' → M D := un1 revP ma
section
variable {X : Cx} {E : L2.St → XK} {e : Expr} {ma : Env' → M D}
theorem e_rev {k : Nat} {p1 p2 p3 pos : Pos} (he : ME X E e ma) : ME X E (.Subscript e (.Slice none none (some (.UnaryOp .USub (.Constant (.int 1) k p1) p2)) p3) pos) (revM ma) := by
  refine ⟨fun pins s σ H Q I h => ?_⟩
  obtain ⟨ρ, μ, S, hE, hO, h⟩ := h
  have h1 : tE X.K X.mg E ma σ H fun x H1 => ∃ μ1 S1 a d, Ok X.K X.mg μ1 H1 S1 ∧ Den X.K X.mg μ1 H1 x a ∧ revP S1 a = some d ∧ ∀ v' H' , Step μ1 μ1 H1 H' → Ok X.K X.mg μ1 H' S1 → Den X.K X.mg μ1 H' v' d → Q v' H' := by
    refine tE.run (R := fun r => PostD X.K X.mg μ H (E σ) r Q) hE hO h (fun _ _ _ z => z) (fun z => z) fun x S1 _ h1 v H1 μ1 s1 o1 e1 d1 => ?_
    unfold M.op1 at h1
    cases q : revP S1 x with
    | none => rw [q] at h1; exact h1.elim
    | some d =>
      rw [q] at h1
      exact ⟨μ1, S1, x, d, o1, d1, q, fun v' H' st o' hd => h1 v' H' μ1 (s1.trans st) o' hd⟩
  refine Subscript_ (thn (he.run pins s σ H _ I h1) fun v s1 ⟨x, H1, I1, r1, q1⟩ => ?_)
  obtain ⟨μ1, S1, a, d, o1, d1, eq, q1⟩ := q1
  have hst : PO X (some (.UnaryOp .USub (.Constant (.int 1) k p1) p2)) (tPart (tUn (rU fun i => .int (-i)) (tC (.int 1)))) := po_some (pe_un un_neg pe_int)
  refine wpAny_Slice (thn (po_none.run pins s1 σ H1 (fun o H2 => o = none ∧ H2 = H1) I1 ⟨rfl, rfl⟩) fun vl s2 ⟨l, H2, I2, pl, el, e2⟩ => ?_)
  subst el e2
  refine thn (po_none.run pins s2 σ H2 (fun o H3 => o = none ∧ H3 = H2) I2 ⟨rfl, rfl⟩) fun vu s3 ⟨u, H3, I3, pu, eu, e3⟩ => ?_
  subst eu e3
  refine thn (hst.run pins s3 σ H3 (fun o H4 => o = some (-1) ∧ H4 = H3) I3 ⟨1, rfl, -1, rfl, rfl, rfl⟩) fun vs s4 ⟨o, H4, I4, ps, eo, e4⟩ => ?_
  subst eo e4
  have I5 : Inv X pins σ H4 { s4 with heap := s4.heap.push { cls := .type "slice", data := .fields #[vl, vu, vs] } } := I4.kept (t' := s4.toks) fun b ob q => Heap.get?_push_of_some _ q
  show wpAny (model X.prog X.w) X.A (subscriptTail e (.Slice none none (some (.UnaryOp .USub (.Constant (.int 1) k p1) p2)) p3) v (.ref s4.heap.objs.size)) (EP X pins σ Q) X.xe { s4 with heap := s4.heap.push { cls := .type "slice", data := .fields #[vl, vu, vs] } }
  unfold revP at eq
  split at eq
  · rename_i ds
    obtain rfl := Option.some.inj eq
    cases d1 with
    | tup h1 h2 =>
      rename_i p xs
      cases r1
      obtain ⟨its, r, ht, hz⟩ := I5.tuple h1
      have hlen := r.length
      refine tail_any (ops := [.ref p, .ref s4.heap.objs.size]) ht.typeIs (PyProof.Rows.slot_tuple_getitem.lookup) ?_ (by with_unfolding_all rfl)
      refine getItem_tuple_rev ht (Heap.IsSliceOf.new _ vl vu vs) pl pu ps ?_ (by rw [List.size_toArray]; omega)
      obtain ⟨st, ok, dd⟩ := new_tup (K := X.K) (mg := X.mg) o1 (p := (s4.heap.push { cls := .type "slice", data := .fields #[vl, vu, vs] }).objs.size) (I5.hok.fresh (Nat.le_refl _)) h2.reverse
      refine ⟨.ref _, _, I5.laid (t' := s4.toks) (o := .tup xs.reverse) (fun b ob q => Heap.get?_push_of_some _ q) (Nat.le_refl _) ?_, rfl, q1 _ _ st ok dd⟩
      exact ⟨by rw [List.length_reverse]; exact hz, its.reverse, r.reverse, IsTup.new _ _⟩
  · rename_i hnt
    cases qa : asS S1 a with
    | none => rw [qa] at eq; cases eq
    | some ds =>
      rw [qa] at eq
      obtain rfl := Option.some.inj eq
      obtain ⟨p, xs, rfl, h1, h2⟩ := asS_den o1 d1 qa
      cases r1
      obtain ⟨its, r, ht, hz⟩ := I5.list h1
      have hlen := r.length
      refine tail_any (ops := [.ref p, .ref s4.heap.objs.size]) ht.isList.typeIs (PySem.slot_list_getitem.lookup) ?_ (by with_unfolding_all rfl)
      refine wpAny_getItem_list_slice ht.isList (Heap.IsSliceOf.new _ vl vu vs) pl pu ps (by decide) ?_ (by rw [List.size_toArray]; omega)
      rw [PySem.W.krv_pick]
      obtain ⟨st, ok, dd⟩ := new_lst (K := X.K) (mg := X.mg) o1 (p := (s4.heap.push { cls := .type "slice", data := .fields #[vl, vu, vs] }).objs.size) (I5.hok.fresh (Nat.le_refl _)) h2.reverse
      refine ⟨.ref _, _, I5.laid (t' := s4.toks) (o := .lst xs.reverse) (fun b ob q => Heap.get?_push_of_some _ q) (Nat.le_refl _) ?_, rfl, q1 _ _ st ok dd⟩
      exact ⟨by rw [List.length_reverse]; exact hz, _, 0, r.reverse, Heap.get?_push_size _ rfl⟩
end
end PyM
set_option Elab.async false
set_option linter.all false
set_option maxRecDepth 100000
set_option maxHeartbeats 2000000
namespace PyM
open PySem PySem.Spec PyProof.Rows L2

/-! ### repr of lists and tuples -/
def isRefD : D → Bool
  | .tup _ => true
  | .lst _ => true
  | .loc _ => true
  | _ => false
def reprP (S : Store) : List D → Option D
  | [d] => if isRefD d = true then (match d.py S with
    | some p => if (p.showable && !p.hasDict && decide (p.depth ≤ 64) && decide (p.shown.length ≤ sizeLine)) = true then some (.str p.shown) else none
    | none => none) else none
  | _ => none
theorem c_repr {X : Cx} {k : Nat} (hG : X.A.guards = some []) (hr : Room k X.A) : CallR X (.builtin "repr") (rPL X.K X.mg reprP) := by
  intro pins s σ H xs us Q I r h
  obtain ⟨μ, S, ds, d, o, dl, e, q⟩ := h
  unfold reprP at e
  split at e
  · rename_i d0
    split at e
    · rename_i hd0
      split at e
      · rename_i p hp
        split at e
        · rename_i hc
          obtain rfl := Option.some.inj e
          simp only [Bool.and_eq_true, decide_eq_true_eq, Bool.not_eq_true'] at hc
          obtain ⟨⟨⟨h1, h2⟩, h3⟩, h4⟩ := hc
          obtain ⟨v, rfl, dv⟩ := den1 dl
          obtain ⟨a, rfl⟩ : ∃ a, v = .ref a := by
            cases dv with
            | tup _ _ => exact ⟨_, rfl⟩
            | lst _ _ _ _ => exact ⟨_, rfl⟩
            | loc _ => exact ⟨_, rfl⟩
            | _ => cases hd0
          rw [Vals.ref1 r]
          obtain ⟨as, ra⟩ := Dp.reads I p _ _ (py_den o d0 dv hp) rfl
          have := hr.un
          exact repr_of_reads' ra h1 (fun h' => by rw [h2] at h'; cases h') hG (by omega) (fun _ _ e => e) (fun h' u tk hk => ⟨.str p.shown, H, I.kept (t' := tk) hk, ⟨u, rfl⟩, q _ _ .refl o (.str _)⟩) h4
        · cases e
      · cases e
    · cases e
  · cases e
end PyM
set_option Elab.async false
set_option linter.all false
set_option maxRecDepth 100000
set_option maxHeartbeats 2000000
namespace PyM
open PySem PySem.Spec PyProof.Rows L2

/-! ### sorted: texts; tuples by their first texts, which differ -/
def strsOf : List D → Option (List Str)
  | [] => some []
  | .str x :: r => (strsOf r).map (x :: ·)
  | _ :: _ => none
def strLt (a b : Str) : Bool := decide (a.cps.toList < b.cps.toList)
/-- put in by the order of their keys -/
def insK {α : Type} (k : α → Str) (x : α) : List α → List α
  | [] => [x]
  | y :: ys => if strLt (k y) (k x) = true then y :: insK k x ys else x :: y :: ys
def sortK {α : Type} (k : α → Str) : List α → List α
  | [] => []
  | x :: xs => insK k x (sortK k xs)
def tupsOf : List D → Option (List (Str × List D))
  | [] => some []
  | .tup (.str x :: r) :: l => (tupsOf l).map ((x, r) :: ·)
  | _ :: _ => none
def nodupS : List Str → Bool
  | [] => true
  | x :: xs => !(xs.any (· == x)) && nodupS xs
def sortedP (S : Store) : List D → Option D
  | [d] => match asS S d with
    | some ds => if ds.length < 64 then (match strsOf ds with
      | some xs => some (.lst ((sortK id xs).map .str))
      | none => match tupsOf ds with
        | some ts => if nodupS (ts.map (·.1)) = true then some (.lst ((sortK (·.1) ts).map fun t => .tup (.str t.1 :: t.2))) else none
        | none => none) else none
    | none => none
  | _ => none
theorem str_ext {a b : Str} (h : a.cps.toList = b.cps.toList) : a = b := by
  cases a; cases b
  congr
  exact Array.toList_inj.mp h
theorem strLt_asym (a b : Str) (h : strLt a b = true) : strLt b a = false := by
  unfold strLt at *
  exact decide_eq_false fun h' => List.lt_irrefl _ (List.lt_trans (of_decide_eq_true h) h')
theorem strLt_irr (a : Str) : strLt a a = false := decide_eq_false (List.lt_irrefl _)
theorem strLt_tri {a b : Str} (h1 : strLt a b = false) (h2 : strLt b a = false) : a = b := by
  unfold strLt at *
  exact str_ext (List.le_antisymm (of_decide_eq_false h2) (of_decide_eq_false h1))
theorem strLt_tr (a b c : Str) (h1 : strLt b a = false) (h2 : strLt c b = false) : strLt c a = false := by
  unfold strLt at *
  exact decide_eq_false (List.not_lt.mpr (List.le_trans (List.not_lt.mp (of_decide_eq_false h1)) (List.not_lt.mp (of_decide_eq_false h2))))
/-- in order: none below one ahead of it -/
abbrev Asc {α : Type} (k : α → Str) (l : List α) : Prop := l.Pairwise fun x y => strLt (k y) (k x) = false
theorem insK_perm {α : Type} (k : α → Str) (x : α) : ∀ l : List α, (insK k x l).Perm (x :: l)
  | [] => .refl _
  | y :: ys => by
    unfold insK
    split
    · exact ((insK_perm k x ys).cons y).trans (List.Perm.swap x y ys)
    · exact .refl _
theorem sortK_perm {α : Type} (k : α → Str) : ∀ l : List α, (sortK k l).Perm l
  | [] => .refl _
  | x :: xs => (insK_perm k x _).trans ((sortK_perm k xs).cons x)
theorem insK_asc {α : Type} (k : α → Str) (x : α) : ∀ l : List α, Asc k l → Asc k (insK k x l)
  | [], _ => List.pairwise_singleton _ _
  | y :: ys, h => by
    unfold insK
    have h' := List.pairwise_cons.mp h
    split
    · rename_i hl
      refine List.pairwise_cons.mpr ⟨fun z hz => ?_, insK_asc k x ys h'.2⟩
      rcases List.mem_cons.mp ((insK_perm k x ys).mem_iff.mp hz) with e | hz
      · rw [e]; exact strLt_asym _ _ hl
      · exact h'.1 z hz
    · rename_i hl
      have hl : strLt (k y) (k x) = false := by simpa using hl
      refine List.pairwise_cons.mpr ⟨fun z hz => ?_, h⟩
      rcases List.mem_cons.mp hz with e | hz
      · rw [e]; exact hl
      · exact strLt_tr _ _ _ hl (h'.1 z hz)
theorem sortK_asc {α : Type} (k : α → Str) : ∀ l : List α, Asc k (sortK k l)
  | [] => List.Pairwise.nil
  | x :: xs => insK_asc k x _ (sortK_asc k xs)
/-- there is just one such list, where keys tell the items -/
theorem asc_uniq {α : Type} (k : α → Str) : ∀ {l m : List α}, (∀ x ∈ l, ∀ y ∈ l, k x = k y → x = y) → Asc k l → Asc k m → l.Perm m → l = m
  | [], m, _, _, _, p => (List.Perm.eq_nil p.symm).symm
  | x :: l, [], _, _, _, p => absurd p.length_eq (by simp)
  | x :: l, y :: m, hi, hl, hm, p => by
    have hl' := List.pairwise_cons.mp hl
    have hm' := List.pairwise_cons.mp hm
    have e : x = y := by
      rcases List.mem_cons.mp (p.mem_iff.mp (List.mem_cons_self (a := x) (l := l))) with e | hx
      · exact e
      · have hy := p.mem_iff.mpr (List.mem_cons_self (a := y) (l := m))
        rcases List.mem_cons.mp hy with e | hy'
        · exact e.symm
        · exact hi x (by simp) y hy (strLt_tri (hm'.1 x hx) (hl'.1 y hy'))
    subst e
    rw [asc_uniq k (fun a ha b hb => hi a (by simp [ha]) b (by simp [hb])) hl'.2 hm'.2 p.cons_inv]
theorem insK_map {α β : Type} (f : α → β) (k : β → Str) (x : α) : ∀ l : List α, (insK (fun z => k (f z)) x l).map f = insK k (f x) (l.map f)
  | [] => rfl
  | y :: ys => by
    show (if strLt (k (f y)) (k (f x)) = true then y :: insK (fun z => k (f z)) x ys else x :: y :: ys).map f = if strLt (k (f y)) (k (f x)) = true then f y :: insK k (f x) (ys.map f) else f x :: f y :: ys.map f
    split
    · rw [List.map_cons, insK_map f k x ys]
    · rfl
theorem sortK_map {α β : Type} (f : α → β) (k : β → Str) : ∀ l : List α, (sortK (fun z => k (f z)) l).map f = sortK k (l.map f)
  | [] => rfl
  | x :: xs => by
    show (insK _ x (sortK _ xs)).map f = insK k (f x) (sortK k (xs.map f))
    rw [insK_map, sortK_map f k xs]
theorem insK_congr {α : Type} {k k' : α → Str} (x : α) : ∀ {l : List α}, k x = k' x → (∀ y ∈ l, k y = k' y) → insK k x l = insK k' x l
  | [], _, _ => rfl
  | y :: ys, hx, h => by
    unfold insK
    rw [hx, h y (by simp), insK_congr x hx fun z hz => h z (by simp [hz])]
theorem sortK_congr {α : Type} {k k' : α → Str} : ∀ {l : List α}, (∀ y ∈ l, k y = k' y) → sortK k l = sortK k' l
  | [], _ => rfl
  | x :: xs, h => by
    show insK k x (sortK k xs) = insK k' x (sortK k' xs)
    rw [sortK_congr fun y hy => h y (by simp [hy])]
    exact insK_congr x (h x (by simp)) fun y hy => h y (by simp [(sortK_perm k' xs).mem_iff.mp hy])
theorem strsOf_den {K : W.Frag} {mg : Str → Option Value} {μ : Pl} {H : Hp} : ∀ {vs : List V} {ds : List D} {xs : List Str}, DenL K mg μ H vs ds → strsOf ds = some xs → vs = xs.map V.str
  | _, _, _, .nil, e => by simp [strsOf] at e; subst e; rfl
  | _, d :: ds, _, .cons h t, e => by
    cases h <;> simp [strsOf] at e
    obtain ⟨bs, e, rfl⟩ := e
    rw [strsOf_den t e]
    rfl
theorem asc_rising : ∀ (p : Str) (l : List Str), risingS p l = true → Asc id (p :: l)
  | p, [], _ => List.pairwise_singleton _ _
  | p, x :: r, h => by
    unfold risingS at h
    obtain ⟨h1, h2⟩ := Bool.and_eq_true_iff.mp h
    rw [PyProof.Rows.ltCps_eq] at h1
    have h3 : strLt x p = false := by simpa [strLt] using h1
    have ih := asc_rising x r h2
    refine List.pairwise_cons.mpr ⟨fun z hz => ?_, ih⟩
    rcases List.mem_cons.mp hz with e | hz
    · rw [e]; exact h3
    · exact strLt_tr _ _ _ h3 ((List.pairwise_cons.mp ih).1 z hz)
theorem asc_sortedS : ∀ (l : List Str), sortedS l = true → Asc id l
  | [], _ => List.Pairwise.nil
  | x :: r, h => asc_rising x r h
/-! tuples: the text ahead, by the value -/
def fstK (h : Heap) (v : Value) : Str := match v with
  | .ref a => (match h.get? a with
    | some o => (match o.data with
      | .seq its _ => (match (its[0]? : Option Value) with
        | some (Value.str x _) => x
        | _ => Str.empty)
      | _ => Str.empty)
    | none => Str.empty)
  | _ => Str.empty
/-- a tuple with a text ahead -/
def TupF (h : Heap) (v : Value) (x : Str) : Prop := ∃ (a : Addr) (o : Obj) (its : Array Value) (n : Nat) (t : Tok) (r : List Value), v = .ref a ∧ h.get? a = some o ∧ o.cls = .type "tuple" ∧ o.data = .seq its n ∧ its.toList = .str x t :: r
theorem TupF.key {h : Heap} {v : Value} {x : Str} (T : TupF h v x) : fstK h v = x := by
  obtain ⟨a, o, its, n, t, r, rfl, ho, hc, hd, hi⟩ := T
  have : its[0]? = some (.str x t) := by rw [← Array.getElem?_toList, hi]; rfl
  unfold fstK
  simp only [ho, hd, this]
section
variable {prog : Program} {w : World} {A : Around} {E : Value → Shared → Prop} {s : Shared}
theorem katLex_self {b fin : Bool} {Q : Bool → Shared → Prop} : ∀ (l : List Value) (i : Nat), Q fin s → W.KatLex prog w A b fin Q (l.zip l) i s
  | [], _, h => W.kat_nil h
  | v :: l, i, h => W.kat_cons (SeqAt.EqAt.same v prog w _ _ (W.kat_go (fun _ => W.kat_yes (katLex_self l (i + 1) h)) fun e => by cases e))
theorem tup_cmp {vs : List Value} {k : Value → Str} (hp : ∀ v ∈ vs, TupF s.heap v (k v)) (hi : ∀ v ∈ vs, ∀ u ∈ vs, k v = k u → v = u) : SrtO.Cmp prog w A s (tuples' true) (fun p => p.1 ∈ vs) (SrtO.lt2 fun v u => strLt (k v) (k u)) := by
  intro p q hm hm'
  show wpAny (model prog w) A (keyLt' (tuples' true) p.1 q.1) (fun r s' => s' = s ∧ r = strLt (k p.1) (k q.1)) (fun _ _ => False) s
  have h1 := hp _ hm
  have h2 := hp _ hm'
  by_cases e : p.1 = q.1
  · rw [← e]
    obtain ⟨a, o, its, n, t, r, ev, ho, hc, hd, hi'⟩ := h1
    rw [ev]
    refine W.kat_lt ho hd ho hd (katLex_self _ _ ⟨rfl, ?_⟩)
    rw [strLt_irr]
    exact decide_eq_false (Nat.lt_irrefl _)
  · have hk : k p.1 ≠ k q.1 := fun z => e (hi _ hm _ hm' z)
    generalize k p.1 = x at h1 hk ⊢
    generalize k q.1 = y at h2 hk ⊢
    obtain ⟨a, o, its, n, t, r, ev, ho, hc, hd, hi1⟩ := h1
    obtain ⟨a', o', its', n', t', r', ev', ho', hc', hd', hi2⟩ := h2
    rw [ev, ev']
    refine W.kat_lt ho hd ho' hd' ?_
    rw [hi1, hi2]
    refine W.kat_cons (SeqAt.EqAt.str_str x t y t' prog w _ _ ?_)
    have hb : (x == y) = false := beq_eq_false_iff_ne.mpr hk
    rw [hb]
    exact W.kat_no (oneLt_str ⟨rfl, rfl⟩)
theorem tup_firsts {h : Heap} {k : Value → Str} : ∀ {vs : List Value}, (∀ v ∈ vs, TupF h v (k v)) → ∃ fs : List Value, W.KatTups h vs fs ∧ fs.length = vs.length ∧ ∀ f ∈ fs, ∃ x t, f = Value.str x t
  | [], _ => ⟨[], W.KatTups.nil, rfl, fun _ hm => by simp at hm⟩
  | v :: vs, hp => by
    obtain ⟨fs, h1, h2, h3⟩ := tup_firsts (vs := vs) fun u hu => hp u (List.mem_cons_of_mem _ hu)
    obtain ⟨a, o, its, n, t, r, e, ho, hc, hd, hi⟩ := hp v (List.mem_cons_self ..)
    subst e
    refine ⟨.str (k (.ref a)) t :: fs, W.KatTups.cons ho hc hd (by rw [← Array.getElem?_toList, hi]; rfl) h1, by rw [List.length_cons, List.length_cons, h2], fun f hm => ?_⟩
    rcases List.mem_cons.mp hm with rfl | hm
    · exact ⟨_, t, rfl⟩
    · exact h3 f hm
theorem TupF.keeps {h h' : Heap} {v : Value} {x : Str} (T : TupF h v x) (k : ∀ b o, h.get? b = some o → o.cls = .type "tuple" → h'.get? b = some o) : TupF h' v x := by
  obtain ⟨a, o, its, n, t, r, e, ho, hc, hd, hi⟩ := T
  exact ⟨a, o, its, n, t, r, e, k a o ho hc, hc, hd, hi⟩
theorem tup_sortable {a : Addr} {vs : List Value} {k : Value → Str} (h0 : 0 < vs.length) (hp : ∀ v ∈ vs, TupF s.heap v (k v)) (hi : ∀ v ∈ vs, ∀ u ∈ vs, k v = k u → v = u) (ha : ∀ o, s.heap.get? a = some o → o.cls ≠ .type "tuple") :
    SrtO.SortableO prog w A s a vs fun v u => strLt (k v) (k u) := by
  intro h' keep
  have hp' : ∀ v ∈ vs, TupF h' v (k v) := fun v hm => (hp v hm).keeps fun b o e c => keep b o (fun z => by subst z; exact ha o e c) e
  obtain ⟨fs, h1, h2, h3⟩ := tup_firsts hp'
  refine ⟨tuples' true, fun Q E hq => ?_, tup_cmp hp' hi⟩
  refine W.kat_kind (T := .type "str") h1 (by omega) (fun f hm => ?_) (by rfl) ?_
  · obtain ⟨x, t, rfl⟩ := h3 f hm
    exact W.Looks.now
  · have e : (Value.type "str" != Value.type "tuple") = true := by first | decide +kernel | rfl | decide
    rw [e]
    exact hq
theorem swo_str (k : Value → Str) : SrtO.Swo fun v u => strLt (k v) (k u) := ⟨fun x y => strLt_asym _ _, fun x y z => strLt_tr _ _ _⟩
theorem sorted_tups {l : Addr} {vs : List Value} {k : Value → Str} {Q : Value → Shared → Prop} (hl : s.heap.IsList l vs.toArray) (hz : vs.length ≤ sizeLine) (hp : ∀ v ∈ vs, TupF s.heap v (k v)) (hi : ∀ v ∈ vs, ∀ u ∈ vs, k v = k u → v = u)
    (h : ∀ (h' : Heap) (d : Addr) (out : List Value), Asc k out → out.Perm vs → (∀ b o, s.heap.get? b = some o → h'.get? b = some o) → s.heap.objs.size ≤ d → (∃ n, h'.get? d = some { cls := .type "list", data := .seq out.toArray n }) → Q (.ref d) { s with heap := h' }) :
    wpAny (model prog w) A (call (.builtin "sorted") [.ref l]) Q E s := by
  refine SrtO.sorted_ord (swo_str k) hl hz (fun h2 h₁ a ha kk => ?_) fun out hs hb => ?_
  · refine tup_sortable (s := { s with heap := h₁ }) (by omega) (fun v hm => (hp v hm).keeps fun b o e _ => (kk b o e).2) hi fun o e => ?_
    have e' : some o = some _ := e.symm.trans ha
    cases e'
    intro c
    exact absurd (Value.type.inj c) (by decide)
  · exact h _ _ out hs hb.perm (fun b o e => sortedAll_old e) (Nat.le_succ _) (sortedAll_at s.heap vs out.toArray)
end
theorem nodupS_iff : ∀ {l : List Str}, nodupS l = true → l.Nodup
  | [], _ => List.nodup_nil
  | x :: xs, h => by
    unfold nodupS at h
    obtain ⟨h1, h2⟩ := Bool.and_eq_true_iff.mp h
    refine List.nodup_cons.mpr ⟨fun hm => ?_, nodupS_iff h2⟩
    have : xs.any (· == x) = true := List.any_eq_true.mpr ⟨x, hm, by simp⟩
    rw [this] at h1
    cases h1
theorem nodup_map_inj {α β : Type} {f : α → β} : ∀ {l : List α}, (l.map f).Nodup → ∀ x ∈ l, ∀ y ∈ l, f x = f y → x = y
  | [], _, _, hx, _, _, _ => by simp at hx
  | a :: l, h, x, hx, y, hy, e => by
    rw [List.map_cons] at h
    obtain ⟨h1, h2⟩ := List.nodup_cons.mp h
    rcases List.mem_cons.mp hx with ex | hx
    · rcases List.mem_cons.mp hy with ey | hy
      · rw [ex, ey]
      · exact absurd (List.mem_map.mpr ⟨y, hy, by rw [← e, ex]⟩) h1
    · rcases List.mem_cons.mp hy with ey | hy
      · exact absurd (List.mem_map.mpr ⟨x, hx, by rw [e, ey]⟩) h1
      · exact nodup_map_inj h2 x hx y hy e
theorem denL_all {K : W.Frag} {mg : Str → Option Value} {μ : Pl} {H : Hp} {α : Type} {g : α → V} {f : α → D} : ∀ {l : List α}, (∀ p ∈ l, Den K mg μ H (g p) (f p)) → DenL K mg μ H (l.map g) (l.map f)
  | [], _ => .nil
  | p :: l, h => .cons (h p (by simp)) (denL_all fun q hq => h q (by simp [hq]))
theorem tups_den {X : Cx} {pins : List (Addr × Obj)} {s : Shared} {σ : L2.St} {H : Hp} {μ : Pl} (I : Inv X pins σ H s) : ∀ {vs : List V} {ds : List D} {ts : List (Str × List D)} {us : List Value}, DenL X.K X.mg μ H vs ds → tupsOf ds = some ts → Vals vs us →
    ∃ P : List (Value × (Str × List D)), P.map (·.1) = us ∧ P.map (·.2) = ts ∧ ∀ p ∈ P, TupF s.heap p.1 p.2.1 ∧ Den X.K X.mg μ H (backV p.1) (.tup (.str p.2.1 :: p.2.2))
  | _, _, _, _, .nil, e, .nil => by
    obtain rfl := Option.some.inj e
    exact ⟨[], rfl, rfl, fun p hp => by simp at hp⟩
  | _, d :: ds, ts, _, .cons (v := v) h t, e, .cons (b := u) r rs => by
    cases h with
    | tup h1 h2 =>
      rename_i a ws es
      cases h2 with
      | nil => cases e
      | cons h3 h4 =>
        cases h3 with
        | str x =>
          rename_i ws' es'
          unfold tupsOf at e
          cases q : tupsOf ds with
          | none => rw [q] at e; cases e
          | some ts' =>
            rw [q] at e
            obtain rfl := Option.some.inj e
            obtain ⟨P, p1, p2, p3⟩ := tups_den I t q rs
            cases r
            obtain ⟨its, rv, ht, hz⟩ := I.tuple h1
            obtain ⟨o, ho, hc, n, hd⟩ := ht
            cases rv with
            | cons r1 r2 =>
              obtain ⟨tk, rfl⟩ := r1
              refine ⟨(.ref a, (x, es')) :: P, by simp [p1], by simp [p2], fun p hp => ?_⟩
              rcases List.mem_cons.mp hp with e' | hp
              · subst e'
                exact ⟨⟨a, o, _, n, tk, _, rfl, ho, hc, hd, rfl⟩, .tup h1 (.cons (.str x) h4)⟩
              · exact p3 p hp
        | _ => cases e
    | _ => cases e
theorem c_sorted {X : Cx} : CallR X (.builtin "sorted") (rPL X.K X.mg sortedP) := by
  intro pins s σ H xs us Q I r h
  obtain ⟨μ, S, ds, d, o, dl, e, k⟩ := h
  unfold sortedP at e
  split at e
  · split at e
    · rename_i es q
      split at e
      · rename_i h64
        obtain ⟨v, rfl, dv⟩ := den1 dl
        obtain ⟨p, vs, rfl, h1, h2⟩ := asS_den o dv q
        have hlen := h2.length
        cases q1 : strsOf es with
        | some xs =>
          rw [q1] at e
          obtain rfl := Option.some.inj e
          obtain rfl := strsOf_den h2 q1
          refine cr_sortedS pins s σ H _ us Q I r ⟨p, xs, rfl, h1, by simpa [← hlen] using h64, fun ys l hp hs hl => ?_⟩
          have ey : ys = sortK id xs := asc_uniq id (fun x _ y _ z => z) (asc_sortedS ys hs) (sortK_asc id xs) (hp.trans (sortK_perm id xs).symm)
          subst ey
          obtain ⟨st, ok, dd⟩ := new_lst o hl (strs_den (K := X.K) (mg := X.mg) (μ := μ) (H := H) (sortK id xs))
          exact k _ _ st ok dd
        | none =>
          rw [q1] at e
          dsimp only at e
          cases q2 : tupsOf es with
          | none => rw [q2] at e; cases e
          | some ts =>
            rw [q2] at e
            dsimp only at e
            split at e
            · rename_i hnd
              obtain rfl := Option.some.inj e
              obtain ⟨its, rv, hl, hz⟩ := I.list h1
              obtain ⟨P, p1, p2, p3⟩ := tups_den I h2 q2 rv
              rw [Vals.ref1 r]
              have hkey : ∀ p ∈ P, fstK s.heap p.1 = p.2.1 := fun p hp => (p3 p hp).1.key
              have hmap : its.map (fstK s.heap) = ts.map (·.1) := by
                rw [← p1, ← p2, List.map_map, List.map_map]
                exact List.map_congr_left fun p hp => hkey p hp
              have hTup : ∀ v ∈ its, TupF s.heap v (fstK s.heap v) := fun v hv => by
                rw [← p1] at hv
                obtain ⟨p, hp, rfl⟩ := List.mem_map.mp hv
                rw [hkey p hp]
                exact (p3 p hp).1
              have hinj := nodup_map_inj (f := fstK s.heap) (l := its) (by rw [hmap]; exact nodupS_iff hnd)
              have hil := rv.length
              refine sorted_tups (k := fstK s.heap) hl.isList (by rw [← hil]; exact hz) hTup hinj fun h' dd out ha hp kp hd hn => ?_
              have hout : out = (sortK (fun p => fstK s.heap p.1) P).map (·.1) := by
                rw [sortK_map (fun p : Value × (Str × List D) => p.1) (fstK s.heap) P, p1]
                exact asc_uniq _ (fun x hx y hy z => hinj x (hp.mem_iff.mp hx) y (hp.mem_iff.mp hy) z) ha (sortK_asc _ its) (hp.trans (sortK_perm _ its).symm)
              have hts : sortK (·.1) ts = (sortK (fun p => fstK s.heap p.1) P).map (·.2) := by
                rw [sortK_congr (k' := fun p => p.2.1) (fun p hp => hkey p hp), sortK_map (fun p : Value × (Str × List D) => p.2) (·.1) P, p2]
              have hden : DenL X.K X.mg μ H (out.map backV) ((sortK (·.1) ts).map fun t => .tup (.str t.1 :: t.2)) := by
                rw [hout, hts, List.map_map, List.map_map]
                exact denL_all fun p hp => (p3 p ((sortK_perm _ P).mem_iff.mp hp)).2
              have h3 : ∀ u ∈ out, ∃ a, u = Value.ref a := fun u hu => by
                obtain ⟨a, _, _, _, _, _, e, _⟩ := hTup u (hp.mem_iff.mp hu)
                exact ⟨a, e⟩
              obtain ⟨n, hn⟩ := hn
              have hfree := I.hok.fresh hd
              obtain ⟨st, ok, dn⟩ := new_lst o hfree hden
              refine ⟨.ref dd, upd H dd (.lst (out.map backV)), I.laid (t' := s.toks) kp hd ⟨?_, out, n, vals_back h3, hn⟩, rfl, k _ _ st ok dn⟩
              rw [List.length_map, hp.length_eq, ← hil]
              exact hz
            · cases e
      · cases e
    · cases e
  · cases e
end PyM
set_option Elab.async false
set_option linter.all false
set_option maxRecDepth 100000
set_option maxHeartbeats 3200000
namespace PyM
open PySem PySem.Spec PyProof.Rows L2

/-! ### len(set(xs)), xs a tuple of a few texts -/
/-- how many there are with these, each once -/
def countNew : List Str → List Str → Nat → Nat
  | _, [], m => m
  | seen, x :: r, m => if seen.any (· == x) = true then countNew seen r m else countNew (seen ++ [x]) r (m + 1)
def lenSetP (S : Store) (d : D) : Option D := match d with
  | .tup ds => if ds.length ≤ 8 then (strsOf ds).map fun xs => .int (countNew [] xs 0) else none
  | _ => none
def lenSet (ma : Env' → M D) : Env' → M D := un1 lenSetP ma
theorem countNew_le : ∀ (r seen : List Str) (m : Nat), countNew seen r m ≤ m + r.length
  | [], _, m => Nat.le_add_right _ _
  | x :: r, seen, m => by
    unfold countNew
    split
    · have := countNew_le r seen m
      simp
      omega
    · have := countNew_le r (seen ++ [x]) (m + 1)
      simp
      omega
abbrev freshSet (led : Bool) : Obj := ⟨.type "set", none, .set #[] 0 (.fresh 0 0 led), #[]⟩
section
variable {prog : Program} {w : World} {A : Around} {E : Value → Shared → Prop} {s : Shared} {R : Result → Shared → Prop}
abbrev HasS (prog : Program) (w : World) (h : Heap) (S : Addr) (seen : List Str) (m : Nat) : Prop := h.SetOf (PySem.strKind prog w) S (fun z => seen.any (· == z)) m
theorem HasS.moved {h h' : Heap} {S : Addr} {seen : List Str} {m : Nat} (x : HasS prog w h S seen m) (k : ∀ o, h.get? S = some o → h'.get? S = some o) : HasS prog w h' S seen m := by
  obtain ⟨o, es, ep, t, ho, r⟩ := x
  exact ⟨o, es, ep, t, k o ho, r⟩
/-- the turns of set.update over texts -/
theorem strTurns {I : Addr} {fp wr : List Addr} {G : Array GenState → Array GenState → Prop} {n : Nat} {P : Nat → Value → Prop} {St : Nat → Shared → Prop} (W : WalksS prog w A.in1 I fp wr G n P St) {S : Addr} (hS : S ∉ fp) {xs : List Str}
    (hn : xs.length = n) (hb : n < 1000) (hv : ∀ i v, P i v → ∃ t, v = .str (xs.getD i Str.empty) t) : ∀ (rest : List Str) (i : Nat) (seen : List Str) (m : Nat) (s : Shared), xs.drop i = rest → i ≤ n → m ≤ i → St i s → HasS prog w s.heap S seen m →
      (∀ s' seen', Moved (S :: wr) G s s' → HasS prog w s'.heap S seen' (countNew seen rest m) → R (.ok (.ret .none)) s') → codeAny (model prog w) A (.builtin "set.update.loop" ⟨[.ref S, .ref I], []⟩) R s
  | [], i, seen, m, s, hd, hi, hm, st, hset, hR => by
    have hin : i = n := by
      have := congrArg List.length hd
      simp at this
      omega
    subst hin
    have hSw : S ∉ wr := fun z => hS (W.sub _ z)
    refine codeAny_builtin PyProof.Rows.F.entry_set_update_loop ?_
    rw [Around.under_plainId PyProof.Rows.F.plain_set_update_loop _]
    show wpAny _ A.in1 (pyNext (.ref I) >>= _) _ _ s
    refine wpAny_bind (W.done s _ _ st fun s1 mv => ?_)
    show wpAny _ A.in1 (ret Value.none) _ _ s1
    exact wpAny_pure (hR s1 seen (mv.mono fun b hb => List.mem_cons_of_mem _ hb) (hset.moved fun o e => mv.heap S o hSw e))
  | x :: rest, i, seen, m, s, hd, hi, hm, st, hset, hR => by
    have hSw : S ∉ wr := fun z => hS (W.sub _ z)
    have hlt : i < n := by
      have := congrArg List.length hd
      simp at this
      omega
    have hx : xs.getD i Str.empty = x := by
      have : xs[i]? = some x := by
        have e := congrArg (·[0]?) hd
        simpa using e
      rw [List.getD_eq_getElem?_getD, this]
      rfl
    have hd' : xs.drop (i + 1) = rest := by
      have e := congrArg List.tail hd
      simpa using e
    refine codeAny_builtin PyProof.Rows.F.entry_set_update_loop ?_
    rw [Around.under_plainId PyProof.Rows.F.plain_set_update_loop _]
    show wpAny _ A.in1 (pyNext (.ref I) >>= _) _ _ s
    refine wpAny_bind (W.item i s _ _ hlt st fun v s1 hP st1 mv => ?_)
    obtain ⟨t, rfl⟩ := hv i v hP
    rw [hx]
    have hset1 : HasS prog w s1.heap S seen m := hset.moved fun o e => mv.heap S o hSw e
    show wpAny _ A.in1 (holding [Value.str x t] (setAdd S (.str x t)) >>= _) _ _ s1
    refine wpAny_bind (wpAny_holding ?_)
    unfold setAdd
    refine wpAny_holding (wpAny_bind ((PySem.strKind prog w).pyHash (k := x) (strKind_is _ _ _ _) ?_))
    refine wpAny_setAddHashed_of (knd := PySem.strKind prog w) (s := { s1 with toks := s1.toks + 1 }) (strKind_is _ _ _ _) rfl hset1 (by unfold scanBound; omega) fun h2 sb set2 => ?_
    have tail : ∀ (seen2 : List Str) (m2 : Nat), m2 ≤ i + 1 → HasS prog w h2 S seen2 m2 → countNew seen2 rest m2 = countNew seen (x :: rest) m →
        codeAny (model prog w) A (.builtin "set.update.loop" ⟨[.ref S, .ref I], []⟩) R { s1 with heap := h2, toks := s1.toks + 1 } := fun seen2 m2 hm2 hh he => by
      refine strTurns W hS hn hb hv rest (i + 1) seen2 m2 _ hd' hlt hm2 (W.frame _ s1 _ _ st1 (Nat.le_succ _) fun b hb' o e => ?_) hh fun s3 seen' mv' hs' => ?_
      · exact (sb.2 b (fun z => hS (by rw [← z]; exact hb'))).trans e
      · rw [he] at hs'
        refine hR s3 seen' (Moved.trans W.gtrans ((mv.mono fun b hb => List.mem_cons_of_mem _ hb).then_heap (Nat.le_succ _) fun b o hb' e => ?_) mv') hs'
        exact (sb.2 b (fun z => hb' (by rw [z]; exact List.mem_cons_self))).trans e
    by_cases hin : seen.any (· == x) = true
    · refine wpAny_pure ⟨plainId_quiet PyProof.Rows.F.plain_set_update_loop _, tail seen m (by omega) (SetOf_congr set2 (fun z => ?_) (if_pos hin)) ?_⟩
      · by_cases hz : z = x
        · subst hz; simp [hin]
        · simp [hz]
      · show _ = if seen.any (· == x) = true then countNew seen rest m else countNew (seen ++ [x]) rest (m + 1)
        rw [if_pos hin]
    · refine wpAny_pure ⟨plainId_quiet PyProof.Rows.F.plain_set_update_loop _, tail (seen ++ [x]) (m + 1) (by omega) (SetOf_congr set2 (fun z => ?_) (if_neg hin)) ?_⟩
      · by_cases hz : z = x
        · subst hz; simp
        · have : (x == z) = false := beq_eq_false_iff_ne.mpr fun e => hz e.symm
          simp [hz, this]
      · show _ = if seen.any (· == x) = true then countNew seen rest m else countNew (seen ++ [x]) rest (m + 1)
        rw [if_neg hin]
/-- set(t), t a tuple of texts -/
theorem set_of_texts {l : Addr} {items : Array Value} {xs : List Str} {Q : Value → Shared → Prop} (hh : A.handled = none) (hl : s.heap.IsTuple l items) (hi : StrsAre items.toList xs) (hb : xs.length < 1000)
    (h : ∀ (h' : Heap) (tk : Nat) (seen : List Str), HasS prog w h' s.heap.objs.size seen (countNew [] xs 0) → (∀ b o, b < s.heap.objs.size → s.heap.get? b = some o → h'.get? b = some o) → Q (.ref s.heap.objs.size) { s with heap := h', toks := tk }) :
    wpAny (model prog w) A (call (.type "set") [.ref l]) Q E s := by
  have C := PySem.F.called_set
  obtain ⟨c, tl, hmro⟩ := C.mro
  have hmade := C.made
  have hsub := C.sub
  refine wpAny_call (codeAny_of_tree ?_)
  show wpAny _ _ (callAny (.type "set") _) _ _ _
  refine wpAny_pure ⟨Code.quiet_builtin _ (by decide +kernel), codeAny_builtin PySem.F.entry_type_call ?_⟩
  rw [Around.under_plain (weight_type_call_type "set" [.ref l] []) rfl]
  have h1 := C.notType
  have h2 := C.canCreate
  have hct := PySem.F.typeCall_set_1 (.ref l)
  repeat (any_goals (first | assumption | wp_step))
  refine codeAny_mono (code_set_new_1 (.ref l) (E := E) (Q₁ := fun obj s₁ => ∃ led : Bool, obj = .ref s.heap.objs.size ∧ s₁ = { s with heap := s.heap.push (freshSet led) }) fun led => ⟨led, rfl, rfl⟩) fun r s₁ hr => ?_
  match r, hr with
  | .error e, hr => exact hr
  | .ok (.next), hr => exact hr.elim
  | .ok (.brk), hr => exact hr.elim
  | .ok (.cont), hr => exact hr.elim
  | .ok (.ret obj), hr =>
    obtain ⟨led, rfl, rfl⟩ := hr
    have hnew : (s.heap.push (freshSet led)).get? s.heap.objs.size = some (freshSet led) := Heap.get?_push_size _ rfl
    have hT : Shared.TypeIs { s with heap := s.heap.push (freshSet led) } (.ref s.heap.objs.size) "set" := ⟨_, hnew, rfl⟩
    have hli := C.init.lookup
    have hbi := C.init.bind (.ref s.heap.objs.size)
    repeat (any_goals (first | assumption | wp_step))
    refine codeAny_mono (codeAny_call_builtin (R := wants (fun r s₂ => r = .none ∧ ∃ h' tk seen, s₂ = { s with heap := h', toks := tk } ∧ HasS prog w h' s.heap.objs.size seen (countNew [] xs 0) ∧ (∀ b o, b < s.heap.objs.size → s.heap.get? b = some o → h'.get? b = some o)) E)
      C.init.plain PySem.F.entry_set_init (check_set_init_1 hT ?_)) fun r₂ s₂ hr₂ => ?_
    · obtain ⟨⟨ocls, odict, odata, oslots⟩, hol, hcl, nl, hdl⟩ := hl
      simp only at hcl hdl
      subst hcl hdl
      have hol' : (s.heap.push (freshSet led)).get? l = some ⟨.type "tuple", odict, .seq items nl, oslots⟩ := Heap.get?_push_of_some _ hol
      have n1 := PySem.F.sub_tuple_set
      have n2 := PySem.F.sub_tuple_frozenset
      have n3 : (Value.type "tuple" == Value.type "dict") = false := by decide
      have hlt : l < s.heap.objs.size := Heap.lt_size hol
      have ht : (s.heap.push (freshSet led)).IsTuple l items := ⟨_, hol', rfl, nl, rfl⟩
      unfold Builtin.«set.__init__» noKeywords Builtin.Frozenset.updateFrom
      generalize hPI : pyIter = PI
      wp_walk
      subst hPI
      refine wpAny_pyIter_tuple ht (wpAny_bind (wpAny_runValue ?_))
      have h3 : A.in1.in1.in1.handled = none := by simp [hh]
      have hsz1 : (s.heap.push (freshSet led)).objs.size = s.heap.objs.size + 1 := Heap.size_push ..
      have hlI : l ≠ (s.heap.push (freshSet led)).objs.size := by
        rw [hsz1]
        exact Nat.ne_of_lt (Nat.lt_succ_of_lt hlt)
      have hSf : s.heap.objs.size ∉ [(s.heap.push (freshSet led)).objs.size, l] := by
        simp only [List.mem_cons, List.not_mem_nil, or_false, not_or]
        exact ⟨by rw [hsz1]; exact Nat.ne_of_lt (Nat.lt_succ_self _), Nat.ne_of_gt hlt⟩
      have hlen : xs.length = items.size := by rw [← StrsAre.len_eq hi, Array.length_toList]
      have hv : ∀ (i : Nat) (v : Value), items[i]? = some v → ∃ t, v = .str (xs.getD i Str.empty) t := fun i v e => SS.strs_at hi i v (by rw [Array.getElem?_toList]; exact e)
      refine strTurns (Walks.tuple h3 _ l hlI items).toS hSf hlen (by omega) hv xs 0 [] 0 _ rfl (Nat.zero_le _) (Nat.le_refl _) ⟨⟨_, Heap.get?_push_size _ rfl, rfl, rfl⟩, ht.push _⟩ ?_ fun s' seen' mv hs' => ?_
      · exact SetOf_congr ((setObjOf_fresh (knd := PySem.strKind prog w) led).setOf (Heap.get?_push_of_some _ hnew) (by unfold scanBound; omega)) (fun _ => rfl) rfl
      · obtain ⟨h', g', d', tk', os'⟩ := s'
        obtain rfl : g' = s.gens := mv.gens
        obtain rfl : d' = s.drawn := mv.drawn
        obtain rfl : os' = s.os := mv.os
        show wpAny _ _ _ _ _ _
        refine wpAny_pure ?_
        show wpAny _ _ (ret Value.none) _ _ _
        refine wpAny_pure ⟨rfl, h', tk', seen', rfl, hs', fun b o hb e => mv.heap b o ?_ (Heap.get?_push_of_some _ (Heap.get?_push_of_some _ e))⟩
        simp only [List.mem_cons, List.not_mem_nil, or_false, not_or]
        exact ⟨Nat.ne_of_lt hb, by rw [hsz1]; exact Nat.ne_of_lt (Nat.lt_succ_of_lt hb)⟩
    · match r₂, hr₂ with
      | .error e, hr₂ => exact hr₂
      | .ok (.next), hr₂ => exact hr₂.elim
      | .ok (.brk), hr₂ => exact hr₂.elim
      | .ok (.cont), hr₂ => exact hr₂.elim
      | .ok (.ret r), hr₂ =>
        obtain ⟨rfl, h', tk, seen, rfl, hs', hk'⟩ := hr₂
        repeat (any_goals (first | assumption | wp_step))
        exact h _ _ seen hs' hk'
end
theorem strsAre_vals : ∀ {ys : List Str} {us : List Value}, Vals (ys.map V.str) us → StrsAre us ys
  | [], _, .nil => .nil
  | y :: ys, _, .cons r t => by
    obtain ⟨k, rfl⟩ := r
    exact .cons y k (strsAre_vals t)
theorem e_lenSet {X : Cx} {E : L2.St → XK} {a : Expr} {ma : Env' → M D} {p p2 q pos : Pos} (ha : ME X E a ma) (hm : X.mg "len" = none) (hm2 : X.mg "set" = none) (hg : Gl X "len" := by rfl) (hg2 : Gl X "set" := by rfl) (hc : X.calm = true := by rfl)
    (na : starEach [a] X.env = (false, eval a X.env) :: starEach [] X.env := by rfl) : ME X E (.Call (.Name "len" p) [.Call (.Name "set" p2) [a] [] q] [] pos) (lenSet ma) := by
  refine ⟨fun pins s σ H Q I h => ?_⟩
  obtain ⟨ρ, μ, S, he, ho, h⟩ := h
  have hA : tE X.K X.mg E ma σ H fun x H1 => ∃ (l : Addr) (xs : List Str), x = .ref l ∧ SqT X.K H1 l (xs.map V.str) ∧ xs.length ≤ 8 ∧ Q (.int (countNew [] xs 0)) H1 := by
    refine tE.run (R := fun r => PostD X.K X.mg μ H (E σ) r Q) he ho h (fun _ _ _ z => z) (fun z => z) fun x S1 hS1 h1 v H1 μ1 s1 o1 e1 d1 => ?_
    clear hS1
    unfold M.op1 at h1
    cases qq : lenSetP S1 x with
    | none => rw [qq] at h1; exact h1.elim
    | some d =>
      rw [qq] at h1
      unfold lenSetP at qq
      split at qq
      · rename_i ds
        split at qq
        · rename_i h8
          cases qs : strsOf ds with
          | none => rw [qs] at qq; cases qq
          | some xs =>
            rw [qs] at qq
            obtain rfl := Option.some.inj qq
            cases d1 with
            | tup z1 z2 =>
              have hl := z2.length
              obtain rfl := strsOf_den z2 qs
              exact ⟨_, xs, rfl, z1, by simp at hl; omega, h1 _ H1 μ1 s1 o1 (.int _)⟩
        · cases qq
      · cases qq
  refine Call_ (ld_blt I hg hm boot_len ?_)
  refine PyProof.Rows.callWith_builtin1 (PyProof.Rows.args_cons ?_ rfl) rfl rfl
  refine Call_ (ld_blt I hg2 hm2 PyProof.Rows.boot_set ?_)
  refine PyProof.Rows.callWith_type1 (PyProof.Rows.args_cons (thn (ha.run pins s σ H _ I hA) fun v s1 ⟨x, H1, I1, r1, q1⟩ => PyProof.Rows.args_nil ?_) na) na rfl
  obtain ⟨l, xs, rfl, hq, h8, q1⟩ := q1
  cases r1
  obtain ⟨its, r, pl, hz⟩ := I1.tuple hq
  refine set_of_texts (I1.ok.hd hc) pl (by simpa using strsAre_vals r) (by omega) fun h' tk seen hS hk => ?_
  refine PyProof.Rows.args_nil ?_
  obtain ⟨o, es, ep, t, hoo, hex, hd, _, _, _, hf, hn⟩ := hS
  have I2 : Inv X pins σ H1 { s1 with heap := h', toks := tk } := I1.kept fun b o e => hk b o (Heap.lt_size e) e
  have hle := countNew_le xs [] 0
  exact call_len_set hoo hex hd hf (by rw [hn]; omega) ⟨.int _, H1, I2.tok _, ⟨_, by rw [hn]⟩, q1⟩
end PyM
set_option Elab.async false
set_option linter.all false
set_option maxRecDepth 100000
set_option maxHeartbeats 3200000
namespace PyM
open PySem PySem.Spec PyProof.Rows L2

/-! ### d.update(e), both dicts -/
def updP (S : Store) (a b : D) : Option Store := match cellD S a, cellD S b with
  | some (n, kvs), some (m, more) => if n ≠ m ∧ kvs.length + more.length ≤ 100 then some (S.set n (.dct (mergeD kvs more))) else none
  | _, _ => none
def updF (S : Store) (a : D) (ds : List D) : Option (D × Store) := match ds with
  | [b] => (updP S a b).map fun S' => (.non, S')
  | _ => none
def updE (mo ma : Env' → M D) : Env' → M D := fun ρ => M.bind (mo ρ) fun o => M.bind (M.guard fun S => (cellD S o).isSome) fun _ => M.bind (ma ρ) fun e => M.opM updF o [e]
def updM (mo ma : Env' → M D) : MSt := exprM (updE mo ma)
section
variable {X : Cx} {E : L2.St → XK} {a b : Expr} {mo ma : Env' → M D} {apos cpos pos : Pos}
theorem m_update : MtR X "dict.update" (rPM X.K X.mg updF) := by
  intro pins s σ H x xs v us Q I rx rs h
  obtain ⟨μ, S, a, ds, d, S', o, da, dd, e, k⟩ := h
  unfold updF at e
  split at e
  · rename_i b
    cases q : updP S a b with
    | none => rw [q] at e; cases e
    | some S2 =>
      rw [q] at e
      injection e with e
      injection e with e1 e2
      subst e1 e2
      unfold updP at q
      split at q
      · rename_i n kvs m more q1 q2
        split at q
        · rename_i hc
          obtain rfl := Option.some.inj q
          obtain ⟨p, ws, rfl, rfl, hn, hp, h1, h2⟩ := cellD_den o da q1
          obtain ⟨w, rfl, dw⟩ := den1 dd
          obtain ⟨p2, ws2, rfl, rfl, hn2, hp2, h3, h4⟩ := cellD_den o dw q2
          have hne : p ≠ p2 := fun z => hc.1 (by
            subst z
            exact (List.getElem?_inj (List.getElem?_eq_some_iff.mp hn).1 o.nd).mp (by rw [hn, hn2]))
          cases rx
          obtain ⟨u, rfl, ru⟩ := rs.one
          cases ru
          obtain ⟨z1, hd1, vs1, r1, dd1⟩ := dk_of I.hok hp
          obtain ⟨z2, hd2, vs2, r2, dd2⟩ := dk_of I.hok hp2
          have l1 : ws.length = kvs.length := by simpa using congrArg List.length h1
          have l2 : ws2.length = more.length := by simpa using congrArg List.length h3
          have l3 := r1.length
          have l4 := r2.length
          have hml := length_mergeK ws2 ws
          refine call_meetsIn PySem.F.slot_dict_update dd1.typeIs PySem.F.entry_dict_update (PySem.F.args_dict_update_2 _ _) (meets_dict_update (mixKind X.prog X.w) p p2 hne hd2) ⟨vs1, vs2, dd1, dd2, (by rw [sizeLine_eq]; omega), fun h' dd' _ hs => ?_⟩
          have he : ∃ q, h'.get? p = some q := let ⟨q, _, _, hq, _⟩ := dd'; ⟨q, hq⟩
          obtain ⟨g1, g2⟩ := merge_den h3 h4 h1 h2
          refine ⟨.non, upd H p (.dK (mergeK ws ws2)), d_write (t' := s.toks) I (by rw [hp]; trivial) hs he (dk_new (by rw [sizeLine_eq]; omega) hd1 (KV.merge r2 r1) dd'), rfl, ?_⟩
          exact k _ _ μ (.put hn) (o.putD hn g1 g2) .non
        · cases q
      · cases q
  · cases e
theorem e_upd (ho : ME X E a mo) (hb : ME X E b ma) (hbase : attributeBase a "update" X.env (eval a X.env) = eval a X.env := by rfl)
    (hfew : ((backTo cpos (starEach [b] X.env)).all (fun x => !x.1) && (backToKw cpos (keywordEach [] X.env)).all (fun x => x.1.isSome)
      && decide (([b] : List Expr).length + ([] : List Keyword).length + (if ([] : List Keyword).isEmpty then 0 else 1) < 30)) = true := by rfl)
    (hline : (apos.endLine == cpos.line) = true := by rfl) (hs : starEach [b] X.env = (false, eval b X.env) :: starEach [] X.env := by rfl) (hplain : (backTo cpos (starEach [] X.env)).any (·.1) = false := by rfl) :
    ME X E (.Call (.Attribute a "update" apos) [b] [] cpos) (updE mo ma) := (pe_bm PySem.F.plainAttrs_dict PySem.F.slot_dict_update PySem.F.type_dict_update m_update ho (a_cons (E := E) hb a_nil hs) hbase hfew hline hs hplain).weak fun σ H Q h => by
  obtain ⟨ρ, μ, S, he, hok, h⟩ := h
  refine tE.run (R := fun r => PostD X.K X.mg μ H (E σ) r Q) he hok h (fun _ _ _ z => z) (fun z => z) fun x S1 _ h1 v H1 μ1 s1 o1 e1 d1 => ?_
  rw [guard_bind] at h1
  cases g : cellD S1 x with
  | none => rw [if_neg (by rw [g]; decide)] at h1; exact h1.elim
  | some nk =>
    rw [if_pos (by rw [g]; rfl)] at h1
    obtain ⟨n, kvs⟩ := nk
    obtain ⟨p, ws, _, rfl, hn, hp, _, _⟩ := cellD_den o1 d1 g
    refine ⟨.inr (.inr (.inl ⟨rfl, .inl ⟨ws, hp⟩⟩)), ?_⟩
    have h2 : PostD X.K X.mg μ1 H1 (E σ) (M.bind (consM ma nilM ρ) (fun ds => M.opM updF x ds) S1) Q := by
      have h1 := PostD.of s1 h1
      unfold consM nilM M.bind M.pure
      unfold M.bind at h1
      cases q : ma ρ S1 with
      | bad => rw [q] at h1; exact h1
      | exc c fs S' => rw [q] at h1; exact h1
      | ok y S2 => rw [q] at h1; exact h1
    refine tA'.run (R := fun r => PostD X.K X.mg μ1 H1 (E σ) r Q) e1 o1 h2 (fun _ _ _ z => z) (fun z => z) fun ds S2 _ h3 vs H2 μ2 s2 o2 e2 d2 => ?_
    unfold M.opM at h3
    cases q : updF S2 x ds with
    | none => rw [q] at h3; exact h3.elim
    | some r =>
      obtain ⟨d, S3⟩ := r
      rw [q] at h3
      exact ⟨μ2, S2, x, ds, d, S3, o2, d1.mono o1 s2, d2, q, fun v' H' μ' st o' hd => h3 v' H' μ' (s2.trans st) o' hd⟩
theorem s_upd (ho : ME X E a mo) (hb : ME X E b ma) (hbase : attributeBase a "update" X.env (eval a X.env) = eval a X.env := by rfl)
    (hfew : ((backTo cpos (starEach [b] X.env)).all (fun x => !x.1) && (backToKw cpos (keywordEach [] X.env)).all (fun x => x.1.isSome)
      && decide (([b] : List Expr).length + ([] : List Keyword).length + (if ([] : List Keyword).isEmpty then 0 else 1) < 30)) = true := by rfl)
    (hline : (apos.endLine == cpos.line) = true := by rfl) (hs : starEach [b] X.env = (false, eval b X.env) :: starEach [] X.env := by rfl) (hplain : (backTo cpos (starEach [] X.env)).any (·.1) = false := by rfl)
    (hsw : swapsWith (.Call (.Attribute a "update" apos) [b] [] cpos) none pos.line X.env = pure false := by rfl) : MS X E (.Expr (.Call (.Attribute a "update" apos) [b] [] cpos) pos) (updM mo ma) := s_expr (e_upd ho hb hbase hfew hline hs hplain) hsw
end
end PyM
set_option Elab.async false
set_option linter.all false
set_option maxRecDepth 100000
set_option maxHeartbeats 3200000
namespace PyM
open PySem PySem.Spec PyProof.Rows L2

/-! ### zip of an ascii text and a tuple that is not shorter -/
abbrev AscIt (h : Heap) (ia : Addr) (x : Str) (t : Tok) (k : Nat) : Prop := h.IsStrIter ia "str_ascii_iterator" x t k
section
variable {prog : Program} {w : World} {A : Around} {E : Value → Shared → Prop} {s : Shared} {zp tI tO ia ib lb : Addr} {x : Str} {t : Tok} {ka kb c : Nat} {ys : Array Value} {y u v : Value}
theorem zipXT_item {Q : Value → Shared → Prop} (D : ZipApart zp tI tO ia ib lb lb) (hZ : IsZip s.heap zp tI tO .none) (hI : IsPair s.heap tI (.ref ia) (.ref ib)) (hO : IsPair s.heap tO u v)
    (ha : AscIt s.heap ia x t ka) (hb : s.heap.IsTupleIter ib lb kb) (hl : s.heap.IsTuple lb ys) (hc : x.cps[ka]? = some c) (hy : ys[kb]? = some y)
    (hQ : ∀ h', IsZip h' zp tI tO (rawInt s.heap.objs.size) → IsPair h' tO (.str ⟨#[c]⟩ s.toks) y → AscIt h' ia x t (ka + 1) → h'.IsTupleIter ib lb (kb + 1) → IsPair h' s.heap.objs.size (.str ⟨#[c]⟩ s.toks) y → h'.objs.size = s.heap.objs.size + 1 →
      (∀ d o, d ≠ zp → d ≠ tO → d ≠ ia → d ≠ ib → s.heap.get? d = some o → h'.get? d = some o) → Q (.ref s.heap.objs.size) { s with heap := h', toks := s.toks + 1 }) :
    wpAny (model prog w) A (Builtin.«zip.__next__» ⟨[.ref zp], []⟩) (fun fin s' => ∃ r, fin = .done (.ret r) ∧ Q r s') E s := by
  show wpAny _ _ (field (.ref zp) 2 >>= _) _ _ _
  refine wpAny_bind (wpAny_field hZ rfl (x := .bool false) rfl ?_)
  show wpAny _ _ (field (.ref zp) 3 >>= _) _ _ _
  refine wpAny_bind (wpAny_field hZ rfl (x := .ref tI) rfl (wpAny_bind (wpAny_seqItems hI rfl ?_)))
  show wpAny _ _ (Builtin.SmallTypes.ownedTupleIsFree (.ref zp) >>= _) _ _ _
  refine wpAny_bind ?_
  unfold Builtin.SmallTypes.ownedTupleIsFree; refine wpAny_bind (wpAny_field hZ rfl (x := .none) rfl (wpAny_pure ?_))
  simp only [if_true]
  refine wpAny_bind (wpAny_rule (wpAny_bind (wpAny_field hZ rfl (x := .ref tO) rfl ?_)))
  refine wpAny_bind (wpAny_setField_rec hZ (by simp) fun g1 hZ1 q1 => ?_)
  replace hZ1 : IsZip g1 zp tI tO .ellipsis := hZ1
  refine wpAny_bind ?_
  simp only [List.forIn_cons, List.forIn_nil, List.zipIdx_cons, List.zipIdx_nil]
  refine wpAny_bind (wpAny_bind (wpAny_onRaise ?_))
  show wpAny _ _ (Builtin.SmallTypes.nextOf (.ref ia) >>= _) _ _ _
  refine wpAny_bind (wpAny_nextOf_ascii_item (ha.extBut q1.extBut D.i1z) hc fun g2 ha2 q2 => wpAny_pure ?_)
  have hO2 : IsPair g2 tO u v := q2.extBut _ _ D.TOi1 (q1.extBut _ _ D.TOz hO)
  refine wpAny_bind (wpAny_seqItems hO2 rfl (wpAny_bind (wpAny_updateSeq_pair hO2 fun g3 hO3 q3 => ?_)))
  replace hO3 : IsPair g3 tO (.str ⟨#[c]⟩ s.toks) v := hO3
  refine wpAny_bind (wpAny_letGo (wpAny_pure ?_))
  refine wpAny_bind (wpAny_bind (wpAny_onRaise ?_))
  show wpAny _ _ (Builtin.SmallTypes.nextOf (.ref ib) >>= _) _ _ _
  have hb3 : g3.IsTupleIter ib lb kb := ((hb.extBut q1.extBut D.i2z).extBut q2.extBut D.i12.symm).extBut q3.extBut D.TOi2.symm
  have hl3 : g3.IsTuple lb ys := ((hl.extBut q1.extBut D.l2z).extBut q2.extBut D.l2i1).extBut q3.extBut D.l2TO
  refine wpAny_bind (RZ.nextOf_tuple_item hb3 hl3 hy fun g4 hb4 q4 => wpAny_pure ?_)
  have hO4 : IsPair g4 tO (.str ⟨#[c]⟩ s.toks) v := q4.extBut _ _ D.TOi2 hO3
  refine wpAny_bind (wpAny_seqItems hO4 rfl (wpAny_bind (wpAny_updateSeq_pair hO4 fun g5 hO5 q5 => ?_)))
  replace hO5 : IsPair g5 tO (.str ⟨#[c]⟩ s.toks) y := hO5
  refine wpAny_bind (wpAny_letGo (wpAny_pure (wpAny_pure ?_)))
  refine wpAny_bind (wpAny_seqItems hO5 rfl (wpAny_bind (wpAny_newTuple ?_)))
  have hsz : g5.objs.size = s.heap.objs.size := by rw [q5.1, q4.1, q3.1, q2.1, q1.1]
  have hZ5 : IsZip g5 zp tI tO .ellipsis := q5.extBut _ _ D.TOz.symm (q4.extBut _ _ D.i2z.symm (q3.extBut _ _ D.TOz.symm (q2.extBut _ _ D.i1z.symm hZ1)))
  have keep5 : ∀ d o, d ≠ zp → d ≠ tO → d ≠ ia → d ≠ ib → s.heap.get? d = some o → g5.get? d = some o := fun d o d1 d2 d3 d4 e => q5.extBut _ _ d2 (q4.extBut _ _ d4 (q3.extBut _ _ d2 (q2.extBut _ _ d3 (q1.extBut _ _ d1 e))))
  have ha5 : AscIt g5 ia x t (ka + 1) := ((ha2.extBut q3.extBut D.TOi1.symm).extBut q4.extBut D.i12).extBut q5.extBut D.TOi1.symm
  have hb5 : g5.IsTupleIter ib lb (kb + 1) := hb4.extBut q5.extBut D.TOi2.symm
  have ltZ : zp < g5.objs.size := Heap.lt_size hZ5
  show wpAny _ _ (Builtin.SmallTypes.ownedTupleHandOut (.ref zp) (.ref g5.objs.size) >>= _) _ _ _
  refine wpAny_bind ?_
  unfold Builtin.SmallTypes.ownedTupleHandOut; have hZ6 : IsZip (g5.push { cls := .type "tuple", data := .seq #[.str ⟨#[c]⟩ s.toks, y] }) zp tI tO .ellipsis := Heap.get?_push_of_some _ hZ5
  refine wpAny_bind (wpAny_setField_rec hZ6 (by simp) fun g7 hZ7 q7 => ?_)
  replace hZ7 : IsZip g7 zp tI tO (rawInt g5.objs.size) := hZ7
  refine wpAny_setField_rec hZ7 (by simp) fun g8 hZ8 q8 => ?_
  replace hZ8 : IsZip g8 zp tI tO (rawInt g5.objs.size) := hZ8
  have up : ∀ d o, d ≠ zp → g5.get? d = some o → g8.get? d = some o := fun d o d1 e => q8.extBut _ _ d1 (q7.extBut _ _ d1 (Heap.get?_push_of_some _ e))
  have hT : IsPair g8 g5.objs.size (.str ⟨#[c]⟩ s.toks) y := q8.extBut _ _ (Nat.ne_of_gt ltZ) (q7.extBut _ _ (Nat.ne_of_gt ltZ) (Heap.get?_push_size _ rfl))
  have sz8 : g8.objs.size = g5.objs.size + 1 := by rw [q8.1, q7.1, Heap.size_push]
  rw [hsz] at hZ8 hT sz8
  refine wpAny_pure ⟨_, rfl, ?_⟩
  show Q (.ref g5.objs.size) _
  rw [hsz]
  exact hQ g8 hZ8 (up _ _ D.TOz hO5) (ha5.extBut (b := zp) (fun d o hd e => up d o hd e) D.i1z) (hb5.at fun o e => up _ o D.i2z e) hT sz8 fun d o d1 d2 d3 d4 e => up d o d1 (keep5 d o d1 d2 d3 d4 e)
theorem zipXT_stop {Q : Fin → Shared → Prop} (hh : A.handled = none) (D : ZipApart zp tI tO ia ib lb lb) (hZ : IsZip s.heap zp tI tO .none) (hI : IsPair s.heap tI (.ref ia) (.ref ib))
    (ha : AscIt s.heap ia x t ka) (hc : x.cps[ka]? = none)
    (hE : ∀ h' e, (∀ d o, d ≠ zp → d ≠ tO → d ≠ ia → d ≠ ib → s.heap.get? d = some o → h'.get? d = some o) → (∃ o, h'.get? e = some o ∧ o.cls = .type "StopIteration") → E (.ref e) { s with heap := h' }) :
    wpAny (model prog w) A (Builtin.«zip.__next__» ⟨[.ref zp], []⟩) Q E s := by
  show wpAny _ _ (field (.ref zp) 2 >>= _) _ _ _
  refine wpAny_bind (wpAny_field hZ rfl (x := .bool false) rfl ?_)
  show wpAny _ _ (field (.ref zp) 3 >>= _) _ _ _
  refine wpAny_bind (wpAny_field hZ rfl (x := .ref tI) rfl (wpAny_bind (wpAny_seqItems hI rfl ?_)))
  show wpAny _ _ (Builtin.SmallTypes.ownedTupleIsFree (.ref zp) >>= _) _ _ _
  refine wpAny_bind ?_
  unfold Builtin.SmallTypes.ownedTupleIsFree; refine wpAny_bind (wpAny_field hZ rfl (x := .none) rfl (wpAny_pure ?_))
  simp only [if_true]
  refine wpAny_bind (wpAny_rule (wpAny_bind (wpAny_field hZ rfl (x := .ref tO) rfl ?_)))
  refine wpAny_bind (wpAny_setField_rec hZ (by simp) fun g1 hZ1 q1 => ?_)
  replace hZ1 : IsZip g1 zp tI tO .ellipsis := hZ1
  refine wpAny_bind ?_
  simp only [List.forIn_cons, List.forIn_nil, List.zipIdx_cons, List.zipIdx_nil]
  refine wpAny_bind (wpAny_bind (wpAny_onRaise ?_))
  show wpAny _ _ (Builtin.SmallTypes.nextOf (.ref ia) >>= _) _ _ _
  refine wpAny_bind (wpAny_nextOf_ascii_end hh (ha.extBut q1.extBut D.i1z) hc fun g2 e q2 he => ?_)
  obtain ⟨oe, hoe, hce⟩ := he
  have hZ2 : IsZip g2 zp tI tO .ellipsis := q2 _ _ D.i1z.symm hZ1
  have hez : e ≠ zp := fun z => by
    subst z
    rw [hZ2] at hoe
    cases hoe
    simp at hce
  exact wpAny_setField_rec hZ2 (by simp) fun g3 _ q3 => hE g3 e (fun d o d1 _ d3 _ z => q3.extBut _ _ d1 (q2 _ _ d3 (q1.extBut _ _ d1 z))) ⟨oe, q3.extBut _ _ hez hoe, hce⟩
theorem nextXT_item {Q : Option Value → Shared → Prop} (D : ZipApart zp tI tO ia ib lb lb) (hZ : IsZip s.heap zp tI tO .none) (hI : IsPair s.heap tI (.ref ia) (.ref ib)) (hO : IsPair s.heap tO u v)
    (ha : AscIt s.heap ia x t ka) (hb : s.heap.IsTupleIter ib lb kb) (hl : s.heap.IsTuple lb ys) (hc : x.cps[ka]? = some c) (hy : ys[kb]? = some y)
    (hQ : ∀ h', IsZip h' zp tI tO (rawInt s.heap.objs.size) → IsPair h' tO (.str ⟨#[c]⟩ s.toks) y → AscIt h' ia x t (ka + 1) → h'.IsTupleIter ib lb (kb + 1) → IsPair h' s.heap.objs.size (.str ⟨#[c]⟩ s.toks) y → h'.objs.size = s.heap.objs.size + 1 →
      (∀ d o, d ≠ zp → d ≠ tO → d ≠ ia → d ≠ ib → s.heap.get? d = some o → h'.get? d = some o) → Q (some (.ref s.heap.objs.size)) { s with heap := h', toks := s.toks + 1 }) :
    wpAny (model prog w) A (pyNext (.ref zp)) Q E s := by
  have hT : s.TypeIs (.ref zp) "zip" := ⟨_, hZ, rfl⟩
  unfold pyNext
  exact wpAny_bind (wpAny_attempt (wpAny_callSpecial?_slot (name := Str.ofString "__next__") hT PySem.F.slot_zip_next (wpAny_call_entry PySem.F.slot_zip_next hT PySem.F.entry_zip_next
    (zipXT_item D hZ hI hO ha hb hl hc hy fun h' a1 a2 a3 a4 a5 a6 a7 => wpAny_pure (hQ h' a1 a2 a3 a4 a5 a6 a7)) (PySem.F.args_zip_next_1 _))))
theorem nextXT_stop {Q : Option Value → Shared → Prop} (hh : A.handled = none) (D : ZipApart zp tI tO ia ib lb lb) (hZ : IsZip s.heap zp tI tO .none) (hI : IsPair s.heap tI (.ref ia) (.ref ib))
    (ha : AscIt s.heap ia x t ka) (hc : x.cps[ka]? = none) (hQ : ∀ h', (∀ d o, d ≠ zp → d ≠ tO → d ≠ ia → d ≠ ib → s.heap.get? d = some o → h'.get? d = some o) → Q none { s with heap := h' }) : wpAny (model prog w) A (pyNext (.ref zp)) Q E s := by
  have hT : s.TypeIs (.ref zp) "zip" := ⟨_, hZ, rfl⟩
  unfold pyNext
  refine wpAny_bind (wpAny_attempt (wpAny_callSpecial?_slot (name := Str.ofString "__next__") hT PySem.F.slot_zip_next (wpAny_call_entry PySem.F.slot_zip_next hT PySem.F.entry_zip_next (zipXT_stop hh D hZ hI ha hc fun h' e hk he => ?_) (PySem.F.args_zip_next_1 _))))
  obtain ⟨o, ho, hcl⟩ := he
  exact wpAny_bind (wpAny_isInstance (T := "StopIteration") (b := true) ⟨o, ho, hcl⟩ isSubtype_stop (wpAny_pure (hQ _ hk)))
end
/-! the heaps on the way to the zip -/
abbrev zx1 (h : Heap) (x : Str) (t : Tok) : Heap := h.push ⟨.type "str_ascii_iterator", none, .fields #[.str x t, .int 0 0], #[]⟩
abbrev zx2 (h : Heap) (x : Str) (t : Tok) (lb : Addr) : Heap := (zx1 h x t).push ⟨.type "tuple_iterator", none, .fields #[.ref lb, .int 0 0], #[]⟩
abbrev zx3 (h : Heap) (x : Str) (t : Tok) (lb : Addr) : Heap := (zx2 h x t lb).push ⟨.type "tuple", none, .seq #[.ref h.objs.size, .ref (zx1 h x t).objs.size], #[]⟩
abbrev zx4 (h : Heap) (x : Str) (t : Tok) (lb : Addr) : Heap := (zx3 h x t lb).push ⟨.type "tuple", none, .seq #[.none, .none], #[]⟩
abbrev zx5 (h : Heap) (x : Str) (t : Tok) (lb : Addr) : Heap := (zx4 h x t lb).push ⟨.type "zip", none, .fields #[.none, .bool false, .bool false, .ref (zx2 h x t lb).objs.size, .ref (zx3 h x t lb).objs.size], #[]⟩
theorem zipXT_made (x : Str) (t : Tok) (lb : Addr) (ys : Array Value) (hx : x.cps.all (· < 128) = true) :
    Meets (Builtin.«zip.__new__» ⟨[.type "zip", .str x t, .ref lb], []⟩) (fun _ R s => s.heap.IsTuple lb ys ∧ R (.ok (.ret (.ref (zx4 s.heap x t lb).objs.size))) { s with heap := zx5 s.heap x t lb }) :=
  .of_wp fun prog w A R s h => by
    obtain ⟨hp, g, d, tk, os⟩ := s
    obtain ⟨hl, h⟩ := h
    have hsub := sub_zip
    have hL : Heap.IsTuple (Shared.heap ⟨hp.push ⟨.type "str_ascii_iterator", none, .fields #[.str x t, .int 0 0], #[]⟩, g, d, tk, os⟩) lb ys := Heap.IsTuple.push hl _
    wp_walk using wpAny_pyIter_ascii hx, wpAny_pyIter_tuple hL
    exact ⟨_, rfl, h⟩
section
variable {prog : Program} {w : World} {A : Around} {E : Value → Shared → Prop} {s : Shared}
theorem call_zipXT {x : Str} {t : Tok} {lb : Addr} {ys : Array Value} {Q : Value → Shared → Prop} (hx : x.cps.all (· < 128) = true) (hl : s.heap.IsTuple lb ys)
    (h : ∀ h', IsZip h' (s.heap.objs.size + 4) (s.heap.objs.size + 2) (s.heap.objs.size + 3) .none → IsPair h' (s.heap.objs.size + 2) (.ref s.heap.objs.size) (.ref (s.heap.objs.size + 1)) → IsPair h' (s.heap.objs.size + 3) .none .none →
      AscIt h' s.heap.objs.size x t 0 → h'.IsTupleIter (s.heap.objs.size + 1) lb 0 → h'.objs.size = s.heap.objs.size + 5 → (∀ c o, s.heap.get? c = some o → h'.get? c = some o) → Q (.ref (s.heap.objs.size + 4)) { s with heap := h' }) :
    wpAny (model prog w) A (call (.type "zip") [.str x t, .ref lb]) Q E s := by
  refine callType_new PySem.F.called_zip (by decide) (PySem.F.typeCall_zip_2 _ _) (PySem.F.newCall_zip_2 _ _) (fun obj => PySem.F.args_object_init_3 obj _ _) PySem.F.entry_zip_new (zipXT_made x t lb ys hx) ⟨hl, ?_⟩
  have z1 : (zx1 s.heap x t).objs.size = s.heap.objs.size + 1 := Heap.size_push ..
  have z2 : (zx2 s.heap x t lb).objs.size = s.heap.objs.size + 2 := by rw [Heap.size_push, z1]
  have z3 : (zx3 s.heap x t lb).objs.size = s.heap.objs.size + 3 := by rw [Heap.size_push, z2]
  have z4 : (zx4 s.heap x t lb).objs.size = s.heap.objs.size + 4 := by rw [Heap.size_push, z3]
  have z5 : (zx5 s.heap x t lb).objs.size = s.heap.objs.size + 5 := by rw [Heap.size_push, z4]
  have g5 : (zx5 s.heap x t lb).get? (zx4 s.heap x t lb).objs.size = some _ := Heap.get?_push_size _ rfl
  have g4 : (zx5 s.heap x t lb).get? (zx3 s.heap x t lb).objs.size = some _ := Heap.get?_push_of_some _ (Heap.get?_push_size _ rfl)
  have g3 : (zx5 s.heap x t lb).get? (zx2 s.heap x t lb).objs.size = some _ := Heap.get?_push_of_some _ (Heap.get?_push_of_some _ (Heap.get?_push_size _ rfl))
  have g2 : (zx5 s.heap x t lb).get? (zx1 s.heap x t).objs.size = some _ := Heap.get?_push_of_some _ (Heap.get?_push_of_some _ (Heap.get?_push_of_some _ (Heap.get?_push_size _ rfl)))
  have up : ∀ c o, s.heap.get? c = some o → (zx5 s.heap x t lb).get? c = some o := fun c o e => Heap.get?_push_of_some _ (Heap.get?_push_of_some _ (Heap.get?_push_of_some _ (Heap.get?_push_of_some _ (Heap.get?_push_of_some _ e))))
  have g1 : (zx5 s.heap x t lb).get? s.heap.objs.size = some _ := Heap.get?_push_of_some _ (Heap.get?_push_of_some _ (Heap.get?_push_of_some _ (Heap.get?_push_of_some _ (Heap.get?_push_size _ rfl))))
  show _ ∧ _
  rw [z2, z3, z4] at g5
  rw [z1, z2] at g3
  rw [z3] at g4
  rw [z1] at g2
  rw [z4]
  exact ⟨⟨_, g5, rfl⟩, h _ g5 g3 g4 ⟨_, g1, rfl, rfl⟩ ⟨_, g2, rfl, rfl⟩ z5 up⟩
end
/-- the pairs, by turns -/
def ItXT (K : W.Frag) (x : Str) (b : Addr) : It :=
  ⟨fun i H => ∃ (c : Nat) (ys : List V) (y : V), x.cps[i]? = some c ∧ SqT K H b ys ∧ ys[i]? = some y,
    fun i H v H' => ∃ T c y, v = .ref T ∧ H T = none ∧ H' = upd H T (.tup [.str ⟨#[c]⟩, y]) ∧ x.cps[i]? = some c ∧ ∀ ys, SqT K H b ys → ys[i]? = some y,
    fun i _ => x.cps[i]? = none⟩
theorem turn_XT {P : Program} {w : World} {K : W.Frag} {elts : List Expr} {kk : Nat} {tpos : Pos} {x : Str} {t : Tok} {b z TI TO i1 i2 : Addr} (D : ZipApart z TI TO i1 i2 b b) :
    Turn P w K (.Tuple elts kk tpos) (ItXT K x b) [z, TI, TO, i1, i2] z (fun i h => IsZip h z TI TO .none ∧ IsPair h TI (.ref i1) (.ref i2) ∧ (∃ u v, IsPair h TO u v) ∧ AscIt h i1 x t i ∧ h.IsTupleIter i2 b i) where
  mem := by simp
  obj := fun i h st c hc => by
    obtain ⟨hz, hTI, ⟨u, v, hTO⟩, ⟨o1, e1, _, d1⟩, ⟨o2, e2, _, d2⟩⟩ := st
    have hc' : c = z ∨ c = TI ∨ c = TO ∨ c = i1 ∨ c = i2 := by simpa using hc
    rcases hc' with q | q | q | q | q <;> rw [q]
    · exact ⟨_, hz, fun v q => nomatch q⟩
    · exact ⟨_, hTI, fun v q => nomatch q⟩
    · exact ⟨_, hTO, fun v q => nomatch q⟩
    · exact ⟨o1, e1, fun v q => by rw [d1] at q; cases q⟩
    · exact ⟨o2, e2, fun v q => by rw [d2] at q; cases q⟩
  keep := fun i h h' st k => by
    obtain ⟨hz, hTI, ⟨u, v, hTO⟩, ⟨o1, e1, c1, d1⟩, h2⟩ := st
    exact ⟨k z (by simp) _ hz, k TI (by simp) _ hTI, ⟨u, v, k TO (by simp) _ hTO⟩, ⟨o1, k i1 (by simp) _ e1, c1, d1⟩, h2.at fun o q => k i2 (by simp) o q⟩
  item := by
    intro X hP hw hK hc i pins s σ H E I hf st hg
    subst hP hw hK
    obtain ⟨hz, hTI, ⟨u0, v0, hTO⟩, h1, h2⟩ := st
    obtain ⟨c, ys, y, hcx, hqy, hy⟩ := hg
    obtain ⟨its2, rv2, p2, _⟩ := I.tuple hqy
    obtain ⟨u2, hu2, ru2⟩ := rv2.get hy
    have ltz : z < s.heap.objs.size := Heap.lt_size hz
    refine nextXT_item D hz hTI hTO h1 h2 p2 (y := u2) hcx (by simpa using hu2) fun h' z' TO' h1' h2' hT hsz hk => ?_
    refine ⟨_, rfl, wpAny_letOwnedTupleGo_zip (s := { s with heap := h', toks := s.toks + 1 }) z' fun h'' z'' sb => ?_⟩
    have hT2 : h''.get? s.heap.objs.size = some { cls := .type "tuple", data := .seq #[.str ⟨#[c]⟩ s.toks, u2] } := (sb.2 _ (Nat.ne_of_gt ltz)).trans hT
    have hnew : ObjOk X.prog X.w (upd H s.heap.objs.size (.tup [.str ⟨#[c]⟩, y])) h'' s.heap.objs.size (.tup [.str ⟨#[c]⟩, y]) := ⟨by show 2 ≤ sizeLine; decide, [.str ⟨#[c]⟩ s.toks, u2], .cons ⟨_, rfl⟩ (.cons ru2 .nil), ⟨_, hT2, rfl, _, rfl⟩⟩
    have I1 : Inv X pins σ (upd H s.heap.objs.size (.tup [.str ⟨#[c]⟩, y])) { s with heap := h'', toks := s.toks + 1 } := I.turnedNew (t' := s.toks + 1) (ch := [z, TI, TO, i1, i2])
      (fun d o hb q => (sb.2 d (fun q' => hb (by simp [q']))).trans (hk d o (fun q' => hb (by simp [q'])) (fun q' => hb (by simp [q'])) (fun q' => hb (by simp [q'])) (fun q' => hb (by simp [q'])) q)) hf (Nat.le_refl _) hnew
    refine ⟨.ref s.heap.objs.size, _, I1, rfl, ⟨_, c, y, rfl, I.hok.fresh (Nat.le_refl _), rfl, hcx, fun l hl => by rw [I.tuple_inj hl hqy]; exact hy⟩, ⟨z'', ?_, ⟨.str ⟨#[c]⟩ s.toks, u2, ?_⟩, ?_, ?_⟩, fun d hd => ?_⟩
    · exact (sb.2 _ D.TIz).trans (hk _ _ D.TIz D.TITO D.TIi1 D.TIi2 hTI)
    · exact (sb.2 _ D.TOz).trans TO'
    · obtain ⟨o1, e1, c1, d1⟩ := h1'
      exact ⟨o1, (sb.2 _ D.i1z).trans e1, c1, d1⟩
    · exact h2'.at fun o q => (sb.2 _ D.i2z).trans q
    · have hlt : d < s.heap.objs.size := by
        have e' : d = z ∨ d = TI ∨ d = TO ∨ d = i1 ∨ d = i2 := by simpa using hd
        rcases e' with q | q | q | q | q <;> rw [q]
        · exact ltz
        · exact Heap.lt_size hTI
        · exact Heap.lt_size hTO
        · obtain ⟨_, e1, _⟩ := h1; exact Heap.lt_size e1
        · obtain ⟨_, e2, _⟩ := h2; exact Heap.lt_size e2
      rw [upd_ne (Nat.ne_of_lt hlt)]
      exact (hf d hd).1
  done := by
    intro X hP hw hK hc i pins s σ H E I hf st hg
    subst hP hw hK
    obtain ⟨hz, hTI, ⟨u0, v0, hTO⟩, h1, h2⟩ := st
    exact nextXT_stop (I.ok.hd hc) D hz hTI h1 hg fun h' hk => ⟨rfl, I.turnedL (t' := s.toks) (ch := [z, TI, TO, i1, i2]) (fun d o hb q =>
      hk d o (fun q' => hb (by simp [q'])) (fun q' => hb (by simp [q'])) (fun q' => hb (by simp [q'])) (fun q' => hb (by simp [q'])) q) hf⟩
  self := fun A i s Q E st h => wpAny_pyIter_zip st.1 h
def iZipXT (K : W.Frag) (ta : TA) : TI := fun σ H R => ta σ H fun vs H1 => ∃ x b ys, vs = [.str x, .ref b] ∧ x.cps.all (· < 128) = true ∧ SqT K H1 b ys ∧ R (ItXT K x b) H1
theorem pi_zipXT {X : Cx} {e e2 : Expr} {ta : TA} {p pos tpos : Pos} {elts : List Expr} {kk : Nat} (hg : Gl X "zip") (hm : X.mg "zip" = none) (ha : PA X [e, e2] ta)
    (hs : starEach [e, e2] X.env = (false, eval e X.env) :: starEach [e2] X.env) (hpl : (backTo pos (starEach [e2] X.env)).any (·.1) = false) : PI X (.Tuple elts kk tpos) (.Call (.Name "zip" p) [e, e2] [] pos) (iZipXT X.K ta) := by
  refine ⟨fun pins s σ H R I h => ?_⟩
  refine Call_ (ld_blt I hg hm PyProof.Rows.boot_zip (PyProof.Rows.callWith_type1 (thn (ha.run pos pins s σ H _ I h) fun us s1 ⟨vs, H1, I1, r1, q1⟩ => ?_) hs hpl))
  obtain ⟨x, b, ys, rfl, hx, hq, q⟩ := q1
  obtain ⟨u1, u2, rfl, r1, r2⟩ := r1.two
  obtain ⟨t, rfl⟩ := r1
  cases r2
  obtain ⟨its2, rv2, p2, _⟩ := I1.tuple hq
  obtain ⟨o2, ho2, _⟩ := id p2
  refine call_zipXT hx (show s1.heap.IsTuple b its2.toArray from p2) fun h' hz hTI hTO h1 h2 hsz hk => wpAny_pyIter_zip hz ?_
  have I2 : Inv X pins σ H1 { s1 with heap := h' } := I1.kept (t' := s1.toks) hk
  have lt := Heap.lt_size ho2
  refine ⟨s1.heap.objs.size + 4, [s1.heap.objs.size + 4, s1.heap.objs.size + 2, s1.heap.objs.size + 3, s1.heap.objs.size, s1.heap.objs.size + 1], _, _, H1, rfl, I2, turn_XT (W.ktu_apart s1.heap.objs.size b b lt lt), ⟨hz, hTI, ⟨_, _, hTO⟩, h1, h2⟩, fun d hd => ?_, q⟩
  have hle : s1.heap.objs.size ≤ d := by
    have e' : d = s1.heap.objs.size + 4 ∨ d = s1.heap.objs.size + 2 ∨ d = s1.heap.objs.size + 3 ∨ d = s1.heap.objs.size ∨ d = s1.heap.objs.size + 1 := by simpa using hd
    rcases e' with z | z | z | z | z <;> rw [z]
    · exact Nat.le_add_right _ _
    · exact Nat.le_add_right _ _
    · exact Nat.le_add_right _ _
    · exact Nat.le_refl _
    · exact Nat.le_add_right _ _
  exact I1.fpOk hle (I1.hok.fresh hle)
/-! as a source -/
def srcZT (ds : List D) : M Src := fun S => match ds with
  | [.str x, .tup ys] => if x.cps.all (· < 128) = true ∧ x.cps.size ≤ ys.length then .ok ⟨zipD (x.cps.toList.map fun c => .str ⟨#[c]⟩) ys, fun _ => true⟩ S else .bad
  | _ => .bad
def zipTI (ms : Env' → M (List D)) : Env' → M Src := fun ρ => M.bind (ms ρ) srcZT
theorem jok_XT {K : W.Frag} {mg : Str → Option Value} {μ : Pl} {H : Hp} {S : Store} {x : Str} {b : Addr} {ys : List D} (o : Ok K mg μ H S) (h : Den K mg μ H (.ref b) (.tup ys)) (hl : x.cps.size ≤ ys.length) :
    JOk K mg (ItXT K x b) ⟨zipD (x.cps.toList.map fun c => .str ⟨#[c]⟩) ys, fun _ => true⟩ μ H := by
  intro μ' H' S' st o' _ i
  have g := h.monoD o st
  cases g with
  | tup h3 h4 =>
    rename_i ws
    refine ⟨fun hi => ?_, fun d hd => ?_⟩
    · have hi' : (zipD (x.cps.toList.map fun c => D.str ⟨#[c]⟩) ys).length ≤ i := hi
      unfold zipD at hi'
      rw [List.length_zipWith, List.length_map, Array.length_toList] at hi'
      exact Array.getElem?_eq_none (by omega)
    · obtain ⟨a, y, ex, ey, rfl⟩ := zipD_get hd
      rw [List.getElem?_map] at ex
      cases qc : x.cps.toList[i]? with
      | none => rw [qc] at ex; cases ex
      | some c =>
        rw [qc] at ex
        obtain rfl := Option.some.inj ex
        have qc' : x.cps[i]? = some c := by simpa using qc
        obtain ⟨w, hw, dw⟩ := h4.get ey
        refine ⟨⟨c, ws, w, qc', h3, hw⟩, fun z H'' q => ?_⟩
        obtain ⟨T, c', w', rfl, hT, rfl, q1, q2⟩ := q
        rw [qc'] at q1
        obtain rfl := Option.some.inj q1
        have := q2 _ h3
        rw [hw] at this
        obtain rfl := Option.some.inj this
        exact new_tup o' hT (.cons (.str _) (.cons dw .nil))
theorem i_zipT {X : Cx} {E : L2.St → XK} {a b : Expr} {ms : Env' → M (List D)} {p pos : Pos} {elts : List Expr} {kk : Nat} {tpos : Pos} (ha : MA X E [a, b] ms) (hm : X.mg "zip" = none) (hg : Gl X "zip" := by rfl) (hs : starEach [a, b] X.env = (false, eval a X.env) :: starEach [b] X.env := by rfl) (hpl : (backTo pos (starEach [b] X.env)).any (·.1) = false := by rfl) :
    MI X E (.Tuple elts kk tpos) (.Call (.Name "zip" p) [a, b] [] pos) (zipTI ms) := (pi_zipXT hg hm ha hs hpl).weak fun σ H R h => by
  obtain ⟨ρ, μ, S, he, ho, h⟩ := h
  refine tA'.run (k := srcZT) (R := fun r => PostI X.K X.mg μ H (E σ) r R) he ho h (fun _ _ _ z => z) (fun z => z) fun ds S1 _ h1 vs H1 μ1 s1 o1 e1 d1 => ?_
  unfold srcZT at h1
  split at h1
  · split at h1
    · rename_i hc
      obtain ⟨v, w, rfl, dv, dw⟩ := den2 d1
      cases dv
      cases dw with
      | tup h2 h3 => exact ⟨_, _, _, rfl, hc.1, h2, h1 _ H1 μ1 s1 o1 (jok_XT o1 (.tup h2 h3) hc.2)⟩
    · exact h1.elim
  · exact h1.elim
end PyM
set_option Elab.async false
set_option linter.all false
set_option maxRecDepth 100000
set_option maxHeartbeats 3200000
namespace PyM
open PySem PySem.Spec PyProof.Rows L2

/-! ### the law's own call -/
/-- what is wanted of a law's call -/
abbrev LawEnd (s1 : Shared) (r : Result) (s' : Shared) : Prop := r = .ok (.ret (.bool true)) ∧ OldK s1.heap s'.heap ∧ s'.os = s1.os ∧ AllBare s'.gens
section
variable {Pg : Program} {wd : World} {Kf : W.Frag} {gm gb : Str → Option Value} {k : Nat} {fa sa : Addr} {x : Str} {s1 : Shared} {us : List Value} {ns : List Int} {Fm : List D → M D}
theorem vals_of_ints : ∀ {us : List Value} {ns : List Int}, IntsAre us ns → Vals (ns.map V.int) us
  | _, _, .nil => .nil
  | _, _, .cons n t h => .cons ⟨t, rfl⟩ (vals_of_ints h)
/-- the script's object -/
abbrev scrObj (us : List Value) : Obj := { cls := .type "list", data := .seq us.toArray }
/-- from a layer in which the script alone may be told -/
theorem law_from {H : Hp} (KX : Kf.In s1.heap) (hm : s1.heap.Ns mainGlobals gm) (hb : s1.heap.Ns builtinsNs gb) (hbb : ∀ y : Str, y ≠ "__name__" → gb y = bootBuiltins y) (hlim : s1.heap.NoLimit) (hgen : s1.gens = #[])
    (hsa : s1.heap.get? sa = some (scrObj us)) (hroom : Room k callerA) (F : ∀ base : Heap, Kf.In base → base.Ns mainGlobals gm → Def Pg wd Kf gm base CX0 k x 1 Fm) (hfa : gm x = some (.ref fa))
    (hsp : spM Kf gm 1 Fm [.ref sa] H (fun v _ => v = .bl true) fun _ _ _ => False) (hok : HOk Pg wd H s1.heap) (only : ∀ b, H b ≠ none → b = sa ∧ ∃ o xs, H b = some (.frz o (.lst xs))) (hK : H sa ≠ none → Kf.lookup sa = none) :
    codeAny (model Pg wd) callerA (.call (.ref fa) ⟨[.ref sa], []⟩) (LawEnd s1) s1 := by
  have dict0 : ∀ {b : Addr} {o : Obj} {es : Array DictEntry} {ep : Nat}, s1.heap.get? b = some o → o.data = .dict es ep → H b = none := fun {b o es ep} e d => by
    cases hq : H b with
    | none => rfl
    | some u =>
      obtain ⟨rfl, _⟩ := only b (by rw [hq]; exact fun z => nomatch z)
      rw [hsa] at e
      cases e
      exact absurd (show Data.seq us.toArray _ = Data.dict es ep from d) (fun z => nomatch z)
  have nsH : ∀ {b : Addr} {m : Str → Option Value}, s1.heap.Ns b m → (hidT s1.heap H).Ns b m := fun {b m} ⟨o, es, ep, e, d, r⟩ => ⟨o, es, ep, hidT_get e (dict0 e d), d, r⟩
  have inH : Kf.In (hidT s1.heap H) := fun b o e => hidT_get (KX b o e) (by
    cases hq : H b with
    | none => rfl
    | some u =>
      obtain ⟨rfl, _⟩ := only b (by rw [hq]; exact fun z => nomatch z)
      rw [hK (by rw [hq]; exact fun z => nomatch z)] at e
      cases e)
  have hMod : Mod Kf gm (hidT s1.heap H) := ⟨inH, nsH hm, ⟨gb, nsH hb, hbb⟩, by
    obtain ⟨mc, l1, l2⟩ := hlim
    exact ⟨mc, nsH l1, l2⟩⟩
  have env : Env0 Pg wd Kf gm (hidT s1.heap H) callerA [] s1 H := ⟨rfl, hMod, fun b o e => of_hidT e, Nat.le_of_eq (hidT_size _ _), trivial, fun b z => absurd (show b ∈ ([] : List Addr) from z) (by simp), hok, .of_eq hgen⟩
  obtain ⟨f, fd, ps, F1, hmf, _, hbd⟩ := (F _ inH (nsH hm)).ex
  rw [hfa] at hmf
  cases hmf
  have hbt := hbd s1 [.ref sa] KX (by rw [List.append_nil]; exact F1.len _ _ _ _ hsp)
  rw [List.append_nil] at hbt
  refine codeAny_mono (F1.go callerA [] s1 H ⟨[.ref sa], []⟩ [.ref sa] [.ref sa] _ _ rfl hroom env hbt (.cons rfl .nil) hsp) fun r s' h => ?_
  match r, h with
  | .error e, h => exact False.elim h
  | .ok .next, h => exact False.elim h
  | .ok .brk, h => exact False.elim h
  | .ok .cont, h => exact False.elim h
  | .ok (.ret u), h =>
    obtain ⟨v, H', hos, hbare, hun, hok', hrel, hq⟩ := h
    obtain rfl : v = .bl true := hq
    obtain rfl : u = Value.bool true := hrel
    refine ⟨rfl, OldK.of_keep fun b o e => ?_, hos, hbare⟩
    cases hq : H b with
    | none => exact hun.keep b o e hq (by intro z; exact absurd (show b ∈ ([] : List Addr) from z) (by simp)) (by simp)
    | some u =>
      obtain ⟨_, ob, xs, z⟩ := only b (by rw [hq]; exact fun z => nomatch z)
      obtain ⟨e1, _⟩ := hok b _ z
      obtain ⟨e2, _⟩ := hok' b _ (hun.frzs b ob _ z)
      rw [e] at e1
      cases e1
      exact e2
/-- the mirror's law -/
theorem law_mirror (KX : Kf.In s1.heap) (hm : s1.heap.Ns mainGlobals gm) (hb : s1.heap.Ns builtinsNs gb) (hbb : ∀ y : Str, y ≠ "__name__" → gb y = bootBuiltins y) (hlim : s1.heap.NoLimit) (hgen : s1.gens = #[])
    (hsa : s1.heap.get? sa = some (scrObj us)) (hi : IntsAre us ns) (hl : ns.length ≤ sizeLine) (hroom : Room k callerA) (F : ∀ base : Heap, Kf.In base → base.Ns mainGlobals gm → Def Pg wd Kf gm base CX0 k x 1 Fm) (hfa : gm x = some (.ref fa))
    (plain : ∃ S', Fm [.scr (ns.map .int)] [] = .ok (.bl true) S') : codeAny (model Pg wd) callerA (.call (.ref fa) ⟨[.ref sa], []⟩) (LawEnd s1) s1 := by
  have rv := vals_of_ints hi
  have lenU := hi.length
  have hz : ∀ (H : Hp) (l : List Int), DenL Kf gm ⟨[], []⟩ H (l.map V.int) (l.map D.int) := fun H l => by
    induction l with
    | nil => exact .nil
    | cons n l ih => exact .cons (.int n) ih
  have hsp : ∀ H : Hp, ScrAt Kf H sa (ns.map V.int) → spM Kf gm 1 Fm [.ref sa] H (fun v _ => v = .bl true) fun _ _ _ => False := fun H hs => by
    obtain ⟨S', e⟩ := plain
    refine ⟨rfl, [.scr (ns.map .int)], ⟨[], []⟩, [], .cons (.scr hs (hz H ns)) .nil, ⟨rfl, List.nodup_nil, fun a ha => by simp at ha, fun n a c ha => by simp at ha⟩, ?_⟩
    rw [e]
    intro v H' μ' _ _ dv
    cases dv
    rfl
  cases hk : Kf.lookup sa with
  | some o =>
    have e := KX sa o hk
    rw [hsa] at e
    cases e
    exact law_from (H := fun _ => none) KX hm hb hbb hlim hgen hsa hroom F hfa (hsp _ (.inr ⟨_, us.toArray, _, hk, rfl, rfl, rfl, by rw [List.size_toArray, lenU]; exact hl, by simpa using rv⟩)) (fun b u z => nomatch (show (none : Option HO) = some u from z)) (fun b z => absurd rfl z) fun z => absurd rfl z
  | none =>
    let H : Hp := fun b => if b = sa then some (.frz (scrObj us) (.lst (ns.map V.int))) else none
    have hH : H sa = some (.frz (scrObj us) (.lst (ns.map V.int))) := if_pos rfl
    have hN : ∀ b, b ≠ sa → H b = none := fun b z => if_neg z
    refine law_from (H := H) KX hm hb hbb hlim hgen hsa hroom F hfa (hsp H (.inl ⟨_, hH⟩)) (fun b u z => ?_) (fun b z => ?_) fun _ => hk
    · by_cases hbs : b = sa
      · subst hbs
        rw [hH] at z
        obtain rfl := Option.some.inj z
        exact ⟨hsa, by rw [List.length_map]; exact hl, us, _, rv, hsa⟩
      · rw [hN b hbs] at z
        cases z
    · by_cases hbs : b = sa
      · exact ⟨hbs, _, _, by rw [hbs]; exact hH⟩
      · exact absurd (hN b hbs) z
end
/-- the end of a law's walk: what k_head leaves -/
theorem walk_mirror {l : W.OpenLaw} {n k : Nat} {q : Program} {loose : List Str} {XP : (Str → Option Value) → Heap → Prop} {YP : World → Heap → Prop} {d : DefRec} {K : Params → W.Frag} {Fm : List D → M D}
    (hn : l.most = some n) (hn2 : n ≤ sizeLine) (hdf : d.params.defaults = []) (hr : Room k callerA) (hY : ∀ (w : World) (h : Heap), YP w h → (K w.params).In h)
    (F : ∀ (w : World) (mg : Str → Option Value) (h : Heap), (K w.params).In h → h.Ns mainGlobals mg → ∀ base : Heap, (K w.params).In base → base.Ns mainGlobals mg → Def l.prog w (K w.params) mg base CX0 k d.name 1 Fm)
    (plain : ∀ ns : List Int, ns.length ≤ n → ∃ S', Fm [.scr (ns.map .int)] [] = .ok (.bl true) S') : W.WalkO q loose XP YP l.row.toRowW d [] (fun f vs => PySem.call f vs) := by
  refine Att.attach_call hn hdf fun w s0 s1 mg mb fa o pm cd doc a vs ns G Y ho hd hcd hmg hobj hints hlen hg => ?_
  have KX := hY w _ Y
  exact law_mirror KX G.T.g G.T.b G.T.builtins G.T.nolimit hg hobj hints (Nat.le_trans hlen hn2) hr (F w mg _ KX G.T.g) hmg (plain ns hlen)
end PyM
set_option Elab.async false
set_option linter.all false
set_option maxRecDepth 100000
set_option maxHeartbeats 3200000
namespace PyM
open PySem PySem.Spec PyProof.Rows L2

/-! ### exceptions that are raised -/
/-- an expression that makes an exception of the class c, its fields by m -/
structure MMk (X : Cx) (E : L2.St → XK) (e : Expr) (c : Str) (m : Env' → M (List (Str × D))) : Prop where
  ex : ∃ t, PMk X e t ∧ ∀ σ H Q ρ μ S, EnvOk X.K X.mg μ H σ ρ → Ok X.K X.mg μ H S → (match m ρ S with
    | .ok fs S' => ∀ cls d H' μ', Step μ μ' H H' → Ok X.K X.mg μ' H' S' → ExcIs X.K X.mg μ' H' cls d c fs → Q cls d H'
    | .exc c' fs S' => XP X.K X.mg μ H (E σ) c' fs S'
    | .bad => False) → t σ H Q
def raiseM (c : Str) (m : Env' → M (List (Str × D))) : MSt := fun ρ S => SR.of (m ρ S) ρ fun fs S' => .exc ρ c fs S'
abbrev WishOf (E : L2.St → XK) : WX := fun cls d σ H => E σ cls d H
/-- a class of exceptions that says nothing of its own making -/
structure Cls0 (K : W.Frag) (mg : Str → Option Value) (x : Str) : Prop where
  ex : ∃ C, mg x = some (.ref C) ∧ W.excIn K C [.type "ValueError", .type "Exception", .type "BaseException", .type "object"] "ValueError.__new__" = true ∧ W.keepIn K (.ref C) = true ∧
    W.subIn K (.ref C) (.type "BaseException") = some true ∧ W.typeIn K (.ref C) = some (.type "type")
section
variable {X : Cx} {E : L2.St → XK} {e : Expr} {c x : Str} {m : Env' → M (List (Str × D))} {p pos : Pos}
theorem s_raise (hc : X.calm = true) (tk : Takes X (WishOf E)) (h : MMk X E e c m) : MS X E (.Raise (some e) none pos) (raiseM c m) := by
  obtain ⟨t, h1, h2⟩ := h.ex
  refine (ps_raise (W := WishOf E) hc tk h1).weak fun D σ H q => ?_
  obtain ⟨ρ, μ, S, hE, hO, q⟩ := q
  refine h2 σ H _ ρ μ S hE hO ?_
  unfold raiseM at q
  cases r : m ρ S with
  | ok fs S' =>
    rw [r] at q
    exact fun cls d H' μ' st o' hx => q σ H' μ' st o' (hE.mono hO st) cls d hx
  | exc c' fs S' =>
    rw [r] at q
    exact fun cls d H' μ' st o' hx => q σ H' μ' st o' (hE.mono hO st) cls d hx
  | bad =>
    rw [r] at q
    exact q
/-- X() -/
theorem mk_0 (F : Cls0 X.K X.mg x) (hg : Gl X x := by rfl) (hdb : (x == ("__debug__" : Str)) = false := by decide) : MMk X E (.Call (.Name x p) [] [] pos) x (fun _ => M.pure []) := by
  obtain ⟨C, gC, xC, kC, sC, tC⟩ := F.ex
  refine ⟨fun _ H Q => Q (.ref C) none H, ?_, fun σ H Q ρ μ S hE hO h => h (.ref C) none H μ .refl hO ⟨C, gC, rfl, .inl ⟨rfl, rfl⟩⟩⟩
  intro pins s σ H Q I h
  refine wpAny_Call_Name_kw (ld_glob I hg gC (W.callWith_K0 I.kIn kC ?_) hdb)
  show wpAny _ _ (call (.ref C) []) _ _ _
  obtain ⟨bm, N, nm, qn, bs, hdct, sn, sub, ab, col, dd, k0, k1, k2, k3, k5, mN, hC, hN, hni, T⟩ := exc_obj I.kIn xC
  refine wpAny_call_exc_subT PySem.F.excBase_ValueError T hC hN hni (fun h' e hm => ?_) (Nat.zero_le _)
  exact mk_of I hm (raises_own sC tC) h (I.hok.gone hm.new)
/-- what is never reached -/
def badS : MSt := fun _ _ => .bad
theorem s_bad {st : Stmt} : MS X E st badS := ⟨fun pins s σ H D I h => by
  obtain ⟨_, _, _, _, _, h⟩ := h
  exact h.elim⟩
theorem s_bads {st : List Stmt} : MSs X E st badS := ⟨fun pins s σ H D I h => by
  obtain ⟨_, _, _, _, _, h⟩ := h
  exact h.elim⟩
end
end PyM
set_option Elab.async false
set_option linter.all false
set_option maxRecDepth 100000
set_option maxHeartbeats 3200000
namespace PyM
open PySem PySem.Spec PyProof.Rows L2

/-! ### try: with clauses, each with a name or without -/
abbrev Clause := Value × Option Nat × (Addr → Value → Option Addr → TS)
def endI (D : Ends) : Option Nat → Ends
  | none => D
  | some i => { nx := fun σ H => D.nx (σ.set i none) H, rt := D.rt, bk := fun σ H => D.bk (σ.set i none) H, ct := fun σ H => D.ct (σ.set i none) H }
def setI (a : Addr) (σ : L2.St) : Option Nat → L2.St
  | none => σ
  | some i => σ.set i (some (.ref a))
/-- what the clauses wish of an exception of the body -/
def wCl (K : W.Frag) (Wo : WX) (D : Ends) : List Clause → WX
  | [] => Wo
  | (cv, i, ts) :: r => fun cls d σ H => ∃ b, W.exmOne K cls cv = some b ∧ (b = true → ∀ a, H a = none → ts a cls d (endI D i) (setI a σ i) H) ∧ (b = false → wCl K Wo D r cls d σ H)
inductive ClOk (X : Cx) : List ExceptHandler → List Clause → Prop
  | nil : ClOk X [] []
  | plain {x : Str} {cv : Value} {ts : Addr → Value → Option Addr → TS} {st0 : Stmt} {sts : List Stmt} {q q' : Pos} {hl : List ExceptHandler} {l : List Clause} : Names X x cv →
      (∀ (a : Addr) (ob : Obj) (cls : Value) (d : Option Addr) (pins : List (Addr × Obj)), Zc cls d ob → (∃ vs, ob.data = .fields vs) → PSs (X.suite a ((a, ob) :: pins)) (st0 :: sts) (ts a cls d)) → ClOk X hl l →
      ClOk X (.ExceptHandler (some (.Name x q)) none (st0 :: sts) q' :: hl) ((cv, none, ts) :: l)
  | named {x n : Str} {i : Nat} {cv : Value} {ts : Addr → Value → Option Addr → TS} {st0 : Stmt} {sts : List Stmt} {q q' : Pos} {hl : List ExceptHandler} {l : List Clause} : X.N[i]? = some n → X.env.kindOf n = some .local → Names X x cv →
      (∀ (a : Addr) (ob : Obj) (cls : Value) (d : Option Addr) (pins : List (Addr × Obj)), Zc cls d ob → (∃ vs, ob.data = .fields vs) → PSs (X.suite a ((a, ob) :: pins)) (st0 :: sts) (ts a cls d)) → ClOk X hl l →
      ClOk X (.ExceptHandler (some (.Name x q)) (some n) (st0 :: sts) q' :: hl) ((cv, some i, ts) :: l)
section
variable {X : Cx} {body : List Stmt} {h0 : ExceptHandler} {hl : List ExceptHandler} {l : List Clause} {pos : Pos} {tb : WX → TS} {Wo : WX}
theorem ps_try_all (stk : X.stack = X.env :: X.outer) (fr : X.env.frame = some X.env.locals) (nd : X.N.Nodup) (out : Takes X Wo)
    (inn : ∀ (Wi : WX) (pins : List (Addr × Obj)) (xe : Value → Shared → Prop), Takes (X.tr pins xe) Wi → PassesOwn (model X.prog X.w) X.A X.env xe → PSs (X.tr pins xe) body (tb Wi))
    (cl : ClOk X (h0 :: hl) l) : PS X (.Try body (h0 :: hl) [] [] pos) (fun D σ H => tb (wCl X.K Wo D l) D σ H) := by
  refine ⟨fun pins s σ H D Iv red => ?_⟩
  have xok := Iv.ok
  have frames : X.A.frames = some (X.env :: X.outer) := by rw [xok.frames, stk]
  have backP : ∀ (xe : Value → Shared → Prop) (fl : Flow) (t1 : Shared), SP (X.tr (X.pn ++ pins) xe) [] D fl t1 → (match fl with
      | .next => SP X pins D .next t1
      | f => SP X pins D f t1) := fun xe fl t1 sp => by
    cases fl with
    | next =>
      obtain ⟨σ1, H1, J1, w1⟩ := sp
      exact ⟨σ1, H1, J1.ofTry xok, w1⟩
    | brk =>
      obtain ⟨σ1, H1, J1, w1⟩ := sp
      exact ⟨σ1, H1, J1.ofTry xok, w1⟩
    | cont =>
      obtain ⟨σ1, H1, J1, w1⟩ := sp
      exact ⟨σ1, H1, J1.ofTry xok, w1⟩
    | ret u =>
      obtain ⟨v1, σ1, H1, J1, r1, w1⟩ := sp
      exact ⟨v1, σ1, H1, J1.ofTry xok, r1, w1⟩
  refine wpAny_Try_except (wpAny_mono ((inn (wCl X.K Wo D l) (X.pn ++ pins)
    (fun ev t1 => wpAny (model X.prog X.w) X.A (noteFrame ev X.env) (fun _ t2 => wpAny (model X.prog X.w) X.A (setFlight ev none) (fun _ t3 => wpAny (model X.prog X.w) X.A (handleBy ev X.env (h0 :: hl)) (SP X pins D) X.xe t3) X.xe t2) X.xe t1)
    (fun ev t1 air => ?_) PassesOwn.looking).run [] s σ H D (Iv.toTry _) red) (fun fl t1 sp => ?_) (fun _ _ z => z))
  · -- an exception of the body
    obtain ⟨a, G, tI, pins1, σ1, H1, cls, d, rfl, J0, gk, gu, gs, gn, go, gb, want⟩ := air
    have J : Inv X pins σ1 H1 tI := J0.ofTry xok
    have gs : Sky G (X.env :: X.outer) a (Zc cls d) X.env.locals t1.heap := by
      rw [← stk]
      exact gs
    show wpAny (model X.prog X.w) X.A (noteFrame (.ref a) X.env) _ _ _
    refine Sky.land Zc.steady frames fr gs fun hA flA upA => ?_
    have JA : Inv X pins σ1 H1 { t1 with heap := hA } := J.landed gk flA.1 (gu.trans upA) go gb
    obtain ⟨obA, vsA, atA, zA, dA⟩ := flA.there
    have outF : a ∉ frs (X.env :: X.outer) := fun hm => by
      obtain ⟨_, ob2, e2, nf⟩ := flA.2.2.1.mem hm
      rw [atA] at e2
      cases e2
      exact nf _ dA
    have outL : a ≠ X.env.locals := fun z => outF (List.mem_filterMap.mpr ⟨X.env, by simp, by rw [fr, z]⟩)
    have outX : a ∉ X.fs := fun hm => by
      obtain ⟨en, hen, qn⟩ := List.mem_filterMap.mp hm
      exact outF (List.mem_filterMap.mpr ⟨en, by simp [hen], qn⟩)
    have SA := JA.suite atA dA gn outL outX
    have isC : PySem.W.Looks (model X.prog X.w) hA (typeOf (.ref a)) cls := fun _ _ _ _ k w => wpAny_typeOf_ref (k _ _ atA) (by
      rw [zA.1]
      exact w)
    have go : ∀ {hl1 : List ExceptHandler} {l1 : List Clause}, ClOk X hl1 l1 → wCl X.K Wo D l1 cls d σ1 H1 → wpAny (model X.prog X.w) X.A (handleBy (.ref a) X.env hl1) (SP X pins D) X.xe { t1 with heap := hA } := by
      intro hl1 l1 c1
      have named : ∀ {x : Str} {cv : Value} {q : Pos} {Q : Value → Shared → Prop} {E1 : Value → Shared → Prop}, Names X x cv → Q cv { t1 with heap := hA } → wpAny (model X.prog X.w) (X.A.mark (some (.ref a))) (eval (.Name x q) X.env) Q E1 { t1 with heap := hA } := fun nm w => by
        obtain ⟨g1, g2, g3 | ⟨g3, g4, g5⟩⟩ := nm
        · exact ld_glob (X := X.suite a ((a, obA) :: (X.pn ++ pins))) SA g1 g3 w g2
        · exact ld_blt (X := X.suite a ((a, obA) :: (X.pn ++ pins))) SA g1 g3 g4 w g5 g2
      induction c1 with
      | nil =>
        intro w
        refine wpAny_handleBy_nil ?_
        obtain ⟨_, _, _, ob, vs, T, _, _, atO, _, dO, one, _⟩ := id flA
        have up : wpAny (model X.prog X.w) X.A (setFlight (.ref a) X.env.frame) (fun _ t4 => wpAny (model X.prog X.w) X.A (throw (.ref a) : Sem Flow) (SP X pins D) X.xe t4) X.xe { t1 with heap := hA } := by
          rw [fr]
          exact HandSPX.setFlight_upZ flA fun hB held upB => wpAny_throw (out _ _ ⟨a, G, tI, pins, σ1, H1, cls, d, rfl, J, gk, (gu.trans upA).trans upB, .inr (.inr (by
            rw [stk]
            exact held)), gn, go, gb, w⟩)
        unfold PySem.passOn
        refine wpAny_bind (wpAny_field atO dO one ?_)
        rw [if_neg (by simp)]
        first
          | exact wpAny_bind up
          | exact wpAny_bind (wpAny_pure (wpAny_bind up))
      | plain nm su r ih =>
        intro w
        obtain ⟨b, hb, yes, no⟩ := w
        refine wpAny_handleBy_cons (codeAny_handlers_test (named nm ((PySem.W.exm_one (M := model X.prog X.w) JA.kIn isC hb).here ?_))) (fun z => by cases z)
        cases b with
        | false => exact ih (no rfl)
        | true =>
          refine codeAny_handlers_suite (HandSPX.lands_againZ flA fun hB flB upB => ?_)
          obtain ⟨obB, vsB, atB, zB, dB⟩ := flB.there
          have JB : Inv X pins σ1 H1 { t1 with heap := hB } := J.landed gk flB.1 ((gu.trans upA).trans upB) go gb
          have SB := JB.suite atB dB gn outL outX
          refine wpAny_mono ((su a obB cls d (X.pn ++ pins) zB ⟨_, dB⟩).run [] _ _ H1 _ SB (yes rfl a gn)) (fun fl t5 sp => ?_) (fun _ _ z => z.elim)
          cases fl with
          | ret u =>
            obtain ⟨v5, σ5, H5, S5, r5, w5⟩ := sp
            exact ⟨v5, σ5, H5, S5.unsuite xok, r5, w5⟩
          | next =>
            obtain ⟨σ5, H5, S5, w5⟩ := sp
            exact ⟨σ5, H5, S5.unsuite xok, w5⟩
          | brk =>
            obtain ⟨σ5, H5, S5, w5⟩ := sp
            exact ⟨σ5, H5, S5.unsuite xok, w5⟩
          | cont =>
            obtain ⟨σ5, H5, S5, w5⟩ := sp
            exact ⟨σ5, H5, S5.unsuite xok, w5⟩
      | named ni nl nm su r ih =>
        intro w
        obtain ⟨b, hb, yes, no⟩ := w
        refine wpAny_handleBy_cons (codeAny_handlers_test (named nm ((PySem.W.exm_one (M := model X.prog X.w) JA.kIn isC hb).here ?_))) (fun z => by cases z)
        cases b with
        | false => exact ih (no rfl)
        | true =>
          refine codeAny_handlers_suite_as (HandSPX.lands_againZ flA fun hB flB upB => ?_)
          obtain ⟨obB, vsB, atB, zB, dB⟩ := flB.there
          have JB : Inv X pins σ1 H1 { t1 with heap := hB } := J.landed gk flB.1 ((gu.trans upA).trans upB) go gb
          have SB := JB.suite atB dB gn outL outX
          refine store_ok (X := X.suite a ((a, obB) :: (X.pn ++ pins))) (v := .ref a) SB nd ni (.inl nl) rfl (fun t4 S4 => ?_) (.inr nl)
          refine wpAny_mono ((su a obB cls d (X.pn ++ pins) zB ⟨_, dB⟩).run [] t4 _ H1 _ S4 (yes rfl a gn)) (fun fl t5 sp => ?_) (fun _ _ z => z.elim)
          cases fl with
          | ret u =>
            obtain ⟨v5, σ5, H5, S5, r5, w5⟩ := sp
            exact gone_ok (S5.unsuite xok) nd ni nl fun t6 S6 => ⟨v5, _, H5, S6, r5, w5⟩
          | next =>
            obtain ⟨σ5, H5, S5, w5⟩ := sp
            exact gone_ok (S5.unsuite xok) nd ni nl fun t6 S6 => ⟨_, H5, S6, w5⟩
          | brk =>
            obtain ⟨σ5, H5, S5, w5⟩ := sp
            exact gone_ok (S5.unsuite xok) nd ni nl fun t6 S6 => ⟨_, H5, S6, w5⟩
          | cont =>
            obtain ⟨σ5, H5, S5, w5⟩ := sp
            exact gone_ok (S5.unsuite xok) nd ni nl fun t6 S6 => ⟨_, H5, S6, w5⟩
    exact go cl want
  · have := backP _ fl t1 sp
    cases fl with
    | next => exact wpAny_execs_nil this
    | brk => exact this
    | cont => exact this
    | ret u => exact this
end
end PyM
set_option Elab.async false
set_option linter.all false
set_option maxRecDepth 100000
set_option maxHeartbeats 3200000
namespace PyM
open PySem PySem.Spec PyProof.Rows L2

/-! ### try, in the mirror -/
/-- a clause: the class, the slot of its name, the suite (by where the exception and its dict stand, its class, its fields) -/
structure Hd where
  h : Str
  i : Option Nat
  m : Nat → Nat → Str → List Str → List D → MSt
def noExc : SR → SR
  | .exc _ _ _ _ => .bad
  | r => r
def wipeR (i : Nat) : SR → SR
  | .nx ρ S => .nx (ρ.set i none) S
  | .bk ρ S => .bk (ρ.set i none) S
  | .ct ρ S => .ct (ρ.set i none) S
  | r => r
def runH (h : Hd) (a dx : Nat) (ρ : Env') (c : Str) (fs : List (Str × D)) (S : Store) : SR := match h.i with
  | none => noExc (h.m a dx c (fs.map (·.1)) (fs.map (·.2)) ρ S)
  | some i => wipeR i (noExc (h.m a dx c (fs.map (·.1)) (fs.map (·.2)) (ρ.set i (some (.exo a dx c (fs.map (·.1)) (fs.map (·.2))))) S))
def catchM (sub : Str → Str → Option Bool) : List Hd → Env' → Str → List (Str × D) → Store → SR
  | [], ρ, c, fs, S => .exc ρ c fs S
  | h :: r, ρ, c, fs, S => match sub c h.h with
    | some true => runH h 0 0 ρ c fs S
    | some false => catchM sub r ρ c fs S
    | none => .bad
def tryM (sub : Str → Str → Option Bool) (mb : MSt) (hds : List Hd) : MSt := fun ρ S => match mb ρ S with
  | .exc ρ' c fs S' => catchM sub hds ρ' c fs S'
  | r => r
/-- which class an except clause catches -/
def Subs (K : W.Frag) (mg : Str → Option Value) (sub : Str → Str → Option Bool) : Prop := ∀ c h b C Hc, sub c h = some b → mg c = some (.ref C) → mg h = some (.ref Hc) → W.exmOne K (.ref C) (.ref Hc) = some b
/-- no suite tells where the exception stands -/
def Hd.Par (h : Hd) : Prop := ∀ a dx ρ c fs S, runH h a dx ρ c fs S = runH h 0 0 ρ c fs S
/-- what is known of the exception in a suite -/
def ExK (mg : Str → Option Value) (cls : Value) (d : Option Addr) (c : Str) (dx : Nat) (fn : List Str) (ds : List D) : Prop := (∃ C, mg c = some (.ref C) ∧ cls = .ref C) ∧ ((d = some dx) ∨ (d = none ∧ fn = [] ∧ ds = []))
inductive HdOk (X : Cx) : List ExceptHandler → List Hd → List Clause → Prop
  | nil : HdOk X [] [] []
  | plain {x : Str} {Hc : Addr} {m : Nat → Nat → Str → List Str → List D → MSt} {st0 : Stmt} {sts : List Stmt} {q q' : Pos} {hl : List ExceptHandler} {hds : List Hd} {l : List Clause} : X.mg x = some (.ref Hc) → Gl X x → (x == ("__debug__" : Str)) = false → Hd.Par ⟨x, none, m⟩ →
      (∀ (a : Addr) (ob : Obj) (cls : Value) (d : Option Addr) (pins : List (Addr × Obj)) (c : Str) (dx : Nat) (fn : List Str) (ds : List D), Zc cls d ob → (∃ vs, ob.data = .fields vs) → ExK X.mg cls d c dx fn ds → MSs (X.suite a ((a, ob) :: pins)) EB (st0 :: sts) (m a dx c fn ds)) → HdOk X hl hds l →
      HdOk X (.ExceptHandler (some (.Name x q)) none (st0 :: sts) q' :: hl) (⟨x, none, m⟩ :: hds) ((.ref Hc, none, fun a cls d D σ H => ∃ c dx fn ds, ExK X.mg cls d c dx fn ds ∧ tS X.K X.mg EB (m a dx c fn ds) D σ H) :: l)
  | named {x n : Str} {i : Nat} {Hc : Addr} {m : Nat → Nat → Str → List Str → List D → MSt} {st0 : Stmt} {sts : List Stmt} {q q' : Pos} {hl : List ExceptHandler} {hds : List Hd} {l : List Clause} : X.N[i]? = some n → X.env.kindOf n = some .local → X.mg x = some (.ref Hc) → Gl X x → (x == ("__debug__" : Str)) = false → Hd.Par ⟨x, some i, m⟩ →
      (∀ (a : Addr) (ob : Obj) (cls : Value) (d : Option Addr) (pins : List (Addr × Obj)) (c : Str) (dx : Nat) (fn : List Str) (ds : List D), Zc cls d ob → (∃ vs, ob.data = .fields vs) → ExK X.mg cls d c dx fn ds → MSs (X.suite a ((a, ob) :: pins)) EB (st0 :: sts) (m a dx c fn ds)) → HdOk X hl hds l →
      HdOk X (.ExceptHandler (some (.Name x q)) (some n) (st0 :: sts) q' :: hl) (⟨x, some i, m⟩ :: hds) ((.ref Hc, some i, fun a cls d D σ H => ∃ c dx fn ds, ExK X.mg cls d c dx fn ds ∧ tS X.K X.mg EB (m a dx c fn ds) D σ H) :: l)
theorem HdOk.cl {X : Cx} {hl : List ExceptHandler} {hds : List Hd} {l : List Clause} (h : HdOk X hl hds l) : ClOk X hl l := by
  induction h with
  | nil => exact .nil
  | plain hm hg hd hp su r ih =>
    refine .plain ⟨hg, hd, .inl hm⟩ (fun a ob cls d pins z f => ⟨fun pn s σ H D I w => ?_⟩) ih
    obtain ⟨c, dx, fn, ds, k, w⟩ := w
    exact (su a ob cls d pins c dx fn ds z f k).run pn s σ H D I w
  | named hi hn hm hg hd hp su r ih =>
    refine .named hi hn ⟨hg, hd, .inl hm⟩ (fun a ob cls d pins z f => ⟨fun pn s σ H D I w => ?_⟩) ih
    obtain ⟨c, dx, fn, ds, k, w⟩ := w
    exact (su a ob cls d pins c dx fn ds z f k).run pn s σ H D I w
section
variable {K : W.Frag} {mg : Str → Option Value} {μ : Pl} {H : Hp} {E : L2.St → XK} {W : Ends}
theorem post_noExc {r : SR} (h : PostS K mg μ H E (noExc r) W) : PostS K mg μ H EB r W := by
  cases r <;> first | exact h | exact h.elim
theorem env_wipe {σ : L2.St} {ρ : Env'} (h : EnvOk K mg μ H σ ρ) (i : Nat) : EnvOk K mg μ H (σ.set i none) (ρ.set i none) := by
  refine ⟨by simpa using h.1, fun j d e => ?_⟩
  by_cases hj : j = i
  · subst hj
    by_cases hl : j < ρ.length
    · rw [List.getElem?_set_self hl] at e
      cases e
    · rw [List.getElem?_eq_none (by simpa using hl)] at e
      cases e
  · rw [List.getElem?_set_ne (Ne.symm hj)] at e
    obtain ⟨v, a, b⟩ := h.2 j d e
    exact ⟨v, by rw [List.getElem?_set_ne (Ne.symm hj)]; exact a, b⟩
theorem post_wipe {r : SR} {i : Nat} (h : PostS K mg μ H E (wipeR i r) W) : PostS K mg μ H E r (endI W (some i)) := by
  cases r with
  | nx ρ S => exact fun σ' H' μ' st o e => h _ H' μ' st o (env_wipe e i)
  | bk ρ S => exact fun σ' H' μ' st o e => h _ H' μ' st o (env_wipe e i)
  | ct ρ S => exact fun σ' H' μ' st o e => h _ H' μ' st o (env_wipe e i)
  | rt d S => exact h
  | exc ρ c fs S => exact h
  | bad => exact h
end
section
variable {X : Cx} {E : L2.St → XK} {sub : Str → Str → Option Bool} {body : List Stmt} {mb : MSt} {h0 : ExceptHandler} {hl : List ExceptHandler} {hds : List Hd} {l : List Clause} {pos : Pos}
theorem catch_ok (Sb : Subs X.K X.mg sub) (hh : HdOk X hl hds l) {ρ : Env'} {c : Str} {fs : List (Str × D)} {S : Store} {μ : Pl} {H : Hp} {σ : L2.St} {W : Ends} {cls : Value} {d : Option Addr} (hO : Ok X.K X.mg μ H S) (hE : EnvOk X.K X.mg μ H σ ρ) (hx : ExcIs X.K X.mg μ H cls d c fs)
    (h : PostS X.K X.mg μ H E (catchM sub hds ρ c fs S) W) : wCl X.K (WishOf E) W l cls d σ H := by
  obtain ⟨C, hC, rfl, hd⟩ := id hx
  have known : ∃ dx, ExK X.mg (.ref C) d c dx (fs.map (·.1)) (fs.map (·.2)) ∧ ∀ a, Den X.K X.mg μ H (.ref a) (.exo a dx c (fs.map (·.1)) (fs.map (·.2))) := by
    rcases hd with ⟨rfl, rfl⟩ | ⟨dx, fv, rfl, h1, h2, h3⟩
    · exact ⟨0, ⟨⟨C, hC, rfl⟩, .inr ⟨rfl, rfl, rfl⟩⟩, fun a => .exo0 a⟩
    · exact ⟨dx, ⟨⟨C, hC, rfl⟩, .inl rfl⟩, fun a => .exo1 a h1 h2 h3⟩
  obtain ⟨dx, hk, hden⟩ := known
  induction hh with
  | nil => exact h σ H μ .refl hO hE (.ref C) d hx
  | @plain x Hc m st0 sts q q' hl' hds' l' hm hg hdb hp su r ih =>
    unfold catchM at h
    dsimp only at h
    split at h
    · rename_i e
      refine ⟨true, Sb c x true C Hc e hC hm, fun _ a _ => ?_, fun z => absurd z (fun y => Bool.false_ne_true y.symm)⟩
      rw [← hp a dx] at h
      exact ⟨c, dx, _, _, hk, ρ, μ, S, hE, hO, post_noExc h⟩
    · rename_i e
      exact ⟨false, Sb c x false C Hc e hC hm, fun z => absurd z Bool.false_ne_true, fun _ => ih h⟩
    · exact h.elim
  | @named x n i Hc m st0 sts q q' hl' hds' l' hi hn hm hg hdb hp su r ih =>
    unfold catchM at h
    dsimp only at h
    split at h
    · rename_i e
      refine ⟨true, Sb c x true C Hc e hC hm, fun _ a _ => ?_, fun z => absurd z (fun y => Bool.false_ne_true y.symm)⟩
      rw [← hp a dx] at h
      exact ⟨c, dx, _, _, hk, _, μ, S, hE.set i (hden a), hO, post_noExc (post_wipe h)⟩
    · rename_i e
      exact ⟨false, Sb c x false C Hc e hC hm, fun z => absurd z Bool.false_ne_true, fun _ => ih h⟩
    · exact h.elim
theorem s_try (Sb : Subs X.K X.mg sub) (stk : X.stack = X.env :: X.outer) (fr : X.env.frame = some X.env.locals) (nd : X.N.Nodup) (tk : Takes X (WishOf E))
    (hb : ∀ (E' : L2.St → XK) (pins : List (Addr × Obj)) (xe : Value → Shared → Prop), Takes (X.tr pins xe) (WishOf E') → PassesOwn (model X.prog X.w) X.A X.env xe → MSs (X.tr pins xe) E' body mb) (hh : HdOk X (h0 :: hl) hds l) :
    MS X E (.Try body (h0 :: hl) [] [] pos) (tryM sub mb hds) := by
  refine (ps_try_all (tb := fun W => tS X.K X.mg (fun σ cls d H => W cls d σ H) mb) stk fr nd tk (fun Wi pins xe t1 t2 => hb _ pins xe t1 t2) hh.cl).weak fun D σ H h => ?_
  obtain ⟨ρ, μ, S, hE, hO, h⟩ := h
  refine ⟨ρ, μ, S, hE, hO, ?_⟩
  unfold tryM at h
  cases r : mb ρ S with
  | exc ρ' c fs S' =>
    rw [r] at h
    exact fun σ' H' μ' st o' e' cls d hx => catch_ok Sb hh o' e' hx (PostS.of st h)
  | nx ρ S => rw [r] at h; exact h
  | bk ρ S => rw [r] at h; exact h
  | ct ρ S => rw [r] at h; exact h
  | rt d S => rw [r] at h; exact h
  | bad => rw [r] at h; exact h
end
end PyM
set_option Elab.async false
set_option linter.all false
set_option maxRecDepth 100000
set_option maxHeartbeats 3200000
namespace PyM
open PySem PySem.Spec PyProof.Rows L2

/-! ### a field of the exception in hand -/
def fieldD (f : Str) : List Str → List D → Option D
  | g :: gs, d :: ds => if g = f then some d else fieldD f gs ds
  | _, _ => none
def fldM (fl : Str → Str → Bool) (a dx : Nat) (c : Str) (fn : List Str) (i : Nat) (f : Str) : Env' → M D := fun ρ => match ρ[i]? with
  | some (some (.exo a' dx' _ gs ds)) => if a' = a ∧ dx' = dx ∧ fl c f = true ∧ fn.isEmpty = false then M.lift (fieldD f gs ds) else M.bad
  | _ => M.bad
/-- which classes' fields may be read -/
def Flds (K : W.Frag) (mg : Str → Option Value) (fl : Str → Str → Bool) : Prop := ∀ c f C, fl c f = true → mg c = some (.ref C) → XfC K C ∧ W.findIn K (.ref C) f = some none
theorem field_of {K : W.Frag} {mg : Str → Option Value} {μ : Pl} {H : Hp} {f : Str} {d : D} : ∀ {fv : List (Str × V)} {fn : List Str} {ds : List D}, fv.map (·.1) = fn → DenL K mg μ H (fv.map (·.2)) ds → fieldD f fn ds = some d → ∃ v, fv.lookup f = some v ∧ Den K mg μ H v d
  | [], _, _, e, t, h => by
    subst e
    cases t
    cases h
  | (g, v) :: fv, _, _, e, t, h => by
    subst e
    cases t with
    | cons hv t =>
      rename_i y ys
      rw [L2.lookup_put]
      have h : (if g = f then some y else fieldD f (fv.map (·.1)) ys) = some d := h
      by_cases q : g = f
      · rw [if_pos q] at h
        obtain rfl := Option.some.inj h
        exact ⟨v, if_pos q.symm, hv⟩
      · rw [if_neg q] at h
        obtain ⟨w, h1, h2⟩ := field_of (fv := fv) rfl t h
        exact ⟨w, by rw [if_neg (fun z => q z.symm)]; exact h1, h2⟩
theorem e_fld {X : Cx} {E : L2.St → XK} {fl : Str → Str → Bool} (F : Flds X.K X.mg fl) {a : Addr} {ob : Obj} {cls : Value} {d : Option Addr} {pins : List (Addr × Obj)} {c : Str} {dx : Nat} {fn : List Str} {ds : List D} (hz : Zc cls d ob) (hf : ∃ vs, ob.data = .fields vs) (hk : ExK X.mg cls d c dx fn ds)
    (i : Nat) {n f : Str} {p pos : Pos} (hN : X.N[i]? = some n := by rfl) (hv : Vis X.env.scope n := by first | exact Or.inl rfl | exact Or.inr (Or.inl rfl) | exact Or.inr (Or.inr rfl)) (hd : (n == ("__debug__" : Str)) = false := by decide)
    (hcd : (n == ("__classdict__" : Str)) = false := by decide) (hb : attributeBase (.Name n p) f X.env (eval (.Name n p) X.env) = eval (.Name n p) X.env := by rfl) :
    ME (X.suite a ((a, ob) :: pins)) E (.Attribute (.Name n p) f pos) (fldM fl a dx c fn i f) := by
  obtain ⟨⟨C, hC, rfl⟩, hd'⟩ := hk
  refine ⟨fun pn s σ H Q I h => ?_⟩
  obtain ⟨ρ, μ, S, hE, hO, h⟩ := h
  have h' : PostD X.K X.mg μ H (E σ) (fldM fl a dx c fn i f ρ S) Q := h
  cases q : ρ[i]? with
  | none =>
    unfold fldM at h'
    rw [q] at h'
    exact h'.elim
  | some o =>
  cases o with
  | none =>
    unfold fldM at h'
    rw [q] at h'
    exact h'.elim
  | some y =>
  cases y with
  | exo a' dx' c' gs es =>
    have e0 : fldM fl a dx c fn i f ρ = if a' = a ∧ dx' = dx ∧ fl c f = true ∧ fn.isEmpty = false then M.lift (fieldD f gs es) else M.bad := by
      unfold fldM
      rw [q]
    rw [e0] at h'
    by_cases hq : a' = a ∧ dx' = dx ∧ fl c f = true ∧ fn.isEmpty = false
    · rw [if_pos hq] at h'
      obtain ⟨rfl, rfl, h3, h4⟩ := hq
      obtain ⟨T, hno⟩ := F c f C h3 hC
      have hdx : d = some dx' := by
        rcases hd' with h5 | ⟨_, h5, _⟩
        · exact h5
        · rw [h5] at h4
          cases h4
      cases q2 : fieldD f gs es with
      | none =>
        rw [q2] at h'
        exact h'.elim
      | some y =>
        rw [q2] at h'
        obtain ⟨v, hv1, hv2⟩ := hE.2 i _ q
        cases hv2 with
        | exo0 =>
          cases q2
        | exo1 _ e1 e2 e3 =>
          obtain ⟨w, l1, l2⟩ := field_of e2 e3 q2
          refine (pe_xf T hno hz hf (pe_var (X := X.suite a' ((a', ob) :: pins)) (pos := p) hN hv hd hcd) hb).run pn s σ H Q I ?_
          exact ⟨_, hv1, rfl, rfl, dx', _, w, hdx, e1, l1, h' w H μ .refl hO l2⟩
    · rw [if_neg hq] at h'
      exact h'.elim
  | _ =>
    unfold fldM at h'
    rw [q] at h'
    exact h'.elim
end PyM
set_option Elab.async false
set_option linter.all false
set_option maxRecDepth 100000
set_option maxHeartbeats 3200000
namespace PyM
open PySem PySem.Spec PyProof.Rows L2

/-! ### a class of exceptions that keeps two fields -/
/-- the text of def __init__(self, p, q): super().__init__(p, q); self.p = p; self.q = q -/
structure Ini2 (st : Stmt) (p q : Str) : Prop where
  args : ∃ q1 q2 q3, defArgs st = { posonlyargs := [], args := [{ arg := "self", annotation := none, pos := q1 }, { arg := p, annotation := none, pos := q2 }, { arg := q, annotation := none, pos := q3 }], vararg := none, kwonlyargs := [], kw_defaults := [], kwarg := none, defaults := [] }
  body : ∃ a1 a2 a3 a4 a5 a6 a7 b1 b2 b3 b4 c1 c2 c3 c4, defBody st = [.Expr (.Call (.Attribute (.Call (.Name "super" a1) [] [] a2) "__init__" a3) [.Name p a4, .Name q a5] [] a6) a7,
    .Assign [.Attribute (.Name "self" b1) p b2] (.Name p b3) b4, .Assign [.Attribute (.Name "self" c1) q c2] (.Name q c3) c4] ∧
    ∀ env, eval (.Call (.Attribute (.Call (.Name "super" a1) [] [] a2) "__init__" a3) [.Name p a4, .Name q a5] [] a6) env = (do
      let ov ← attributeBase (.Call (.Name "super" a1) [] [] a2) "__init__" env (eval (.Call (.Name "super" a1) [] [] a2) env)
      standAt a3.atName
      let (f, first) ← holding [ov] (getMethod ov "__init__" (do return (← importBound (.Call (.Name "super" a1) [] [] a2) env).getD true))
      callWith a6 f first (backTo a6 (starEach [.Name p a4, .Name q a5] env)) [])
  scope : defScope st = { kind := .function, names := [("self", .local), (p, .local), (q, .local), ("__class__", .free), ("super", .globalImplicit)], isGenerator := false, isCoroutine := false, more := [] }
  bind : ∀ (qual : Str) (kV doc pm ct : Value) (an : Option Addr) (cda cc : Addr) (a v u : Value), bindArgs (W.ksFn "__init__" qual (defArgs st) (defBody st) (defScope st) .none kV doc pm an (.ref cda) ct cc) ⟨[a, v, u], []⟩ = pure [(("self" : Str), a), (p, v), (q, u)]
  ns : ((("super" : Str) == p) = false ∧ (("super" : Str) == q) = false) ∧ ((("__class__" : Str) == p) = false ∧ (("__class__" : Str) == q) = false)
  nq : p ≠ "self" ∧ q ≠ "self" ∧ p ≠ q ∧ (p == ("__debug__" : Str)) = false ∧ (q == ("__debug__" : Str)) = false
/-- what the written part says of the class at C, of its __init__ at fI -/
structure IniC (P : Program) (K : W.Frag) (mg : Str → Option Value) (x : Str) (st : Stmt) (p q : Str) (C fI : Addr) : Prop where
  gC : mg x = some (.ref C)
  oex : OexC K C
  noP : W.findIn K (.ref C) p = some none
  noQ : W.findIn K (.ref C) q = some none
  iC : W.findIn K (.ref C) "__init__" = some (some (.ref fI))
  tI : W.typeIn K (.ref fI) = some (.type "function")
  sup : W.ks_superIn K C C "__init__" = some (some (.builtin "ValueError.__init__"))
  subV : W.subIn K (.ref C) (.type "ValueError") = some true
  self_ : W.mroIn K C (.ref C) = some true
  opq : W.nsIn K cStatics "thirdparty.any" = some none
  nosup : mg "super" = none
  fn : ∃ (qual : Str) (oc : Value) (od : Option Addr) (kV doc pm : Value) (an : Option Addr) (cda cc : Addr) (ct : Value) (osl : Array (Option Value)) (ccl cl : Value) (cdd cld : Option Addr) (vs : Array Value) (ccs csl : Array (Option Value)) (file : Str) (tf : Tok),
    K.lookup fI = some ⟨oc, od, .func (W.ksFn "__init__" qual (defArgs st) (defBody st) (defScope st) .none kV doc pm an (.ref cda) ct cc), osl⟩ ∧ W.codeIn K (.ref cda) qual = true ∧ K.lookup cda = some ⟨ccl, cdd, .fields vs, ccs⟩ ∧ vs[2]? = some (.str file tf) ∧
    ((P.main.file : Str) == file) = true ∧ K.lookup cc = some ⟨cl, cld, .cell (some (.ref C)), csl⟩
  top : (P.main.scope.names.lookup ("super" : Str)).isSome = false
/-- what __init__ leaves -/
structure IniEnd (h h' : Heap) (x C dx t1 : Addr) (p q : Str) (v u : Value) : Prop where
  keep : ∀ b o, b ≠ x → h.get? b = some o → h'.get? b = some o
  obj : h'.get? x = some { cls := .ref C, dict := some dx, data := .fields #[.ref t1, .none, .none, .none, .bool false, .none] }
  big : h.objs.size ≤ dx
  ne : dx ≠ x
  ns : h'.Ns1 dx (fun y => if y = q then some u else if y = p then some v else none)
section
open PySem.W
variable {prog : Program} {w : World} {A : Around} {E : Value → Shared → Prop} {R : Result → Shared → Prop} {s : Shared} {K : Frag} {mg : Str → Option Value} {C fI : Addr} {x : Str} {st : Stmt} {p q : Str}
theorem ldE {M : Model} {env : Env} {m : Str → Option Value} {y : Str} {pos : Pos} {v : Value} {Q : Value → Shared → Prop} (hn : s.heap.Ns env.locals m) (hv : m y = some v) (hk : env.scope.kind = .function) (hl : env.kindOf y = some .local) (hd : (y == ("__debug__" : Str)) = false) (h : Q v s) :
    wpAny M A (eval (.Name y pos) env) Q E s := wpAny_Name (wpAny_loadName_local hk hl hn hv h) hd
/-- the bound __init__ of ValueError is called -/
theorem call_mw {Q : Value → Shared → Prop} {E : Value → Shared → Prop} {m e t0 : Addr} {us : List Value} {nm qn : Str} {N : Addr} {bs bm : List Value} {dct : Bool} {sn : List Str} {sub : List Value} {ab : Bool} {col : Option Bool} {dd : Option Addr} {k0 k1 k2 k3 k5 : Option Value}
    (hm : s.heap.get? m = some (kxs_mw "ValueError.__init__" e)) (hC : s.heap.get? C = some (excClassObj nm qn C N bs bm dct sn sub ab col dd k0 k1 k2 k3 k5 "ValueError.__new__")) (he : s.heap.get? e = some (HandSPX.excO C t0)) (hus : us.length ≤ sizeLine)
    (hq : ∀ h' t1, (∀ b o, b ≠ e → s.heap.get? b = some o → h'.get? b = some o) → h'.get? e = some (HandSPX.excO C t1) → Q .none { s with heap := h' }) : wpAny (model prog w) A (call (.ref m) us) Q E s := by
  have FB := PySem.F.excBase_ValueError
  obtain ⟨hp, g, d, t, os⟩ := s
  refine wpAny_call (codeAny_of_tree ?_)
  show wpAny _ A.in1 (callAny (.ref m) ⟨us, []⟩) _ _ _
  simp only [callAny]
  refine wpAny_bind (wpAny_load hm ?_)
  simp only [kxs_mw, show (Value.type "method-wrapper" == Value.type "method") = false by decide, show (Value.type "method-wrapper" == Value.type "builtin_function_or_method") = false by decide, beq_self_eq_true, Bool.or_true]
  rw [if_pos (by decide)]
  refine wpAny_bind (check_bound_init FB.toExcCallFacts hC he rfl (wpAny_pure ?_))
  exact ⟨plainId_quiet FB.init.plain _, codeAny_builtin FB.initEntry (exc_init_tree (cls := .ref C) (t0 := t0) (dv := none) (c2 := .none) (c3 := .none) (b4 := .bool false) he hus fun h' k e' _ => hq h' hp.objs.size k e')⟩
theorem init2 (T : IniC prog K mg x st p q C fI) (I2 : Ini2 st p q) {e t0 : Addr} {v u : Value} (X : K.In s.heap) (hmg : s.heap.Ns mainGlobals mg) {mb : Str → Option Value} (hbl : s.heap.Ns builtinsNs mb) (hmb : mb "super" = some (.type "super")) (hlim : s.heap.NoLimit)
    (he : s.heap.get? e = some (HandSPX.excO C t0)) (hne : K.lookup e = none) (hroom : A.depth < recursionLimit)
    (hq : ∀ h' tk dx t1, IniEnd s.heap h' e C dx t1 p q v u → R (.ok (.ret .none)) { s with heap := h', toks := tk }) : codeAny (model prog w) A (.call (.ref fI) ⟨[.ref e, v, u], []⟩) R s := by
  obtain ⟨qual, oc, od, kV, doc, pm, an, cda, cc, ct, osl, ccl, cl, cdd, cld, vs, ccs, csl, file, tf, ho, hcd, hcda, hvs, hfile, hcc⟩ := T.fn
  obtain ⟨nm, qn, N, bs, bm, sn, sub, ab, col, dd, k0, k1, k2, k3, k5, hC, hbm⟩ := T.oex.cls
  obtain ⟨p1, p2, p3, hargs⟩ := I2.args
  obtain ⟨a1, a2, a3, a4, a5, a6, a7, b1, b2, b3, b4, c1, c2, c3, c4, hbody, hmeth⟩ := I2.body
  obtain ⟨⟨hsp, hsq⟩, hcp, hcq⟩ := I2.ns
  obtain ⟨np, nq, npq, dp, dq⟩ := I2.nq
  have hcl : clsIn K C = some { name := nm, bases := bs, mro := .ref C :: bm, ns := N, qualname := qn, hasDict := true, slotNames := sn, subclasses := sub, abstract := ab, collection := col, hasDel := false } := by unfold clsIn; rw [hC] <;> rfl
  have n1 : (p == ("self" : Str)) = false := by simpa using np
  have n2 : (q == ("self" : Str)) = false := by simpa using nq
  have n3 : (q == p) = false := by simpa using npq.symm
  have n4 : (("self" : Str) == p) = false := by simpa using np.symm
  have n5 : (("self" : Str) == q) = false := by simpa using nq.symm
  have n6 : (p == q) = false := by simpa using npq
  have hbind := I2.bind qual kV doc pm ct an cda cc (.ref e) v u
  rw [hargs, hbody, I2.scope] at ho hbind
  refine ks_codeAny_call_defAt (binds := [("self", .ref e), (p, v), (q, u)]) hroom (X _ _ ho) rfl hlim (codeRec_of X hcd) rfl ?_ ?_ ?_ (fun h₀ hns k => ?_) rfl rfl rfl
  · exact BindsTo.of_eq hbind
  · intro y hy
    simp only [List.mem_cons, List.not_mem_nil, or_false] at hy
    rcases hy with rfl | rfl | rfl | rfl | rfl <;> (intro z; cases z)
  · intro y hy
    simp only [List.mem_cons, List.not_mem_nil, or_false] at hy
    rcases hy with rfl | rfl | rfl
    · rfl
    · show List.lookup p _ = _
      simp only [List.lookup, n1, beq_self_eq_true]
    · show List.lookup q _ = _
      simp only [List.lookup, n2, n3, beq_self_eq_true]
  have hL : s.heap.objs.size ≠ e := Nat.ne_of_gt (Heap.lt_size he)
  have X₀ : K.In h₀ := X.keeps k
  have he₀ := k _ _ he
  have lself : (fun y => [(("self" : Str), Value.ref e), (p, v), (q, u)].reverse.lookup y) "self" = some (.ref e) := by
    simp [List.lookup, n4, n5]
  have lp : (fun y => [(("self" : Str), Value.ref e), (p, v), (q, u)].reverse.lookup y) p = some v := by
    simp [List.lookup, n6]
  have lq : (fun y => [(("self" : Str), Value.ref e), (p, v), (q, u)].reverse.lookup y) q = some u := by
    simp [List.lookup]
  generalize hmL : (fun y => [(("self" : Str), Value.ref e), (p, v), (q, u)].reverse.lookup y) = mL at hns lself lp lq
  generalize hE : callEnv _ _ _ = env
  have f1 : env.scope.kind = .function := by rw [← hE]; rfl
  have f2 : env.kindOf "super" = some .globalImplicit := by
    rw [← hE]
    show List.lookup ("super" : Str) [(("self" : Str), NameKind.local), (p, .local), (q, .local), (("__class__" : Str), .free), (("super" : Str), .globalImplicit)] = _
    simp only [List.lookup, hsp, hsq, show (("super" : Str) == ("self" : Str)) = false by decide +kernel, show (("super" : Str) == ("__class__" : Str)) = false by decide +kernel, show (("super" : Str) == ("super" : Str)) = true by decide +kernel]
  have f3 : env.kindOf "__class__" = some .free := by
    rw [← hE]
    show List.lookup ("__class__" : Str) [(("self" : Str), NameKind.local), (p, .local), (q, .local), (("__class__" : Str), .free), (("super" : Str), .globalImplicit)] = _
    simp only [List.lookup, hcp, hcq, show (("__class__" : Str) == ("self" : Str)) = false by decide +kernel, show (("__class__" : Str) == ("__class__" : Str)) = true by decide +kernel]
  have f4 : env.kindOf "self" = some .local := by rw [← hE]; rfl
  have f5 : env.kindOf p = some .local := by
    rw [← hE]
    show List.lookup p [(("self" : Str), NameKind.local), (p, .local), (q, .local), (("__class__" : Str), .free), (("super" : Str), .globalImplicit)] = _
    simp only [List.lookup, n1, beq_self_eq_true]
  have f6 : env.kindOf q = some .local := by
    rw [← hE]
    show List.lookup q [(("self" : Str), NameKind.local), (p, .local), (q, .local), (("__class__" : Str), .free), (("super" : Str), .globalImplicit)] = _
    simp only [List.lookup, n2, n3, beq_self_eq_true]
  have f7 : env.globals = mainGlobals := by rw [← hE]; rfl
  have f8 : env.builtins = builtinsNs := by rw [← hE]; rfl
  have f9 : env.cells.lookup ("__class__" : Str) = some cc := by rw [← hE]; rfl
  have f10 : env.locals = s.heap.objs.size := by rw [← hE]; rfl
  have f11 : env.func = some fI := by rw [← hE]; rfl
  have f12 : env.code = .ref cda := by rw [← hE]; rfl
  have f13 : interactive env = false := by rw [← hE]; rfl
  have hs1 : swapsWith (.Call (.Attribute (.Call (.Name "super" a1) [] [] a2) "__init__" a3) [.Name p a4, .Name q a5] [] a6) none a7.line env = pure false := by rw [← hE]; rfl
  have hs2 : swapsWith (.Name p b3) (some (.Attribute (.Name "self" b1) p b2)) b4.line env = pure false := by rw [← hE]; rfl
  have hs3 : swapsWith (.Name q c3) (some (.Attribute (.Name "self" c1) q c2)) c4.line env = pure false := by rw [← hE]; rfl
  clear hE
  refine ks_wpAt_execs_cons (ks_wpAt_Expr_any (hi := f13) (hs := hs1) (ks_wpAt_MethodCall (he := hmeth _) (ks_wpAt_super_base f2 f3 rfl f11 (X₀ _ _ ho) rfl rfl f12 (X₀ _ _ hcda) rfl hvs hfile T.top ?_)))
  have hL₀ : h₀.Ns env.locals mL := by rw [f10]; exact hns
  refine ks_loadName_global f1 f2 (PySem.Calls.loadGlobal_builtin (by rw [f7]; exact hmg.keeps k) T.nosup (by rw [f8]; exact hbl.keeps k) hmb ⟨rfl, ?_⟩)
  refine wpAny_loadName_free f1 f3 f9 ⟨_, X₀ _ _ hcc, rfl⟩ ?_
  refine wpAny_loadName_local f1 f4 hL₀ lself ?_
  have hCC := X₀ _ _ hC
  refine ks_wpAny_isType_cls hCC rfl ⟨rfl, ?_⟩
  refine ks_wpAny_call_super hCC rfl he₀ rfl (fun c z => by cases z) (looks_mroIn X₀ T.self_) (fun h₁ hso k₁ => ?_)
  have X₁ : K.In h₁ := X₀.keeps k₁
  have he₁ := k₁ _ _ he₀
  have eC : e ≠ C := fun z => by
    rw [z, hC] at hne
    cases hne
  have sup := T.sup
  unfold ks_superIn at sup
  rw [hcl] at sup
  have inst : InstAt h₁ e (HandSPX.excO C t0) C none := ⟨he₁, rfl, rfl, trivial⟩
  have mro : Looks (model prog w) h₁ (mroOf (.ref C)) (.ref C :: bm) := fun A Q E s k q => wpAny_bind ((looks_clsIn X₁ hcl) A _ E s k (wpAny_pure q))
  refine kxs_getMethod kxs_ValueError hso (looks_opaque X₁ T.opq) mro rfl X₁ sup (inst.type.andThen (looks_subIn X₁ T.subV)) eC (by decide) ?_
  generalize hh₂ : h₁.push (kxs_mw "ValueError.__init__" e) = h₂
  have k₂ : ∀ b o, h₁.get? b = some o → h₂.get? b = some o := fun b o z => by
    rw [← hh₂]
    exact Heap.get?_push_of_some _ z
  have mw : h₂.get? h₁.objs.size = some (kxs_mw "ValueError.__init__" e) := by
    rw [← hh₂]
    exact Heap.get?_push_at rfl rfl
  have hL₂ : h₂.Ns env.locals mL := hL₀.keeps fun b o z => k₂ b o (k₁ b o z)
  refine kxs_callWith (i := "ValueError.__init__") (x := e) rfl ?_
  show wpAny _ _ (evalArgs _ true ((false, eval (.Name p a4) env) :: backTo a6 (starEach [.Name q a5] env)) []) _ _ _
  refine PySem.Calls.evalArgs_plain (PySem.Calls.spliced_cons (ldE hL₂ lp f1 f5 dp ?_))
  show wpAny _ _ (spliced ((false, eval (.Name q a5) env) :: backTo a6 (starEach [] env))) _ _ _
  refine PySem.Calls.spliced_cons (ldE hL₂ lq f1 f6 dq (PySem.Calls.spliced_nil ⟨mw, ?_⟩))
  refine call_mw mw (X₁.keeps k₂ _ _ hC) (k₂ _ _ he₁) (by show 2 ≤ sizeLine; rw [sizeLine_eq]; decide) (fun h₃ t1 k₃ he₃ => ?_)
  have kept : ∀ b o, b ≠ e → s.heap.get? b = some o → h₃.get? b = some o := fun b o hb z => k₃ b o hb (k₂ b o (k₁ b o (k b o z)))
  have X₃ : K.In h₃ := fun b o z => kept b o (fun y => by rw [y, hne] at z; cases z) (X b o z)
  have hL₃ : h₃.Ns env.locals mL := by
    obtain ⟨oL, es, ep, e1, e2⟩ := hL₂
    exact ⟨oL, es, ep, k₃ _ _ (by rw [f10]; exact hL) e1, e2⟩
  refine wpAt_of_wpAny ?_
  show wpAny _ _ (execs _ _) _ _ _
  refine wpAny_execs_cons (plainObj_wpAny_Assign_Attribute (ldE hL₃ lp f1 f5 dp (ldE hL₃ lself f1 f4 rfl ?_)) hs2)
  refine set_plain X₃ (ox := HandSPX.excO C t1) (od := none) ⟨he₃, rfl, rfl, trivial⟩ T.oex.sa ?_
  refine HandSPX.exc_osa X₃ he₃ hcl (show HandSPX.refsVE (.ref C :: bm) = true from hbm) rfl T.noP (fun h₄ tk₄ dx k₄ dn dne he₄ hn₄ => ?_)
  have big : s.heap.objs.size ≤ dx := by
    obtain ⟨oL, es, ep, e1, e2⟩ := hL₃
    have z := Heap.lt_size e1
    rw [f10] at z
    exact Nat.le_trans (Nat.le_of_lt z) dn
  have keep₄ : ∀ b o, b ≠ e → s.heap.get? b = some o → h₄.get? b = some o := fun b o hb z => k₄ b o hb (kept b o hb z)
  have X₄ : K.In h₄ := fun b o z => keep₄ b o (fun y => by rw [y, hne] at z; cases z) (X b o z)
  have hL₄ : h₄.Ns env.locals mL := by
    obtain ⟨oL, es, ep, e1, e2⟩ := hL₃
    exact ⟨oL, es, ep, k₄ _ _ (by rw [f10]; exact hL) e1, e2⟩
  show wpAny _ _ (execs _ _) _ _ _
  refine wpAny_execs_cons (plainObj_wpAny_Assign_Attribute (ldE hL₄ lq f1 f6 dq (ldE hL₄ lself f1 f4 rfl ?_)) hs3)
  obtain ⟨oD, esD, epD, hoD, hdD⟩ := id hn₄
  refine set_plain X₄ (ox := { cls := .ref C, dict := some dx, data := .fields #[.ref t1, .none, .none, .none, .bool false, .none] }) (od := some oD) ⟨he₄, rfl, rfl, hoD⟩ T.oex.sa ?_
  refine PySem.OEX.osa_old (nl := [p]) X₄ he₄ hn₄ (fun y hy => ?_) (Nat.le_of_ble_eq_true rfl) hcl (show HandSPX.refsVE (.ref C :: bm) = true from hbm) rfl T.noQ (fun h₅ tk₅ k₅ hn₅ => ?_)
  · by_cases z : y = p
    · simp [z]
    · exact absurd (if_neg z) hy
  show wpAny _ _ (execs _ _) _ _ _
  refine wpAny_execs_nil (hq h₅ _ dx t1 ⟨fun b o hb z => ?_, k₅ _ _ dne.symm he₄, big, dne, hn₅⟩)
  exact k₅ b o (Nat.ne_of_lt (Nat.lt_of_lt_of_le (Heap.lt_size z) big)) (keep₄ b o hb z)
end
end PyM
set_option Elab.async false
set_option linter.all false
set_option maxRecDepth 100000
set_option maxHeartbeats 3200000
namespace PyM
open PySem PySem.Spec PyProof.Rows L2
/-- such an exception, made -/
structure Made2 (h h' : Heap) (e C d : Addr) (p q : Str) (v u : Value) : Prop where
  old : ∀ b o, h.get? b = some o → h'.get? b = some o
  new : h.objs.size ≤ e
  obj : ∃ oe vs, h'.get? e = some oe ∧ oe.cls = .ref C ∧ oe.dict = some d ∧ oe.data = .fields vs ∧ vs[1]? = some .none
  big : h.objs.size ≤ d
  ne : d ≠ e
  ns : h'.Ns1 d (fun y => if y = q then some u else if y = p then some v else none)
section
open PySem.W
variable {prog : Program} {w : World} {A : Around} {R : Result → Shared → Prop} {s : Shared} {K : Frag} {mg mb : Str → Option Value} {C fI : Addr} {x : Str} {st : Stmt} {p q : Str}
theorem made2 (T : IniC prog K mg x st p q C fI) (I2 : Ini2 st p q) {v u : Value} (X : K.In s.heap) (hmg : s.heap.Ns mainGlobals mg) (hbl : s.heap.Ns builtinsNs mb) (hmb : mb "super" = some (.type "super")) (hlim : s.heap.NoLimit) (hroom : A.depth + 1 < recursionLimit)
    (hq : ∀ h' tk e d, Made2 s.heap h' e C d p q v u → R (.ok (.ret (.ref e))) { s with heap := h', toks := tk }) : codeAny (model prog w) A (.call (.ref C) ⟨[v, u], []⟩) R s := by
  obtain ⟨nm, qn, N, bs, bm, sn, sub, ab, col, dd, k0, k1, k2, k3, k5, hC, hbm⟩ := T.oex.cls
  obtain ⟨hp, g, dr, tk, os⟩ := s
  have up : ∀ b o, hp.get? b = some o → ((hp.push (kdv_tup [v, u])).push (HandSPX.excO C hp.objs.size)).get? b = some o := fun b o z => Heap.get?_push_of_some _ (Heap.get?_push_of_some _ z)
  have there : ((hp.push (kdv_tup [v, u])).push (HandSPX.excO C hp.objs.size)).get? (hp.objs.size + 1) = some (HandSPX.excO C hp.objs.size) := by heap_get
  have notK : K.lookup (hp.objs.size + 1) = none := by
    cases z : K.lookup (hp.objs.size + 1) with
    | none => rfl
    | some o =>
      have y : hp.get? (hp.objs.size + 1) = some o := X _ _ z
      have z2 : hp.objs.size + 1 < hp.objs.size := Heap.lt_size y
      omega
  refine HandSPX.call_own F.excBase_ValueError (fun Y => HandSPX.refsVE_contains Y bm hbm) (X _ _ hC) (looks_findIn X T.iC) (fun self => bind_fn X self T.tI) (by show 2 ≤ sizeLine; rw [sizeLine_eq]; decide) ?_
  refine init2 (s := ⟨(hp.push (kdv_tup [v, u])).push (HandSPX.excO C hp.objs.size), g, dr, tk, os⟩) T I2 (X.keeps up) (hmg.keeps up) (hbl.keeps up) hmb (hlim.keeps up) there notK hroom fun h' tk' dx t1 M => ?_
  have sz : hp.objs.size + 1 + 1 ≤ dx := by
    have z := M.big
    rw [Heap.size_push, Heap.size_push] at z
    exact z
  refine ⟨rfl, hq h' tk' (hp.objs.size + 1) dx ⟨fun b o z => ?_, Nat.le_succ _, ⟨_, _, M.obj, rfl, rfl, rfl, rfl⟩, Nat.le_trans (Nat.le_trans (Nat.le_succ _) (Nat.le_succ _)) sz, M.ne, M.ns⟩⟩
  have z2 : b < hp.objs.size := Heap.lt_size z
  exact M.keep b o (Nat.ne_of_lt (Nat.lt_succ_of_lt z2)) (up b o z)
end
theorem relO_2 {p q : Str} (hpq : p ≠ q) {a b : V} {v u : Value} (ra : RelV a v) (rb : RelV b u) (f : Str) : RelO (List.lookup f [(p, a), (q, b)]) (if f = q then some u else if f = p then some v else none) := by
  rw [L2.lookup_put, L2.lookup_put]
  by_cases h1 : f = p
  · rw [if_pos h1, if_neg (fun z => hpq (h1.symm.trans z)), if_pos h1]
    exact ra
  · rw [if_neg h1]
    by_cases h2 : f = q
    · rw [if_pos h2, if_pos h2]
      exact rb
    · rw [if_neg h2, if_neg h2, if_neg h1]
      exact trivial
/-- the fields of two arguments -/
def two (p q : Str) (ms : Env' → M (List D)) : Env' → M (List (Str × D)) := fun ρ => M.bind (ms ρ) fun ds => match ds with
  | [a, b] => M.pure [(p, a), (q, b)]
  | _ => M.bad
section
variable {X : Cx} {E : L2.St → XK} {a b : Expr} {ms : Env' → M (List D)} {x p q : Str} {st : Stmt} {pn pos : Pos} {k : Nat}
/-- X(a, b), a class that keeps two fields -/
theorem mk_2 (T : ∃ C fI, IniC X.prog X.K X.mg x st p q C fI) (I2 : Ini2 st p q) (hr : Room k X.A) (ha : MA X E [a, b] ms) (hg : Gl X x := by rfl) (hdb : (x == ("__debug__" : Str)) = false := by decide)
    (he : starEach [a, b] X.env = (false, eval a X.env) :: starEach [b] X.env := by rfl) (hpl : (backTo pos (starEach [b] X.env)).any (·.1) = false := by rfl) : MMk X E (.Call (.Name x pn) [a, b] [] pos) x (two p q ms) := by
  obtain ⟨C, fI, T⟩ := T
  refine ⟨fun σ H Q => tA' X.K X.mg E ms σ H fun vs H1 => ∃ y z, vs = [y, z] ∧ ∀ d, H1 d = none → Q (.ref C) (some d) (upd H1 d (.xd [(p, y), (q, z)])), ?_, ?_⟩
  · intro pins s σ H Q I h
    refine wpAny_Call_Name_kw (ld_glob I hg T.gC ?_ hdb)
    refine W.callWith_K (h₀ := X.base) I.ok.mod.kin T.oex.kC (thn (ha.run pos pins s σ H _ I h) fun us s1 hh => ?_) he hpl
    obtain ⟨vs, H1, I1, r1, y, z, ev, q1⟩ := hh
    subst ev
    refine ⟨I1.kIn, ?_⟩
    cases r1 with
    | cons ry rn =>
    cases rn with
    | cons rz rn =>
    cases rn
    rename_i v u
    show wpAny _ _ (call (.ref C) [v, u]) _ _ _
    have hlim := I1.nolimit
    obtain ⟨mb, hb1, hb2⟩ := I1.ok.mod.blt
    have hmg := I1.ok.mod.glob.keeps I1.bk
    have hbl := hb1.keeps I1.bk
    have hmb : mb "super" = some (.type "super") := (hb2 "super" (by decide +kernel)).trans (by first | kernel_rfl | rfl)
    obtain ⟨hp, g, dr, tk, os⟩ := s1
    refine wpAny_call (made2 T I2 I1.kIn hmg hbl hmb hlim (by have := hr.dp; omega) fun h' tk' e d M => ?_)
    show MkP X pins σ Q (.ref e) ⟨h', g, dr, tk', os⟩
    obtain ⟨oe, fv, hoe, hc, hd, hdat, h1⟩ := M.obj
    obtain ⟨G, g1, g2⟩ := restrict h' fun b => decide (b ≠ e)
    have gk : ∀ b, b ≠ e → G.get? b = h'.get? b := fun b hb => g1 b (decide_eq_true hb)
    have ge : G.get? e = none := g2 e (by simp)
    have kept : ∀ b o, hp.get? b = some o → G.get? b = some o := fun b o z => (gk b (Nat.ne_of_lt (Nat.lt_of_lt_of_le (Heap.lt_size z) M.new))).trans (M.old b o z)
    have ob : ObjOk X.prog X.w (upd H1 d (.xd [(p, y), (q, z)])) G d (.xd [(p, y), (q, z)]) := ⟨_, M.ns.at (fun o z => (gk d M.ne).trans z), fun f => relO_2 I2.nq.2.2.1 ry rz f⟩
    have J : Inv X pins σ (upd H1 d (.xd [(p, y), (q, z)])) ⟨G, g, dr, tk', os⟩ := I1.laid (t' := tk') kept M.big ob
    refine ⟨e, oe, fv, ⟨G, g, dr, tk', os⟩, _, .ref C, some d, rfl, J, fun b o z => ?_, ge, hoe, ⟨hc, hd⟩, hdat, h1, ?_, rfl, I1.bare, raises_own T.oex.exC T.oex.tyC, q1 d (I1.hok.fresh M.big)⟩
    · by_cases hb : b = e
      · have z' : G.get? b = some o := z
        rw [hb, ge] at z'
        cases z'
      · exact (gk b hb).symm.trans z
    · rw [upd_ne (Ne.symm M.ne)]
      exact I1.hok.fresh M.new
  · intro σ H Q ρ μ S hE hO h
    unfold two at h
    refine tA'.run (k := fun ds => match ds with
      | [a, b] => M.pure [(p, a), (q, b)]
      | _ => M.bad) (R := fun r => match r with
      | .ok fs S' => ∀ cls d H' μ', Step μ μ' H H' → Ok X.K X.mg μ' H' S' → ExcIs X.K X.mg μ' H' cls d x fs → Q cls d H'
      | .exc c' fs S' => XP X.K X.mg μ H (E σ) c' fs S'
      | .bad => False) hE hO h (fun _ _ _ z => z) (fun z => z) fun ds S1 hds h1 vs H1 μ1 s1 o1 e1 d1 => ?_
    match ds, d1, h1 with
    | [], _, h1 => exact h1.elim
    | [_], _, h1 => exact h1.elim
    | _ :: _ :: _ :: _, _, h1 => exact h1.elim
    | [d1, d2], .cons (v := y) hy (.cons (v := z) hz .nil), h1 =>
      refine ⟨y, z, rfl, fun d hd => ?_⟩
      have fr : Step μ1 μ1 H1 (upd H1 d (.xd [(p, y), (q, z)])) := Step.fresh hd
      exact h1 (.ref C) (some d) _ μ1 (s1.trans fr) (o1.fresh hd) ⟨C, T.gC, rfl, .inr ⟨d, _, rfl, upd_same, rfl, .cons (hy.mono o1 fr) (.cons (hz.mono o1 fr) .nil)⟩⟩
end
end PyM
set_option Elab.async false
set_option linter.all false
set_option maxRecDepth 100000
set_option maxHeartbeats 3200000
namespace PyM
open PySem PySem.Spec PyProof.Rows L2
/-! ### sum, max, min -/
def intsOf : List D → Option (List Int)
  | [] => some []
  | .int i :: ds => (intsOf ds).map (i :: ·)
  | _ :: _ => none
theorem intsOf_den {K : W.Frag} {mg : Str → Option Value} {μ : Pl} {H : Hp} : ∀ {ds : List D} {vs : List V} {ns : List Int}, DenL K mg μ H vs ds → intsOf ds = some ns → vs = ns.map V.int
  | [], _, _, .nil, h => by
    cases h
    rfl
  | d :: ds, _, ns, .cons hv t, h => by
    cases d with
    | int i =>
      have h' : (intsOf ds).map (i :: ·) = some ns := h
      cases q : intsOf ds with
      | none => rw [q] at h'; cases h'
      | some ms =>
        rw [q] at h'
        obtain rfl := Option.some.inj h'
        rw [intsOf_den t q]
        cases hv
        rfl
    | _ => cases h
def maxL : List Int → Int
  | [] => 0
  | [a] => a
  | a :: r => if maxL r > a then maxL r else a
def minL : List Int → Int
  | [] => 0
  | [a] => a
  | a :: r => if minL r < a then minL r else a
theorem maxL_is : ∀ {l : List Int} {m : Int}, m ∈ l → (∀ y ∈ l, y ≤ m) → m = maxL l
  | [], m, h, _ => by simp at h
  | [a], m, h, _ => List.mem_singleton.mp h
  | a :: b :: r, m, h, k => by
    have e : maxL (a :: b :: r) = if maxL (b :: r) > a then maxL (b :: r) else a := rfl
    have le : ∀ l : List Int, ∀ y ∈ l, y ≤ maxL l := fun l => by
      induction l with
      | nil => intro y hy; simp at hy
      | cons a l ih =>
        intro y hy
        cases l with
        | nil =>
          have : y = a := by simpa using hy
          rw [this]
          exact Int.le_refl _
        | cons c l =>
          have e : maxL (a :: c :: l) = if maxL (c :: l) > a then maxL (c :: l) else a := rfl
          rw [e]
          rcases List.mem_cons.mp hy with rfl | hy
          · split <;> omega
          · have := ih y hy
            split <;> omega
    have mem : ∀ l : List Int, l ≠ [] → maxL l ∈ l := fun l => by
      induction l with
      | nil => intro z; exact absurd rfl z
      | cons a l ih =>
        intro _
        cases l with
        | nil => exact List.mem_singleton.mpr rfl
        | cons c l =>
          have e : maxL (a :: c :: l) = if maxL (c :: l) > a then maxL (c :: l) else a := rfl
          rw [e]
          split
          · exact List.mem_cons_of_mem _ (ih (by simp))
          · simp
    have h1 := le _ m h
    have h2 := k _ (mem (a :: b :: r) (by simp))
    omega
theorem minL_is : ∀ {l : List Int} {m : Int}, m ∈ l → (∀ y ∈ l, m ≤ y) → m = minL l
  | [], m, h, _ => by simp at h
  | [a], m, h, _ => List.mem_singleton.mp h
  | a :: b :: r, m, h, k => by
    have le : ∀ l : List Int, ∀ y ∈ l, minL l ≤ y := fun l => by
      induction l with
      | nil => intro y hy; simp at hy
      | cons a l ih =>
        intro y hy
        cases l with
        | nil =>
          have : y = a := by simpa using hy
          rw [this]
          exact Int.le_refl _
        | cons c l =>
          have e : minL (a :: c :: l) = if minL (c :: l) < a then minL (c :: l) else a := rfl
          rw [e]
          rcases List.mem_cons.mp hy with rfl | hy
          · split <;> omega
          · have := ih y hy
            split <;> omega
    have mem : ∀ l : List Int, l ≠ [] → minL l ∈ l := fun l => by
      induction l with
      | nil => intro z; exact absurd rfl z
      | cons a l ih =>
        intro _
        cases l with
        | nil => exact List.mem_singleton.mpr rfl
        | cons c l =>
          have e : minL (a :: c :: l) = if minL (c :: l) < a then minL (c :: l) else a := rfl
          rw [e]
          split
          · exact List.mem_cons_of_mem _ (ih (by simp))
          · simp
    have h1 := le _ m h
    have h2 := k _ (mem (a :: b :: r) (by simp))
    omega
def sumP (S : Store) : List D → Option D
  | [d] => match asS S d with
    | some ds => (intsOf ds).map fun ns => .int ns.sum
    | none => none
  | _ => none
def maxP (S : Store) : List D → Option D
  | [.int i, .int j] => some (.int (if j > i then j else i))
  | [d] => match asS S d with
    | some ds => match intsOf ds with
      | some ns => if ns.isEmpty = true then none else some (.int (maxL ns))
      | none => none
    | none => none
  | _ => none
def minP (S : Store) : List D → Option D
  | [.int i, .int j] => some (.int (if j < i then j else i))
  | [d] => match asS S d with
    | some ds => match intsOf ds with
      | some ns => if ns.isEmpty = true then none else some (.int (minL ns))
      | none => none
    | none => none
  | _ => none
section
variable {X : Cx}
theorem c_sum (hc : X.calm = true) : CallR X (.builtin "sum") (rPL X.K X.mg sumP) := by
  intro pins s σ H xs us Q I r h
  obtain ⟨μ, S, ds, d, o, dl, e, k⟩ := h
  unfold sumP at e
  split at e
  · split at e
    · rename_i es q
      cases hb : intsOf es with
      | none => rw [hb] at e; cases e
      | some ns =>
        rw [hb] at e
        obtain rfl := Option.some.inj e
        obtain ⟨v, rfl, dv⟩ := den1 dl
        obtain ⟨p, vs, rfl, h1, h2⟩ := asS_den o dv q
        obtain rfl := intsOf_den h2 hb
        exact cr_sum hc pins s σ H _ us Q I r ⟨p, ns, rfl, h1, k _ _ .refl o (.int _)⟩
    · cases e
  · cases e
theorem c_max (hc : X.calm = true) : CallR X (.builtin "max") (rPL X.K X.mg maxP) := by
  intro pins s σ H xs us Q I r h
  obtain ⟨μ, S, ds, d, o, dl, e, k⟩ := h
  unfold maxP at e
  split at e
  · obtain rfl := Option.some.inj e
    cases dl with
    | cons h1 t =>
    cases t with
    | cons h2 t =>
    cases t
    cases h1
    cases h2
    exact call_max2 hc pins s σ H _ us Q I r ⟨_, _, rfl, k _ _ .refl o (.int _)⟩
  · split at e
    · rename_i es q
      split at e
      · rename_i ns hb
        split at e
        · cases e
        · rename_i hne
          obtain rfl := Option.some.inj e
          obtain ⟨v, rfl, dv⟩ := den1 dl
          obtain ⟨p, vs, rfl, h1, h2⟩ := asS_den o dv q
          obtain rfl := intsOf_den h2 hb
          refine cr_max hc pins s σ H _ us Q I r ⟨p, ns, rfl, h1, ?_, fun m hm hy => ?_⟩
          · cases ns with
            | nil => exact absurd rfl hne
            | cons a b => exact Nat.zero_lt_succ _
          · rw [maxL_is hm hy]
            exact k _ _ .refl o (.int _)
      · cases e
    · cases e
  · cases e
theorem c_min (hc : X.calm = true) : CallR X (.builtin "min") (rPL X.K X.mg minP) := by
  intro pins s σ H xs us Q I r h
  obtain ⟨μ, S, ds, d, o, dl, e, k⟩ := h
  unfold minP at e
  split at e
  · obtain rfl := Option.some.inj e
    cases dl with
    | cons h1 t =>
    cases t with
    | cons h2 t =>
    cases t
    cases h1
    cases h2
    exact call_min2 hc pins s σ H _ us Q I r ⟨_, _, rfl, k _ _ .refl o (.int _)⟩
  · split at e
    · rename_i es q
      split at e
      · rename_i ns hb
        split at e
        · cases e
        · rename_i hne
          obtain rfl := Option.some.inj e
          obtain ⟨v, rfl, dv⟩ := den1 dl
          obtain ⟨p, vs, rfl, h1, h2⟩ := asS_den o dv q
          obtain rfl := intsOf_den h2 hb
          refine cr_min hc pins s σ H _ us Q I r ⟨p, ns, rfl, h1, ?_, fun m hm hy => ?_⟩
          · cases ns with
            | nil => exact absurd rfl hne
            | cons a b => exact Nat.zero_lt_succ _
          · rw [minL_is hm hy]
            exact k _ _ .refl o (.int _)
      · cases e
    · cases e
  · cases e
end
/-! ### suites tell nothing of where the exception stands -/
theorem fld_set (fl : Str → Str → Bool) (a dx : Nat) (c : Str) (fn gs : List Str) (ds : List D) (i : Nat) (f : Str) (ρ : Env') : fldM fl a dx c fn i f (ρ.set i (some (.exo a dx c gs ds))) = if i < ρ.length ∧ fl c f = true ∧ fn.isEmpty = false then M.lift (fieldD f gs ds) else M.bad := by
  unfold fldM
  by_cases h : i < ρ.length
  · rw [List.getElem?_set_self h]
    simp [h]
  · rw [List.getElem?_eq_none (by simpa using h)]
    simp [h]
theorem var_set (i j : Nat) (x : Option D) (ρ : Env') (h : i ≠ j) : varM j (ρ.set i x) = varM j ρ := by
  unfold varM var
  rw [List.getElem?_set_ne h]
/-- the same in both -/
def PSame (i : Nat) (x y : D) (m m0 : MSt) : Prop := ∀ (ρ : Env') S, wipeR i (noExc (m (ρ.set i (some x)) S)) = wipeR i (noExc (m0 (ρ.set i (some y)) S))
section
variable {i : Nat} {x y : D} {e e0 : Env' → M D} {t t0 : Env' → M Bool} {m1 m2 n1 n2 : MSt}
theorem par_ret (h : ∀ (ρ : Env') S, e (ρ.set i (some x)) S = e0 (ρ.set i (some y)) S) : PSame i x y (retM e) (retM e0) := fun ρ S => by
  unfold retM
  rw [h]
  cases e0 (ρ.set i (some y)) S <;> rfl
theorem par_nil : PSame i x y nilS nilS := fun ρ S => by
  unfold nilS noExc wipeR
  simp
theorem par_ct : PSame i x y ctM ctM := fun ρ S => by
  unfold ctM noExc wipeR
  simp
theorem par_if (h : ∀ (ρ : Env') S, t (ρ.set i (some x)) S = t0 (ρ.set i (some y)) S) (h1 : PSame i x y m1 n1) (h2 : PSame i x y m2 n2) : PSame i x y (ifM t m1 m2) (ifM t0 n1 n2) := fun ρ S => by
  unfold ifM
  rw [h]
  cases t0 (ρ.set i (some y)) S with
  | ok k S' => cases k with
    | true => exact h1 ρ S'
    | false => exact h2 ρ S'
  | exc c fs S' => rfl
  | bad => rfl
theorem par_hd {hn : Str} {m : Nat → Nat → Str → List Str → List D → MSt} (h : ∀ a dx c fn ds, PSame i (.exo a dx c fn ds) (.exo 0 0 c fn ds) (m a dx c fn ds) (m 0 0 c fn ds)) : Hd.Par ⟨hn, some i, m⟩ := fun a dx ρ c fs S => h a dx c _ _ ρ S
theorem par_no {hn : Str} {m : MSt} : Hd.Par ⟨hn, none, fun _ _ _ _ _ => m⟩ := fun a dx ρ c fs S => rfl
end
end PyM
set_option Elab.async false
set_option linter.all false
set_option maxRecDepth 100000
set_option maxHeartbeats 3200000
namespace PyM
open PySem PySem.Spec PyProof.Rows L2
/-! ### the law's own call, where exceptions are let out of defs -/
section
variable {Pg : Program} {wd : World} {Kf : W.Frag} {gm gb : Str → Option Value} {k : Nat} {fa sa : Addr} {x : Str} {s1 : Shared} {us : List Value} {ns : List Int} {Fm : List D → M D}
/-- from a layer in which the script alone may be told -/
theorem law_fromX {H : Hp} (KX : Kf.In s1.heap) (hm : s1.heap.Ns mainGlobals gm) (hb : s1.heap.Ns builtinsNs gb) (hbb : ∀ y : Str, y ≠ "__name__" → gb y = bootBuiltins y) (hlim : s1.heap.NoLimit) (hgen : s1.gens = #[])
    (hsa : s1.heap.get? sa = some (scrObj us)) (hroom : Room k callerA) (F : ∀ base : Heap, Kf.In base → base.Ns mainGlobals gm → Def Pg wd Kf gm base (L2.CX Pg wd) k x 1 Fm) (hfa : gm x = some (.ref fa))
    (hsp : spM Kf gm 1 Fm [.ref sa] H (fun v _ => v = .bl true) fun _ _ _ => False) (hok : HOk Pg wd H s1.heap) (only : ∀ b, H b ≠ none → b = sa ∧ ∃ o xs, H b = some (.frz o (.lst xs))) (hK : H sa ≠ none → Kf.lookup sa = none) :
    codeAny (model Pg wd) callerA (.call (.ref fa) ⟨[.ref sa], []⟩) (LawEnd s1) s1 := by
  have dict0 : ∀ {b : Addr} {o : Obj} {es : Array DictEntry} {ep : Nat}, s1.heap.get? b = some o → o.data = .dict es ep → H b = none := fun {b o es ep} e d => by
    cases hq : H b with
    | none => rfl
    | some u =>
      obtain ⟨rfl, _⟩ := only b (by rw [hq]; exact fun z => nomatch z)
      rw [hsa] at e
      cases e
      exact absurd (show Data.seq us.toArray _ = Data.dict es ep from d) (fun z => nomatch z)
  have nsH : ∀ {b : Addr} {m : Str → Option Value}, s1.heap.Ns b m → (hidT s1.heap H).Ns b m := fun {b m} ⟨o, es, ep, e, d, r⟩ => ⟨o, es, ep, hidT_get e (dict0 e d), d, r⟩
  have inH : Kf.In (hidT s1.heap H) := fun b o e => hidT_get (KX b o e) (by
    cases hq : H b with
    | none => rfl
    | some u =>
      obtain ⟨rfl, _⟩ := only b (by rw [hq]; exact fun z => nomatch z)
      rw [hK (by rw [hq]; exact fun z => nomatch z)] at e
      cases e)
  have hMod : Mod Kf gm (hidT s1.heap H) := ⟨inH, nsH hm, ⟨gb, nsH hb, hbb⟩, by
    obtain ⟨mc, l1, l2⟩ := hlim
    exact ⟨mc, nsH l1, l2⟩⟩
  have env : Env0 Pg wd Kf gm (hidT s1.heap H) callerA [] s1 H := ⟨rfl, hMod, fun b o e => of_hidT e, Nat.le_of_eq (hidT_size _ _), trivial, fun b z => absurd (show b ∈ ([] : List Addr) from z) (by simp), hok, .of_eq hgen⟩
  obtain ⟨f, fd, ps, F1, hmf, _, hbd⟩ := (F _ inH (nsH hm)).ex
  rw [hfa] at hmf
  cases hmf
  have hbt := hbd s1 [.ref sa] KX (by rw [List.append_nil]; exact F1.len _ _ _ _ hsp)
  rw [List.append_nil] at hbt
  refine codeAny_mono (F1.go callerA [] s1 H ⟨[.ref sa], []⟩ [.ref sa] [.ref sa] _ _ rfl hroom env hbt (.cons rfl .nil) hsp) fun r s' h => ?_
  match r, h with
  | .error e, h =>
    obtain ⟨_, _, _, _, _, _, _, _, _, _, _, _, z⟩ := h
    exact z.elim
  | .ok .next, h => exact False.elim h
  | .ok .brk, h => exact False.elim h
  | .ok .cont, h => exact False.elim h
  | .ok (.ret u), h =>
    obtain ⟨v, H', hos, hbare, hun, hok', hrel, hq⟩ := h
    obtain rfl : v = .bl true := hq
    obtain rfl : u = Value.bool true := hrel
    refine ⟨rfl, OldK.of_keep fun b o e => ?_, hos, hbare⟩
    cases hq : H b with
    | none => exact hun.keep b o e hq (by intro z; exact absurd (show b ∈ ([] : List Addr) from z) (by simp)) (by simp)
    | some u =>
      obtain ⟨_, ob, xs, z⟩ := only b (by rw [hq]; exact fun z => nomatch z)
      obtain ⟨e1, _⟩ := hok b _ z
      obtain ⟨e2, _⟩ := hok' b _ (hun.frzs b ob _ z)
      rw [e] at e1
      cases e1
      exact e2
/-- the mirror's law -/
theorem law_mirrorX (KX : Kf.In s1.heap) (hm : s1.heap.Ns mainGlobals gm) (hb : s1.heap.Ns builtinsNs gb) (hbb : ∀ y : Str, y ≠ "__name__" → gb y = bootBuiltins y) (hlim : s1.heap.NoLimit) (hgen : s1.gens = #[])
    (hsa : s1.heap.get? sa = some (scrObj us)) (hi : IntsAre us ns) (hl : ns.length ≤ sizeLine) (hroom : Room k callerA) (F : ∀ base : Heap, Kf.In base → base.Ns mainGlobals gm → Def Pg wd Kf gm base (L2.CX Pg wd) k x 1 Fm) (hfa : gm x = some (.ref fa))
    (plain : ∃ S', Fm [.scr (ns.map .int)] [] = .ok (.bl true) S') : codeAny (model Pg wd) callerA (.call (.ref fa) ⟨[.ref sa], []⟩) (LawEnd s1) s1 := by
  have rv := vals_of_ints hi
  have lenU := hi.length
  have hz : ∀ (H : Hp) (l : List Int), DenL Kf gm ⟨[], []⟩ H (l.map V.int) (l.map D.int) := fun H l => by
    induction l with
    | nil => exact .nil
    | cons n l ih => exact .cons (.int n) ih
  have hsp : ∀ H : Hp, ScrAt Kf H sa (ns.map V.int) → spM Kf gm 1 Fm [.ref sa] H (fun v _ => v = .bl true) fun _ _ _ => False := fun H hs => by
    obtain ⟨S', e⟩ := plain
    refine ⟨rfl, [.scr (ns.map .int)], ⟨[], []⟩, [], .cons (.scr hs (hz H ns)) .nil, ⟨rfl, List.nodup_nil, fun a ha => by simp at ha, fun n a c ha => by simp at ha⟩, ?_⟩
    rw [e]
    intro v H' μ' _ _ dv
    cases dv
    rfl
  cases hk : Kf.lookup sa with
  | some o =>
    have e := KX sa o hk
    rw [hsa] at e
    cases e
    exact law_fromX (H := fun _ => none) KX hm hb hbb hlim hgen hsa hroom F hfa (hsp _ (.inr ⟨_, us.toArray, _, hk, rfl, rfl, rfl, by rw [List.size_toArray, lenU]; exact hl, by simpa using rv⟩)) (fun b u z => nomatch (show (none : Option HO) = some u from z)) (fun b z => absurd rfl z) fun z => absurd rfl z
  | none =>
    let H : Hp := fun b => if b = sa then some (.frz (scrObj us) (.lst (ns.map V.int))) else none
    have hH : H sa = some (.frz (scrObj us) (.lst (ns.map V.int))) := if_pos rfl
    have hN : ∀ b, b ≠ sa → H b = none := fun b z => if_neg z
    refine law_fromX (H := H) KX hm hb hbb hlim hgen hsa hroom F hfa (hsp H (.inl ⟨_, hH⟩)) (fun b u z => ?_) (fun b z => ?_) fun _ => hk
    · by_cases hbs : b = sa
      · subst hbs
        rw [hH] at z
        obtain rfl := Option.some.inj z
        exact ⟨hsa, by rw [List.length_map]; exact hl, us, _, rv, hsa⟩
      · rw [hN b hbs] at z
        cases z
    · by_cases hbs : b = sa
      · exact ⟨hbs, _, _, by rw [hbs]; exact hH⟩
      · exact absurd (hN b hbs) z
end
/-- the end of a law's walk: what k_head leaves -/
theorem walk_mirrorX {l : W.OpenLaw} {n k : Nat} {q : Program} {loose : List Str} {XP : (Str → Option Value) → Heap → Prop} {YP : World → Heap → Prop} {d : DefRec} {K : Params → W.Frag} {Fm : List D → M D}
    (hn : l.most = some n) (hn2 : n ≤ sizeLine) (hdf : d.params.defaults = []) (hr : Room k callerA) (hY : ∀ (w : World) (h : Heap), YP w h → (K w.params).In h)
    (F : ∀ (w : World) (mg : Str → Option Value) (h : Heap), (K w.params).In h → h.Ns mainGlobals mg → ∀ base : Heap, (K w.params).In base → base.Ns mainGlobals mg → Def l.prog w (K w.params) mg base (L2.CX l.prog w) k d.name 1 Fm)
    (plain : ∀ ns : List Int, ns.length ≤ n → ∃ S', Fm [.scr (ns.map .int)] [] = .ok (.bl true) S') : W.WalkO q loose XP YP l.row.toRowW d [] (fun f vs => PySem.call f vs) := by
  refine Att.attach_call hn hdf fun w s0 s1 mg mb fa o pm cd doc a vs ns G Y ho hd hcd hmg hobj hints hlen hg => ?_
  have KX := hY w _ Y
  exact law_mirrorX KX G.T.g G.T.b G.T.builtins G.T.nolimit hg hobj hints (Nat.le_trans hlen hn2) hr (F w mg _ KX G.T.g) hmg (plain ns hlen)
end PyM
namespace PyM
open PySem PySem.Spec PyProof.Rows L2
/-- which class of ours an except clause of ours catches -/
theorem exm_of {K : W.Frag} {C Hc : Addr} {b : Bool} (h1 : W.subIn K (.ref Hc) (.type "BaseException") = some true) (h2 : W.isClsIn K Hc = true) (h3 : W.typeIn K (.ref Hc) = some (.type "type")) (h4 : W.subIn K (.ref C) (.ref Hc) = some b) : W.exmOne K (.ref C) (.ref Hc) = some b := by
  have e1 : (W.subIn K (.ref Hc) (.type "BaseException") == some true) = true := by rw [h1] <;> rfl
  have e2 : ((W.clsIn K Hc).isSome && W.typeIn K (.ref Hc) == some (.type "type")) = true := by
    have z : (W.clsIn K Hc).isSome = true := h2
    rw [z, h3] <;> rfl
  show (if (W.subIn K (.ref Hc) (.type "BaseException") == some true) = true then (if ((W.clsIn K Hc).isSome && W.typeIn K (.ref Hc) == some (.type "type")) = true then W.subIn K (.ref C) (.ref Hc) else none) else none) = _
  rw [if_pos e1]
  rw [if_pos e2, h4]
end PyM
set_option Elab.async false
set_option linter.all false
set_option maxRecDepth 100000
set_option maxHeartbeats 4000000
namespace PyM
open PySem PySem.Spec PyProof.Rows L2
/-! ### while -/
/-- so many turns at the most -/
def whileS (t : Env' → M Bool) (mb : MSt) : Nat → MSt
  | 0, _, _ => .bad
  | n + 1, ρ, S => SR.of (t ρ S) ρ fun k S' => if k = true then (match mb ρ S' with
      | .nx ρ2 S2 => whileS t mb n ρ2 S2
      | .ct ρ2 S2 => whileS t mb n ρ2 S2
      | .bk ρ2 S2 => .nx ρ2 S2
      | r => r) else .nx ρ S'
open Classical in
/-- as many turns as it needs -/
noncomputable def whileM (t : Env' → M Bool) (mb : MSt) : MSt := fun ρ S => if h : ∃ n, whileS t mb n ρ S ≠ .bad then whileS t mb (choose h) ρ S else .bad
theorem whileS_up {t : Env' → M Bool} {mb : MSt} : ∀ (n : Nat) {ρ : Env'} {S : Store}, whileS t mb n ρ S ≠ .bad → ∀ k, whileS t mb (n + k) ρ S = whileS t mb n ρ S
  | 0, _, _, h, _ => absurd rfl h
  | n + 1, ρ, S, h, k => by
    rw [show n + 1 + k = (n + k) + 1 from by omega]
    unfold whileS at h ⊢
    cases q : t ρ S with
    | bad => rfl
    | exc c fs S' => rfl
    | ok b S' =>
      rw [q] at h
      cases b with
      | false => rfl
      | true =>
        simp only [SR.of, if_true] at h ⊢
        cases r : mb ρ S' with
        | nx ρ2 S2 =>
          rw [r] at h
          exact whileS_up n h k
        | ct ρ2 S2 =>
          rw [r] at h
          exact whileS_up n h k
        | bk ρ2 S2 => rfl
        | rt d S2 => rfl
        | exc ρ2 c fs S2 => rfl
        | bad => rfl
/-- what so many turns come to is what it comes to -/
theorem whileM_eq {t : Env' → M Bool} {mb : MSt} {n : Nat} {ρ : Env'} {S : Store} {r : SR} (h : whileS t mb n ρ S = r) (hr : r ≠ .bad) : whileM t mb ρ S = r := by
  have hn : whileS t mb n ρ S ≠ .bad := by rw [h]; exact hr
  have hx : ∃ n, whileS t mb n ρ S ≠ .bad := ⟨n, hn⟩
  unfold whileM
  rw [dif_pos hx]
  have hc := Classical.choose_spec hx
  have e1 := whileS_up _ hc n
  have e2 := whileS_up _ hn (Classical.choose hx)
  rw [← e1, Nat.add_comm, e2, h]
section
variable {X : Cx} {E : L2.St → XK} {c : Expr} {body : List Stmt} {t : Env' → M Bool} {mb : MSt} {pos : Pos}
theorem s_while (hp : PassesOwn (model X.prog X.w) X.A X.env X.xe) (hc : MT X E c t) (hb : MSs X E body mb) : MS X E (.While c body [] pos) (whileM t mb) := (ps_while hp hc hb).weak fun D σ H h => by
  obtain ⟨ρ, μ, S, he, ho, h⟩ := h
  obtain ⟨n, h⟩ : ∃ n, PostS X.K X.mg μ H E (whileS t mb n ρ S) D := by
    unfold whileM at h
    split at h
    · exact ⟨_, h⟩
    · exact h.elim
  refine ⟨fun m σ H => ∃ ρ μ S, EnvOk X.K X.mg μ H σ ρ ∧ Ok X.K X.mg μ H S ∧ PostS X.K X.mg μ H E (whileS t mb m ρ S) D, ⟨n, ρ, μ, S, he, ho, h⟩, ?_⟩
  rintro m σ H ⟨ρ, μ, S, he, ho, h⟩
  cases m with
  | zero => exact h.elim
  | succ k =>
    unfold whileS at h
    refine tB'.runS he ho h fun b S' _ h' H1 μ1 st o1 e1 => ?_
    cases b with
    | false =>
      rw [if_neg Bool.false_ne_true] at h' ⊢
      exact h' σ H1 μ1 st o1 e1
    | true =>
      rw [if_pos rfl] at h' ⊢
      refine ⟨fun σ' H' => ∃ ρ μ S, EnvOk X.K X.mg μ H' σ' ρ ∧ Ok X.K X.mg μ H' S ∧ PostS X.K X.mg μ H' E (whileS t mb k ρ S) D, fun σ' H' p => ⟨k, Nat.lt_succ_self k, p⟩, ρ, μ1, S', e1, o1, ?_⟩
      have h2 := PostS.of st h'
      cases r : mb ρ S' with
      | nx ρ3 S3 => rw [r] at h2; exact fun σ3 H3 μ3 s3 o3 e3 => ⟨ρ3, μ3, S3, e3, o3, PostS.of s3 h2⟩
      | ct ρ3 S3 => rw [r] at h2; exact fun σ3 H3 μ3 s3 o3 e3 => ⟨ρ3, μ3, S3, e3, o3, PostS.of s3 h2⟩
      | bk ρ3 S3 => rw [r] at h2; exact h2
      | rt d S3 => rw [r] at h2; exact h2
      | exc ρ3 c fs S3 => rw [r] at h2; exact h2
      | bad => rw [r] at h2; exact h2
end
end PyM
set_option Elab.async false
set_option linter.all false
set_option maxRecDepth 100000
set_option maxHeartbeats 4000000
namespace PyM
open PySem PySem.Spec PyProof.Rows L2
/-! ### enumerate of a tuple -/
set_option maxHeartbeats 1000000 in
theorem enum_new1 {v : Value} {ob : Obj} {G : Heap → Prop} (Bg : Begins v ob G) :
    Meets (Builtin.«enumerate.__new__» ⟨[.type "enumerate", v], []⟩) (fun _ R z => G z.heap ∧
      R (.ok (.ret (.ref (z.heap.push ob).objs.size))) { z with heap := (z.heap.push ob).push { cls := .type "enumerate", data := .fields #[.none, .bool false, .ref z.heap.objs.size, rawInt 0, .none, .none] } }) :=
  .of_wp fun prog w A R z hz => by
    obtain ⟨hp, gg, dd, tk, os⟩ := z; obtain ⟨g1, h⟩ := hz
    have hsub := sub_enumerate
    have go : ∀ {A' : Around} {E Q : Value → Shared → Prop}, Q (.ref hp.objs.size) ⟨hp.push ob, gg, dd, tk, os⟩ → wpAny (model prog w) A' (pyIter v) Q E ⟨hp, gg, dd, tk, os⟩ :=
      fun q => Bg.iter prog w _ _ ⟨hp, gg, dd, tk, os⟩ _ g1 q
    wp_walk using go
    refine wpAny_stack_any fun stk => wpAny_pure ?_
    split
    · rename_i cc _ _ _ _ _
      cases (cc == Value.type "enumerate")
      · wp_walk using go
        exact ⟨_, rfl, h⟩
      · wp_walk using go
        exact ⟨_, rfl, h⟩
    · wp_walk using go
      exact ⟨_, rfl, h⟩
section
variable {prog : Program} {w : World} {A : Around} {E : Value → Shared → Prop} {s : Shared}
theorem call_enumT {a : Addr} {its : Array Value} {Q : Value → Shared → Prop} (ht : s.heap.IsTuple a its)
    (hq : ∀ h', IsEnum h' (s.heap.objs.size + 1) s.heap.objs.size 0 .none → h'.IsTupleIter s.heap.objs.size a 0 → h'.objs.size = s.heap.objs.size + 2 →
      (∀ b u, s.heap.get? b = some u → h'.get? b = some u) → Q (.ref (s.heap.objs.size + 1)) { s with heap := h' }) :
    wpAny (model prog w) A (call (.type "enumerate") [.ref a]) Q E s := by
  refine callType_new F.called_enumerate (by decide) (F.typeCall_enumerate_1 _) (F.newCall_enumerate_1 _) (fun ob => F.args_object_init_2 ob _) F.entry_enumerate_new (enum_new1 (begins_tuple a its)) ⟨ht, ?_⟩
  generalize hit : ({ cls := .type "tuple_iterator", data := .fields #[.ref a, .int 0 0] } : Obj) = io
  have fr : io.isFreed = false := by rw [← hit]; rfl
  have sz : (s.heap.push io).objs.size = s.heap.objs.size + 1 := Heap.size_push ..
  show _ ∧ _
  rw [sz]
  generalize hen : ({ cls := .type "enumerate", data := .fields #[.none, .bool false, .ref s.heap.objs.size, rawInt 0, .none, .none] } : Obj) = eo
  have fe : eo.isFreed = false := by rw [← hen]; rfl
  have g1 : ((s.heap.push io).push eo).get? (s.heap.objs.size + 1) = some eo := by
    have q := Heap.get?_push_size (s.heap.push io) (o := eo) fe
    rw [sz] at q
    exact q
  have g2 : IsEnum ((s.heap.push io).push eo) (s.heap.objs.size + 1) s.heap.objs.size 0 .none := by rw [← hen] at g1 ⊢; exact g1
  have g3 : ((s.heap.push io).push eo).get? s.heap.objs.size = some io := Heap.get?_push_of_some _ (Heap.get?_push_size _ fr)
  refine ⟨⟨_, g2, rfl⟩, hq _ g2 ⟨io, g3, by rw [← hit], by rw [← hit]; rfl⟩ (by rw [Heap.size_push, sz]) fun b u x => Heap.get?_push_of_some _ (Heap.get?_push_of_some _ x)⟩
end
end PyM
set_option Elab.async false
set_option linter.all false
set_option maxRecDepth 100000
set_option maxHeartbeats 4000000
namespace PyM
open PySem PySem.Spec PyProof.Rows L2
/-- a tuple's items, each in a new pair behind its place -/
def ItEt (K : PySem.W.Frag) (a : Addr) : It where
  go := fun i H => ∃ (vs : List V) (v : V), SqT K H a vs ∧ vs[i]? = some v
  yld := fun i H r H' => ∃ T v, r = .ref T ∧ H T = none ∧ H' = upd H T (.tup [.int (i : Nat), v]) ∧ ∀ vs, SqT K H a vs → vs[i]? = some v
  stop := fun i H => ∃ vs : List V, SqT K H a vs ∧ vs.length ≤ i
theorem turn_enumT {P : Program} {w : World} {K : PySem.W.Frag} {elts : List Expr} {kk : Nat} {tpos : Pos} (a e it : Addr) :
    Turn P w K (.Tuple elts kk tpos) (ItEt K a) [e, it] e (fun i h => (∃ u, IsEnum h e it ((i : Nat) : Int) u) ∧ h.IsTupleIter it a i ∧ e ≠ it) where
  mem := by simp
  obj := fun i h p b hb => by
    obtain ⟨⟨u, pe⟩, ⟨ob, p1, _, p2⟩, _⟩ := p
    have hb : b = e ∨ b = it := by simpa using hb
    rcases hb with rfl | rfl
    · exact ⟨_, pe, fun v q => nomatch q⟩
    · exact ⟨ob, p1, fun v q => by rw [p2] at q; cases q⟩
  keep := fun i h h' p k => by
    obtain ⟨⟨u, pe⟩, pi, pn⟩ := p
    exact ⟨⟨u, k e (by simp) _ pe⟩, pi.at fun ob q => k it (by simp) ob q, pn⟩
  item := by
    intro X hP hw hK hc i pins s σ H E I hf p hg
    subst hP hw hK
    obtain ⟨⟨u, pe⟩, pi, pn⟩ := p
    obtain ⟨vs, v, hq, hv⟩ := hg
    obtain ⟨its, rv, pt, hz⟩ := I.tuple hq
    have pt : s.heap.IsTuple a its.toArray := pt
    obtain ⟨x, hx, rx⟩ := rv.get hv
    have l1 : e < s.heap.objs.size := Heap.lt_size pe
    have l2 : it < s.heap.objs.size := by obtain ⟨_, q, _⟩ := pi; exact Heap.lt_size q
    have n1 : a ≠ it := fun z => by
      obtain ⟨o1, q1, q2, _⟩ := pi
      obtain ⟨o2, q3, q4, _⟩ := pt
      rw [z, q1] at q3
      cases q3
      rw [q2] at q4
      injection q4 with q4
      exact absurd q4 (by decide)
    have n2 : e ≠ a := fun z => by
      obtain ⟨o2, q3, q4, _⟩ := pt
      rw [← z, pe] at q3
      cases q3
      have q4 : Value.type "enumerate" = Value.type "tuple" := q4
      injection q4 with q4
      exact absurd q4 (by decide)
    have hi : i < its.toArray.size := by
      have := (List.getElem?_eq_some_iff.mp hx).1
      simpa using this
    refine wpAny_pyNext_enum_itemC (Draws.tuple (show X.A.in1.handled = none from I.ok.hd hc) it a n1 its.toArray) pe ⟨pi, pt⟩ hi pn (by simp [n2, pn]) fun y h' tk py ho ⟨pi', pt'⟩ hT hs hk => ?_
    have hy : y = x := by
      have : its.toArray[i]? = some x := by simpa using hx
      rw [this] at py
      exact (Option.some.inj py).symm
    subst hy
    refine ⟨_, rfl, wpAny_letOwnedTupleGo_enum (s := { s with heap := h', toks := tk + 1 }) ho fun h'' pe' sb => ?_⟩
    have hT2 : h''.get? s.heap.objs.size = some { cls := .type "tuple", data := .seq #[.int i tk, y] } := (sb.2 _ (Nat.ne_of_gt l1)).trans hT
    have nw : ObjOk X.prog X.w (upd H s.heap.objs.size (.tup [.int (i : Nat), v])) h'' s.heap.objs.size (.tup [.int (i : Nat), v]) :=
      ⟨by show 2 ≤ sizeLine; decide, [.int i tk, y], .cons ⟨_, rfl⟩ (.cons rx .nil), ⟨_, hT2, rfl, _, rfl⟩⟩
    have I1 : Inv X pins σ (upd H s.heap.objs.size (.tup [.int (i : Nat), v])) { s with heap := h'', toks := tk + 1 } :=
      I.turnedNew (ch := [e, it]) (fun b ob hb q => (sb.2 b fun z => hb (by simp [z])).trans (hk b ob (fun z => hb (by simp [z])) (fun z => hb (by simp [z])) q)) hf (Nat.le_refl _) nw
    refine ⟨.ref s.heap.objs.size, _, I1, rfl, ⟨_, v, rfl, I.hok.fresh (Nat.le_refl _), rfl, fun ws hw => by rw [I.tuple_inj hw hq]; exact hv⟩, ⟨⟨y, ?_⟩, pi'.at fun ob q => (sb.2 it (Ne.symm pn)).trans q, pn⟩, fun b hb => ?_⟩
    · rw [show ((i + 1 : Nat) : Int) = (i : Int) + 1 from by omega]
      exact pe'
    · have lb : b < s.heap.objs.size := by
        have hb : b = e ∨ b = it := by simpa using hb
        rcases hb with rfl | rfl
        · exact l1
        · exact l2
      rw [upd_ne (Nat.ne_of_lt lb)]
      exact (hf b hb).1
  done := by
    intro X hP hw hK hc i pins s σ H E I hf p hg
    subst hP hw hK
    obtain ⟨⟨u, pe⟩, pi, pn⟩ := p
    obtain ⟨vs, hq, hl⟩ := hg
    obtain ⟨its, rv, pt, hz⟩ := I.tuple hq
    have pt : s.heap.IsTuple a its.toArray := pt
    obtain ⟨k0, k1, k2, k3, k4, k5⟩ := hf it (by simp)
    have n1 : a ≠ it := fun z => by
      obtain ⟨o1, q1, q2, _⟩ := pi
      obtain ⟨o2, q3, q4, _⟩ := pt
      rw [z, q1] at q3
      cases q3
      rw [q2] at q4
      injection q4 with q4
      exact absurd q4 (by decide)
    have hlen := rv.length
    have hend : its.toArray[i]? = none := by simp; omega
    have hh : X.A.handled = none := I.ok.hd hc
    have hT : s.TypeIs (.ref e) "enumerate" := ⟨_, pe, rfl⟩
    unfold pyNext
    refine wpAny_bind (wpAny_attempt (wpAny_callSpecial?_slot (name := Str.ofString "__next__") hT F.slot_enumerate_next (wpAny_call_entry F.slot_enumerate_next hT F.entry_enumerate_next ?_ (F.args_enumerate_next_1 _))))
    show wpAny _ _ (field (.ref e) 2 >>= _) _ _ _
    refine wpAny_bind (wpAny_field pe rfl (x := .ref it) rfl ?_)
    refine wpAny_bind (wpAny_nextOf_tuple_end hh pi pt hend fun h' x eb hx' => ?_)
    obtain ⟨ob, p1, p2⟩ := hx'
    refine wpAny_bind (wpAny_isInstance (T := "StopIteration") (b := true) ⟨ob, p1, p2⟩ isSubtype_stop ?_)
    exact wpAny_pure ⟨rfl, I.turned (t' := s.toks) (fun b o hb q => eb b o hb q) k0 k1 k3 k4 k5⟩
  self := fun A i s Q E p h => by
    obtain ⟨⟨_, pe⟩, _⟩ := p
    exact wpAny_pyIter_enum pe h
end PyM
set_option Elab.async false
set_option linter.all false
set_option maxRecDepth 100000
set_option maxHeartbeats 4000000
namespace PyM
open PySem PySem.Spec PyProof.Rows L2
def iEnumT (K : PySem.W.Frag) (ta : TA) : TI := fun σ H R => ta σ H fun vs H1 => ∃ a ws, vs = [.ref a] ∧ SqT K H1 a ws ∧ R (ItEt K a) H1
theorem pi_enumT {X : Cx} {e : Expr} {ta : TA} {p pos tpos : Pos} {elts : List Expr} {kk : Nat} (g1 : Gl X "enumerate") (g2 : X.mg "enumerate" = none) (ha : PA X [e] ta) (g3 : starEach [e] X.env = [(false, eval e X.env)] := by rfl) :
    PI X (.Tuple elts kk tpos) (.Call (.Name "enumerate" p) [e] [] pos) (iEnumT X.K ta) := by
  refine ⟨fun pins z σ H R I hyp => ?_⟩
  refine Call_ (ld_blt I g1 g2 boot_enumerate (PyProof.Rows.callWith_type1 (thn (ha.run pos pins z σ H _ I hyp) fun us z1 ⟨vs, H1, I1, r1, q1⟩ => ?_) g3 rfl))
  obtain ⟨a, ws, ex, hq, q⟩ := q1
  subst ex
  cases r1 with
  | cons ra rr =>
    cases rr
    cases ra
    obtain ⟨its, rv, pt, hz⟩ := I1.tuple hq
    have pt : z1.heap.IsTuple a its.toArray := pt
    refine call_enumT pt fun h' pe pi sz ke => wpAny_pyIter_enum pe ?_
    have I2 : Inv X pins σ H1 { z1 with heap := h' } := I1.kept (t' := z1.toks) ke
    refine ⟨z1.heap.objs.size + 1, [z1.heap.objs.size + 1, z1.heap.objs.size], _, _, H1, rfl, I2, turn_enumT a (z1.heap.objs.size + 1) z1.heap.objs.size, ⟨⟨.none, pe⟩, pi, Nat.succ_ne_self _⟩, fun b hb => ?_, q⟩
    have lb : z1.heap.objs.size ≤ b := by
      have hb : b = z1.heap.objs.size + 1 ∨ b = z1.heap.objs.size := by simpa using hb
      rcases hb with rfl | rfl
      · exact Nat.le_add_right _ _
      · exact Nat.le_refl _
    exact I1.fpOk lb (I1.hok.fresh lb)
/-! ### the mirror's enumerate -/
def numD (xs : List D) : List D := xs.mapIdx fun i x => .tup [.int (i : Nat), x]
theorem numD_len (xs : List D) : (numD xs).length = xs.length := by simp [numD]
theorem numD_get {xs : List D} {i : Nat} {d : D} (h : (numD xs)[i]? = some d) : ∃ x, xs[i]? = some x ∧ d = .tup [.int (i : Nat), x] := by
  unfold numD at h
  rw [List.getElem?_mapIdx] at h
  cases q : xs[i]? with
  | none => rw [q] at h; cases h
  | some x => rw [q] at h; exact ⟨x, rfl, (Option.some.inj h).symm⟩
def srcE (ds : List D) : M Src := fun S => match ds with
  | [.tup xs] => .ok ⟨numD xs, fun _ => true⟩ S
  | [d] => match asS S d with
    | some xs => .ok ⟨numD xs, fun S' => still d xs S'⟩ S
    | none => .bad
  | _ => .bad
section
variable {K : W.Frag} {mg : Str → Option Value} {μ : Pl} {H : Hp} {S : Store}
theorem jok_enumT {a : Addr} {xs : List D} (o : Ok K mg μ H S) (h : Den K mg μ H (.ref a) (.tup xs)) : JOk K mg (ItEt K a) ⟨numD xs, fun _ => true⟩ μ H := by
  intro μ' H' S' st o' _ i
  have g := h.monoD o st
  cases g with
  | tup h1 h2 =>
    rename_i vs
    refine ⟨fun hi => ⟨vs, h1, ?_⟩, fun d hd => ?_⟩
    · have hi' : (numD xs).length ≤ i := hi
      rw [numD_len] at hi'
      rw [h2.length]
      exact hi'
    · obtain ⟨x, ex, rfl⟩ := numD_get hd
      obtain ⟨v, hv, dv⟩ := h2.get ex
      refine ⟨⟨vs, v, h1, hv⟩, fun z H'' q => ?_⟩
      obtain ⟨T, v', rfl, hT, rfl, q1⟩ := q
      have := q1 _ h1
      rw [hv] at this
      obtain rfl := Option.some.inj this
      exact new_tup o' hT (.cons (.int _) (.cons dv .nil))
theorem jok_enumL {a : Addr} {d : D} {xs : List D} (o : Ok K mg μ H S) (h : Den K mg μ H (.ref a) d) (ea : asS S d = some xs) : JOk K mg (Ite K a) ⟨numD xs, fun S' => still d xs S'⟩ μ H := by
  intro μ' H' S' st o' hc i
  obtain ⟨p, vs, e, h1, h2⟩ := asS_den o' (h.monoD o st) (still_as ea hc)
  obtain rfl := V.ref.inj e
  refine ⟨fun hi => ⟨vs, h1, ?_⟩, fun d hd => ?_⟩
  · have hi' : (numD xs).length ≤ i := hi
    rw [numD_len] at hi'
    rw [h2.length]
    exact hi'
  · obtain ⟨x, ex, rfl⟩ := numD_get hd
    obtain ⟨v, hv, dv⟩ := h2.get ex
    refine ⟨⟨vs, v, h1, hv⟩, fun z H'' q => ?_⟩
    obtain ⟨T, v', rfl, hT, rfl, q1⟩ := q
    have := q1 _ h1
    rw [hv] at this
    obtain rfl := Option.some.inj this
    exact new_tup o' hT (.cons (.int _) (.cons dv .nil))
end
def enumI (ms : Env' → M (List D)) : Env' → M Src := fun ρ => M.bind (ms ρ) srcE
section
variable {X : Cx} {E : L2.St → XK} {a : Expr} {ms : Env' → M (List D)} {pos p : Pos}
theorem i_enum {elts : List Expr} {kk : Nat} {tpos : Pos} (ha : MA X E [a] ms) (hm : X.mg "enumerate" = none) (hg : Gl X "enumerate" := by rfl) (hs : starEach [a] X.env = [(false, eval a X.env)] := by rfl) :
    MI X E (.Tuple elts kk tpos) (.Call (.Name "enumerate" p) [a] [] pos) (enumI ms) :=
  (((pi_enum hg hm ha hs).or (pi_enumT hg hm ha hs)) : PI X _ _ _).weak fun σ H R h => by
    obtain ⟨ρ, μ, S, he, ho, h⟩ := h
    unfold enumI at h
    cases q : ms ρ S with
    | bad =>
      unfold M.bind at h
      rw [q] at h
      exact h.elim
    | exc c fs S' =>
      left
      refine tA'.run (k := srcE) (R := fun r => PostI X.K X.mg μ H (E σ) r R) he ho h (fun _ _ _ z => z) (fun z => z) fun ds S1 e0 h1 vs H1 μ1 s1 o1 e1 d1 => ?_
      rw [q] at e0
      cases e0
    | ok ds S1 =>
      by_cases ht : ∃ xs, ds = [.tup xs]
      · obtain ⟨xs, rfl⟩ := ht
        right
        refine tA'.run (k := srcE) (R := fun r => PostI X.K X.mg μ H (E σ) r R) he ho h (fun _ _ _ z => z) (fun z => z) fun ds' S2 e0 h1 vs H1 μ1 s1 o1 e1 d1 => ?_
        rw [q] at e0
        cases e0
        obtain ⟨v, rfl, dv⟩ := den1 d1
        cases dv with
        | tup h2 h3 => exact ⟨_, _, rfl, h2, h1 _ H1 μ1 s1 o1 (jok_enumT o1 (.tup h2 h3))⟩
      · left
        refine tA'.run (k := srcE) (R := fun r => PostI X.K X.mg μ H (E σ) r R) he ho h (fun _ _ _ z => z) (fun z => z) fun ds' S2 e0 h1 vs H1 μ1 s1 o1 e1 d1 => ?_
        rw [q] at e0
        cases e0
        unfold srcE at h1
        split at h1
        · exact absurd ⟨_, rfl⟩ ht
        · split at h1
          · rename_i xs q1
            obtain ⟨v, rfl, dv⟩ := den1 d1
            obtain ⟨p1, vs1, rfl, h2, h3⟩ := asS_den o1 dv q1
            exact ⟨p1, vs1, rfl, h2, h1 _ H1 μ1 s1 o1 (jok_enumL o1 dv q1)⟩
          · exact h1.elim
        · exact h1.elim
end
end PyM
set_option Elab.async false
set_option linter.all false
set_option maxRecDepth 100000
set_option maxHeartbeats 4000000
namespace PyM
open PySem PySem.Spec PyProof.Rows L2
/-! ### range with a step -/
def rng3Ok (i j c : Int) : Prop := c ≠ 0 ∧ c.natAbs < 1073741824 ∧ Builtin.Range.small i j c = true ∧ 0 ≤ Builtin.Range.rangeSize i j c
instance (i j c : Int) : Decidable (rng3Ok i j c) := by unfold rng3Ok; exact inferInstance
def stepD (i c : Int) (n : Nat) : List D := (List.range n).map fun (k : Nat) => .int (i + (k : Int) * c)
def srcR3 (ds : List D) : M Src := fun S => match ds with
  | [.int i, .int j, .int c] => if rng3Ok i j c then .ok ⟨stepD i c (Builtin.Range.rangeSize i j c).toNat, fun _ => true⟩ S else .bad
  | _ => .bad
def rngI3 (ms : Env' → M (List D)) : Env' → M Src := fun ρ => M.bind (ms ρ) srcR3
theorem jok_step {K : W.Frag} {mg : Str → Option Value} {μ : Pl} {H : Hp} (i c : Int) (n : Nat) : JOk K mg (Itc i c n) ⟨stepD i c n, fun _ => true⟩ μ H := by
  intro μ' H' S' st o' _ k
  refine ⟨fun hk => ?_, fun d hd => ?_⟩
  · have hk : (stepD i c n).length ≤ k := hk
    have : (stepD i c n).length = n := by simp [stepD]
    rw [this] at hk
    exact hk
  · have hd : (stepD i c n)[k]? = some d := hd
    unfold stepD at hd
    rw [List.getElem?_map] at hd
    by_cases hk : k < n
    · rw [List.getElem?_range hk] at hd
      cases hd
      refine ⟨hk, fun x H'' q => ?_⟩
      obtain ⟨rfl, rfl⟩ := q
      exact ⟨.refl, o', .int _⟩
    · rw [List.getElem?_eq_none (by simpa using hk)] at hd
      cases hd
theorem den3 {K : W.Frag} {mg : Str → Option Value} {μ : Pl} {H : Hp} {vs : List V} {i j c : Int} (h : DenL K mg μ H vs [.int i, .int j, .int c]) : vs = [.int i, .int j, .int c] := by
  cases h with
  | cons h1 h =>
    cases h with
    | cons h2 h =>
      cases h with
      | cons h3 h =>
        cases h
        cases h1
        cases h2
        cases h3
        rfl
section
variable {X : Cx} {E : L2.St → XK} {a b c : Expr} {ms : Env' → M (List D)} {pos p : Pos} {tg : Expr}
theorem i_rng3 (ha : MA X E [a, b, c] ms) (hm : X.mg "range" = none) (hg : Gl X "range" := by rfl) (hs : starEach [a, b, c] X.env = (false, eval a X.env) :: starEach [b, c] X.env := by rfl) (hpl : (backTo pos (starEach [b, c] X.env)).any (·.1) = false := by rfl) :
    MI X E tg (.Call (.Name "range" p) [a, b, c] [] pos) (rngI3 ms) := (pi_range3 hg hm ha hs hpl).weak fun σ H R h => by
  obtain ⟨ρ, μ, S, he, ho, h⟩ := h
  refine tA'.run (k := srcR3) (R := fun r => PostI X.K X.mg μ H (E σ) r R) he ho h (fun _ _ _ z => z) (fun z => z) fun ds S1 _ h1 vs H1 μ1 s1 o1 e1 d1 => ?_
  unfold srcR3 at h1
  split at h1
  · rename_i i j c _
    split at h1
    · rename_i hr
      obtain ⟨r1, r2, r3, r4⟩ := hr
      exact ⟨i, j, c, _, den3 d1, ⟨r1, r2, r3, by omega⟩, h1 _ H1 μ1 s1 o1 (jok_step i c _)⟩
    · exact h1.elim
  · exact h1.elim
end
end PyM
set_option Elab.async false
set_option linter.all false
set_option maxRecDepth 100000
set_option maxHeartbeats 2000000
namespace PyM
open PySem PySem.Spec PyProof.Rows L2

/-! ### texts: str(..), int(text), join, text * int, list * int, f-strings -/
def strTP (_ : Store) : List D → Option D
  | [.int i] => if i.natAbs.log2 < 1920 then some (.str (toString i)) else none
  | [.str x] => some (.str x)
  | _ => none
def intP2 (S : Store) : List D → Option D
  | [.str x] => if x.length ≤ 640 then (PySem.intText? x).map .int else none
  | ds => intP S ds
def joinP (S : Store) (a : D) (ds : List D) : Option (D × Store) := match a, ds with
  | .str x, [b] => match asQ S b with
    | some es => match strsOf es with
      | some ys => if (ys.map (·.length)).sum + ys.length * x.length ≤ 16777216 then some (.str (Txt.join x ys), S) else none
      | none => none
    | none => none
  | _, _ => none
/-- a text so often -/
def strRep (x : Str) (n : Nat) : Str := ⟨(List.replicate n x.cps.toList).flatten.toArray⟩
def mulP2 (S : Store) : D → D → Option D
  | .str x, .int k => if -(2 ^ 63) ≤ k ∧ k < 2 ^ 24 ∧ x.length * k.toNat ≤ sizeLine then some (.str (strRep x k.toNat)) else none
  | .lst xs, .int k => if -(2 ^ 63) ≤ k ∧ k < 2 ^ 63 ∧ xs.length * k.toNat ≤ sizeLine then some (.lst (List.replicate k.toNat xs).flatten) else none
  | x, y => mulP S x y
section
variable {X : Cx}
theorem c_str : CallR X (.type "str") (rPL X.K X.mg strTP) := by
  intro pins s σ H xs us Q I r h
  obtain ⟨μ, S, ds, d, o, dl, e, k⟩ := h
  unfold strTP at e
  split at e
  · split at e
    · obtain rfl := Option.some.inj e
      obtain ⟨v, rfl, dv⟩ := den1 dl
      cases dv
      exact call_str_int pins s σ H _ us Q I r ⟨_, rfl, by assumption, k _ _ .refl o (.str _)⟩
    · cases e
  · obtain rfl := Option.some.inj e
    obtain ⟨v, rfl, dv⟩ := den1 dl
    cases dv
    exact SkE.call_str_str pins s σ H _ us Q I r ⟨_, rfl, k _ _ .refl o (.str _)⟩
  · cases e
theorem c_int2 : CallR X (.type "int") (rPL X.K X.mg intP2) := by
  intro pins s σ H xs us Q I r h
  obtain ⟨μ, S, ds, d, o, dl, e, k⟩ := h
  unfold intP2 at e
  split at e
  · split at e
    · rename_i x hz
      cases q : PySem.intText? x with
      | none => rw [q] at e; cases e
      | some n =>
        rw [q] at e
        obtain rfl := Option.some.inj e
        obtain ⟨v, rfl, dv⟩ := den1 dl
        cases dv
        exact call_int_str pins s σ H _ us Q I r ⟨_, n, rfl, q, hz, k _ _ .refl o (.int _)⟩
    · cases e
  · exact c_int pins s σ H xs us Q I r ⟨μ, S, ds, d, o, dl, e, k⟩
theorem m_join : MtR X "str.join" (rPM X.K X.mg joinP) := by
  intro pins s σ H x xs v us Q I rx rs h
  obtain ⟨μ, S, a, ds, d, S', o, da, dd, e, k⟩ := h
  unfold joinP at e
  split at e
  · rename_i x b
    split at e
    · rename_i es q
      split at e
      · rename_i ys hy
        split at e
        · rename_i hz
          injection e with e
          injection e with e1 e2
          subst e1 e2
          cases da
          obtain ⟨w, rfl, dw⟩ := den1 dd
          obtain ⟨p, vs, rfl, hq, hd⟩ := asQ_den o dw q
          obtain rfl := strsOf_den hd hy
          exact mt_join pins s σ H _ _ v us Q I rx rs ⟨_, p, ys, rfl, rfl, hq, hz, k _ _ μ .refl o (.str _)⟩
        · cases e
      · cases e
    · cases e
  · cases e
theorem foldl_repl (l : List Nat) : ∀ (n : Nat) (acc : Array Nat), ((List.replicate n l.toArray).foldl (· ++ ·) acc) = (acc.toList ++ (List.replicate n l).flatten).toArray
  | 0, acc => by simp
  | n + 1, acc => by
    rw [List.replicate_succ, List.foldl_cons, foldl_repl l n, List.replicate_succ]
    simp
theorem strRep_fold (x : Str) (n : Nat) : (⟨(List.replicate n x.cps).foldl (· ++ ·) #[]⟩ : Str) = strRep x n := by
  unfold strRep
  have := foldl_repl x.cps.toList n #[]
  rw [Array.toArray_toList] at this
  rw [this]
  rfl
theorem strRep_len (x : Str) (n : Nat) : (strRep x n).length = x.length * n := by
  unfold strRep Str.length
  simp [Nat.mul_comm]
theorem strRep_zero (x : Str) : strRep x 0 = Str.empty := by unfold strRep; rfl
theorem strRep_one (x : Str) : strRep x 1 = x := by
  unfold strRep
  simp
theorem strRep_none {x : Str} (h : x.length = 0) (n : Nat) : strRep x n = x := by
  have h1 : x.cps.toList = [] := by
    have : x.cps.size = 0 := h
    simpa using this
  unfold strRep
  rw [h1]
  have e : (List.replicate n ([] : List Nat)).flatten = [] := by simp
  rw [e]
  refine Str.ext' ?_
  rw [← Array.toList_inj, h1]
theorem r_mul2 : OpR X (binaryOp .Mult) (rP2 X.K X.mg mulP2) := by
  intro pins s σ H x y v u Q I rx ry h
  obtain ⟨μ, S, a, b, d, o, da, db, e, k⟩ := h
  unfold mulP2 at e
  split at e
  · split at e
    · rename_i z n hz
      obtain ⟨h1, h2, h3⟩ := hz
      obtain rfl := Option.some.inj e
      cases da; cases db
      obtain ⟨t, rfl⟩ := rx
      obtain ⟨t', rfl⟩ := ry
      have fin : ∀ (w : Value) (tk : Nat), RelV (.str (strRep z n.toNat)) w → EP X pins σ Q w { s with toks := tk } := fun w tk r => ⟨_, H, I.tok tk, r, k _ _ .refl o (.str _)⟩
      refine P.mul_str (by
        rw [decide_eq_false (show ¬ n < -(2 ^ 63 : Int) by omega), decide_eq_false (show ¬ n ≥ 2 ^ 63 by omega)]
        rfl) (fun h4 h5 h6 => ?_) (fun _ _ => ?_) ?_
      · have e2 : (2 ^ 63 - 1 : Int) / n ≥ 2 ^ 38 := by
          refine (Int.le_ediv_iff_mul_le (by omega)).mpr ?_
          have : (2 ^ 38 : Int) * n ≤ 2 ^ 38 * 2 ^ 24 := Int.mul_le_mul_of_nonneg_left (by omega) (by decide)
          omega
        have hn1 : 1 ≤ n.toNat := by omega
        have h7 : z.length ≤ z.length * n.toNat := Nat.le_mul_of_pos_right _ hn1
        have h8 : sizeLine = 2 ^ 24 := rfl
        rw [h8] at h3
        omega
      · unfold Builtin.Str.tooLong
        exact decide_eq_false (Nat.not_lt.mpr h3)
      · by_cases c1 : n < 1
        · rw [if_pos c1]
          have e0 : n.toNat = 0 := by omega
          rw [e0, strRep_zero] at fin
          exact ⟨by decide, fin _ _ ⟨_, rfl⟩⟩
        · rw [if_neg c1]
          by_cases c2 : (n == 1 || z.length == 0) = true
          · rw [if_pos c2]
            rcases Bool.or_eq_true_iff.mp c2 with c | c
            · have e1 : n.toNat = 1 := by
                have : n = 1 := by simpa using c
                omega
              rw [e1, strRep_one] at fin
              exact fin _ s.toks ⟨t, rfl⟩
            · rw [strRep_none (by simpa using c)] at fin
              exact fin _ s.toks ⟨t, rfl⟩
          · rw [if_neg c2, strRep_fold]
            exact ⟨by rw [strRep_len]; exact h3, fin _ _ ⟨_, rfl⟩⟩
    · cases e
  · split at e
    · rename_i zs n hz
      obtain ⟨h1, h2, h3⟩ := hz
      obtain rfl := Option.some.inj e
      cases da with
      | lst hl hn hh ht =>
        rename_i p vs
        cases db
        have hlen := ht.length
        refine op_rep pins s σ H _ _ v u Q I rx ry ⟨p, n, vs, rfl, rfl, hl, h1, h2, by rw [hlen]; exact h3, fun q hq => ?_⟩
        have rep : ∀ m : Nat, DenL X.K X.mg μ H (List.replicate m vs).flatten (List.replicate m zs).flatten := fun m => by
          induction m with
          | zero => exact .nil
          | succ m ih =>
            rw [List.replicate_succ, List.replicate_succ, List.flatten_cons, List.flatten_cons]
            exact ht.append ih
        obtain ⟨s1, o1, d1⟩ := new_lst o hq (rep n.toNat)
        exact k _ _ s1 o1 d1
    · cases e
  · exact r_mul pins s σ H x y v u Q I rx ry ⟨μ, S, a, b, d, o, da, db, e, k⟩
end
/-! f-strings -/
def fmtP (_ : Store) : D → Option D
  | .int i => if i.natAbs.log2 < 1920 then some (.str (toString i)) else none
  | .str x => if x.length ≤ sizeLine then some (.str x) else none
  | _ => none
/-- the parts of an f-string, one behind the other -/
def fsM : List (Env' → M D) → Str → Env' → M D
  | [], acc, _ => M.pure (.str acc)
  | m :: ms, acc, ρ => M.bind (m ρ) fun d => match d with
    | .str y => if (acc ++ y).length ≤ sizeLine then fsM ms (acc ++ y) ρ else M.bad
    | _ => M.bad
section
variable {X : Cx} {E : L2.St → XK} {a b c e : Expr} {es : List Expr} {ma mb : Env' → M D} {pos : Pos}
theorem e_fmt (ha : ME X E a ma) : ME X E (.FormattedValue a (-1) none pos) (un1 fmtP ma) := (pe_fmt ha).weak fun σ H Q h => by
  obtain ⟨ρ, μ, S, he, ho, h⟩ := h
  refine tE.run (R := fun r => PostD X.K X.mg μ H (E σ) r Q) he ho h (fun _ _ _ z => z) (fun z => z) fun x S1 _ h1 v H1 μ1 s1 o1 e1 d1 => ?_
  unfold M.op1 at h1
  cases q : fmtP S1 x with
  | none => rw [q] at h1; exact h1.elim
  | some d =>
    rw [q] at h1
    unfold fmtP at q
    split at q
    · split at q
      · obtain rfl := Option.some.inj q
        cases d1
        exact .inr ⟨_, rfl, by assumption, h1 _ H1 μ1 s1 o1 (.str _)⟩
      · cases q
    · split at q
      · obtain rfl := Option.some.inj q
        cases d1
        exact .inl ⟨_, rfl, by assumption, h1 _ H1 μ1 s1 o1 (.str _)⟩
      · cases q
    · cases q
inductive MJ (X : Cx) (E : L2.St → XK) : List Expr → List (Env' → M D) → Prop where
  | nil : MJ X E [] []
  | cons {e : Expr} {m : Env' → M D} {es : List Expr} {ms : List (Env' → M D)} (h : ME X E e m) (r : MJ X E es ms) : MJ X E (e :: es) (m :: ms)
theorem MJ.pj {es : List Expr} {ms : List (Env' → M D)} (h : MJ X E es ms) : PJ X es (ms.map fun m => tE X.K X.mg E m) := by
  induction h with
  | nil => exact .nil
  | cons h r ih => exact .cons h ih
theorem fs_read {ρ : Env'} : ∀ (ms : List (Env' → M D)) (acc : Str) {σ : L2.St} {H : Hp} {μ : Pl} {S : Store} {Q : VK}, EnvOk X.K X.mg μ H σ ρ → Ok X.K X.mg μ H S → PostD X.K X.mg μ H (E σ) (fsM ms acc ρ S) Q →
    tJs (ms.map fun m => tE X.K X.mg E m) acc σ H fun out H1 => Q (.str out) H1
  | [], acc, σ, H, μ, S, Q, he, ho, h => h _ H μ .refl ho (.str acc)
  | m :: ms, acc, σ, H, μ, S, Q, he, ho, h => by
    unfold fsM at h
    refine tE.run (R := fun r => PostD X.K X.mg μ H (E σ) r Q) he ho h (fun _ _ _ z => z) (fun z => z) fun x S1 _ h1 v H1 μ1 s1 o1 e1 d1 => ?_
    cases d1 with
    | str y =>
      dsimp only at h1
      split at h1
      · rename_i hz
        exact ⟨y, rfl, hz, fs_read ms (acc ++ y) e1 o1 (PostD.of s1 h1)⟩
      · exact h1.elim
    | _ => exact h1.elim
theorem e_fs {v1 v2 : Expr} {rest : List Expr} {ms : List (Env' → M D)} (h : MJ X E (v1 :: v2 :: rest) ms) : ME X E (.JoinedStr (v1 :: v2 :: rest) pos) (fsM ms Str.empty) := (pe_joined h.pj).weak fun σ H Q h => by
  obtain ⟨ρ, μ, S, he, ho, h⟩ := h
  exact fs_read ms Str.empty he ho h
theorem e_fs1 (h : ME X E a ma) : ME X E (.JoinedStr [a] pos) ma := pe_joined1 h
end
/-! calls of built-in types that make a cell -/
def rPLS (K : W.Frag) (mg : Str → Option Value) (f : Store → List D → Option (D × Store)) : List V → Hp → VK → Prop := fun vs H Q => ∃ μ S ds d S', Ok K mg μ H S ∧ DenL K mg μ H vs ds ∧ f S ds = some (d, S') ∧
  ∀ v' H' μ', Step μ μ' H H' → Ok K mg μ' H' S' → Den K mg μ' H' v' d → Q v' H'
def M.opLS (f : Store → List D → Option (D × Store)) (ds : List D) : M D := fun S => match f S ds with
  | some (d, S') => .ok d S'
  | none => .bad
def bltSM (f : Store → List D → Option (D × Store)) (ms : Env' → M (List D)) : Env' → M D := fun ρ => M.bind (ms ρ) fun ds => M.opLS f ds
/-- list(..) that will be changed in place -/
def listCP (S : Store) : List D → Option (D × Store)
  | [d] => match asQ S d with
    | some ds => if ds.length ≤ sizeLine then some (.loc S.length, S ++ [.lst ds]) else none
    | none => none
  | _ => none
section
variable {X : Cx} {E : L2.St → XK} {a b c e : Expr} {es : List Expr} {ms : Env' → M (List D)} {pos p : Pos}
theorem e_btyS {T : String} {x : Str} {f : Store → List D → Option (D × Store)} (hc : CallR X (.type T) (rPLS X.K X.mg f)) (hm : X.mg x = none) (hv : bootBuiltins x = some (.type T)) (ha : MA X E (e :: es) ms) (hg : Gl X x := by rfl) (hn : x ≠ "__name__" := by decide)
    (hdb : (x == ("__debug__" : Str)) = false := by decide) (he : starEach (e :: es) X.env = (false, eval e X.env) :: starEach es X.env := by rfl) (hpl : (backTo pos (starEach es X.env)).any (·.1) = false := by rfl) :
    ME X E (.Call (.Name x p) (e :: es) [] pos) (bltSM f ms) := (pe_callTy hc hg hm hv ha hn hdb he hpl).weak fun σ H Q h => by
  obtain ⟨ρ, μ, S, hE, hO, h⟩ := h
  refine tA'.run (R := fun r => PostD X.K X.mg μ H (E σ) r Q) hE hO h (fun _ _ _ z => z) (fun z => z) fun ds S1 hds h1 vs H1 μ1 s1 o1 e1 d1 => ?_
  unfold M.opLS at h1
  cases q : f S1 ds with
  | none => rw [q] at h1; exact h1.elim
  | some r =>
    obtain ⟨d, S2⟩ := r
    rw [q] at h1
    exact ⟨μ1, S1, ds, d, S2, o1, d1, q, fun v' H' μ' st o' hd => h1 v' H' μ' (s1.trans st) o' hd⟩
theorem c_listC : CallR X (.type "list") (rPLS X.K X.mg listCP) := by
  intro pins s σ H xs us Q I r h
  obtain ⟨μ, S, ds, d, S', o, dl, e, k⟩ := h
  unfold listCP at e
  split at e
  · rename_i d0
    cases q : asQ S d0 with
    | none => rw [q] at e; cases e
    | some es =>
      rw [q] at e
      dsimp only at e
      split at e
      · injection e with e
        injection e with e1 e2
        subst e1 e2
        obtain ⟨v, rfl, dv⟩ := den1 dl
        obtain ⟨p, vs, rfl, h1, h2⟩ := asQ_den o dv q
        exact call_list_of pins s σ H _ us Q I r ⟨p, vs, rfl, h1, fun l hl => k _ _ (μ.add l) (.cell hl) (o.cell hl h2) (.loc o.atNew)⟩
      · cases e
  · cases e
/-! a, b, c = x, y, z -/
def par3M (i j l : Nat) (ms : Env' → M (List D)) : MSt := fun ρ S => SR.of (ms ρ S) ρ fun ds S' => match ds with
  | [d1, d2, d3] => .nx (((ρ.set i (some d1)).set j (some d2)).set l (some d3)) S'
  | _ => .bad
theorem s_par3 (i j l : Nat) {x y z : Str} {px py pz pt : Pos} {kt k2 pt2} (hc : X.calm = true) (hN : X.N.Nodup) (ha : MA X E [a, b, c] ms) (hi : X.N[i]? = some x := by rfl) (hj : X.N[j]? = some y := by rfl) (hl : X.N[l]? = some z := by rfl)
    (hij : i ≠ j := by decide) (hil : i ≠ l := by decide) (hjl : j ≠ l := by decide)
    (hx : X.env.scope.names.lookup x = some .local := by rfl) (hy : X.env.scope.names.lookup y = some .local := by rfl) (hz : X.env.scope.names.lookup z = some .local := by rfl)
    (hw : swappedStores [.Tuple [.Name x px, .Name y py, .Name z pz] kt pt] (.Tuple [a, b, c] k2 pt2) X.env = pure (some [x, y, z]) := by rfl)
    (hs : swapsWithSole [.Tuple [.Name x px, .Name y py, .Name z pz] kt pt] (.Tuple [a, b, c] k2 pt2) pos.line X.env = pure false := by rfl) :
    MS X E (.Assign [.Tuple [.Name x px, .Name y py, .Name z pz] kt pt] (.Tuple [a, b, c] k2 pt2) pos) (par3M i j l ms) := (ps_par3 hc hN hi hj hl hij hil hjl hx hy hz ha hw hs).weak fun D σ H h => by
  obtain ⟨ρ, μ, S, hE, hO, h⟩ := h
  refine tA'.runS hE hO h fun ds S1 _ h vs H1 μ1 s1 o1 e1 d1 => ?_
  split at h
  · rename_i y1 y2 y3
    cases d1 with
    | cons a1 r1 =>
      obtain ⟨v2, v3, rfl, a2, a3⟩ := den2 r1
      exact ⟨_, v2, v3, rfl, h _ H1 μ1 s1 o1 (((e1.set i a1).set j a2).set l a3)⟩
  · exact h.elim
end
end PyM
set_option Elab.async false
set_option linter.all false
set_option maxRecDepth 100000
set_option maxHeartbeats 2000000
namespace PyM
open PySem PySem.Spec PyProof.Rows L2

/-! ### where a token is given out: e.replace(y, z) of written texts -/
abbrev MET (X : Cx) (E : L2.St → XK) (e : Expr) (m : Env' → M D) : Prop := PET X e (tE X.K X.mg E m)
abbrev MST (X : Cx) (E : L2.St → XK) (st : Stmt) (m : MSt) : Prop := PST X st (tS X.K X.mg E m)
abbrev MSsT (X : Cx) (E : L2.St → XK) (st : List Stmt) (m : MSt) : Prop := PSsT X st (tS X.K X.mg E m)
theorem PET.less {X : Cx} {e : Expr} {t t' : TE} (h : PET X e t) (w : ∀ σ H Q, t' σ H Q → t σ H Q) : PET X e t' := fun pins s σ H Q h0 I q => h pins s σ H Q h0 I (w σ H Q q)
def replP (y z : Str) (_ : Store) : D → Option D
  | .str x => if x.length + (x.length + 1) * z.length ≤ 16777216 then some (.str (Txt.replace x y z)) else none
  | _ => none
section
variable {X : Cx} {E : L2.St → XK} {a b c e o : Expr} {es rest : List Expr} {ma mb mo : Env' → M D} {ms : Env' → M (List D)} {pos cpos apos : Pos} {y z : Str} {j k : Nat} {c0 c1 : Pos}
theorem tRepl_of {σ : L2.St} {H : Hp} {Q : VK} (h : tE X.K X.mg E (un1 (replP y z) mo) σ H Q) : CwR.tReplC (tE X.K X.mg E mo) y z σ H Q := by
  obtain ⟨ρ, μ, S, he, ho, h⟩ := h
  refine tE.run (R := fun r => PostD X.K X.mg μ H (E σ) r Q) he ho h (fun _ _ _ z => z) (fun z => z) fun d S1 _ h1 v H1 μ1 s1 o1 e1 d1 => ?_
  unfold M.op1 at h1
  cases q : replP y z S1 d with
  | none => rw [q] at h1; exact h1.elim
  | some r =>
    rw [q] at h1
    unfold replP at q
    split at q
    · split at q
      · obtain rfl := Option.some.inj q
        cases d1
        exact ⟨_, rfl, by assumption, h1 _ H1 μ1 s1 o1 (.str _)⟩
      · cases q
    · cases q
theorem f_repl (ho : ME X E o mo) (hyz : (y == z) = false := by decide)
    (hst : starEach [.Constant (.str y) j c0, .Constant (.str z) k c1] X.env = [(false, eval (.Constant (.str y) j c0) X.env), (false, eval (.Constant (.str z) k c1) X.env)] := by rfl)
    (hbase : attributeBase o "replace" X.env (eval o X.env) = eval o X.env := by rfl) (hline : (apos.endLine == pos.line) = true := by rfl) :
    MET X E (.Call (.Attribute o "replace" apos) [.Constant (.str y) j c0, .Constant (.str z) k c1] [] pos) (un1 (replP y z) mo) :=
  PET.less (CwR.pet_replC ho hyz hst hbase hline) fun _ _ _ h => tRepl_of h
theorem f_replT (ho : MET X E o mo) (hyz : (y == z) = false := by decide)
    (hst : starEach [.Constant (.str y) j c0, .Constant (.str z) k c1] X.env = [(false, eval (.Constant (.str y) j c0) X.env), (false, eval (.Constant (.str z) k c1) X.env)] := by rfl)
    (hbase : attributeBase o "replace" X.env (eval o X.env) = eval o X.env := by rfl) (hline : (apos.endLine == pos.line) = true := by rfl) :
    MET X E (.Call (.Attribute o "replace" apos) [.Constant (.str y) j c0, .Constant (.str z) k c1] [] pos) (un1 (replP y z) mo) :=
  PET.less (CwR.pet_replT ho hyz hst hbase hline) fun _ _ _ h => tRepl_of h
theorem tBM_of {T : String} {f : Store → D → List D → Option (D × Store)} {σ : L2.St} {H : Hp} {Q : VK} (h : tE X.K X.mg E (methM T f mo ms) σ H Q) : tBM X.K T (rPM X.K X.mg f) (tE X.K X.mg E mo) (tA' X.K X.mg E ms) σ H Q := by
  obtain ⟨ρ, μ, S, he, hok, h⟩ := h
  refine tE.run (R := fun r => PostD X.K X.mg μ H (E σ) r Q) he hok h (fun _ _ _ z => z) (fun z => z) fun x S1 _ h1 v H1 μ1 s1 o1 e1 d1 => ?_
  rw [guard_bind] at h1
  cases g : tyOk T S1 x with
  | false => rw [if_neg (by rw [g]; decide)] at h1; exact h1.elim
  | true =>
    rw [if_pos g] at h1
    refine ⟨tyOk_den o1 d1 g, ?_⟩
    have h1' : PostD X.K X.mg μ H (E σ) (M.bind (ms ρ) (fun ds => M.opM f x ds) S1) Q := h1
    refine tA'.run (R := fun r => PostD X.K X.mg μ1 H1 (E σ) r Q) e1 o1 (PostD.of s1 h1') (fun _ _ _ z => z) (fun z => z) fun ds S2 _ h2 vs H2 μ2 s2 o2 e2 d2 => ?_
    unfold M.opM at h2
    cases q : f S2 x ds with
    | none => rw [q] at h2; exact h2.elim
    | some r =>
      obtain ⟨d, S3⟩ := r
      rw [q] at h2
      exact ⟨μ2, S2, x, ds, d, S3, o2, d1.mono o1 s2, d2, q, fun v' H' μ' st o' hd => h2 v' H' μ' (s2.trans st) o' hd⟩
theorem f_meth {name : Str} {T id : String} {f : Store → D → List D → Option (D × Store)} (pa : PlainAttrs T) (slot : Slot T name id) (hty : typeOf (.builtin id) = pure (.type "method_descriptor")) (hm : MtR X id (rPM X.K X.mg f)) (ho : MET X E a mo) (ha : MA X E (e :: es) ms)
    (hbase : attributeBase a name X.env (eval a X.env) = eval a X.env := by rfl)
    (hfew : ((backTo cpos (starEach (e :: es) X.env)).all (fun x => !x.1) && (backToKw cpos (keywordEach [] X.env)).all (fun x => x.1.isSome)
      && decide ((e :: es).length + ([] : List Keyword).length + (if ([] : List Keyword).isEmpty then 0 else 1) < 30)) = true := by rfl)
    (hline : (apos.endLine == cpos.line) = true := by rfl) (hs : starEach (e :: es) X.env = (false, eval e X.env) :: starEach es X.env := by rfl) (hplain : (backTo cpos (starEach es X.env)).any (·.1) = false := by rfl) :
    MET X E (.Call (.Attribute a name apos) (e :: es) [] cpos) (methM T f mo ms) := by
  intro pins s σ H Q h0 I h
  refine wpAny_Call_method_late hbase hfew hline rfl (thn (ho pins s σ H _ h0 I (tBM_of h)) fun v s1 z => ?_)
  obtain ⟨x, H1, I1, r1, ty, q1⟩ := z
  obtain ⟨g1, g2⟩ := tyV_is I1 r1 ty
  refine ⟨T, id, pa, slot, hty, g1, g2, ?_⟩
  have run := ha.run cpos pins s1 σ H1 _ I1 q1
  rw [hs] at run ⊢
  refine Calls.callWith_builtin (by show (false || (backTo cpos (starEach es X.env)).any (·.1)) = false; rw [hplain] <;> rfl) (Calls.evalArgs_plain (thn run fun us s2 z => ?_))
  obtain ⟨vs, H2, I2, r2, q2⟩ := z
  exact hm pins s2 σ H2 x vs v us Q I2 r1 r2 q2
/-! statements -/
theorem fs_cons {st : Stmt} {sts : List Stmt} {m1 m2 : MSt} (h1 : MST X E st m1) (h2 : MSsT X E sts m2) : MSsT X E (st :: sts) (seqM m1 m2) := fun pins s σ H D h0 I h => psst_cons h1 h2 pins s σ H D h0 I (by
  obtain ⟨ρ, μ, S, he, ho, h⟩ := h
  refine ⟨ρ, μ, S, he, ho, ?_⟩
  unfold seqM SR.bind at h
  cases e : m1 ρ S with
  | nx ρ' S' =>
    rw [e] at h
    exact fun σ' H' μ' st o' e' => ⟨ρ', μ', S', e', o', PostS.of st h⟩
  | _ => rw [e] at h; exact h)
theorem fs_of {sts : List Stmt} {m : MSt} (h : MSs X E sts m) : MSsT X E sts m := PSsT.of h
/-- y = [r for r in texts if r != ""], the texts from an expression that wants a token -/
def filtM (mi : Env' → M D) : Env' → M D := fun ρ => M.bind (mi ρ) fun d => match d with
  | .lst ds => (match strsOf ds with
    | some xs => newCell ((xs.filter fun x => !decide (x = Str.empty)).map .str)
    | none => M.bad)
  | _ => M.bad
theorem f_runs (i : Nat) {y r : Str} {py pr pt pc pq p0 pos spos : Pos} {iter : Expr} {scope : Scope} {mi : Env' → M D} (hc : X.calm = true) (hN : X.N.Nodup) (he : MET X E iter mi) (hi : X.N[i]? = some y := by rfl) (hyl : X.env.scope.names.lookup y = some .local := by rfl)
    (hk : X.env.scope.kind = .function := by rfl) (hl : (py.line == pos.line) = true := by rfl) (ha : (scope.names.any fun (n, k) => n == y && (k == .local || k == .cell)) = false := by decide +kernel)
    (hown : (scope.names.all fun z => !decide (z.2 = .cell) && !decide (z.2 = .free) && (!decide (z.2 = .local) || decide (scope.names.lookup z.1 = some .local))) = true := by decide +kernel) (hkd : scope.kind = .function := by rfl)
    (hr : scope.names.lookup r = some .local := by rfl) (hdb : (r == ("__debug__" : Str)) = false := by decide) (hs : ∀ x, foldedSetIterable iter X.env x = pure x := by intro _; rfl) :
    MST X E (.Assign [.Name y py] (.ListComp (.Name r pr) [⟨.Name r pt, iter, [.Compare (.Name r pc) [.NotEq] [.Constant (.str "") j p0] pq], 0⟩] scope pos) spos) (setM i (filtM mi)) := by
  intro pins s σ H D h0 I h
  rw [List.all_eq_true] at hown
  have hown' : ∀ z ∈ scope.names, z.2 ≠ .cell ∧ z.2 ≠ .free ∧ (z.2 = .local → scope.names.lookup z.1 = some .local) := fun z hz => by
    have := hown z hz
    simp only [Bool.and_eq_true, Bool.or_eq_true, Bool.not_eq_true', decide_eq_true_eq, decide_eq_false_iff_not] at this
    exact ⟨this.1.1, this.1.2, fun e => this.2.elim (fun n => absurd e n) id⟩
  have hsw := sw_true (elt := .Name r pr) (gs := [⟨.Name r pt, iter, [.Compare (.Name r pc) [.NotEq] [.Constant (.str "") j p0] pq], 0⟩]) (scope := scope) (pos := pos) (py := py) (l := spos.line) hk hyl hl ha
  have hclos := closure_ok (scope := scope) (env := X.env) (fun z hz e => absurd e (hown' z hz).2.1)
  refine Assign_ListComp_goes hsw hclos (fun z hz => (hown' z hz).1) hkd (fun z hz => (hown' z hz).2.2) ?_ hs
  -- the texts
  obtain ⟨ρ, μ, S, hE, hO, h⟩ := h
  unfold setM SR.of at h
  have hit : tE X.K X.mg E mi σ H fun v H1 => ∃ (p : Addr) (xs : List Str), v = .ref p ∧ H1 p = some (.lst (xs.map V.str)) ∧
      ∀ q, H1 q = none → D.nx (σ.set i (some (.ref q))) (upd H1 q (.lst ((xs.filter fun x => !decide (x = Str.empty)).map V.str))) := by
    refine ⟨ρ, μ, S, hE, hO, ?_⟩
    unfold filtM M.bind at h
    cases e : mi ρ S with
    | bad => rw [e] at h; exact h.elim
    | exc c fs S' => rw [e] at h; exact PostS.xp hE hO h
    | ok d S' =>
      rw [e] at h
      intro v H1 μ1 st o1 d1
      cases d1 with
      | lst h1 h2 h3 h4 =>
        rename_i p vs ds
        dsimp only at h
        cases q : strsOf ds with
        | none => rw [q] at h; exact h.elim
        | some xs =>
          rw [q] at h
          dsimp only at h
          obtain rfl := strsOf_den h4 q
          refine ⟨p, xs, rfl, h1, fun q hq => ?_⟩
          by_cases hl2 : ((xs.filter fun x => !decide (x = Str.empty)).map PyM.D.str).length ≤ sizeLine
          · have e2 : newCell ((xs.filter fun x => !decide (x = Str.empty)).map PyM.D.str) S' = .ok (.loc S'.length) (S' ++ [.lst ((xs.filter fun x => !decide (x = Str.empty)).map PyM.D.str)]) := if_pos hl2
            rw [e2] at h
            exact h _ _ (μ1.add q) (st.trans (.cell hq)) (o1.cell hq (strs_den _)) (((hE.mono hO st).mono o1 (.cell hq)).set i (.loc o1.atNew))
          · have e2 : newCell ((xs.filter fun x => !decide (x = Str.empty)).map PyM.D.str) S' = .bad := if_neg hl2
            rw [e2] at h
            exact h.elim
      | _ => exact h.elim
  clear h
  refine thn (he pins s σ H _ h0 I hit) fun xv s1 hx => ?_
  obtain ⟨v, H1, I1, r1, p, xs, rfl, hp, fin⟩ := hx
  obtain rfl : xv = Value.ref p := r1
  obtain ⟨hz, its, n, rv, hlen, hobj⟩ := I1.lstM hp
  have hil : s1.heap.IsList p its.toArray := ⟨_, hobj, rfl, _, rfl⟩
  refine (begins_list p its.toArray).iter _ _ _ _ s1 _ hil ?_
  generalize hI : s1.heap.objs.size = I0
  have hpI : p ≠ I0 := by rw [← hI]; exact Nat.ne_of_lt (Heap.lt_size hobj)
  have nI : H1 I0 = none := I1.hok.fresh (Nat.le_of_eq hI)
  generalize hs2 : ({ s1 with heap := s1.heap.push { cls := .type "list_iterator", data := .fields #[.ref p, .int 0 0] } } : Shared) = s2
  have I2 : Inv X pins σ H1 s2 := by
    rw [← hs2]
    exact I1.kept (t' := s1.toks) fun b o e => Heap.get?_push_of_some _ e
  have h2 : s2.heap = s1.heap.push { cls := .type "list_iterator", data := .fields #[.ref p, .int 0 0] } := by rw [← hs2]
  have z2 : s2.heap.objs.size = I0 + 1 := by rw [h2, Heap.size_push, hI]
  have hIi : s2.heap.IsListIter I0 p 0 := by
    rw [h2, ← hI]
    exact ⟨_, Heap.get?_push_size _ rfl, rfl, rfl⟩
  have hil2 : s2.heap.IsList p its.toArray := by
    rw [h2]
    exact hil.at fun o e => Heap.get?_push_of_some _ e
  have fpI : FpOk X pins H1 I0 := by
    have := I1.fpOk (b := I0) (H' := H1) (Nat.le_of_eq hI) nI
    exact this
  have hlen' : its.length = xs.length := by rw [← hlen, List.length_map]
  refine ⟨I0, [I0, p], [I0], its.toArray.size, _, _, rfl, Goes.list (I.ok.hd hc) I0 p hpI its.toArray, by rw [List.size_toArray, ← hlen]; exact hz, ⟨hIi, hil2⟩, fun b hb => ?_, fun Dn C s3 hB => ?_⟩
  · have pl : p < I0 := by rw [← hI]; exact Heap.lt_size hobj
    rw [z2]
    rcases List.mem_cons.mp hb with q | q
    · rw [q]; exact Nat.lt_succ_self _
    · rw [List.mem_singleton.mp q]; exact Nat.lt_succ_of_lt pl
  obtain ⟨⟨h3, tk3, rfl⟩, old, nD, nC, hDC, hnm⟩ := hB
  have nD' : I0 + 1 ≤ Dn := by rw [← z2]; exact nD
  have nC' : I0 + 1 ≤ C := by rw [← z2]; exact nC
  have hCI : C ≠ I0 := Nat.ne_of_gt nC'
  have lt2 : ∀ b o, s2.heap.get? b = some o → b ≠ Dn ∧ b ≠ C := fun b o e => ⟨Nat.ne_of_lt (Nat.lt_of_lt_of_le (Heap.lt_size e) nD), Nat.ne_of_lt (Nat.lt_of_lt_of_le (Heap.lt_size e) nC)⟩
  have kinds : ∀ z, scope.names.lookup z = some .local → (compEnvC scope (cloFrom X.env.cells scope.names []) C X.env).kindOf z = some .local := fun z hz => lookup_relabel_local hz
  have notMod : ((compEnvC scope (cloFrom X.env.cells scope.names []) C X.env).scope.kind == .class || ((compEnvC scope (cloFrom X.env.cells scope.names []) C X.env).scope.kind == .module && (compEnvC scope (cloFrom X.env.cells scope.names []) C X.env).locals != (compEnvC scope (cloFrom X.env.cells scope.names []) C X.env).globals)) = false := by
    show (scope.kind == .class || (scope.kind == .module && _)) = false
    rw [hkd]; rfl
  let keepX : List Str → List V := fun l => (l.filter fun x => !decide (x = Str.empty)).map V.str
  refine ⟨fun k ys s' => ∃ h' tk m, s' = { s2 with heap := h', toks := tk } ∧ h'.Ns C m ∧ Vals (keepX (xs.take k)) ys ∧ ∀ b o, b ≠ I0 → s2.heap.get? b = some o → h'.get? b = some o, ⟨h3, tk3, _, rfl, hnm, .nil, fun b o _ e => old b o e⟩, ?_, ?_, ?_⟩
  · rintro k ys s' h' tk ⟨h4, tk4, m, rfl, n4, v4, k4⟩ hk' _
    have off : ∀ b, b ≠ I0 → b ≠ Dn → b ∉ [Dn, I0] := fun b e1 e2 hm => by
      rcases List.mem_cons.mp hm with q | q
      · exact e2 q
      · exact e1 (List.mem_singleton.mp q)
    exact ⟨h', tk, m, rfl, n4.at' fun o e => hk' _ o (off _ hCI (Ne.symm hDC)) e, v4, fun b o hb e => hk' b o (off _ hb (lt2 b o e).1) (k4 b o hb e)⟩
  · rintro k v ys s' hk hY hSt ⟨h4, tk4, m, rfl, n4, v4, k4⟩ hpl
    have hY : its.toArray[k]? = some v := hY
    have hxk : k < xs.length := by rw [← hlen', ← List.size_toArray]; exact hk
    obtain ⟨v', e1, r1⟩ := rv.get (i := k) (x := .str xs[k]) (by rw [List.getElem?_map, List.getElem?_eq_getElem hxk]; rfl)
    obtain rfl : v' = v := by
      have : its[k]? = some v := by simpa using hY
      rw [e1] at this
      exact Option.some.inj this
    obtain ⟨t, rfl⟩ := r1
    have tk1 : keepX (xs.take (k + 1)) = keepX (xs.take k) ++ (if xs[k] = Str.empty then [] else [.str xs[k]]) := by
      show ((xs.take (k + 1)).filter _).map V.str = _
      rw [List.take_add_one, List.getElem?_eq_getElem hxk, Option.toList_some, List.filter_append, List.map_append]
      congr 1
      by_cases he : xs[k] = Str.empty
      · rw [if_pos he]; simp [he]
      · rw [if_neg he]; simp [he]
    refine wpAny_assign_Name (wpAny_storeName_local (kinds _ hr) n4 (fun h5 n5 sb5 => ?_) notMod)
    have k5 : ∀ b o, b ≠ I0 → s2.heap.get? b = some o → h5.get? b = some o := fun b o hb e => (sb5.2 b (lt2 b o e).2).trans (k4 b o hb e)
    have st5 : h5.IsListIter I0 p (k + 1) ∧ h5.IsList p its.toArray := by
      obtain ⟨a1, a2⟩ := hSt
      exact ⟨a1.at fun o e => (sb5.2 _ (Ne.symm hCI)).trans e, a2.at fun o e => (sb5.2 _ (by
        obtain ⟨o', e', _⟩ := hil2
        exact (lt2 p o' e').2)).trans e⟩
    have pl5 : h5.PlainList Dn ys.toArray := hpl.at fun o e => (sb5.2 _ hDC).trans e
    have ld : ∀ {q : Pos} {tk : Nat} {Q : Value → Shared → Prop} {E : Value → Shared → Prop}, Q (.str xs[k] t) { s2 with heap := h5, toks := tk } → wpAny (model X.prog X.w) X.A (eval (.Name r q) (compEnvC scope (cloFrom X.env.cells scope.names []) C X.env)) Q E { s2 with heap := h5, toks := tk } := fun {q tk Q E} hq => by
      rw [eval_Name _ _ _ hdb]
      exact wpAny_bind (wpAny_standAt (wpAny_loadName_local (by exact hkd) (kinds _ hr) n5 (by simp) hq))
    refine wpAny_tests_one (wpAny_isTrue_Compare1 (ld (Calls.Constant_str (ne_str ?_))))
    refine wpAny_truthy_bool ?_
    by_cases he : xs[k] = Str.empty
    · rw [if_neg (by rw [he]; decide)]
      refine ⟨⟨h5, _, _, rfl, n5, ?_, k5⟩, st5, pl5⟩
      rw [tk1, if_pos he, List.append_nil]
      exact v4
    · rw [if_pos (by
        show (!(xs[k] == ("" : Str))) = true
        have : (xs[k] == ("" : Str)) = false := beq_eq_false_iff_ne.mpr he
        rw [this]; rfl)]
      refine ld ⟨⟨h5, _, _, rfl, n5, ?_, k5⟩, st5, pl5⟩
      rw [tk1, if_neg he]
      exact v4.append (.cons ⟨t, rfl⟩ .nil)
  · rintro ys s' ⟨h4, tk4, m, rfl, n4, v4, k4⟩ hpl
    have v5 : Vals (keepX xs) ys := by
      have e : its.toArray.size = xs.length := by rw [List.size_toArray, hlen']
      rw [e, List.take_length] at v4
      exact v4
    have hkl : (keepX xs).length ≤ sizeLine := by
      have a1 : (keepX xs).length ≤ xs.length := by
        show ((xs.filter _).map V.str).length ≤ _
        rw [List.length_map]
        exact List.length_filter_le _ _
      have a2 : (xs.map V.str).length = xs.length := List.length_map _
      omega
    obtain ⟨nn, hD4⟩ := hpl
    have nDH : H1 Dn = none := I2.hok.fresh nD
    have I3 : Inv X pins σ (upd H1 Dn (.lst (keepX xs))) { s2 with heap := h4, toks := tk4 } := by
      refine I2.turnedNew (ch := [I0]) (t' := tk4) (fun b o hb e => k4 b o (fun z => hb (by simp [z])) e) (fun b hb => by rw [List.mem_singleton.mp hb]; exact fpI) nD ⟨hkl, ys, nn, v5, hD4⟩
    have nCH : upd H1 Dn (.lst (keepX xs)) C = none := by
      rw [upd_ne (Ne.symm hDC)]
      exact I2.hok.fresh nC
    have fpC : FpOk X pins (upd H1 Dn (.lst (keepX xs))) C := I2.fpOk nC nCH
    show wpAny _ _ (assign (.Name y py) X.env (.ref Dn)) _ _ _
    refine wpAny_assign_Name (store_ok2 (v := V.ref Dn) I3 hN hi (.inl hyl) rfl (fun s5 I5 ⟨a, sb, ha⟩ => ?_) (.inr hyl))
    have hCa : C ≠ a := by
      rcases ha with z | z
      · rw [z]; exact fpC.2.1
      · exact fun q => fpC.2.2.2.2.1 y a z q.symm
    refine ⟨m, n4.sameBut sb hCa, fun h6 sb6 => ?_⟩
    obtain ⟨_, f1, _, f3, f4, f5⟩ := fpC
    exact ⟨_, _, I5.turned (t' := s5.toks) (fun b o hb e => (sb6.2 b hb).trans e) nCH f1 f3 f4 f5, fin Dn nDH⟩
end
end PyM
set_option Elab.async false
set_option linter.all false
set_option maxRecDepth 100000
set_option maxHeartbeats 2000000
namespace PyM
open PySem PySem.Spec PyProof.Rows L2

/-! ### a def whose body begins where a token is given out: its parameters were stored -/
theorem cellsFrom_none : ∀ (l : List (Str × NameKind)) (n : Nat) (acc : List (Str × Addr)), (∀ x ∈ l, x.2 ≠ .cell) → cellsFrom n l acc = acc
  | [], _, _, _ => rfl
  | (x, k) :: r, n, acc, h => by
    unfold cellsFrom
    have : (k == NameKind.cell) = false := by simpa using h (x, k) List.mem_cons_self
    rw [this]
    exact cellsFrom_none r n acc fun y hy => h y (List.mem_cons_of_mem _ hy)
theorem bindL_all (kind : Str → Option NameKind) : ∀ (binds : List (Str × Value)) (m : Str → Option Value), (∀ x ∈ binds, kind x.1 = some .local) → bindL kind binds m = fun y => (binds.reverse.lookup y).or (m y)
  | [], m, _ => by funext y; rfl
  | (n, v) :: r, m, h => by
    unfold bindL
    rw [if_pos (h (n, v) List.mem_cons_self), bindL_all kind r _ fun y hy => h y (List.mem_cons_of_mem _ hy)]
    funext y
    rw [List.reverse_cons, List.lookup_append]
    have : (if y = n then some v else m y) = ([(n, v)].lookup y).or (m y) := by
      by_cases e : y = n
      · subst e; simp [List.lookup]
      · have e' : (y == n) = false := by simpa using e
        rw [if_neg e]; simp [List.lookup, e']
    rw [this]
    cases r.reverse.lookup y <;> rfl
section
variable {CX : CXT} {P : Program} {w : World} {K : W.Frag} {mg : Str → Option Value} {base : Heap} {k : Nat} {f : Addr}
theorem Def.ofT {x qual : Str} {st : Stmt} {fd : FuncData} {p0 : Str} {N ps : List Str} {m : MSt} (F : Fun K x qual st f fd) (S : FnScope N (p0 :: ps) (defScope st)) (hm : mg x = some (.ref f)) (hb : Binds K fd (p0 :: ps) []) (hnc : ∀ y ∈ (defScope st).names, y.2 ≠ .cell)
    (h : ∀ (cdv : Value) (A : Around) (outer : List Env) (s : Shared) (H : Hp) (E : XK), (A.deeper (envOfC qual (defScope st) s.heap.objs.size f cdv)).guards = some [] → Room k (A.deeper (envOfC qual (defScope st) s.heap.objs.size f cdv)) →
      MSsT (cxOf CX P w K mg base N qual (defScope st) f cdv A outer s H E) (fun _ => E) (defBody st) m) : Def P w K mg base CX (k + 1) x (ps.length + 1) (bodyM N.length m) := by
  refine ⟨f, fd, p0 :: ps, ⟨fun vs H Q E h => by rw [h.1]; rfl, ?_⟩, hm, F.kp, hb⟩
  obtain ⟨oc, od, kV, doc, pm, an, cdv, ct, osl, rfl, lk, hcd⟩ := F.ex
  intro A outer s H args us vs Q E hG hr e0 hbind hv hs
  have hl : vs.length = (p0 :: ps).length := by rw [hs.1]; rfl
  have inK : K.In s.heap := e0.mod.kin.keeps fun b o e => (e0.bs b o e).1
  have noLim : s.heap.NoLimit := e0.mod.nolimit.keeps fun b o e => (e0.bs b o e).1
  have locals : ∀ y ∈ (p0 :: ps).zip us, (defScope st).names.lookup y.1 = some .local := by
    rintro ⟨n, v⟩ hy
    rcases S.par n (List.of_mem_zip hy).1 with q | q
    · exact q
    · exact absurd rfl (hnc _ (PySem.mem_of_lookup q))
  have cells : ∀ n, cellsFrom n (defScope st).names [] = [] := fun n => cellsFrom_none _ n [] hnc
  have ul : us.length = ps.length + 1 := by rw [← hv.length, hl]; rfl
  refine codeAny_call_function hr.depth (inK _ _ lk) rfl S.co S.gen rfl (W.codeRec_of inK hcd) ?_
  refine hbind _ _ _ _ (wpAny_newFunctionEnv hnc locals (fun h1 hns hsb => ?_) S.kind)
  have kp : ∀ b o, s.heap.get? b = some o → h1.get? b = some o := fun b o e => hsb.extBut b o (Nat.ne_of_lt (Heap.lt_size e)) (Heap.get?_push_of_some _ e)
  refine ⟨noLim.keeps kp, ?_⟩
  have eE : newEnv (defScope st) s.heap.objs.size mainGlobals [] (qual ++ ".<locals>.") (some f) cdv none builtinsNs = envOfC qual (defScope st) s.heap.objs.size f cdv := by
    unfold envOfC
    rw [cells] <;> rfl
  refine codeAny_func ?_
  show wpAny _ _ (execs (defBody st) (newEnv (defScope st) s.heap.objs.size mainGlobals [] (qual ++ ".<locals>.") (some f) cdv none builtinsNs)) _ _ _
  rw [eE]
  have len1 : 1 ≤ ((p0 :: ps).zip us).length := by
    rw [List.length_zip, ul]
    simp
  generalize hs1 : ({ s with heap := h1, toks := s.toks + ((p0 :: ps).zip us).length } : Shared) = s1
  have h01 : 1 ≤ s1.toks := by
    rw [← hs1]
    show 1 ≤ s.toks + _
    omega
  have kinds : ∀ y ∈ (p0 :: ps).zip us, (envOfC qual (defScope st) s.heap.objs.size f cdv).kindOf y.1 = some .local := fun y hy => locals y hy
  have x : InCallC s s.heap.objs.size (bindL (envOfC qual (defScope st) s.heap.objs.size f cdv).kindOf ((p0 :: ps).zip us) fun _ => none) (cellsFrom (s.heap.objs.size + 1) (defScope st).names []) (bindC (envOfC qual (defScope st) s.heap.objs.size f cdv).kindOf ((p0 :: ps).zip us) fun _ => none) s1 := by
    rw [cells, bindL_all _ _ _ kinds, ← hs1]
    refine ⟨⟨⟨_, _, rfl⟩, ?_, kp, Nat.le_refl _⟩, fun n c e => (nomatch e), List.Pairwise.nil, fun n c e => (nomatch e)⟩
    have e : (fun y => (((p0 :: ps).zip us).reverse.lookup y).or ((fun _ => none : Str → Option Value) y)) = fun y => ((p0 :: ps).zip us).reverse.lookup y := by
      funext y
      cases ((p0 :: ps).zip us).reverse.lookup y <;> rfl
    rw [e]
    exact hns
  have I := inv_start (CX := CX) (E := E) S hr.hd e0 hl hv x
  obtain ⟨_, ds, μ, Sx, dd, ok, hp⟩ := hs
  have body := h cdv A outer s H E hG (hr.deeper _) [] s1 (start N vs) H ⟨fun _ H' => Q .non H', Q, fun _ _ => False, fun _ _ => False⟩ h01 I (by
    refine ⟨_, μ, Sx, denL_env dd N, ok, ?_⟩
    unfold bodyM at hp
    cases r : m (ds.map some ++ List.replicate (N.length - ds.length) none) Sx with
    | nx ρ S' => rw [r] at hp; exact fun σ' H' μ' st o' _ => hp .non H' μ' st o' .non
    | rt d S' => rw [r] at hp; exact hp
    | bk ρ S' => rw [r] at hp; exact hp.elim
    | ct ρ S' => rw [r] at hp; exact hp.elim
    | exc ρ c fs S' => rw [r] at hp; exact fun σ' H' μ' st o' _ cls d x => hp cls d H' μ' st o' x
    | bad => rw [r] at hp; exact hp)
  refine wpAny_mono body (fun fl s' z => ?_) fun e s' z => z
  cases fl with
  | ret u =>
    obtain ⟨v, σ', H', J, rv, q⟩ := z
    exact ⟨v, H', J.os, J.bare, J.base, J.hok, rv, q⟩
  | next =>
    obtain ⟨σ', H', J, q⟩ := z
    exact ⟨.non, H', J.os, J.bare, J.base, J.hok, rfl, q⟩
  | brk => exact (show False from (let ⟨_, _, _, q⟩ := z; q)).elim
  | cont => exact (show False from (let ⟨_, _, _, q⟩ := z; q)).elim
end
end PyM
set_option Elab.async false
set_option linter.all false
set_option maxRecDepth 100000
set_option maxHeartbeats 2000000
namespace PyM
open PySem PySem.Spec PyProof.Rows L2

/-! ### lists made by + and by slices, that will be changed in place -/
def rP2S (K : W.Frag) (mg : Str → Option Value) (f : Store → D → D → Option (D × Store)) : R2 := fun v w H Q => ∃ μ S x y d S', Ok K mg μ H S ∧ Den K mg μ H v x ∧ Den K mg μ H w y ∧ f S x y = some (d, S') ∧
  ∀ v' H' μ', Step μ μ' H H' → Ok K mg μ' H' S' → Den K mg μ' H' v' d → Q v' H'
def M.op2S (f : Store → D → D → Option (D × Store)) (x y : D) : M D := fun S => match f S x y with
  | some (d, S') => .ok d S'
  | none => .bad
def bin2S (f : Store → D → D → Option (D × Store)) (ma mb : Env' → M D) : Env' → M D := fun ρ => M.bind (ma ρ) fun x => M.bind (mb ρ) fun y => M.op2S f x y
def addCP (S : Store) (x y : D) : Option (D × Store) := match asL S x, asL S y with
  | some xs, some ys => if xs.length + ys.length ≤ sizeLine then some (.loc S.length, S ++ [.lst (xs ++ ys)]) else none
  | _, _ => none
def slCP (S : Store) (d : D) (lo hi : Option Int) : Option (D × Store) := match asS S d with
  | some ds => some (.loc S.length, S ++ [.lst (cutD ds lo hi)])
  | none => none
def opSC (d : D) (lo hi : Option Int) : M D := fun S => match slCP S d lo hi with
  | some (r, S') => .ok r S'
  | none => .bad
def slCM (ma : Env' → M D) (ml mh : Env' → M (Option Int)) : Env' → M D := fun ρ => M.bind (ma ρ) fun d => M.bind (ml ρ) fun lo => M.bind (mh ρ) fun hi => opSC d lo hi
section
variable {X : Cx} {E : L2.St → XK} {a b c e : Expr} {ma mb : Env' → M D} {pos : Pos}
theorem e_binS {op : Operator} {f : Store → D → D → Option (D × Store)} (hr : OpR X (binaryOp op) (rP2S X.K X.mg f)) (ha : ME X E a ma) (hb : ME X E b mb) : ME X E (.BinOp a op b pos) (bin2S f ma mb) := (pe_op hr ha hb).weak fun σ H Q h => by
  obtain ⟨ρ, μ, S, he, ho, h⟩ := h
  refine tE.run (R := fun r => PostD X.K X.mg μ H (E σ) r Q) he ho h (fun _ _ _ z => z) (fun z => z) fun x S1 _ h1 v H1 μ1 s1 o1 e1 d1 => ?_
  refine tE.run (R := fun r => PostD X.K X.mg μ1 H1 (E σ) r Q) e1 o1 (PostD.of s1 h1) (fun _ _ _ z => z) (fun z => z) fun y S2 _ h2 w H2 μ2 s2 o2 e2 d2 => ?_
  unfold M.op2S at h2
  cases q : f S2 x y with
  | none => rw [q] at h2; exact h2.elim
  | some r =>
    obtain ⟨d, S3⟩ := r
    rw [q] at h2
    exact ⟨μ2, S2, x, y, d, S3, o2, d1.mono o1 s2, d2, q, fun v' H' μ' st o' hd => h2 v' H' μ' (s2.trans st) o' hd⟩
theorem r_addC : OpR X (binaryOp .Add) (rP2S X.K X.mg addCP) := by
  intro pins s σ H x y v u Q I rx ry h
  obtain ⟨μ, S, a, b, d, S', o, da, db, e, k⟩ := h
  unfold addCP at e
  split at e
  · rename_i i j e1 e2
    split at e
    · rename_i z
      injection e with e
      injection e with e3 e4
      subst e3 e4
      obtain ⟨p, vs, rfl, h1, h2⟩ := asL_den o da e1
      obtain ⟨q, ws, rfl, h3, h4⟩ := asL_den o db e2
      have l1 := h2.length
      have l2 := h4.length
      exact op_cat pins s σ H _ _ v u Q I rx ry ⟨p, q, vs, ws, rfl, rfl, h1, h3, by omega, fun p hp => k _ _ (μ.add p) (.cell hp) (o.cell hp (h2.append h4)) (.loc o.atNew)⟩
    · cases e
  · cases e
theorem e_sliceC {lo hi : Option Expr} {ml mh : Env' → M (Option Int)} {p2 : Pos} (ha : ME X E a ma) (hl : MO X E lo ml) (hh : MO X E hi mh) : ME X E (.Subscript a (.Slice lo hi none p2) pos) (slCM ma ml mh) := (pe_slice sl_list ha hl hh).weak fun σ H Q h => by
  obtain ⟨ρ, μ, S, he, ho, h⟩ := h
  refine tE.run (R := fun r => PostD X.K X.mg μ H (E σ) r Q) he ho h (fun _ _ _ z => z) (fun z => z) fun d S1 _ h1 v H1 μ1 s1 o1 e1 d1 => ?_
  refine tO'.run (R := fun r => PostD X.K X.mg μ1 H1 (E σ) r Q) e1 o1 (PostD.of s1 h1) (fun _ _ _ z => z) (fun z => z) fun l S2 _ h2 H2 μ2 s2 o2 e2 => ?_
  refine tO'.run (R := fun r => PostD X.K X.mg μ2 H2 (E σ) r Q) e2 o2 (PostD.of s2 h2) (fun _ _ _ z => z) (fun z => z) fun u S3 _ h3 H3 μ3 s3 o3 e3 => ?_
  unfold opSC slCP at h3
  cases q : asS S3 d with
  | none => rw [q] at h3; exact h3.elim
  | some ds =>
    rw [q] at h3
    obtain ⟨p, vs, rfl, hp, hd⟩ := asS_den o3 ((d1.mono o1 s2).mono o2 s3) q
    exact ⟨p, vs, rfl, hp, fun q hq => h3 _ _ (μ3.add q) (s3.trans (.cell hq)) (o3.cell hq (cut_den hd)) (.loc o3.atNew)⟩
end
end PyM
set_option Elab.async false
set_option linter.all false
set_option maxRecDepth 100000
set_option maxHeartbeats 3200000
namespace PyM
open PySem PySem.Spec PyProof.Rows L2 L2H

/-! ### where an exception is in hand: tuples taken apart -/
section
variable {prog : Program} {w : World} {A : Around} {E : Value → Shared → Prop} {s : Shared} {x1 it t : Addr} {i : Nat} {items : Array Value}
/-- a walk over a tuple comes to its end there -/
theorem hot_tup_end {Q : Option Value → Shared → Prop} (hot : HotX.HotAt A x1 s.heap) (hxi : x1 ≠ it) (hit : IsTupIter s.heap it t i) (ht : IsTup s.heap t items) (hx : items[i]? = none) (q : ∀ h', Heap.ExtBut it s.heap h' → Q none { s with heap := h' }) :
    wpAny (model prog w) A (pyNext (.ref it)) Q E s := by
  obtain ⟨oi, g1, g2, g3⟩ := id hit
  obtain ⟨ot, t1, _, _, t2⟩ := ht
  obtain ⟨hh, o1, v1, a1, d1, c1⟩ := hot
  unfold pyNext
  refine wpAny_bind (wpAny_attempt (wpAny_callSpecial?_slot (name := Str.ofString "__next__") hit.typeIs slot_tupleiter_next (wpAny_call_entry slot_tupleiter_next hit.typeIs entry_tupleiter_next ?_ (args_tupleiter_next _))))
  show wpAny _ _ (field (.ref it) 0 >>= _) _ _ s; refine wpAny_bind (wpAny_field g1 g3 (x := .ref t) rfl ?_)
  show wpAny _ _ (if (Value.ref t == Value.none) = true then _ else _) _ _ s; rw [if_neg (show ¬ ((Value.ref t == Value.none) = true) from Bool.false_ne_true)]
  show wpAny _ _ (field (.ref it) 1 >>= _) _ _ s; refine wpAny_bind (wpAny_field g1 g3 (x := .int i 0) rfl ?_)
  show wpAny _ _ (seqItems? (.ref t) >>= _) _ _ s; refine wpAny_bind (wpAny_seqItems t1 t2 ?_)
  simp only [Int.toNat_natCast, hx]
  refine wpAny_bind (wpAny_rule (wpAny_bind (wpAny_setField g1 g3 (by simp) ?_)))
  show wpAny _ _ (newExc (.type "StopIteration") [] >>= _) _ _ _; refine wpAny_bind ?_
  simp only [newExc, newTuple]
  refine wpAny_bind (wpAny_newObj_type ?_ (by size_fits)); refine wpAny_bind (m := firstArgMember _ _) (wpAny_of_eq (a := Value.none) (by first | rfl | (simp only [firstArgMember]; rfl)) ?_); refine wpAny_newObj_type ?_ (by size_fits)
  have a2 : ∀ f, (s.heap.update it f).get? x1 = some o1 := fun f => by rw [Heap.get?_update_other _ _ (Ne.symm hxi)]; exact a1
  refine HotX.raiseNew_hot (x1 := x1) ⟨hh, o1, v1, Heap.get?_push_of_some _ (Heap.get?_push_of_some _ (a2 _)), d1, c1⟩ (Nat.ne_of_lt (Heap.lt_size (Heap.get?_push_of_some _ (a2 _)))) (Heap.get?_push_size _ rfl) rfl (by first | (simp; done) | (simp; omega) | (simp only [Array.size_append]; simp; omega)) ?_
  refine wpAny_bind (wpAny_isInstance (T := "StopIteration") (b := true) ⟨_, Heap.get?_update_self _ (Heap.get?_push_size _ rfl) rfl, rfl⟩ isSubtype_stop (wpAny_pure (q _ ?_)))
  intro b o hb e
  have e2 : ∀ f, (s.heap.update it f).get? b = some o := fun f => (Heap.get?_update_other s.heap f (Ne.symm hb)).trans e
  rw [Heap.get?_update_other _ _ (Nat.ne_of_gt (Heap.lt_size (Heap.get?_push_of_some _ (e2 _))))]
  exact Heap.get?_push_of_some _ (Heap.get?_push_of_some _ (e2 _))
theorem hot_unpack {Q : List Value → Shared → Prop} (hot : HotX.HotAt A x1 s.heap) (ht : IsTup s.heap t items) (q : ∀ h', Heap.ExtBut s.heap.objs.size s.heap h' → Q items.toList { s with heap := h' }) : wpAny (model prog w) A (unpackItems (.ref t) items.size none) Q E s := by
  obtain ⟨hh, o1, v1, a1, d1, c1⟩ := hot
  have nt : t ≠ s.heap.objs.size := by
    obtain ⟨o, ho, _⟩ := ht
    exact Nat.ne_of_lt (Heap.lt_size ho)
  have nx : x1 ≠ s.heap.objs.size := Nat.ne_of_lt (Heap.lt_size a1)
  unfold unpackItems
  refine wpAny_bind ?_
  unfold notIterableAtAll
  refine wpAny_bind (wpAny_specialOf ht.typeIs slot_tuple_iter.lookup (wpAny_pure ?_))
  simp only [Bool.false_eq_true, if_false]
  refine wpAny_bind (wpAny_holding (iter_tuple ht (wpAny_bind (wpAny_holding (draw_tuple nt items.size 0 _ _ ⟨_, Heap.get?_push_size _ rfl, rfl, rfl⟩ (ht.push _) (by omega) ?_)))))
  intro h1 hi1 hs1
  have all : (items.toList.drop 0).take items.size = items.toList := by rw [List.drop_zero]; exact List.take_of_length_le (by simp)
  rw [all, if_neg (by simp)]
  have tt : IsTup h1 t items := (ht.push _).extBut hs1.extBut nt
  refine wpAny_bind (wpAny_holding (hot_tup_end (x1 := x1) ⟨hh, o1, v1, hs1.extBut _ _ nx (Heap.get?_push_of_some _ a1), d1, c1⟩ nx hi1 tt (by simp) fun h2 he2 => ?_))
  simp only [Option.isSome_none, Bool.false_eq_true, if_false]
  exact wpAny_pure (q h2 fun b o hb e => he2 b o hb (hs1.extBut b o hb (Heap.get?_push_of_some _ e)))
theorem hot_assign {env : Env} {elts : List Expr} {k} {pos : Pos} {Q : Unit → Shared → Prop} (hot : HotX.HotAt A x1 s.heap) (ht : IsTup s.heap t items) (hn : (assignEach elts env).length = items.size) (hst : (assignEach elts env).findIdx? (·.1) = none)
    (q : ∀ h', Heap.ExtBut s.heap.objs.size s.heap h' → wpAny (model prog w) A (assignInOrder ((assignEach elts env).map (·.2)) items.toList) Q E { s with heap := h' }) : wpAny (model prog w) A (assign (.Tuple elts k pos) env (.ref t)) Q E s := by
  rw [assign_Tuple]
  refine wpAny_bind (wpAny_standAt ?_)
  unfold unpack
  rw [hn, hst]
  exact wpAny_bind (wpAny_holding (hot_unpack hot ht q))
end
section
variable {X : Cx} {E : L2.St → XK} {tgs : List Expr} {w : List Nat} {gs : List D → Env' → Option Env'} {pos : Pos}
theorem hpg_tup {k : Nat} {t : TGs} {n : Nat} (hc : HotC X) (h : PGs X tgs t) (hn : (assignEach tgs X.env).length = n) (hst : (assignEach tgs X.env).findIdx? (·.1) = none) : PG X (.Tuple tgs k pos) (gTup X.K n t) := by
  refine ⟨fun pins s σ H v u Q I r hw => ?_⟩
  obtain ⟨a, xs, rfl, hq, hl, hw⟩ := hw
  cases r
  obtain ⟨its, rv, ht, hz⟩ := I.tuple hq
  obtain ⟨x1, hot⟩ := hc.at I
  refine hot_assign hot ht (by simp [hn, ← hl, rv.length]) hst fun h' hx => ?_
  exact h.run pins _ σ H xs _ Q (I.kept (t' := s.toks) fun b o e => hx b o (Nat.ne_of_lt (Heap.lt_size e)) e) (by simpa using rv) hw
theorem hmg_tup {k : Nat} {n : Nat} (hc : HotC X) (h : MGs X tgs w gs) (hl : ∀ ds ρ ρ', gs ds ρ = some ρ' → ds.length = n) (hn : (assignEach tgs X.env).length = n := by rfl) (hst : (assignEach tgs X.env).findIdx? (·.1) = none := by rfl) : MG X (.Tuple tgs k pos) w (gT gs) := (hpg_tup hc h hn hst).weak fun v σ H Q z => by
  obtain ⟨ρ, μ, S, d, ρ', he, ho, dd, eg, k⟩ := z
  cases dd with
  | tup h1 h2 => exact ⟨_, _, rfl, h1, by rw [h2.length]; exact hl _ _ _ eg, ρ, μ, S, _, ρ', he, ho, h2, eg, k⟩
  | _ => cases eg
end
end PyM
set_option Elab.async false
set_option linter.all false
set_option maxRecDepth 100000
set_option maxHeartbeats 3200000
namespace PyM
open PySem PySem.Spec PyProof.Rows L2 L2H

/-! ### defs called within an except suite -/
abbrev ENo : XK := fun _ _ _ => False
structure HotFn (P : Program) (w : World) (K : W.Frag) (mg : Str → Option Value) (base : Heap) (k : Nat) (f : Addr) (fd : FuncData) (ps : List Str) (sp : Sp) : Prop where
  len : ∀ vs H Q E, sp vs H Q E → vs.length = ps.length
  go : ∀ (A : Around) (outer : List Env) (s : Shared) (H : Hp) (args : Args) (us : List Value) (vs : List V) (Q : VK) (p : Addr × Obj), A.guards = some [] → RoomH k A → Hot1 A p → PinOk outer H s p → Env0 P w K mg base A outer s H →
    BindsTo s fd args (ps.zip us) → Vals vs us → sp vs H Q ENo → codeAny (model P w) A (.call (.ref f) args) (CR CX0 outer P w H s Q ENo) s
section
variable {P : Program} {w : World} {K : W.Frag} {mg : Str → Option Value} {base : Heap} {j k n : Nat} {f : Addr}
theorem HotFn.mono {fd : FuncData} {ps : List Str} {sp : Sp} (F : HotFn P w K mg base j f fd ps sp) (h : j ≤ k) : HotFn P w K mg base k f fd ps sp := ⟨F.len, fun A o s H a us vs Q p g r => F.go A o s H a us vs Q p g (r.mono h)⟩
theorem HotFn.make {x qual : Str} {st : Stmt} {fd : FuncData} {N ps : List Str} {sp : Sp} (F : Fun K x qual st f fd) (S : FnScope N ps (defScope st)) (hlen : ∀ vs H Q E, sp vs H Q E → vs.length = ps.length)
    (hb : ∀ (cdv : Value) (A : Around) (outer : List Env) (s : Shared) (H : Hp) (vs : List V) (Q : VK) (p : Addr × Obj), A.guards = some [] → Hot1 A p → RoomH k (A.deeper (envOfC qual (defScope st) s.heap.objs.size f cdv)) → sp vs H Q ENo →
      ∃ t, PSs (cxH CX0 P w K mg base N qual (defScope st) f cdv A outer s H ENo p) (defBody st) t ∧ t ⟨fun _ H' => Q .non H', Q, fun _ _ => False, fun _ _ => False⟩ (start N vs) H) : HotFn P w K mg base (k + 1) f fd ps sp := by
  obtain ⟨oc, od, kV, doc, pm, an, cdv, ct, osl, rfl, lk, hcd⟩ := F.ex
  refine ⟨hlen, fun A outer s H args us vs Q p hG hr hot hpin e0 hbind hv hs => ?_⟩
  have inK : K.In s.heap := e0.mod.kin.keeps fun b o e => (e0.bs b o e).1
  have noLim : s.heap.NoLimit := e0.mod.nolimit.keeps fun b o e => (e0.bs b o e).1
  refine codeAny_call_function hr.depth (inK _ _ lk) rfl S.co S.gen rfl (W.codeRec_of inK hcd) (hbind _ _ _ _ (wpAny_newFunctionEnv_cells S.kind ?_ ?_))
  · rintro ⟨y, v⟩ hy
    rcases S.par y (List.of_mem_zip hy).1 with q | q
    · exact Or.inl q
    · exact Or.inr ⟨q, W.cellsFrom_some _ _ _ (Or.inl q)⟩
  intro env he s1 x
  subst he
  refine ⟨noLim.keeps x.toInCall.keep, codeAny_func ?_⟩
  obtain ⟨t, ht, hq⟩ := hb cdv A outer s H vs Q p hG hot (hr.deeper _) hs
  refine wpAny_mono (ht.run [] s1 _ H _ (inv_startH (CX := CX0) (E := ENo) S hpin e0 (hlen _ _ _ _ hs) hv x) hq) ?_ (fun e s' z => z)
  intro fl s' z
  cases fl with
  | ret u => obtain ⟨v, σ', H', J, rv, q⟩ := z; exact ⟨v, H', J.os, J.bare, J.base, J.hok, rv, q⟩
  | next => obtain ⟨σ', H', J, q⟩ := z; exact ⟨.non, H', J.os, J.bare, J.base, J.hok, rfl, q⟩
  | brk => obtain ⟨_, _, _, q⟩ := z; exact (show False from q).elim
  | cont => obtain ⟨_, _, _, q⟩ := z; exact (show False from q).elim
/-- the def x keeps the mirror Fm there, and lets no exception out -/
structure DefH (P : Program) (w : World) (K : W.Frag) (mg : Str → Option Value) (base : Heap) (k : Nat) (x : Str) (n : Nat) (Fm : List D → M D) : Prop where
  ex : ∃ (f : Addr) (fd : FuncData) (ps : List Str), HotFn P w K mg base k f fd ps (spM K mg n Fm) ∧ mg x = some (.ref f) ∧ W.keepIn K (.ref f) = true ∧ Binds K fd ps []
theorem DefH.mono {x : Str} {Fm : List D → M D} (F : DefH P w K mg base j x n Fm) (h : j ≤ k) : DefH P w K mg base k x n Fm := by
  obtain ⟨f, fd, ps, F, a, b, c⟩ := F.ex
  exact ⟨f, fd, ps, F.mono h, a, b, c⟩
theorem DefH.of {x qual : Str} {st : Stmt} {fd : FuncData} {N ps : List Str} {m : MSt} (F : Fun K x qual st f fd) (S : FnScope N ps (defScope st)) (hm : mg x = some (.ref f)) (hb : Binds K fd ps [])
    (h : ∀ (cdv : Value) (A : Around) (outer : List Env) (s : Shared) (H : Hp) (p : Addr × Obj), (A.deeper (envOfC qual (defScope st) s.heap.objs.size f cdv)).guards = some [] → RoomH k (A.deeper (envOfC qual (defScope st) s.heap.objs.size f cdv)) →
      HotC (cxH CX0 P w K mg base N qual (defScope st) f cdv A outer s H ENo p) → MSs (cxH CX0 P w K mg base N qual (defScope st) f cdv A outer s H ENo p) EB (defBody st) m) : DefH P w K mg base (k + 1) x ps.length (bodyM N.length m) := by
  refine ⟨f, fd, ps, HotFn.make F S (fun vs H Q E h => h.1) (fun cdv A outer s H vs Q p hG hot hr hs => ⟨_, h cdv A outer s H p hG hr ⟨p, hot, by show p ∈ [p]; simp⟩, ?_⟩), hm, F.kp, hb⟩
  obtain ⟨hl, ds, μ, Sx, dd, ok, hp⟩ := hs
  refine ⟨_, μ, Sx, denL_env dd N, ok, ?_⟩
  unfold bodyM at hp
  cases r : m (ds.map some ++ List.replicate (N.length - ds.length) none) Sx with
  | nx ρ S' => rw [r] at hp; exact fun σ' H' μ' st o' _ => hp .non H' μ' st o' .non
  | rt d S' => rw [r] at hp; exact hp
  | bk ρ S' => rw [r] at hp; exact hp.elim
  | ct ρ S' => rw [r] at hp; exact hp.elim
  | exc ρ c fs S' => rw [r] at hp; exact fun σ' H' μ' st o' _ cls d x => hp cls d H' μ' st o' x
  | bad => rw [r] at hp; exact hp
end
section
variable {X : Cx} {E : L2.St → XK} {e : Expr} {es : List Expr} {ms : Env' → M (List D)} {pos p : Pos} {k n : Nat} {x : Str} {Fm : List D → M D}
theorem me_defH (F : DefH X.prog X.w X.K X.mg X.base k x n Fm) (hG : X.A.guards = some []) (hr : RoomH k X.A) (hc : HotC X) (ha : MA X EB (e :: es) ms) (hg : Gl X x := by rfl) (hdb : (x == ("__debug__" : Str)) = false := by decide)
    (he : starEach (e :: es) X.env = (false, eval e X.env) :: starEach es X.env := by rfl) (hpl : (backTo pos (starEach es X.env)).any (·.1) = false := by rfl) : ME X EB (.Call (.Name x p) (e :: es) [] pos) (callM n Fm ms) := by
  refine ⟨fun pins s σ H Q I h => ?_⟩
  obtain ⟨f, fd, ps, F, hm, hk, hb⟩ := F.ex
  obtain ⟨ρ, μ, S, hE, hO, h⟩ := h
  have hA : tA' X.K X.mg EB ms σ H fun vs H1 => spM X.K X.mg n Fm vs H1 Q (EB σ) := tA'.run (k := fun ds => if ds.length = n then Fm ds else M.bad) (R := fun r => PostD X.K X.mg μ H (EB σ) r Q) hE hO h (fun _ _ _ z => z) (fun z => z) fun ds S1 hds h1 vs H1 μ1 s1 o1 e1 d1 => by
    by_cases hl : ds.length = n
    · rw [if_pos hl] at h1
      exact ⟨by rw [d1.length]; exact hl, ds, μ1, S1, d1, o1, PostD.of s1 h1⟩
    · rw [if_neg hl] at h1
      exact h1.elim
  refine wpAny_Call_Name_kw (ld_glob I hg hm ?_ hdb)
  refine W.callWith_K (h₀ := X.base) I.ok.mod.kin hk (thn (ha.run pos pins s σ H _ I hA) ?_) he hpl
  intro us s1 hz
  obtain ⟨vs, H1, I1, r, q⟩ := hz
  refine ⟨I1.kIn, ?_⟩
  obtain ⟨y, hot, hy⟩ := hc
  have hbt := hb s1 us I1.kIn (by rw [List.append_nil, ← r.length]; exact F.len _ _ _ _ q)
  rw [List.append_nil] at hbt
  have P1 := I1.pin y (List.mem_append_left _ hy)
  have hpin : PinOk X.stack H1 s1 y := ⟨P1.1, P1.2.1, fun hm => (List.mem_cons.mp (I1.stkSub y.1 hm)).elim P1.2.2.1 P1.2.2.2.1, P1.2.2.2.2⟩
  refine wpAny_call (codeAny_mono (F.go X.A X.stack s1 H1 ⟨us, []⟩ us vs Q y hG hr hot hpin I1.env0 hbt r q) ?_)
  intro res s' hq
  match res, hq with
  | .error e, hq => exact (show False from hq).elim
  | .ok (.ret u), hq => exact I1.after hq
/-- repr needs room alone -/
theorem c_reprH (hG : X.A.guards = some []) (hr : RoomH k X.A) : CallR X (.builtin "repr") (rPL X.K X.mg reprP) := by
  intro pins s σ H xs us Q I r h
  obtain ⟨μ, S, ds, d, o, dl, e, q⟩ := h
  unfold reprP at e
  split at e
  · rename_i d0
    split at e
    · rename_i hd0
      split at e
      · rename_i p hp
        split at e
        · rename_i hc
          obtain rfl := Option.some.inj e
          simp only [Bool.and_eq_true, decide_eq_true_eq, Bool.not_eq_true'] at hc
          obtain ⟨⟨⟨h1, h2⟩, h3⟩, h4⟩ := hc
          obtain ⟨v, rfl, dv⟩ := den1 dl
          obtain ⟨a, rfl⟩ : ∃ a, v = .ref a := by
            cases dv with
            | tup _ _ => exact ⟨_, rfl⟩
            | lst _ _ _ _ => exact ⟨_, rfl⟩
            | loc _ => exact ⟨_, rfl⟩
            | _ => cases hd0
          rw [Vals.ref1 r]
          obtain ⟨as, ra⟩ := Dp.reads I p _ _ (py_den o d0 dv hp) rfl
          have := hr.un
          exact repr_of_reads' ra h1 (fun h' => by rw [h2] at h'; cases h') hG (by omega) (fun _ _ e => e) (fun h' u tk hk => ⟨.str p.shown, H, I.kept (t' := tk) hk, ⟨u, rfl⟩, q _ _ .refl o (.str _)⟩) h4
        · cases e
      · cases e
    · cases e
  · cases e
theorem hu64H (hr : RoomH k X.A) : X.A.units + 64 < cLine := by have := hr.un; omega
end
end PyM
set_option Elab.async false
set_option linter.all false
set_option maxRecDepth 100000
set_option maxHeartbeats 3200000
namespace PyM
open PySem PySem.Spec PyProof.Rows L2 L2H

/-! ### exceptions made where none is in hand: their context is None, so their suites may call -/
structure Made2N (h h' : Heap) (e C d t1 : Addr) (p q : Str) (v u : Value) : Prop where
  old : ∀ b o, h.get? b = some o → h'.get? b = some o
  new : h.objs.size ≤ e
  obj : h'.get? e = some { cls := .ref C, dict := some d, data := .fields #[.ref t1, .none, .none, .none, .bool false, .none] }
  big : h.objs.size ≤ d
  ne : d ≠ e
  ns : h'.Ns1 d (fun y => if y = q then some u else if y = p then some v else none)
section
open PySem.W
variable {prog : Program} {w : World} {A : Around} {R : Result → Shared → Prop} {s : Shared} {K : Frag} {mg mb : Str → Option Value} {C fI : Addr} {x : Str} {st : Stmt} {p q : Str}
theorem made2N (T : IniC prog K mg x st p q C fI) (I2 : Ini2 st p q) {v u : Value} (X : K.In s.heap) (hmg : s.heap.Ns mainGlobals mg) (hbl : s.heap.Ns builtinsNs mb) (hmb : mb "super" = some (.type "super")) (hlim : s.heap.NoLimit) (hroom : A.depth + 1 < recursionLimit)
    (hq : ∀ h' tk e d t1, Made2N s.heap h' e C d t1 p q v u → R (.ok (.ret (.ref e))) { s with heap := h', toks := tk }) : codeAny (model prog w) A (.call (.ref C) ⟨[v, u], []⟩) R s := by
  obtain ⟨nm, qn, N, bs, bm, sn, sub, ab, col, dd, k0, k1, k2, k3, k5, hC, hbm⟩ := T.oex.cls
  obtain ⟨hp, g, dr, tk, os⟩ := s
  have up : ∀ b o, hp.get? b = some o → ((hp.push (kdv_tup [v, u])).push (HandSPX.excO C hp.objs.size)).get? b = some o := fun b o z => Heap.get?_push_of_some _ (Heap.get?_push_of_some _ z)
  have there : ((hp.push (kdv_tup [v, u])).push (HandSPX.excO C hp.objs.size)).get? (hp.objs.size + 1) = some (HandSPX.excO C hp.objs.size) := by heap_get
  have notK : K.lookup (hp.objs.size + 1) = none := by
    cases z : K.lookup (hp.objs.size + 1) with
    | none => rfl
    | some o =>
      have y : hp.get? (hp.objs.size + 1) = some o := X _ _ z
      have z2 : hp.objs.size + 1 < hp.objs.size := Heap.lt_size y
      omega
  refine HandSPX.call_own F.excBase_ValueError (fun Y => HandSPX.refsVE_contains Y bm hbm) (X _ _ hC) (looks_findIn X T.iC) (fun self => bind_fn X self T.tI) (by show 2 ≤ sizeLine; rw [sizeLine_eq]; decide) ?_
  refine init2 (s := ⟨(hp.push (kdv_tup [v, u])).push (HandSPX.excO C hp.objs.size), g, dr, tk, os⟩) T I2 (X.keeps up) (hmg.keeps up) (hbl.keeps up) hmb (hlim.keeps up) there notK hroom fun h' tk' dx t1 M => ?_
  have sz : hp.objs.size + 1 + 1 ≤ dx := by
    have z := M.big
    rw [Heap.size_push, Heap.size_push] at z
    exact z
  refine ⟨rfl, hq h' tk' (hp.objs.size + 1) dx t1 ⟨fun b o z => ?_, Nat.le_succ _, M.obj, Nat.le_trans (Nat.le_trans (Nat.le_succ _) (Nat.le_succ _)) sz, M.ne, M.ns⟩⟩
  have z2 : b < hp.objs.size := Heap.lt_size z
  exact M.keep b o (Nat.ne_of_lt (Nat.lt_succ_of_lt z2)) (up b o z)
end
structure MMkN (X : Cx) (E : L2.St → XK) (e : Expr) (c : Str) (m : Env' → M (List (Str × D))) : Prop where
  ex : ∃ t, L2N.PMk X e t ∧ ∀ σ H Q ρ μ S, EnvOk X.K X.mg μ H σ ρ → Ok X.K X.mg μ H S → (match m ρ S with
    | .ok fs S' => ∀ cls d H' μ', Step μ μ' H H' → Ok X.K X.mg μ' H' S' → ExcIs X.K X.mg μ' H' cls d c fs → Q cls d H'
    | .exc c' fs S' => XP X.K X.mg μ H (E σ) c' fs S'
    | .bad => False) → t σ H Q
section
variable {X : Cx} {E : L2.St → XK} {e a b : Expr} {c x p q : Str} {m : Env' → M (List (Str × D))} {ms : Env' → M (List D)} {st : Stmt} {pn pos : Pos} {k : Nat}
theorem s_raiseN (hc : X.calm = true) (tk : L2N.Takes X (WishOf E)) (h : MMkN X E e c m) : MS X E (.Raise (some e) none pos) (raiseM c m) := by
  obtain ⟨t, h1, h2⟩ := h.ex
  refine (L2N.ps_raise (W := WishOf E) hc tk h1).weak fun D σ H z => ?_
  obtain ⟨ρ, μ, S, hE, hO, z⟩ := z
  refine h2 σ H _ ρ μ S hE hO ?_
  unfold raiseM at z
  cases r : m ρ S with
  | ok fs S' =>
    rw [r] at z
    exact fun cls d H' μ' st o' hx => z σ H' μ' st o' (hE.mono hO st) cls d hx
  | exc c' fs S' =>
    rw [r] at z
    exact fun cls d H' μ' st o' hx => z σ H' μ' st o' (hE.mono hO st) cls d hx
  | bad =>
    rw [r] at z
    exact z
theorem mk_2N (T : ∃ C fI, IniC X.prog X.K X.mg x st p q C fI) (I2 : Ini2 st p q) (hr : Room k X.A) (ha : MA X E [a, b] ms) (hg : Gl X x := by rfl) (hdb : (x == ("__debug__" : Str)) = false := by decide)
    (he : starEach [a, b] X.env = (false, eval a X.env) :: starEach [b] X.env := by rfl) (hpl : (backTo pos (starEach [b] X.env)).any (·.1) = false := by rfl) : MMkN X E (.Call (.Name x pn) [a, b] [] pos) x (two p q ms) := by
  obtain ⟨C, fI, T⟩ := T
  refine ⟨fun σ H Q => tA' X.K X.mg E ms σ H fun vs H1 => ∃ y z, vs = [y, z] ∧ ∀ d, H1 d = none → Q (.ref C) (some d) (upd H1 d (.xd [(p, y), (q, z)])), ?_, ?_⟩
  · intro pins s σ H Q I h
    refine wpAny_Call_Name_kw (ld_glob I hg T.gC ?_ hdb)
    refine W.callWith_K (h₀ := X.base) I.ok.mod.kin T.oex.kC (thn (ha.run pos pins s σ H _ I h) fun us s1 hh => ?_) he hpl
    obtain ⟨vs, H1, I1, r1, y, z, ev, q1⟩ := hh
    subst ev
    refine ⟨I1.kIn, ?_⟩
    cases r1 with
    | cons ry rn =>
    cases rn with
    | cons rz rn =>
    cases rn
    rename_i v u
    show wpAny _ _ (call (.ref C) [v, u]) _ _ _
    have hlim := I1.nolimit
    obtain ⟨mb, hb1, hb2⟩ := I1.ok.mod.blt
    have hmg := I1.ok.mod.glob.keeps I1.bk
    have hbl := hb1.keeps I1.bk
    have hmb : mb "super" = some (.type "super") := (hb2 "super" (by decide +kernel)).trans (by first | kernel_rfl | rfl)
    obtain ⟨hp, g, dr, tk, os⟩ := s1
    refine wpAny_call (made2N T I2 I1.kIn hmg hbl hmb hlim (by have := hr.dp; omega) fun h' tk' e d t1 M => ?_)
    show L2N.MkP X pins σ Q (.ref e) ⟨h', g, dr, tk', os⟩
    have hoe := M.obj
    obtain ⟨G, g1, g2⟩ := restrict h' fun b => decide (b ≠ e)
    have gk : ∀ b, b ≠ e → G.get? b = h'.get? b := fun b hb => g1 b (decide_eq_true hb)
    have ge : G.get? e = none := g2 e (by simp)
    have kept : ∀ b o, hp.get? b = some o → G.get? b = some o := fun b o z => (gk b (Nat.ne_of_lt (Nat.lt_of_lt_of_le (Heap.lt_size z) M.new))).trans (M.old b o z)
    have ob : ObjOk X.prog X.w (upd H1 d (.xd [(p, y), (q, z)])) G d (.xd [(p, y), (q, z)]) := ⟨_, M.ns.at (fun o z => (gk d M.ne).trans z), fun f => relO_2 I2.nq.2.2.1 ry rz f⟩
    have J : Inv X pins σ (upd H1 d (.xd [(p, y), (q, z)])) ⟨G, g, dr, tk', os⟩ := I1.laid (t' := tk') kept M.big ob
    refine ⟨e, _, _, ⟨G, g, dr, tk', os⟩, _, .ref C, some d, rfl, J, fun b o z => ?_, ge, hoe, ⟨rfl, rfl, fun vs ev => by cases ev; rfl⟩, rfl, rfl, ?_, rfl, I1.bare, raises_own T.oex.exC T.oex.tyC, q1 d (I1.hok.fresh M.big)⟩
    · by_cases hb : b = e
      · have z' : G.get? b = some o := z
        rw [hb, ge] at z'
        cases z'
      · exact (gk b hb).symm.trans z
    · rw [upd_ne (Ne.symm M.ne)]
      exact I1.hok.fresh M.new
  · intro σ H Q ρ μ S hE hO h
    unfold two at h
    refine tA'.run (k := fun ds => match ds with
      | [a, b] => M.pure [(p, a), (q, b)]
      | _ => M.bad) (R := fun r => match r with
      | .ok fs S' => ∀ cls d H' μ', Step μ μ' H H' → Ok X.K X.mg μ' H' S' → ExcIs X.K X.mg μ' H' cls d x fs → Q cls d H'
      | .exc c' fs S' => XP X.K X.mg μ H (E σ) c' fs S'
      | .bad => False) hE hO h (fun _ _ _ z => z) (fun z => z) fun ds S1 hds h1 vs H1 μ1 s1 o1 e1 d1 => ?_
    match ds, d1, h1 with
    | [], _, h1 => exact h1.elim
    | [_], _, h1 => exact h1.elim
    | _ :: _ :: _ :: _, _, h1 => exact h1.elim
    | [d1, d2], .cons (v := y) hy (.cons (v := z) hz .nil), h1 =>
      refine ⟨y, z, rfl, fun d hd => ?_⟩
      have fr : Step μ1 μ1 H1 (upd H1 d (.xd [(p, y), (q, z)])) := Step.fresh hd
      exact h1 (.ref C) (some d) _ μ1 (s1.trans fr) (o1.fresh hd) ⟨C, T.gC, rfl, .inr ⟨d, _, rfl, upd_same, rfl, .cons (hy.mono o1 fr) (.cons (hz.mono o1 fr) .nil)⟩⟩
end
/-! try: .. except x as n: a suite that may call -/
def tryN (sub : Str → Str → Option Bool) (mb : MSt) (h : Hd) : MSt := fun ρ S => match mb ρ S with
  | .exc ρ' c fs S' => (match sub c h.h with
    | some true => runH h 0 0 ρ' c fs S'
    | _ => .bad)
  | r => r
section
variable {X : Cx} {E : L2.St → XK} {sub : Str → Str → Option Bool} {body suite : List Stmt} {mb : MSt} {b0 : Stmt} {x n : Str} {np pos pos' : Pos} {m : Nat → Nat → Str → List Str → List D → MSt}
theorem takes_no : L2N.Takes X (fun _ _ _ _ => False) := fun u s' z => by
  obtain ⟨_, _, _, _, _, _, _, _, _, _, _, _, _, _, _, _, w⟩ := z
  exact w.elim
theorem s_tryN (i : Nat) (Sb : Subs X.K X.mg sub) (stk : X.stack = X.env :: X.outer) (fr : X.env.frame = some X.env.locals) (nd : X.N.Nodup) {Hc : Addr} (hm : X.mg x = some (.ref Hc)) (hp : Hd.Par ⟨x, some i, m⟩)
    (hb : ∀ (E' : L2.St → XK) (pins : List (Addr × Obj)) (xe : Value → Shared → Prop), L2N.Takes (X.tr pins xe) (WishOf E') → PassesOwn (model X.prog X.w) X.A X.env xe → MSs (X.tr pins xe) E' body mb)
    (hs : ∀ (a : Addr) (ob : Obj) (cls : Value) (d : Option Addr) (pins : List (Addr × Obj)) (c : Str) (dx : Nat) (fn : List Str) (ds : List D), Zc cls d ob → (∃ vs, ob.data = .fields vs) → ExK X.mg cls d c dx fn ds → HotC (X.suite a ((a, ob) :: pins)) → MSs (X.suite a ((a, ob) :: pins)) EB (b0 :: suite) (m a dx c fn ds))
    (hg : Gl X x := by rfl) (hdb : (x == ("__debug__" : Str)) = false := by decide) (hi : X.N[i]? = some n := by rfl) (hn : X.env.kindOf n = some .local := by rfl) :
    MS X E (.Try body [.ExceptHandler (some (.Name x np)) (some n) (b0 :: suite) pos'] [] [] pos) (tryN sub mb ⟨x, some i, m⟩) := by
  refine (L2N.ps_try_as (tb := fun W => tS X.K X.mg (fun σ cls d H => W cls d σ H) mb) (ts := fun a cls d D σ H => ∃ c dx fn ds, ExK X.mg cls d c dx fn ds ∧ tS X.K X.mg EB (m a dx c fn ds) D σ H) (c := .ref Hc) stk fr nd hi hn ⟨hg, hdb, .inl hm⟩ takes_no (fun W pn xe t1 t2 => hb _ pn xe t1 t2)
    (fun a oe cls d pn z hf => ⟨fun pn' s σ H D I w => ?_⟩)).weak fun D σ H h => ?_
  · obtain ⟨c, dx, fn, ds, k, w⟩ := w
    obtain ⟨vs, hd⟩ := id hf
    have hot : HotC (X.suite a ((a, oe) :: pn)) := ⟨(a, oe), ⟨rfl, vs, hd, z.2.2 vs hd⟩, List.mem_cons_self⟩
    exact (hs a oe cls d pn c dx fn ds z.zc hf k hot).run pn' s σ H D I w
  · obtain ⟨ρ, μ, S, hE, hO, h⟩ := h
    refine ⟨ρ, μ, S, hE, hO, ?_⟩
    unfold tryN at h
    cases r : mb ρ S with
    | exc ρ' c fs S' =>
      rw [r] at h
      dsimp only at h
      split at h
      · rename_i e
        intro σ' H' μ' st o' e' cls d hx
        have h := PostS.of st h
        obtain ⟨C, hC, rfl, hd⟩ := id hx
        have known : ∃ dx, ExK X.mg (.ref C) d c dx (fs.map (·.1)) (fs.map (·.2)) ∧ ∀ a, Den X.K X.mg μ' H' (.ref a) (.exo a dx c (fs.map (·.1)) (fs.map (·.2))) := by
          rcases hd with ⟨rfl, rfl⟩ | ⟨dx, fv, rfl, h1, h2, h3⟩
          · exact ⟨0, ⟨⟨C, hC, rfl⟩, .inr ⟨rfl, rfl, rfl⟩⟩, fun a => .exo0 a⟩
          · exact ⟨dx, ⟨⟨C, hC, rfl⟩, .inl rfl⟩, fun a => .exo1 a h1 h2 h3⟩
        obtain ⟨dx, hk, hden⟩ := known
        refine ⟨true, Sb c x true C Hc e hC hm, fun _ a _ => ?_, fun z => absurd z (fun y => Bool.false_ne_true y.symm)⟩
        rw [← hp a dx] at h
        exact ⟨c, dx, _, _, hk, _, μ', S', e'.set i (hden a), o', post_noExc (post_wipe h)⟩
      · exact h.elim
    | nx ρ S => rw [r] at h; exact h
    | bk ρ S => rw [r] at h; exact h
    | ct ρ S => rw [r] at h; exact h
    | rt d S => rw [r] at h; exact h
    | bad => rw [r] at h; exact h
end
end PyM
set_option Elab.async false
set_option linter.all false
set_option maxRecDepth 100000
set_option maxHeartbeats 4000000
namespace PyM
open PySem PySem.Spec PyProof.Rows L2
def clsDef (st : Stmt) (j : Nat) : Stmt := match st with
  | .ClassDef _ _ _ body _ _ _ _ _ _ _ => body.getD j (.Pass ⟨0, 0, 0, 0⟩)
  | _ => .Pass ⟨0, 0, 0, 0⟩
def top (i : Nat) : Stmt := PySem.Challenge.pw_leantill_k03_tokens_of_texts.main.body.getD i (.Pass ⟨0, 0, 0, 0⟩)
/-- a def of the text as the walk finds it -/
structure Fnd (K : W.Frag) (mg : Str → Option Value) (x : Str) (i : Nat) (ps : List Str) : Prop where
  ex : ∃ (f : Addr) (fd : FuncData), Fun K x x (top i) f fd ∧ mg x = some (.ref f) ∧ Binds K fd ps []
theorem Fnd.def {P : Program} {w : World} {K : W.Frag} {mg : Str → Option Value} {base : Heap} {x : Str} {i k n : Nat} {ps N : List Str} {m : MSt} (F : Fnd K mg x i ps) (S : FnScope N ps (defScope (top i))) (hn : ps.length = n)
    (h : ∀ (cdv : Value) (A : Around) (outer : List Env) (s : Shared) (H : Hp) (E : XK) (f : Addr), (A.deeper (envOfC x (defScope (top i)) s.heap.objs.size f cdv)).guards = some [] → Room k (A.deeper (envOfC x (defScope (top i)) s.heap.objs.size f cdv)) →
      Takes (cxOf (L2.CX P w) P w K mg base N x (defScope (top i)) f cdv A outer s H E) (WishOf fun _ => E) → PassesOwn (model P w) (A.deeper (envOfC x (defScope (top i)) s.heap.objs.size f cdv)) (envOfC x (defScope (top i)) s.heap.objs.size f cdv) (cxOf (L2.CX P w) P w K mg base N x (defScope (top i)) f cdv A outer s H E).xe →
      MSs (cxOf (L2.CX P w) P w K mg base N x (defScope (top i)) f cdv A outer s H E) (fun _ => E) (defBody (top i)) m) : Def P w K mg base (L2.CX P w) (k + 1) x n (bodyM N.length m) := by
  obtain ⟨f, fd, F, hm, hb⟩ := F.ex
  subst hn
  exact Def.of F S hm hb fun cdv A outer s H E hG hr => h cdv A outer s H E f hG hr (takes_of rfl rfl rfl rfl) (passes_of rfl)
theorem Fnd.defT {P : Program} {w : World} {K : W.Frag} {mg : Str → Option Value} {base : Heap} {x p0 : Str} {i k : Nat} {ps N : List Str} {m : MSt} (F : Fnd K mg x i (p0 :: ps)) (S : FnScope N (p0 :: ps) (defScope (top i))) (hnc : ((defScope (top i)).names.all fun y => !decide (y.2 = .cell)) = true)
    (h : ∀ (cdv : Value) (A : Around) (outer : List Env) (s : Shared) (H : Hp) (E : XK) (f : Addr), (A.deeper (envOfC x (defScope (top i)) s.heap.objs.size f cdv)).guards = some [] → Room k (A.deeper (envOfC x (defScope (top i)) s.heap.objs.size f cdv)) →
      Takes (cxOf (L2.CX P w) P w K mg base N x (defScope (top i)) f cdv A outer s H E) (WishOf fun _ => E) → PassesOwn (model P w) (A.deeper (envOfC x (defScope (top i)) s.heap.objs.size f cdv)) (envOfC x (defScope (top i)) s.heap.objs.size f cdv) (cxOf (L2.CX P w) P w K mg base N x (defScope (top i)) f cdv A outer s H E).xe →
      MSsT (cxOf (L2.CX P w) P w K mg base N x (defScope (top i)) f cdv A outer s H E) (fun _ => E) (defBody (top i)) m) : Def P w K mg base (L2.CX P w) (k + 1) x (ps.length + 1) (bodyM N.length m) := by
  obtain ⟨f, fd, F, hm, hb⟩ := F.ex
  refine Def.ofT F S hm hb (fun y hy => ?_) fun cdv A outer s H E hG hr => h cdv A outer s H E f hG hr (takes_of rfl rfl rfl rfl) (passes_of rfl)
  have := List.all_eq_true.mp hnc y hy
  simpa using this
theorem Fnd.bad {P : Program} {w : World} {K : W.Frag} {mg : Str → Option Value} {base : Heap} {x : Str} {i n : Nat} {ps : List Str} (F : Fnd K mg x i ps) (k : Nat) (hn : ps.length = n) : Def P w K mg base (L2.CX P w) k x n (fun _ => M.bad) := by
  obtain ⟨f, fd, F, hm, hb⟩ := F.ex
  subst hn
  refine ⟨f, fd, ps, ⟨fun vs H Q E h => h.1, fun A outer s H args us vs Q E _ _ _ _ _ h => ?_⟩, hm, F.kp, hb⟩
  obtain ⟨_, ds, μ, S, _, _, z⟩ := h
  exact z.elim
theorem hu64 {k : Nat} {A : Around} (hr : Room k A) : A.units + 64 < cLine := by have := hr.un; omega
theorem hu64m {k : Nat} {A : Around} {h : Option Value} (hr : Room k A) : (A.mark h).units + 64 < cLine := by
  have := hr.un
  show A.units + 64 < cLine
  omega
theorem hu1 {k : Nat} {A : Around} (hr : Room k A) : A.units + 1 < cLine := by have := hr.un; omega
def c_LETTERS : D := (.str "abcdefghijklmnopqrstuvwxyz")
def c_DIGITS : D := (.str "0123456789")
def c_MOST_LETTERS : D := (.int 8)
def c_RESERVED : D := (.tup [(.str "barred"), (.str "deed"), (.str "down"), (.str "each"), (.str "else"), (.str "ends"), (.str "from"), (.str "full"), (.str "greatest"), (.str "half"), (.str "if"), (.str "is"), (.str "least"), (.str "less"), (.str "money"), (.str "packs"), (.str "plus"), (.str "reaches"), (.str "share"), (.str "shown"), (.str "standing"), (.str "then"), (.str "to"), (.str "until"), (.str "up")])
def c_MOST_SIGNS : D := (.int 6000)
def c_MOST_ASKED : D := (.int 40)
def c_MARKS : D := (.str "(),")
def subT : Str → Str → Option Bool := fun c h => if c = "Nothing" ∧ h = "Nothing" then some true else if c = "Nothing" ∧ h = "TooLarge" then some false else if c = "TooLarge" ∧ h = "Nothing" then some false else if c = "TooLarge" ∧ h = "TooLarge" then some true else none
def flT : Str → Str → Bool := fun c f => decide (c = "TooLarge" ∧ f = "what") || decide (c = "TooLarge" ∧ f = "limit")
theorem ini_TooLarge : Ini2 (clsDef (top 4) 0) "what" "limit" := ⟨⟨_, _, _, rfl⟩, ⟨_, _, _, _, _, _, _, _, _, _, _, _, _, _, _, rfl, by intro _; rfl⟩, rfl, by intros; rfl, by decide +kernel, by decide +kernel⟩
structure Txt (P : Program) (K : W.Frag) (mg : Str → Option Value) : Prop where
  b_abs : mg "abs" = none
  b_all : mg "all" = none
  b_bool : mg "bool" = none
  b_int : mg "int" = none
  b_isinstance : mg "isinstance" = none
  b_len : mg "len" = none
  b_list : mg "list" = none
  b_max : mg "max" = none
  b_min : mg "min" = none
  b_range : mg "range" = none
  b_repr : mg "repr" = none
  b_sorted : mg "sorted" = none
  b_str : mg "str" = none
  b_tuple : mg "tuple" = none
  c_DIGITS : Con K mg "DIGITS" c_DIGITS
  c_LETTERS : Con K mg "LETTERS" c_LETTERS
  c_MARKS : Con K mg "MARKS" c_MARKS
  c_MOST_ASKED : Con K mg "MOST_ASKED" c_MOST_ASKED
  c_MOST_LETTERS : Con K mg "MOST_LETTERS" c_MOST_LETTERS
  c_MOST_SIGNS : Con K mg "MOST_SIGNS" c_MOST_SIGNS
  c_RESERVED : Con K mg "RESERVED" c_RESERVED
  g_Nothing : ∃ C, mg "Nothing" = some (.ref C)
  x_Nothing : Cls0 K mg "Nothing"
  g_TooLarge : ∃ C, mg "TooLarge" = some (.ref C)
  x_TooLarge : ∃ C fI, IniC P K mg "TooLarge" (clsDef (top 4) 0) "what" "limit" C fI
  sub : Subs K mg subT
  fl : Flds K mg flT
section
variable {P : Program} {w : World} {K : W.Frag} {mg : Str → Option Value} {base : Heap}
abbrev N_is_number : List Str := ["thing"]
theorem nd_is_number : (N_is_number).Nodup := by decide +kernel
theorem sc_is_number : FnScope N_is_number ["thing"] (defScope (top 10)) := ⟨rfl, rfl, rfl, nd_is_number, rfl, by decide +kernel, by decide +kernel⟩
noncomputable def m_is_number : List D → M D := bodyM 1 (retM (andV (bltM isiP (consM (varM 0) (consM (cM (.ty "int")) nilM))) (notV (bltM isiP (consM (varM 0) (consM (cM (.ty "bool")) nilM))))))
theorem d_is_number (T : Txt P K mg) (F : Fnd K mg "is_number" 10 ["thing"]) : Def P w K mg base (L2.CX P w) 1 "is_number" 1 m_is_number := by
  refine F.def sc_is_number rfl fun cdv A outer s H E f hG hr tk pw => ?_
  exact (s_one (s_ret (me_and (me_blt (id := "isinstance") c_isi T.b_isinstance PyProof.Rows.boot_isinstance (a_cons (e_var 0) (a_cons (e_ty (T := "int") T.b_int PyProof.Rows.boot_int) a_nil))) (me_one (me_not (me_blt (id := "isinstance") c_isi T.b_isinstance PyProof.Rows.boot_isinstance (a_cons (e_var 0) (a_cons (e_ty (T := "bool") T.b_bool PyProof.Rows.boot_bool) a_nil))))))))
abbrev N_is_index : List Str := ["thing"]
theorem nd_is_index : (N_is_index).Nodup := by decide +kernel
theorem sc_is_index : FnScope N_is_index ["thing"] (defScope (top 11)) := ⟨rfl, rfl, rfl, nd_is_index, rfl, by decide +kernel, by decide +kernel⟩
noncomputable def m_is_index : List D → M D := bodyM 1 (retM (andV (callM 1 m_is_number (consM (varM 0) nilM)) (bin2 geP (varM 0) (cM (.int 0)))))
theorem d_is_index (T : Txt P K mg) (F : Fnd K mg "is_index" 11 ["thing"]) (D_is_number : Def P w K mg base (L2.CX P w) 1 "is_number" 1 m_is_number) : Def P w K mg base (L2.CX P w) 2 "is_index" 1 m_is_index := by
  refine F.def sc_is_index rfl fun cdv A outer s H E f hG hr tk pw => ?_
  exact (s_one (s_ret (me_and (me_def D_is_number hG hr (fun σ => passAt tk σ) (a_cons (e_var 0) a_nil)) (me_one (me_cmp r_ge (e_var 0) e_int)))))
abbrev N_is_name : List Str := ["thing", "sign"]
theorem nd_is_name : (N_is_name).Nodup := by decide +kernel
theorem sc_is_name : FnScope N_is_name ["thing"] (defScope (top 12)) := ⟨rfl, rfl, rfl, nd_is_name, rfl, by decide +kernel, by decide +kernel⟩
noncomputable def m_is_name : List D → M D := bodyM 2 (seqM (ifM (orM (notT (tV (bltM isiP (consM (varM 0) (consM (cM (.ty "str")) nilM))))) (orM (notT (tV (chain2 leP leP (cM (.int 1)) (bltM lenP (consM (varM 0) nilM)) (cM c_MOST_LETTERS)))) (tV (bin2 ninP (bin2 ixP (varM 0) (cM (.int 0))) (cM c_LETTERS)))))
  (retM (cM (.bl false)))
  nilS)
  (retM (andV (bin2 ninP (varM 0) (cM c_RESERVED)) (bltM allP (consM (lcM (seqI (varM 0)) (gN 1) yesT (bin2 inP (varM 1) (bin2 addP (cM c_LETTERS) (cM c_DIGITS))) [1]) nilM)))))
theorem d_is_name (T : Txt P K mg) (F : Fnd K mg "is_name" 12 ["thing"]) : Def P w K mg base (L2.CX P w) 1 "is_name" 1 m_is_name := by
  refine F.def sc_is_name rfl fun cdv A outer s H E f hG hr tk pw => ?_
  exact (s_cons (s_if (mt_bool (mw_or (t_not (t_val (me_blt (id := "isinstance") c_isi T.b_isinstance PyProof.Rows.boot_isinstance (a_cons (e_var 0) (a_cons (e_ty (T := "str") T.b_str PyProof.Rows.boot_str) a_nil))))) (mw_or (t_not (t_chain r_le r_le e_int (me_blt (id := "len") c_len T.b_len boot_len (a_cons (e_var 0) a_nil)) (e_con T.c_MOST_LETTERS))) (mw_or1 (t_cmp r_nin (me_ix (e_var 0) e_int) (e_con T.c_LETTERS))))))
  (s_one (s_ret e_bl))
  s_nil)
  (s_one (s_ret (me_and (me_cmp r_nin (e_var 0) (e_con T.c_RESERVED)) (me_one (me_blt (id := "all") (c_all rfl) T.b_all PyProof.Rows.boot_all (a_cons (me_lc [("sign", 1)] rfl nd_is_name (i_seq (e_var 0)) (blkOk_by (N := N_is_name) (sc := defScope (top 12)) (by decide +kernel)) (fun _ _ _ _ _ => (mg_name 1 nd_is_name)) (fun _ _ _ _ _ => ts_nil) (fun _ _ _ _ _ => (me_cmp r_in (e_var 1) (me_bin r_add (e_con T.c_LETTERS) (e_con T.c_DIGITS))))) a_nil)))))))
abbrev N_end_of_run : List Str := ["text", "begin", "end"]
theorem nd_end_of_run : (N_end_of_run).Nodup := by decide +kernel
theorem sc_end_of_run : FnScope N_end_of_run ["text", "begin"] (defScope (top 17)) := ⟨rfl, rfl, rfl, nd_end_of_run, rfl, by decide +kernel, by decide +kernel⟩
noncomputable def m_end_of_run : List D → M D := bodyM 3 (seqM (setM 2 (varM 1))
  (seqM (whileM (andM (tV (bin2 ltP (varM 2) (bltM lenP (consM (varM 0) nilM)))) (tV (bin2 inP (bin2 ixP (varM 0) (varM 2)) (bin2 addP (cM c_LETTERS) (cM c_DIGITS)))))
  (setM 2 (bin2 addP (varM 2) (cM (.int 1)))))
  (retM (varM 2))))
theorem d_end_of_run (T : Txt P K mg) (F : Fnd K mg "end_of_run" 17 ["text", "begin"]) : Def P w K mg base (L2.CX P w) 1 "end_of_run" 2 m_end_of_run := by
  refine F.def sc_end_of_run rfl fun cdv A outer s H E f hG hr tk pw => ?_
  exact (s_cons (s_set 2 nd_end_of_run (e_var 1))
  (s_cons (s_while pw (mt_bool (mw_and (t_cmp r_lt (e_var 2) (me_blt (id := "len") c_len T.b_len boot_len (a_cons (e_var 0) a_nil))) (mw_and1 (t_cmp r_in (me_ix (e_var 0) (e_var 2)) (me_bin r_add (e_con T.c_LETTERS) (e_con T.c_DIGITS))))))
  (s_one (s_set 2 nd_end_of_run (me_bin r_add (e_var 2) e_int))))
  (s_one (s_ret (e_var 2)))))
abbrev N_is_figures : List Str := ["run", "most", "sign"]
theorem nd_is_figures : (N_is_figures).Nodup := by decide +kernel
theorem sc_is_figures : FnScope N_is_figures ["run", "most"] (defScope (top 18)) := ⟨rfl, rfl, rfl, nd_is_figures, rfl, by decide +kernel, by decide +kernel⟩
noncomputable def m_is_figures : List D → M D := bodyM 3 (seqM (ifM (orM (notT (tV (bltM allP (consM (lcM (seqI (varM 0)) (gN 2) yesT (bin2 inP (varM 2) (cM c_DIGITS)) [2]) nilM)))) (notT (tV (chain2 leP leP (cM (.int 1)) (bltM lenP (consM (varM 0) nilM)) (varM 1)))))
  (retM (cM (.bl false)))
  nilS)
  (retM (orV (bin2 eqP (varM 0) (cM (.str "0"))) (bin2 neP (bin2 ixP (varM 0) (cM (.int 0))) (cM (.str "0"))))))
theorem d_is_figures (T : Txt P K mg) (F : Fnd K mg "is_figures" 18 ["run", "most"]) : Def P w K mg base (L2.CX P w) 1 "is_figures" 2 m_is_figures := by
  refine F.def sc_is_figures rfl fun cdv A outer s H E f hG hr tk pw => ?_
  exact (s_cons (s_if (mt_bool (mw_or (t_not (t_val (me_blt (id := "all") (c_all rfl) T.b_all PyProof.Rows.boot_all (a_cons (me_lc [("sign", 2)] rfl nd_is_figures (i_seq (e_var 0)) (blkOk_by (N := N_is_figures) (sc := defScope (top 18)) (by decide +kernel)) (fun _ _ _ _ _ => (mg_name 2 nd_is_figures)) (fun _ _ _ _ _ => ts_nil) (fun _ _ _ _ _ => (me_cmp r_in (e_var 2) (e_con T.c_DIGITS)))) a_nil)))) (mw_or1 (t_not (t_chain r_le r_le e_int (me_blt (id := "len") c_len T.b_len boot_len (a_cons (e_var 0) a_nil)) (e_var 1))))))
  (s_one (s_ret e_bl))
  s_nil)
  (s_one (s_ret (me_or (me_cmp (r_eq (hu64 hr)) (e_var 0) e_str) (me_one (me_cmp (r_ne (hu64 hr)) (me_ix (e_var 0) e_int) e_str))))))
abbrev N_run_token : List Str := ["run", "most"]
theorem nd_run_token : (N_run_token).Nodup := by decide +kernel
theorem sc_run_token : FnScope N_run_token ["run", "most"] (defScope (top 19)) := ⟨rfl, rfl, rfl, nd_run_token, rfl, by decide +kernel, by decide +kernel⟩
noncomputable def m_run_token : List D → M D := bodyM 2 (seqM (ifM (tV (bin2 inP (varM 0) (cM c_RESERVED)))
  (retM (tupM (consM (cM (.str "key")) (consM (varM 0) nilM))))
  nilS)
  (seqM (ifM (tV (callM 1 m_is_name (consM (varM 0) nilM)))
  (retM (tupM (consM (cM (.str "name")) (consM (varM 0) nilM))))
  nilS)
  (retM (ifV (tV (callM 2 m_is_figures (consM (varM 0) (consM (varM 1) nilM)))) (tupM (consM (cM (.str "number")) (consM (bltM intP2 (consM (varM 0) nilM)) nilM))) (tupM (consM (cM (.str "bad")) (consM (cM (.str "")) nilM)))))))
theorem d_run_token (T : Txt P K mg) (F : Fnd K mg "run_token" 19 ["run", "most"]) (D_is_name : Def P w K mg base (L2.CX P w) 1 "is_name" 1 m_is_name) (D_is_figures : Def P w K mg base (L2.CX P w) 1 "is_figures" 2 m_is_figures) : Def P w K mg base (L2.CX P w) 2 "run_token" 2 m_run_token := by
  refine F.def sc_run_token rfl fun cdv A outer s H E f hG hr tk pw => ?_
  exact (s_cons (s_if (t_cmp r_in (e_var 0) (e_con T.c_RESERVED))
  (s_one (s_ret (me_tup (a_cons e_str (a_cons (e_var 0) a_nil)))))
  s_nil)
  (s_cons (s_if (t_val (me_def D_is_name hG hr (fun σ => passAt tk σ) (a_cons (e_var 0) a_nil)))
  (s_one (s_ret (me_tup (a_cons e_str (a_cons (e_var 0) a_nil)))))
  s_nil)
  (s_one (s_ret (e_if (t_val (me_def D_is_figures hG hr (fun σ => passAt tk σ) (a_cons (e_var 0) (a_cons (e_var 1) a_nil)))) (me_tup (a_cons e_str (a_cons (me_bty (T := "int") c_int2 T.b_int PyProof.Rows.boot_int (a_cons (e_var 0) a_nil)) a_nil))) (me_tup (a_cons e_str (a_cons e_str a_nil))))))))
abbrev N_token_at : List Str := ["text", "begin", "most", "end", "run"]
theorem nd_token_at : (N_token_at).Nodup := by decide +kernel
theorem sc_token_at : FnScope N_token_at ["text", "begin", "most"] (defScope (top 20)) := ⟨rfl, rfl, rfl, nd_token_at, rfl, by decide +kernel, by decide +kernel⟩
noncomputable def m_token_at : List D → M D := bodyM 5 (seqM (ifM (tV (bin2 eqP (bin2 ixP (varM 0) (varM 1)) (cM (.str "
"))))
  (retM (tupM (consM (cM (.str "line")) (consM (cM (.str "")) (consM (bin2 addP (varM 1) (cM (.int 1))) nilM)))))
  nilS)
  (seqM (ifM (tV (bin2 inP (bin2 ixP (varM 0) (varM 1)) (cM c_MARKS)))
  (retM (tupM (consM (cM (.str "mark")) (consM (bin2 ixP (varM 0) (varM 1)) (consM (bin2 addP (varM 1) (cM (.int 1))) nilM)))))
  nilS)
  (seqM (ifM (tV (bin2 eqP (bin2 ixP (varM 0) (varM 1)) (cM (.str "-"))))
  (seqM (setM 3 (callM 2 m_end_of_run (consM (varM 0) (consM (bin2 addP (varM 1) (cM (.int 1))) nilM))))
  (seqM (setM 4 (slM (varM 0) (opP (bin2 addP (varM 1) (cM (.int 1)))) (opP (varM 3))))
  (retM (ifV (andM (tV (callM 2 m_is_figures (consM (varM 4) (consM (varM 2) nilM)))) (tV (bin2 neP (varM 4) (cM (.str "0"))))) (tupM (consM (cM (.str "below")) (consM (bin2 subP (cM (.int 0)) (bltM intP2 (consM (varM 4) nilM))) (consM (varM 3) nilM)))) (tupM (consM (cM (.str "bad")) (consM (cM (.str "")) (consM (varM 1) nilM))))))))
  nilS)
  (seqM (setM 3 (callM 2 m_end_of_run (consM (varM 0) (consM (varM 1) nilM))))
  (retM (ifV (tV (bin2 gtP (varM 3) (varM 1))) (bin2 addP (callM 2 m_run_token (consM (slM (varM 0) (opP (varM 1)) (opP (varM 3))) (consM (varM 2) nilM))) (tupM (consM (varM 3) nilM))) (tupM (consM (cM (.str "bad")) (consM (cM (.str "")) (consM (varM 1) nilM))))))))))
theorem d_token_at (T : Txt P K mg) (F : Fnd K mg "token_at" 20 ["text", "begin", "most"]) (D_end_of_run : Def P w K mg base (L2.CX P w) 1 "end_of_run" 2 m_end_of_run) (D_is_figures : Def P w K mg base (L2.CX P w) 1 "is_figures" 2 m_is_figures) (D_run_token : Def P w K mg base (L2.CX P w) 2 "run_token" 2 m_run_token) : Def P w K mg base (L2.CX P w) 3 "token_at" 3 m_token_at := by
  have D_end_of_run := D_end_of_run.mono (by decide : 1 ≤ 2)
  have D_is_figures := D_is_figures.mono (by decide : 1 ≤ 2)
  refine F.def sc_token_at rfl fun cdv A outer s H E f hG hr tk pw => ?_
  exact (s_cons (s_if (t_cmp (r_eq (hu64 hr)) (me_ix (e_var 0) (e_var 1)) e_str)
  (s_one (s_ret (me_tup (a_cons e_str (a_cons e_str (a_cons (me_bin r_add (e_var 1) e_int) a_nil))))))
  s_nil)
  (s_cons (s_if (t_cmp r_in (me_ix (e_var 0) (e_var 1)) (e_con T.c_MARKS))
  (s_one (s_ret (me_tup (a_cons e_str (a_cons (me_ix (e_var 0) (e_var 1)) (a_cons (me_bin r_add (e_var 1) e_int) a_nil))))))
  s_nil)
  (s_cons (s_if (t_cmp (r_eq (hu64 hr)) (me_ix (e_var 0) (e_var 1)) e_str)
  (s_cons (s_set 3 nd_token_at (me_def D_end_of_run hG hr (fun σ => passAt tk σ) (a_cons (e_var 0) (a_cons (me_bin r_add (e_var 1) e_int) a_nil))))
  (s_cons (s_set 4 nd_token_at (me_slice (e_var 0) (o_some (me_bin r_add (e_var 1) e_int)) (o_some (e_var 3))))
  (s_one (s_ret (e_if (mt_bool (mw_and (t_val (me_def D_is_figures hG hr (fun σ => passAt tk σ) (a_cons (e_var 4) (a_cons (e_var 2) a_nil)))) (mw_and1 (t_cmp (r_ne (hu64 hr)) (e_var 4) e_str)))) (me_tup (a_cons e_str (a_cons (me_bin r_sub e_int (me_bty (T := "int") c_int2 T.b_int PyProof.Rows.boot_int (a_cons (e_var 4) a_nil))) (a_cons (e_var 3) a_nil)))) (me_tup (a_cons e_str (a_cons e_str (a_cons (e_var 1) a_nil)))))))))
  s_nil)
  (s_cons (s_set 3 nd_token_at (me_def D_end_of_run hG hr (fun σ => passAt tk σ) (a_cons (e_var 0) (a_cons (e_var 1) a_nil))))
  (s_one (s_ret (e_if (t_cmp r_gt (e_var 3) (e_var 1)) (me_bin r_add (me_def D_run_token hG hr (fun σ => passAt tk σ) (a_cons (me_slice (e_var 0) (o_some (e_var 1)) (o_some (e_var 3))) (a_cons (e_var 2) a_nil))) (me_tup (a_cons (e_var 3) a_nil))) (me_tup (a_cons e_str (a_cons e_str (a_cons (e_var 1) a_nil)))))))))))
abbrev N_scanned : List Str := ["text", "most", "found", "at", "line", "first", "word", "content", "end"]
theorem nd_scanned : (N_scanned).Nodup := by decide +kernel
theorem sc_scanned : FnScope N_scanned ["text", "most"] (defScope (top 21)) := ⟨rfl, rfl, rfl, nd_scanned, rfl, by decide +kernel, by decide +kernel⟩
noncomputable def m_scanned : List D → M D := bodyM 9 (seqM (setM 2 (cellM nilM))
  (seqM (asgM (gT (gs1 (gN 3) (gs1 (gN 4) (gs1 (gN 5) gs0)))) (tupM (consM (cM (.int 0)) (consM (cM (.int 1)) (consM (cM (.int 0)) nilM)))))
  (seqM (whileM (tV (bin2 ltP (varM 3) (bltM lenP (consM (varM 0) nilM))))
  (ifM (tV (bin2 eqP (bin2 ixP (varM 0) (varM 3)) (cM (.str " "))))
  (setM 3 (bin2 addP (varM 3) (cM (.int 1))))
  (seqM (asgM (gT (gs1 (gN 6) (gs1 (gN 7) (gs1 (gN 8) gs0)))) (callM 3 m_token_at (consM (varM 0) (consM (varM 3) (consM (varM 1) nilM)))))
  (seqM (exprM (methM "list" appendP (varM 2) (consM (tupM (consM (varM 6) (consM (varM 7) (consM (varM 4) (consM (bin2 addP (bin2 subP (varM 3) (varM 5)) (cM (.int 1))) nilM))))) nilM)))
  (seqM (ifM (tV (bin2 eqP (varM 6) (cM (.str "bad"))))
  (retM (bltM tupleP (consM (varM 2) nilM)))
  nilS)
  (seqM (setM 3 (varM 8))
  (ifM (tV (bin2 eqP (varM 6) (cM (.str "line"))))
  (parM 4 5 (consM (bin2 addP (varM 4) (cM (.int 1))) (consM (varM 8) nilM)))
  nilS)))))))
  (seqM (exprM (methM "list" appendP (varM 2) (consM (tupM (consM (cM (.str "end")) (consM (cM (.str "")) (consM (varM 4) (consM (bin2 addP (bin2 subP (varM 3) (varM 5)) (cM (.int 1))) nilM))))) nilM)))
  (retM (bltM tupleP (consM (varM 2) nilM)))))))
theorem d_scanned (T : Txt P K mg) (F : Fnd K mg "scanned" 21 ["text", "most"]) (D_token_at : Def P w K mg base (L2.CX P w) 3 "token_at" 3 m_token_at) : Def P w K mg base (L2.CX P w) 4 "scanned" 2 m_scanned := by
  refine F.def sc_scanned rfl fun cdv A outer s H E f hG hr tk pw => ?_
  exact (s_cons (s_set 2 nd_scanned (e_cell a_nil))
  (s_cons (s_asg (me_tup (a_cons e_int (a_cons e_int (a_cons e_int a_nil)))) (mg_tup rfl (mgs_cons (mg_name 3 nd_scanned) (mgs_cons (mg_name 4 nd_scanned) (mgs_cons (mg_name 5 nd_scanned) mgs_nil))) (gs_len 2 (gs_len 1 (gs_len 0 gs0_len)))))
  (s_cons (s_while pw (t_cmp r_lt (e_var 3) (me_blt (id := "len") c_len T.b_len boot_len (a_cons (e_var 0) a_nil)))
  (s_one (s_if (t_cmp (r_eq (hu64 hr)) (me_ix (e_var 0) (e_var 3)) e_str)
  (s_one (s_set 3 nd_scanned (me_bin r_add (e_var 3) e_int)))
  (s_cons (s_asg (me_def D_token_at hG hr (fun σ => passAt tk σ) (a_cons (e_var 0) (a_cons (e_var 3) (a_cons (e_var 1) a_nil)))) (mg_tup rfl (mgs_cons (mg_name 6 nd_scanned) (mgs_cons (mg_name 7 nd_scanned) (mgs_cons (mg_name 8 nd_scanned) mgs_nil))) (gs_len 2 (gs_len 1 (gs_len 0 gs0_len)))))
  (s_cons (s_expr (me_meth PySem.F.plainAttrs_list PySem.F.slot_list_append PySem.F.type_list_append m_append (e_var 2) (a_cons (me_tup (a_cons (e_var 6) (a_cons (e_var 7) (a_cons (e_var 4) (a_cons (me_bin r_add (me_bin r_sub (e_var 3) (e_var 5)) e_int) a_nil))))) a_nil)))
  (s_cons (s_if (t_cmp (r_eq (hu64 hr)) (e_var 6) e_str)
  (s_one (s_ret (me_bty (T := "tuple") c_tuple T.b_tuple PyProof.Rows.boot_tuple (a_cons (e_var 2) a_nil))))
  s_nil)
  (s_cons (s_set 3 nd_scanned (e_var 8))
  (s_one (s_if (t_cmp (r_eq (hu64 hr)) (e_var 6) e_str)
  (s_one (s_par 4 5 rfl nd_scanned (a_cons (me_bin r_add (e_var 4) e_int) (a_cons (e_var 8) a_nil))))
  s_nil)))))))))
  (s_cons (s_expr (me_meth PySem.F.plainAttrs_list PySem.F.slot_list_append PySem.F.type_list_append m_append (e_var 2) (a_cons (me_tup (a_cons e_str (a_cons e_str (a_cons (e_var 4) (a_cons (me_bin r_add (me_bin r_sub (e_var 3) (e_var 5)) e_int) a_nil))))) a_nil)))
  (s_one (s_ret (me_bty (T := "tuple") c_tuple T.b_tuple PyProof.Rows.boot_tuple (a_cons (e_var 2) a_nil))))))))
abbrev N_tokens : List Str := ["text", "figures"]
theorem nd_tokens : (N_tokens).Nodup := by decide +kernel
theorem sc_tokens : FnScope N_tokens ["text", "figures"] (defScope (top 22)) := ⟨rfl, rfl, rfl, nd_tokens, rfl, by decide +kernel, by decide +kernel⟩
noncomputable def m_tokens : List D → M D := bodyM 2 (seqM (ifM (orM (notT (tV (bltM isiP (consM (varM 0) (consM (cM (.ty "str")) nilM))))) (orM (notT (tV (callM 1 m_is_index (consM (varM 1) nilM)))) (tV (bin2 gtP (varM 1) (cM c_MOST_ASKED)))))
  (raiseM "Nothing" (fun _ => M.pure []))
  nilS)
  (seqM (ifM (tV (bin2 gtP (bltM lenP (consM (varM 0) nilM)) (cM c_MOST_SIGNS)))
  (raiseM "TooLarge" (two "what" "limit" (consM (cM (.str "signs")) (consM (cM c_MOST_SIGNS) nilM))))
  nilS)
  (retM (callM 2 m_scanned (consM (varM 0) (consM (varM 1) nilM))))))
theorem d_tokens (T : Txt P K mg) (F : Fnd K mg "tokens" 22 ["text", "figures"]) (D_is_index : Def P w K mg base (L2.CX P w) 2 "is_index" 1 m_is_index) (D_scanned : Def P w K mg base (L2.CX P w) 4 "scanned" 2 m_scanned) : Def P w K mg base (L2.CX P w) 5 "tokens" 2 m_tokens := by
  have D_is_index := D_is_index.mono (by decide : 2 ≤ 4)
  refine F.def sc_tokens rfl fun cdv A outer s H E f hG hr tk pw => ?_
  obtain ⟨a_Nothing, g_Nothing⟩ := T.g_Nothing
  obtain ⟨a_TooLarge, g_TooLarge⟩ := T.g_TooLarge
  exact (s_cons (s_if (mt_bool (mw_or (t_not (t_val (me_blt (id := "isinstance") c_isi T.b_isinstance PyProof.Rows.boot_isinstance (a_cons (e_var 0) (a_cons (e_ty (T := "str") T.b_str PyProof.Rows.boot_str) a_nil))))) (mw_or (t_not (t_val (me_def D_is_index hG hr (fun σ => passAt tk σ) (a_cons (e_var 1) a_nil)))) (mw_or1 (t_cmp r_gt (e_var 1) (e_con T.c_MOST_ASKED))))))
  (s_one (s_raise rfl tk (mk_0 T.x_Nothing)))
  s_nil)
  (s_cons (s_if (t_cmp r_gt (me_blt (id := "len") c_len T.b_len boot_len (a_cons (e_var 0) a_nil)) (e_con T.c_MOST_SIGNS))
  (s_one (s_raise rfl tk (mk_2 T.x_TooLarge ini_TooLarge hr (a_cons e_str (a_cons (e_con T.c_MOST_SIGNS) a_nil)))))
  s_nil)
  (s_one (s_ret (me_def D_scanned hG hr (fun σ => passAt tk σ) (a_cons (e_var 0) (a_cons (e_var 1) a_nil)))))))
abbrev N__law_bag : List Str := ["script", "cell"]
theorem nd__law_bag : (N__law_bag).Nodup := by decide +kernel
theorem sc__law_bag : FnScope N__law_bag ["script"] (defScope (top 24)) := ⟨rfl, rfl, rfl, nd__law_bag, rfl, by decide +kernel, by decide +kernel⟩
noncomputable def m__law_bag : List D → M D := bodyM 2 (retM (cellM (consM (cM (.int 0)) (consM (cM (.int 1234567891)) (consM (cM (.int 0)) (consM (lcM (seqI (slM (varM 0) noP (opP (cM (.int 63))))) (gN 1) yesT (bltM absP (consM (varM 1) nilM)) [1]) nilM))))))
theorem d__law_bag (T : Txt P K mg) (F : Fnd K mg "_law_bag" 24 ["script"]) : Def P w K mg base (L2.CX P w) 1 "_law_bag" 1 m__law_bag := by
  refine F.def sc__law_bag rfl fun cdv A outer s H E f hG hr tk pw => ?_
  exact (s_one (s_ret (e_cell (a_cons e_int (a_cons e_int (a_cons e_int (a_cons (me_lc [("cell", 1)] rfl nd__law_bag (i_seq (me_slice (e_var 0) o_none (o_some e_int))) (blkOk_by (N := N__law_bag) (sc := defScope (top 24)) (by decide +kernel)) (fun _ _ _ _ _ => (mg_name 1 nd__law_bag)) (fun _ _ _ _ _ => ts_nil) (fun _ _ _ _ _ => (me_blt (id := "abs") c_abs T.b_abs PyProof.Rows.boot_abs (a_cons (e_var 1) a_nil)))) a_nil)))))))
abbrev N__law_take : List Str := ["bag", "many", "begin", "second", "cell", "stirred", "value"]
theorem nd__law_take : (N__law_take).Nodup := by decide +kernel
theorem sc__law_take : FnScope N__law_take ["bag", "many"] (defScope (top 25)) := ⟨rfl, rfl, rfl, nd__law_take, rfl, by decide +kernel, by decide +kernel⟩
noncomputable def m__law_take : List D → M D := bodyM 7 (seqM (ifM (tV (bin2 eqP (bin2 ixP (varM 0) (cM (.int 0))) (cM (.int 0))))
  (seqM (setM 4 (bin2 ixP (bin2 addP (slM (bin2 ixP (varM 0) (cM (.int 3))) (opP (bin2 ixP (varM 0) (cM (.int 2)))) noP) (lstM (consM (cM (.int 0)) nilM))) (cM (.int 0))))
  (seqM (augM (varM 0) (cM (.int 2)) (cM (.int 1)))
  (seqM (ifM (tV (bin2 geP (varM 4) (bin2 powP (cM (.int 10)) (cM (.int 18)))))
  (putM (varM 0) (cM (.int 0)) (varM 4))
  nilS)
  (seqM (setM 5 (bin2 addP (bin2 addP (bin2 mulP (bin2 ixP (varM 0) (cM (.int 1))) (cM (.int 48271))) (bin2 modP (bltM intP (consM (varM 4) nilM)) (cM (.int 2147483647)))) (bin2 mulP (cM (.int 7919)) (bin2 ixP (varM 0) (cM (.int 2))))))
  (putM (varM 0) (cM (.int 1)) (bin2 modP (bltM intP (consM (varM 5) nilM)) (cM (.int 2147483647))))))))
  nilS)
  (seqM (ifM (tV (bin2 gtP (bin2 ixP (varM 0) (cM (.int 0))) (cM (.int 0))))
  (seqM (setM 6 (bin2 modP (bltM intP (consM (bin2 ixP (varM 0) (cM (.int 0))) nilM)) (varM 1)))
  (seqM (putM (varM 0) (cM (.int 0)) (bin2 divP (bltM intP (consM (bin2 ixP (varM 0) (cM (.int 0))) nilM)) (varM 1)))
  (retM (varM 6))))
  nilS)
  (seqM (setM 2 (bin2 modP (bltM intP (consM (bin2 mulP (bin2 addP (bin2 ixP (varM 0) (cM (.int 1))) (cM (.int 1))) (cM (.int 39373))) nilM)) (cM (.int 1000000007))))
  (seqM (setM 3 (bin2 modP (bltM intP (consM (bin2 mulP (bin2 modP (bltM intP (consM (bin2 mulP (varM 2) (varM 2)) nilM)) (cM (.int 998244353))) (cM (.int 30011))) nilM)) (cM (.int 998244353))))
  (retM (bin2 modP (bltM intP (consM (bin2 divP (varM 3) (cM (.int 7))) nilM)) (varM 1)))))))
theorem d__law_take (T : Txt P K mg) (F : Fnd K mg "_law_take" 25 ["bag", "many"]) : Def P w K mg base (L2.CX P w) 1 "_law_take" 2 m__law_take := by
  refine F.def sc__law_take rfl fun cdv A outer s H E f hG hr tk pw => ?_
  exact (s_cons (s_if (t_cmp (r_eq (hu64 hr)) (me_ix (e_var 0) e_int) e_int)
  (s_cons (s_set 4 nd__law_take (me_ix (me_bin r_add (me_slice (me_ix (e_var 0) e_int) (o_some (me_ix (e_var 0) e_int)) o_none) (me_lst (a_cons e_int a_nil))) e_int))
  (s_cons (s_aug (e_var 0) e_int e_int)
  (s_cons (s_if (t_cmp r_ge (e_var 4) (me_bin r_pow e_int e_int))
  (s_one (s_put (e_var 0) e_int (e_var 4)))
  s_nil)
  (s_cons (s_set 5 nd__law_take (me_bin r_add (me_bin r_add (me_bin r_mul (me_ix (e_var 0) e_int) e_int) (me_bin r_mod (me_bty (T := "int") c_int T.b_int PyProof.Rows.boot_int (a_cons (e_var 4) a_nil)) e_int)) (me_bin r_mul e_int (me_ix (e_var 0) e_int))))
  (s_one (s_put (e_var 0) e_int (me_bin r_mod (me_bty (T := "int") c_int T.b_int PyProof.Rows.boot_int (a_cons (e_var 5) a_nil)) e_int)))))))
  s_nil)
  (s_cons (s_if (t_cmp r_gt (me_ix (e_var 0) e_int) e_int)
  (s_cons (s_set 6 nd__law_take (me_bin r_mod (me_bty (T := "int") c_int T.b_int PyProof.Rows.boot_int (a_cons (me_ix (e_var 0) e_int) a_nil)) (e_var 1)))
  (s_cons (s_put (e_var 0) e_int (me_bin r_div (me_bty (T := "int") c_int T.b_int PyProof.Rows.boot_int (a_cons (me_ix (e_var 0) e_int) a_nil)) (e_var 1)))
  (s_one (s_ret (e_var 6)))))
  s_nil)
  (s_cons (s_set 2 nd__law_take (me_bin r_mod (me_bty (T := "int") c_int T.b_int PyProof.Rows.boot_int (a_cons (me_bin r_mul (me_bin r_add (me_ix (e_var 0) e_int) e_int) e_int) a_nil)) e_int))
  (s_cons (s_set 3 nd__law_take (me_bin r_mod (me_bty (T := "int") c_int T.b_int PyProof.Rows.boot_int (a_cons (me_bin r_mul (me_bin r_mod (me_bty (T := "int") c_int T.b_int PyProof.Rows.boot_int (a_cons (me_bin r_mul (e_var 2) (e_var 2)) a_nil)) e_int) e_int) a_nil)) e_int))
  (s_one (s_ret (me_bin r_mod (me_bty (T := "int") c_int T.b_int PyProof.Rows.boot_int (a_cons (me_bin r_div (e_var 3) e_int) a_nil)) (e_var 1))))))))
abbrev N__law_loose : List Str := ["bag", "text", "found", "line", "feed", "sign"]
theorem nd__law_loose : (N__law_loose).Nodup := by decide +kernel
theorem sc__law_loose : FnScope N__law_loose ["bag", "text"] (defScope (top 26)) := ⟨rfl, rfl, rfl, nd__law_loose, rfl, by decide +kernel, by decide +kernel⟩
noncomputable def m__law_loose : List D → M D := bodyM 6 (seqM (setM 2 (cM (.str "")))
  (seqM (forM (seqI (methM "str" splitP (varM 1) (consM (cM (.str "
")) nilM))) (gN 3)
  (seqM (forM (rngI1 (consM (bin2 divP (callM 2 m__law_take (consM (varM 0) (consM (cM (.int 3)) nilM))) (cM (.int 2))) nilM)) (gN 4)
  (setM 2 (bin2 addP (bin2 addP (varM 2) (bin2 mulP2 (cM (.str " ")) (callM 2 m__law_take (consM (varM 0) (consM (cM (.int 3)) nilM))))) (cM (.str "
")))))
  (seqM (forM (seqI (varM 3)) (gN 5)
  (seqM (setM 2 (bin2 addP (varM 2) (ifV (tV (bin2 neP (varM 5) (cM (.str " ")))) (varM 5) (bin2 mulP2 (cM (.str " ")) (bin2 addP (cM (.int 1)) (callM 2 m__law_take (consM (varM 0) (consM (cM (.int 2)) nilM))))))))
  (setM 2 (bin2 addP (varM 2) (ifV (andM (tV (bin2 inP (varM 5) (cM (.str "(),")))) (tV (bin2 eqP (callM 2 m__law_take (consM (varM 0) (consM (cM (.int 2)) nilM))) (cM (.int 0))))) (cM (.str " ")) (cM (.str "")))))))
  (setM 2 (bin2 addP (varM 2) (cM (.str "
")))))))
  (retM (ifV (tV (bin2 eqP (callM 2 m__law_take (consM (varM 0) (consM (cM (.int 2)) nilM))) (cM (.int 0)))) (varM 2) (slM (varM 2) noP (opP (un1 negP (cM (.int 1)))))))))
theorem d__law_loose (T : Txt P K mg) (F : Fnd K mg "_law_loose" 26 ["bag", "text"]) (D__law_take : Def P w K mg base (L2.CX P w) 1 "_law_take" 2 m__law_take) : Def P w K mg base (L2.CX P w) 2 "_law_loose" 2 m__law_loose := by
  refine F.def sc__law_loose rfl fun cdv A outer s H E f hG hr tk pw => ?_
  exact (s_cons (s_set 2 nd__law_loose e_str)
  (s_cons (ms_for pw rfl (i_seq (me_meth PySem.F.plainAttrs_str PySem.F.slot_str_split PySem.F.type_str_split m_split (e_var 1) (a_cons e_str a_nil))) (mg_name 3 nd__law_loose)
  (s_cons (ms_for pw rfl (i_rng1 (a_cons (me_bin r_div (me_def D__law_take hG hr (fun σ => passAt tk σ) (a_cons (e_var 0) (a_cons e_int a_nil))) e_int) a_nil) T.b_range) (mg_name 4 nd__law_loose)
  (s_one (s_set 2 nd__law_loose (me_bin r_add (me_bin r_add (e_var 2) (me_bin r_mul2 e_str (me_def D__law_take hG hr (fun σ => passAt tk σ) (a_cons (e_var 0) (a_cons e_int a_nil))))) e_str))))
  (s_cons (ms_for pw rfl (i_seq (e_var 3)) (mg_name 5 nd__law_loose)
  (s_cons (s_set 2 nd__law_loose (me_bin r_add (e_var 2) (e_if (t_cmp (r_ne (hu64 hr)) (e_var 5) e_str) (e_var 5) (me_bin r_mul2 e_str (me_bin r_add e_int (me_def D__law_take hG hr (fun σ => passAt tk σ) (a_cons (e_var 0) (a_cons e_int a_nil))))))))
  (s_one (s_set 2 nd__law_loose (me_bin r_add (e_var 2) (e_if (mt_bool (mw_and (t_cmp r_in (e_var 5) e_str) (mw_and1 (t_cmp (r_eq (hu64 hr)) (me_def D__law_take hG hr (fun σ => passAt tk σ) (a_cons (e_var 0) (a_cons e_int a_nil))) e_int)))) e_str e_str))))))
  (s_one (s_set 2 nd__law_loose (me_bin r_add (e_var 2) e_str))))))
  (s_one (s_ret (e_if (t_cmp (r_eq (hu64 hr)) (me_def D__law_take hG hr (fun σ => passAt tk σ) (a_cons (e_var 0) (a_cons e_int a_nil))) e_int) (e_var 2) (me_slice (e_var 2) o_none (o_some (me_un r_neg e_int))))))))
abbrev N__law_part_text : List Str := ["price", "told"]
theorem nd__law_part_text : (N__law_part_text).Nodup := by decide +kernel
theorem sc__law_part_text : FnScope N__law_part_text ["price"] (defScope (top 27)) := ⟨rfl, rfl, rfl, nd__law_part_text, rfl, by decide +kernel, by decide +kernel⟩
noncomputable def m__law_part_text (f1 : List D → M D) : List D → M D := bodyM 2 (seqM (setM 1 (callM 1 f1 (consM (varM 0) nilM)))
  (retM (ifV (tV (bin2 inP (bin2 ixP (varM 0) (cM (.int 0))) (tupM (consM (cM (.str "plus")) (consM (cM (.str "less")) (consM (cM (.str "least")) (consM (cM (.str "greatest")) nilM))))))) (bin2 addP (bin2 addP (cM (.str "(")) (varM 1)) (cM (.str ")"))) (varM 1))))
theorem d__law_part_text (T : Txt P K mg) (F : Fnd K mg "_law_part_text" 27 ["price"]) (j : Nat) (hj : 0 ≤ j) {f1 : List D → M D} (D__law_price_text : Def P w K mg base (L2.CX P w) j "_law_price_text" 1 f1) : Def P w K mg base (L2.CX P w) (j + 1) "_law_part_text" 1 (m__law_part_text f1) := by
  have D__law_price_text := D__law_price_text.mono (show j ≤ j + 0 by omega)
  refine Def.mono (j := j + 0 + 1) (F.def sc__law_part_text rfl fun cdv A outer s H E f hG hr tk pw => ?_) (by omega)
  exact (s_cons (s_set 1 nd__law_part_text (me_def D__law_price_text hG hr (fun σ => passAt tk σ) (a_cons (e_var 0) a_nil)))
  (s_one (s_ret (e_if (t_cmp r_in (me_ix (e_var 0) e_int) (me_tup (a_cons e_str (a_cons e_str (a_cons e_str (a_cons e_str a_nil)))))) (me_bin r_add (me_bin r_add e_str (e_var 1)) e_str) (e_var 1)))))
abbrev N__law_price_text : List Str := ["price", "word", "words", "at", "one"]
theorem nd__law_price_text : (N__law_price_text).Nodup := by decide +kernel
theorem sc__law_price_text : FnScope N__law_price_text ["price"] (defScope (top 28)) := ⟨rfl, rfl, rfl, nd__law_price_text, rfl, by decide +kernel, by decide +kernel⟩
noncomputable def m__law_price_text : Nat → List D → M D
  | 0 => fun _ => M.bad
  | n + 1 => bodyM 5 (seqM (setM 1 (bin2 ixP (varM 0) (cM (.int 0))))
  (seqM (ifM (tV (bin2 eqP (varM 1) (cM (.str "barred"))))
  (retM (varM 1))
  nilS)
  (seqM (ifM (tV (bin2 inP (varM 1) (tupM (consM (cM (.str "money")) (consM (cM (.str "each")) (consM (cM (.str "packs")) (consM (cM (.str "full")) nilM)))))))
  (retM (bin2 addP (varM 1) (methM "str" joinP (cM (.str "")) (consM (lcM (seqI (slM (varM 0) (opP (cM (.int 1))) noP)) (gN 4) yesT (bin2 addP (cM (.str " ")) (bltM strTP (consM (varM 4) nilM))) [4]) nilM))))
  nilS)
  (seqM (ifM (tV (bin2 inP (varM 1) (tupM (consM (cM (.str "plus")) (consM (cM (.str "less")) (consM (cM (.str "least")) (consM (cM (.str "greatest")) nilM)))))))
  (retM (bin2 addP (bin2 addP (bin2 addP (bin2 addP (callM 1 (m__law_price_text n) (consM (bin2 ixP (varM 0) (cM (.int 1))) nilM)) (cM (.str " "))) (varM 1)) (cM (.str " "))) (callM 1 (m__law_part_text (m__law_price_text n)) (consM (bin2 ixP (varM 0) (cM (.int 2))) nilM))))
  nilS)
  (seqM (ifM (tV (bin2 eqP (varM 1) (cM (.str "from"))))
  (retM (bin2 addP (bin2 addP (bin2 addP (bin2 addP (bin2 addP (cM (.str "until ")) (bltM strTP (consM (bin2 ixP (varM 0) (cM (.int 1))) nilM))) (cM (.str " "))) (callM 1 (m__law_part_text (m__law_price_text n)) (consM (bin2 ixP (varM 0) (cM (.int 2))) nilM))) (cM (.str " then "))) (callM 1 (m__law_part_text (m__law_price_text n)) (consM (bin2 ixP (varM 0) (cM (.int 3))) nilM))))
  nilS)
  (seqM (ifM (tV (bin2 eqP (varM 1) (cM (.str "share"))))
  (retM (bin2 addP (bin2 addP (bin2 addP (bin2 addP (bin2 addP (bin2 addP (bin2 addP (cM (.str "share ")) (bltM strTP (consM (bin2 ixP (varM 0) (cM (.int 2))) nilM))) (cM (.str " "))) (bltM strTP (consM (bin2 ixP (varM 0) (cM (.int 3))) nilM))) (cM (.str " "))) (bin2 ixP (varM 0) (cM (.int 4)))) (cM (.str " "))) (callM 1 (m__law_part_text (m__law_price_text n)) (consM (bin2 ixP (varM 0) (cM (.int 1))) nilM))))
  nilS)
  (seqM (setM 2 (lcM (seqI (tupM (consM (cM (.int 1)) (consM (cM (.int 3)) (consM (cM (.int 4)) nilM))))) (gN 3) yesT (callM 1 (m__law_part_text (m__law_price_text n)) (consM (bin2 ixP (varM 0) (varM 3)) nilM)) [3]))
  (retM (bin2 addP (bin2 addP (bin2 addP (bin2 addP (bin2 addP (bin2 addP (bin2 addP (cM (.str "if ")) (bin2 ixP (varM 2) (cM (.int 0)))) (cM (.str " reaches "))) (bltM strTP (consM (bin2 ixP (varM 0) (cM (.int 2))) nilM))) (cM (.str " then "))) (bin2 ixP (varM 2) (cM (.int 1)))) (cM (.str " else "))) (bin2 ixP (varM 2) (cM (.int 2))))))))))))
theorem d__law_price_text (T : Txt P K mg) (F : Fnd K mg "_law_price_text" 28 ["price"]) (F__law_part_text : Fnd K mg "_law_part_text" 27 ["price"]) : ∀ n, Def P w K mg base (L2.CX P w) (0 + 2 * n) "_law_price_text" 1 (m__law_price_text n)
  | 0 => F.bad _ rfl
  | n + 1 => by
      have D__law_price_text := d__law_price_text T F F__law_part_text  n
      have D__law_part_text := d__law_part_text T F__law_part_text  (0 + 2 * n) (by omega) D__law_price_text 
      have D__law_part_text := D__law_part_text.mono (show 0 + 2 * n + 1 ≤ 0 + 2 * n + 1 by omega)
      have D__law_price_text := D__law_price_text.mono (show 0 + 2 * n ≤ 0 + 2 * n + 1 by omega)
      refine Def.mono (j := 0 + 2 * n + 1 + 1) (F.def sc__law_price_text rfl fun cdv A outer s H E f hG hr tk pw => ?_) (by omega)
      exact (s_cons (s_set 1 nd__law_price_text (me_ix (e_var 0) e_int))
  (s_cons (s_if (t_cmp (r_eq (hu64 hr)) (e_var 1) e_str)
  (s_one (s_ret (e_var 1)))
  s_nil)
  (s_cons (s_if (t_cmp r_in (e_var 1) (me_tup (a_cons e_str (a_cons e_str (a_cons e_str (a_cons e_str a_nil))))))
  (s_one (s_ret (me_bin r_add (e_var 1) (me_meth PySem.F.plainAttrs_str PySem.F.slot_str_join PySem.F.type_str_join m_join e_str (a_cons (me_lc [("one", 4)] rfl nd__law_price_text (i_seq (me_slice (e_var 0) (o_some e_int) o_none)) (blkOk_by (N := N__law_price_text) (sc := defScope (top 28)) (by decide +kernel)) (fun _ _ _ _ _ => (mg_name 4 nd__law_price_text)) (fun _ _ _ _ _ => ts_nil) (fun _ _ _ _ _ => (me_bin r_add e_str (me_bty (T := "str") c_str T.b_str PyProof.Rows.boot_str (a_cons (e_var 4) a_nil))))) a_nil)))))
  s_nil)
  (s_cons (s_if (t_cmp r_in (e_var 1) (me_tup (a_cons e_str (a_cons e_str (a_cons e_str (a_cons e_str a_nil))))))
  (s_one (s_ret (me_bin r_add (me_bin r_add (me_bin r_add (me_bin r_add (me_def D__law_price_text hG hr (fun σ => passAt tk σ) (a_cons (me_ix (e_var 0) e_int) a_nil)) e_str) (e_var 1)) e_str) (me_def D__law_part_text hG hr (fun σ => passAt tk σ) (a_cons (me_ix (e_var 0) e_int) a_nil)))))
  s_nil)
  (s_cons (s_if (t_cmp (r_eq (hu64 hr)) (e_var 1) e_str)
  (s_one (s_ret (me_bin r_add (me_bin r_add (me_bin r_add (me_bin r_add (me_bin r_add e_str (me_bty (T := "str") c_str T.b_str PyProof.Rows.boot_str (a_cons (me_ix (e_var 0) e_int) a_nil))) e_str) (me_def D__law_part_text hG hr (fun σ => passAt tk σ) (a_cons (me_ix (e_var 0) e_int) a_nil))) e_str) (me_def D__law_part_text hG hr (fun σ => passAt tk σ) (a_cons (me_ix (e_var 0) e_int) a_nil)))))
  s_nil)
  (s_cons (s_if (t_cmp (r_eq (hu64 hr)) (e_var 1) e_str)
  (s_one (s_ret (me_bin r_add (me_bin r_add (me_bin r_add (me_bin r_add (me_bin r_add (me_bin r_add (me_bin r_add e_str (me_bty (T := "str") c_str T.b_str PyProof.Rows.boot_str (a_cons (me_ix (e_var 0) e_int) a_nil))) e_str) (me_bty (T := "str") c_str T.b_str PyProof.Rows.boot_str (a_cons (me_ix (e_var 0) e_int) a_nil))) e_str) (me_ix (e_var 0) e_int)) e_str) (me_def D__law_part_text hG hr (fun σ => passAt tk σ) (a_cons (me_ix (e_var 0) e_int) a_nil)))))
  s_nil)
  (s_cons (s_setlc 2 [("at", 3)] rfl nd__law_price_text (i_seq (me_tup (a_cons e_int (a_cons e_int (a_cons e_int a_nil))))) (blkOk_by (N := N__law_price_text) (sc := defScope (top 28)) (by decide +kernel)) (fun _ _ _ _ _ => (mg_name 3 nd__law_price_text)) (fun _ _ _ _ _ => ts_nil) (fun _ _ _ _ _ => (me_def D__law_part_text hG hr (fun σ => passAt (W := fun _ _ _ _ => False) takes0 σ) (a_cons (me_ix (e_var 0) (e_var 3)) a_nil))))
  (s_one (s_ret (me_bin r_add (me_bin r_add (me_bin r_add (me_bin r_add (me_bin r_add (me_bin r_add (me_bin r_add e_str (me_ix (e_var 2) e_int)) e_str) (me_bty (T := "str") c_str T.b_str PyProof.Rows.boot_str (a_cons (me_ix (e_var 0) e_int) a_nil))) e_str) (me_ix (e_var 2) e_int)) e_str) (me_ix (e_var 2) e_int)))))))))))
abbrev N__law_shop_text : List Str := ["shop", "lines", "name", "begin", "end", "price"]
theorem nd__law_shop_text : (N__law_shop_text).Nodup := by decide +kernel
theorem sc__law_shop_text : FnScope N__law_shop_text ["shop"] (defScope (top 29)) := ⟨rfl, rfl, rfl, nd__law_shop_text, rfl, by decide +kernel, by decide +kernel⟩
noncomputable def m__law_shop_text : List D → M D := bodyM 6 (seqM (setM 1 (lstM (consM (bin2 addP (cM (.str "standing ")) (methM "str" joinP (cM (.str ", ")) (consM (bin2 ixP (varM 0) (cM (.int 0))) nilM))) (consM (bin2 addP (cM (.str "ends ")) (methM "str" joinP (cM (.str ", ")) (consM (bin2 ixP (varM 0) (cM (.int 1))) nilM))) nilM))))
  (seqM (setM 1 (bin2 addP (varM 1) (lcM (seqI (bin2 ixP (varM 0) (cM (.int 2)))) (gT (gs1 (gN 2) (gs1 (gN 3) (gs1 (gN 4) (gs1 (gN 5) gs0))))) yesT (bin2 addP (bin2 addP (bin2 addP (bin2 addP (bin2 addP (bin2 addP (bin2 addP (cM (.str "deed ")) (varM 2)) (cM (.str " from "))) (varM 3)) (cM (.str " to "))) (varM 4)) (cM (.str " is "))) (callM 1 (m__law_price_text 20) (consM (varM 5) nilM))) [2, 3, 4, 5])))
  (retM (methM "str" joinP (cM (.str "
")) (consM (bin2 addP (varM 1) (ifV (tV (bin2 isnP (bin2 ixP (varM 0) (cM (.int 3))) (cM .non))) (lstM (consM (bin2 addP (cM (.str "shown ")) (bin2 ixP (varM 0) (cM (.int 3)))) nilM)) (lstM nilM))) nilM)))))
theorem d__law_shop_text (T : Txt P K mg) (F : Fnd K mg "_law_shop_text" 29 ["shop"]) (D__law_price_text : Def P w K mg base (L2.CX P w) 40 "_law_price_text" 1 (m__law_price_text 20)) : Def P w K mg base (L2.CX P w) 41 "_law_shop_text" 1 m__law_shop_text := by
  refine F.def sc__law_shop_text rfl fun cdv A outer s H E f hG hr tk pw => ?_
  exact (s_cons (s_set 1 nd__law_shop_text (me_lst (a_cons (me_bin r_add e_str (me_meth PySem.F.plainAttrs_str PySem.F.slot_str_join PySem.F.type_str_join m_join e_str (a_cons (me_ix (e_var 0) e_int) a_nil))) (a_cons (me_bin r_add e_str (me_meth PySem.F.plainAttrs_str PySem.F.slot_str_join PySem.F.type_str_join m_join e_str (a_cons (me_ix (e_var 0) e_int) a_nil))) a_nil))))
  (s_cons (s_set 1 nd__law_shop_text (me_bin r_add (e_var 1) (me_lc [("name", 2), ("begin", 3), ("end", 4), ("price", 5)] rfl nd__law_shop_text (i_seq (me_ix (e_var 0) e_int)) (blkOk_by (N := N__law_shop_text) (sc := defScope (top 29)) (by decide +kernel)) (fun _ _ _ _ _ => (mg_tup rfl (mgs_cons (mg_name 2 nd__law_shop_text) (mgs_cons (mg_name 3 nd__law_shop_text) (mgs_cons (mg_name 4 nd__law_shop_text) (mgs_cons (mg_name 5 nd__law_shop_text) mgs_nil)))) (gs_len 3 (gs_len 2 (gs_len 1 (gs_len 0 gs0_len)))))) (fun _ _ _ _ _ => ts_nil) (fun _ _ _ _ _ => (me_bin r_add (me_bin r_add (me_bin r_add (me_bin r_add (me_bin r_add (me_bin r_add (me_bin r_add e_str (e_var 2)) e_str) (e_var 3)) e_str) (e_var 4)) e_str) (me_def D__law_price_text hG hr (fun σ => passAt (W := fun _ _ _ _ => False) takes0 σ) (a_cons (e_var 5) a_nil)))))))
  (s_one (s_ret (me_meth PySem.F.plainAttrs_str PySem.F.slot_str_join PySem.F.type_str_join m_join e_str (a_cons (me_bin r_add (e_var 1) (e_if (t_cmp r_isn (me_ix (e_var 0) e_int) e_non) (me_lst (a_cons (me_bin r_add e_str (me_ix (e_var 0) e_int)) a_nil)) (me_lst a_nil))) a_nil))))))
abbrev N__law_mixed : List Str := ["bag", "things", "found", "thing"]
theorem nd__law_mixed : (N__law_mixed).Nodup := by decide +kernel
theorem sc__law_mixed : FnScope N__law_mixed ["bag", "things"] (defScope (top 30)) := ⟨rfl, rfl, rfl, nd__law_mixed, rfl, by decide +kernel, by decide +kernel⟩
noncomputable def m__law_mixed : List D → M D := bodyM 4 (seqM (setM 2 (cellM nilM))
  (seqM (forM (seqI (varM 1)) (gN 3)
  (exprM (methM "list" insertP (varM 2) (consM (callM 2 m__law_take (consM (varM 0) (consM (bin2 addP (bltM lenP (consM (varM 2) nilM)) (cM (.int 1))) nilM))) (consM (varM 3) nilM)))))
  (retM (varM 2))))
theorem d__law_mixed (T : Txt P K mg) (F : Fnd K mg "_law_mixed" 30 ["bag", "things"]) (D__law_take : Def P w K mg base (L2.CX P w) 1 "_law_take" 2 m__law_take) : Def P w K mg base (L2.CX P w) 2 "_law_mixed" 2 m__law_mixed := by
  refine F.def sc__law_mixed rfl fun cdv A outer s H E f hG hr tk pw => ?_
  exact (s_cons (s_set 2 nd__law_mixed (e_cell a_nil))
  (s_cons (ms_for pw rfl (i_seq (e_var 1)) (mg_name 3 nd__law_mixed)
  (s_one (s_expr (me_meth PySem.F.plainAttrs_list PySem.F.slot_list_insert ty_list_insert m_insert (e_var 2) (a_cons (me_def D__law_take hG hr (fun σ => passAt tk σ) (a_cons (e_var 0) (a_cons (me_bin r_add (me_blt (id := "len") c_len T.b_len boot_len (a_cons (e_var 2) a_nil)) e_int) a_nil))) (a_cons (e_var 3) a_nil))))))
  (s_one (s_ret (e_var 2)))))
abbrev N__law_some : List Str := ["bag", "things"]
theorem nd__law_some : (N__law_some).Nodup := by decide +kernel
theorem sc__law_some : FnScope N__law_some ["bag", "things"] (defScope (top 31)) := ⟨rfl, rfl, rfl, nd__law_some, rfl, by decide +kernel, by decide +kernel⟩
noncomputable def m__law_some : List D → M D := bodyM 2 (retM (bin2 ixP (varM 1) (callM 2 m__law_take (consM (varM 0) (consM (bltM lenP (consM (varM 1) nilM)) nilM)))))
theorem d__law_some (T : Txt P K mg) (F : Fnd K mg "_law_some" 31 ["bag", "things"]) (D__law_take : Def P w K mg base (L2.CX P w) 1 "_law_take" 2 m__law_take) : Def P w K mg base (L2.CX P w) 2 "_law_some" 2 m__law_some := by
  refine F.def sc__law_some rfl fun cdv A outer s H E f hG hr tk pw => ?_
  exact (s_one (s_ret (me_ix (e_var 1) (me_def D__law_take hG hr (fun σ => passAt tk σ) (a_cons (e_var 0) (a_cons (me_blt (id := "len") c_len T.b_len boot_len (a_cons (e_var 1) a_nil)) a_nil))))))
abbrev N__law_big_price : List Str := ["bag", "deep", "way", "one", "other"]
theorem nd__law_big_price : (N__law_big_price).Nodup := by decide +kernel
theorem sc__law_big_price : FnScope N__law_big_price ["bag", "deep"] (defScope (top 32)) := ⟨rfl, rfl, rfl, nd__law_big_price, rfl, by decide +kernel, by decide +kernel⟩
noncomputable def m__law_big_price : Nat → List D → M D
  | 0 => fun _ => M.bad
  | n + 1 => bodyM 5 (seqM (setM 2 (ifV (tV (bin2 gtP (varM 1) (cM (.int 0)))) (callM 2 m__law_take (consM (varM 0) (consM (cM (.int 11)) nilM))) (callM 2 m__law_take (consM (varM 0) (consM (cM (.int 5)) nilM)))))
  (seqM (ifM (tV (bin2 ltP (varM 2) (cM (.int 2))))
  (retM (tupM (consM (callM 2 m__law_some (consM (varM 0) (consM (lstM (consM (cM (.str "money")) (consM (cM (.str "each")) nilM))) nilM))) (consM (callM 2 m__law_some (consM (varM 0) (consM (lstM (consM (cM (.int 0)) (consM (cM (.int 7)) (consM (un1 negP (cM (.int 12))) (consM (cM (.int 1000000)) (consM (un1 negP (cM (.int 1000000))) (consM (cM (.int 45)) nilM))))))) nilM))) nilM))))
  nilS)
  (seqM (ifM (tV (bin2 ltP (varM 2) (cM (.int 4))))
  (retM (tupM (consM (callM 2 m__law_some (consM (varM 0) (consM (lstM (consM (cM (.str "packs")) (consM (cM (.str "full")) nilM))) nilM))) (consM (callM 2 m__law_some (consM (varM 0) (consM (lstM (consM (cM (.int 2)) (consM (cM (.int 6)) (consM (cM (.int 60)) nilM)))) nilM))) (consM (callM 2 m__law_some (consM (varM 0) (consM (lstM (consM (cM (.int 3)) (consM (un1 negP (cM (.int 4))) (consM (cM (.int 99)) nilM)))) nilM))) nilM)))))
  nilS)
  (seqM (ifM (tV (bin2 eqP (varM 2) (cM (.int 4))))
  (retM (tupM (consM (cM (.str "barred")) nilM)))
  nilS)
  (seqM (parM 3 4 (consM (callM 2 (m__law_big_price n) (consM (varM 0) (consM (bin2 subP (varM 1) (cM (.int 1))) nilM))) (consM (callM 2 (m__law_big_price n) (consM (varM 0) (consM (bin2 subP (varM 1) (cM (.int 1))) nilM))) nilM)))
  (seqM (ifM (tV (bin2 eqP (varM 2) (cM (.int 5))))
  (retM (tupM (consM (cM (.str "from")) (consM (callM 2 m__law_some (consM (varM 0) (consM (lstM (consM (cM (.int 1)) (consM (cM (.int 12)) (consM (cM (.int 200)) nilM)))) nilM))) (consM (varM 3) (consM (varM 4) nilM))))))
  nilS)
  (seqM (ifM (tV (bin2 eqP (varM 2) (cM (.int 6))))
  (retM (tupM (consM (cM (.str "share")) (consM (varM 3) (consM (callM 2 m__law_some (consM (varM 0) (consM (lstM (consM (cM (.int 0)) (consM (cM (.int 19)) (consM (cM (.int 999)) nilM)))) nilM))) (consM (callM 2 m__law_some (consM (varM 0) (consM (lstM (consM (cM (.int 1)) (consM (cM (.int 100)) (consM (cM (.int 1000)) nilM)))) nilM))) (consM (callM 2 m__law_some (consM (varM 0) (consM (lstM (consM (cM (.str "down")) (consM (cM (.str "half")) (consM (cM (.str "up")) nilM)))) nilM))) nilM)))))))
  nilS)
  (seqM (ifM (tV (bin2 eqP (varM 2) (cM (.int 7))))
  (retM (tupM (consM (cM (.str "above")) (consM (varM 3) (consM (callM 2 m__law_some (consM (varM 0) (consM (lstM (consM (un1 negP (cM (.int 5))) (consM (cM (.int 0)) (consM (cM (.int 100)) nilM)))) nilM))) (consM (varM 4) (consM (callM 2 (m__law_big_price n) (consM (varM 0) (consM (bin2 subP (varM 1) (cM (.int 1))) nilM))) nilM)))))))
  nilS)
  (retM (tupM (consM (callM 2 m__law_some (consM (varM 0) (consM (lstM (consM (cM (.str "plus")) (consM (cM (.str "less")) (consM (cM (.str "least")) (consM (cM (.str "greatest")) nilM))))) nilM))) (consM (varM 3) (consM (varM 4) nilM)))))))))))))
theorem d__law_big_price (T : Txt P K mg) (F : Fnd K mg "_law_big_price" 32 ["bag", "deep"]) (D__law_take : Def P w K mg base (L2.CX P w) 1 "_law_take" 2 m__law_take) (D__law_some : Def P w K mg base (L2.CX P w) 2 "_law_some" 2 m__law_some) : ∀ n, Def P w K mg base (L2.CX P w) (2 + n) "_law_big_price" 2 (m__law_big_price n)
  | 0 => F.bad _ rfl
  | n + 1 => by
      have D__law_big_price := d__law_big_price T F D__law_take D__law_some n
      have D__law_take := D__law_take.mono (Nat.le_trans (by decide : 1 ≤ 2) (Nat.le_add_right 2 n))
      have D__law_some := D__law_some.mono (Nat.le_trans (by decide : 2 ≤ 2) (Nat.le_add_right 2 n))
      refine F.def sc__law_big_price rfl fun cdv A outer s H E f hG hr tk pw => ?_
      exact (s_cons (s_set 2 nd__law_big_price (e_if (t_cmp r_gt (e_var 1) e_int) (me_def D__law_take hG hr (fun σ => passAt tk σ) (a_cons (e_var 0) (a_cons e_int a_nil))) (me_def D__law_take hG hr (fun σ => passAt tk σ) (a_cons (e_var 0) (a_cons e_int a_nil)))))
  (s_cons (s_if (t_cmp r_lt (e_var 2) e_int)
  (s_one (s_ret (me_tup (a_cons (me_def D__law_some hG hr (fun σ => passAt tk σ) (a_cons (e_var 0) (a_cons (me_lst (a_cons e_str (a_cons e_str a_nil))) a_nil))) (a_cons (me_def D__law_some hG hr (fun σ => passAt tk σ) (a_cons (e_var 0) (a_cons (me_lst (a_cons e_int (a_cons e_int (a_cons (me_un r_neg e_int) (a_cons e_int (a_cons (me_un r_neg e_int) (a_cons e_int a_nil))))))) a_nil))) a_nil)))))
  s_nil)
  (s_cons (s_if (t_cmp r_lt (e_var 2) e_int)
  (s_one (s_ret (me_tup (a_cons (me_def D__law_some hG hr (fun σ => passAt tk σ) (a_cons (e_var 0) (a_cons (me_lst (a_cons e_str (a_cons e_str a_nil))) a_nil))) (a_cons (me_def D__law_some hG hr (fun σ => passAt tk σ) (a_cons (e_var 0) (a_cons (me_lst (a_cons e_int (a_cons e_int (a_cons e_int a_nil)))) a_nil))) (a_cons (me_def D__law_some hG hr (fun σ => passAt tk σ) (a_cons (e_var 0) (a_cons (me_lst (a_cons e_int (a_cons (me_un r_neg e_int) (a_cons e_int a_nil)))) a_nil))) a_nil))))))
  s_nil)
  (s_cons (s_if (t_cmp (r_eq (hu64 hr)) (e_var 2) e_int)
  (s_one (s_ret (me_tup (a_cons e_str a_nil))))
  s_nil)
  (s_cons (s_par 3 4 rfl nd__law_big_price (a_cons (me_def D__law_big_price hG hr (fun σ => passAt tk σ) (a_cons (e_var 0) (a_cons (me_bin r_sub (e_var 1) e_int) a_nil))) (a_cons (me_def D__law_big_price hG hr (fun σ => passAt tk σ) (a_cons (e_var 0) (a_cons (me_bin r_sub (e_var 1) e_int) a_nil))) a_nil)))
  (s_cons (s_if (t_cmp (r_eq (hu64 hr)) (e_var 2) e_int)
  (s_one (s_ret (me_tup (a_cons e_str (a_cons (me_def D__law_some hG hr (fun σ => passAt tk σ) (a_cons (e_var 0) (a_cons (me_lst (a_cons e_int (a_cons e_int (a_cons e_int a_nil)))) a_nil))) (a_cons (e_var 3) (a_cons (e_var 4) a_nil)))))))
  s_nil)
  (s_cons (s_if (t_cmp (r_eq (hu64 hr)) (e_var 2) e_int)
  (s_one (s_ret (me_tup (a_cons e_str (a_cons (e_var 3) (a_cons (me_def D__law_some hG hr (fun σ => passAt tk σ) (a_cons (e_var 0) (a_cons (me_lst (a_cons e_int (a_cons e_int (a_cons e_int a_nil)))) a_nil))) (a_cons (me_def D__law_some hG hr (fun σ => passAt tk σ) (a_cons (e_var 0) (a_cons (me_lst (a_cons e_int (a_cons e_int (a_cons e_int a_nil)))) a_nil))) (a_cons (me_def D__law_some hG hr (fun σ => passAt tk σ) (a_cons (e_var 0) (a_cons (me_lst (a_cons e_str (a_cons e_str (a_cons e_str a_nil)))) a_nil))) a_nil))))))))
  s_nil)
  (s_cons (s_if (t_cmp (r_eq (hu64 hr)) (e_var 2) e_int)
  (s_one (s_ret (me_tup (a_cons e_str (a_cons (e_var 3) (a_cons (me_def D__law_some hG hr (fun σ => passAt tk σ) (a_cons (e_var 0) (a_cons (me_lst (a_cons (me_un r_neg e_int) (a_cons e_int (a_cons e_int a_nil)))) a_nil))) (a_cons (e_var 4) (a_cons (me_def D__law_big_price hG hr (fun σ => passAt tk σ) (a_cons (e_var 0) (a_cons (me_bin r_sub (e_var 1) e_int) a_nil))) a_nil))))))))
  s_nil)
  (s_one (s_ret (me_tup (a_cons (me_def D__law_some hG hr (fun σ => passAt tk σ) (a_cons (e_var 0) (a_cons (me_lst (a_cons e_str (a_cons e_str (a_cons e_str (a_cons e_str a_nil))))) a_nil))) (a_cons (e_var 3) (a_cons (e_var 4) a_nil))))))))))))))
abbrev N__law_big_shop : List Str := ["bag", "names", "ends", "deeds", "first", "name", "begin", "end", "price"]
theorem nd__law_big_shop : (N__law_big_shop).Nodup := by decide +kernel
theorem sc__law_big_shop : FnScope N__law_big_shop ["bag"] (defScope (top 33)) := ⟨rfl, rfl, rfl, nd__law_big_shop, rfl, by decide +kernel, by decide +kernel⟩
noncomputable def m__law_big_shop : List D → M D := bodyM 9 (seqM (setM 1 (bltM tupleP (consM (slM (callM 2 m__law_mixed (consM (varM 0) (consM (lstM (consM (cM (.str "plain")) (consM (cM (.str "card")) (consM (cM (.str "gold")) (consM (cM (.str "s3")) nilM))))) nilM))) noP (opP (bin2 addP (cM (.int 1)) (callM 2 m__law_take (consM (varM 0) (consM (cM (.int 4)) nilM)))))) nilM)))
  (seqM (setM 2 (bltM tupleP (consM (bltM sortedP (consM (slM (callM 2 m__law_mixed (consM (varM 0) (consM (bltM listP (consM (varM 1) nilM)) nilM))) noP (opP (bin2 addP (cM (.int 1)) (callM 2 m__law_take (consM (varM 0) (consM (bltM lenP (consM (varM 1) nilM)) nilM)))))) nilM)) nilM)))
  (seqM (setM 3 (lcM (seqI (slM (tupM (consM (cM (.str "buy")) (consM (cM (.str "d1")) (consM (cM (.str "go2")) (consM (cM (.str "plain")) (consM (cM (.str "z")) nilM)))))) noP (opP (bin2 addP (cM (.int 1)) (callM 2 m__law_take (consM (varM 0) (consM (cM (.int 5)) nilM))))))) (gN 5) yesT (tupM (consM (varM 5) (consM (callM 2 m__law_some (consM (varM 0) (consM (varM 1) nilM))) (consM (callM 2 m__law_some (consM (varM 0) (consM (varM 1) nilM))) (consM (callM 2 (m__law_big_price 20) (consM (varM 0) (consM (cM (.int 2)) nilM))) nilM))))) [5]))
  (seqM (setM 4 (lcM (seqI (varM 3)) (gT (gs1 (gN 5) (gs1 (gN 6) (gs1 (gN 7) (gs1 (gN 8) gs0))))) (andM (tV (bin2 eqP (varM 6) (bin2 ixP (varM 1) (cM (.int 0))))) (tV (bin2 inP (varM 7) (varM 2)))) (varM 5) [5, 6, 7, 8]))
  (retM (tupM (consM (varM 1) (consM (varM 2) (consM (bltM tupleP (consM (bltM sortedP (consM (varM 3) nilM)) nilM)) (consM (ifV (andM (tV (bin2 neP (varM 4) (lstM nilM))) (tV (bin2 eqP (callM 2 m__law_take (consM (varM 0) (consM (cM (.int 2)) nilM))) (cM (.int 0))))) (bin2 ixP (varM 4) (cM (.int 0))) (cM .non)) nilM))))))))))
theorem d__law_big_shop (T : Txt P K mg) (F : Fnd K mg "_law_big_shop" 33 ["bag"]) (D__law_take : Def P w K mg base (L2.CX P w) 1 "_law_take" 2 m__law_take) (D__law_mixed : Def P w K mg base (L2.CX P w) 2 "_law_mixed" 2 m__law_mixed) (D__law_some : Def P w K mg base (L2.CX P w) 2 "_law_some" 2 m__law_some) (D__law_big_price : Def P w K mg base (L2.CX P w) 22 "_law_big_price" 2 (m__law_big_price 20)) : Def P w K mg base (L2.CX P w) 23 "_law_big_shop" 1 m__law_big_shop := by
  have D__law_take := D__law_take.mono (by decide : 1 ≤ 22)
  have D__law_mixed := D__law_mixed.mono (by decide : 2 ≤ 22)
  have D__law_some := D__law_some.mono (by decide : 2 ≤ 22)
  refine F.def sc__law_big_shop rfl fun cdv A outer s H E f hG hr tk pw => ?_
  exact (s_cons (s_set 1 nd__law_big_shop (me_bty (T := "tuple") c_tuple T.b_tuple PyProof.Rows.boot_tuple (a_cons (me_slice (me_def D__law_mixed hG hr (fun σ => passAt tk σ) (a_cons (e_var 0) (a_cons (me_lst (a_cons e_str (a_cons e_str (a_cons e_str (a_cons e_str a_nil))))) a_nil))) o_none (o_some (me_bin r_add e_int (me_def D__law_take hG hr (fun σ => passAt tk σ) (a_cons (e_var 0) (a_cons e_int a_nil)))))) a_nil)))
  (s_cons (s_set 2 nd__law_big_shop (me_bty (T := "tuple") c_tuple T.b_tuple PyProof.Rows.boot_tuple (a_cons (me_blt (id := "sorted") c_sorted T.b_sorted PyProof.Rows.boot_sorted (a_cons (me_slice (me_def D__law_mixed hG hr (fun σ => passAt tk σ) (a_cons (e_var 0) (a_cons (me_bty (T := "list") c_list T.b_list PyProof.Rows.boot_list (a_cons (e_var 1) a_nil)) a_nil))) o_none (o_some (me_bin r_add e_int (me_def D__law_take hG hr (fun σ => passAt tk σ) (a_cons (e_var 0) (a_cons (me_blt (id := "len") c_len T.b_len boot_len (a_cons (e_var 1) a_nil)) a_nil)))))) a_nil)) a_nil)))
  (s_cons (s_setlc 3 [("name", 5)] rfl nd__law_big_shop (i_seq (me_slice (me_tup (a_cons e_str (a_cons e_str (a_cons e_str (a_cons e_str (a_cons e_str a_nil)))))) o_none (o_some (me_bin r_add e_int (me_def D__law_take hG hr (fun σ => passAt tk σ) (a_cons (e_var 0) (a_cons e_int a_nil))))))) (blkOk_by (N := N__law_big_shop) (sc := defScope (top 33)) (by decide +kernel)) (fun _ _ _ _ _ => (mg_name 5 nd__law_big_shop)) (fun _ _ _ _ _ => ts_nil) (fun _ _ _ _ _ => (me_tup (a_cons (e_var 5) (a_cons (me_def D__law_some hG hr (fun σ => passAt (W := fun _ _ _ _ => False) takes0 σ) (a_cons (e_var 0) (a_cons (e_var 1) a_nil))) (a_cons (me_def D__law_some hG hr (fun σ => passAt (W := fun _ _ _ _ => False) takes0 σ) (a_cons (e_var 0) (a_cons (e_var 1) a_nil))) (a_cons (me_def D__law_big_price hG hr (fun σ => passAt (W := fun _ _ _ _ => False) takes0 σ) (a_cons (e_var 0) (a_cons e_int a_nil))) a_nil)))))))
  (s_cons (s_setlc 4 [("name", 5), ("begin", 6), ("end", 7), ("price", 8)] rfl nd__law_big_shop (i_seq (e_var 3)) (blkOk_by (N := N__law_big_shop) (sc := defScope (top 33)) (by decide +kernel)) (fun _ _ _ _ _ => (mg_tup rfl (mgs_cons (mg_name 5 nd__law_big_shop) (mgs_cons (mg_name 6 nd__law_big_shop) (mgs_cons (mg_name 7 nd__law_big_shop) (mgs_cons (mg_name 8 nd__law_big_shop) mgs_nil)))) (gs_len 3 (gs_len 2 (gs_len 1 (gs_len 0 gs0_len)))))) (fun _ _ _ _ _ => (mts_one (mt_bool (mw_and (t_cmp (r_eq (hu64 hr)) (e_var 6) (me_ix (e_var 1) e_int)) (mw_and1 (t_cmp r_in (e_var 7) (e_var 2))))))) (fun _ _ _ _ _ => (e_var 5)))
  (s_one (s_ret (me_tup (a_cons (e_var 1) (a_cons (e_var 2) (a_cons (me_bty (T := "tuple") c_tuple T.b_tuple PyProof.Rows.boot_tuple (a_cons (me_blt (id := "sorted") c_sorted T.b_sorted PyProof.Rows.boot_sorted (a_cons (e_var 3) a_nil)) a_nil)) (a_cons (e_if (mt_bool (mw_and (t_cmp (r_ne (hu64 hr)) (e_var 4) (me_lst a_nil)) (mw_and1 (t_cmp (r_eq (hu64 hr)) (me_def D__law_take hG hr (fun σ => passAt tk σ) (a_cons (e_var 0) (a_cons e_int a_nil))) e_int)))) (me_ix (e_var 4) e_int) e_non) a_nil)))))))))))
abbrev N__law_bent_text : List Str := ["bag", "text", "runs", "turn", "some", "more", "run", "at", "way"]
theorem nd__law_bent_text : (N__law_bent_text).Nodup := by decide +kernel
theorem sc__law_bent_text : FnScope N__law_bent_text ["bag", "text"] (defScope (top 34)) := ⟨rfl, rfl, rfl, nd__law_bent_text, rfl, by decide +kernel, by decide +kernel⟩
noncomputable def m__law_bent_text : List D → M D := bodyM 9 (seqM (setM 2 (filtM (methM "str" splitP (un1 (replP ")" " ) ") (un1 (replP "(" " ( ") (un1 (replP "
" " 
 ") (varM 1)))) (consM (cM (.str " ")) nilM))))
  (seqM (forM (rngI1 (consM (bin2 addP (cM (.int 1)) (callM 2 m__law_take (consM (varM 0) (consM (cM (.int 2)) nilM)))) nilM)) (gN 3)
  (seqM (parM 7 8 (consM (callM 2 m__law_take (consM (varM 0) (consM (bltM lenP (consM (varM 2) nilM)) nilM))) (consM (callM 2 m__law_take (consM (varM 0) (consM (cM (.int 5)) nilM))) nilM)))
  (seqM (setM 4 (lstM (consM (cM (.str "standing")) (consM (cM (.str "deed")) (consM (cM (.str "from")) (consM (cM (.str "to")) (consM (cM (.str "is")) (consM (cM (.str "shown")) (consM (cM (.str "ends")) (consM (cM (.str "plus")) (consM (cM (.str "least")) (consM (cM (.str "then")) (consM (cM (.str "money")) (consM (cM (.str "each")) (consM (cM (.str "-3")) (consM (cM (.str "3")) (consM (cM (.str "(")) nilM)))))))))))))))))
  (seqM (setM 5 (callM 2 m__law_some (consM (varM 0) (consM (bin2 addP (varM 4) (lstM (consM (cM (.str ")")) (consM (cM (.str ",")) (consM (cM (.str "
")) (consM (cM (.str "x")) (consM (cM (.str "card")) (consM (cM (.str "until")) (consM (cM (.str "if")) (consM (cM (.str "share")) (consM (cM (.str "half")) (consM (cM (.str "1000000")) (consM (cM (.str "1000001")) (consM (cM (.str "007")) (consM (cM (.str "?")) (consM (cM (.str "barred")) nilM)))))))))))))))) nilM))))
  (ifM (andM (tV (bin2 eqP (varM 8) (cM (.int 0)))) (tV (bin2 gtP (bltM lenP (consM (varM 2) nilM)) (cM (.int 1)))))
  (setM 2 (bin2S addCP (slM (varM 2) noP (opP (varM 7))) (slM (varM 2) (opP (bin2 addP (varM 7) (cM (.int 1)))) noP)))
  (ifM (tV (bin2 eqP (varM 8) (cM (.int 1))))
  (setM 2 (bin2S addCP (bin2 addP (slM (varM 2) noP (opP (varM 7))) (lstM (consM (bin2 ixP (varM 2) (varM 7)) nilM))) (slM (varM 2) (opP (varM 7)) noP)))
  (ifM (tV (bin2 eqP (varM 8) (cM (.int 2))))
  (putM (varM 2) (varM 7) (varM 5))
  (ifM (tV (bin2 eqP (varM 8) (cM (.int 3))))
  (setM 2 (bin2S addCP (bin2 addP (slM (varM 2) noP (opP (varM 7))) (lstM (consM (varM 5) nilM))) (slM (varM 2) (opP (varM 7)) noP)))
  (setM 2 (slCM (varM 2) noP (opP (bltM maxP (consM (cM (.int 1)) (consM (varM 7) nilM))))))))))))))
  (retM (methM "str" joinP (cM (.str " ")) (consM (varM 2) nilM)))))
theorem d__law_bent_text (T : Txt P K mg) (F : Fnd K mg "_law_bent_text" 34 ["bag", "text"]) (D__law_take : Def P w K mg base (L2.CX P w) 1 "_law_take" 2 m__law_take) (D__law_some : Def P w K mg base (L2.CX P w) 2 "_law_some" 2 m__law_some) : Def P w K mg base (L2.CX P w) 3 "_law_bent_text" 2 m__law_bent_text := by
  have D__law_take := D__law_take.mono (by decide : 1 ≤ 2)
  refine F.defT sc__law_bent_text (by decide +kernel) fun cdv A outer s H E f hG hr tk pw => ?_
  exact (fs_cons (f_runs 2 rfl nd__law_bent_text (f_meth PySem.F.plainAttrs_str PySem.F.slot_str_split PySem.F.type_str_split m_split (f_replT (f_replT (f_repl (e_var 1)))) (a_cons e_str a_nil)))
  (fs_of (s_cons (ms_for pw rfl (i_rng1 (a_cons (me_bin r_add e_int (me_def D__law_take hG hr (fun σ => passAt tk σ) (a_cons (e_var 0) (a_cons e_int a_nil)))) a_nil) T.b_range) (mg_name 3 nd__law_bent_text)
  (s_cons (s_par 7 8 rfl nd__law_bent_text (a_cons (me_def D__law_take hG hr (fun σ => passAt tk σ) (a_cons (e_var 0) (a_cons (me_blt (id := "len") c_len T.b_len boot_len (a_cons (e_var 2) a_nil)) a_nil))) (a_cons (me_def D__law_take hG hr (fun σ => passAt tk σ) (a_cons (e_var 0) (a_cons e_int a_nil))) a_nil)))
  (s_cons (s_set 4 nd__law_bent_text (me_lst (a_cons e_str (a_cons e_str (a_cons e_str (a_cons e_str (a_cons e_str (a_cons e_str (a_cons e_str (a_cons e_str (a_cons e_str (a_cons e_str (a_cons e_str (a_cons e_str (a_cons e_str (a_cons e_str (a_cons e_str a_nil)))))))))))))))))
  (s_cons (s_set 5 nd__law_bent_text (me_def D__law_some hG hr (fun σ => passAt tk σ) (a_cons (e_var 0) (a_cons (me_bin r_add (e_var 4) (me_lst (a_cons e_str (a_cons e_str (a_cons e_str (a_cons e_str (a_cons e_str (a_cons e_str (a_cons e_str (a_cons e_str (a_cons e_str (a_cons e_str (a_cons e_str (a_cons e_str (a_cons e_str (a_cons e_str a_nil)))))))))))))))) a_nil))))
  (s_one (s_if (mt_bool (mw_and (t_cmp (r_eq (hu64 hr)) (e_var 8) e_int) (mw_and1 (t_cmp r_gt (me_blt (id := "len") c_len T.b_len boot_len (a_cons (e_var 2) a_nil)) e_int))))
  (s_one (s_set 2 nd__law_bent_text (e_binS r_addC (me_slice (e_var 2) o_none (o_some (e_var 7))) (me_slice (e_var 2) (o_some (me_bin r_add (e_var 7) e_int)) o_none))))
  (s_one (s_if (t_cmp (r_eq (hu64 hr)) (e_var 8) e_int)
  (s_one (s_set 2 nd__law_bent_text (e_binS r_addC (me_bin r_add (me_slice (e_var 2) o_none (o_some (e_var 7))) (me_lst (a_cons (me_ix (e_var 2) (e_var 7)) a_nil))) (me_slice (e_var 2) (o_some (e_var 7)) o_none))))
  (s_one (s_if (t_cmp (r_eq (hu64 hr)) (e_var 8) e_int)
  (s_one (s_put (e_var 2) (e_var 7) (e_var 5)))
  (s_one (s_if (t_cmp (r_eq (hu64 hr)) (e_var 8) e_int)
  (s_one (s_set 2 nd__law_bent_text (e_binS r_addC (me_bin r_add (me_slice (e_var 2) o_none (o_some (e_var 7))) (me_lst (a_cons (e_var 5) a_nil))) (me_slice (e_var 2) (o_some (e_var 7)) o_none))))
  (s_one (s_set 2 nd__law_bent_text (e_sliceC (e_var 2) o_none (o_some (me_blt (id := "max") (c_max rfl) T.b_max PyProof.Rows.boot_max (a_cons e_int (a_cons (e_var 7) a_nil)))))))))))))))))))
  (s_one (s_ret (me_meth PySem.F.plainAttrs_str PySem.F.slot_str_join PySem.F.type_str_join m_join e_str (a_cons (e_var 2) a_nil)))))))
abbrev N__law_alike : List Str := ["found", "wanted"]
theorem nd__law_alike : (N__law_alike).Nodup := by decide +kernel
theorem sc__law_alike : FnScope N__law_alike ["found", "wanted"] (defScope (top 35)) := ⟨rfl, rfl, rfl, nd__law_alike, rfl, by decide +kernel, by decide +kernel⟩
noncomputable def m__law_alike : List D → M D := bodyM 2 (retM (andV (bin2 eqP (bltM reprP (consM (varM 0) nilM)) (bltM reprP (consM (varM 1) nilM))) (bin2 eqP (varM 0) (varM 1))))
theorem d__law_alike (T : Txt P K mg) (F : Fnd K mg "_law_alike" 35 ["found", "wanted"]) : Def P w K mg base (L2.CX P w) 1 "_law_alike" 2 m__law_alike := by
  refine F.def sc__law_alike rfl fun cdv A outer s H E f hG hr tk pw => ?_
  exact (s_one (s_ret (me_and (me_cmp (r_eq (hu64 hr)) (me_blt (id := "repr") (c_repr hG hr) T.b_repr PyProof.Rows.boot_repr (a_cons (e_var 0) a_nil)) (me_blt (id := "repr") (c_repr hG hr) T.b_repr PyProof.Rows.boot_repr (a_cons (e_var 1) a_nil))) (me_one (me_cmp (r_eq (hu64 hr)) (e_var 0) (e_var 1))))))
abbrev N__law_runs : List Str := ["text", "figures", "words", "turn", "signs", "found", "line", "first", "at", "sign", "end", "place", "begin", "more", "run", "is_figure", "is_name_v", "one"]
theorem nd__law_runs : (N__law_runs).Nodup := by decide +kernel
theorem sc__law_runs : FnScope N__law_runs ["text", "figures"] (defScope (top 36)) := ⟨rfl, rfl, rfl, nd__law_runs, rfl, by decide +kernel, by decide +kernel⟩
noncomputable def m__law_runs : List D → M D := bodyM 18 (seqM (setM 2 (cM (.str "barred deed down each else ends from full greatest half if is least less money packs plus reaches share shown standing then to until up")))
  (seqM (asgM (gT (gs1 (gN 4) (gs1 (gN 5) (gs1 (gN 6) (gs1 (gN 7) (gs1 (gN 8) gs0)))))) (tupM (consM (cM (.str "abcdefghijklmnopqrstuvwxyz0123456789")) (consM (cellM nilM) (consM (cM (.int 1)) (consM (cM (.int 0)) (consM (cM (.int 0)) nilM)))))))
  (seqM (forM (rngI1 (consM (bltM lenP (consM (varM 0) nilM)) nilM)) (gN 3)
  (seqM (ifM (tV (bin2 geP (varM 8) (bltM lenP (consM (varM 0) nilM))))
  ctM
  nilS)
  (seqM (par3M 9 10 11 (consM (bin2 ixP (varM 0) (varM 8)) (consM (bin2 addP (varM 8) (cM (.int 1))) (consM (tupM (consM (varM 6) (consM (bin2 addP (bin2 subP (varM 8) (varM 7)) (cM (.int 1))) nilM))) nilM))))
  (seqM (ifM (tV (bin2 eqP (varM 9) (cM (.str "
"))))
  (seqM (exprM (methM "list" appendP (varM 5) (consM (bin2 addP (tupM (consM (cM (.str "line")) (consM (cM (.str "")) nilM))) (varM 11)) nilM)))
  (parM 6 7 (consM (bin2 addP (varM 6) (cM (.int 1))) (consM (bin2 addP (varM 8) (cM (.int 1))) nilM))))
  (ifM (tV (bin2 inP (varM 9) (cM (.str "(),"))))
  (exprM (methM "list" appendP (varM 5) (consM (bin2 addP (tupM (consM (cM (.str "mark")) (consM (varM 9) nilM))) (varM 11)) nilM)))
  (ifM (tV (bin2 neP (varM 9) (cM (.str " "))))
  (seqM (setM 12 (ifV (tV (bin2 eqP (varM 9) (cM (.str "-")))) (bin2 addP (varM 8) (cM (.int 1))) (varM 8)))
  (seqM (forM (rngI2 (consM (varM 12) (consM (bltM minP (consM (bltM lenP (consM (varM 0) nilM)) (consM (bin2 addP (varM 8) (cM (.int 50))) nilM))) nilM))) (gN 13)
  (setM 10 (ifV (andM (tV (bin2 leP (varM 13) (bltM maxP (consM (varM 10) (consM (varM 12) nilM))))) (tV (bin2 inP (bin2 ixP (varM 0) (varM 13)) (varM 4)))) (bin2 addP (varM 13) (cM (.int 1))) (varM 10))))
  (seqM (setM 14 (slM (varM 0) (opP (varM 12)) (opP (varM 10))))
  (seqM (setM 15 (andV (bin2 neP (varM 14) (cM (.str ""))) (andV (bin2 eqP (lcM (seqI (varM 14)) (gN 17) (tV (bin2 ninP (varM 17) (slM (varM 4) (opP (cM (.int 26))) noP))) (varM 17) [17]) (lstM nilM)) (andV (orV (bin2 eqP (varM 14) (cM (.str "0"))) (bin2 neP (bin2 ixP (varM 14) (cM (.int 0))) (cM (.str "0")))) (bin2 leP (bltM lenP (consM (varM 14) nilM)) (varM 1))))))
  (seqM (setM 16 (andV (chain2 leP leP (cM (.int 1)) (bltM lenP (consM (varM 14) nilM)) (cM (.int 8))) (andV (bin2 inP (bin2 ixP (varM 14) (cM (.int 0))) (slM (varM 4) noP (opP (cM (.int 26))))) (bin2 eqP (lcM (seqI (varM 14)) (gN 17) (tV (bin2 ninP (varM 17) (varM 4))) (varM 17) [17]) (lstM nilM)))))
  (seqM (ifM (tV (bin2 eqP (varM 9) (cM (.str "-"))))
  (exprM (methM "list" appendP (varM 5) (consM (bin2 addP (ifV (andM (tV (varM 15)) (tV (bin2 neP (varM 14) (cM (.str "0"))))) (tupM (consM (cM (.str "below")) (consM (bin2 subP (cM (.int 0)) (bltM intP2 (consM (varM 14) nilM))) nilM))) (tupM (consM (cM (.str "bad")) (consM (cM (.str "")) nilM)))) (varM 11)) nilM)))
  (exprM (methM "list" appendP (varM 5) (consM (bin2 addP (ifV (tV (bin2 inP (varM 14) (methM "str" splitP (varM 2) (consM (cM (.str " ")) nilM)))) (tupM (consM (cM (.str "key")) (consM (varM 14) nilM))) (ifV (tV (varM 16)) (tupM (consM (cM (.str "name")) (consM (varM 14) nilM))) (ifV (tV (varM 15)) (tupM (consM (cM (.str "number")) (consM (bltM intP2 (consM (varM 14) nilM)) nilM))) (tupM (consM (cM (.str "bad")) (consM (cM (.str "")) nilM)))))) (varM 11)) nilM))))
  (ifM (tV (bin2 eqP (bin2 ixP (bin2 ixP (varM 5) (un1 negP (cM (.int 1)))) (cM (.int 0))) (cM (.str "bad"))))
  (retM (varM 5))
  nilS)))))))
  nilS)))
  (setM 8 (varM 10))))))
  (retM (bin2 addP (varM 5) (lstM (consM (tupM (consM (cM (.str "end")) (consM (cM (.str "")) (consM (varM 6) (consM (bin2 addP (bin2 subP (bltM lenP (consM (varM 0) nilM)) (varM 7)) (cM (.int 1))) nilM))))) nilM)))))))
theorem d__law_runs (T : Txt P K mg) (F : Fnd K mg "_law_runs" 36 ["text", "figures"]) : Def P w K mg base (L2.CX P w) 1 "_law_runs" 2 m__law_runs := by
  refine F.def sc__law_runs rfl fun cdv A outer s H E f hG hr tk pw => ?_
  exact (s_cons (s_set 2 nd__law_runs e_str)
  (s_cons (s_asg (me_tup (a_cons e_str (a_cons (e_cell a_nil) (a_cons e_int (a_cons e_int (a_cons e_int a_nil)))))) (mg_tup rfl (mgs_cons (mg_name 4 nd__law_runs) (mgs_cons (mg_name 5 nd__law_runs) (mgs_cons (mg_name 6 nd__law_runs) (mgs_cons (mg_name 7 nd__law_runs) (mgs_cons (mg_name 8 nd__law_runs) mgs_nil))))) (gs_len 4 (gs_len 3 (gs_len 2 (gs_len 1 (gs_len 0 gs0_len)))))))
  (s_cons (ms_for pw rfl (i_rng1 (a_cons (me_blt (id := "len") c_len T.b_len boot_len (a_cons (e_var 0) a_nil)) a_nil) T.b_range) (mg_name 3 nd__law_runs)
  (s_cons (s_if (t_cmp r_ge (e_var 8) (me_blt (id := "len") c_len T.b_len boot_len (a_cons (e_var 0) a_nil)))
  (s_one s_cont)
  s_nil)
  (s_cons (s_par3 9 10 11 rfl nd__law_runs (a_cons (me_ix (e_var 0) (e_var 8)) (a_cons (me_bin r_add (e_var 8) e_int) (a_cons (me_tup (a_cons (e_var 6) (a_cons (me_bin r_add (me_bin r_sub (e_var 8) (e_var 7)) e_int) a_nil))) a_nil))))
  (s_cons (s_if (t_cmp (r_eq (hu64 hr)) (e_var 9) e_str)
  (s_cons (s_expr (me_meth PySem.F.plainAttrs_list PySem.F.slot_list_append PySem.F.type_list_append m_append (e_var 5) (a_cons (me_bin r_add (me_tup (a_cons e_str (a_cons e_str a_nil))) (e_var 11)) a_nil)))
  (s_one (s_par 6 7 rfl nd__law_runs (a_cons (me_bin r_add (e_var 6) e_int) (a_cons (me_bin r_add (e_var 8) e_int) a_nil)))))
  (s_one (s_if (t_cmp r_in (e_var 9) e_str)
  (s_one (s_expr (me_meth PySem.F.plainAttrs_list PySem.F.slot_list_append PySem.F.type_list_append m_append (e_var 5) (a_cons (me_bin r_add (me_tup (a_cons e_str (a_cons (e_var 9) a_nil))) (e_var 11)) a_nil))))
  (s_one (s_if (t_cmp (r_ne (hu64 hr)) (e_var 9) e_str)
  (s_cons (s_set 12 nd__law_runs (e_if (t_cmp (r_eq (hu64 hr)) (e_var 9) e_str) (me_bin r_add (e_var 8) e_int) (e_var 8)))
  (s_cons (ms_for pw rfl (i_rng2 (a_cons (e_var 12) (a_cons (me_blt (id := "min") (c_min rfl) T.b_min PyProof.Rows.boot_min (a_cons (me_blt (id := "len") c_len T.b_len boot_len (a_cons (e_var 0) a_nil)) (a_cons (me_bin r_add (e_var 8) e_int) a_nil))) a_nil)) T.b_range) (mg_name 13 nd__law_runs)
  (s_one (s_set 10 nd__law_runs (e_if (mt_bool (mw_and (t_cmp r_le (e_var 13) (me_blt (id := "max") (c_max rfl) T.b_max PyProof.Rows.boot_max (a_cons (e_var 10) (a_cons (e_var 12) a_nil)))) (mw_and1 (t_cmp r_in (me_ix (e_var 0) (e_var 13)) (e_var 4))))) (me_bin r_add (e_var 13) e_int) (e_var 10)))))
  (s_cons (s_set 14 nd__law_runs (me_slice (e_var 0) (o_some (e_var 12)) (o_some (e_var 10))))
  (s_cons (s_set 15 nd__law_runs (me_and (me_cmp (r_ne (hu64 hr)) (e_var 14) e_str) (me_and (me_cmp (r_eq (hu64 hr)) (me_lc [("one", 17)] rfl nd__law_runs (i_seq (e_var 14)) (blkOk_by (N := N__law_runs) (sc := defScope (top 36)) (by decide +kernel)) (fun _ _ _ _ _ => (mg_name 17 nd__law_runs)) (fun _ _ _ _ _ => (mts_one (t_cmp r_nin (e_var 17) (me_slice (e_var 4) (o_some e_int) o_none)))) (fun _ _ _ _ _ => (e_var 17))) (me_lst a_nil)) (me_and (me_or (me_cmp (r_eq (hu64 hr)) (e_var 14) e_str) (me_one (me_cmp (r_ne (hu64 hr)) (me_ix (e_var 14) e_int) e_str))) (me_one (me_cmp r_le (me_blt (id := "len") c_len T.b_len boot_len (a_cons (e_var 14) a_nil)) (e_var 1)))))))
  (s_cons (s_set 16 nd__law_runs (me_and (me_chain r_le r_le e_int (me_blt (id := "len") c_len T.b_len boot_len (a_cons (e_var 14) a_nil)) e_int) (me_and (me_cmp r_in (me_ix (e_var 14) e_int) (me_slice (e_var 4) o_none (o_some e_int))) (me_one (me_cmp (r_eq (hu64 hr)) (me_lc [("one", 17)] rfl nd__law_runs (i_seq (e_var 14)) (blkOk_by (N := N__law_runs) (sc := defScope (top 36)) (by decide +kernel)) (fun _ _ _ _ _ => (mg_name 17 nd__law_runs)) (fun _ _ _ _ _ => (mts_one (t_cmp r_nin (e_var 17) (e_var 4)))) (fun _ _ _ _ _ => (e_var 17))) (me_lst a_nil))))))
  (s_cons (s_if (t_cmp (r_eq (hu64 hr)) (e_var 9) e_str)
  (s_one (s_expr (me_meth PySem.F.plainAttrs_list PySem.F.slot_list_append PySem.F.type_list_append m_append (e_var 5) (a_cons (me_bin r_add (e_if (mt_bool (mw_and (t_val (e_var 15)) (mw_and1 (t_cmp (r_ne (hu64 hr)) (e_var 14) e_str)))) (me_tup (a_cons e_str (a_cons (me_bin r_sub e_int (me_bty (T := "int") c_int2 T.b_int PyProof.Rows.boot_int (a_cons (e_var 14) a_nil))) a_nil))) (me_tup (a_cons e_str (a_cons e_str a_nil)))) (e_var 11)) a_nil))))
  (s_one (s_expr (me_meth PySem.F.plainAttrs_list PySem.F.slot_list_append PySem.F.type_list_append m_append (e_var 5) (a_cons (me_bin r_add (e_if (t_cmp r_in (e_var 14) (me_meth PySem.F.plainAttrs_str PySem.F.slot_str_split PySem.F.type_str_split m_split (e_var 2) (a_cons e_str a_nil))) (me_tup (a_cons e_str (a_cons (e_var 14) a_nil))) (e_if (t_val (e_var 16)) (me_tup (a_cons e_str (a_cons (e_var 14) a_nil))) (e_if (t_val (e_var 15)) (me_tup (a_cons e_str (a_cons (me_bty (T := "int") c_int2 T.b_int PyProof.Rows.boot_int (a_cons (e_var 14) a_nil)) a_nil))) (me_tup (a_cons e_str (a_cons e_str a_nil)))))) (e_var 11)) a_nil)))))
  (s_one (s_if (t_cmp (r_eq (hu64 hr)) (me_ix (me_ix (e_var 5) (me_un r_neg e_int)) e_int) e_str)
  (s_one (s_ret (e_var 5)))
  s_nil))))))))
  s_nil)))))
  (s_one (s_set 8 nd__law_runs (e_var 10)))))))
  (s_one (s_ret (me_bin r_add (e_var 5) (me_lst (a_cons (me_tup (a_cons e_str (a_cons e_str (a_cons (e_var 6) (a_cons (me_bin r_add (me_bin r_sub (me_blt (id := "len") c_len T.b_len boot_len (a_cons (e_var 0) a_nil)) (e_var 7)) e_int) a_nil))))) a_nil))))))))
end
end PyM
set_option Elab.async false
set_option linter.all false
set_option maxRecDepth 100000
set_option maxHeartbeats 2000000
namespace PyM
open PySem PySem.Spec PyProof.Rows L2 L2H
section
variable {P : Program} {w : World} {K : W.Frag} {mg : Str → Option Value} {base : Heap}
/-! ### defs that let no exception out -/
theorem Fnd.def0 {x : Str} {i k n : Nat} {ps N : List Str} {m : MSt} (F : Fnd K mg x i ps) (S : FnScope N ps (defScope (top i))) (hn : ps.length = n)
    (h : ∀ (cdv : Value) (A : Around) (outer : List Env) (s : Shared) (H : Hp) (E : XK) (f : Addr), (A.deeper (envOfC x (defScope (top i)) s.heap.objs.size f cdv)).guards = some [] → Room k (A.deeper (envOfC x (defScope (top i)) s.heap.objs.size f cdv)) →
      MSs (cxOf CX0 P w K mg base N x (defScope (top i)) f cdv A outer s H E) (fun _ => E) (defBody (top i)) m) : Def P w K mg base CX0 (k + 1) x n (bodyM N.length m) := by
  obtain ⟨f, fd, F, hm, hb⟩ := F.ex
  subst hn
  exact Def.of F S hm hb fun cdv A outer s H E hG hr => h cdv A outer s H E f hG hr
theorem Fnd.defN {x : Str} {i k n : Nat} {ps N : List Str} {m : MSt} (F : Fnd K mg x i ps) (S : FnScope N ps (defScope (top i))) (hn : ps.length = n)
    (h : ∀ (cdv : Value) (A : Around) (outer : List Env) (s : Shared) (H : Hp) (E : XK) (f : Addr), (A.deeper (envOfC x (defScope (top i)) s.heap.objs.size f cdv)).guards = some [] → Room k (A.deeper (envOfC x (defScope (top i)) s.heap.objs.size f cdv)) →
      L2N.Takes (cxOf (L2N.CX P w) P w K mg base N x (defScope (top i)) f cdv A outer s H E) (WishOf fun _ => E) →
      MSs (cxOf (L2N.CX P w) P w K mg base N x (defScope (top i)) f cdv A outer s H E) (fun _ => E) (defBody (top i)) m) : Def P w K mg base (L2N.CX P w) (k + 1) x n (bodyM N.length m) := by
  obtain ⟨f, fd, F, hm, hb⟩ := F.ex
  subst hn
  exact Def.of F S hm hb fun cdv A outer s H E hG hr => h cdv A outer s H E f hG hr (L2N.takes_of rfl rfl rfl rfl)
theorem Fnd.defH {x : Str} {i k n : Nat} {ps N : List Str} {m : MSt} (F : Fnd K mg x i ps) (S : FnScope N ps (defScope (top i))) (hn : ps.length = n)
    (h : ∀ (cdv : Value) (A : Around) (outer : List Env) (s : Shared) (H : Hp) (p : Addr × Obj) (f : Addr), (A.deeper (envOfC x (defScope (top i)) s.heap.objs.size f cdv)).guards = some [] → RoomH k (A.deeper (envOfC x (defScope (top i)) s.heap.objs.size f cdv)) →
      HotC (cxH CX0 P w K mg base N x (defScope (top i)) f cdv A outer s H ENo p) → PassesOwn (model P w) (A.deeper (envOfC x (defScope (top i)) s.heap.objs.size f cdv)) (envOfC x (defScope (top i)) s.heap.objs.size f cdv) (cxH CX0 P w K mg base N x (defScope (top i)) f cdv A outer s H ENo p).xe →
      MSs (cxH CX0 P w K mg base N x (defScope (top i)) f cdv A outer s H ENo p) EB (defBody (top i)) m) : DefH P w K mg base (k + 1) x n (bodyM N.length m) := by
  obtain ⟨f, fd, F, hm, hb⟩ := F.ex
  subst hn
  exact DefH.of F S hm hb fun cdv A outer s H p hG hr hot => h cdv A outer s H p f hG hr hot (passes_of rfl)
theorem d0_is_number (T : Txt P K mg) (F : Fnd K mg "is_number" 10 ["thing"]) : Def P w K mg base CX0 1 "is_number" 1 m_is_number := by
  refine F.def0 sc_is_number rfl fun cdv A outer s H E f hG hr => ?_
  exact (s_one (s_ret (me_and (me_blt (id := "isinstance") c_isi T.b_isinstance PyProof.Rows.boot_isinstance (a_cons (e_var 0) (a_cons (e_ty (T := "int") T.b_int PyProof.Rows.boot_int) a_nil))) (me_one (me_not (me_blt (id := "isinstance") c_isi T.b_isinstance PyProof.Rows.boot_isinstance (a_cons (e_var 0) (a_cons (e_ty (T := "bool") T.b_bool PyProof.Rows.boot_bool) a_nil))))))))
theorem d0_is_index (T : Txt P K mg) (F : Fnd K mg "is_index" 11 ["thing"]) (D_is_number : Def P w K mg base CX0 1 "is_number" 1 m_is_number) : Def P w K mg base CX0 2 "is_index" 1 m_is_index := by
  refine F.def0 sc_is_index rfl fun cdv A outer s H E f hG hr => ?_
  exact (s_one (s_ret (me_and (me_def D_is_number hG hr pass_0 (a_cons (e_var 0) a_nil)) (me_one (me_cmp r_ge (e_var 0) e_int)))))
/-- tokens, where it says that the text is too large -/
noncomputable def m_tokensN : List D → M D := bodyM 2 (seqM (ifM (orM (notT (tV (bltM isiP (consM (varM 0) (consM (cM (.ty "str")) nilM))))) (orM (notT (tV (callM 1 m_is_index (consM (varM 1) nilM)))) (tV (bin2 gtP (varM 1) (cM c_MOST_ASKED)))))
  badS
  nilS)
  (seqM (ifM (tV (bin2 gtP (bltM lenP (consM (varM 0) nilM)) (cM c_MOST_SIGNS)))
  (raiseM "TooLarge" (two "what" "limit" (consM (cM (.str "signs")) (consM (cM c_MOST_SIGNS) nilM))))
  nilS)
  badS))
theorem dN_tokens (T : Txt P K mg) (F : Fnd K mg "tokens" 22 ["text", "figures"]) (D_is_index : Def P w K mg base CX0 2 "is_index" 1 m_is_index) : Def P w K mg base (L2N.CX P w) 4 "tokens" 2 m_tokensN := by
  have D_is_index := D_is_index.mono (by decide : 2 ≤ 3)
  refine F.defN sc_tokens rfl fun cdv A outer s H E f hG hr tk => ?_
  exact (s_cons (s_if (mt_bool (mw_or (t_not (t_val (me_blt (id := "isinstance") c_isi T.b_isinstance PyProof.Rows.boot_isinstance (a_cons (e_var 0) (a_cons (e_ty (T := "str") T.b_str PyProof.Rows.boot_str) a_nil))))) (mw_or (t_not (t_val (me_def D_is_index hG hr pass_0 (a_cons (e_var 1) a_nil)))) (mw_or1 (t_cmp r_gt (e_var 1) (e_con T.c_MOST_ASKED))))))
  s_bads
  s_nil)
  (s_cons (s_if (t_cmp r_gt (me_blt (id := "len") c_len T.b_len boot_len (a_cons (e_var 0) a_nil)) (e_con T.c_MOST_SIGNS))
  (s_one (s_raiseN rfl tk (mk_2N T.x_TooLarge ini_TooLarge hr (a_cons e_str (a_cons (e_con T.c_MOST_SIGNS) a_nil)))))
  s_nil)
  s_bads))
/-! within the suite -/
theorem dH_is_number (T : Txt P K mg) (F : Fnd K mg "is_number" 10 ["thing"]) : DefH P w K mg base 1 "is_number" 1 m_is_number := by
  refine F.defH sc_is_number rfl fun cdv A outer s H p f hG hr hot pw => ?_
  exact (s_one (s_ret (me_and (me_blt (id := "isinstance") c_isi T.b_isinstance PyProof.Rows.boot_isinstance (a_cons (e_var 0) (a_cons (e_ty (T := "int") T.b_int PyProof.Rows.boot_int) a_nil))) (me_one (me_not (me_blt (id := "isinstance") c_isi T.b_isinstance PyProof.Rows.boot_isinstance (a_cons (e_var 0) (a_cons (e_ty (T := "bool") T.b_bool PyProof.Rows.boot_bool) a_nil))))))))
theorem dH_is_index (T : Txt P K mg) (F : Fnd K mg "is_index" 11 ["thing"]) (D_is_number : DefH P w K mg base 1 "is_number" 1 m_is_number) : DefH P w K mg base 2 "is_index" 1 m_is_index := by
  refine F.defH sc_is_index rfl fun cdv A outer s H p f hG hr hot pw => ?_
  exact (s_one (s_ret (me_and (me_defH D_is_number hG hr hot (a_cons (e_var 0) a_nil)) (me_one (me_cmp r_ge (e_var 0) e_int)))))
/-- scanned, of blanks alone -/
noncomputable def m_scannedH : List D → M D := bodyM 9 (seqM (setM 2 (cellM nilM))
  (seqM (asgM (gT (gs1 (gN 3) (gs1 (gN 4) (gs1 (gN 5) gs0)))) (tupM (consM (cM (.int 0)) (consM (cM (.int 1)) (consM (cM (.int 0)) nilM)))))
  (seqM (whileM (tV (bin2 ltP (varM 3) (bltM lenP (consM (varM 0) nilM))))
  (ifM (tV (bin2 eqP (bin2 ixP (varM 0) (varM 3)) (cM (.str " "))))
  (setM 3 (bin2 addP (varM 3) (cM (.int 1))))
  badS))
  (seqM (exprM (methM "list" appendP (varM 2) (consM (tupM (consM (cM (.str "end")) (consM (cM (.str "")) (consM (varM 4) (consM (bin2 addP (bin2 subP (varM 3) (varM 5)) (cM (.int 1))) nilM))))) nilM)))
  (retM (bltM tupleP (consM (varM 2) nilM)))))))
theorem dH_scanned (T : Txt P K mg) (F : Fnd K mg "scanned" 21 ["text", "most"]) : DefH P w K mg base 1 "scanned" 2 m_scannedH := by
  refine F.defH sc_scanned rfl fun cdv A outer s H p f hG hr hot pw => ?_
  exact (s_cons (s_set 2 nd_scanned (e_cell a_nil))
  (s_cons (s_asg (me_tup (a_cons e_int (a_cons e_int (a_cons e_int a_nil)))) (hmg_tup hot (mgs_cons (mg_name 3 nd_scanned) (mgs_cons (mg_name 4 nd_scanned) (mgs_cons (mg_name 5 nd_scanned) mgs_nil))) (gs_len 2 (gs_len 1 (gs_len 0 gs0_len)))))
  (s_cons (s_while pw (t_cmp r_lt (e_var 3) (me_blt (id := "len") c_len T.b_len boot_len (a_cons (e_var 0) a_nil)))
  (s_one (s_if (t_cmp (r_eq (hu64H hr)) (me_ix (e_var 0) (e_var 3)) e_str)
  (s_one (s_set 3 nd_scanned (me_bin r_add (e_var 3) e_int)))
  s_bads)))
  (s_cons (s_expr (me_meth PySem.F.plainAttrs_list PySem.F.slot_list_append PySem.F.type_list_append m_append (e_var 2) (a_cons (me_tup (a_cons e_str (a_cons e_str (a_cons (e_var 4) (a_cons (me_bin r_add (me_bin r_sub (e_var 3) (e_var 5)) e_int) a_nil))))) a_nil)))
  (s_one (s_ret (me_bty (T := "tuple") c_tuple T.b_tuple PyProof.Rows.boot_tuple (a_cons (e_var 2) a_nil))))))))
noncomputable def m_tokensH : List D → M D := bodyM 2 (seqM (ifM (orM (notT (tV (bltM isiP (consM (varM 0) (consM (cM (.ty "str")) nilM))))) (orM (notT (tV (callM 1 m_is_index (consM (varM 1) nilM)))) (tV (bin2 gtP (varM 1) (cM c_MOST_ASKED)))))
  badS
  nilS)
  (seqM (ifM (tV (bin2 gtP (bltM lenP (consM (varM 0) nilM)) (cM c_MOST_SIGNS)))
  badS
  nilS)
  (retM (callM 2 m_scannedH (consM (varM 0) (consM (varM 1) nilM))))))
theorem dH_tokens (T : Txt P K mg) (F : Fnd K mg "tokens" 22 ["text", "figures"]) (D_is_index : DefH P w K mg base 2 "is_index" 1 m_is_index) (D_scanned : DefH P w K mg base 1 "scanned" 2 m_scannedH) : DefH P w K mg base 4 "tokens" 2 m_tokensH := by
  have D_is_index := D_is_index.mono (by decide : 2 ≤ 3)
  have D_scanned := D_scanned.mono (by decide : 1 ≤ 3)
  refine F.defH sc_tokens rfl fun cdv A outer s H p f hG hr hot pw => ?_
  exact (s_cons (s_if (mt_bool (mw_or (t_not (t_val (me_blt (id := "isinstance") c_isi T.b_isinstance PyProof.Rows.boot_isinstance (a_cons (e_var 0) (a_cons (e_ty (T := "str") T.b_str PyProof.Rows.boot_str) a_nil))))) (mw_or (t_not (t_val (me_defH D_is_index hG hr hot (a_cons (e_var 1) a_nil)))) (mw_or1 (t_cmp r_gt (e_var 1) (e_con T.c_MOST_ASKED))))))
  s_bads
  s_nil)
  (s_cons (s_if (t_cmp r_gt (me_blt (id := "len") c_len T.b_len boot_len (a_cons (e_var 0) a_nil)) (e_con T.c_MOST_SIGNS))
  s_bads
  s_nil)
  (s_one (s_ret (me_defH D_scanned hG hr hot (a_cons (e_var 0) (a_cons (e_var 1) a_nil)))))))
theorem dH__law_alike (T : Txt P K mg) (F : Fnd K mg "_law_alike" 35 ["found", "wanted"]) : DefH P w K mg base 1 "_law_alike" 2 m__law_alike := by
  refine F.defH sc__law_alike rfl fun cdv A outer s H p f hG hr hot pw => ?_
  exact (s_one (s_ret (me_and (me_cmp (r_eq (hu64H hr)) (me_blt (id := "repr") (c_reprH hG hr) T.b_repr PyProof.Rows.boot_repr (a_cons (e_var 0) a_nil)) (me_blt (id := "repr") (c_reprH hG hr) T.b_repr PyProof.Rows.boot_repr (a_cons (e_var 1) a_nil))) (me_one (me_cmp (r_eq (hu64H hr)) (e_var 0) (e_var 1))))))
noncomputable def lastH (a dx : Nat) (c : Str) (fn : List Str) : Env' → M D := andV (bin2 eqP (tupM (consM (fldM flT a dx c fn 8 "what") (consM (fldM flT a dx c fn 8 "limit") nilM))) (tupM (consM (cM (.str "signs")) (consM (cM (.int 6000)) nilM))))
  (callM 2 m__law_alike (consM (callM 2 m_tokensH (consM (bin2 mulP2 (cM (.str " ")) (cM (.int 6000))) (consM (cM (.int 7)) nilM))) (consM (tupM (consM (tupM (consM (cM (.str "end")) (consM (cM (.str "")) (consM (cM (.int 1)) (consM (cM (.int 6001)) nilM))))) nilM)) nilM)))
/-- the law's last statement -/
noncomputable def lastM : MSt := tryN subT (seqM (exprM (callM 2 m_tokensN (consM (bin2 mulP2 (cM (.str " ")) (cM (.int 6001))) (consM (cM (.int 7)) nilM)))) (retM (cM (.bl false)))) ⟨"TooLarge", some 8, fun a dx c fn ds => retM (lastH a dx c fn)⟩
theorem last_par : Hd.Par ⟨"TooLarge", some 8, fun a dx c fn ds => retM (lastH a dx c fn)⟩ := par_hd (fun a dx c fn ds => par_ret (fun ρ S => by
  unfold lastH
  simp [fld_set, var_set, tupM, consM, nilM, M.bind, bin2, M.op2, cM, M.pure, andV, callM]))
end
end PyM
set_option Elab.async false
set_option linter.all false
set_option maxRecDepth 100000
set_option maxHeartbeats 2000000
namespace PyM
open PySem PySem.Spec PyProof.Rows L2 L2H
section
variable {P : Program} {w : World} {K : W.Frag} {mg : Str → Option Value} {base : Heap}
abbrev N_law : List Str := ["script", "bag", "turn", "text", "figures", "odd", "at", "more", "error"]
theorem nd_law : (N_law).Nodup := by decide +kernel
theorem sc_law : FnScope N_law ["script"] (defScope (top 37)) := ⟨rfl, rfl, rfl, nd_law, rfl, by decide +kernel, by decide +kernel⟩
noncomputable def m_law : List D → M D := bodyM 9 (seqM (setM 1 (callM 1 m__law_bag (consM (varM 0) nilM)))
  (seqM (forM (rngI1 (consM (cM (.int 6)) nilM)) (gN 2)
  (seqM (setM 3 (callM 2 m__law_loose (consM (varM 1) (consM (callM 1 m__law_shop_text (consM (callM 1 m__law_big_shop (consM (varM 1) nilM)) nilM)) nilM))))
  (seqM (setM 3 (ifV (tV (bin2 eqP (callM 2 m__law_take (consM (varM 1) (consM (cM (.int 2)) nilM))) (cM (.int 0)))) (callM 2 m__law_bent_text (consM (varM 1) (consM (varM 3) nilM))) (varM 3)))
  (seqM (ifM (tV (bin2 eqP (callM 2 m__law_take (consM (varM 1) (consM (cM (.int 2)) nilM))) (cM (.int 0))))
  (seqM (setM 6 (callM 2 m__law_take (consM (varM 1) (consM (bin2 addP (bltM lenP (consM (varM 3) nilM)) (cM (.int 1))) nilM))))
  (seqM (setM 7 (callM 2 m__law_some (consM (varM 1) (consM (lstM (consM (cM (.str "-")) (consM (cM (.str "- 3")) (consM (cM (.str "-0")) (consM (cM (.str "-07")) (consM (cM (.str "-12")) (consM (cM (.str "	")) (consM (bin2 mulP2 (cM (.str "a")) (cM (.int 9))) (consM (cM (.str "1234567")) (consM (cM (.str "12345678")) (consM (cM (.str "00")) (consM (cM (.str "0a")) (consM (cM (.str "9 9")) (consM (cM (.str "_")) (consM (cM (.str "

")) (consM (cM (.str "--1")) nilM)))))))))))))))) nilM))))
  (setM 3 (bin2 addP (bin2 addP (slM (varM 3) noP (opP (varM 6))) (varM 7)) (slM (varM 3) (opP (varM 6)) noP)))))
  nilS)
  (seqM (setM 4 (callM 2 m__law_some (consM (varM 1) (consM (lstM (consM (cM (.int 0)) (consM (cM (.int 1)) (consM (cM (.int 7)) (consM (cM (.int 7)) (consM (cM (.int 30)) nilM)))))) nilM))))
  (seqM (ifM (notT (tV (callM 2 m__law_alike (consM (callM 2 m_tokens (consM (varM 3) (consM (varM 4) nilM))) (consM (bltM tupleP (consM (callM 2 m__law_runs (consM (varM 3) (consM (varM 4) nilM))) nilM)) nilM)))))
  (retM (cM (.bl false)))
  nilS)
  (forM (seqI (tupM (consM (tupM (consM (cM .non) (consM (cM (.int 5)) nilM))) (consM (tupM (consM (cM (.int 7)) (consM (cM (.int 5)) nilM))) (consM (tupM (consM (varM 3) (consM (un1 negP (cM (.int 1))) nilM))) (consM (tupM (consM (varM 3) (consM (cM .non) nilM))) (consM (tupM (consM (varM 3) (consM (cM (.bl true)) nilM))) (consM (tupM (consM (lstM (consM (varM 3) nilM)) (consM (cM (.int 9)) nilM))) nilM)))))))) (gN 5)
  (tryM subT (seqM (exprM (callM 2 m_tokens (consM (bin2 ixP (varM 5) (cM (.int 0))) (consM (bin2 ixP (varM 5) (cM (.int 1))) nilM))))
  (retM (cM (.bl false)))) [⟨"Nothing", none, fun a dx c fn ds => ctM⟩]))))))))
  lastM))
theorem d_law (T : Txt P K mg) (F : Fnd K mg "law" 37 ["script"]) (D_tokens : Def P w K mg base (L2.CX P w) 5 "tokens" 2 m_tokens) (D__law_bag : Def P w K mg base (L2.CX P w) 1 "_law_bag" 1 m__law_bag) (D__law_take : Def P w K mg base (L2.CX P w) 1 "_law_take" 2 m__law_take) (D__law_loose : Def P w K mg base (L2.CX P w) 2 "_law_loose" 2 m__law_loose) (D__law_shop_text : Def P w K mg base (L2.CX P w) 41 "_law_shop_text" 1 m__law_shop_text) (D__law_some : Def P w K mg base (L2.CX P w) 2 "_law_some" 2 m__law_some) (D__law_big_shop : Def P w K mg base (L2.CX P w) 23 "_law_big_shop" 1 m__law_big_shop) (D__law_bent_text : Def P w K mg base (L2.CX P w) 3 "_law_bent_text" 2 m__law_bent_text) (D__law_alike : Def P w K mg base (L2.CX P w) 1 "_law_alike" 2 m__law_alike) (D__law_runs : Def P w K mg base (L2.CX P w) 1 "_law_runs" 2 m__law_runs) (DN : Def P w K mg base (L2N.CX P w) 4 "tokens" 2 m_tokensN) (DHt : DefH P w K mg base 4 "tokens" 2 m_tokensH) (DHa : DefH P w K mg base 4 "_law_alike" 2 m__law_alike) : Def P w K mg base (L2.CX P w) 42 "law" 1 m_law := by
  have D_tokens := D_tokens.mono (by decide : 5 ≤ 41)
  have D__law_bag := D__law_bag.mono (by decide : 1 ≤ 41)
  have D__law_take := D__law_take.mono (by decide : 1 ≤ 41)
  have D__law_loose := D__law_loose.mono (by decide : 2 ≤ 41)
  have D__law_some := D__law_some.mono (by decide : 2 ≤ 41)
  have D__law_big_shop := D__law_big_shop.mono (by decide : 23 ≤ 41)
  have D__law_bent_text := D__law_bent_text.mono (by decide : 3 ≤ 41)
  have D__law_alike := D__law_alike.mono (by decide : 1 ≤ 41)
  have D__law_runs := D__law_runs.mono (by decide : 1 ≤ 41)
  refine F.def sc_law rfl fun cdv A outer s H E f hG hr tk pw => ?_
  obtain ⟨a_Nothing, g_Nothing⟩ := T.g_Nothing
  obtain ⟨a_TooLarge, g_TooLarge⟩ := T.g_TooLarge
  exact (s_cons (s_set 1 nd_law (me_def D__law_bag hG hr (fun σ => passAt tk σ) (a_cons (e_var 0) a_nil)))
  (s_cons (ms_for pw rfl (i_rng1 (a_cons e_int a_nil) T.b_range) (mg_name 2 nd_law)
  (s_cons (s_set 3 nd_law (me_def D__law_loose hG hr (fun σ => passAt tk σ) (a_cons (e_var 1) (a_cons (me_def D__law_shop_text hG hr (fun σ => passAt tk σ) (a_cons (me_def D__law_big_shop hG hr (fun σ => passAt tk σ) (a_cons (e_var 1) a_nil)) a_nil)) a_nil))))
  (s_cons (s_set 3 nd_law (e_if (t_cmp (r_eq (hu64 hr)) (me_def D__law_take hG hr (fun σ => passAt tk σ) (a_cons (e_var 1) (a_cons e_int a_nil))) e_int) (me_def D__law_bent_text hG hr (fun σ => passAt tk σ) (a_cons (e_var 1) (a_cons (e_var 3) a_nil))) (e_var 3)))
  (s_cons (s_if (t_cmp (r_eq (hu64 hr)) (me_def D__law_take hG hr (fun σ => passAt tk σ) (a_cons (e_var 1) (a_cons e_int a_nil))) e_int)
  (s_cons (s_set 6 nd_law (me_def D__law_take hG hr (fun σ => passAt tk σ) (a_cons (e_var 1) (a_cons (me_bin r_add (me_blt (id := "len") c_len T.b_len boot_len (a_cons (e_var 3) a_nil)) e_int) a_nil))))
  (s_cons (s_set 7 nd_law (me_def D__law_some hG hr (fun σ => passAt tk σ) (a_cons (e_var 1) (a_cons (me_lst (a_cons e_str (a_cons e_str (a_cons e_str (a_cons e_str (a_cons e_str (a_cons e_str (a_cons (me_bin r_mul2 e_str e_int) (a_cons e_str (a_cons e_str (a_cons e_str (a_cons e_str (a_cons e_str (a_cons e_str (a_cons e_str (a_cons e_str a_nil)))))))))))))))) a_nil))))
  (s_one (s_set 3 nd_law (me_bin r_add (me_bin r_add (me_slice (e_var 3) o_none (o_some (e_var 6))) (e_var 7)) (me_slice (e_var 3) (o_some (e_var 6)) o_none))))))
  s_nil)
  (s_cons (s_set 4 nd_law (me_def D__law_some hG hr (fun σ => passAt tk σ) (a_cons (e_var 1) (a_cons (me_lst (a_cons e_int (a_cons e_int (a_cons e_int (a_cons e_int (a_cons e_int a_nil)))))) a_nil))))
  (s_cons (s_if (t_not (t_val (me_def D__law_alike hG hr (fun σ => passAt tk σ) (a_cons (me_def D_tokens hG hr (fun σ => passAt tk σ) (a_cons (e_var 3) (a_cons (e_var 4) a_nil))) (a_cons (me_bty (T := "tuple") c_tuple T.b_tuple PyProof.Rows.boot_tuple (a_cons (me_def D__law_runs hG hr (fun σ => passAt tk σ) (a_cons (e_var 3) (a_cons (e_var 4) a_nil))) a_nil)) a_nil)))))
  (s_one (s_ret e_bl))
  s_nil)
  (s_one (ms_for pw rfl (i_seq (me_tup (a_cons (me_tup (a_cons e_non (a_cons e_int a_nil))) (a_cons (me_tup (a_cons e_int (a_cons e_int a_nil))) (a_cons (me_tup (a_cons (e_var 3) (a_cons (me_un r_neg e_int) a_nil))) (a_cons (me_tup (a_cons (e_var 3) (a_cons e_non a_nil))) (a_cons (me_tup (a_cons (e_var 3) (a_cons e_bl a_nil))) (a_cons (me_tup (a_cons (me_lst (a_cons (e_var 3) a_nil)) (a_cons e_int a_nil))) a_nil)))))))) (mg_name 5 nd_law)
  (s_one (s_try T.sub rfl rfl nd_law tk (fun E' pins xe tk1 pw1 => (s_cons (s_expr (me_def D_tokens hG hr (fun σ => passAt tk1 σ) (a_cons (me_ix (e_var 5) e_int) (a_cons (me_ix (e_var 5) e_int) a_nil))))
  (s_one (s_ret e_bl)))) (HdOk.plain g_Nothing rfl rfl par_no (fun a ob cls d pins c dx fn ds hz hf hk => (s_one s_cont)) HdOk.nil)))))))))))
  (s_one (s_tryN 8 T.sub rfl rfl nd_law g_TooLarge last_par (fun E' pins xe tk1 pw1 => (s_cons (s_expr (me_def (DN.mono (by decide : 4 ≤ 41)) hG hr (fun σ => L2N.passAt tk1 σ) (a_cons (me_bin r_mul2 e_str e_int) (a_cons e_int a_nil))))
  (s_one (s_ret e_bl)))) (fun a ob cls d pins c dx fn ds hz hf hk hot => (s_one (s_ret (me_and (me_cmp (r_eq (hu64m hr)) (me_tup (a_cons (e_fld T.fl hz hf hk 8) (a_cons (e_fld T.fl hz hf hk 8) a_nil))) (me_tup (a_cons e_str (a_cons e_int a_nil))))
  (me_one (me_defH (DHa.mono (by decide : 4 ≤ 41)) hG ⟨hr.dp, hr.un⟩ hot (a_cons (me_defH (DHt.mono (by decide : 4 ≤ 41)) hG ⟨hr.dp, hr.un⟩ hot (a_cons (me_bin r_mul2 e_str e_int) (a_cons e_int a_nil))) (a_cons (me_tup (a_cons (me_tup (a_cons e_str (a_cons e_str (a_cons e_int (a_cons e_int a_nil))))) a_nil)) a_nil))))))))))))
end
end PyM
set_option Elab.async false
set_option linter.all false
set_option maxRecDepth 100000
set_option maxHeartbeats 8000000
namespace PyM
open PySem PySem.Spec PyProof.Rows L2
/- L1 -/
section
variable {α β : Type} {ρ : Env'} {S S' : Store} {a b c : Env' → M D} {t u : Env' → M Bool} {ms : Env' → M (List D)} {m m' : MSt} {d d' : D} {x : α} {k : α → M β} {ks : α → Store → SR}
@[simp] theorem x_bind_ok : (match (Res.ok x S : Res α) with | .ok x S' => k x S' | .exc c fs S' => .exc c fs S' | .bad => .bad) = k x S := rfl
@[simp] theorem x_pure : (M.pure x : M α) S = .ok x S := rfl
@[simp] theorem x_bindp : M.bind (M.pure x) k = k x := rfl
@[simp] theorem x_of_ok : SR.of (.ok x S) ρ ks = ks x S := rfl
@[simp] theorem x_sbind_nx : SR.bind (.nx ρ S) m = m ρ S := rfl
@[simp] theorem x_sbind_rt : SR.bind (.rt d S) m = .rt d S := rfl
@[simp] theorem x_out_rt : SR.out (.rt d S) = .ok d S := rfl
@[simp] theorem x_body {N : Nat} {ds : List D} : bodyM N m ds S = (m (ds.map some ++ List.replicate (N - ds.length) none) S).out := rfl
@[simp] theorem x_seq : seqM m m' ρ S = SR.bind (m ρ S) m' := rfl
@[simp] theorem x_if : ifM t m m' ρ S = SR.of (t ρ S) ρ (fun k S' => if k = true then m ρ S' else m' ρ S') := rfl
@[simp] theorem x_ret : retM a ρ S = SR.of (a ρ S) ρ (fun d S' => .rt d S') := rfl
@[simp] theorem x_nil : nilS ρ S = .nx ρ S := rfl
@[simp] theorem x_set {i : Nat} : setM i a ρ S = SR.of (a ρ S) ρ (fun d S' => .nx (ρ.set i (some d)) S') := rfl
@[simp] theorem x_cM : cM d ρ S = .ok d S := rfl
@[simp] theorem x_tV : tV a ρ S = toB (a ρ) S := rfl
theorem bind_eq {mm : M α} (h : mm S = .ok x S') : M.bind mm k S = k x S' := by
  unfold M.bind
  rw [h]
theorem x_var {i : Nat} (h : ρ[i]? = some (some d)) : varM i ρ S = .ok d S := by
  show var ρ i S = _
  unfold var
  rw [h]
  rfl
end
theorem k_int_int : L2.kitB "int" "int" = some true := by decide +kernel
theorem k_int_bool : L2.kitB "int" "bool" = some false := by decide +kernel
theorem k_bl_int : L2.kitB "bool" "int" = some true := by decide +kernel
theorem k_bl_bool : L2.kitB "bool" "bool" = some true := by decide +kernel
theorem is_number_int (i : Int) (S : Store) : m_is_number [.int i] S = .ok (.bl true) S := by
  unfold m_is_number
  simp [andV, notV, toB, bltM, consM, nilM, M.bind, varM, var, M.opL, isiP, tyName, k_int_int, k_int_bool, M.lift, asB, M.pure, cM]
theorem is_number_bl (i : Bool) (S : Store) : m_is_number [.bl i] S = .ok (.bl false) S := by
  unfold m_is_number
  simp [andV, notV, toB, bltM, consM, nilM, M.bind, varM, var, M.opL, isiP, tyName, k_bl_int, k_bl_bool, M.lift, asB, M.pure, cM]
/- L2b -/

/-- the bag as a cell -/
abbrev bagC (a b c : Int) (cs : List Int) : Cell := .lst [.int a, .int b, .int c, .lst (cs.map .int)]
/-- the next cell of the script -/
def nextCell (cs : List Int) (c : Int) : Int := (cs.drop c.toNat).headD 0
theorem cut_from (ds : List D) (c : Int) (hc : 0 ≤ c) : cutD ds (some c) none = ds.drop c.toNat := by
  have e1 : HT.sIx ds.length 0 (some c) = min c.toNat ds.length := if_neg (by omega)
  have e2 : HT.sIx ds.length ds.length none = ds.length := rfl
  unfold cutD
  rw [e1, e2]
  by_cases h : c.toNat ≤ ds.length
  · rw [Nat.min_eq_left h]
    exact List.take_of_length_le (by simp)
  · rw [Nat.min_eq_right (by omega), List.drop_eq_nil_of_le (Nat.le_refl _), List.drop_eq_nil_of_le (by omega)]
    simp
/-- [cells behind c, and 0][0] -/
theorem next_is (cs : List Int) (c : Int) : atI ((cs.map D.int).drop c.toNat ++ [D.int 0]) 0 = some (.int (nextCell cs c)) := by
  have h0 : atI ((cs.map D.int).drop c.toNat ++ [D.int 0]) ((0 : Nat) : Int) = some (.int (nextCell cs c)) := by
    refine atI_nat ?_
    unfold nextCell
    rw [← List.map_drop]
    cases cs.drop c.toNat with
    | nil => rfl
    | cons x r => rfl
  exact h0
theorem nextCell_nn {cs : List Int} (h : ∀ z ∈ cs, 0 ≤ z) (c : Int) : 0 ≤ nextCell cs c := by
  unfold nextCell
  cases e : cs.drop c.toNat with
  | nil => exact Int.le_refl _
  | cons x r => exact h x (List.mem_of_mem_drop (by rw [e]; simp))
/-- parts of the take, by values -/
theorem ix_bag (a b c : Int) (cs : List Int) (R : Store) (i : Int) : ixP (bagC a b c cs :: R) (.loc 0) (.int i) = atI [.int a, .int b, .int c, .lst (cs.map .int)] i := rfl
theorem set_bag (a b c : Int) (cs : List Int) (R : Store) (k : Int) (y : D) : setP (bagC a b c cs :: R) (.loc 0) (.int k) y = (ixN 4 k).map fun j => .lst ([.int a, .int b, .int c, .lst (cs.map .int)].set j y) :: R := by
  unfold setP cellL
  simp
  cases ixN 4 k <;> rfl

/- L3 -/

theorem at4_0 (p q r s : D) : atI [p, q, r, s] (0 : Int) = some p := rfl
theorem at4_1 (p q r s : D) : atI [p, q, r, s] (1 : Int) = some q := rfl
theorem at4_2 (p q r s : D) : atI [p, q, r, s] (2 : Int) = some r := rfl
theorem at4_3 (p q r s : D) : atI [p, q, r, s] (3 : Int) = some s := rfl
theorem ixN4_0 : ixN 4 (0 : Int) = some 0 := rfl
theorem ixN4_1 : ixN 4 (1 : Int) = some 1 := rfl
theorem ixN4_2 : ixN 4 (2 : Int) = some 2 := rfl
theorem eq_ints (S : Store) (i j : Int) : eqP S (.int i) (.int j) = some (.bl (decide (i = j))) := by
  unfold eqP eqQ scalD
  simp [L2.scal]
/-- a draw while digits of a great cell are left -/
theorem take_big (a b c many : Int) (cs : List Int) (R : Store) (ha : 0 < a) (hm : 0 < many) (hm2 : many < 1073741824) : m__law_take [.loc 0, .int many] (bagC a b c cs :: R) = .ok (.int (a % many)) (bagC (a / many) b c cs :: R) := by
  have h0 : decide (a = 0) = false := decide_eq_false (by omega)
  have h1 : decide (0 < a) = true := decide_eq_true ha
  have hd : CDiv a many := ⟨hm, hm2⟩
  unfold m__law_take
  simp [toB, bltM, consM, nilM, M.bind, varM, var, M.opL, M.op2, M.lift, asB, M.pure, bin2, ix_bag, at4_0, eq_ints, h0, gtP, ha, h1, modP, intP, hm, putM, divP, hd, set_bag, ixN4_0, SR.put, SR.bind, SR.of]

/- L4 -/

theorem mulc_r (i j : Int) (h : -(2 ^ 64) < j ∧ j < 2 ^ 64) (S : Store) : mulP S (.int i) (.int j) = some (.int (i * j)) := if_pos (.inr h)
theorem mulc_l (i j : Int) (h : -(2 ^ 64) < i ∧ i < 2 ^ 64) (S : Store) : mulP S (.int i) (.int j) = some (.int (i * j)) := if_pos (.inl h)
theorem mod_ints (S : Store) (i j : Int) (h : 0 < j) : modP S (.int i) (.int j) = some (.int (i % j)) := if_pos h
theorem div_ints (S : Store) (i j : Int) (h : CDiv i j) : divP S (.int i) (.int j) = some (.int (i / j)) := if_pos h
theorem pow18 (S : Store) : powP S (.int 10) (.int 18) = some (.int 1000000000000000000) := by
  show (if CPow 10 18 then some (D.int (10 ^ (18 : Int).toNat)) else none) = _
  rw [if_pos (show CPow 10 18 from ⟨by decide, by decide, by decide⟩)]
  rfl
theorem add_ints (S : Store) (i j : Int) : addP S (.int i) (.int j) = some (.int (i + j)) := rfl
def stir (b c z : Int) : Int := (b * 48271 + z % 2147483647 + 7919 * (c + 1)) % 2147483647
theorem slice_bag (cs : List Int) (c : Int) (hc : 0 ≤ c) (S : Store) : slP S (.lst (cs.map .int)) (some c) none = some (.lst ((cs.map D.int).drop c.toNat)) := by
  unfold slP asS asL
  simp [cut_from _ c hc]
theorem add_lsts (S : Store) (xs ys : List D) (h : xs.length + ys.length ≤ sizeLine) : addP S (.lst xs) (.lst ys) = some (.lst (xs ++ ys)) := by
  unfold addP asL
  simp [h]
theorem ix_lst (S : Store) (xs : List D) (i : Int) : ixP S (.lst xs) (.int i) = atI xs i := rfl
/-- a draw that takes a great cell -/
theorem take_new (b c many : Int) (cs : List Int) (R : Store) (hc : 0 ≤ c) (hl : cs.length ≤ 63) (hm : 0 < many) (hm2 : many < 1073741824) (hz : 1000000000000000000 ≤ nextCell cs c) :
    m__law_take [.loc 0, .int many] (bagC 0 b c cs :: R) = .ok (.int (nextCell cs c % many)) (bagC (nextCell cs c / many) (stir b c (nextCell cs c)) (c + 1) cs :: R) := by
  have hd : CDiv (nextCell cs c) many := ⟨hm, hm2⟩
  have hz2 : 0 < nextCell cs c := by omega
  have hs := sizeLine_eq
  have hlen : ((cs.map D.int).drop c.toNat).length + [D.int 0].length ≤ sizeLine := by
    rw [hs]
    simp
    omega
  have hadd := fun S => add_lsts S ((cs.map D.int).drop c.toNat) [D.int 0] hlen
  have h1 : (1 : Nat) ≤ sizeLine := by rw [hs]; decide
  unfold m__law_take
  simp [toB, bltM, consM, nilM, M.bind, varM, var, M.opL, M.op2, M.lift, asB, M.pure, bin2, ix_bag, at4_0, at4_1, at4_2, at4_3, eq_ints, gtP, geP, add_ints, intP, putM, set_bag, ixN4_0, ixN4_1, ixN4_2, SR.put, SR.bind, SR.of, slM, opP, noP, optI, asI, opS, slice_bag, hc, hadd, lstM, h1, ix_lst, next_is, augM,
    pow18, hz, hz2, mulc_r, mod_ints, mulc_l, div_ints, hd, hm, stir]
def plainDraw (b : Int) : Int := ((b + 1) * 39373 % 1000000007 * ((b + 1) * 39373 % 1000000007)) % 998244353 * 30011 % 998244353 / 7
/-- a draw by stirring alone -/
theorem take_small (b c many : Int) (cs : List Int) (R : Store) (hc : 0 ≤ c) (hl : cs.length ≤ 63) (hm : 0 < many) (hz : nextCell cs c < 1000000000000000000) :
    m__law_take [.loc 0, .int many] (bagC 0 b c cs :: R) = .ok (.int (plainDraw (stir b c (nextCell cs c)) % many)) (bagC 0 (stir b c (nextCell cs c)) (c + 1) cs :: R) := by
  have hz1 : ¬ (1000000000000000000 ≤ nextCell cs c) := by omega
  have hs := sizeLine_eq
  have hlen : ((cs.map D.int).drop c.toNat).length + [D.int 0].length ≤ sizeLine := by
    rw [hs]
    simp
    omega
  have hadd := fun S => add_lsts S ((cs.map D.int).drop c.toNat) [D.int 0] hlen
  have h1 : (1 : Nat) ≤ sizeLine := by rw [hs]; decide
  have hmul : ∀ (v : Int) (S : Store), mulP S (.int (v % 1000000007)) (.int (v % 1000000007)) = some (.int (v % 1000000007 * (v % 1000000007))) := fun v S => mulc_l _ _ (by
    have e1 := Int.emod_nonneg v (show (1000000007 : Int) ≠ 0 by decide)
    have e2 := Int.emod_lt_of_pos v (show (0 : Int) < 1000000007 by decide)
    have e3 : (2 : Int) ^ 64 = 18446744073709551616 := by decide
    omega) S
  have hdiv : ∀ (v : Int) (S : Store), divP S (.int v) (.int 7) = some (.int (v / 7)) := fun v S => div_ints S v 7 ⟨by decide, by decide⟩
  unfold m__law_take
  simp [toB, bltM, consM, nilM, M.bind, varM, var, M.opL, M.op2, M.lift, asB, M.pure, bin2, ix_bag, at4_0, at4_1, at4_2, at4_3, eq_ints, gtP, geP, add_ints, intP, putM, set_bag, ixN4_0, ixN4_1, ixN4_2, SR.put, SR.bind, SR.of, slM, opP, noP, optI, asI, opS, slice_bag, hc, hadd, lstM, h1, ix_lst, next_is, augM,
    pow18, hz1, mulc_r, mod_ints, hmul, mulc_l, hdiv, hm, stir, plainDraw]

/- L5 -/

/-- the bag stands ahead, R behind -/
def Bag (S : Store) (R : Store) : Prop := ∃ (a b c : Int) (cs : List Int), S = bagC a b c cs :: R ∧ 0 ≤ a ∧ 0 ≤ c ∧ cs.length ≤ 63
theorem take_any {S R : Store} {many : Int} (h : Bag S R) (hm : 0 < many) (hm2 : many < 1073741824) : ∃ v S', m__law_take [.loc 0, .int many] S = .ok (.int v) S' ∧ 0 ≤ v ∧ v < many ∧ Bag S' R := by
  obtain ⟨a, b, c, cs, rfl, ha, hc, hl⟩ := h
  have p1 : ∀ x : Int, 0 ≤ x % many := fun x => Int.emod_nonneg x (by omega)
  have p2 : ∀ x : Int, x % many < many := fun x => Int.emod_lt_of_pos x hm
  by_cases h0 : a = 0
  · subst h0
    by_cases hz : 1000000000000000000 ≤ nextCell cs c
    · exact ⟨_, _, take_new b c many cs R hc hl hm hm2 hz, p1 _, p2 _, _, _, _, _, rfl, Int.ediv_nonneg (by omega) (by omega), by omega, hl⟩
    · exact ⟨_, _, take_small b c many cs R hc hl hm (by omega), p1 _, p2 _, _, _, _, _, rfl, Int.le_refl _, by omega, hl⟩
  · exact ⟨_, _, take_big a b c many cs R (by omega) hm hm2, p1 _, p2 _, _, _, _, _, rfl, Int.ediv_nonneg ha (by omega), hc, hl⟩
/-- one of several -/
theorem some_any {S R : Store} {things : D} {ds : List D} (h : Bag S R) (ht : things = .tup ds ∨ things = .lst ds) (h0 : ds ≠ []) (hl : ds.length < 1000000) : ∃ d S', m__law_some [.loc 0, things] S = .ok d S' ∧ d ∈ ds ∧ Bag S' R := by
  have hpos : 0 < ds.length := List.length_pos_iff.mpr h0
  obtain ⟨v, S', e, h1, h2, hb⟩ := take_any (many := ds.length) h (by omega) (by omega)
  obtain ⟨j, rfl⟩ : ∃ j : Nat, v = (j : Int) := ⟨v.toNat, by omega⟩
  have hj : j < ds.length := by omega
  refine ⟨ds[j], S', ?_, List.getElem_mem hj, hb⟩
  have hat : atI ds (j : Int) = some ds[j] := atI_nat (List.getElem?_eq_getElem hj)
  have hlen : ∀ S, lenP S [things] = some (.int ds.length) := fun S => by
    rcases ht with rfl | rfl <;> rfl
  have hix : ∀ S, ixP S things (.int j) = some ds[j] := fun S => by
    rcases ht with rfl | rfl
    · exact hat
    · exact hat
  unfold m__law_some
  simp [toB, bltM, consM, nilM, M.bind, varM, var, M.opL, M.op2, M.lift, asB, M.pure, bin2, callM, hlen, e, hix, SR.of, SR.bind]

/- L6 -/

def absI (i : Int) : Int := if i < 0 then -i else i
theorem lc_abs (d : D) : ∀ (l : List Int) (S : Store), lcL (fun _ => true) (gN 1) yesT (bltM absP (consM (varM 1) nilM)) [some d, none] (l.map D.int) S = .ok ((l.map absI).map .int) S
  | [], S => by
    unfold lcL
    rfl
  | i :: l, S => by
    have ih := lc_abs d l S
    rw [List.map_cons]
    unfold lcL
    simp [gN, yesT, M.pure, bltM, consM, nilM, M.bind, varM, var, M.opL, absP, ih]
    rfl
theorem cut_63 (ds : List D) (h : ds.length ≤ 63) : cutD ds none (some 63) = ds := by
  have e1 : HT.sIx ds.length 0 none = 0 := rfl
  have e2 : HT.sIx ds.length ds.length (some 63) = ds.length := by
    show (if (63 : Int) < 0 then ((63 : Int) + (ds.length : Int)).toNat else min (63 : Int).toNat ds.length) = ds.length
    rw [if_neg (by decide)]
    exact Nat.min_eq_right h
  unfold cutD
  rw [e1, e2]
  simp
/-- the bag is made -/
theorem bag_made (ns : List Int) (h : ns.length ≤ 63) (R : Store) : m__law_bag [.scr (ns.map .int)] [] = .ok (.loc 0) [bagC 0 1234567891 0 (ns.map absI)] := by
  have hs := sizeLine_eq
  have h4 : (4 : Nat) ≤ sizeLine := by rw [hs]; decide
  have hl : ns.length ≤ sizeLine := by rw [hs]; omega
  have hsl : ∀ S, slP S (.scr (ns.map .int)) none (some 63) = some (.lst (ns.map .int)) := fun S => by
    unfold slP asS
    simp [cut_63 (ns.map D.int) (by simpa using h)]
  have hst : still (.lst (ns.map D.int)) (ns.map D.int) = fun _ => true := rfl
  have hlc := lc_abs (.scr (ns.map .int)) ns []
  unfold m__law_bag
  simp [cellM, consM, nilM, M.bind, varM, var, M.opL, M.pure, lcM, lcI, seqI, slM, noP, opP, optI, asI, M.lift, opS, hsl, srcA, asS, asL, hst, wipeE, hlc, hl, newCell, h4, SR.of]

/- L8 -/
/-- the int of a draw below a small number, by cases -/
theorem neg_int (S : Store) (i : Int) : negP S (.int i) = some (.int (-i)) := rfl
theorem len_ok (n : Nat) (h : n ≤ 1000) : n ≤ sizeLine := by rw [sizeLine_eq]; omega
/- L9 -/

/- L11 -/

/- L12 -/
theorem cut_mem {ds : List D} {lo hi : Option Int} {e : D} (h : e ∈ cutD ds lo hi) : e ∈ ds := List.mem_of_mem_drop (List.mem_of_mem_take h)
theorem cut_len (ds : List D) (lo hi : Option Int) : (cutD ds lo hi).length ≤ ds.length := by
  unfold cutD
  rw [List.length_take, List.length_drop]
  omega
theorem sl_tup (S : Store) (ds : List D) (lo hi : Option Int) : slP S (.tup ds) lo hi = some (.tup (cutD ds lo hi)) := rfl
theorem add_tups (S : Store) (xs ys : List D) (h : xs.length + ys.length ≤ sizeLine) : addP S (.tup xs) (.tup ys) = some (.tup (xs ++ ys)) := if_pos h
theorem pow6 (S : Store) : powP S (.int 10) (.int 6) = some (.int 1000000) := by
  show (if CPow 10 6 then some (D.int (10 ^ (6 : Int).toNat)) else none) = _
  rw [if_pos (show CPow 10 6 from ⟨by decide, by decide, by decide⟩)]
  rfl
/- L15 -/
theorem len_tup (S : Store) (ds : List D) : lenP S [.tup ds] = some (.int ds.length) := rfl
theorem list_tup (S : Store) (ds : List D) : listP S [.tup ds] = some (.lst ds) := rfl
theorem rev_tup (S : Store) (ds : List D) : revP S (.tup ds) = some (.tup ds.reverse) := rfl
theorem ix_tup' (S : Store) (ds : List D) (i : Int) : ixP S (.tup ds) (.int i) = atI ds i := rfl
/- L16 -/

theorem bag_get {S R : Store} (h : Bag S R) (i : Nat) : S[i + 1]? = R[i]? := by
  obtain ⟨a, b, c, cs, rfl, _⟩ := h
  rfl
theorem bag_set {S R : Store} (h : Bag S R) (i : Nat) (c : Cell) : Bag (S.set (i + 1) c) (R.set i c) := by
  obtain ⟨a, b, c', cs, rfl, h1⟩ := h
  exact ⟨a, b, c', cs, rfl, h1⟩
theorem bag_add {S R : Store} (h : Bag S R) (c : Cell) : Bag (S ++ [c]) (R ++ [c]) := by
  obtain ⟨a, b, c', cs, rfl, h1⟩ := h
  exact ⟨a, b, c', cs, rfl, h1⟩
theorem bag_len {S R : Store} (h : Bag S R) : S.length = R.length + 1 := by
  obtain ⟨a, b, c', cs, rfl, h1⟩ := h
  rfl
theorem last_get (R : Store) (c : Cell) : (R ++ [c])[R.length]? = some c := by simp
theorem last_set (R : Store) (c c' : Cell) : (R ++ [c]).set R.length c' = R ++ [c'] := by simp
/-- one turn of mixed: a thing put in somewhere -/
theorem mixed_turns {R : Store} {n : Nat} (hn : n = R.length + 1) (t0 : D) : ∀ (ds l : List D) (d3 : Option D) {S : Store}, Bag S (R ++ [.lst l]) → l.length + ds.length ≤ 50 →
    ∃ (l' : List D) (d3' : Option D) (S' : Store), loopS (fun _ => true) (gN 3) (exprM (methM "list" insertP (varM 2) (consM (callM 2 m__law_take (consM (varM 0) (consM (bin2 addP (bltM lenP (consM (varM 2) nilM)) (cM (.int 1))) nilM))) (consM (varM 3) nilM)))) ds [some (.loc 0), some t0, some (.loc n), d3] S =
      .nx [some (.loc 0), some t0, some (.loc n), d3'] S' ∧ l'.Perm (l ++ ds) ∧ Bag S' (R ++ [.lst l'])
  | [], l, d3, S, hb, _ => ⟨l, d3, S, rfl, by simp, hb⟩
  | d :: ds, l, d3, S, hb, hl => by
    have hsz := sizeLine_eq
    have g1 : ∀ {S : Store} {l : List D}, Bag S (R ++ [.lst l]) → S[n]? = some (.lst l) := fun h => by
      rw [hn, bag_get h]
      exact last_get R _
    have hlen : ∀ {S : Store} {l : List D}, Bag S (R ++ [.lst l]) → lenP S [.loc n] = some (.int l.length) := fun h => by
      unfold lenP asQ asL
      simp [g1 h]
    simp only [List.length_cons] at hl
    obtain ⟨v, S1, e1, v0, v1, b1⟩ := take_any (many := (l.length : Int) + 1) hb (by omega) (by omega)
    have hty : tyOk "list" S (.loc n) = true := by
      unfold tyOk asS asL
      simp [g1 hb]
    have hins : insertP S1 (.loc n) [.int v, d] = some (.non, S1.set n (.lst (l.take v.toNat ++ [d] ++ l.drop v.toNat))) := by
      unfold insertP cellL
      simp [g1 b1]
      rw [hsz]
      omega
    have b2 : Bag (S1.set n (.lst (l.take v.toNat ++ [d] ++ l.drop v.toNat))) (R ++ [.lst (l.take v.toNat ++ [d] ++ l.drop v.toNat)]) := by
      rw [hn]
      have := bag_set b1 R.length (.lst (l.take v.toNat ++ [d] ++ l.drop v.toNat))
      rw [last_set] at this
      exact this
    obtain ⟨l', d3', S', e3, p3, b3⟩ := mixed_turns hn t0 ds _ (some d) b2 (by simp; omega)
    refine ⟨l', d3', S', ?_, p3.trans ?_, b3⟩
    · unfold loopS
      simp only [gN]
      have hstep : exprM (methM "list" insertP (varM 2) (consM (callM 2 m__law_take (consM (varM 0) (consM (bin2 addP (bltM lenP (consM (varM 2) nilM)) (cM (.int 1))) nilM))) (consM (varM 3) nilM))) [some (.loc 0), some t0, some (.loc n), some d] S = .nx [some (.loc 0), some t0, some (.loc n), some d] (S1.set n (.lst (l.take v.toNat ++ [d] ++ l.drop v.toNat))) := by
        simp [exprM, methM, guard_bind, hty, bltM, consM, nilM, M.bind, varM, var, M.opL, M.op2, M.opM, M.pure, bin2, callM, hlen hb, add_ints, e1, hins, SR.of, M.guard]
      simp only [List.set]
      rw [hstep]
      exact e3
    · have q : (l.take v.toNat ++ [d] ++ l.drop v.toNat).Perm (l ++ [d]) := by
        rw [List.append_assoc]
        refine (List.perm_append_comm_assoc _ _ _).trans ?_
        rw [List.take_append_drop]
        exact List.perm_append_comm
      simpa using q.append_right ds

/- L17 -/

/-- mixed: a new cell behind, with the things in another order -/
theorem mixed_any {S R : Store} {ds : List D} (hb : Bag S R) (hl : ds.length ≤ 50) : ∃ (l : List D) (S' : Store), m__law_mixed [.loc 0, .lst ds] S = .ok (.loc (R.length + 1)) S' ∧ l.Perm ds ∧ Bag S' (R ++ [.lst l]) := by
  have hsz := sizeLine_eq
  have l0 := len_ok 0 (by decide)
  have b1 := bag_add hb (.lst [])
  obtain ⟨l, d3, S', e, p, b2⟩ := mixed_turns (R := R) (n := R.length + 1) rfl (.lst ds) ds [] none b1 (by simpa using hl)
  refine ⟨l, S', ?_, by simpa using p, b2⟩
  have hst : still (.lst ds) ds = fun _ => true := rfl
  have hlen := bag_len hb
  unfold m__law_mixed
  simp [cellM, nilM, newCell, M.bind, M.pure, varM, var, forM, seqI, srcA, asS, asL, hst, hlen, e, SR.of, SR.bind]

/- L18 -/

/-- item by item -/
inductive Two {α β : Type} (B : α → β → Prop) : List α → List β → Prop
  | nil : Two B [] []
  | cons {a : α} {b : β} {as : List α} {bs : List β} : B a b → Two B as bs → Two B (a :: as) (b :: bs)
theorem Two.length {α β : Type} {B : α → β → Prop} : ∀ {as : List α} {bs : List β}, Two B as bs → bs.length = as.length
  | _, _, .nil => rfl
  | _, _, .cons _ t => congrArg (· + 1) t.length
theorem Two.mem {α β : Type} {B : α → β → Prop} : ∀ {as : List α} {bs : List β}, Two B as bs → ∀ b ∈ bs, ∃ a ∈ as, B a b
  | _, _, .nil, b, hb => by simp at hb
  | _, _, .cons (a := a) h t, b, hb => by
    rcases List.mem_cons.mp hb with rfl | hb
    · exact ⟨a, by simp, h⟩
    · obtain ⟨a', h1, h2⟩ := t.mem b hb
      exact ⟨a', by simp [h1], h2⟩
/-- a comprehension without tests -/
theorem lc_map {g : D → Env' → Option Env'} {me : Env' → M D} {ρ : Env'} {I : Store → Prop} {B : D → D → Prop} : ∀ {ds : List D} {S : Store}, I S → (∀ d ∈ ds, ∀ S, I S → ∃ ρ2, g d ρ = some ρ2 ∧ ∃ y S2, me ρ2 S = .ok y S2 ∧ B d y ∧ I S2) →
    ∃ ys S', lcL (fun _ => true) g yesT me ρ ds S = .ok ys S' ∧ Two B ds ys ∧ I S'
  | [], S, hI, _ => ⟨[], S, rfl, .nil, hI⟩
  | d :: ds, S, hI, h => by
    obtain ⟨ρ2, e1, y, S2, e2, hB, hI2⟩ := h d (by simp) S hI
    obtain ⟨ys, S3, e3, t, hI3⟩ := lc_map (ds := ds) hI2 (fun d' hd => h d' (by simp [hd]))
    refine ⟨y :: ys, S3, ?_, .cons hB t, hI3⟩
    unfold lcL
    simp [e1, yesT, M.pure, e2, e3]
/-- with a test that changes nothing -/
theorem lc_sift {g : D → Env' → Option Env'} {mt : Env' → M Bool} {me : Env' → M D} {ρ : Env'} {S : Store} {A : D → Prop} : ∀ {ds : List D}, (∀ d ∈ ds, ∃ ρ2, g d ρ = some ρ2 ∧ ∃ b, mt ρ2 S = .ok b S ∧ (b = true → ∃ y, me ρ2 S = .ok y S ∧ A y)) →
    ∃ ys, lcL (fun _ => true) g mt me ρ ds S = .ok ys S ∧ (∀ y ∈ ys, A y) ∧ ys.length ≤ ds.length
  | [], _ => ⟨[], rfl, by simp, Nat.le_refl _⟩
  | d :: ds, h => by
    obtain ⟨ρ2, e1, b, e2, hb⟩ := h d (by simp)
    obtain ⟨ys, e3, hA, hl⟩ := lc_sift (ds := ds) (fun d' hd => h d' (by simp [hd]))
    cases b with
    | true =>
      obtain ⟨y, e4, hy⟩ := hb rfl
      refine ⟨y :: ys, ?_, ?_, by simp; omega⟩
      · unfold lcL
        simp [e1, e2, e4, e3]
      · intro z hz
        rcases List.mem_cons.mp hz with rfl | hz
        · exact hy
        · exact hA z hz
    | false =>
      refine ⟨ys, ?_, hA, by simp; omega⟩
      unfold lcL
      simp [e1, e2, e3]

/- L20 -/
theorem cut_take (l : List D) (j : Nat) : cutD l none (some (j : Int)) = l.take j := by
  have z1 : HT.sIx l.length 0 none = 0 := rfl
  have z2 : HT.sIx l.length l.length (some (j : Int)) = min j l.length := HT.sIx_nat _ _ _
  unfold cutD
  rw [z1, z2]
  simp
/- L21 -/
theorem tuple_lst (S : Store) (ds : List D) : tupleP S [.lst ds] = some (.tup ds) := rfl
theorem still_lst (xs ys : List D) : still (.lst xs) ys = fun _ => true := rfl
/- L25 -/
theorem eq_strs (S : Store) (x y : Str) : eqP S (.str x) (.str y) = some (.bl (decide (x = y))) := by
  unfold eqP eqQ scalD
  simp [L2.scal]
theorem ne_strs (S : Store) (x y : Str) : neP S (.str x) (.str y) = some (.bl (!decide (x = y))) := by
  unfold neP eqQ scalD
  simp [L2.scal]
theorem ne_ints (S : Store) (i j : Int) : neP S (.int i) (.int j) = some (.bl (!decide (i = j))) := by
  unfold neP eqQ scalD
  simp [L2.scal]
theorem eqV_str (x y : Str) : L2.eqV (.str y) (.str x) = decide (x = y) := by
  by_cases h : x = y
  · subst h
    simp [L2.eqV]
  · have h' : y ≠ x := fun z => h z.symm
    simp [L2.eqV, h, h']
theorem in_tup2 (S : Store) (x a b : Str) : inP S (.str x) (.tup [.str a, .str b]) = some (.bl (decide (x = a) || decide (x = b))) := by
  unfold inP inQ
  simp [asQ, scalD, scalL, L2.inV, eqV_str]
theorem nin_tup2 (S : Store) (x a b : Str) : ninP S (.str x) (.tup [.str a, .str b]) = some (.bl (!(decide (x = a) || decide (x = b)))) := by
  unfold ninP inQ
  simp [asQ, scalD, scalL, L2.inV, eqV_str]
theorem in_tup3 (S : Store) (x a b c : Str) : inP S (.str x) (.tup [.str a, .str b, .str c]) = some (.bl (decide (x = a) || (decide (x = b) || decide (x = c)))) := by
  unfold inP inQ
  simp [asQ, scalD, scalL, L2.inV, eqV_str]
theorem nin_tup3 (S : Store) (x a b c : Str) : ninP S (.str x) (.tup [.str a, .str b, .str c]) = some (.bl (!(decide (x = a) || (decide (x = b) || decide (x = c))))) := by
  unfold ninP inQ
  simp [asQ, scalD, scalL, L2.inV, eqV_str]
theorem in_tup4 (S : Store) (x a b c d : Str) : inP S (.str x) (.tup [.str a, .str b, .str c, .str d]) = some (.bl (decide (x = a) || (decide (x = b) || (decide (x = c) || decide (x = d))))) := by
  unfold inP inQ
  simp [asQ, scalD, scalL, L2.inV, eqV_str]
theorem at_0 (a : D) (r : List D) : atI (a :: r) (0 : Int) = some a := atI_nat (j := 0) rfl
/- L27 -/
/-- only new cells behind -/
def Ext (S S' : Store) : Prop := ∃ T, S' = S ++ T
theorem Ext.refl (S : Store) : Ext S S := ⟨[], by simp⟩
theorem Ext.trans {S S' S'' : Store} (a : Ext S S') (b : Ext S' S'') : Ext S S'' := by
  obtain ⟨T, rfl⟩ := a
  obtain ⟨U, rfl⟩ := b
  exact ⟨T ++ U, by simp⟩
theorem Ext.get {S S' : Store} (a : Ext S S') {n : Nat} {c : Cell} (h : S[n]? = some c) : S'[n]? = some c := by
  obtain ⟨T, rfl⟩ := a
  rw [List.getElem?_append_left (List.getElem?_eq_some_iff.mp h).1]
  exact h
theorem Ext.bag {S S' R : Store} (a : Ext S S') (h : Bag S R) : ∃ R', Bag S' R' := by
  obtain ⟨T, rfl⟩ := a
  obtain ⟨a, b, c, cs, rfl, h1⟩ := h
  exact ⟨R ++ T, a, b, c, cs, rfl, h1⟩
/- k02/M2 -/
def ShD (n w : Nat) (d : D) : Prop := ∀ S : Store, ∃ p, d.py S = some p ∧ p.canLay0 = true ∧ p.showable = true ∧ p.depth ≤ n ∧ p.shown.length ≤ w
theorem ShD.mono {n m w v : Nat} {d : D} (h : ShD n w d) (hn : n ≤ m) (hw : w ≤ v) : ShD m v d := fun S => by
  obtain ⟨p, h1, h2, h3, h4, h5⟩ := h S
  exact ⟨p, h1, h2, h3, by omega, by omega⟩
inductive ShL (n : Nat) : List D → Nat → Prop
  | nil : ShL n [] 0
  | cons {d : D} {ds : List D} {w W : Nat} : ShD n w d → ShL n ds W → ShL n (d :: ds) (w + 2 + W)
theorem ShL.py {n : Nat} (S : Store) : ∀ {ds : List D} {W : Nat}, ShL n ds W → ∃ ps, D.pyL S ds = some ps ∧ PyData.canLayAll0 ps = true ∧ PyData.showableAll ps = true ∧ PyData.depthAll ps ≤ n ∧ piled (PyData.shownAll ps) ≤ W
  | _, _, .nil => ⟨[], by simp [D.pyL], rfl, rfl, Nat.zero_le _, by simp [PyData.shownAll, piled]⟩
  | _, _, .cons h t => by
    obtain ⟨p, h1, h2, h3, h4, h5⟩ := h S
    obtain ⟨ps, g1, g2, g3, g4, g5⟩ := ShL.py S t
    refine ⟨p :: ps, by simp [D.pyL, h1, g1], by simp [PyData.canLayAll0, h2, g2], by simp [PyData.showableAll, h3, g3], by simp only [PyData.depthAll]; omega, ?_⟩
    simp only [PyData.shownAll, piled, List.map_cons, List.sum_cons] at g5 ⊢
    omega
theorem tuple_len (ts : List Str) : (tupleText ts).length ≤ piled ts + 4 := by
  unfold tupleText
  rw [strLen_append, strLen_append]
  have e1 : (("(" : Str)).length = 1 := by decide +kernel
  have e2 : ((if ts.length == 1 then ",)" else ")" : String) : Str).length ≤ 2 := by split <;> decide +kernel
  cases ts with
  | nil =>
    have e3 : (Str.join ", " []).length = 0 := by decide +kernel
    omega
  | cons a r =>
    have := join_length_add (a :: r) (by simp)
    omega
theorem sh_tup {n W : Nat} {ds : List D} (h : ShL n ds W) : ShD (n + 1) (W + 4) (.tup ds) := fun S => by
  obtain ⟨ps, g1, g2, g3, g4, g5⟩ := h.py S
  refine ⟨.tuple ps, by simp [D.py, g1], by simp [PyData.canLay0, g2], by simp [PyData.showable, g3], by simp only [PyData.depth]; omega, ?_⟩
  have := tuple_len (PyData.shownAll ps)
  show (tupleText (PyData.shownAll ps)).length ≤ _
  omega
/- k02/M9 -/
@[simp] theorem kn_barred_money : (Str.ofString "barred" = Str.ofString "money") = False := eq_false (by decide +kernel)
@[simp] theorem kn_barred_each : (Str.ofString "barred" = Str.ofString "each") = False := eq_false (by decide +kernel)
@[simp] theorem kn_barred_packs : (Str.ofString "barred" = Str.ofString "packs") = False := eq_false (by decide +kernel)
@[simp] theorem kn_barred_full : (Str.ofString "barred" = Str.ofString "full") = False := eq_false (by decide +kernel)
@[simp] theorem kn_barred_greatest : (Str.ofString "barred" = Str.ofString "greatest") = False := eq_false (by decide +kernel)
@[simp] theorem kn_barred_least : (Str.ofString "barred" = Str.ofString "least") = False := eq_false (by decide +kernel)
@[simp] theorem kn_barred_less : (Str.ofString "barred" = Str.ofString "less") = False := eq_false (by decide +kernel)
@[simp] theorem kn_barred_plus : (Str.ofString "barred" = Str.ofString "plus") = False := eq_false (by decide +kernel)
@[simp] theorem kn_barred_from : (Str.ofString "barred" = Str.ofString "from") = False := eq_false (by decide +kernel)
@[simp] theorem kn_barred_share : (Str.ofString "barred" = Str.ofString "share") = False := eq_false (by decide +kernel)
@[simp] theorem kn_barred_above : (Str.ofString "barred" = Str.ofString "above") = False := eq_false (by decide +kernel)
@[simp] theorem kn_money_barred : (Str.ofString "money" = Str.ofString "barred") = False := eq_false (by decide +kernel)
@[simp] theorem kn_money_each : (Str.ofString "money" = Str.ofString "each") = False := eq_false (by decide +kernel)
@[simp] theorem kn_money_packs : (Str.ofString "money" = Str.ofString "packs") = False := eq_false (by decide +kernel)
@[simp] theorem kn_money_full : (Str.ofString "money" = Str.ofString "full") = False := eq_false (by decide +kernel)
@[simp] theorem kn_money_greatest : (Str.ofString "money" = Str.ofString "greatest") = False := eq_false (by decide +kernel)
@[simp] theorem kn_money_least : (Str.ofString "money" = Str.ofString "least") = False := eq_false (by decide +kernel)
@[simp] theorem kn_money_less : (Str.ofString "money" = Str.ofString "less") = False := eq_false (by decide +kernel)
@[simp] theorem kn_money_plus : (Str.ofString "money" = Str.ofString "plus") = False := eq_false (by decide +kernel)
@[simp] theorem kn_money_from : (Str.ofString "money" = Str.ofString "from") = False := eq_false (by decide +kernel)
@[simp] theorem kn_money_share : (Str.ofString "money" = Str.ofString "share") = False := eq_false (by decide +kernel)
@[simp] theorem kn_money_above : (Str.ofString "money" = Str.ofString "above") = False := eq_false (by decide +kernel)
@[simp] theorem kn_each_barred : (Str.ofString "each" = Str.ofString "barred") = False := eq_false (by decide +kernel)
@[simp] theorem kn_each_money : (Str.ofString "each" = Str.ofString "money") = False := eq_false (by decide +kernel)
@[simp] theorem kn_each_packs : (Str.ofString "each" = Str.ofString "packs") = False := eq_false (by decide +kernel)
@[simp] theorem kn_each_full : (Str.ofString "each" = Str.ofString "full") = False := eq_false (by decide +kernel)
@[simp] theorem kn_each_greatest : (Str.ofString "each" = Str.ofString "greatest") = False := eq_false (by decide +kernel)
@[simp] theorem kn_each_least : (Str.ofString "each" = Str.ofString "least") = False := eq_false (by decide +kernel)
@[simp] theorem kn_each_less : (Str.ofString "each" = Str.ofString "less") = False := eq_false (by decide +kernel)
@[simp] theorem kn_each_plus : (Str.ofString "each" = Str.ofString "plus") = False := eq_false (by decide +kernel)
@[simp] theorem kn_each_from : (Str.ofString "each" = Str.ofString "from") = False := eq_false (by decide +kernel)
@[simp] theorem kn_each_share : (Str.ofString "each" = Str.ofString "share") = False := eq_false (by decide +kernel)
@[simp] theorem kn_each_above : (Str.ofString "each" = Str.ofString "above") = False := eq_false (by decide +kernel)
@[simp] theorem kn_packs_barred : (Str.ofString "packs" = Str.ofString "barred") = False := eq_false (by decide +kernel)
@[simp] theorem kn_packs_money : (Str.ofString "packs" = Str.ofString "money") = False := eq_false (by decide +kernel)
@[simp] theorem kn_packs_each : (Str.ofString "packs" = Str.ofString "each") = False := eq_false (by decide +kernel)
@[simp] theorem kn_packs_full : (Str.ofString "packs" = Str.ofString "full") = False := eq_false (by decide +kernel)
@[simp] theorem kn_packs_greatest : (Str.ofString "packs" = Str.ofString "greatest") = False := eq_false (by decide +kernel)
@[simp] theorem kn_packs_least : (Str.ofString "packs" = Str.ofString "least") = False := eq_false (by decide +kernel)
@[simp] theorem kn_packs_less : (Str.ofString "packs" = Str.ofString "less") = False := eq_false (by decide +kernel)
@[simp] theorem kn_packs_plus : (Str.ofString "packs" = Str.ofString "plus") = False := eq_false (by decide +kernel)
@[simp] theorem kn_packs_from : (Str.ofString "packs" = Str.ofString "from") = False := eq_false (by decide +kernel)
@[simp] theorem kn_packs_share : (Str.ofString "packs" = Str.ofString "share") = False := eq_false (by decide +kernel)
@[simp] theorem kn_packs_above : (Str.ofString "packs" = Str.ofString "above") = False := eq_false (by decide +kernel)
@[simp] theorem kn_full_barred : (Str.ofString "full" = Str.ofString "barred") = False := eq_false (by decide +kernel)
@[simp] theorem kn_full_money : (Str.ofString "full" = Str.ofString "money") = False := eq_false (by decide +kernel)
@[simp] theorem kn_full_each : (Str.ofString "full" = Str.ofString "each") = False := eq_false (by decide +kernel)
@[simp] theorem kn_full_packs : (Str.ofString "full" = Str.ofString "packs") = False := eq_false (by decide +kernel)
@[simp] theorem kn_full_greatest : (Str.ofString "full" = Str.ofString "greatest") = False := eq_false (by decide +kernel)
@[simp] theorem kn_full_least : (Str.ofString "full" = Str.ofString "least") = False := eq_false (by decide +kernel)
@[simp] theorem kn_full_less : (Str.ofString "full" = Str.ofString "less") = False := eq_false (by decide +kernel)
@[simp] theorem kn_full_plus : (Str.ofString "full" = Str.ofString "plus") = False := eq_false (by decide +kernel)
@[simp] theorem kn_full_from : (Str.ofString "full" = Str.ofString "from") = False := eq_false (by decide +kernel)
@[simp] theorem kn_full_share : (Str.ofString "full" = Str.ofString "share") = False := eq_false (by decide +kernel)
@[simp] theorem kn_full_above : (Str.ofString "full" = Str.ofString "above") = False := eq_false (by decide +kernel)
@[simp] theorem kn_greatest_barred : (Str.ofString "greatest" = Str.ofString "barred") = False := eq_false (by decide +kernel)
@[simp] theorem kn_greatest_money : (Str.ofString "greatest" = Str.ofString "money") = False := eq_false (by decide +kernel)
@[simp] theorem kn_greatest_each : (Str.ofString "greatest" = Str.ofString "each") = False := eq_false (by decide +kernel)
@[simp] theorem kn_greatest_packs : (Str.ofString "greatest" = Str.ofString "packs") = False := eq_false (by decide +kernel)
@[simp] theorem kn_greatest_full : (Str.ofString "greatest" = Str.ofString "full") = False := eq_false (by decide +kernel)
@[simp] theorem kn_greatest_least : (Str.ofString "greatest" = Str.ofString "least") = False := eq_false (by decide +kernel)
@[simp] theorem kn_greatest_less : (Str.ofString "greatest" = Str.ofString "less") = False := eq_false (by decide +kernel)
@[simp] theorem kn_greatest_plus : (Str.ofString "greatest" = Str.ofString "plus") = False := eq_false (by decide +kernel)
@[simp] theorem kn_greatest_from : (Str.ofString "greatest" = Str.ofString "from") = False := eq_false (by decide +kernel)
@[simp] theorem kn_greatest_share : (Str.ofString "greatest" = Str.ofString "share") = False := eq_false (by decide +kernel)
@[simp] theorem kn_greatest_above : (Str.ofString "greatest" = Str.ofString "above") = False := eq_false (by decide +kernel)
@[simp] theorem kn_least_barred : (Str.ofString "least" = Str.ofString "barred") = False := eq_false (by decide +kernel)
@[simp] theorem kn_least_money : (Str.ofString "least" = Str.ofString "money") = False := eq_false (by decide +kernel)
@[simp] theorem kn_least_each : (Str.ofString "least" = Str.ofString "each") = False := eq_false (by decide +kernel)
@[simp] theorem kn_least_packs : (Str.ofString "least" = Str.ofString "packs") = False := eq_false (by decide +kernel)
@[simp] theorem kn_least_full : (Str.ofString "least" = Str.ofString "full") = False := eq_false (by decide +kernel)
@[simp] theorem kn_least_greatest : (Str.ofString "least" = Str.ofString "greatest") = False := eq_false (by decide +kernel)
@[simp] theorem kn_least_less : (Str.ofString "least" = Str.ofString "less") = False := eq_false (by decide +kernel)
@[simp] theorem kn_least_plus : (Str.ofString "least" = Str.ofString "plus") = False := eq_false (by decide +kernel)
@[simp] theorem kn_least_from : (Str.ofString "least" = Str.ofString "from") = False := eq_false (by decide +kernel)
@[simp] theorem kn_least_share : (Str.ofString "least" = Str.ofString "share") = False := eq_false (by decide +kernel)
@[simp] theorem kn_least_above : (Str.ofString "least" = Str.ofString "above") = False := eq_false (by decide +kernel)
@[simp] theorem kn_less_barred : (Str.ofString "less" = Str.ofString "barred") = False := eq_false (by decide +kernel)
@[simp] theorem kn_less_money : (Str.ofString "less" = Str.ofString "money") = False := eq_false (by decide +kernel)
@[simp] theorem kn_less_each : (Str.ofString "less" = Str.ofString "each") = False := eq_false (by decide +kernel)
@[simp] theorem kn_less_packs : (Str.ofString "less" = Str.ofString "packs") = False := eq_false (by decide +kernel)
@[simp] theorem kn_less_full : (Str.ofString "less" = Str.ofString "full") = False := eq_false (by decide +kernel)
@[simp] theorem kn_less_greatest : (Str.ofString "less" = Str.ofString "greatest") = False := eq_false (by decide +kernel)
@[simp] theorem kn_less_least : (Str.ofString "less" = Str.ofString "least") = False := eq_false (by decide +kernel)
@[simp] theorem kn_less_plus : (Str.ofString "less" = Str.ofString "plus") = False := eq_false (by decide +kernel)
@[simp] theorem kn_less_from : (Str.ofString "less" = Str.ofString "from") = False := eq_false (by decide +kernel)
@[simp] theorem kn_less_share : (Str.ofString "less" = Str.ofString "share") = False := eq_false (by decide +kernel)
@[simp] theorem kn_less_above : (Str.ofString "less" = Str.ofString "above") = False := eq_false (by decide +kernel)
@[simp] theorem kn_plus_barred : (Str.ofString "plus" = Str.ofString "barred") = False := eq_false (by decide +kernel)
@[simp] theorem kn_plus_money : (Str.ofString "plus" = Str.ofString "money") = False := eq_false (by decide +kernel)
@[simp] theorem kn_plus_each : (Str.ofString "plus" = Str.ofString "each") = False := eq_false (by decide +kernel)
@[simp] theorem kn_plus_packs : (Str.ofString "plus" = Str.ofString "packs") = False := eq_false (by decide +kernel)
@[simp] theorem kn_plus_full : (Str.ofString "plus" = Str.ofString "full") = False := eq_false (by decide +kernel)
@[simp] theorem kn_plus_greatest : (Str.ofString "plus" = Str.ofString "greatest") = False := eq_false (by decide +kernel)
@[simp] theorem kn_plus_least : (Str.ofString "plus" = Str.ofString "least") = False := eq_false (by decide +kernel)
@[simp] theorem kn_plus_less : (Str.ofString "plus" = Str.ofString "less") = False := eq_false (by decide +kernel)
@[simp] theorem kn_plus_from : (Str.ofString "plus" = Str.ofString "from") = False := eq_false (by decide +kernel)
@[simp] theorem kn_plus_share : (Str.ofString "plus" = Str.ofString "share") = False := eq_false (by decide +kernel)
@[simp] theorem kn_plus_above : (Str.ofString "plus" = Str.ofString "above") = False := eq_false (by decide +kernel)
@[simp] theorem kn_from_barred : (Str.ofString "from" = Str.ofString "barred") = False := eq_false (by decide +kernel)
@[simp] theorem kn_from_money : (Str.ofString "from" = Str.ofString "money") = False := eq_false (by decide +kernel)
@[simp] theorem kn_from_each : (Str.ofString "from" = Str.ofString "each") = False := eq_false (by decide +kernel)
@[simp] theorem kn_from_packs : (Str.ofString "from" = Str.ofString "packs") = False := eq_false (by decide +kernel)
@[simp] theorem kn_from_full : (Str.ofString "from" = Str.ofString "full") = False := eq_false (by decide +kernel)
@[simp] theorem kn_from_greatest : (Str.ofString "from" = Str.ofString "greatest") = False := eq_false (by decide +kernel)
@[simp] theorem kn_from_least : (Str.ofString "from" = Str.ofString "least") = False := eq_false (by decide +kernel)
@[simp] theorem kn_from_less : (Str.ofString "from" = Str.ofString "less") = False := eq_false (by decide +kernel)
@[simp] theorem kn_from_plus : (Str.ofString "from" = Str.ofString "plus") = False := eq_false (by decide +kernel)
@[simp] theorem kn_from_share : (Str.ofString "from" = Str.ofString "share") = False := eq_false (by decide +kernel)
@[simp] theorem kn_from_above : (Str.ofString "from" = Str.ofString "above") = False := eq_false (by decide +kernel)
@[simp] theorem kn_share_barred : (Str.ofString "share" = Str.ofString "barred") = False := eq_false (by decide +kernel)
@[simp] theorem kn_share_money : (Str.ofString "share" = Str.ofString "money") = False := eq_false (by decide +kernel)
@[simp] theorem kn_share_each : (Str.ofString "share" = Str.ofString "each") = False := eq_false (by decide +kernel)
@[simp] theorem kn_share_packs : (Str.ofString "share" = Str.ofString "packs") = False := eq_false (by decide +kernel)
@[simp] theorem kn_share_full : (Str.ofString "share" = Str.ofString "full") = False := eq_false (by decide +kernel)
@[simp] theorem kn_share_greatest : (Str.ofString "share" = Str.ofString "greatest") = False := eq_false (by decide +kernel)
@[simp] theorem kn_share_least : (Str.ofString "share" = Str.ofString "least") = False := eq_false (by decide +kernel)
@[simp] theorem kn_share_less : (Str.ofString "share" = Str.ofString "less") = False := eq_false (by decide +kernel)
@[simp] theorem kn_share_plus : (Str.ofString "share" = Str.ofString "plus") = False := eq_false (by decide +kernel)
@[simp] theorem kn_share_from : (Str.ofString "share" = Str.ofString "from") = False := eq_false (by decide +kernel)
@[simp] theorem kn_share_above : (Str.ofString "share" = Str.ofString "above") = False := eq_false (by decide +kernel)
@[simp] theorem kn_above_barred : (Str.ofString "above" = Str.ofString "barred") = False := eq_false (by decide +kernel)
@[simp] theorem kn_above_money : (Str.ofString "above" = Str.ofString "money") = False := eq_false (by decide +kernel)
@[simp] theorem kn_above_each : (Str.ofString "above" = Str.ofString "each") = False := eq_false (by decide +kernel)
@[simp] theorem kn_above_packs : (Str.ofString "above" = Str.ofString "packs") = False := eq_false (by decide +kernel)
@[simp] theorem kn_above_full : (Str.ofString "above" = Str.ofString "full") = False := eq_false (by decide +kernel)
@[simp] theorem kn_above_greatest : (Str.ofString "above" = Str.ofString "greatest") = False := eq_false (by decide +kernel)
@[simp] theorem kn_above_least : (Str.ofString "above" = Str.ofString "least") = False := eq_false (by decide +kernel)
@[simp] theorem kn_above_less : (Str.ofString "above" = Str.ofString "less") = False := eq_false (by decide +kernel)
@[simp] theorem kn_above_plus : (Str.ofString "above" = Str.ofString "plus") = False := eq_false (by decide +kernel)
@[simp] theorem kn_above_from : (Str.ofString "above" = Str.ofString "from") = False := eq_false (by decide +kernel)
@[simp] theorem kn_above_share : (Str.ofString "above" = Str.ofString "share") = False := eq_false (by decide +kernel)
end PyM
set_option Elab.async false
set_option linter.all false
set_option maxRecDepth 100000
set_option maxHeartbeats 8000000
namespace PyM
open PySem PySem.Spec PyProof.Rows L2
/-! ### prices, as data -/
inductive Pr where
  | money (i : Int) | each (i : Int) | packs (k i : Int) | full (k i : Int) | barred
  | bin (w : Str) (p q : Pr) | from_ (m : Int) (p q : Pr) | share (p : Pr) (a b : Int) (w : Str) | above (p : Pr) (c : Int) (q r : Pr)
namespace Pr
def d : Pr → D
  | money i => .tup [.str "money", .int i]
  | each i => .tup [.str "each", .int i]
  | packs k i => .tup [.str "packs", .int k, .int i]
  | full k i => .tup [.str "full", .int k, .int i]
  | barred => .tup [.str "barred"]
  | bin w p q => .tup [.str w, p.d, q.d]
  | from_ m p q => .tup [.str "from", .int m, p.d, q.d]
  | share p a b w => .tup [.str "share", p.d, .int a, .int b, .str w]
  | above p c q r => .tup [.str "above", p.d, .int c, q.d, r.d]
end Pr
def Money (i : Int) : Prop := -1000000 ≤ i ∧ i ≤ 1000000
def PairW (w : Str) : Prop := w = "plus" ∨ w = "less" ∨ w = "least" ∨ w = "greatest"
def WayW (w : Str) : Prop := w = "down" ∨ w = "half" ∨ w = "up"
/-- a price, at most so deep -/
def Pr.Ok : Pr → Nat → Prop
  | .money i, _ => Money i
  | .each i, _ => Money i
  | .packs k i, _ => (2 ≤ k ∧ k ≤ 60) ∧ Money i
  | .full k i, _ => (2 ≤ k ∧ k ≤ 60) ∧ Money i
  | .barred, _ => True
  | .bin w p q, n + 1 => PairW w ∧ p.Ok n ∧ q.Ok n
  | .from_ m p q, n + 1 => (1 ≤ m ∧ m ≤ 200) ∧ p.Ok n ∧ q.Ok n
  | .share p a b w, n + 1 => p.Ok n ∧ (0 ≤ a ∧ a ≤ 999) ∧ (1 ≤ b ∧ b ≤ 1000) ∧ WayW w
  | .above p c q r, n + 1 => p.Ok n ∧ Money c ∧ q.Ok n ∧ r.Ok n
  | _, _ => False
theorem Pr.Ok.mono : ∀ {p : Pr} {n m : Nat}, p.Ok n → n ≤ m → p.Ok m
  | .money _, _, _, h, _ => h
  | .each _, _, _, h, _ => h
  | .packs _ _, _, _, h, _ => h
  | .full _ _, _, _, h, _ => h
  | .barred, _, _, h, _ => h
  | .bin _ _ _, n + 1, m + 1, h, hm => ⟨h.1, h.2.1.mono (by omega), h.2.2.mono (by omega)⟩
  | .from_ _ _ _, n + 1, m + 1, h, hm => ⟨h.1, h.2.1.mono (by omega), h.2.2.mono (by omega)⟩
  | .share _ _ _ _, n + 1, m + 1, h, hm => ⟨h.1.mono (by omega), h.2⟩
  | .above _ _ _ _, n + 1, m + 1, h, hm => ⟨h.1.mono (by omega), h.2.1, h.2.2.1.mono (by omega), h.2.2.2.mono (by omega)⟩
  | .bin _ _ _, 0, _, h, _ => h.elim
  | .from_ _ _ _, 0, _, h, _ => h.elim
  | .share _ _ _ _, 0, _, h, _ => h.elim
  | .above _ _ _ _, 0, _, h, _ => h.elim
theorem pick {P : D → Prop} : ∀ {ds : List D}, (∀ d ∈ ds, P d) → ∀ {d : D}, d ∈ ds → P d := fun h d hd => h d hd
theorem mon_of {ds : List D} {d : D} (hd : d ∈ ds) (h : ds.all (fun d => match d with | .int i => decide (-1000000 ≤ i) && decide (i ≤ 1000000) | _ => false) = true) : ∃ i, d = .int i ∧ Money i := by
  have := List.all_eq_true.mp h d hd
  cases d <;> simp at this
  exact ⟨_, rfl, this⟩
theorem rng_of {lo hi : Int} {ds : List D} {d : D} (hd : d ∈ ds) (h : ds.all (fun d => match d with | .int i => decide (lo ≤ i) && decide (i ≤ hi) | _ => false) = true) : ∃ i, d = .int i ∧ lo ≤ i ∧ i ≤ hi := by
  have := List.all_eq_true.mp h d hd
  cases d <;> simp at this
  exact ⟨_, rfl, this⟩
/-- a leaf -/
theorem leaf_draw {S R : Store} {v : Int} (h : Bag S R) (hv : 0 ≤ v) (hv4 : v ≤ 4) : (v < 2 → ∃ p S' x y S1, m__law_some [.loc 0, .lst [.str "money", .str "each"]] S = .ok x S1 ∧ m__law_some [.loc 0, .lst [.int 0, .int 7, .int (-12), .int 1000000, .int (-1000000), .int 45]] S1 = .ok y S' ∧ D.tup [x, y] = Pr.d p ∧ p.Ok 0 ∧ Bag S' R) ∧
    (2 ≤ v → v < 4 → ∃ p S' x y z S1 S2, m__law_some [.loc 0, .lst [.str "packs", .str "full"]] S = .ok x S1 ∧ m__law_some [.loc 0, .lst [.int 2, .int 6, .int 60]] S1 = .ok y S2 ∧ m__law_some [.loc 0, .lst [.int 3, .int (-4), .int 99]] S2 = .ok z S' ∧ D.tup [x, y, z] = Pr.d p ∧ p.Ok 0 ∧ Bag S' R) := by
  refine ⟨fun _ => ?_, fun _ _ => ?_⟩
  · obtain ⟨x, S2, e2, m2, b2⟩ := some_any (things := .lst [.str "money", .str "each"]) h (.inr rfl) (by simp) (by decide)
    obtain ⟨y, S3, e3, m3, b3⟩ := some_any (things := .lst [.int 0, .int 7, .int (-12), .int 1000000, .int (-1000000), .int 45]) b2 (.inr rfl) (by simp) (by decide)
    obtain ⟨i, rfl, hi⟩ := mon_of m3 (by decide)
    simp only [List.mem_cons, List.not_mem_nil, or_false] at m2
    rcases m2 with rfl | rfl
    · exact ⟨.money i, S3, _, _, S2, e2, e3, rfl, hi, b3⟩
    · exact ⟨.each i, S3, _, _, S2, e2, e3, rfl, hi, b3⟩
  · obtain ⟨x, S2, e2, m2, b2⟩ := some_any (things := .lst [.str "packs", .str "full"]) h (.inr rfl) (by simp) (by decide)
    obtain ⟨y, S3, e3, m3, b3⟩ := some_any (things := .lst [.int 2, .int 6, .int 60]) b2 (.inr rfl) (by simp) (by decide)
    obtain ⟨z, S4, e4, m4, b4⟩ := some_any (things := .lst [.int 3, .int (-4), .int 99]) b3 (.inr rfl) (by simp) (by decide)
    obtain ⟨k, rfl, hk⟩ := rng_of (lo := 2) (hi := 60) m3 (by decide)
    obtain ⟨i, rfl, hi⟩ := mon_of m4 (by decide)
    simp only [List.mem_cons, List.not_mem_nil, or_false] at m2
    rcases m2 with rfl | rfl
    · exact ⟨.packs k i, S4, _, _, _, S2, S3, e2, e3, e4, rfl, ⟨hk, hi⟩, b4⟩
    · exact ⟨.full k i, S4, _, _, _, S2, S3, e2, e3, e4, rfl, ⟨hk, hi⟩, b4⟩
/-- a drawn price -/
theorem price_draw {R : Store} : ∀ (n k : Nat) {S : Store}, Bag S R → n < k → ∃ p S', m__law_big_price k [.loc 0, .int n] S = .ok (Pr.d p) S' ∧ p.Ok n ∧ Bag S' R
  | n, 0, S, h, hk => by omega
  | 0, k + 1, S, h, _ => by
    obtain ⟨v, S1, e1, v0, v1, b1⟩ := take_any (many := 5) h (by decide) (by decide)
    have l1 := len_ok 1 (by decide)
    have l2 := len_ok 2 (by decide)
    have l3 := len_ok 3 (by decide)
    have l6 := len_ok 6 (by decide)
    obtain ⟨q1, q2⟩ := leaf_draw b1 v0 (by omega)
    by_cases c1 : v < 2
    · obtain ⟨p, S', x, y, S2, e2, e3, ep, ok, b⟩ := q1 c1
      refine ⟨p, S', ?_, ok, b⟩
      rw [← ep]
      unfold m__law_big_price
      simp [ifV, toB, bltM, consM, nilM, M.bind, varM, var, M.opL, M.op2, M.op1, M.lift, asB, M.pure, bin2, callM, gtP, ltP, e1, c1, lstM, l2, l6, e2, e3, un1, neg_int, tupM, SR.of, SR.bind]
    by_cases c2 : v < 4
    · obtain ⟨p, S', x, y, z, S2, S3, e2, e3, e4, ep, ok, b⟩ := q2 (by omega) c2
      refine ⟨p, S', ?_, ok, b⟩
      rw [← ep]
      unfold m__law_big_price
      simp [ifV, toB, bltM, consM, nilM, M.bind, varM, var, M.opL, M.op2, M.op1, M.lift, asB, M.pure, bin2, callM, gtP, ltP, e1, c1, c2, lstM, l2, l3, e2, e3, e4, un1, neg_int, tupM, SR.of, SR.bind]
    have c3 : v = 4 := by omega
    subst c3
    refine ⟨.barred, S1, ?_, trivial, b1⟩
    unfold m__law_big_price
    simp [ifV, toB, bltM, consM, nilM, M.bind, varM, var, M.opL, M.op2, M.op1, M.lift, asB, M.pure, bin2, callM, gtP, ltP, e1, eq_ints, l1, tupM, SR.of, SR.bind, Pr.d]
  | n + 1, k + 1, S, h, hk => by
    obtain ⟨v, S1, e1, v0, v1, b1⟩ := take_any (many := 11) h (by decide) (by decide)
    have hgt : (0 : Int) < (n : Int) + 1 := by omega
    have l1 := len_ok 1 (by decide)
    have l2 := len_ok 2 (by decide)
    have l3 := len_ok 3 (by decide)
    have l4 := len_ok 4 (by decide)
    have l5 := len_ok 5 (by decide)
    have l6 := len_ok 6 (by decide)
    by_cases c1 : v < 2
    · obtain ⟨q1, _⟩ := leaf_draw b1 v0 (by omega)
      obtain ⟨p, S', x, y, S2, e2, e3, ep, ok, b⟩ := q1 c1
      refine ⟨p, S', ?_, ok.mono (by omega), b⟩
      rw [← ep]
      unfold m__law_big_price
      simp [ifV, toB, bltM, consM, nilM, M.bind, varM, var, M.opL, M.op2, M.op1, M.lift, asB, M.pure, bin2, callM, gtP, ltP, hgt, e1, c1, lstM, l2, l6, e2, e3, un1, neg_int, tupM, SR.of, SR.bind]
    by_cases c2 : v < 4
    · obtain ⟨_, q2⟩ := leaf_draw b1 v0 (by omega)
      obtain ⟨p, S', x, y, z, S2, S3, e2, e3, e4, ep, ok, b⟩ := q2 (by omega) c2
      refine ⟨p, S', ?_, ok.mono (by omega), b⟩
      rw [← ep]
      unfold m__law_big_price
      simp [ifV, toB, bltM, consM, nilM, M.bind, varM, var, M.opL, M.op2, M.op1, M.lift, asB, M.pure, bin2, callM, gtP, ltP, hgt, e1, c1, c2, lstM, l2, l3, e2, e3, e4, un1, neg_int, tupM, SR.of, SR.bind]
    by_cases c3 : v = 4
    · subst c3
      refine ⟨.barred, S1, ?_, trivial, b1⟩
      unfold m__law_big_price
      simp [ifV, toB, bltM, consM, nilM, M.bind, varM, var, M.opL, M.op2, M.op1, M.lift, asB, M.pure, bin2, callM, gtP, ltP, hgt, e1, eq_ints, l1, tupM, SR.of, SR.bind, Pr.d]
    obtain ⟨p, S2, ep, vp, b2⟩ := price_draw n k b1 (by omega)
    obtain ⟨q, S3, eq, vq, b3⟩ := price_draw n k b2 (by omega)
    by_cases c5 : v = 5
    · subst c5
      obtain ⟨x, S4, e4, m4, b4⟩ := some_any (things := .lst [.int 1, .int 12, .int 200]) b3 (.inr rfl) (by simp) (by decide)
      obtain ⟨m, rfl, hm⟩ := rng_of (lo := 1) (hi := 200) m4 (by decide)
      refine ⟨.from_ m p q, S4, ?_, ⟨hm, vp, vq⟩, b4⟩
      unfold m__law_big_price
      simp [ifV, toB, bltM, consM, nilM, M.bind, varM, var, M.opL, M.op2, M.op1, M.lift, asB, M.pure, bin2, callM, gtP, ltP, hgt, e1, eq_ints, parM, subP, ep, eq, e4, lstM, l3, l4, tupM, SR.of, SR.bind, Pr.d]
    by_cases c6 : v = 6
    · subst c6
      obtain ⟨x, S4, e4, m4, b4⟩ := some_any (things := .lst [.int 0, .int 19, .int 999]) b3 (.inr rfl) (by simp) (by decide)
      obtain ⟨y, S5, e5, m5, b5⟩ := some_any (things := .lst [.int 1, .int 100, .int 1000]) b4 (.inr rfl) (by simp) (by decide)
      obtain ⟨z, S6, e6, m6, b6⟩ := some_any (things := .lst [.str "down", .str "half", .str "up"]) b5 (.inr rfl) (by simp) (by decide)
      obtain ⟨a, rfl, ha⟩ := rng_of (lo := 0) (hi := 999) m4 (by decide)
      obtain ⟨c, rfl, hc⟩ := rng_of (lo := 1) (hi := 1000) m5 (by decide)
      have hz : ∃ w, z = .str w ∧ WayW w := by
        simp only [List.mem_cons, List.not_mem_nil, or_false] at m6
        rcases m6 with rfl | rfl | rfl
        · exact ⟨_, rfl, .inl rfl⟩
        · exact ⟨_, rfl, .inr (.inl rfl)⟩
        · exact ⟨_, rfl, .inr (.inr rfl)⟩
      obtain ⟨w, rfl, hw⟩ := hz
      refine ⟨.share p a c w, S6, ?_, ⟨vp, ha, hc, hw⟩, b6⟩
      unfold m__law_big_price
      simp [ifV, toB, bltM, consM, nilM, M.bind, varM, var, M.opL, M.op2, M.op1, M.lift, asB, M.pure, bin2, callM, gtP, ltP, hgt, e1, eq_ints, parM, subP, ep, eq, e4, e5, e6, lstM, l3, l5, tupM, SR.of, SR.bind, Pr.d]
    by_cases c7 : v = 7
    · subst c7
      obtain ⟨x, S4, e4, m4, b4⟩ := some_any (things := .lst [.int (-5), .int 0, .int 100]) b3 (.inr rfl) (by simp) (by decide)
      obtain ⟨r, S5, er, vr, b5⟩ := price_draw n k b4 (by omega)
      obtain ⟨c, rfl, hc⟩ := mon_of m4 (by decide)
      refine ⟨.above p c q r, S5, ?_, ⟨vp, hc, vq, vr⟩, b5⟩
      unfold m__law_big_price
      simp [ifV, toB, bltM, consM, nilM, M.bind, varM, var, M.opL, M.op2, M.op1, M.lift, asB, M.pure, bin2, callM, gtP, ltP, hgt, e1, eq_ints, parM, subP, ep, eq, e4, er, un1, neg_int, lstM, l3, l5, tupM, SR.of, SR.bind, Pr.d]
    obtain ⟨x, S4, e4, m4, b4⟩ := some_any (things := .lst [.str "plus", .str "less", .str "least", .str "greatest"]) b3 (.inr rfl) (by simp) (by decide)
    have hx : ∃ w, x = .str w ∧ PairW w := by
      simp only [List.mem_cons, List.not_mem_nil, or_false] at m4
      rcases m4 with rfl | rfl | rfl | rfl
      · exact ⟨_, rfl, .inl rfl⟩
      · exact ⟨_, rfl, .inr (.inl rfl)⟩
      · exact ⟨_, rfl, .inr (.inr (.inl rfl))⟩
      · exact ⟨_, rfl, .inr (.inr (.inr rfl))⟩
    obtain ⟨w, rfl, hw⟩ := hx
    refine ⟨.bin w p q, S4, ?_, ⟨hw, vp, vq⟩, b4⟩
    unfold m__law_big_price
    simp [ifV, toB, bltM, consM, nilM, M.bind, varM, var, M.opL, M.op2, M.op1, M.lift, asB, M.pure, bin2, callM, gtP, ltP, hgt, e1, c1, c2, c3, c5, c6, c7, eq_ints, parM, subP, ep, eq, e4, lstM, l3, l4, tupM, SR.of, SR.bind, Pr.d]
end PyM
set_option Elab.async false
set_option linter.all false
set_option maxRecDepth 100000
set_option maxHeartbeats 8000000
namespace PyM
open PySem PySem.Spec PyProof.Rows L2
/-! ### shops, as data -/
theorem eqV_strs (x y : Str) : L2.eqV (.str y) (.str x) = decide (x = y) := by
  by_cases h : x = y
  · subst h
    simp [L2.eqV]
  · have h' : y ≠ x := fun z => h z.symm
    simp [L2.eqV, h, h']
theorem scalL_strs : ∀ xs : List Str, scalL (xs.map D.str) = some (xs.map V.str)
  | [] => rfl
  | x :: xs => by
    rw [List.map_cons]
    unfold scalL
    rw [scalL_strs xs]
    rfl
theorem inV_strs (x : Str) : ∀ xs : List Str, L2.inV (.str x) (xs.map V.str) = decide (x ∈ xs)
  | [] => rfl
  | y :: ys => by
    have := inV_strs x ys
    unfold L2.inV at this ⊢
    rw [List.map_cons, List.any_cons, this, eqV_strs]
    by_cases h1 : x = y <;> by_cases h2 : x ∈ ys <;> simp [h1, h2]
theorem inQ_strs (S : Store) (x : Str) (xs : List Str) {d : D} (hd : asQ S d = some (xs.map D.str)) (hn : (match d with | .str _ => false | _ => true) = true) : inQ S (.str x) d = some (decide (x ∈ xs)) := by
  cases d <;> first | (cases hn; done) | simp [inQ, hd, scalD, scalL_strs, inV_strs]
theorem in_strs (S : Store) (x : Str) (xs : List Str) : inP S (.str x) (.tup (xs.map D.str)) = some (.bl (decide (x ∈ xs))) := by
  unfold inP
  rw [inQ_strs S x xs rfl rfl] <;> rfl
theorem in_strsL (S : Store) (x : Str) (xs : List Str) : inP S (.str x) (.lst (xs.map D.str)) = some (.bl (decide (x ∈ xs))) := by
  unfold inP
  rw [inQ_strs S x xs rfl rfl] <;> rfl
theorem nin_strs (S : Store) (x : Str) (xs : List Str) : ninP S (.str x) (.tup (xs.map D.str)) = some (.bl (!decide (x ∈ xs))) := by
  unfold ninP
  rw [inQ_strs S x xs rfl rfl] <;> rfl
theorem strsOf_map : ∀ xs : List Str, strsOf (xs.map D.str) = some xs
  | [] => rfl
  | x :: xs => by
    show (strsOf (xs.map D.str)).map (x :: ·) = _
    rw [strsOf_map xs]
    rfl
theorem str_inj {xs ys : List Str} (h : xs.map D.str = ys.map D.str) : xs = ys := (List.map_inj_right (fun x y z => by injection z)).mp h
/-- a list of texts beside nothing -/
theorem pyL_strs (S : Store) : ∀ xs : List Str, D.pyL S (xs.map D.str) = some (xs.map PyData.str)
  | [] => by simp [D.pyL]
  | x :: xs => by
    rw [List.map_cons]
    unfold D.pyL
    simp [D.py, pyL_strs S xs]
theorem shaped_strs {xs : List Str} (h : ∀ x ∈ xs, PyData.strOk x = true) : SeqAt.shaped (.list (xs.map PyData.str)) = true := by
  have h1 : PyData.canLayAll0 (xs.map PyData.str) = true := by
    induction xs with
    | nil => rfl
    | cons x xs ih =>
      simp only [List.map_cons, PyData.canLayAll0, Bool.and_eq_true]
      exact ⟨h x (by simp), ih fun y hy => h y (by simp [hy])⟩
  have h2 : PyData.depthAll (xs.map PyData.str) = 0 := by
    clear h h1
    induction xs with
    | nil => rfl
    | cons x xs ih => simp [List.map_cons, PyData.depthAll, ih, PyData.depth]
  unfold SeqAt.shaped
  simp [PyData.canLay0, h1, PyData.depth, h2]
theorem eqv_nil (xs : List Str) : PyData.eqv (.list (xs.map PyData.str)) (.list []) = xs.isEmpty := by
  cases xs with
  | nil => rfl
  | cons x xs => simp [PyData.eqv, PyData.eqvAll]
theorem ne_strs_nil (S : Store) {xs : List Str} (h : ∀ x ∈ xs, PyData.strOk x = true) : neP S (.lst (xs.map .str)) (.lst []) = some (.bl (!xs.isEmpty)) := by
  have e0 : D.pyL S [] = some [] := by simp [D.pyL]
  have hsh0 : SeqAt.shaped (.list []) = true := by decide +kernel
  unfold neP eqQ
  simp only [scalD]
  unfold eqDeep
  simp [D.py, pyL_strs, e0, shaped_strs h, hsh0, eqv_nil]
theorem eq_strs_nil (S : Store) {xs : List Str} (h : ∀ x ∈ xs, PyData.strOk x = true) : eqP S (.lst (xs.map .str)) (.lst []) = some (.bl xs.isEmpty) := by
  have e0 : D.pyL S [] = some [] := by simp [D.pyL]
  have hsh0 : SeqAt.shaped (.list []) = true := by decide +kernel
  unfold eqP eqQ
  simp only [scalD]
  unfold eqDeep
  simp [D.py, pyL_strs, e0, shaped_strs h, hsh0, eqv_nil]
def fourW : List Str := ["plain", "card", "gold", "s3"]
def fiveW : List Str := ["buy", "d1", "go2", "plain", "z"]
theorem four_ok : (fourW.all PyData.strOk) = true := by decide +kernel
theorem five_ok : (fiveW.all PyData.strOk) = true := by decide +kernel
theorem four_nd : fourW.Nodup := by decide +kernel
theorem five_nd : fiveW.Nodup := by decide +kernel
/-- a deed -/
structure Dd where
  nm : Str
  b : Str
  e : Str
  p : Pr
def Dd.d (t : Dd) : D := .tup [.str t.nm, .str t.b, .str t.e, t.p.d]
def shD (sh : Option Str) : D := match sh with
  | none => .non
  | some s => .str s
def shopD (xs es : List Str) (ts : List Dd) (sh : Option Str) : D := .tup [.tup (xs.map .str), .tup (es.map .str), .tup (ts.map Dd.d), shD sh]
structure ShopOk (xs es : List Str) (ts : List Dd) (sh : Option Str) : Prop where
  x0 : xs ≠ []
  xl : xs.length ≤ 4
  xn : xs.Nodup
  xm : ∀ x ∈ xs, x ∈ fourW
  e0 : es ≠ []
  el : es.length ≤ 4
  en : es.Nodup
  em : ∀ x ∈ es, x ∈ xs
  ea : Asc id es
  t0 : ts ≠ []
  tl : ts.length ≤ 5
  tn : (ts.map Dd.nm).Nodup
  tm : ∀ t ∈ ts, t.nm ∈ fiveW ∧ t.b ∈ xs ∧ t.e ∈ xs ∧ t.p.Ok 2
  ta : Asc Dd.nm ts
  sk : ∀ s, sh = some s → ∃ t ∈ ts, t.nm = s ∧ some t.b = xs.head? ∧ t.e ∈ es
/-- mixed, and so many of them -/
theorem mixed_draw {S R : Store} {ws : List Str} {m : Int} (hb : Bag S R) (h0 : ws ≠ []) (hl : ws.length ≤ 50) (hm : m = ws.length) :
    ∃ n l v xs S1 S2, m__law_mixed [.loc 0, .lst (ws.map .str)] S = .ok (.loc n) S1 ∧ m__law_take [.loc 0, .int m] S1 = .ok (.int v) S2 ∧ slP S2 (.loc n) none (some (1 + v)) = some (.lst (xs.map .str)) ∧
      xs ≠ [] ∧ xs.length ≤ ws.length ∧ (∀ x ∈ xs, x ∈ ws) ∧ (ws.Nodup → xs.Nodup) ∧ Bag S2 (R ++ [.lst l]) := by
  have hpos : 0 < ws.length := List.length_pos_iff.mpr h0
  obtain ⟨l, S1, e1, p, b1⟩ := mixed_any (ds := ws.map .str) hb (by simpa using hl)
  obtain ⟨v, S2, e2, v0, v1, b2⟩ := take_any (many := m) b1 (by omega) (by omega)
  obtain ⟨j, rfl⟩ : ∃ j : Nat, v = (j : Int) := ⟨v.toNat, by omega⟩
  obtain ⟨ys, rfl⟩ : ∃ ys : List Str, l = ys.map .str := by
    have hall : ∀ d ∈ l, ∃ x, d = D.str x := fun d hd => by
      obtain ⟨x, _, rfl⟩ := List.mem_map.mp (p.mem_iff.mp hd)
      exact ⟨x, rfl⟩
    clear p b1 b2 e1
    induction l with
    | nil => exact ⟨[], rfl⟩
    | cons d l ih =>
      obtain ⟨x, rfl⟩ := hall d (by simp)
      obtain ⟨ys, rfl⟩ := ih fun d hd => hall d (by simp [hd])
      exact ⟨x :: ys, rfl⟩
  have py : ys.Perm ws := by
    have := p.map (fun d => match d with | D.str x => x | _ => Str.empty)
    simpa [List.map_map, Function.comp_def] using this
  have hg : S2[R.length + 1]? = some (.lst (ys.map .str)) := by
    rw [bag_get b2]
    exact last_get R _
  have hsl : slP S2 (.loc (R.length + 1)) none (some (1 + (j : Int))) = some (.lst ((ys.take (1 + j)).map .str)) := by
    have e : (1 + (j : Int)) = ((1 + j : Nat) : Int) := by omega
    rw [e]
    unfold slP asS asL
    simp [hg, ← cut_take, List.map_take]
  have hll := py.length_eq
  refine ⟨_, _, _, ys.take (1 + j), S1, S2, e1, e2, hsl, ?_, ?_, ?_, ?_, b2⟩
  · intro z
    have := congrArg List.length z
    rw [List.length_take, List.length_nil] at this
    omega
  · rw [List.length_take]
    omega
  · exact fun d hd => py.mem_iff.mp (List.mem_of_mem_take hd)
  · exact fun hn => (py.nodup_iff.mpr hn).sublist (List.take_sublist _ _)
theorem sorted_strs (S : Store) (xs : List Str) (hl : xs.length < 64) : sortedP S [.lst (xs.map .str)] = some (.lst ((sortK id xs).map .str)) := by
  unfold sortedP
  simp [asS, asL, hl, strsOf_map]
theorem tupsOf_dds : ∀ ts : List Dd, tupsOf (ts.map Dd.d) = some (ts.map fun t => (t.nm, [.str t.b, .str t.e, t.p.d]))
  | [] => rfl
  | t :: ts => by
    show (tupsOf (ts.map Dd.d)).map _ = _
    rw [tupsOf_dds ts]
    rfl
theorem nodupS_of : ∀ {xs : List Str}, xs.Nodup → nodupS xs = true
  | [], _ => rfl
  | x :: xs, h => by
    have h' := List.nodup_cons.mp h
    unfold nodupS
    rw [nodupS_of h'.2]
    simp
    exact fun y hy e => h'.1 (e ▸ hy)
theorem sorted_dds (S : Store) {ts : List Dd} (h0 : ts ≠ []) (hl : ts.length < 64) (hn : (ts.map Dd.nm).Nodup) : sortedP S [.lst (ts.map Dd.d)] = some (.lst ((sortK Dd.nm ts).map Dd.d)) := by
  have hs : strsOf (ts.map Dd.d) = none := by
    cases ts with
    | nil => exact absurd rfl h0
    | cons t ts => rfl
  have hn2 : nodupS ((ts.map fun t : Dd => (t.nm, [D.str t.b, D.str t.e, t.p.d])).map (·.1)) = true := nodupS_of (by rw [List.map_map]; exact hn)
  unfold sortedP
  simp only [asS, asL, List.length_map, hl, if_true, hs, tupsOf_dds, hn2]
  congr 2
  have := sortK_map (fun t : Dd => (t.nm, [D.str t.b, D.str t.e, t.p.d])) (fun z : Str × List D => z.1) ts
  rw [← this, List.map_map]
  rfl
/-- the deeds -/
theorem deeds_draw {R : Store} {xs es : List Str} (x0 : xs ≠ []) (xl : xs.length ≤ 4) : ∀ (ws : List Str) {S : Store}, Bag S R →
    ∃ (ts : List Dd) (S' : Store), lcL (fun _ => true) (gN 5) yesT (tupM (consM (varM 5) (consM (callM 2 m__law_some (consM (varM 0) (consM (varM 1) nilM))) (consM (callM 2 m__law_some (consM (varM 0) (consM (varM 1) nilM))) (consM (callM 2 (m__law_big_price 20) (consM (varM 0) (consM (cM (.int 2)) nilM))) nilM)))))
      [some (.loc 0), some (.tup (xs.map .str)), some (.tup (es.map .str)), none, none, none, none, none, none] (ws.map .str) S = .ok (ts.map Dd.d) S' ∧ ts.map Dd.nm = ws ∧ (∀ t ∈ ts, t.b ∈ xs ∧ t.e ∈ xs ∧ t.p.Ok 2) ∧ Bag S' R
  | [], S, hb => ⟨[], S, rfl, rfl, by simp, hb⟩
  | w :: ws, S, hb => by
    have l4 := len_ok 4 (by decide)
    have hne : xs.map D.str ≠ [] := by simpa using x0
    obtain ⟨b, S1, e1, m1, b1⟩ := some_any (things := .tup (xs.map .str)) hb (.inl rfl) hne (by simp; omega)
    obtain ⟨e, S2, e2, m2, b2⟩ := some_any (things := .tup (xs.map .str)) b1 (.inl rfl) hne (by simp; omega)
    obtain ⟨b, hb1, rfl⟩ := List.mem_map.mp m1
    obtain ⟨e, he1, rfl⟩ := List.mem_map.mp m2
    obtain ⟨p, S3, e3, v3, b3⟩ := price_draw 2 20 b2 (by decide)
    have e3' : m__law_big_price 20 [.loc 0, .int 2] S2 = .ok p.d S3 := e3
    obtain ⟨ts, S4, e4, n4, m4, b4⟩ := deeds_draw (es := es) x0 xl ws b3
    refine ⟨⟨w, b, e, p⟩ :: ts, S4, ?_, by simp [n4], fun t ht => ?_, b4⟩
    · rw [List.map_cons]
      unfold lcL
      simp [gN, yesT, tupM, consM, nilM, M.bind, varM, var, M.pure, callM, cM, e1, e2, e3', l4, e4, Dd.d]
    · rcases List.mem_cons.mp ht with rfl | ht
      · exact ⟨hb1, he1, v3⟩
      · exact m4 t ht
/-- the deeds that may be shown -/
theorem first_run (S : Store) {x0 : Str} {xr es : List Str} {Y : D} : ∀ (ts : List Dd),
    lcL (fun _ => true) (gT (gs1 (gN 5) (gs1 (gN 6) (gs1 (gN 7) (gs1 (gN 8) gs0))))) (andM (tV (bin2 eqP (varM 6) (bin2 ixP (varM 1) (cM (.int 0))))) (tV (bin2 inP (varM 7) (varM 2)))) (varM 5)
      [some (.loc 0), some (.tup ((x0 :: xr).map .str)), some (.tup (es.map .str)), some Y, none, none, none, none, none] (ts.map Dd.d) S = .ok (((ts.filter fun t => decide (t.b = x0) && decide (t.e ∈ es)).map Dd.nm).map .str) S
  | [] => rfl
  | t :: ts => by
    have ih := first_run S (x0 := x0) (xr := xr) (es := es) (Y := Y) ts
    have h0 : atI ((x0 :: xr).map D.str) (0 : Int) = some (.str x0) := at_0 _ _
    rw [List.map_cons] at ih h0 ⊢
    rw [List.map_cons]
    unfold lcL
    by_cases h1 : t.b = x0 <;> by_cases h2 : t.e ∈ es <;>
      simp [Dd.d, gT, gs1, gN, gs0, andM, toB, M.bind, varM, var, M.op2, M.pure, bin2, cM, ix_tup', h0, eq_strs, in_strs, M.lift, asB, h1, h2, ih, List.filter_cons]
/-- a drawn shop -/
theorem shop_draw {S R : Store} (hb : Bag S R) : ∃ xs es ts sh S' R', m__law_big_shop [.loc 0] S = .ok (shopD xs es ts sh) S' ∧ ShopOk xs es ts sh ∧ Bag S' R' := by
  have l0 := len_ok 0 (by decide)
  have l4 := len_ok 4 (by decide)
  have l5 := len_ok 5 (by decide)
  obtain ⟨i1, l1, v1, xs, S1, S2, e1, e2, sl1, x0, xl, xm, xn, b2⟩ := mixed_draw (ws := fourW) (m := 4) hb (by decide) (by decide) rfl
  have xl : xs.length ≤ 4 := xl
  have xn := xn four_nd
  obtain ⟨i2, l2, v2, es, S3, S4, e3, e4, sl2, m0, ml, mm, mn, b4⟩ := mixed_draw (ws := xs) (m := xs.length) b2 x0 (by omega) rfl
  have es1 := sorted_strs S4 es (by omega)
  have pe := sortK_perm id es
  obtain ⟨v, S5, e5, v0, v5, b5⟩ := take_any (many := 5) b4 (by decide) (by decide)
  obtain ⟨j, rfl⟩ : ∃ j : Nat, v = (j : Int) := ⟨v.toNat, by omega⟩
  have hj : (1 + (j : Int)) = ((1 + j : Nat) : Int) := by omega
  obtain ⟨ts, S6, e6, n6, m6, b6⟩ := deeds_draw (es := sortK id es) x0 xl (fiveW.take (1 + j)) b5
  have tl : ts.length = 1 + j := by
    have := congrArg List.length n6
    rw [List.length_map, List.length_take] at this
    have h5 : fiveW.length = 5 := rfl
    omega
  have t0 : ts ≠ [] := by intro z; rw [z] at tl; simp at tl; omega
  have tn : (ts.map Dd.nm).Nodup := by rw [n6]; exact five_nd.sublist (List.take_sublist _ _)
  have tm : ∀ t ∈ ts, t.nm ∈ fiveW := fun t ht => List.mem_of_mem_take (by rw [← n6]; exact List.mem_map.mpr ⟨t, ht, rfl⟩)
  obtain ⟨y0, xr, rfl⟩ : ∃ y0 xr, xs = y0 :: xr := by
    cases xs with
    | nil => exact absurd rfl x0
    | cons a b => exact ⟨a, b, rfl⟩
  have e7 := fun Y => first_run S6 (x0 := y0) (xr := xr) (es := sortK id es) (Y := Y) ts
  generalize hz : (ts.filter fun t => decide (t.b = y0) && decide (t.e ∈ sortK id es)) = zs at e7
  have zm : ∀ t ∈ zs, t ∈ ts ∧ t.b = y0 ∧ t.e ∈ sortK id es := fun t ht => by
    rw [← hz] at ht
    have := List.mem_filter.mp ht
    simp at this
    exact ⟨this.1, this.2⟩
  have zok : ∀ x ∈ zs.map Dd.nm, PyData.strOk x = true := fun x hx => by
    obtain ⟨t, ht, rfl⟩ := List.mem_map.mp hx
    exact List.all_eq_true.mp five_ok _ (tm t (zm t ht).1)
  have zl : zs.length ≤ 5 := by
    have : zs.length ≤ ts.length := by rw [← hz]; exact List.length_filter_le _ _
    omega
  have hne := ne_strs_nil S6 zok
  have e8 := sorted_dds S6 t0 (by omega) tn
  have ps := sortK_perm Dd.nm ts
  have hyl : (ts.map Dd.d).length ≤ sizeLine := len_ok _ (by simp; omega)
  have hzl : ((zs.map Dd.nm).map D.str).length ≤ sizeLine := len_ok _ (by simp; omega)
  have fin : ∀ {sh : Option Str}, (∀ s, sh = some s → ∃ t ∈ zs, t.nm = s) → ShopOk (y0 :: xr) (sortK id es) (sortK Dd.nm ts) sh := fun {sh} hs => by
    refine ⟨x0, xl, xn, xm, ?_, ?_, pe.nodup_iff.mpr (mn xn), fun x hx => mm x (pe.mem_iff.mp hx), sortK_asc id es, ?_, ?_, (ps.map Dd.nm).nodup_iff.mpr tn, fun t ht => ?_, sortK_asc Dd.nm ts, fun s e => ?_⟩
    · intro z
      rw [z] at pe
      exact m0 (List.Perm.eq_nil pe.symm)
    · rw [pe.length_eq]
      omega
    · intro z
      rw [z] at ps
      exact t0 (List.Perm.eq_nil ps.symm)
    · rw [ps.length_eq]
      omega
    · have := ps.mem_iff.mp ht
      exact ⟨tm t this, m6 t this⟩
    · obtain ⟨t, ht, hn⟩ := hs s e
      obtain ⟨a1, a2, a3⟩ := zm t ht
      exact ⟨t, ps.mem_iff.mpr a1, hn, by rw [a2]; rfl, a3⟩
  have hs1 := fun S => tuple_lst S ((y0 :: xr).map D.str)
  have hl1 : ∀ S, listP S [.tup ((y0 :: xr).map D.str)] = some (.lst ((y0 :: xr).map D.str)) := fun S => list_tup S _
  have hlen : ∀ S, lenP S [.tup ((y0 :: xr).map D.str)] = some (.int (y0 :: xr).length) := fun S => by rw [len_tup, List.length_map]
  have hcut : ∀ S, slP S (.tup [.str "buy", .str "d1", .str "go2", .str "plain", .str "z"]) none (some (1 + (j : Int))) = some (.tup ((fiveW.take (1 + j)).map .str)) := fun S => by
    rw [sl_tup, hj, cut_take, List.map_take]
    rfl
  have e1' : m__law_mixed [.loc 0, .lst [.str "plain", .str "card", .str "gold", .str "s3"]] S = .ok (.loc i1) S1 := e1
  generalize hA : (y0 :: xr).map D.str = A at *
  generalize hL : (y0 :: xr).length = L at *
  generalize hB : (sortK id es).map D.str = B at *
  generalize hC : (fiveW.take (1 + j)).map D.str = C at *
  generalize hT : ts.map Dd.d = T at *
  generalize hZ : (zs.map Dd.nm).map D.str = Z at *
  cases hze : (zs.map Dd.nm).isEmpty with
  | true =>
    rw [hze] at hne
    refine ⟨_, _, _, none, S6, _, ?_, fin (fun s e => nomatch e), b6⟩
    unfold m__law_big_shop
    simp [tV, toB, bltM, consM, nilM, M.bind, varM, var, M.opL, M.op2, M.op1, M.lift, asB, M.pure, bin2, callM, cM, SR.of, SR.bind, lstM, l4, e1', e2, slM, noP, opP, optI, asI, opS, add_ints, sl1, hs1, hl1, e3, hlen, e4, sl2, es1, tuple_lst, tupM, l5, e5, hcut, lcM, lcI, seqI, srcA, wipeE, e6, hyl, asS, asL, still_lst, e7, hzl, e8, ifV, andM, hne, l0, shopD, shD, hA, hB]
  | false =>
    rw [hze] at hne
    obtain ⟨w, S7, e9, w0, w2, b7⟩ := take_any (many := 2) b6 (by decide) (by decide)
    by_cases hw0 : w = 0
    · obtain ⟨z, zr, rfl⟩ : ∃ z zr, zs = z :: zr := by
        cases zs with
        | nil => cases hze
        | cons z zr => exact ⟨z, zr, rfl⟩
      have hz1 : atI Z (0 : Int) = some (.str z.nm) := by rw [← hZ]; exact at_0 _ _
      subst hw0
      refine ⟨_, _, _, some z.nm, S7, _, ?_, fin (fun s e => ⟨z, by simp, Option.some.inj e⟩), b7⟩
      unfold m__law_big_shop
      simp [tV, toB, bltM, consM, nilM, M.bind, varM, var, M.opL, M.op2, M.op1, M.lift, asB, M.pure, bin2, callM, cM, SR.of, SR.bind, lstM, l4, e1', e2, slM, noP, opP, optI, asI, opS, add_ints, sl1, hs1, hl1, e3, hlen, e4, sl2, es1, tuple_lst, tupM, l5, e5, hcut, lcM, lcI, seqI, srcA, wipeE, e6, hyl, asS, asL, still_lst, e7, hzl, e8, ifV, andM, hne, l0, e9, eq_ints, ix_lst, hz1, shopD, shD, hA, hB]
    · refine ⟨_, _, _, none, S7, _, ?_, fin (fun s e => nomatch e), b7⟩
      unfold m__law_big_shop
      simp [tV, toB, bltM, consM, nilM, M.bind, varM, var, M.opL, M.op2, M.op1, M.lift, asB, M.pure, bin2, callM, cM, SR.of, SR.bind, lstM, l4, e1', e2, slM, noP, opP, optI, asI, opS, add_ints, sl1, hs1, hl1, e3, hlen, e4, sl2, es1, tuple_lst, tupM, l5, e5, hcut, lcM, lcI, seqI, srcA, wipeE, e6, hyl, asS, asL, still_lst, e7, hzl, e8, ifV, andM, hne, l0, e9, eq_ints, hw0, shopD, shD, hA, hB]
end PyM
set_option Elab.async false
set_option linter.all false
set_option maxRecDepth 100000
set_option maxHeartbeats 8000000
namespace PyM
open PySem PySem.Spec PyProof.Rows L2 TL
/-! ### texts whose runs are short -/
def sepC (c : Nat) : Bool := c == 32 || c == 10 || c == 40 || c == 41
/-- how much longer the last run may become, 20 signs at most; none if one was longer -/
def ra : Nat → List Nat → Option Nat
  | k, [] => some k
  | k, c :: r => if sepC c = true then ra 20 r else match k with
    | 0 => none
    | k + 1 => ra k r
theorem ra_cons (k c : Nat) (r : List Nat) : ra k (c :: r) = if sepC c = true then ra 20 r else match k with
    | 0 => none
    | k + 1 => ra k r := by cases k <;> simp [ra]
theorem ra_append : ∀ (x y : List Nat) (k : Nat), ra k (x ++ y) = (ra k x).bind fun m => ra m y
  | [], y, k => rfl
  | c :: x, y, k => by
    rw [List.cons_append, ra_cons, ra_cons]
    split
    · exact ra_append x y 20
    · cases k with
      | zero => rfl
      | succ k => exact ra_append x y k
theorem ra_mono : ∀ (x : List Nat) {k m a : Nat}, k ≤ m → ra k x = some a → ∃ b, ra m x = some b ∧ a ≤ b
  | [], k, m, a, hm, h => by
    obtain rfl := Option.some.inj h
    exact ⟨m, rfl, hm⟩
  | c :: x, k, m, a, hm, h => by
    rw [ra_cons] at h ⊢
    split
    · rename_i hs
      rw [if_pos hs] at h
      exact ⟨a, h, Nat.le_refl _⟩
    · rename_i hs
      rw [if_neg hs] at h
      cases k with
      | zero => cases h
      | succ k =>
        cases m with
        | zero => omega
        | succ m => exact ra_mono x (by omega) h
theorem ra_word : ∀ (x : List Nat) (k : Nat), (∀ c ∈ x, sepC c = false) → x.length ≤ k → ra k x = some (k - x.length)
  | [], k, _, _ => rfl
  | c :: x, k, h, hl => by
    rw [List.length_cons] at hl
    rw [ra_cons, if_neg (by rw [h c (by simp)]; decide)]
    cases k with
    | zero => omega
    | succ k =>
      show ra k x = _
      rw [ra_word x k (fun c hc => h c (by simp [hc])) (by omega), List.length_cons]
      congr 1
      omega
/-- signs that texts may hold -/
def Sg (l : List Nat) : Prop := ∀ c ∈ l, c < 1114112
theorem Sg.append {x y : List Nat} (hx : Sg x) (hy : Sg y) : Sg (x ++ y) := fun c hc => (List.mem_append.mp hc).elim (hx c) (hy c)
structure Tx (L : Nat) (x : Str) : Prop where
  len : x.length ≤ L
  nl : 10 ∉ tl x
  rb : ∃ a, ra 20 (tl x) = some a
  sg : Sg (tl x)
def EndsS (x : Str) : Prop := ∃ l s, tl x = l ++ [s] ∧ sepC s = true
def BegsS (x : Str) : Prop := ∃ s l, tl x = s :: l ∧ sepC s = true
theorem str_len (x y : Str) : (x ++ y).length = x.length + y.length := by
  rw [len_tl, len_tl, len_tl, tl_append, List.length_append]
theorem EndsS.app {x y : Str} (h : EndsS y) : EndsS (x ++ y) := by
  obtain ⟨l, s, e, hs⟩ := h
  exact ⟨tl x ++ l, s, by rw [tl_append, e, List.append_assoc], hs⟩
theorem ra_ends {x : Str} (h : EndsS x) {k a : Nat} (e : ra k (tl x) = some a) : a = 20 := by
  obtain ⟨l, s, q, hs⟩ := h
  rw [q, ra_append] at e
  cases z : ra k l with
  | none => rw [z] at e; cases e
  | some m =>
    rw [z] at e
    have e : ra m [s] = some a := e
    rw [ra_cons, if_pos hs] at e
    exact (Option.some.inj e).symm
theorem ra_begs {y : Str} (h : BegsS y) (k : Nat) : ra k (tl y) = ra 20 (tl y) := by
  obtain ⟨s, l, q, hs⟩ := h
  rw [q]
  rw [ra_cons, ra_cons, if_pos hs, if_pos hs]
theorem Tx.app {L M : Nat} {x y : Str} (hx : Tx L x) (hy : Tx M y) (h : EndsS x ∨ BegsS y) : Tx (L + M) (x ++ y) := by
  refine ⟨by rw [str_len]; have := hx.len; have := hy.len; omega, ?_, ?_, by rw [tl_append]; exact hx.sg.append hy.sg⟩
  · rw [tl_append]
    intro z
    rcases List.mem_append.mp z with z | z
    · exact hx.nl z
    · exact hy.nl z
  · obtain ⟨a, ha⟩ := hx.rb
    obtain ⟨b, hb⟩ := hy.rb
    refine ⟨b, ?_⟩
    rw [tl_append, ra_append, ha]
    show ra a (tl y) = _
    rcases h with h | h
    · rw [ra_ends h ha, hb]
    · rw [ra_begs h, hb]
theorem Tx.mono {L M : Nat} {x : Str} (h : Tx L x) (hm : L ≤ M) : Tx M x := ⟨Nat.le_trans h.len hm, h.nl, h.rb, h.sg⟩
/-- of written texts -/
def txB (L : Nat) (x : Str) : Bool := decide (x.length ≤ L) && (!decide (10 ∈ tl x) && ((ra 20 (tl x)).isSome && (tl x).all fun c => decide (c < 1114112)))
theorem Tx.of {L : Nat} {x : Str} (h : txB L x = true) : Tx L x := by
  unfold txB at h
  simp only [Bool.and_eq_true, Bool.not_eq_true', decide_eq_true_eq, decide_eq_false_iff_not] at h
  exact ⟨h.1, h.2.1, Option.isSome_iff_exists.mp h.2.2.1, fun c hc => of_decide_eq_true (List.all_eq_true.mp h.2.2.2 c hc)⟩
theorem Tx.word {x : Str} (h : ∀ c ∈ tl x, sepC c = false) (hl : x.length ≤ 20) (hg : Sg (tl x)) : Tx x.length x :=
  ⟨Nat.le_refl _, fun z => by have := h 10 z; revert this; decide, ⟨_, ra_word (tl x) 20 h (by rw [← len_tl]; exact hl)⟩, hg⟩
def endsB (x : Str) : Bool := match (tl x).getLast? with
  | some s => sepC s
  | none => false
theorem EndsS.of {x : Str} (h : endsB x = true) : EndsS x := by
  unfold endsB at h
  cases e : (tl x).getLast? with
  | none => rw [e] at h; cases h
  | some s =>
    rw [e] at h
    obtain ⟨l, q⟩ := List.getLast?_eq_some_iff.mp e
    exact ⟨l, s, q, h⟩
def begsB (x : Str) : Bool := match tl x with
  | s :: _ => sepC s
  | [] => false
theorem BegsS.of {x : Str} (h : begsB x = true) : BegsS x := by
  unfold begsB at h
  cases e : tl x with
  | nil => rw [e] at h; cases h
  | cons s l => rw [e] at h; exact ⟨s, l, e, h⟩
/-- numbers as texts -/
abbrev numT (i : Int) : Str := Str.ofString (toString i)
theorem num_pos (n : Nat) : tl (numT (n : Int)) = numL n := tl_num n
theorem num_neg (n : Nat) : tl (numT (Int.negSucc n)) = 45 :: numL (n + 1) := by
  have h1 : toString (Int.negSucc n) = "-" ++ toString (n + 1) := rfl
  have h2 : tl (Str.ofString (toString (n + 1))) = numL (n + 1) := by
    have := tl_num (n + 1)
    have e : toString (((n + 1 : Nat)) : Int) = toString (n + 1) := rfl
    rw [e] at this
    exact this
  show tl (Str.ofString (toString (Int.negSucc n))) = _
  rw [h1, tl_ofString]
  rw [tl_ofString] at h2
  rw [String.toList_append, List.map_append, h2]
  rfl
theorem numL_sep (n : Nat) : ∀ c ∈ numL n, sepC c = false := fun c hc => by
  have : 48 ≤ c ∧ c ≤ 57 := by
    refine ⟨?_, ?_⟩
    · refine Nat.le_of_not_lt fun z => numL_free (n := n) (s := c) (.inl z) hc
    · refine Nat.le_of_not_lt fun z => numL_free (n := n) (s := c) (.inr z) hc
  unfold sepC
  simp
  omega
theorem numL_sg (n : Nat) : Sg (numL n) := fun c hc => by
  refine Nat.lt_of_le_of_lt (Nat.le_of_not_lt fun z => numL_free (n := n) (s := c) (.inr z) hc) (by decide : 57 < 1114112)
theorem num_tx {i : Int} (h : Money i) : Tx 8 (numT i) := by
  obtain ⟨h1, h2⟩ := h
  cases i with
  | ofNat n =>
    have hn : n < 10 ^ 7 := by
      have : (n : Int) ≤ 1000000 := h2
      omega
    have hl := numL_len (k := 7) (by decide) hn
    have e := num_pos n
    refine (Tx.word (fun c hc => numL_sep n c (by rw [← e]; exact hc)) ?_ (by show Sg (tl (numT (n : Int))); rw [e]; exact numL_sg n)).mono ?_
    · rw [len_tl]; show (tl (numT (n : Int))).length ≤ _; rw [e]; omega
    · rw [len_tl]; show (tl (numT (n : Int))).length ≤ _; rw [e]; omega
  | negSucc n =>
    have hn : n + 1 < 10 ^ 7 := by omega
    have hl := numL_len (k := 7) (by decide) hn
    have e := num_neg n
    refine (Tx.word (fun c hc => ?_) ?_ (by rw [e]; exact fun c hc => (List.mem_cons.mp hc).elim (fun z => by omega) (numL_sg _ c))).mono ?_
    · rw [e] at hc
      rcases List.mem_cons.mp hc with rfl | hc
      · decide
      · exact numL_sep _ c hc
    · rw [len_tl, e, List.length_cons]; omega
    · rw [len_tl, e, List.length_cons]; omega
theorem rng_mon {i lo hi : Int} (h : lo ≤ i ∧ i ≤ hi) (h1 : -1000000 ≤ lo) (h2 : hi ≤ 1000000) : Money i := ⟨by omega, by omega⟩
theorem log_mon {i : Int} (h : Money i) : i.natAbs.log2 < 1920 := by
  have h1 : i.natAbs < 2 ^ 20 := by
    have := h.1
    have := h.2
    omega
  by_cases h0 : i.natAbs = 0
  · rw [h0]
    decide
  · exact Nat.lt_trans ((Nat.log2_lt h0).mpr h1) (by decide)
theorem str_int (S : Store) {i : Int} (h : Money i) : strTP S [.int i] = some (.str (numT i)) := if_pos (log_mon h)
theorem add_strs (S : Store) {x y : Str} {L M : Nat} (hx : x.length ≤ L) (hy : y.length ≤ M) (h : L + M ≤ 16777216) : addP S (.str x) (.str y) = some (.str (x ++ y)) := by
  have hs := sizeLine_eq
  exact if_pos (by omega)
end PyM
set_option Elab.async false
set_option linter.all false
set_option maxRecDepth 100000
set_option maxHeartbeats 8000000
namespace PyM
open PySem PySem.Spec PyProof.Rows L2 TL
/-! ### the texts of prices and shops -/
namespace Pr
def chain : Pr → Bool
  | bin _ _ _ => true
  | _ => false
def part (p : Pr) (t : Str) : Str := if p.chain = true then "(" ++ t ++ ")" else t
def text : Pr → Str
  | money i => "money" ++ (" " ++ numT i)
  | each i => "each" ++ (" " ++ numT i)
  | packs k i => "packs" ++ ((" " ++ numT k) ++ (" " ++ numT i))
  | full k i => "full" ++ ((" " ++ numT k) ++ (" " ++ numT i))
  | barred => "barred"
  | bin w p q => p.text ++ " " ++ w ++ " " ++ q.part q.text
  | from_ m p q => "until " ++ numT m ++ " " ++ p.part p.text ++ " then " ++ q.part q.text
  | share p a b w => "share " ++ numT a ++ " " ++ numT b ++ " " ++ w ++ " " ++ p.part p.text
  | above p c q r => "if " ++ p.part p.text ++ " reaches " ++ numT c ++ " then " ++ q.part q.text ++ " else " ++ r.part r.text
end Pr
def tlen : Nat → Nat
  | 0 => 24
  | n + 1 => 3 * (tlen n + 2) + 40
theorem tlen_ge (n : Nat) : 24 ≤ tlen n := by
  induction n with
  | zero => decide
  | succ n ih => show 24 ≤ 3 * (tlen n + 2) + 40; omega
theorem tlen_mono {n m : Nat} (h : n ≤ m) : tlen n ≤ tlen m := by
  induction h with
  | refl => exact Nat.le_refl _
  | step h ih => exact Nat.le_trans ih (by show tlen _ ≤ 3 * (tlen _ + 2) + 40; omega)
theorem bl_ends : EndsS " " := EndsS.of (by decide +kernel)
theorem bl_begs {x : Str} : BegsS (" " ++ x) := ⟨32, tl x, by rw [tl_append]; rfl, rfl⟩
theorem bl_tx : Tx 1 " " := Tx.of (by decide +kernel)
theorem pair_tx {w : Str} (h : PairW w) : Tx 8 w := by
  rcases h with rfl | rfl | rfl | rfl <;> exact Tx.of (by decide +kernel)
theorem way_tx {w : Str} (h : WayW w) : Tx 8 w := by
  rcases h with rfl | rfl | rfl <;> exact Tx.of (by decide +kernel)
theorem par_tx {L : Nat} {x : Str} (h : Tx L x) : Tx (L + 2) ("(" ++ x ++ ")") :=
  ((Tx.of (L := 1) (x := "(") (by decide +kernel)).app h (.inl (EndsS.of (by decide +kernel)))).app (Tx.of (L := 1) (x := ")") (by decide +kernel)) (.inr (BegsS.of (by decide +kernel))) |>.mono (by omega)
theorem part_tx {L : Nat} {x : Str} (p : Pr) (h : Tx L x) : Tx (L + 2) (p.part x) := by
  unfold Pr.part
  split
  · exact par_tx h
  · exact h.mono (by omega)
theorem num_sp {i : Int} (h : Money i) : Tx 9 (" " ++ numT i) := (bl_tx.app (num_tx h) (.inl bl_ends)).mono (by omega)
theorem text_tx : ∀ (p : Pr) (n : Nat), p.Ok n → Tx (tlen n) p.text
  | .money i, n, h => (((Tx.of (L := 5) (x := "money") (by decide +kernel)).app (num_sp h) (.inr bl_begs))).mono (by have := tlen_ge n; omega)
  | .each i, n, h => (((Tx.of (L := 5) (x := "each") (by decide +kernel)).app (num_sp h) (.inr bl_begs))).mono (by have := tlen_ge n; omega)
  | .packs k i, n, h => (((Tx.of (L := 5) (x := "packs") (by decide +kernel)).app ((num_sp (rng_mon h.1 (by decide) (by decide))).app (num_sp h.2) (.inr bl_begs)) (.inr (by
      obtain ⟨s, l, e, hs⟩ := bl_begs (x := numT k)
      exact ⟨s, l ++ tl (" " ++ numT i), by rw [tl_append, e]; rfl, hs⟩)))).mono (by have := tlen_ge n; omega)
  | .full k i, n, h => (((Tx.of (L := 5) (x := "full") (by decide +kernel)).app ((num_sp (rng_mon h.1 (by decide) (by decide))).app (num_sp h.2) (.inr bl_begs)) (.inr (by
      obtain ⟨s, l, e, hs⟩ := bl_begs (x := numT k)
      exact ⟨s, l ++ tl (" " ++ numT i), by rw [tl_append, e]; rfl, hs⟩)))).mono (by have := tlen_ge n; omega)
  | .barred, n, _ => (Tx.of (L := 6) (by decide +kernel)).mono (by have := tlen_ge n; omega)
  | .bin w p q, n + 1, h => by
    have h1 := text_tx p n h.2.1
    have h2 := part_tx q (text_tx q n h.2.2)
    refine ((((h1.app bl_tx (.inr (BegsS.of (by decide +kernel)))).app (pair_tx h.1) (.inl bl_ends.app)).app bl_tx (.inr (BegsS.of (by decide +kernel)))).app h2 (.inl bl_ends.app)).mono ?_
    show _ ≤ 3 * (tlen n + 2) + 40
    omega
  | .from_ m p q, n + 1, h => by
    have h1 := part_tx p (text_tx p n h.2.1)
    have h2 := part_tx q (text_tx q n h.2.2)
    refine (((((Tx.of (L := 6) (x := "until ") (by decide +kernel)).app (num_tx (rng_mon h.1 (by decide) (by decide))) (.inl (EndsS.of (by decide +kernel)))).app bl_tx (.inr (BegsS.of (by decide +kernel)))).app h1 (.inl bl_ends.app)).app (Tx.of (L := 6) (x := " then ") (by decide +kernel)) (.inr (BegsS.of (by decide +kernel)))).app h2 (.inl (EndsS.app (EndsS.of (by decide +kernel)))) |>.mono ?_
    show _ ≤ 3 * (tlen n + 2) + 40
    omega
  | .share p a b w, n + 1, h => by
    obtain ⟨hp, ha, hb, hw⟩ := h
    have h1 := part_tx p (text_tx p n hp)
    refine (((((((Tx.of (L := 6) (x := "share ") (by decide +kernel)).app (num_tx (rng_mon ha (by decide) (by decide))) (.inl (EndsS.of (by decide +kernel)))).app bl_tx (.inr (BegsS.of (by decide +kernel)))).app (num_tx (rng_mon hb (by decide) (by decide))) (.inl bl_ends.app)).app bl_tx (.inr (BegsS.of (by decide +kernel)))).app (way_tx hw) (.inl bl_ends.app)).app bl_tx (.inr (BegsS.of (by decide +kernel)))).app h1 (.inl bl_ends.app) |>.mono ?_
    show _ ≤ 3 * (tlen n + 2) + 40
    have := tlen_ge n
    omega
  | .above p c q r, n + 1, h => by
    obtain ⟨hp, hc, hq, hr⟩ := h
    have h1 := part_tx p (text_tx p n hp)
    have h2 := part_tx q (text_tx q n hq)
    have h3 := part_tx r (text_tx r n hr)
    refine (((((((Tx.of (L := 3) (x := "if ") (by decide +kernel)).app h1 (.inl (EndsS.of (by decide +kernel)))).app (Tx.of (L := 9) (x := " reaches ") (by decide +kernel)) (.inr (BegsS.of (by decide +kernel)))).app (num_tx hc) (.inl (EndsS.app (EndsS.of (by decide +kernel))))).app (Tx.of (L := 6) (x := " then ") (by decide +kernel)) (.inr (BegsS.of (by decide +kernel)))).app h2 (.inl (EndsS.app (EndsS.of (by decide +kernel))))).app (Tx.of (L := 6) (x := " else ") (by decide +kernel)) (.inr (BegsS.of (by decide +kernel)))).app h3 (.inl (EndsS.app (EndsS.of (by decide +kernel)))) |>.mono ?_
    show _ ≤ 3 * (tlen n + 2) + 40
    omega
/-! in the mirror -/
theorem join_0 (ys : List Str) : tl (Txt.join "" ys) = (ys.map tl).flatten := by
  rw [join_eq, tl_join]
  have e : tl ("" : Str) = [] := rfl
  rw [e]
  induction ys with
  | nil => rfl
  | cons y ys ih =>
    cases ys with
    | nil => simp [joinL]
    | cons z zs =>
      simp only [List.map_cons, joinL, List.flatten_cons] at ih ⊢
      rw [ih]
      simp
theorem join1 (x : Str) : Txt.join "" [x] = x := ext_tl (by rw [join_0]; simp)
theorem join2 (x y : Str) : Txt.join "" [x, y] = x ++ y := ext_tl (by rw [join_0, tl_append]; simp)
theorem join_run (S : Store) (x : Str) (ys : List Str) (h : (ys.map (·.length)).sum + ys.length * x.length ≤ 16777216) : joinP S (.str x) [.lst (ys.map .str)] = some (.str (Txt.join x ys), S) := by
  unfold joinP
  simp only [asQ, asL, strsOf_map]
  rw [if_pos h]
theorem join_runT (S : Store) (x : Str) (ys : List Str) (h : (ys.map (·.length)).sum + ys.length * x.length ≤ 16777216) : joinP S (.str x) [.tup (ys.map .str)] = some (.str (Txt.join x ys), S) := by
  unfold joinP
  simp only [asQ, strsOf_map]
  rw [if_pos h]
theorem Pr.d_ix (p : Pr) : ∃ ds, p.d = .tup ds := by cases p <;> exact ⟨_, rfl⟩
/-- the first word of a price -/
def Pr.w : Pr → Str
  | .money _ => "money"
  | .each _ => "each"
  | .packs _ _ => "packs"
  | .full _ _ => "full"
  | .barred => "barred"
  | .bin w _ _ => w
  | .from_ _ _ _ => "from"
  | .share _ _ _ _ => "share"
  | .above _ _ _ _ => "above"
theorem Pr.ix0 (S : Store) (p : Pr) : ixP S p.d (.int 0) = some (.str p.w) := by
  cases p <;> exact at_0 _ _
theorem part_run {k : Nat} {p : Pr} {n : Nat} {S : Store} (ok : p.Ok n) (h : m__law_price_text k [p.d] S = .ok (.str p.text) S) (hn : n ≤ 3) : m__law_part_text (m__law_price_text k) [p.d] S = .ok (.str (p.part p.text)) S := by
  have t := text_tx p n ok
  have hl : tlen n ≤ 2000 := Nat.le_trans (tlen_mono hn) (by decide)
  have hlen := t.len
  have h1 : addP S (.str "(") (.str p.text) = some (.str ("(" ++ p.text)) := add_strs S (L := 1) (by decide +kernel) hlen (by omega)
  have h2 : addP S (.str ("(" ++ p.text)) (.str ")") = some (.str ("(" ++ p.text ++ ")")) := add_strs S (L := 2001) (M := 1) (by
    have e : ("(" ++ p.text).length = ("(" : Str).length + p.text.length := str_len _ _
    have e1 : ("(" : Str).length = 1 := by decide +kernel
    omega) (by decide +kernel) (by omega)
  have h4 := len_ok 4 (by decide)
  have ix := p.ix0 S
  have in4 : inP S (.str p.w) (.tup [.str "plus", .str "less", .str "least", .str "greatest"]) = some (.bl p.chain) := by
    rw [in_tup4]
    cases p with
    | bin w p q =>
      cases n with
      | zero => exact ok.elim
      | succ n => rcases ok.1 with rfl | rfl | rfl | rfl <;> simp [Pr.w, Pr.chain]
    | _ => simp [Pr.w, Pr.chain]
  generalize Pr.d p = d at *
  generalize Pr.w p = w at *
  generalize Pr.text p = x at *
  unfold m__law_part_text Pr.part
  cases hc : p.chain <;> rw [hc] at in4 <;>
    simp [ifV, tV, toB, consM, nilM, M.bind, varM, var, M.op2, M.lift, asB, M.pure, bin2, callM, cM, h, ix, tupM, h4, in4, h1, h2, SR.of, SR.bind]
theorem sum2 (x y : Str) (h : x.length + y.length ≤ 1000) : (([x, y] : List Str).map (·.length)).sum + ([x, y] : List Str).length * ("" : Str).length ≤ 16777216 := by
  have : ("" : Str).length = 0 := rfl
  simp [this]
  omega
theorem sum1 (x : Str) (h : x.length ≤ 1000) : (([x] : List Str).map (·.length)).sum + ([x] : List Str).length * ("" : Str).length ≤ 16777216 := by
  have : ("" : Str).length = 0 := rfl
  simp [this]
  omega
theorem cut1 (S : Store) (a : D) (r : List D) : slP S (.tup (a :: r)) (some 1) none = some (.tup r) := by
  rw [sl_tup, cut_from _ 1 (by decide)]
  rfl
theorem add_l (S : Store) {x y : Str} (h : x.length + y.length ≤ 16777216) : addP S (.str x) (.str y) = some (.str (x ++ y)) := add_strs S (Nat.le_refl _) (Nat.le_refl _) h
theorem text_run : ∀ (p : Pr) (n k : Nat) (S : Store), p.Ok n → n < k → n ≤ 3 → m__law_price_text k [p.d] S = .ok (.str p.text) S
  | p, n, 0, S, h, hk, hn => by omega
  | .money i, n, k + 1, S, h, hk, hn => by
    have hs := num_sp h
    have hx := hs.len
    have e1 := str_int S h
    have ad : addP S (.str " ") (.str (numT i)) = some (.str (" " ++ numT i)) := add_strs S (L := 1) (by decide +kernel) (num_tx h).len (by decide)
    have j := join_run S "" [" " ++ numT i] (sum1 _ (by omega))
    rw [join1] at j
    have ad2 : addP S (.str "money") (.str (" " ++ numT i)) = some (.str ("money" ++ (" " ++ numT i))) := add_strs S (L := 5) (by decide +kernel) hx (by decide)
    have l1 := len_ok 1 (by decide)
    have l4 := len_ok 4 (by decide)
    have j' : joinP S (.str "") [.lst [.str (" " ++ numT i)]] = some (.str (" " ++ numT i), S) := j
    unfold m__law_price_text
    simp [ifV, tV, toB, consM, nilM, M.bind, varM, var, M.op2, M.lift, asB, M.pure, bin2, cM, Pr.d, ix_tup', at_0, eq_strs, tupM, l4, in_tup4, SR.of, SR.bind, methM, M.guard, tyOk, lcM, lcI, seqI, slM, opP, noP, optI, asI, opS, cut1, srcA, wipeE, lcL, gN, yesT, bltM, M.opL, e1, ad, l1, M.opM, j', ad2, Pr.text]
  | .each i, n, k + 1, S, h, hk, hn => by
    have hs := num_sp h
    have hx := hs.len
    have e1 := str_int S h
    have ad : addP S (.str " ") (.str (numT i)) = some (.str (" " ++ numT i)) := add_strs S (L := 1) (by decide +kernel) (num_tx h).len (by decide)
    have j := join_run S "" [" " ++ numT i] (sum1 _ (by omega))
    rw [join1] at j
    have ad2 : addP S (.str "each") (.str (" " ++ numT i)) = some (.str ("each" ++ (" " ++ numT i))) := add_strs S (L := 5) (by decide +kernel) hx (by decide)
    have l1 := len_ok 1 (by decide)
    have l4 := len_ok 4 (by decide)
    have j' : joinP S (.str "") [.lst [.str (" " ++ numT i)]] = some (.str (" " ++ numT i), S) := j
    unfold m__law_price_text
    simp [ifV, tV, toB, consM, nilM, M.bind, varM, var, M.op2, M.lift, asB, M.pure, bin2, cM, Pr.d, ix_tup', at_0, eq_strs, tupM, l4, in_tup4, SR.of, SR.bind, methM, M.guard, tyOk, lcM, lcI, seqI, slM, opP, noP, optI, asI, opS, cut1, srcA, wipeE, lcL, gN, yesT, bltM, M.opL, e1, ad, l1, M.opM, j', ad2, Pr.text]
  | .packs c i, n, k + 1, S, h, hk, hn => by
    have hc := rng_mon h.1 (by decide) (by decide)
    have hx := (num_sp h.2).len
    have hy := (num_sp hc).len
    have e1 := str_int S h.2
    have e2 := str_int S hc
    have ad : addP S (.str " ") (.str (numT i)) = some (.str (" " ++ numT i)) := add_strs S (L := 1) (by decide +kernel) (num_tx h.2).len (by decide)
    have ae : addP S (.str " ") (.str (numT c)) = some (.str (" " ++ numT c)) := add_strs S (L := 1) (by decide +kernel) (num_tx hc).len (by decide)
    have j := join_run S "" [" " ++ numT c, " " ++ numT i] (sum2 _ _ (by omega))
    rw [join2] at j
    have ad2 : addP S (.str "packs") (.str ((" " ++ numT c) ++ (" " ++ numT i))) = some (.str ("packs" ++ ((" " ++ numT c) ++ (" " ++ numT i)))) := add_strs S (L := 5) (M := 18) (by decide +kernel) (by rw [str_len]; omega) (by decide)
    have l2 := len_ok 2 (by decide)
    have l4 := len_ok 4 (by decide)
    have j' : joinP S (.str "") [.lst [.str (" " ++ numT c), .str (" " ++ numT i)]] = some (.str ((" " ++ numT c) ++ (" " ++ numT i)), S) := j
    unfold m__law_price_text
    simp [ifV, tV, toB, consM, nilM, M.bind, varM, var, M.op2, M.lift, asB, M.pure, bin2, cM, Pr.d, ix_tup', at_0, eq_strs, tupM, l4, in_tup4, SR.of, SR.bind, methM, M.guard, tyOk, lcM, lcI, seqI, slM, opP, noP, optI, asI, opS, cut1, srcA, wipeE, lcL, gN, yesT, bltM, M.opL, e1, e2, ad, ae, l2, M.opM, j', ad2, Pr.text]
  | .full c i, n, k + 1, S, h, hk, hn => by
    have hc := rng_mon h.1 (by decide) (by decide)
    have hx := (num_sp h.2).len
    have hy := (num_sp hc).len
    have e1 := str_int S h.2
    have e2 := str_int S hc
    have ad : addP S (.str " ") (.str (numT i)) = some (.str (" " ++ numT i)) := add_strs S (L := 1) (by decide +kernel) (num_tx h.2).len (by decide)
    have ae : addP S (.str " ") (.str (numT c)) = some (.str (" " ++ numT c)) := add_strs S (L := 1) (by decide +kernel) (num_tx hc).len (by decide)
    have j := join_run S "" [" " ++ numT c, " " ++ numT i] (sum2 _ _ (by omega))
    rw [join2] at j
    have ad2 : addP S (.str "full") (.str ((" " ++ numT c) ++ (" " ++ numT i))) = some (.str ("full" ++ ((" " ++ numT c) ++ (" " ++ numT i)))) := add_strs S (L := 5) (M := 18) (by decide +kernel) (by rw [str_len]; omega) (by decide)
    have l2 := len_ok 2 (by decide)
    have l4 := len_ok 4 (by decide)
    have j' : joinP S (.str "") [.lst [.str (" " ++ numT c), .str (" " ++ numT i)]] = some (.str ((" " ++ numT c) ++ (" " ++ numT i)), S) := j
    unfold m__law_price_text
    simp [ifV, tV, toB, consM, nilM, M.bind, varM, var, M.op2, M.lift, asB, M.pure, bin2, cM, Pr.d, ix_tup', at_0, eq_strs, tupM, l4, in_tup4, SR.of, SR.bind, methM, M.guard, tyOk, lcM, lcI, seqI, slM, opP, noP, optI, asI, opS, cut1, srcA, wipeE, lcL, gN, yesT, bltM, M.opL, e1, e2, ad, ae, l2, M.opM, j', ad2, Pr.text]
  | .barred, n, k + 1, S, h, hk, hn => by
    unfold m__law_price_text
    simp [ifV, tV, toB, consM, nilM, M.bind, varM, var, M.op2, M.lift, asB, M.pure, bin2, cM, Pr.d, ix_tup', at_0, eq_strs, tupM, in_tup4, SR.of, SR.bind, Pr.text]
  | .bin w p q, n + 1, k + 1, S, h, hk, hn => by
    have T := (text_tx (.bin w p q) (n + 1) h).len
    have hb : tlen (n + 1) ≤ 2000 := Nat.le_trans (tlen_mono hn) (by decide)
    unfold Pr.text at T
    simp only [str_len] at T
    have l4 := len_ok 4 (by decide)
    have e1 := text_run p n k S h.2.1 (by omega) (by omega)
    have e2 := part_run h.2.2 (text_run q n k S h.2.2 (by omega) (by omega)) (by omega)
    have a1 := add_l S (x := p.text) (y := " ") (by (try simp only [str_len]); omega)
    have a2 := add_l S (x := p.text ++ " ") (y := w) (by (try simp only [str_len]); omega)
    have a3 := add_l S (x := p.text ++ " " ++ w) (y := " ") (by (try simp only [str_len]); omega)
    have a4 := add_l S (x := p.text ++ " " ++ w ++ " ") (y := q.part q.text) (by (try simp only [str_len]); omega)
    have hw1 : w ≠ "barred" := by rcases h.1 with rfl | rfl | rfl | rfl <;> simp
    have hw2 : (decide (w = "money") || (decide (w = "each") || (decide (w = "packs") || decide (w = "full")))) = false := by rcases h.1 with rfl | rfl | rfl | rfl <;> simp
    have hw3 : (decide (w = "plus") || (decide (w = "less") || (decide (w = "least") || decide (w = "greatest")))) = true := by rcases h.1 with rfl | rfl | rfl | rfl <;> simp
    have i2 : inP S (.str w) (.tup [.str "money", .str "each", .str "packs", .str "full"]) = some (.bl false) := by rw [in_tup4, hw2]
    have i3 : inP S (.str w) (.tup [.str "plus", .str "less", .str "least", .str "greatest"]) = some (.bl true) := by rw [in_tup4, hw3]
    have x1 : atI [D.str w, p.d, q.d] (1 : Int) = some p.d := rfl
    have x2 : atI [D.str w, p.d, q.d] (2 : Int) = some q.d := rfl
    unfold m__law_price_text
    simp [ifV, tV, toB, consM, nilM, M.bind, varM, var, M.op2, M.lift, asB, M.pure, bin2, cM, Pr.d, ix_tup', at_0, eq_strs, tupM, l4, SR.of, SR.bind, hw1, i2, i3, x1, x2, callM, e1, e2, a1, a2, a3, a4, Pr.text]
  | .from_ m p q, n + 1, k + 1, S, h, hk, hn => by
    have T := (text_tx (.from_ m p q) (n + 1) h).len
    have hb : tlen (n + 1) ≤ 2000 := Nat.le_trans (tlen_mono hn) (by decide)
    unfold Pr.text at T
    simp only [str_len] at T
    have l4 := len_ok 4 (by decide)
    have e0 := str_int S (rng_mon h.1 (by decide) (by decide))
    have e1 := part_run h.2.1 (text_run p n k S h.2.1 (by omega) (by omega)) (by omega)
    have e2 := part_run h.2.2 (text_run q n k S h.2.2 (by omega) (by omega)) (by omega)
    have a1 := add_l S (x := "until ") (y := numT m) (by (try simp only [str_len]); omega)
    have a2 := add_l S (x := "until " ++ numT m) (y := " ") (by (try simp only [str_len]); omega)
    have a3 := add_l S (x := "until " ++ numT m ++ " ") (y := p.part p.text) (by (try simp only [str_len]); omega)
    have a4 := add_l S (x := "until " ++ numT m ++ " " ++ p.part p.text) (y := " then ") (by (try simp only [str_len]); omega)
    have a5 := add_l S (x := "until " ++ numT m ++ " " ++ p.part p.text ++ " then ") (y := q.part q.text) (by (try simp only [str_len]); omega)
    have x1 : atI [D.str "from", .int m, p.d, q.d] (1 : Int) = some (.int m) := rfl
    have x2 : atI [D.str "from", .int m, p.d, q.d] (2 : Int) = some p.d := rfl
    have x3 : atI [D.str "from", .int m, p.d, q.d] (3 : Int) = some q.d := rfl
    unfold m__law_price_text
    simp [ifV, tV, toB, consM, nilM, M.bind, varM, var, M.op2, M.lift, asB, M.pure, bin2, cM, Pr.d, ix_tup', at_0, eq_strs, tupM, l4, in_tup4, SR.of, SR.bind, x1, x2, x3, bltM, M.opL, e0, callM, e1, e2, a1, a2, a3, a4, a5, Pr.text]
  | .share p a b w, n + 1, k + 1, S, h, hk, hn => by
    have T := (text_tx (.share p a b w) (n + 1) h).len
    have hb : tlen (n + 1) ≤ 2000 := Nat.le_trans (tlen_mono hn) (by decide)
    unfold Pr.text at T
    simp only [str_len] at T
    have l4 := len_ok 4 (by decide)
    obtain ⟨hp, ha, hbb, hw⟩ := h
    have e0 := str_int S (rng_mon ha (by decide) (by decide))
    have e00 := str_int S (rng_mon hbb (by decide) (by decide))
    have e1 := part_run hp (text_run p n k S hp (by omega) (by omega)) (by omega)
    have a1 := add_l S (x := "share ") (y := numT a) (by (try simp only [str_len]); omega)
    have a2 := add_l S (x := "share " ++ numT a) (y := " ") (by (try simp only [str_len]); omega)
    have a3 := add_l S (x := "share " ++ numT a ++ " ") (y := numT b) (by (try simp only [str_len]); omega)
    have a4 := add_l S (x := "share " ++ numT a ++ " " ++ numT b) (y := " ") (by (try simp only [str_len]); omega)
    have a5 := add_l S (x := "share " ++ numT a ++ " " ++ numT b ++ " ") (y := w) (by (try simp only [str_len]); omega)
    have a6 := add_l S (x := "share " ++ numT a ++ " " ++ numT b ++ " " ++ w) (y := " ") (by (try simp only [str_len]); omega)
    have a7 := add_l S (x := "share " ++ numT a ++ " " ++ numT b ++ " " ++ w ++ " ") (y := p.part p.text) (by (try simp only [str_len]); omega)
    have x1 : atI [D.str "share", p.d, .int a, .int b, .str w] (1 : Int) = some p.d := rfl
    have x2 : atI [D.str "share", p.d, .int a, .int b, .str w] (2 : Int) = some (.int a) := rfl
    have x3 : atI [D.str "share", p.d, .int a, .int b, .str w] (3 : Int) = some (.int b) := rfl
    have x4 : atI [D.str "share", p.d, .int a, .int b, .str w] (4 : Int) = some (.str w) := rfl
    unfold m__law_price_text
    simp [ifV, tV, toB, consM, nilM, M.bind, varM, var, M.op2, M.lift, asB, M.pure, bin2, cM, Pr.d, ix_tup', at_0, eq_strs, tupM, l4, in_tup4, SR.of, SR.bind, x1, x2, x3, x4, bltM, M.opL, e0, e00, callM, e1, a1, a2, a3, a4, a5, a6, a7, Pr.text]
  | .above p c q r, n + 1, k + 1, S, h, hk, hn => by
    have T := (text_tx (.above p c q r) (n + 1) h).len
    have hb : tlen (n + 1) ≤ 2000 := Nat.le_trans (tlen_mono hn) (by decide)
    unfold Pr.text at T
    simp only [str_len] at T
    have l3 := len_ok 3 (by decide)
    have l4 := len_ok 4 (by decide)
    obtain ⟨hp, hc, hq, hr⟩ := h
    have e0 := str_int S hc
    have e1 := part_run hp (text_run p n k S hp (by omega) (by omega)) (by omega)
    have e2 := part_run hq (text_run q n k S hq (by omega) (by omega)) (by omega)
    have e3 := part_run hr (text_run r n k S hr (by omega) (by omega)) (by omega)
    have a1 := add_l S (x := "if ") (y := p.part p.text) (by (try simp only [str_len]); omega)
    have a2 := add_l S (x := "if " ++ p.part p.text) (y := " reaches ") (by (try simp only [str_len]); omega)
    have a3 := add_l S (x := "if " ++ p.part p.text ++ " reaches ") (y := numT c) (by (try simp only [str_len]); omega)
    have a4 := add_l S (x := "if " ++ p.part p.text ++ " reaches " ++ numT c) (y := " then ") (by (try simp only [str_len]); omega)
    have a5 := add_l S (x := "if " ++ p.part p.text ++ " reaches " ++ numT c ++ " then ") (y := q.part q.text) (by (try simp only [str_len]); omega)
    have a6 := add_l S (x := "if " ++ p.part p.text ++ " reaches " ++ numT c ++ " then " ++ q.part q.text) (y := " else ") (by (try simp only [str_len]); omega)
    have a7 := add_l S (x := "if " ++ p.part p.text ++ " reaches " ++ numT c ++ " then " ++ q.part q.text ++ " else ") (y := r.part r.text) (by (try simp only [str_len]); omega)
    have x1 : atI [D.str "above", p.d, .int c, q.d, r.d] (1 : Int) = some p.d := rfl
    have x2 : atI [D.str "above", p.d, .int c, q.d, r.d] (2 : Int) = some (.int c) := rfl
    have x3 : atI [D.str "above", p.d, .int c, q.d, r.d] (3 : Int) = some q.d := rfl
    have x4 : atI [D.str "above", p.d, .int c, q.d, r.d] (4 : Int) = some r.d := rfl
    have y0 : ∀ a b c : D, atI [a, b, c] (0 : Int) = some a := fun _ _ _ => rfl
    have y1 : ∀ a b c : D, atI [a, b, c] (1 : Int) = some b := fun _ _ _ => rfl
    have y2 : ∀ a b c : D, atI [a, b, c] (2 : Int) = some c := fun _ _ _ => rfl
    unfold m__law_price_text
    simp [ifV, tV, toB, consM, nilM, M.bind, varM, var, M.op2, M.lift, asB, M.pure, bin2, cM, Pr.d, ix_tup', at_0, eq_strs, tupM, l4, in_tup4, SR.of, SR.bind, x1, x2, x3, x4, lcM, lcI, seqI, srcA, wipeE, lcL, gN, yesT, l3, callM, e1, e2, e3, bltM, M.opL, e0, ix_lst, y0, y1, y2, a1, a2, a3, a4, a5, a6, a7, Pr.text]
end PyM
set_option Elab.async false
set_option linter.all false
set_option maxRecDepth 100000
set_option maxHeartbeats 8000000
namespace PyM
open PySem PySem.Spec PyProof.Rows L2 TL
/-! ### texts with blanks more -/
/-- signs that are no blanks -/
def nb (l : List Nat) : Nat := (l.filter fun c => c != 32).length
theorem nb_app (x y : List Nat) : nb (x ++ y) = nb x + nb y := by simp [nb]
theorem nb_le (x : List Nat) : nb x ≤ x.length := List.length_filter_le _ _
theorem ra_le : ∀ {x : List Nat} {k a : Nat}, k ≤ 20 → ra k x = some a → a ≤ 20
  | [], k, a, hk, h => by
    obtain rfl := Option.some.inj h
    exact hk
  | c :: x, k, a, hk, h => by
    rw [ra_cons] at h
    split at h
    · exact ra_le (Nat.le_refl _) h
    · cases k with
      | zero => cases h
      | succ k => exact ra_le (k := k) (by omega) h
abbrev chr (c : Nat) : Str := ⟨#[c]⟩
theorem tl_chr (c : Nat) : tl (chr c) = [c] := rfl
theorem ra_pre {k : Nat} {x y : List Nat} {a : Nat} (h : ra k (x ++ y) = some a) : ∃ b, ra k x = some b := by
  rw [ra_append] at h
  cases e : ra k x with
  | none => rw [e] at h; cases h
  | some b => exact ⟨b, rfl⟩
theorem rep_tl (n : Nat) : tl (strRep " " n) = List.replicate n 32 := by
  have e : (" " : Str).cps.toList = [32] := rfl
  unfold strRep
  rw [e, tl_mk]
  induction n with
  | zero => rfl
  | succ n ih => rw [List.replicate_succ, List.replicate_succ, List.flatten_cons, ih]; rfl
theorem rep_run (S : Store) {v : Int} (h : 0 ≤ v) (h2 : v ≤ 100) : mulP2 S (.str " ") (.int v) = some (.str (strRep " " v.toNat)) := by
  have hs := sizeLine_eq
  have e : (" " : Str).length = 1 := rfl
  unfold mulP2
  simp only
  rw [if_pos]
  rw [e]
  omega
theorem ra_blanks (k n : Nat) (y : List Nat) : ra k (List.replicate (n + 1) 32 ++ y) = ra 20 y := by
  induction n generalizing k with
  | zero => show ra k (32 :: y) = _; rw [ra_cons]; rfl
  | succ n ih => rw [List.replicate_succ, List.cons_append, ra_cons, if_pos (show sepC 32 = true from rfl), ih]
theorem nb_blanks (n : Nat) : nb (List.replicate n 32) = 0 := by
  induction n with
  | zero => rfl
  | succ n ih => rw [List.replicate_succ]; simpa [nb] using ih
theorem chr_inj {a b : Nat} : chr a = chr b ↔ a = b := by
  constructor
  · intro h
    have := congrArg tl h
    simpa [tl_chr] using this
  · rintro rfl; rfl
theorem chr_bl (c : Nat) : (chr c = (" " : Str)) ↔ c = 32 := by
  have : (" " : Str) = chr 32 := rfl
  rw [this, chr_inj]
theorem in_marks (S : Store) (c : Nat) : inP S (.str (chr c)) (.str "(),") = some (.bl (decide (c ∈ tl "(),"))) := rfl
noncomputable def stepL : MSt := seqM (setM 2 (bin2 addP (varM 2) (ifV (tV (bin2 neP (varM 5) (cM (.str " ")))) (varM 5) (bin2 mulP2 (cM (.str " ")) (bin2 addP (cM (.int 1)) (callM 2 m__law_take (consM (varM 0) (consM (cM (.int 2)) nilM))))))))
  (setM 2 (bin2 addP (varM 2) (ifV (andM (tV (bin2 inP (varM 5) (cM (.str "(),")))) (tV (bin2 eqP (callM 2 m__law_take (consM (varM 0) (consM (cM (.int 2)) nilM))) (cM (.int 0))))) (cM (.str " ")) (cM (.str "")))))
/-- one sign -/
theorem sign_step {R : Store} {c : Nat} {f : Str} {S : Store} {d1 d3 d4 : Option D} (hb : Bag S R) (hl : f.length ≤ 1000000) :
    ∃ g S', stepL [some (.loc 0), d1, some (.str f), d3, d4, some (.str (chr c))] S = .nx [some (.loc 0), d1, some (.str (f ++ g)), d3, d4, some (.str (chr c))] S' ∧ Bag S' R ∧ g.length ≤ 2 ∧ nb (tl g) = nb [c] ∧ (∀ z ∈ tl g, z = c ∨ z = 32) ∧
      ∀ k m a, k ≤ m → m ≤ 20 → ra k [c] = some a → (∃ b, ra m (tl g) = some b ∧ a ≤ b) := by
  by_cases hc : c = 32
  · subst hc
    obtain ⟨v, S1, e1, v0, v1, b1⟩ := take_any (many := 2) hb (by decide) (by decide)
    have e2 := rep_run (v := 1 + v) S1 (by omega) (by omega)
    have n1 : (1 + v).toNat = v.toNat + 1 := by omega
    have gl : (strRep " " (1 + v).toNat).length ≤ 2 := by rw [len_tl, rep_tl, List.length_replicate]; omega
    have a1 := add_l S1 (x := f) (y := strRep " " (1 + v).toNat) (by omega)
    have a2 := add_l S1 (x := f ++ strRep " " (1 + v).toNat) (y := "") (by have : ("" : Str).length = 0 := rfl; rw [str_len]; omega)
    have he : f ++ strRep " " (1 + v).toNat ++ "" = f ++ strRep " " (1 + v).toNat := ext_tl (by rw [tl_append]; show _ ++ [] = _; simp)
    rw [he] at a2
    have ne : neP S (.str (chr 32)) (.str " ") = some (.bl false) := by rw [ne_strs]; simp [chr_bl]
    have im : inP S1 (.str (chr 32)) (.str "(),") = some (.bl false) := rfl
    refine ⟨strRep " " (1 + v).toNat, S1, ?_, b1, gl, ?_, fun z hz => .inr (by rw [rep_tl] at hz; exact (List.mem_replicate.mp hz).2), fun k m a hk _ h => ⟨20, ?_, ?_⟩⟩
    · unfold stepL
      simp [M.bind, varM, var, M.pure, bin2, M.op2, ifV, tV, toB, cM, ne, M.lift, asB, callM, consM, nilM, e1, add_ints, e2, a1, SR.of, SR.bind, andM, im, a2]
    · rw [rep_tl, nb_blanks]; rfl
    · rw [rep_tl, n1]
      have := ra_blanks m v.toNat []
      rw [List.append_nil] at this
      exact this
    · rw [ra_cons, if_pos (show sepC 32 = true from rfl)] at h
      obtain rfl := Option.some.inj h
      exact Nat.le_refl _
  · have ne : neP S (.str (chr c)) (.str " ") = some (.bl true) := by rw [ne_strs]; simp [chr_bl, hc]
    have a1 := add_l S (x := f) (y := chr c) (by have : (chr c).length = 1 := rfl; omega)
    have fl : (f ++ chr c).length ≤ 1000001 := by rw [str_len]; have : (chr c).length = 1 := rfl; omega
    have he : f ++ chr c ++ "" = f ++ chr c := ext_tl (by rw [tl_append]; show _ ++ [] = _; simp)
    have a2 : ∀ S, addP S (.str (f ++ chr c)) (.str "") = some (.str (f ++ chr c)) := fun S => by
      rw [add_l S (x := f ++ chr c) (y := "") (by have : ("" : Str).length = 0 := rfl; omega), he]
    have plain : ∀ k m a, k ≤ m → m ≤ 20 → ra k [c] = some a → ∃ b, ra m (tl (chr c)) = some b ∧ a ≤ b := fun k m a hk _ h => ra_mono [c] hk h
    by_cases hm : c ∈ tl "(),"
    · obtain ⟨v, S1, e1, v0, v1, b1⟩ := take_any (many := 2) hb (by decide) (by decide)
      have im : inP S (.str (chr c)) (.str "(),") = some (.bl true) := by rw [in_marks, decide_eq_true hm]
      have a3 := add_l S1 (x := f ++ chr c) (y := " ") (by have : (" " : Str).length = 1 := rfl; omega)
      have as : f ++ chr c ++ " " = f ++ (chr c ++ " ") := ext_tl (by simp [tl_append])
      by_cases hv : v = 0
      · refine ⟨chr c ++ " ", S1, ?_, b1, by rw [str_len]; exact Nat.le_refl 2, ?_, fun z hz => by
          rw [tl_append] at hz
          exact (List.mem_append.mp hz).elim (fun h => .inl (List.mem_singleton.mp h)) (fun h => .inr (List.mem_singleton.mp h)), fun k m a hk hm20 h => ?_⟩
        · unfold stepL
          simp [M.bind, varM, var, M.pure, bin2, M.op2, ifV, tV, toB, cM, ne, M.lift, asB, callM, consM, nilM, e1, a1, SR.of, SR.bind, andM, im, eq_ints, hv, a3, as]
        · rw [tl_append, nb_app, tl_chr]; rfl
        · obtain ⟨b, hb', hab⟩ := plain k m a hk hm20 h
          refine ⟨20, ?_, Nat.le_trans hab (ra_le hm20 hb')⟩
          rw [tl_append, ra_append, hb']
          show ra b [32] = _
          rw [ra_cons]; rfl
      · refine ⟨chr c, S1, ?_, b1, show 1 ≤ 2 by decide, by rw [tl_chr], fun z hz => .inl (List.mem_singleton.mp hz), plain⟩
        unfold stepL
        simp [M.bind, varM, var, M.pure, bin2, M.op2, ifV, tV, toB, cM, ne, M.lift, asB, callM, consM, nilM, e1, a1, SR.of, SR.bind, andM, im, eq_ints, hv, a2]
    · have im : inP S (.str (chr c)) (.str "(),") = some (.bl false) := by rw [in_marks, decide_eq_false hm]
      refine ⟨chr c, S, ?_, hb, show 1 ≤ 2 by decide, by rw [tl_chr], fun z hz => .inl (List.mem_singleton.mp hz), plain⟩
      unfold stepL
      simp [M.bind, varM, var, M.pure, bin2, M.op2, ifV, tV, toB, cM, ne, M.lift, asB, callM, consM, nilM, a1, SR.of, SR.bind, andM, im, a2]
end PyM
set_option Elab.async false
set_option linter.all false
set_option maxRecDepth 100000
set_option maxHeartbeats 8000000
namespace PyM
open PySem PySem.Spec PyProof.Rows L2 TL
theorem nb_cons (c : Nat) (l : List Nat) : nb (c :: l) = nb [c] + nb l := nb_app [c] l
theorem app_nil (f : Str) : f ++ "" = f := ext_tl (by rw [tl_append]; show _ ++ [] = _; simp)
theorem app_assoc (a b c : Str) : a ++ b ++ c = a ++ (b ++ c) := ext_tl (by simp [tl_append])
theorem signs_loop {R : Store} {d1 d3 d4 : Option D} : ∀ (L : List Nat) (f : Str) (d5 : Option D) {S : Store}, Bag S R → f.length + 2 * L.length ≤ 1000000 →
    ∃ g d5' S', loopS (fun _ => true) (gN 5) stepL (L.map fun c => .str (chr c)) [some (.loc 0), d1, some (.str f), d3, d4, d5] S = .nx [some (.loc 0), d1, some (.str (f ++ g)), d3, d4, d5'] S' ∧ Bag S' R ∧ g.length ≤ 2 * L.length ∧ nb (tl g) = nb L ∧ (∀ z ∈ tl g, z ∈ L ∨ z = 32) ∧
      ∀ k m a, k ≤ m → m ≤ 20 → ra k L = some a → ∃ b, ra m (tl g) = some b ∧ a ≤ b
  | [], f, d5, S, hb, _ => ⟨"", d5, S, by rw [app_nil]; rfl, hb, Nat.zero_le _, rfl, fun z hz => absurd hz (by show z ∉ []; simp), fun k m a hk _ h => ⟨m, rfl, by obtain rfl := Option.some.inj h; exact hk⟩⟩
  | c :: L, f, d5, S, hb, hl => by
    rw [List.length_cons] at hl
    obtain ⟨g1, S1, e1, b1, l1, n1, q1, r1⟩ := sign_step (c := c) (f := f) (d1 := d1) (d3 := d3) (d4 := d4) hb (by omega)
    obtain ⟨g2, d5', S2, e2, b2, l2, n2, q2, r2⟩ := signs_loop (d1 := d1) (d3 := d3) (d4 := d4) L (f ++ g1) (some (.str (chr c))) b1 (by rw [str_len]; omega)
    refine ⟨g1 ++ g2, d5', S2, ?_, b2, ?_, ?_, fun z hz => ?_, fun k m a hk hm h => ?_⟩
    · rw [List.map_cons]
      unfold loopS
      simp only [gN, List.set, if_true]
      rw [e1]
      rw [← app_assoc]
      exact e2
    · rw [str_len, List.length_cons]; omega
    · rw [tl_append, nb_app, nb_cons, n1, n2]
    · rw [tl_append] at hz
      rcases List.mem_append.mp hz with h | h
      · exact (q1 z h).elim (fun e => .inl (by simp [e])) .inr
      · exact (q2 z h).elim (fun e => .inl (by simp [e])) .inr
    · have h' : ra k ([c] ++ L) = some a := h
      rw [ra_append] at h'
      cases q : ra k [c] with
      | none => rw [q] at h'; cases h'
      | some a1 =>
        rw [q] at h'
        obtain ⟨b1', hb1, hab⟩ := r1 k m a1 hk hm q
        have hb20 : b1' ≤ 20 := ra_le hm hb1
        obtain ⟨b2', hb2, hab2⟩ := r2 a1 b1' a hab hb20 h'
        exact ⟨b2', by rw [tl_append, ra_append, hb1]; exact hb2, hab2⟩
theorem ra_nl (k : Nat) : ra k [10] = some 20 := by rw [ra_cons]; rfl
theorem str_src (S : Store) (x : Str) : srcA (.str x) S = .ok ⟨(tl x).map fun c => .str (chr c), fun _ => true⟩ S := rfl
noncomputable def lineL : MSt := seqM (forM (rngI1 (consM (bin2 divP (callM 2 m__law_take (consM (varM 0) (consM (cM (.int 3)) nilM))) (cM (.int 2))) nilM)) (gN 4)
  (setM 2 (bin2 addP (bin2 addP (varM 2) (bin2 mulP2 (cM (.str " ")) (callM 2 m__law_take (consM (varM 0) (consM (cM (.int 3)) nilM))))) (cM (.str "\n")))))
  (seqM (forM (seqI (varM 3)) (gN 5) stepL)
  (setM 2 (bin2 addP (varM 2) (cM (.str "\n")))))
/-- a line: an empty one perhaps, its signs, its end -/
theorem line_step {R : Store} {ln f : Str} {S : Store} {d1 d4 d5 : Option D} {L : Nat} (hb : Bag S R) (ht : Tx L ln) (hl : f.length + 2 * L + 10 ≤ 1000000) :
    ∃ g d4' d5' S', lineL [some (.loc 0), d1, some (.str f), some (.str ln), d4, d5] S = .nx [some (.loc 0), d1, some (.str (f ++ g)), some (.str ln), d4', d5'] S' ∧ Bag S' R ∧ g.length ≤ 2 * ln.length + 4 ∧ nb (tl ln) + 1 ≤ nb (tl g) ∧ nb (tl g) ≤ nb (tl ln) + 2 ∧ ra 20 (tl g) = some 20 ∧ Sg (tl g) := by
  obtain ⟨v, S1, e1, v0, v1, b1⟩ := take_any (many := 3) hb (by decide) (by decide)
  have hlen := ht.len
  have nl1 : ("\n" : Str).length = 1 := rfl
  have feed : ∃ g0 d4' S2, forM (rngI1 (consM (bin2 divP (callM 2 m__law_take (consM (varM 0) (consM (cM (.int 3)) nilM))) (cM (.int 2))) nilM)) (gN 4)
      (setM 2 (bin2 addP (bin2 addP (varM 2) (bin2 mulP2 (cM (.str " ")) (callM 2 m__law_take (consM (varM 0) (consM (cM (.int 3)) nilM))))) (cM (.str "\n"))))
      [some (.loc 0), d1, some (.str f), some (.str ln), d4, d5] S = .nx [some (.loc 0), d1, some (.str (f ++ g0)), some (.str ln), d4', d5] S2 ∧ Bag S2 R ∧ g0.length ≤ 3 ∧ nb (tl g0) ≤ 1 ∧ ra 20 (tl g0) = some 20 ∧ Sg (tl g0) := by
    have hdiv : divP S1 (.int v) (.int 2) = some (.int (v / 2)) := div_ints S1 v 2 ⟨by decide, by decide⟩
    by_cases hv : v < 2
    · have z : v / 2 = 0 := by omega
      refine ⟨"", d4, S1, ?_, b1, by decide, by decide, rfl, fun z hz => absurd hz (by show z ∉ []; simp)⟩
      rw [app_nil]
      simp [forM, rngI1, consM, nilM, M.bind, bin2, callM, varM, var, M.pure, cM, e1, M.op2, hdiv, z, srcR1, rngOk, srcR, loopS, SR.of]
    · have z : v / 2 = 1 := by omega
      obtain ⟨w, S2, e2, w0, w1, b2⟩ := take_any (many := 3) b1 (by decide) (by decide)
      have er := rep_run (v := w) S2 w0 (by omega)
      have lr : (strRep " " w.toNat).length ≤ 2 := by rw [len_tl, rep_tl, List.length_replicate]; omega
      have a1 := add_l S2 (x := f) (y := strRep " " w.toNat) (by omega)
      have a2 := add_l S2 (x := f ++ strRep " " w.toNat) (y := "\n") (by rw [str_len]; omega)
      rw [app_assoc] at a2
      have ok : rngOk 1 := by decide
      refine ⟨strRep " " w.toNat ++ "\n", some (.int 0), S2, ?_, b2, by rw [str_len]; omega, ?_, ?_, ?_⟩
      · simp [forM, rngI1, consM, nilM, M.bind, bin2, callM, varM, var, M.pure, cM, e1, M.op2, hdiv, z, srcR1, ok, srcR, loopS, SR.of, gN, List.range_succ, e2, er, a1, a2]
      · rw [tl_append, nb_app, rep_tl, nb_blanks]; decide
      · rw [tl_append, ra_append, rep_tl]
        have : ∃ b, ra 20 (List.replicate w.toNat 32) = some b := by
          cases w.toNat with
          | zero => exact ⟨20, rfl⟩
          | succ n =>
            have := ra_blanks 20 n []
            rw [List.append_nil] at this
            exact ⟨20, this⟩
        obtain ⟨b, hb'⟩ := this
        rw [hb']
        exact ra_nl b
      · rw [tl_append, rep_tl]
        refine Sg.append (fun z hz => ?_) (fun z hz => ?_)
        · rw [(List.mem_replicate.mp hz).2]; decide
        · rw [List.mem_singleton.mp hz]; decide
  obtain ⟨g0, d4', S2, e2, b2, l2, n2, r2, s2⟩ := feed
  obtain ⟨g1, d5', S3, e3, b3, l3, n3, s3, r3⟩ := signs_loop (d1 := d1) (d3 := some (.str ln)) (d4 := d4') (tl ln) (f ++ g0) d5 b2 (by rw [str_len, ← len_tl]; omega)
  rw [← len_tl] at l3
  have a3 := add_l S3 (x := f ++ g0 ++ g1) (y := "\n") (by rw [str_len, str_len]; omega)
  rw [app_assoc, app_assoc] at a3
  obtain ⟨a, ha⟩ := ht.rb
  obtain ⟨b, hb', _⟩ := r3 20 20 a (Nat.le_refl _) (Nat.le_refl _) ha
  refine ⟨g0 ++ (g1 ++ "\n"), d4', d5', S3, ?_, b3, ?_, ?_, ?_, ?_, ?_⟩
  · unfold lineL
    show SR.bind (forM _ _ _ _ S) _ = _
    rw [e2]
    show SR.bind (forM (seqI (varM 3)) (gN 5) stepL _ S2) _ = _
    have e4 : forM (seqI (varM 3)) (gN 5) stepL [some (.loc 0), d1, some (.str (f ++ g0)), some (.str ln), d4', d5] S2 = .nx [some (.loc 0), d1, some (.str (f ++ g0 ++ g1)), some (.str ln), d4', d5'] S3 := by
      unfold forM seqI
      simp only [M.bind, varM, var, List.getElem?_cons_succ, List.getElem?_cons_zero, M.pure, str_src, SR.of]
      exact e3
    rw [e4]
    rw [app_assoc]
    simp [M.bind, varM, var, M.pure, bin2, M.op2, cM, a3, SR.of, SR.bind]
    rw [app_assoc g0]
  · rw [str_len, str_len]; omega
  · rw [tl_append, tl_append, nb_app, nb_app, n3]
    have : nb (tl ("\n" : Str)) = 1 := rfl
    omega
  · rw [tl_append, tl_append, nb_app, nb_app, n3]
    have : nb (tl ("\n" : Str)) = 1 := rfl
    omega
  · rw [tl_append, tl_append, ra_append, r2]
    show ra 20 (tl g1 ++ [10]) = _
    rw [ra_append, hb']
    exact ra_nl b
  · rw [tl_append, tl_append]
    refine s2.append (Sg.append (fun z hz => ?_) (fun z hz => ?_))
    · rcases s3 z hz with h | h
      · exact ht.sg z h
      · rw [h]; decide
    · rw [List.mem_singleton.mp hz]; decide
theorem lines_loop {R : Store} {d1 : Option D} {L : Nat} : ∀ (ls : List Str) (f : Str) (d3 d4 d5 : Option D) {S : Store}, Bag S R → (∀ l ∈ ls, Tx L l) → f.length + ls.length * (2 * L + 4) + 10 ≤ 1000000 →
    ∃ g d3' d4' d5' S', loopS (fun _ => true) (gN 3) lineL (ls.map .str) [some (.loc 0), d1, some (.str f), d3, d4, d5] S = .nx [some (.loc 0), d1, some (.str (f ++ g)), d3', d4', d5'] S' ∧ Bag S' R ∧ g.length ≤ 2 * (ls.map (·.length)).sum + 4 * ls.length ∧
      (ls.map fun l => nb (tl l)).sum + ls.length ≤ nb (tl g) ∧ nb (tl g) ≤ (ls.map fun l => nb (tl l)).sum + 2 * ls.length ∧ ra 20 (tl g) = some 20 ∧ Sg (tl g)
  | [], f, d3, d4, d5, S, hb, _, _ => ⟨"", d3, d4, d5, S, by rw [app_nil]; rfl, hb, Nat.zero_le _, Nat.zero_le _, Nat.zero_le _, rfl, fun z hz => absurd hz (by show z ∉ []; simp)⟩
  | l :: ls, f, d3, d4, d5, S, hb, ht, hl => by
    have t := ht l (by simp)
    have tlen := t.len
    rw [List.length_cons, Nat.succ_mul] at hl
    obtain ⟨g1, d4', d5', S1, e1, b1, l1, n1, m1, r1, s1⟩ := line_step (ln := l) (f := f) (d1 := d1) (d4 := d4) (d5 := d5) hb t (by omega)
    obtain ⟨g2, d3', d4'', d5'', S2, e2, b2, l2, n2, m2, r2, s2⟩ := lines_loop (d1 := d1) ls (f ++ g1) (some (.str l)) d4' d5' b1 (fun x hx => ht x (by simp [hx])) (by rw [str_len]; omega)
    refine ⟨g1 ++ g2, d3', d4'', d5'', S2, ?_, b2, ?_, ?_, ?_, ?_, by rw [tl_append]; exact s1.append s2⟩
    · rw [List.map_cons]
      unfold loopS
      simp only [gN, List.set, if_true]
      rw [e1, ← app_assoc]
      exact e2
    · simp only [str_len, List.map_cons, List.sum_cons, List.length_cons]; omega
    · simp only [tl_append, nb_app, List.map_cons, List.sum_cons, List.length_cons]; omega
    · simp only [tl_append, nb_app, List.map_cons, List.sum_cons, List.length_cons]; omega
    · rw [tl_append, ra_append, r1]; exact r2
theorem split_run (S : Store) {x y : Str} (hy : y.length ≠ 0) (h : x.length ≤ 1000000) : splitP S (.str x) [.str y] = some (.lst ((Txt.split x y).map .str), S) := by
  have hs := sizeLine_eq
  unfold splitP
  simp only
  rw [if_pos]
  exact ⟨by simpa using hy, by omega⟩
theorem cut_back (x : Str) : ∃ l, tl x = tl (cutS x none (some (-1))) ++ l ∧ l.length ≤ 1 := by
  have e1 : HT.sIx x.length 0 none = 0 := rfl
  have e2 : HT.sIx x.length x.length (some (-1)) = ((-1 : Int) + (x.length : Int)).toNat := rfl
  have e : tl (cutS x none (some (-1))) = (tl x).take (((-1 : Int) + (x.length : Int)).toNat) := by
    unfold cutS
    rw [tl_mk, e1, e2]
    rfl
  refine ⟨(tl x).drop (((-1 : Int) + (x.length : Int)).toNat), ?_, ?_⟩
  · rw [e, List.take_append_drop]
  · rw [List.length_drop, ← len_tl]
    omega
theorem slS_run (S : Store) {x : Str} (h : x.length ≤ 1000000) (lo hi : Option Int) : slP S (.str x) lo hi = some (.str (cutS x lo hi)) := by
  have hs := sizeLine_eq
  exact if_pos (by omega)
/-- a text with blanks more -/
theorem loose_run {R : Store} {ls : List Str} {L : Nat} {S : Store} (hb : Bag S R) (h0 : ls ≠ []) (ht : ∀ l ∈ ls, Tx L l) (hl : ls.length * (2 * L + 4) + 10 ≤ 1000000) (hj : (Txt.join "\n" ls).length ≤ 1000000) (hne : 0 < (ls.map fun l => nb (tl l)).sum) :
    ∃ x S', m__law_loose [.loc 0, .str (Txt.join "\n" ls)] S = .ok (.str x) S' ∧ Bag S' R ∧ x.length ≤ 2 * (ls.map (·.length)).sum + 4 * ls.length ∧ 0 < nb (tl x) ∧ nb (tl x) ≤ (ls.map fun l => nb (tl l)).sum + 2 * ls.length ∧ Sg (tl x) ∧ ∃ a, ra 20 (tl x) = some a := by
  have hsp : Txt.split (Txt.join "\n" ls) "\n" = ls := split_join (s := 10) (S := []) rfl (by decide +kernel) h0 fun p hp => (ht p hp).nl
  have hrun := split_run S (x := Txt.join "\n" ls) (y := "\n") (by decide) hj
  rw [hsp] at hrun
  obtain ⟨g, d3', d4', d5', S1, e1, b1, l1, n1, m1, r1, s1⟩ := lines_loop (d1 := some (.str (Txt.join "\n" ls))) ls "" none none none hb ht (by have : ("" : Str).length = 0 := rfl; omega)
  have hg : ("" : Str) ++ g = g := ext_tl (by rw [tl_append]; rfl)
  rw [hg] at e1
  have hlen : 0 < ls.length := List.length_pos_iff.mpr h0
  have hsum : (ls.map (·.length)).sum ≤ ls.length * L := by
    clear hsp hrun e1 l1 n1 m1 hne hl h0 hlen hj
    induction ls with
    | nil => exact Nat.zero_le _
    | cons l ls ih =>
      have h1 := (ht l (by simp)).len
      have h2 := ih fun x hx => ht x (by simp [hx])
      rw [List.map_cons, List.sum_cons, List.length_cons, Nat.succ_mul]
      omega
  have hgl : g.length ≤ 1000000 := by
    have : ls.length * (2 * L + 4) = 2 * (ls.length * L) + 4 * ls.length := by rw [Nat.mul_add, Nat.mul_left_comm]; omega
    omega
  obtain ⟨v, S2, e2, v0, v1, b2⟩ := take_any (many := 2) b1 (by decide) (by decide)
  have loop : forM (seqI (methM "str" splitP (varM 1) (consM (cM (.str "\n")) nilM))) (gN 3) lineL [some (.loc 0), some (.str (Txt.join "\n" ls)), some (.str ""), none, none, none] S = .nx [some (.loc 0), some (.str (Txt.join "\n" ls)), some (.str g), d3', d4', d5'] S1 := by
    have hst : still (.lst (ls.map D.str)) (ls.map D.str) = fun _ => true := rfl
    unfold forM seqI
    simp [methM, M.guard, tyOk, consM, nilM, M.bind, varM, var, M.pure, cM, M.opM, hrun, srcA, asS, asL, hst, SR.of, e1]
  have body : m__law_loose [.loc 0, .str (Txt.join "\n" ls)] S = ((SR.bind (.nx [some (.loc 0), some (.str (Txt.join "\n" ls)), some (.str g), d3', d4', d5'] S1) (retM (ifV (tV (bin2 eqP (callM 2 m__law_take (consM (varM 0) (consM (cM (.int 2)) nilM))) (cM (.int 0)))) (varM 2) (slM (varM 2) noP (opP (un1 negP (cM (.int 1)))))))).out) := by
    rw [← loop]
    rfl
  rw [body]
  by_cases hv : v = 0
  · refine ⟨g, S2, ?_, b2, by omega, by omega, by omega, s1, _, r1⟩
    simp [ifV, tV, toB, consM, nilM, M.bind, varM, var, M.op2, M.lift, asB, M.pure, bin2, callM, cM, e2, hv, eq_ints, SR.of, SR.bind, SR.out]
  · obtain ⟨l, hc, hc1⟩ := cut_back g
    have hsl := slS_run S2 hgl none (some (-1))
    have hnb : nb (tl g) = nb (tl (cutS g none (some (-1)))) + nb l := by rw [← nb_app, ← hc]
    have hnl := nb_le l
    refine ⟨cutS g none (some (-1)), S2, ?_, b2, Nat.le_trans (cutS_length _ _ _) (by omega), by omega, by omega, fun z hz => s1 z (by rw [hc]; exact List.mem_append_left _ hz), ra_pre (y := l) (by rw [← hc]; exact r1)⟩
    simp [ifV, tV, toB, consM, nilM, M.bind, varM, var, M.op2, M.op1, un1, neg_int, M.lift, asB, M.pure, bin2, callM, cM, e2, hv, eq_ints, slM, noP, opP, optI, asI, opS, hsl, SR.of, SR.bind, SR.out]
end PyM
set_option Elab.async false
set_option linter.all false
set_option maxRecDepth 100000
set_option maxHeartbeats 8000000
namespace PyM
open PySem PySem.Spec PyProof.Rows L2 TL
/-! ### the texts of drawn shops -/
def Dd.line (t : Dd) : Str := "deed " ++ t.nm ++ " from " ++ t.b ++ " to " ++ t.e ++ " is " ++ t.p.text
def shLines (sh : Option Str) : List Str := match sh with
  | none => []
  | some s => ["shown " ++ s]
def shopLines (xs es : List Str) (ts : List Dd) (sh : Option Str) : List Str := ("standing " ++ Txt.join ", " xs) :: ("ends " ++ Txt.join ", " es) :: (ts.map Dd.line ++ shLines sh)
theorem four_tx : ∀ x ∈ fourW, Tx 5 x := fun x hx => Tx.of (by
  have : fourW.all (txB 5) = true := by decide +kernel
  exact List.all_eq_true.mp this x hx)
theorem five_tx : ∀ x ∈ fiveW, Tx 5 x := fun x hx => Tx.of (by
  have : fiveW.all (txB 5) = true := by decide +kernel
  exact List.all_eq_true.mp this x hx)
theorem four_comma : ∀ x ∈ fourW, Tx 7 (x ++ ", ") ∧ EndsS (x ++ ", ") := fun x hx => by
  have : fourW.all (fun x => txB 7 (x ++ ", ") && endsB (x ++ ", ")) = true := by decide +kernel
  have := List.all_eq_true.mp this x hx
  rw [Bool.and_eq_true] at this
  exact ⟨Tx.of this.1, EndsS.of this.2⟩
theorem join_nil (y : Str) : Txt.join y [] = "" := by rw [join_eq]; rfl
theorem join_one (y x : Str) : Txt.join y [x] = x := by rw [join_eq]; rfl
theorem join_cons (y x z : Str) (r : List Str) : Txt.join y (x :: z :: r) = x ++ y ++ Txt.join y (z :: r) := by rw [join_eq, join_eq]; rfl
theorem names_tx : ∀ (xs : List Str), (∀ x ∈ xs, x ∈ fourW) → Tx (7 * xs.length) (Txt.join ", " xs)
  | [], _ => by rw [join_nil]; exact Tx.of (by decide +kernel)
  | [x], h => by rw [join_one]; exact (four_tx x (h x (by simp))).mono (by simp)
  | x :: z :: r, h => by
    have ih := names_tx (z :: r) fun y hy => h y (by simp [List.mem_cons.mp hy])
    obtain ⟨t, e⟩ := four_comma x (h x (by simp))
    rw [join_cons]
    exact (t.app ih (.inl e)).mono (by simp only [List.length_cons]; omega)
theorem sum_le {α : Type} (f : α → Nat) (n : Nat) : ∀ {l : List α}, (∀ x ∈ l, f x ≤ n) → (l.map f).sum ≤ l.length * n
  | [], _ => by simp
  | x :: l, h => by
    have h1 := h x (by simp)
    have h2 := sum_le f n (l := l) fun y hy => h y (by simp [hy])
    rw [List.map_cons, List.sum_cons, List.length_cons, Nat.succ_mul]
    omega
theorem names_join (S : Store) {xs : List Str} (hl : xs.length ≤ 4) (h : ∀ x ∈ xs, x ∈ fourW) : joinP S (.str ", ") [.tup (xs.map .str)] = some (.str (Txt.join ", " xs), S) := by
  refine join_runT S _ _ ?_
  have := sum_le (fun x : Str => x.length) 5 (l := xs) fun x hx => (four_tx x (h x hx)).len
  have e : (", " : Str).length = 2 := rfl
  rw [e]
  omega
section
variable {xs es : List Str} {ts : List Dd} {sh : Option Str}
theorem line_tx {t : Dd} (h : t.nm ∈ fiveW ∧ t.b ∈ fourW ∧ t.e ∈ fourW ∧ t.p.Ok 2) : Tx 440 t.line := by
  obtain ⟨h1, h2, h3, h4⟩ := h
  have hp := text_tx t.p 2 h4
  have e2 : tlen 2 = 400 := rfl
  have z := (((((((Tx.of (L := 5) (x := "deed ") (by decide +kernel)).app (five_tx _ h1) (.inl (EndsS.of (by decide +kernel)))).app (Tx.of (L := 6) (x := " from ") (by decide +kernel)) (.inr (BegsS.of (by decide +kernel)))).app (four_tx _ h2) (.inl (EndsS.app (EndsS.of (by decide +kernel))))).app (Tx.of (L := 4) (x := " to ") (by decide +kernel)) (.inr (BegsS.of (by decide +kernel)))).app (four_tx _ h3) (.inl (EndsS.app (EndsS.of (by decide +kernel))))).app (Tx.of (L := 4) (x := " is ") (by decide +kernel)) (.inr (BegsS.of (by decide +kernel)))).app hp (.inl (EndsS.app (EndsS.of (by decide +kernel))))
  exact z.mono (by omega)
theorem ShopOk.deed (h : ShopOk xs es ts sh) {t : Dd} (ht : t ∈ ts) : t.nm ∈ fiveW ∧ t.b ∈ fourW ∧ t.e ∈ fourW ∧ t.p.Ok 2 := by
  obtain ⟨h1, h2, h3, h4⟩ := h.tm t ht
  exact ⟨h1, h.xm _ h2, h.xm _ h3, h4⟩
theorem ShopOk.ef (h : ShopOk xs es ts sh) : ∀ x ∈ es, x ∈ fourW := fun x hx => h.xm x (h.em x hx)
theorem ShopOk.shown (h : ShopOk xs es ts sh) {s : Str} (e : sh = some s) : s ∈ fiveW := by
  obtain ⟨t, ht, rfl, _⟩ := h.sk s e
  exact (h.tm t ht).1
theorem lines_tx (h : ShopOk xs es ts sh) : ∀ l ∈ shopLines xs es ts sh, Tx 440 l := by
  intro l hl
  unfold shopLines at hl
  rcases List.mem_cons.mp hl with rfl | hl
  · have := h.xl
    exact ((Tx.of (L := 9) (x := "standing ") (by decide +kernel)).app (names_tx xs h.xm) (.inl (EndsS.of (by decide +kernel)))).mono (by omega)
  rcases List.mem_cons.mp hl with rfl | hl
  · have := h.el
    exact ((Tx.of (L := 5) (x := "ends ") (by decide +kernel)).app (names_tx es h.ef) (.inl (EndsS.of (by decide +kernel)))).mono (by omega)
  rcases List.mem_append.mp hl with hl | hl
  · obtain ⟨t, ht, rfl⟩ := List.mem_map.mp hl
    exact line_tx (h.deed ht)
  · unfold shLines at hl
    split at hl
    · simp at hl
    · rw [List.mem_singleton.mp hl]
      exact ((Tx.of (L := 6) (x := "shown ") (by decide +kernel)).app (five_tx _ (h.shown rfl)) (.inl (EndsS.of (by decide +kernel)))).mono (by omega)
theorem lines_len (h : ShopOk xs es ts sh) : (shopLines xs es ts sh).length ≤ 8 ∧ ((shopLines xs es ts sh).map (·.length)).sum ≤ 2300 := by
  have h1 := h.tl
  have hsh : (shLines sh).length ≤ 1 := by unfold shLines; split <;> simp
  have t1 : ("standing " ++ Txt.join ", " xs).length ≤ 37 := by
    have := (names_tx xs h.xm).len
    have := h.xl
    have e : ("standing " : Str).length = 9 := rfl
    rw [str_len]; omega
  have t2 : ("ends " ++ Txt.join ", " es).length ≤ 33 := by
    have := (names_tx es h.ef).len
    have := h.el
    have e : ("ends " : Str).length = 5 := rfl
    rw [str_len]; omega
  have t3 : ((shLines sh).map (·.length)).sum ≤ 11 := by
    unfold shLines
    split
    · simp
    · have := (five_tx _ (h.shown rfl)).len
      have e : ("shown " : Str).length = 6 := rfl
      simp [str_len]; omega
  have t4 : ((ts.map Dd.line).map (·.length)).sum ≤ ts.length * 440 := by
    rw [List.map_map]
    exact sum_le _ 440 fun t ht => (line_tx (h.deed ht)).len
  unfold shopLines
  refine ⟨by simp only [List.length_cons, List.length_append, List.length_map]; omega, ?_⟩
  simp only [List.map_cons, List.map_append, List.sum_cons, List.sum_append]
  omega
theorem nb_sum_le : ∀ (ls : List Str), (ls.map fun l => nb (tl l)).sum ≤ (ls.map (·.length)).sum
  | [] => Nat.le_refl _
  | l :: ls => by
    have := nb_sum_le ls
    have h := nb_le (tl l)
    rw [← len_tl] at h
    simp only [List.map_cons, List.sum_cons]
    omega
theorem lines_nb (h : ShopOk xs es ts sh) : 0 < ((shopLines xs es ts sh).map fun l => nb (tl l)).sum := by
  unfold shopLines
  simp only [List.map_cons, List.sum_cons, tl_append, nb_app]
  have : nb (tl ("standing " : Str)) = 8 := by decide +kernel
  omega
theorem join_len (y : Str) : ∀ (ls : List Str), (Txt.join y ls).length ≤ (ls.map (·.length)).sum + ls.length * y.length
  | [] => by rw [join_nil]; exact Nat.zero_le _
  | [x] => by rw [join_one]; simp
  | x :: z :: r => by
    have := join_len y (z :: r)
    rw [join_cons, str_len, str_len]
    simp only [List.map_cons, List.sum_cons, List.length_cons, Nat.succ_mul] at this ⊢
    omega
/-- the deeds' lines, in the mirror -/
theorem deed_lines {d0 d1 d2 d3 d4 d5 : Option D} (S : Store) : ∀ (ts : List Dd), (∀ t ∈ ts, t.nm ∈ fiveW ∧ t.b ∈ fourW ∧ t.e ∈ fourW ∧ t.p.Ok 2) →
    lcL (fun _ => true) (gT (gs1 (gN 2) (gs1 (gN 3) (gs1 (gN 4) (gs1 (gN 5) gs0))))) yesT (bin2 addP (bin2 addP (bin2 addP (bin2 addP (bin2 addP (bin2 addP (bin2 addP (cM (.str "deed ")) (varM 2)) (cM (.str " from "))) (varM 3)) (cM (.str " to "))) (varM 4)) (cM (.str " is "))) (callM 1 (m__law_price_text 20) (consM (varM 5) nilM)))
      [d0, d1, d2, d3, d4, d5] (ts.map Dd.d) S = .ok ((ts.map Dd.line).map .str) S
  | [], _ => rfl
  | t :: ts, h => by
    have ih := deed_lines (d0 := d0) (d1 := d1) (d2 := d2) (d3 := d3) (d4 := d4) (d5 := d5) S ts fun x hx => h x (by simp [hx])
    have hh := h t (by simp)
    have T := (line_tx hh).len
    obtain ⟨_, _, _, h4⟩ := hh
    have e1 := text_run t.p 2 20 S h4 (by decide) (by decide)
    unfold Dd.line at T
    simp only [str_len] at T
    have a1 := add_l S (x := "deed ") (y := t.nm) (by (try simp only [str_len]); omega)
    have a2 := add_l S (x := "deed " ++ t.nm) (y := " from ") (by (try simp only [str_len]); omega)
    have a3 := add_l S (x := "deed " ++ t.nm ++ " from ") (y := t.b) (by (try simp only [str_len]); omega)
    have a4 := add_l S (x := "deed " ++ t.nm ++ " from " ++ t.b) (y := " to ") (by (try simp only [str_len]); omega)
    have a5 := add_l S (x := "deed " ++ t.nm ++ " from " ++ t.b ++ " to ") (y := t.e) (by (try simp only [str_len]); omega)
    have a6 := add_l S (x := "deed " ++ t.nm ++ " from " ++ t.b ++ " to " ++ t.e) (y := " is ") (by (try simp only [str_len]); omega)
    have a7 := add_l S (x := "deed " ++ t.nm ++ " from " ++ t.b ++ " to " ++ t.e ++ " is ") (y := t.p.text) (by (try simp only [str_len]); omega)
    rw [List.map_cons]
    unfold lcL
    simp [Dd.d, gT, gs1, gN, gs0, yesT, M.bind, varM, var, M.op2, M.pure, bin2, cM, callM, consM, nilM, e1, a1, a2, a3, a4, a5, a6, a7, ih, Dd.line]
/-- the text of a shop -/
theorem shop_text_run (S : Store) (h : ShopOk xs es ts sh) : m__law_shop_text [shopD xs es ts sh] S = .ok (.str (Txt.join "\n" (shopLines xs es ts sh))) S := by
  have hs := sizeLine_eq
  have l0 := len_ok 0 (by decide)
  have l1 := len_ok 1 (by decide)
  have l2 := len_ok 2 (by decide)
  have j1 := names_join S h.xl h.xm
  have j2 := names_join S h.el h.ef
  have n1 := (names_tx xs h.xm).len
  have n2 := (names_tx es h.ef).len
  have hx := h.xl
  have he := h.el
  have a1 := add_l S (x := "standing ") (y := Txt.join ", " xs) (by have : ("standing " : Str).length = 9 := rfl; omega)
  have a2 := add_l S (x := "ends ") (y := Txt.join ", " es) (by have : ("ends " : Str).length = 5 := rfl; omega)
  have dl := fun d0 d1 d2 d3 d4 d5 => deed_lines (d0 := d0) (d1 := d1) (d2 := d2) (d3 := d3) (d4 := d4) (d5 := d5) S ts fun t ht => h.deed ht
  have tl5 := h.tl
  have ll : ((ts.map Dd.line).map D.str).length ≤ sizeLine := by simp; omega
  obtain ⟨q1, q2⟩ := lines_len h
  have jr : joinP S (.str "\n") [.lst ((shopLines xs es ts sh).map .str)] = some (.str (Txt.join "\n" (shopLines xs es ts sh)), S) := join_run S _ _ (by have e1 : ("\n" : Str).length = 1 := rfl; rw [e1]; omega)
  have x0 : ∀ a b c d : D, atI [a, b, c, d] (0 : Int) = some a := fun _ _ _ _ => rfl
  have x1 : ∀ a b c d : D, atI [a, b, c, d] (1 : Int) = some b := fun _ _ _ _ => rfl
  have x2 : ∀ a b c d : D, atI [a, b, c, d] (2 : Int) = some c := fun _ _ _ _ => rfl
  have x3 : ∀ a b c d : D, atI [a, b, c, d] (3 : Int) = some d := fun _ _ _ _ => rfl
  have ad1 : addP S (.lst [.str ("standing " ++ Txt.join ", " xs), .str ("ends " ++ Txt.join ", " es)]) (.lst ((ts.map Dd.line).map .str)) = some (.lst (.str ("standing " ++ Txt.join ", " xs) :: .str ("ends " ++ Txt.join ", " es) :: (ts.map Dd.line).map .str)) := add_lsts S _ _ (by simp; omega)
  have ad2 : addP S (.lst (.str ("standing " ++ Txt.join ", " xs) :: .str ("ends " ++ Txt.join ", " es) :: (ts.map Dd.line).map .str)) (.lst ((shLines sh).map .str)) = some (.lst ((shopLines xs es ts sh).map .str)) := by
    have hl : (shLines sh).length ≤ 1 := by unfold shLines; split <;> simp
    rw [add_lsts S _ _ (by simp; omega)]
    simp [shopLines]
  generalize hJ : shopLines xs es ts sh = J at *
  generalize hA : ("standing " ++ Txt.join ", " xs) = A at *
  generalize hB : ("ends " ++ Txt.join ", " es) = B at *
  generalize hT : (ts.map Dd.line).map D.str = T at *
  have key : ∀ c : D, c = shD sh → m__law_shop_text [.tup [.tup (xs.map .str), .tup (es.map .str), .tup (ts.map Dd.d), c]] S = .ok (.str (Txt.join "\n" J)) S := by
    intro c hc
    cases sh with
    | none =>
      have hc : c = .non := hc
      subst hc
      have isn : isnP S .non .non = some (.bl false) := rfl
      unfold m__law_shop_text
      simp [lstM, consM, nilM, M.bind, bin2, M.op2, cM, methM, M.guard, tyOk, M.opM, varM, var, M.pure, ix_tup', x0, x1, x2, x3, j1, j2, a1, a2, l2, SR.of, SR.bind, lcM, lcI, seqI, srcA, wipeE, dl, ll, ad1, ifV, tV, toB, isn, M.lift, asB, l0]
      simp [shLines] at ad2
      simp [ad2, jr]
    | some s =>
      have hc : c = .str s := hc
      subst hc
      have isn : isnP S (.str s) .non = some (.bl true) := rfl
      have hsl := (five_tx _ (h.shown rfl)).len
      have a3 := add_l S (x := "shown ") (y := s) (by have : ("shown " : Str).length = 6 := rfl; omega)
      unfold m__law_shop_text
      simp [lstM, consM, nilM, M.bind, bin2, M.op2, cM, methM, M.guard, tyOk, M.opM, varM, var, M.pure, ix_tup', x0, x1, x2, x3, j1, j2, a1, a2, l2, SR.of, SR.bind, lcM, lcI, seqI, srcA, wipeE, dl, ll, ad1, ifV, tV, toB, isn, M.lift, asB, l1, a3]
      simp [shLines] at ad2
      simp [ad2, jr]
  exact key _ rfl
end
end PyM
set_option Elab.async false
set_option linter.all false
set_option maxRecDepth 100000
set_option maxHeartbeats 8000000
namespace PyM
open PySem PySem.Spec PyProof.Rows L2 TL
/-! ### bent texts: their pieces -/
def fmS (s : Nat) (c : Nat) : List Nat := if c = s then [32, s, 32] else [c]
def fm3 (c : Nat) : List Nat := if c = 10 ∨ c = 40 ∨ c = 41 then [32, c, 32] else [c]
theorem replL_one (s : Nat) (z : List Nat) : ∀ l : List Nat, PySem.StrLaws.replL [s] z l = l.flatMap fun c => if c = s then z else [c]
  | [] => PySem.StrLaws.replL_nil
  | c :: l => by
    rw [List.flatMap_cons]
    by_cases h : c = s
    · rw [PySem.StrLaws.replL_hit (by simp) (by simp [h]), if_pos h]
      show z ++ PySem.StrLaws.replL [s] z l = _
      rw [replL_one s z l]
    · rw [PySem.StrLaws.replL_miss (by simp [h]), if_neg h, replL_one s z l]
      rfl
theorem flat_fm (l : List Nat) : ((l.flatMap (fmS 10)).flatMap (fmS 40)).flatMap (fmS 41) = l.flatMap fm3 := by
  rw [List.flatMap_assoc, List.flatMap_assoc]
  congr 1
  funext c
  unfold fmS fm3
  by_cases h1 : c = 10
  · subst h1; rfl
  · by_cases h2 : c = 40
    · subst h2; rfl
    · by_cases h3 : c = 41
      · subst h3; rfl
      · simp [h1, h2, h3]
theorem repl_tl (x : Str) (s : Nat) (y z : Str) (hy : tl y = [s]) (hz : tl z = [32, s, 32]) : tl (Txt.replace x y z) = (tl x).flatMap (fmS s) := by
  have e := PySem.StrLaws.replace_list (x := x) (y := y) (z := z) (by rw [len_tl, hy]; exact Nat.le_refl 1)
  show (Txt.replace x y z).cps.toList = _
  rw [e]
  show PySem.StrLaws.replL (tl y) (tl z) (tl x) = _
  rw [hy, hz, replL_one]
  rfl
/-- the pieces between blanks are short, and hold all signs that are no blanks -/
theorem spl_pieces : ∀ (l : List Nat) (k : Nat) (acc : List Nat) (a : Nat), ra k l = some a → acc.length + k ≤ 20 →
    (∀ p ∈ spl [32] 0 acc (l.flatMap fm3), p.length ≤ 20) ∧ ((spl [32] 0 acc (l.flatMap fm3)).map List.length).sum = acc.length + nb l
  | [], k, acc, a, _, hk => by
    rw [List.flatMap_nil, spl_nil]
    refine ⟨fun p hp => ?_, by simp [nb]⟩
    rw [List.mem_singleton.mp hp]
    omega
  | c :: l, k, acc, a, h, hk => by
    rw [List.flatMap_cons]
    rw [ra_cons] at h
    by_cases h32 : c = 32
    · subst h32
      have h : ra 20 l = some a := h
      obtain ⟨i1, i2⟩ := spl_pieces l 20 [] a h (Nat.le_refl _)
      show (∀ p ∈ spl [32] 0 acc (32 :: l.flatMap fm3), _) ∧ ((spl [32] 0 acc (32 :: l.flatMap fm3)).map List.length).sum = _
      rw [spl_hit (by rfl)]
      refine ⟨fun p hp => ?_, ?_⟩
      · rcases List.mem_cons.mp hp with rfl | hp
        · omega
        · exact i1 p hp
      · rw [List.map_cons, List.sum_cons]
        have : ((spl [32] ([32].length - 1) [] (l.flatMap fm3)).map List.length).sum = [].length + nb l := i2
        rw [this]
        have : nb (32 :: l) = nb l := by rw [nb_cons]; exact Nat.zero_add _
        rw [this]
        simp
    · have hn : nb (c :: l) = 1 + nb l := by
        rw [nb_cons]
        congr 1
        unfold nb
        simp [h32]
      have miss : ∀ r, pre [32] (c :: r) = false := fun r => by
        unfold pre
        simp [h32]
      by_cases hm : c = 10 ∨ c = 40 ∨ c = 41
      · have hs : sepC c = true := by
          rcases hm with rfl | rfl | rfl <;> rfl
        rw [if_pos hs] at h
        obtain ⟨i1, i2⟩ := spl_pieces l 20 [] a h (Nat.le_refl _)
        have e : fm3 c = [32, c, 32] := if_pos hm
        rw [e]
        show (∀ p ∈ spl [32] 0 acc (32 :: c :: 32 :: l.flatMap fm3), _) ∧ ((spl [32] 0 acc (32 :: c :: 32 :: l.flatMap fm3)).map List.length).sum = _
        have e2 : spl [32] 0 acc (32 :: c :: 32 :: l.flatMap fm3) = acc :: [c] :: spl [32] 0 [] (l.flatMap fm3) := by
          rw [spl_hit (by rfl)]
          congr 1
          show spl [32] 0 [] (c :: 32 :: l.flatMap fm3) = _
          rw [spl_miss (miss _), spl_hit (by rfl)]
          rfl
        rw [e2]
        refine ⟨fun p hp => ?_, ?_⟩
        · rcases List.mem_cons.mp hp with rfl | hp
          · omega
          rcases List.mem_cons.mp hp with rfl | hp
          · exact (by decide : (1 : Nat) ≤ 20)
          · exact i1 p hp
        · rw [List.map_cons, List.map_cons, List.sum_cons, List.sum_cons, i2, hn]
          simp
      · have hs : sepC c = false := by
          unfold sepC
          simp [h32]
          omega
        have e : fm3 c = [c] := if_neg hm
        rw [e]
        rw [if_neg (by rw [hs]; decide)] at h
        cases k with
        | zero => cases h
        | succ k =>
          have h : ra k l = some a := h
          obtain ⟨i1, i2⟩ := spl_pieces l k (acc ++ [c]) a h (by simp; omega)
          show (∀ p ∈ spl [32] 0 acc (c :: l.flatMap fm3), _) ∧ ((spl [32] 0 acc (c :: l.flatMap fm3)).map List.length).sum = _
          rw [spl_miss (miss _)]
          refine ⟨i1, ?_⟩
          rw [i2, hn]
          simp
          omega
theorem spl_sg : ∀ (l acc : List Nat), Sg acc → Sg l → ∀ p ∈ spl [32] 0 acc l, Sg p
  | [], acc, ha, _, p, hp => by
    rw [spl_nil] at hp
    rw [List.mem_singleton.mp hp]
    exact ha
  | c :: l, acc, ha, hl, p, hp => by
    have hl' : Sg l := fun z hz => hl z (by simp [hz])
    by_cases h : pre [32] (c :: l) = true
    · rw [spl_hit h] at hp
      rcases List.mem_cons.mp hp with rfl | hp
      · exact ha
      · exact spl_sg l [] (fun z hz => absurd hz (by simp)) hl' p hp
    · rw [spl_miss (by simpa using h)] at hp
      exact spl_sg l (acc ++ [c]) (ha.append fun z hz => by rw [List.mem_singleton.mp hz]; exact hl c (by simp)) hl' p hp
theorem fm3_sg {l : List Nat} (h : Sg l) : Sg (l.flatMap fm3) := fun z hz => by
  obtain ⟨c, hc, hz⟩ := List.mem_flatMap.mp hz
  unfold fm3 at hz
  split at hz
  · simp at hz
    rcases hz with rfl | rfl | rfl
    · decide
    · exact h z hc
    · decide
  · rw [List.mem_singleton.mp hz]; exact h c hc
def bentText (x : Str) : Str := Txt.replace (Txt.replace (Txt.replace x "\n" " \n ") "(" " ( ") ")" " ) "
theorem bentText_tl (x : Str) : tl (bentText x) = (tl x).flatMap fm3 := by
  unfold bentText
  rw [repl_tl _ 41 ")" " ) " rfl rfl, repl_tl _ 40 "(" " ( " rfl rfl, repl_tl _ 10 "\n" " \n " rfl rfl, flat_fm]
theorem flat_len3 : ∀ l : List Nat, (l.flatMap fm3).length ≤ 3 * l.length
  | [] => Nat.le_refl _
  | c :: l => by
    have := flat_len3 l
    have h : (fm3 c).length ≤ 3 := by unfold fm3; split <;> simp
    rw [List.flatMap_cons, List.length_append, List.length_cons]
    omega
/-- a list of runs: none empty, none long -/
def runsOf (x : Str) : List Str := (Txt.split (bentText x) " ").filter fun y => !decide (y = Str.empty)
structure RunsOk (xs : List Str) (m : Nat) : Prop where
  n0 : xs ≠ []
  all : ∀ x ∈ xs, 1 ≤ x.length ∧ x.length ≤ 20
  sum : (xs.map fun x => x.length + 1).sum ≤ m
  sg : ∀ x ∈ xs, Sg (tl x)
theorem sum_filter : ∀ xs : List Str, ((xs.filter fun y => !decide (y = Str.empty)).map (·.length)).sum = (xs.map (·.length)).sum
  | [] => rfl
  | x :: xs => by
    rw [List.filter_cons]
    by_cases h : x = Str.empty
    · have hl : x.length = 0 := by rw [h]; rfl
      rw [if_neg (by simp [h]), sum_filter xs, List.map_cons, List.sum_cons, hl]
      omega
    · rw [if_pos (by simp [h]), List.map_cons, List.map_cons, List.sum_cons, List.sum_cons, sum_filter xs]
theorem len_zero {x : Str} (h : x.length = 0) : x = Str.empty := ext_tl (by
  rw [len_tl] at h
  rw [List.length_eq_zero_iff.mp h]
  rfl)
theorem sum_two : ∀ xs : List Str, (∀ x ∈ xs, 1 ≤ x.length) → (xs.map fun x => x.length + 1).sum ≤ 2 * (xs.map (·.length)).sum
  | [], _ => Nat.le_refl _
  | x :: xs, h => by
    have h1 := h x (by simp)
    have h2 := sum_two xs fun y hy => h y (by simp [hy])
    rw [List.map_cons, List.map_cons, List.sum_cons, List.sum_cons]
    omega
theorem runs_ok {x : Str} (h : ∃ a, ra 20 (tl x) = some a) (h0 : 0 < nb (tl x)) (hg : Sg (tl x)) : RunsOk (runsOf x) (2 * nb (tl x)) := by
  obtain ⟨a, ha⟩ := h
  obtain ⟨i1, i2⟩ := spl_pieces (tl x) 20 [] a ha (Nat.le_refl _)
  have sp := split_spl (bentText x) " " (by decide) (kind_ok (by decide +kernel))
  rw [bentText_tl] at sp
  have sp : (Txt.split (bentText x) " ").map tl = spl [32] 0 [] ((tl x).flatMap fm3) := sp
  rw [← sp] at i1 i2
  have s1 : ((Txt.split (bentText x) " ").map (·.length)).sum = nb (tl x) := by
    rw [List.map_map] at i2
    have e : (fun y : Str => y.length) = List.length ∘ tl := by funext y; exact len_tl y
    rw [e, i2]
    simp
  have s2 := sum_filter (Txt.split (bentText x) " ")
  rw [s1] at s2
  have all : ∀ y ∈ runsOf x, 1 ≤ y.length ∧ y.length ≤ 20 := fun y hy => by
    obtain ⟨m1, m2⟩ := List.mem_filter.mp hy
    refine ⟨?_, by rw [len_tl]; exact i1 _ (List.mem_map_of_mem m1)⟩
    rcases Nat.eq_zero_or_pos y.length with z | z
    · rw [len_zero z] at m2
      simp at m2
    · exact z
  have hsg := spl_sg ((tl x).flatMap fm3) [] (fun z hz => absurd hz (by simp)) (fm3_sg hg)
  rw [← sp] at hsg
  refine ⟨fun z => ?_, all, ?_, fun y hy => hsg _ (List.mem_map_of_mem (List.mem_filter.mp hy).1)⟩
  · have : ((runsOf x).map (·.length)).sum = nb (tl x) := s2
    rw [z] at this
    simp at this
    omega
  · have := sum_two (runsOf x) fun y hy => (all y hy).1
    have e : ((runsOf x).map (·.length)).sum = nb (tl x) := s2
    omega
end PyM
set_option Elab.async false
set_option linter.all false
set_option maxRecDepth 100000
set_option maxHeartbeats 8000000
namespace PyM
open PySem PySem.Spec PyProof.Rows L2 TL
/-! ### bent texts: the turns -/
noncomputable def bentW : MSt := (ifM (andM (tV (bin2 eqP (varM 8) (cM (.int 0)))) (tV (bin2 gtP (bltM lenP (consM (varM 2) nilM)) (cM (.int 1)))))
  (setM 2 (bin2S addCP (slM (varM 2) noP (opP (varM 7))) (slM (varM 2) (opP (bin2 addP (varM 7) (cM (.int 1)))) noP)))
  (ifM (tV (bin2 eqP (varM 8) (cM (.int 1))))
  (setM 2 (bin2S addCP (bin2 addP (slM (varM 2) noP (opP (varM 7))) (lstM (consM (bin2 ixP (varM 2) (varM 7)) nilM))) (slM (varM 2) (opP (varM 7)) noP)))
  (ifM (tV (bin2 eqP (varM 8) (cM (.int 2))))
  (putM (varM 2) (varM 7) (varM 5))
  (ifM (tV (bin2 eqP (varM 8) (cM (.int 3))))
  (setM 2 (bin2S addCP (bin2 addP (slM (varM 2) noP (opP (varM 7))) (lstM (consM (varM 5) nilM))) (slM (varM 2) (opP (varM 7)) noP)))
  (setM 2 (slCM (varM 2) noP (opP (bltM maxP (consM (cM (.int 1)) (consM (varM 7) nilM))))))))))
noncomputable def bentS : MSt := (setM 4 (lstM (consM (cM (.str "standing")) (consM (cM (.str "deed")) (consM (cM (.str "from")) (consM (cM (.str "to")) (consM (cM (.str "is")) (consM (cM (.str "shown")) (consM (cM (.str "ends")) (consM (cM (.str "plus")) (consM (cM (.str "least")) (consM (cM (.str "then")) (consM (cM (.str "money")) (consM (cM (.str "each")) (consM (cM (.str "-3")) (consM (cM (.str "3")) (consM (cM (.str "(")) nilM)))))))))))))))))
noncomputable def bentM : MSt := (setM 5 (callM 2 m__law_some (consM (varM 0) (consM (bin2 addP (varM 4) (lstM (consM (cM (.str ")")) (consM (cM (.str ",")) (consM (cM (.str "
")) (consM (cM (.str "x")) (consM (cM (.str "card")) (consM (cM (.str "until")) (consM (cM (.str "if")) (consM (cM (.str "share")) (consM (cM (.str "half")) (consM (cM (.str "1000000")) (consM (cM (.str "1000001")) (consM (cM (.str "007")) (consM (cM (.str "?")) (consM (cM (.str "barred")) nilM)))))))))))))))) nilM))))
noncomputable def bentP : MSt := (parM 7 8 (consM (callM 2 m__law_take (consM (varM 0) (consM (bltM lenP (consM (varM 2) nilM)) nilM))) (consM (callM 2 m__law_take (consM (varM 0) (consM (cM (.int 5)) nilM))) nilM)))
noncomputable def bentB : MSt := seqM bentP (seqM bentS (seqM bentM bentW))
def thirty : List Str := ["standing", "deed",
  "from", "to",
  "is", "shown",
  "ends", "plus",
  "least", "then",
  "money", "each",
  "-3", "3",
  "(", ")",
  ",", "\n",
  "x", "card",
  "until", "if",
  "share", "half",
  "1000000", "1000001",
  "007", "?",
  "barred"]
theorem thirty_ok : ∀ y ∈ thirty, 1 ≤ y.length ∧ y.length ≤ 20 := fun y hy => by
  have : thirty.all (fun y => decide (1 ≤ y.length ∧ y.length ≤ 20)) = true := by decide +kernel
  exact of_decide_eq_true (List.all_eq_true.mp this y hy)
theorem thirty_sg : ∀ y ∈ thirty, Sg (tl y) := fun y hy c hc => by
  have : thirty.all (fun y => (tl y).all fun c => decide (c < 1114112)) = true := by decide +kernel
  exact of_decide_eq_true (List.all_eq_true.mp (List.all_eq_true.mp this y hy) c hc)
def sm (xs : List Str) : Nat := (xs.map fun x => x.length + 1).sum
theorem sm_app (xs ys : List Str) : sm (xs ++ ys) = sm xs + sm ys := by simp [sm]
theorem sm_cut (xs : List Str) (v : Nat) : sm (xs.take v) + sm (xs.drop v) = sm xs := by rw [← sm_app, List.take_append_drop]
theorem sm_len : ∀ xs : List Str, xs.length ≤ sm xs
  | [] => Nat.le_refl _
  | x :: xs => by
    have := sm_len xs
    have e : sm (x :: xs) = x.length + 1 + sm xs := rfl
    rw [e, List.length_cons]
    omega
theorem sm_set : ∀ (xs : List Str) (v : Nat) (y : Str), sm (xs.set v y) ≤ sm xs + (y.length + 1)
  | [], v, y => Nat.zero_le _
  | x :: xs, 0, y => by
    have e : sm (x :: xs) = x.length + 1 + sm xs := rfl
    have e2 : sm ((x :: xs).set 0 y) = y.length + 1 + sm xs := rfl
    omega
  | x :: xs, v + 1, y => by
    have := sm_set xs v y
    have e : sm (x :: xs) = x.length + 1 + sm xs := rfl
    have e2 : sm ((x :: xs).set (v + 1) y) = x.length + 1 + sm (xs.set v y) := rfl
    omega
theorem sm_drop (xs : List Str) (v : Nat) : sm (xs.drop (v + 1)) ≤ sm (xs.drop v) := by
  have e : xs.drop (v + 1) = (xs.drop v).drop 1 := by rw [List.drop_drop]
  rw [e]
  have := sm_cut (xs.drop v) 1
  omega
section
variable {S R : Store} {p v : Nat} {xs : List Str}
theorem cell_at (hb : Bag S R) (hg : R[p]? = some (.lst (xs.map .str))) : S[p + 1]? = some (.lst (xs.map .str)) := by rw [bag_get hb]; exact hg
theorem sl_to (h : S[p + 1]? = some (.lst (xs.map .str))) (j : Nat) : slP S (.loc (p + 1)) none (some (j : Int)) = some (.lst ((xs.take j).map .str)) := by
  unfold slP asS asL
  simp [h, cut_take, List.map_take]
theorem sl_fr (h : S[p + 1]? = some (.lst (xs.map .str))) (j : Nat) : slP S (.loc (p + 1)) (some (j : Int)) none = some (.lst ((xs.drop j).map .str)) := by
  unfold slP asS asL
  simp [h, cut_from _ _ (Int.natCast_nonneg j), List.map_drop]
theorem add_c (S : Store) {a b : List Str} (h : a.length + b.length ≤ 1000000) : addCP S (.lst (a.map .str)) (.lst (b.map .str)) = some (.loc S.length, S ++ [.lst ((a ++ b).map .str)]) := by
  have hs := sizeLine_eq
  have z : (a.map D.str).length + (b.map D.str).length ≤ sizeLine := by rw [hs]; simp; omega
  unfold addCP asL
  simp only
  rw [if_pos z, List.map_append]
theorem add_ls (S : Store) {a b : List Str} (h : a.length + b.length ≤ 1000000) : addP S (.lst (a.map .str)) (.lst (b.map .str)) = some (.lst ((a ++ b).map .str)) := by
  have hs := sizeLine_eq
  rw [add_lsts _ _ _ (by rw [hs]; simp; omega), List.map_append]
theorem ix_c (h : S[p + 1]? = some (.lst (xs.map .str))) (hv : v < xs.length) : ixP S (.loc (p + 1)) (.int (v : Int)) = some (.str xs[v]) := by
  unfold ixP asA asS asL
  simp [h]
  exact atI_nat (by simp [hv])
theorem set_c (h : S[p + 1]? = some (.lst (xs.map .str))) (hv : v < xs.length) (y : Str) : setP S (.loc (p + 1)) (.int (v : Int)) (.str y) = some (S.set (p + 1) (.lst ((xs.set v y).map .str))) := by
  have e : ixN xs.length (v : Int) = some v := by
    unfold ixN
    simp [hv]
  unfold setP cellL
  simp [h, e, List.map_set]
/-- one way of five -/
theorem bent_way {m : Nat} {way : Int} {tx d3 d4 d6 : Option D} {y : Str} (hb : Bag S R) (hg : R[p]? = some (.lst (xs.map .str))) (hx : RunsOk xs m) (hm : m ≤ 100000) (hv : v < xs.length) (h0 : 0 ≤ way) (hy : 1 ≤ y.length ∧ y.length ≤ 20) (hys : Sg (tl y)) :
    ∃ p' xs' S' R', bentW [some (.loc 0), tx, some (.loc (p + 1)), d3, d4, some (.str y), d6, some (.int (v : Int)), some (.int way)] S = .nx [some (.loc 0), tx, some (.loc (p' + 1)), d3, d4, some (.str y), d6, some (.int (v : Int)), some (.int way)] S' ∧
      Bag S' R' ∧ R'[p']? = some (.lst (xs'.map .str)) ∧ RunsOk xs' (m + 21) := by
  have hs := sizeLine_eq
  have hc := cell_at hb hg
  have hS := bag_len hb
  have hsum : sm xs ≤ m := hx.sum
  have hlx := sm_len xs
  have h1 : (1 : Nat) ≤ sizeLine := by rw [hs]; decide
  have hlen : lenP S [.loc (p + 1)] = some (.int xs.length) := by
    unfold lenP asQ asL
    simp [hc]
  have t1 : (xs.take v).length ≤ xs.length := by rw [List.length_take]; omega
  have t2 : (xs.drop v).length ≤ xs.length := by rw [List.length_drop]; omega
  have fin : ∀ (zs : List Str), zs ≠ [] → (∀ z ∈ zs, z ∈ xs ∨ z = y) → sm zs ≤ m + 21 → RunsOk zs (m + 21) := fun zs z0 z1 z2 => ⟨z0, fun z hz => by
    rcases z1 z hz with h | h
    · exact hx.all z h
    · exact h ▸ hy, z2, fun z hz => by
    rcases z1 z hz with h | h
    · exact hx.sg z h
    · exact h ▸ hys⟩
  have new : ∀ c : List Str, Bag (S ++ [.lst (c.map .str)]) (R ++ [.lst (c.map .str)]) ∧ (R ++ [.lst (c.map .str)])[R.length]? = some (.lst (c.map .str)) := fun c => ⟨bag_add hb _, last_get R _⟩
  have lv : ((v : Int) + 1) = ((v + 1 : Nat) : Int) := by omega
  unfold bentW
  by_cases w0 : way = 0 ∧ 1 < xs.length
  · obtain ⟨rfl, hl⟩ := w0
    have hl' : (1 : Int) < (xs.length : Int) := by omega
    have e1 := sl_to hc v
    have e2 : slP S (.loc (p + 1)) (some ((v : Int) + 1)) none = some (.lst ((xs.drop (v + 1)).map .str)) := by rw [lv]; exact sl_fr hc (v + 1)
    have e3 := add_c S (a := xs.take v) (b := xs.drop (v + 1)) (by rw [List.length_take, List.length_drop]; omega)
    refine ⟨R.length, xs.take v ++ xs.drop (v + 1), _, _, ?_, (new _).1, (new _).2, fin _ ?_ ?_ ?_⟩
    · simp [andM, toB, bltM, consM, nilM, M.bind, varM, var, M.opL, M.op2, M.lift, asB, M.pure, bin2, bin2S, M.op2S, slM, opP, noP, optI, asI, opS, cM, SR.of, eq_ints, gtP, hl', hlen, add_ints, e1, e2, e3, hS, -List.map_take, -List.map_drop, -List.map_append]
    · intro z
      have := congrArg List.length z
      rw [List.length_append, List.length_take, List.length_drop, List.length_nil] at this
      omega
    · intro z hz
      rcases List.mem_append.mp hz with h | h
      · exact .inl (List.mem_of_mem_take h)
      · exact .inl (List.mem_of_mem_drop h)
    · rw [sm_app]
      have := sm_cut xs v
      have := sm_drop xs v
      omega
  have w0' : ¬ (way = 0) ∨ ¬ (1 < (xs.length : Int)) := by omega
  have skip : ∀ (a b : MSt) ρ, ρ = [some (.loc 0), tx, some (.loc (p + 1)), d3, d4, some (.str y), d6, some (.int (v : Int)), some (.int way)] → ifM (andM (tV (bin2 eqP (varM 8) (cM (.int 0)))) (tV (bin2 gtP (bltM lenP (consM (varM 2) nilM)) (cM (.int 1))))) a b ρ S = b ρ S := fun a b ρ hρ => by
    subst hρ
    rcases w0' with h | h
    · simp [andM, toB, bltM, consM, nilM, M.bind, varM, var, M.opL, M.op2, M.lift, asB, M.pure, bin2, cM, SR.of, eq_ints, h]
    · by_cases h2 : way = 0
      · simp [andM, toB, bltM, consM, nilM, M.bind, varM, var, M.opL, M.op2, M.lift, asB, M.pure, bin2, cM, SR.of, eq_ints, h2, gtP, hlen, h]
      · simp [andM, toB, bltM, consM, nilM, M.bind, varM, var, M.opL, M.op2, M.lift, asB, M.pure, bin2, cM, SR.of, eq_ints, h2]
  rw [skip _ _ _ rfl]
  by_cases w1 : way = 1
  · subst w1
    have e1 := sl_to hc v
    have e2 := sl_fr hc v
    have e3 := ix_c hc hv
    have e4 := add_ls S (a := xs.take v) (b := [xs[v]]) (by simp only [List.length_singleton]; omega)
    have e5 := add_c S (a := xs.take v ++ [xs[v]]) (b := xs.drop v) (by rw [List.length_append, List.length_singleton]; omega)
    simp only [List.map_cons, List.map_nil] at e4
    refine ⟨R.length, xs.take v ++ [xs[v]] ++ xs.drop v, _, _, ?_, (new _).1, (new _).2, fin _ ?_ ?_ ?_⟩
    · simp only [x_if, x_tV, x_set, toB, bltM, consM, nilM, M.bind, varM, var, M.opL, M.op2, M.lift, asB, M.pure, bin2, bin2S, M.op2S, slM, opP, noP, optI, asI, opS, cM, SR.of, eq_ints, lstM, List.getElem?_cons_succ, List.getElem?_cons_zero, e1, e2, e3, e4, e5, h1, Option.map_some, List.length_cons, List.length_nil, Nat.zero_add, if_true, decide_true, List.set, hS]
    · intro z
      have := congrArg List.length z
      rw [List.length_append, List.length_append, List.length_singleton, List.length_nil] at this
      omega
    · intro z hz
      rcases List.mem_append.mp hz with h | h
      · rcases List.mem_append.mp h with h | h
        · exact .inl (List.mem_of_mem_take h)
        · rw [List.mem_singleton.mp h]
          exact .inl (List.getElem_mem hv)
      · exact .inl (List.mem_of_mem_drop h)
    · rw [sm_app, sm_app]
      have := sm_cut xs v
      have := (hx.all _ (List.getElem_mem hv)).2
      have e : sm [xs[v]] = xs[v].length + 1 := rfl
      omega
  by_cases w2 : way = 2
  · subst w2
    have e1 := set_c hc hv y
    refine ⟨p, xs.set v y, _, _, ?_, bag_set hb p (.lst ((xs.set v y).map .str)), ?_, fin _ ?_ ?_ ?_⟩
    · simp [toB, bltM, consM, nilM, M.bind, varM, var, M.opL, M.op2, M.lift, asB, M.pure, bin2, cM, SR.of, eq_ints, putM, SR.put, e1]
    · have hp : p < R.length := (List.getElem?_eq_some_iff.mp hg).1
      simp [hp]
    · intro z
      have := congrArg List.length z
      rw [List.length_set, List.length_nil] at this
      omega
    · exact fun z hz => List.mem_or_eq_of_mem_set hz
    · have := sm_set xs v y
      omega
  by_cases w3 : way = 3
  · subst w3
    have e1 := sl_to hc v
    have e2 := sl_fr hc v
    have e4 := add_ls S (a := xs.take v) (b := [y]) (by simp only [List.length_singleton]; omega)
    have e5 := add_c S (a := xs.take v ++ [y]) (b := xs.drop v) (by rw [List.length_append, List.length_singleton]; omega)
    simp only [List.map_cons, List.map_nil] at e4
    refine ⟨R.length, xs.take v ++ [y] ++ xs.drop v, _, _, ?_, (new _).1, (new _).2, fin _ ?_ ?_ ?_⟩
    · simp only [x_if, x_tV, x_set, toB, bltM, consM, nilM, M.bind, varM, var, M.opL, M.op2, M.lift, asB, M.pure, bin2, bin2S, M.op2S, slM, opP, noP, optI, asI, opS, cM, SR.of, eq_ints, lstM, List.getElem?_cons_succ, List.getElem?_cons_zero, e1, e2, e4, e5, h1, Option.map_some, List.length_cons, List.length_nil, Nat.zero_add, if_true, decide_true, List.set, hS, show decide ((3 : Int) = 1) = false from rfl, show decide ((3 : Int) = 2) = false from rfl, Bool.false_eq_true, if_false]
    · intro z
      have := congrArg List.length z
      rw [List.length_append, List.length_append, List.length_singleton, List.length_nil] at this
      omega
    · intro z hz
      rcases List.mem_append.mp hz with h | h
      · rcases List.mem_append.mp h with h | h
        · exact .inl (List.mem_of_mem_take h)
        · exact .inr (List.mem_singleton.mp h)
      · exact .inl (List.mem_of_mem_drop h)
    · rw [sm_app, sm_app]
      have := sm_cut xs v
      have e : sm [y] = y.length + 1 := rfl
      omega
  · have e0 : maxP S [.int 1, .int (v : Int)] = some (.int ((max 1 v : Nat) : Int)) := by
      unfold maxP
      simp only
      congr 2
      split <;> omega
    have e1 : slCP S (.loc (p + 1)) none (some ((max 1 v : Nat) : Int)) = some (.loc S.length, S ++ [.lst ((xs.take (max 1 v)).map .str)]) := by
      unfold slCP asS asL
      simp [hc, cut_take, List.map_take]
    refine ⟨R.length, xs.take (max 1 v), _, _, ?_, (new _).1, (new _).2, fin _ ?_ ?_ ?_⟩
    · simp only [x_if, x_tV, x_set, toB, bltM, consM, nilM, M.bind, varM, var, M.opL, M.op2, M.lift, asB, M.pure, bin2, slCM, opSC, opP, noP, optI, asI, cM, SR.of, eq_ints, List.getElem?_cons_succ, List.getElem?_cons_zero, e0, e1, Option.map_some, decide_eq_false w1, decide_eq_false w2, decide_eq_false w3, Bool.false_eq_true, if_false, List.set, hS]
    · intro z
      have := congrArg List.length z
      rw [List.length_take, List.length_nil] at this
      omega
    · exact fun z hz => .inl (List.mem_of_mem_take hz)
    · have := sm_cut xs (max 1 v)
      omega
end
end PyM
set_option Elab.async false
set_option linter.all false
set_option maxRecDepth 100000
set_option maxHeartbeats 8000000
namespace PyM
open PySem PySem.Spec PyProof.Rows L2 TL
/-! ### bent texts -/
theorem bent_turn {R S : Store} {p m : Nat} {xs : List Str} {tx d3 d4 d5 d6 d7 d8 : Option D} (hb : Bag S R) (hg : R[p]? = some (.lst (xs.map .str))) (hx : RunsOk xs m) (hm : m ≤ 100000) :
    ∃ p' xs' S' R' e4 e5 e7 e8, bentB [some (.loc 0), tx, some (.loc (p + 1)), d3, d4, d5, d6, d7, d8] S = .nx [some (.loc 0), tx, some (.loc (p' + 1)), d3, e4, e5, d6, e7, e8] S' ∧
      Bag S' R' ∧ R'[p']? = some (.lst (xs'.map .str)) ∧ RunsOk xs' (m + 21) := by
  have hs := sizeLine_eq
  have hc := cell_at hb hg
  have hlen : lenP S [.loc (p + 1)] = some (.int xs.length) := by
    unfold lenP asQ asL
    simp [hc]
  have hlx := sm_len xs
  have hsum : sm xs ≤ m := hx.sum
  have hpos : 0 < xs.length := List.length_pos_iff.mpr hx.n0
  obtain ⟨v, S1, e1, v0, v1, b1⟩ := take_any (many := (xs.length : Int)) hb (by omega) (by omega)
  obtain ⟨j, rfl⟩ : ∃ j : Nat, v = (j : Int) := ⟨v.toNat, by omega⟩
  obtain ⟨way, S2, e2, w0, w1, b2⟩ := take_any (many := 5) b1 (by decide) (by decide)
  obtain ⟨d, S3, e3, hd, b3⟩ := some_any (things := .lst (thirty.map .str)) (ds := thirty.map .str) b2 (.inr rfl) (by decide) (by decide)
  obtain ⟨y, hy, rfl⟩ := List.mem_map.mp hd
  obtain ⟨p', xs', S', R', e4, b4, g4, x4⟩ := bent_way (tx := tx) (d3 := d3) (d4 := some (.lst ((thirty.take 15).map .str))) (d6 := d6) b3 hg hx hm (v := j) (by omega) w0 (thirty_ok y hy) (thirty_sg y hy)
  have h15 : (15 : Nat) ≤ sizeLine := by rw [hs]; decide
  have h14 : (14 : Nat) ≤ sizeLine := by rw [hs]; decide
  have hadd : addP S2 (.lst ((thirty.take 15).map .str)) (.lst ((thirty.drop 15).map .str)) = some (.lst (thirty.map .str)) := add_ls S2 (a := thirty.take 15) (b := thirty.drop 15) (by decide)
  refine ⟨p', xs', S', R', some (.lst ((thirty.take 15).map .str)), some (.str y), some (.int (j : Int)), some (.int way), ?_, b4, g4, x4⟩
  rw [← e4]
  unfold bentB
  have s1 : bentP [some (.loc 0), tx, some (.loc (p + 1)), d3, d4, d5, d6, d7, d8] S = .nx [some (.loc 0), tx, some (.loc (p + 1)), d3, d4, d5, d6, some (.int (j : Int)), some (.int way)] S2 := by
    unfold bentP
    simp [parM, bltM, consM, nilM, M.bind, varM, var, M.opL, M.pure, callM, cM, SR.of, hlen, e1, e2]
  have s2 : bentS [some (.loc 0), tx, some (.loc (p + 1)), d3, d4, d5, d6, some (.int (j : Int)), some (.int way)] S2 = .nx [some (.loc 0), tx, some (.loc (p + 1)), d3, some (.lst ((thirty.take 15).map .str)), d5, d6, some (.int (j : Int)), some (.int way)] S2 := by
    unfold bentS
    simp [lstM, consM, nilM, M.bind, M.pure, cM, SR.of, h15, thirty]
  have s3 : bentM [some (.loc 0), tx, some (.loc (p + 1)), d3, some (.lst ((thirty.take 15).map .str)), d5, d6, some (.int (j : Int)), some (.int way)] S2 = .nx [some (.loc 0), tx, some (.loc (p + 1)), d3, some (.lst ((thirty.take 15).map .str)), some (.str y), d6, some (.int (j : Int)), some (.int way)] S3 := by
    have ar : lstM (consM (cM (.str ")")) (consM (cM (.str ",")) (consM (cM (.str "\n")) (consM (cM (.str "x")) (consM (cM (.str "card")) (consM (cM (.str "until")) (consM (cM (.str "if")) (consM (cM (.str "share")) (consM (cM (.str "half")) (consM (cM (.str "1000000")) (consM (cM (.str "1000001")) (consM (cM (.str "007")) (consM (cM (.str "?")) (consM (cM (.str "barred")) nilM)))))))))))))) [some (.loc 0), tx, some (.loc (p + 1)), d3, some (.lst ((thirty.take 15).map .str)), d5, d6, some (.int (j : Int)), some (.int way)] S2 = .ok (.lst ((thirty.drop 15).map .str)) S2 := by
      simp [lstM, consM, nilM, M.bind, M.pure, cM, h14, thirty]
    unfold bentM
    generalize hA : lstM (consM (cM (.str ")")) (consM (cM (.str ",")) (consM (cM (.str "\n")) (consM (cM (.str "x")) (consM (cM (.str "card")) (consM (cM (.str "until")) (consM (cM (.str "if")) (consM (cM (.str "share")) (consM (cM (.str "half")) (consM (cM (.str "1000000")) (consM (cM (.str "1000001")) (consM (cM (.str "007")) (consM (cM (.str "?")) (consM (cM (.str "barred")) nilM)))))))))))))) = A at ar ⊢
    generalize thirty.take 15 = t1 at ar hadd ⊢
    generalize thirty.drop 15 = t2 at ar hadd ⊢
    simp [consM, nilM, M.bind, varM, var, M.pure, callM, bin2, M.op2, SR.of, ar, hadd, e3, -List.map_take, -List.map_drop]
  rw [x_seq, s1, x_sbind_nx, x_seq, s2, x_sbind_nx, x_seq, s3, x_sbind_nx]
theorem bent_loop {tx d6 : Option D} : ∀ (ks : List D) {R S : Store} {p m : Nat} {xs : List Str} {d3 d4 d5 d7 d8 : Option D}, Bag S R → R[p]? = some (.lst (xs.map .str)) → RunsOk xs m → m + 21 * ks.length ≤ 100000 →
    ∃ p' xs' S' R' e3 e4 e5 e7 e8, loopS (fun _ => true) (gN 3) bentB ks [some (.loc 0), tx, some (.loc (p + 1)), d3, d4, d5, d6, d7, d8] S = .nx [some (.loc 0), tx, some (.loc (p' + 1)), e3, e4, e5, d6, e7, e8] S' ∧
      Bag S' R' ∧ R'[p']? = some (.lst (xs'.map .str)) ∧ RunsOk xs' (m + 21 * ks.length)
  | [], R, S, p, m, xs, d3, d4, d5, d7, d8, hb, hg, hx, _ => ⟨p, xs, S, R, d3, d4, d5, d7, d8, rfl, hb, hg, hx⟩
  | k :: ks, R, S, p, m, xs, d3, d4, d5, d7, d8, hb, hg, hx, hm => by
    rw [List.length_cons] at hm
    obtain ⟨p1, xs1, S1, R1, e4, e5, e7, e8, r1, b1, g1, x1⟩ := bent_turn (tx := tx) (d3 := some k) (d4 := d4) (d5 := d5) (d6 := d6) (d7 := d7) (d8 := d8) hb hg hx (by omega)
    obtain ⟨p2, xs2, S2, R2, f3, f4, f5, f7, f8, r2, b2, g2, x2⟩ := bent_loop (tx := tx) (d6 := d6) ks (d3 := some k) (d4 := e4) (d5 := e5) (d7 := e7) (d8 := e8) b1 g1 x1 (by omega)
    refine ⟨p2, xs2, S2, R2, f3, f4, f5, f7, f8, ?_, b2, g2, ?_⟩
    · unfold loopS
      simp only [gN, List.set, if_true]
      rw [r1]
      exact r2
    · rw [List.length_cons]
      exact ⟨x2.n0, x2.all, Nat.le_trans x2.sum (by omega), x2.sg⟩
theorem repl_run (S : Store) {y z x : Str} (h : x.length + (x.length + 1) * z.length ≤ 16777216) : replP y z S (.str x) = some (.str (Txt.replace x y z)) := if_pos h
theorem join_runC (S : Store) {n : Nat} {xs : List Str} {y : Str} (h : S[n]? = some (.lst (xs.map .str))) (hl : (xs.map (·.length)).sum + xs.length * y.length ≤ 16777216) : joinP S (.str y) [.loc n] = some (.str (Txt.join y xs), S) := by
  have e : asQ S (.loc n) = some (xs.map .str) := by
    unfold asQ asL
    simp [h]
  unfold joinP
  simp only [e, strsOf_map]
  rw [if_pos hl]
theorem sm_eq : ∀ xs : List Str, sm xs = (xs.map (·.length)).sum + xs.length
  | [] => rfl
  | x :: xs => by
    have e : sm (x :: xs) = x.length + 1 + sm xs := rfl
    rw [e, sm_eq xs, List.map_cons, List.sum_cons, List.length_cons]
    omega
theorem flat_lenS (s : Nat) : ∀ l : List Nat, (l.flatMap (fmS s)).length ≤ 3 * l.length
  | [] => Nat.le_refl _
  | c :: l => by
    have := flat_lenS s l
    have h : (fmS s c).length ≤ 3 := by unfold fmS; split <;> simp
    rw [List.flatMap_cons, List.length_append, List.length_cons]
    omega
theorem repl_len (x : Str) (s : Nat) (y z : Str) (hy : tl y = [s]) (hz : tl z = [32, s, 32]) : (Txt.replace x y z).length ≤ 3 * x.length := by
  rw [len_tl, repl_tl x s y z hy hz, len_tl]
  exact flat_lenS s _
theorem join_sg (y : Str) (hy : Sg (tl y)) : ∀ (ls : List Str), (∀ l ∈ ls, Sg (tl l)) → Sg (tl (Txt.join y ls))
  | [], _ => by rw [join_nil]; exact fun z hz => absurd hz (by show z ∉ []; simp)
  | [x], h => by rw [join_one]; exact h x (by simp)
  | x :: z :: r, h => by
    rw [join_cons, tl_append, tl_append]
    exact ((h x (by simp)).append hy).append (join_sg y hy (z :: r) fun l hl => h l (by simp [List.mem_cons.mp hl]))
/-- a bent text is not much longer -/
theorem bent_run {R S : Store} {x : Str} (hb : Bag S R) (hx : x.length ≤ 10000) (hr : ∃ a, ra 20 (tl x) = some a) (h0 : 0 < nb (tl x)) (hg : Sg (tl x)) :
    ∃ y S' R', m__law_bent_text [.loc 0, .str x] S = .ok (.str y) S' ∧ Bag S' R' ∧ y.length ≤ 2 * nb (tl x) + 42 ∧ Sg (tl y) := by
  have hs := sizeLine_eq
  have ok := runs_ok hr h0 hg
  have hn : nb (tl x) ≤ 10000 := Nat.le_trans (nb_le _) (by rw [← len_tl]; exact hx)
  have l1 := repl_len x 10 "\n" " \n " rfl rfl
  have l2 := repl_len (Txt.replace x "\n" " \n ") 40 "(" " ( " rfl rfl
  have l3 : (bentText x).length ≤ 3 * (Txt.replace (Txt.replace x "\n" " \n ") "(" " ( ").length := repl_len (Txt.replace (Txt.replace x "\n" " \n ") "(" " ( ") 41 ")" " ) " rfl rfl
  have z1 : (" \n " : Str).length = 3 := rfl
  have z2 : (" ( " : Str).length = 3 := rfl
  have z3 : (" ) " : Str).length = 3 := rfl
  have r1 := repl_run S (x := x) (y := "\n") (z := " \n ") (by rw [z1]; omega)
  have r2 := repl_run S (x := Txt.replace x "\n" " \n ") (y := "(") (z := " ( ") (by rw [z2]; omega)
  have r3 := repl_run S (x := Txt.replace (Txt.replace x "\n" " \n ") "(" " ( ") (y := ")") (z := " ) ") (by rw [z3]; omega)
  have r4 := split_run S (x := bentText x) (y := " ") (by decide) (by omega)
  have hlr : (runsOf x).length ≤ sizeLine := by
    have := sm_len (runsOf x)
    have : sm (runsOf x) ≤ 2 * nb (tl x) := ok.sum
    omega
  have hS := bag_len hb
  have b1 := bag_add hb (.lst ((runsOf x).map .str))
  obtain ⟨k, S2, e2, k0, k1, b2⟩ := take_any (many := 2) b1 (by decide) (by decide)
  have ok1 : rngOk (1 + k) := by unfold rngOk; omega
  have hks : (srcR 0 (1 + k)).items.length ≤ 2 := by unfold srcR; simp; omega
  obtain ⟨p', xs', S', R', d3, d4, d5, d7, d8, e3, b3, g3, x3⟩ := bent_loop (tx := some (.str x)) (d6 := none) (srcR 0 (1 + k)).items (d3 := none) (d4 := none) (d5 := none) (d7 := none) (d8 := none) b2 (last_get R _) ok (by omega)
  have hsm : sm xs' ≤ 2 * nb (tl x) + 42 := Nat.le_trans x3.sum (by omega)
  rw [sm_eq] at hsm
  have o1 : (" " : Str).length = 1 := rfl
  have e4 := join_runC S' (y := " ") (cell_at b3 g3) (by rw [o1]; omega)
  refine ⟨Txt.join " " xs', S', R', ?_, b3, Nat.le_trans (join_len _ _) (by rw [o1]; omega), join_sg _ (by unfold Sg; decide) _ x3.sg⟩
  have s1 : setM 2 (filtM (methM "str" splitP (un1 (replP ")" " ) ") (un1 (replP "(" " ( ") (un1 (replP "\n" " \n ") (varM 1)))) (consM (cM (.str " ")) nilM))) [some (.loc 0), some (.str x), none, none, none, none, none, none, none] S =
      .nx [some (.loc 0), some (.str x), some (.loc (R.length + 1)), none, none, none, none, none, none] (S ++ [.lst ((runsOf x).map .str)]) := by
    have e0 : methM "str" splitP (un1 (replP ")" " ) ") (un1 (replP "(" " ( ") (un1 (replP "\n" " \n ") (varM 1)))) (consM (cM (.str " ")) nilM) [some (.loc 0), some (.str x), none, none, none, none, none, none, none] S = .ok (.lst ((Txt.split (bentText x) " ").map .str)) S := by
      have e : Txt.replace (Txt.replace (Txt.replace x "\n" " \n ") "(" " ( ") ")" " ) " = bentText x := rfl
      simp [methM, M.guard, tyOk, un1, M.op1, consM, nilM, M.bind, varM, var, M.pure, cM, M.opM, r1, r2, r3, e, r4]
    simp only [x_set, SR.of, filtM, M.bind, e0, strsOf_map, newCell]
    have hlr' : (List.map D.str (List.filter (fun x => !decide (x = Str.empty)) (Txt.split (bentText x) " "))).length ≤ sizeLine := by rw [List.length_map]; exact hlr
    rw [if_pos hlr', hS]
    rfl
  have s2 : forM (rngI1 (consM (bin2 addP (cM (.int 1)) (callM 2 m__law_take (consM (varM 0) (consM (cM (.int 2)) nilM)))) nilM)) (gN 3) bentB [some (.loc 0), some (.str x), some (.loc (R.length + 1)), none, none, none, none, none, none] (S ++ [.lst ((runsOf x).map .str)]) =
      .nx [some (.loc 0), some (.str x), some (.loc (p' + 1)), d3, d4, d5, none, d7, d8] S' := by
    rw [← e3]
    unfold forM
    have : rngI1 (consM (bin2 addP (cM (.int 1)) (callM 2 m__law_take (consM (varM 0) (consM (cM (.int 2)) nilM)))) nilM) [some (.loc 0), some (.str x), some (.loc (R.length + 1)), none, none, none, none, none, none] (S ++ [.lst ((runsOf x).map .str)]) = .ok (srcR 0 (1 + k)) S2 := by
      simp [rngI1, consM, nilM, M.bind, varM, var, M.pure, cM, bin2, M.op2, callM, e2, add_ints, srcR1, ok1]
    rw [this]
    rfl
  have body : m__law_bent_text [.loc 0, .str x] S = (SR.bind (setM 2 (filtM (methM "str" splitP (un1 (replP ")" " ) ") (un1 (replP "(" " ( ") (un1 (replP "\n" " \n ") (varM 1)))) (consM (cM (.str " ")) nilM))) [some (.loc 0), some (.str x), none, none, none, none, none, none, none] S)
      (seqM (forM (rngI1 (consM (bin2 addP (cM (.int 1)) (callM 2 m__law_take (consM (varM 0) (consM (cM (.int 2)) nilM)))) nilM)) (gN 3) bentB) (retM (methM "str" joinP (cM (.str " ")) (consM (varM 2) nilM))))).out := rfl
  rw [body, s1, x_sbind_nx, x_seq, s2, x_sbind_nx]
  simp [methM, M.guard, tyOk, consM, nilM, M.bind, varM, var, M.pure, cM, M.opM, e4, SR.of, SR.out]
end PyM
set_option Elab.async false
set_option linter.all false
set_option maxRecDepth 100000
set_option maxHeartbeats 8000000
namespace PyM
open PySem PySem.Spec PyProof.Rows L2 TL
/-! ### tokens, as plain functions of signs -/
def letB (c : Nat) : Bool := decide (97 ≤ c ∧ c ≤ 122)
def dgB (c : Nat) : Bool := decide (48 ≤ c ∧ c ≤ 57)
def lnd (c : Nat) : Bool := letB c || dgB c
def mkB (c : Nat) : Bool := decide (c = 40 ∨ c = 41 ∨ c = 44)
abbrev mk (l : List Nat) : Str := ⟨l.toArray⟩
theorem let_tl : tl "abcdefghijklmnopqrstuvwxyz" = List.range' 97 26 := by decide +kernel
theorem dig_tl : tl "0123456789" = List.range' 48 10 := by decide +kernel
theorem lnd_tl : tl "abcdefghijklmnopqrstuvwxyz0123456789" = List.range' 97 26 ++ List.range' 48 10 := by decide +kernel
theorem in_chr (S : Store) (c : Nat) (y : Str) : inP S (.str (chr c)) (.str y) = some (.bl (decide (c ∈ tl y))) := rfl
theorem nin_chr (S : Store) (c : Nat) (y : Str) : ninP S (.str (chr c)) (.str y) = some (.bl (!decide (c ∈ tl y))) := rfl
theorem let_mem (c : Nat) : decide (c ∈ tl "abcdefghijklmnopqrstuvwxyz") = letB c := by
  rw [let_tl]
  unfold letB
  simp only [List.mem_range'_1]
  congr 1
  exact propext ⟨fun h => by omega, fun h => by omega⟩
theorem dig_mem (c : Nat) : decide (c ∈ tl "0123456789") = dgB c := by
  rw [dig_tl]
  unfold dgB
  simp only [List.mem_range'_1]
  congr 1
  exact propext ⟨fun h => by omega, fun h => by omega⟩
theorem lnd_mem (c : Nat) : decide (c ∈ tl "abcdefghijklmnopqrstuvwxyz0123456789") = lnd c := by
  rw [lnd_tl]
  unfold lnd letB dgB
  simp only [List.mem_append, List.mem_range'_1]
  rw [← Bool.decide_or]
  congr 1
  exact propext ⟨fun h => by omega, fun h => by omega⟩
theorem mk_mem (c : Nat) : decide (c ∈ tl "(),") = mkB c := by
  have : tl "()," = [40, 41, 44] := rfl
  rw [this]
  unfold mkB
  simp
theorem let_dig (S : Store) : addP S c_LETTERS c_DIGITS = some (.str "abcdefghijklmnopqrstuvwxyz0123456789") := by
  have : addP S c_LETTERS c_DIGITS = some (.str (("abcdefghijklmnopqrstuvwxyz" : Str) ++ ("0123456789" : Str))) := add_l S (by decide)
  rw [this]
  have e : (("abcdefghijklmnopqrstuvwxyz" : Str) ++ ("0123456789" : Str)) = "abcdefghijklmnopqrstuvwxyz0123456789" := ext_tl (by rw [tl_append, let_tl, dig_tl, lnd_tl])
  rw [e]
theorem in_let (S : Store) (c : Nat) : inP S (.str (chr c)) c_LETTERS = some (.bl (letB c)) := by rw [← let_mem]; rfl
theorem nin_let (S : Store) (c : Nat) : ninP S (.str (chr c)) c_LETTERS = some (.bl (!letB c)) := by rw [← let_mem]; rfl
theorem in_dig (S : Store) (c : Nat) : inP S (.str (chr c)) c_DIGITS = some (.bl (dgB c)) := by rw [← dig_mem]; rfl
theorem in_lnd (S : Store) (c : Nat) : inP S (.str (chr c)) (.str "abcdefghijklmnopqrstuvwxyz0123456789") = some (.bl (lnd c)) := by rw [← lnd_mem]; rfl
theorem in_mark (S : Store) (c : Nat) : inP S (.str (chr c)) (.str "(),") = some (.bl (mkB c)) := by rw [← mk_mem]; rfl
/-- signs of a text -/
theorem ix_str (S : Store) {x : Str} (h : x.length ≤ 1000000) {j : Nat} {c : Nat} (hj : (tl x)[j]? = some c) : ixP S (.str x) (.int (j : Int)) = some (.str (chr c)) := by
  have hs := sizeLine_eq
  unfold ixP
  simp only
  rw [if_pos (by omega)]
  have : atI x.cps.toList (j : Int) = some c := atI_nat hj
  rw [this]
  rfl
theorem mk_tl (x : Str) : mk (tl x) = x := ext_tl (by rw [tl_mk])
theorem mk_len (l : List Nat) : (mk l).length = l.length := by rw [len_tl, tl_mk]
/-- a comprehension of bools -/
theorem lc_bools {i : Nat} {me : Env' → M D} {ρ : Env'} {S : Store} {f : Nat → Bool} : ∀ (l : List Nat), (∀ c ∈ l, ∃ ρ2, gN i (.str (chr c)) ρ = some ρ2 ∧ me ρ2 S = .ok (.bl (f c)) S) →
    lcL (fun _ => true) (gN i) yesT me ρ (l.map fun c => .str (chr c)) S = .ok (l.map fun c => .bl (f c)) S
  | [], _ => rfl
  | c :: l, h => by
    obtain ⟨ρ2, e1, e2⟩ := h c (by simp)
    have ih := lc_bools (i := i) (me := me) (ρ := ρ) (S := S) (f := f) l fun d hd => h d (by simp [hd])
    rw [List.map_cons, List.map_cons]
    unfold lcL
    simp [e1, yesT, M.pure, e2, ih]
theorem lc_signs {i : Nat} {mt : Env' → M Bool} {me : Env' → M D} {ρ : Env'} {S : Store} {f : Nat → Bool} : ∀ (l : List Nat), (∀ c ∈ l, ∃ ρ2, gN i (.str (chr c)) ρ = some ρ2 ∧ mt ρ2 S = .ok (f c) S ∧ me ρ2 S = .ok (.str (chr c)) S) →
    lcL (fun _ => true) (gN i) mt me ρ (l.map fun c => .str (chr c)) S = .ok ((l.filter f).map fun c => .str (chr c)) S
  | [], _ => rfl
  | c :: l, h => by
    obtain ⟨ρ2, e1, e2, e3⟩ := h c (by simp)
    have ih := lc_signs (i := i) (mt := mt) (me := me) (ρ := ρ) (S := S) (f := f) l fun d hd => h d (by simp [hd])
    rw [List.map_cons]
    unfold lcL
    rw [List.filter_cons]
    cases q : f c with
    | true =>
      rw [q] at e2
      simp [e1, e2, e3, ih]
    | false =>
      rw [q] at e2
      simp [e1, e2, ih]
theorem all_bools (S : Store) (f : Nat → Bool) (l : List Nat) : allP S [.lst (l.map fun c => .bl (f c))] = some (.bl (l.all f)) := by
  have : blsOf (l.map fun c => D.bl (f c)) = some (l.map f) := by
    induction l with
    | nil => rfl
    | cons c l ih => simp [blsOf, ih]
  unfold allP asS asL
  simp [this, List.all_map, Function.comp_def]
def resL : List Str := ["barred", "deed", "down", "each", "else", "ends", "from", "full", "greatest", "half", "if", "is", "least", "less", "money", "packs", "plus", "reaches", "share", "shown", "standing", "then", "to", "until", "up"]
def resB (r : List Nat) : Bool := decide (mk r ∈ resL)
def nameB (r : List Nat) : Bool := decide (1 ≤ r.length ∧ r.length ≤ 8) && (letB (r.headD 0) && r.all lnd)
def figB (most : Int) (r : List Nat) : Bool := r.all dgB && (decide (1 ≤ r.length ∧ (r.length : Int) ≤ most) && (decide (r = [48]) || !decide (r.headD 0 = 48)))
theorem res_eq : c_RESERVED = .tup (resL.map .str) := rfl
theorem in_res (S : Store) (r : List Nat) : inP S (.str (mk r)) c_RESERVED = some (.bl (resB r)) := by rw [res_eq, in_strs]; rfl
theorem nin_res (S : Store) (r : List Nat) : ninP S (.str (mk r)) c_RESERVED = some (.bl (!resB r)) := by rw [res_eq, nin_strs]; rfl
theorem cut_str (x : Str) {i j : Nat} (h1 : i ≤ j) (h2 : j ≤ x.length) : cutS x (some (i : Int)) (some (j : Int)) = mk (((tl x).drop i).take (j - i)) := by
  have z1 : HT.sIx x.length 0 (some (i : Int)) = i := by rw [HT.sIx_nat]; omega
  have z2 : HT.sIx x.length x.length (some (j : Int)) = j := by rw [HT.sIx_nat]; omega
  unfold cutS
  rw [z1, z2]
theorem len_str (S : Store) {x : Str} (h : x.length ≤ 1000000) : lenP S [.str x] = some (.int x.length) := by
  have hs := sizeLine_eq
  exact if_pos (by omega)
theorem mk_eq (r : List Nat) (x : Str) : (mk r = x) ↔ r = tl x := ⟨fun h => by rw [← h, tl_mk], fun h => by rw [h, mk_tl]⟩
theorem src_mk (S : Store) (r : List Nat) : srcA (.str (mk r)) S = .ok ⟨r.map fun c => .str (chr c), fun _ => true⟩ S := rfl
theorem ix_mk (S : Store) {r : List Nat} (h : r.length ≤ 1000000) {j : Nat} {c : Nat} (hj : r[j]? = some c) : ixP S (.str (mk r)) (.int (j : Int)) = some (.str (chr c)) := ix_str S (by rw [mk_len]; exact h) (by rw [tl_mk]; exact hj)
theorem head_mk (S : Store) {c : Nat} {r : List Nat} (h : (c :: r).length ≤ 1000000) : ixP S (.str (mk (c :: r))) (.int 0) = some (.str (chr c)) := ix_mk S h (j := 0) rfl
theorem all_run {i : Nat} {ρ : Env'} {S : Store} {me : Env' → M D} {f : Nat → Bool} {r : List Nat} {k : Nat} {own : List Nat} (hr : r.length ≤ 1000000) (hv : ρ[k]? = some (some (.str (mk r))))
    (h : ∀ c ∈ r, ∃ ρ2, gN i (.str (chr c)) (wipeE ρ own) = some ρ2 ∧ me ρ2 S = .ok (.bl (f c)) S) : bltM allP (consM (lcM (seqI (varM k)) (gN i) yesT me own) nilM) ρ S = .ok (.bl (r.all f)) S := by
  have hs := sizeLine_eq
  have e := lc_bools (i := i) (me := me) (ρ := wipeE ρ own) (S := S) (f := f) r h
  have hl : r.length ≤ sizeLine := by omega
  have a := all_bools S f r
  simp [bltM, consM, nilM, M.bind, lcM, lcI, seqI, varM, var, hv, M.pure, src_mk, e, hl, M.opL, a]
theorem eq_chr (S : Store) (c k : Nat) : eqP S (.str (chr c)) (.str (chr k)) = some (.bl (decide (c = k))) := by
  rw [eq_strs]
  congr 2
  exact decide_eq_decide.mpr chr_inj
theorem ne_chr (S : Store) (c k : Nat) : neP S (.str (chr c)) (.str (chr k)) = some (.bl (!decide (c = k))) := by
  rw [ne_strs]
  congr 3
  exact decide_eq_decide.mpr chr_inj
theorem eq_nl (S : Store) (c : Nat) : eqP S (.str (chr c)) (.str "\n") = some (.bl (decide (c = 10))) := eq_chr S c 10
theorem eq_min (S : Store) (c : Nat) : eqP S (.str (chr c)) (.str "-") = some (.bl (decide (c = 45))) := eq_chr S c 45
theorem eq_bl (S : Store) (c : Nat) : eqP S (.str (chr c)) (.str " ") = some (.bl (decide (c = 32))) := eq_chr S c 32
theorem ne_bl (S : Store) (c : Nat) : neP S (.str (chr c)) (.str " ") = some (.bl (!decide (c = 32))) := ne_chr S c 32
theorem ne_0 (S : Store) (c : Nat) : neP S (.str (chr c)) (.str "0") = some (.bl (!decide (c = 48))) := ne_chr S c 48
theorem chr_0 (c : Nat) : (chr c = ("0" : Str)) ↔ c = 48 := by
  have : ("0" : Str) = chr 48 := rfl
  rw [this, chr_inj]
theorem mkz (r : List Nat) : (mk r = ("0" : Str)) ↔ r = [48] := mk_eq _ _
theorem run_figures (S : Store) {r : List Nat} {most : Int} (hr : r.length ≤ 1000000) : m_is_figures [.str (mk r), .int most] S = .ok (.bl (figB most r)) S := by
  have ha := all_run (i := 2) (ρ := [some (.str (mk r)), some (.int most), none]) (S := S) (me := bin2 inP (varM 2) (cM c_DIGITS)) (f := dgB) (k := 0) (own := [2]) hr rfl (fun c _ => ⟨_, rfl, by
    simp [bin2, M.bind, varM, var, M.pure, wipeE, cM, M.op2, in_dig]⟩)
  unfold m_is_figures figB
  generalize bltM allP (consM (lcM (seqI (varM 0)) (gN 2) yesT (bin2 inP (varM 2) (cM c_DIGITS)) [2]) nilM) = A at ha ⊢
  have hlen := len_str S (x := mk r) (by rw [mk_len]; exact hr)
  rw [mk_len] at hlen
  cases h1 : r.all dgB with
  | true =>
    rw [h1] at ha
    by_cases h2 : 1 ≤ r.length ∧ (r.length : Int) ≤ most
    · have l1 : (1 : Int) ≤ (r.length : Int) := by omega
      obtain ⟨c, r', rfl⟩ : ∃ c r', r = c :: r' := by
        cases r with
        | nil => simp at h2
        | cons c r' => exact ⟨c, r', rfl⟩
      have hh := head_mk S hr
      have hz := mkz (c :: r')
      have l2 := h2.2
      rw [decide_eq_true h2]
      clear h2 h1 hr
      generalize ((c :: r').length : Int) = n at hlen l1 l2
      generalize mk (c :: r') = x at *
      simp only [List.headD_cons]
      by_cases h3 : c :: r' = [48]
      · have e : eqP S (.str x) (.str "0") = some (.bl true) := by rw [eq_strs, decide_eq_true (hz.mpr h3)]
        rw [decide_eq_true h3]
        simp [x_if, orM, notT, x_tV, toB, ha, chain2, M.bind, consM, nilM, bltM, varM, var, M.pure, M.opL, hlen, cM, M.op2, leP, M.lift, asB, l1, l2, SR.of, SR.bind, SR.out, retM, orV, bin2, e]
      · have e : ¬ x = ("0" : Str) := fun z => h3 (hz.mp z)
        rw [decide_eq_false h3]
        simp [x_if, orM, notT, x_tV, toB, ha, chain2, M.bind, consM, nilM, bltM, varM, var, M.pure, M.opL, hlen, cM, M.op2, leP, M.lift, asB, l1, l2, SR.of, SR.bind, SR.out, retM, orV, bin2, eq_strs, e, hh, ne_0]
        rfl
    · have h3 : decide (1 ≤ r.length ∧ (r.length : Int) ≤ most) = false := decide_eq_false h2
      rw [h3]
      by_cases l1 : 1 ≤ r.length
      · have l2 : ¬ (r.length : Int) ≤ most := fun z => h2 ⟨l1, z⟩
        have l3 : (1 : Int) ≤ (r.length : Int) := by omega
        simp [x_if, orM, notT, x_tV, toB, ha, chain2, M.bind, consM, nilM, bltM, varM, var, M.pure, M.opL, hlen, cM, M.op2, leP, M.lift, asB, l3, l2, SR.of, SR.bind, SR.out, retM]
      · have l3 : ¬ (1 : Int) ≤ (r.length : Int) := by omega
        simp [x_if, orM, notT, x_tV, toB, ha, chain2, M.bind, consM, nilM, bltM, varM, var, M.pure, M.opL, hlen, cM, M.op2, leP, M.lift, asB, l3, SR.of, SR.bind, SR.out, retM]
  | false =>
    rw [h1] at ha
    simp [x_if, orM, notT, x_tV, toB, ha, M.bind, consM, nilM, varM, var, M.pure, cM, M.lift, asB, SR.of, SR.bind, SR.out, retM]
theorem k_str_str : L2.kitB "str" "str" = some true := by decide +kernel
theorem run_name (S : Store) {r : List Nat} (hr : r.length ≤ 1000000) (hres : resB r = false) : m_is_name [.str (mk r)] S = .ok (.bl (nameB r)) S := by
  have ha := all_run (i := 1) (ρ := [some (.str (mk r)), none]) (S := S) (me := bin2 inP (varM 1) (bin2 addP (cM c_LETTERS) (cM c_DIGITS))) (f := lnd) (k := 0) (own := [1]) hr rfl (fun c _ => ⟨_, rfl, by
    simp [bin2, M.bind, varM, var, M.pure, wipeE, cM, M.op2, let_dig, in_lnd]⟩)
  have hnr := nin_res S r
  rw [hres] at hnr
  unfold m_is_name nameB
  generalize bltM allP (consM (lcM (seqI (varM 0)) (gN 1) yesT (bin2 inP (varM 1) (bin2 addP (cM c_LETTERS) (cM c_DIGITS))) [1]) nilM) = A at ha ⊢
  have hlen := len_str S (x := mk r) (by rw [mk_len]; exact hr)
  rw [mk_len] at hlen
  have hml : c_MOST_LETTERS = .int 8 := rfl
  by_cases h2 : 1 ≤ r.length ∧ r.length ≤ 8
  · have l1 : (1 : Int) ≤ (r.length : Int) := by omega
    have l2 : (r.length : Int) ≤ 8 := by omega
    obtain ⟨c, r', rfl⟩ : ∃ c r', r = c :: r' := by
      cases r with
      | nil => simp at h2
      | cons c r' => exact ⟨c, r', rfl⟩
    have hh := head_mk S hr
    rw [decide_eq_true h2]
    clear h2 hr
    generalize ((c :: r').length : Int) = n at hlen l1 l2
    generalize mk (c :: r') = x at *
    generalize (c :: r').all lnd = al at *
    cases q : letB c with
    | true => simp [x_if, orM, notT, x_tV, toB, ha, chain2, M.bind, consM, nilM, bltM, varM, var, M.pure, M.opL, hlen, cM, M.op2, leP, M.lift, asB, l1, l2, SR.of, SR.bind, SR.out, retM, andV, bin2, hml, isiP, tyName, k_str_str, hh, nin_let, hnr, q]
    | false => simp [x_if, orM, notT, x_tV, toB, ha, chain2, M.bind, consM, nilM, bltM, varM, var, M.pure, M.opL, hlen, cM, M.op2, leP, M.lift, asB, l1, l2, SR.of, SR.bind, SR.out, retM, andV, bin2, hml, isiP, tyName, k_str_str, hh, nin_let, hnr, q]
  · rw [decide_eq_false h2]
    by_cases l1 : 1 ≤ r.length
    · have l2 : ¬ (r.length : Int) ≤ 8 := fun z => h2 ⟨l1, by omega⟩
      have l3 : (1 : Int) ≤ (r.length : Int) := by omega
      simp [x_if, orM, notT, x_tV, toB, ha, chain2, M.bind, consM, nilM, bltM, varM, var, M.pure, M.opL, hlen, cM, M.op2, leP, M.lift, asB, l3, l2, SR.of, SR.bind, SR.out, retM, hml, isiP, tyName, k_str_str]
    · have l3 : ¬ (1 : Int) ≤ (r.length : Int) := by omega
      simp [x_if, orM, notT, x_tV, toB, ha, chain2, M.bind, consM, nilM, bltM, varM, var, M.pure, M.opL, hlen, cM, M.op2, leP, M.lift, asB, l3, SR.of, SR.bind, SR.out, retM, hml, isiP, tyName, k_str_str]
/-- what figures are worth -/
def valN (r : List Nat) : Int := ((PySem.NumText.digitsVal r : Nat) : Int)
theorem int_fig (S : Store) {r : List Nat} {most : Int} (hm : most ≤ 40) (h : figB most r = true) : intP2 S [.str (mk r)] = some (.int (valN r)) := by
  unfold figB at h
  simp only [Bool.and_eq_true, decide_eq_true_eq] at h
  obtain ⟨h1, ⟨h2, h3⟩, _⟩ := h
  have hd : PySem.NumText.AllDigits (mk r).cps.toList := fun c hc => by
    have := List.all_eq_true.mp h1 c (by simpa using hc)
    unfold dgB at this
    exact of_decide_eq_true this
  have e := PySem.intText_digits (x := mk r) hd (by
    intro z
    have : r = [] := by simpa using z
    rw [this] at h2
    exact absurd h2 (by decide)) (by rw [mk_len]; omega)
  unfold intP2
  simp only
  rw [if_pos (by rw [mk_len]; omega), e]
  show some (D.int _) = _
  unfold valN
  simp
def runTok (most : Int) (r : List Nat) : Str × D := if resB r = true then ("key", .str (mk r)) else if nameB r = true then ("name", .str (mk r)) else if figB most r = true then ("number", .int (valN r)) else ("bad", .str "")
theorem run_token_run (S : Store) {r : List Nat} {most : Int} (hr : r.length ≤ 1000000) (hm : most ≤ 40) : m_run_token [.str (mk r), .int most] S = .ok (.tup [.str (runTok most r).1, (runTok most r).2]) S := by
  have h1 := in_res S r
  have h3 := run_figures S (most := most) hr
  have z2 := len_ok 2 (by decide)
  unfold m_run_token runTok
  cases q1 : resB r with
  | true =>
    rw [q1] at h1
    simp [x_tV, toB, bin2, M.bind, varM, var, M.pure, cM, M.op2, h1, M.lift, asB, SR.of, SR.bind, SR.out, retM, tupM, z2, consM, nilM]
  | false =>
    rw [q1] at h1
    have h2 := run_name S hr q1
    cases q2 : nameB r with
    | true =>
      rw [q2] at h2
      simp [x_tV, toB, bin2, M.bind, varM, var, M.pure, cM, M.op2, h1, M.lift, asB, SR.of, SR.bind, SR.out, retM, tupM, z2, consM, nilM, callM, h2]
    | false =>
      rw [q2] at h2
      cases q3 : figB most r with
      | true =>
        rw [q3] at h3
        have h4 := int_fig S hm q3
        simp [x_tV, toB, bin2, M.bind, varM, var, M.pure, cM, M.op2, h1, M.lift, asB, SR.of, SR.bind, SR.out, retM, tupM, z2, consM, nilM, callM, h2, ifV, h3, bltM, M.opL, h4]
      | false =>
        rw [q3] at h3
        simp [x_tV, toB, bin2, M.bind, varM, var, M.pure, cM, M.op2, h1, M.lift, asB, SR.of, SR.bind, SR.out, retM, tupM, z2, consM, nilM, callM, h2, ifV, h3, bltM, M.opL]
end PyM
set_option Elab.async false
set_option linter.all false
set_option maxRecDepth 100000
set_option maxHeartbeats 8000000
namespace PyM
open PySem PySem.Spec PyProof.Rows L2 TL
/-! ### the program's tokens -/
abbrev wl (r : List Nat) : List Nat := r.takeWhile lnd
theorem wl_take (r : List Nat) : r.take (wl r).length = wl r := (List.prefix_iff_eq_take.mp (List.takeWhile_prefix lnd)).symm
theorem wl_le (r : List Nat) : (wl r).length ≤ r.length := (List.takeWhile_prefix lnd).length_le
theorem drop_get {l r : List Nat} {e c : Nat} (h : l.drop e = c :: r) : l[e]? = some c ∧ l.drop (e + 1) = r ∧ e < l.length := by
  have hlt : e < l.length := by
    have := congrArg List.length h
    rw [List.length_drop, List.length_cons] at this
    omega
  rw [List.drop_eq_getElem_cons hlt] at h
  injection h with h1 h2
  exact ⟨by rw [List.getElem?_eq_getElem hlt, h1], h2, hlt⟩
theorem lt_ints (S : Store) (i j : Int) : ltP S (.int i) (.int j) = some (.bl (decide (i < j))) := rfl
theorem eor_while {x : Str} (hx : x.length ≤ 1000000) {b : Option D} {S : Store} : ∀ (rest : List Nat) (e : Nat), (tl x).drop e = rest →
    whileS (andM (tV (bin2 ltP (varM 2) (bltM lenP (consM (varM 0) nilM)))) (tV (bin2 inP (bin2 ixP (varM 0) (varM 2)) (bin2 addP (cM c_LETTERS) (cM c_DIGITS))))) (setM 2 (bin2 addP (varM 2) (cM (.int 1)))) (rest.length + 1) [some (.str x), b, some (.int (e : Int))] S =
      .nx [some (.str x), b, some (.int ((e + (wl rest).length : Nat) : Int))] S
  | [], e, h => by
    have hl := List.drop_eq_nil_iff.mp h
    rw [← len_tl] at hl
    have hn : ¬ (e : Int) < (x.length : Int) := by omega
    have hlen := len_str S hx
    unfold whileS
    simp [andM, tV, toB, bin2, M.bind, varM, var, M.pure, bltM, consM, nilM, M.opL, hlen, M.op2, lt_ints, hn, M.lift, asB, SR.of]
  | c :: r, e, h => by
    obtain ⟨h1, h2, h3⟩ := drop_get h
    rw [← len_tl] at h3
    have hn : (e : Int) < (x.length : Int) := by omega
    have hlen := len_str S hx
    have hix := ix_str S hx h1
    have hld := let_dig S
    have hin := in_lnd S c
    rw [List.length_cons]
    unfold whileS
    cases q : lnd c with
    | true =>
      rw [q] at hin
      have ih := eor_while hx (b := b) (S := S) r (e + 1) h2
      have e1 : ((e : Int) + 1) = ((e + 1 : Nat) : Int) := by omega
      have hadd : addP S (.int (e : Int)) (.int 1) = some (.int ((e + 1 : Nat) : Int)) := by rw [add_ints, e1]
      have e2 : (wl (c :: r)).length = (wl r).length + 1 := by rw [wl, List.takeWhile_cons_of_pos q, List.length_cons]
      have e3 : e + (wl (c :: r)).length = e + 1 + (wl r).length := by omega
      rw [e3, ← ih]
      simp only [andM, tV, toB, bin2, M.bind, varM, var, M.pure, bltM, consM, nilM, M.opL, hlen, M.op2, lt_ints, decide_eq_true hn, M.lift, asB, SR.of, cM, hix, hld, hin, hadd, setM, List.getElem?_cons_succ, List.getElem?_cons_zero, if_true, List.set]
    | false =>
      rw [q] at hin
      have e2 : wl (c :: r) = [] := List.takeWhile_cons_of_neg (by rw [q]; decide)
      rw [e2]
      simp only [andM, tV, toB, bin2, M.bind, varM, var, M.pure, bltM, consM, nilM, M.opL, hlen, M.op2, lt_ints, decide_eq_true hn, M.lift, asB, SR.of, cM, hix, hld, hin, setM, List.getElem?_cons_succ, List.getElem?_cons_zero, if_true, List.set, Bool.false_eq_true, if_false, List.length_nil, Nat.add_zero]
theorem eor_run (S : Store) {x : Str} (hx : x.length ≤ 1000000) (b : Nat) : m_end_of_run [.str x, .int (b : Int)] S = .ok (.int ((b + (wl ((tl x).drop b)).length : Nat) : Int)) S := by
  have e := whileM_eq (eor_while hx (b := some (.int (b : Int))) (S := S) _ b rfl) (by simp)
  unfold m_end_of_run
  simp only [x_body, List.map_cons, List.map_nil, List.length_cons, List.length_nil, List.replicate_succ, List.replicate_zero, List.cons_append, List.nil_append, x_seq, x_set, varM, var, List.getElem?_cons_succ, List.getElem?_cons_zero, M.pure, SR.of, List.set, x_sbind_nx, Nat.sub_self, Nat.reduceAdd, Nat.reduceSub]
  rw [e]
  simp [SR.bind, retM, SR.of, varM, var, M.pure, SR.out]
def badT : Str × D × Nat := ("bad", .str "", 0)
def tokAt (most : Int) : List Nat → Str × D × Nat
  | [] => badT
  | c :: r => if c = 10 then ("line", .str "", 1) else if mkB c = true then ("mark", .str (chr c), 1)
    else if c = 45 then (if figB most (wl r) = true ∧ wl r ≠ [48] then ("below", .int (0 - valN (wl r)), 1 + (wl r).length) else badT)
    else if lnd c = true then ((runTok most (wl (c :: r))).1, (runTok most (wl (c :: r))).2, (wl (c :: r)).length) else badT
theorem cut_wl {x : Str} {i : Nat} (h : i ≤ x.length) : cutS x (some (i : Int)) (some ((i + (wl ((tl x).drop i)).length : Nat) : Int)) = mk (wl ((tl x).drop i)) := by
  have hl := wl_le ((tl x).drop i)
  rw [List.length_drop, ← len_tl] at hl
  rw [cut_str x (by omega) (by omega), Nat.add_sub_cancel_left, wl_take]
theorem sub_ints (S : Store) (i j : Int) : subP S (.int i) (.int j) = some (.int (i - j)) := rfl
theorem token_at_run (S : Store) {x : Str} (hx : x.length ≤ 1000000) {b : Nat} {most : Int} (hm : most ≤ 40) {c : Nat} {r : List Nat} (h : (tl x).drop b = c :: r) :
    m_token_at [.str x, .int (b : Int), .int most] S = .ok (.tup [.str (tokAt most (c :: r)).1, (tokAt most (c :: r)).2.1, .int ((b + (tokAt most (c :: r)).2.2 : Nat) : Int)]) S := by
  obtain ⟨h1, h2, h3⟩ := drop_get h
  rw [← len_tl] at h3
  have hs := sizeLine_eq
  have hix := ix_str S hx h1
  have z1 := len_ok 1 (by decide)
  have z2 := len_ok 2 (by decide)
  have z3 := len_ok 3 (by decide)
  have e1 : ((b : Int) + 1) = ((b + 1 : Nat) : Int) := by omega
  have hadd : addP S (.int (b : Int)) (.int 1) = some (.int ((b + 1 : Nat) : Int)) := by rw [add_ints, e1]
  have him : inP S (.str (chr c)) c_MARKS = some (.bl (mkB c)) := in_mark S c
  by_cases c10 : c = 10
  · have q := eq_nl S c
    rw [decide_eq_true c10] at q
    have et : tokAt most (c :: r) = (("line" : Str), D.str "", (1 : Nat)) := by simp [tokAt, c10]
    rw [et]
    unfold m_token_at
    simp only [x_body, List.map_cons, List.map_nil, List.length_cons, List.length_nil, List.replicate_succ, List.replicate_zero, List.cons_append, List.nil_append, Nat.reduceAdd, Nat.reduceSub, x_seq, x_if, x_tV, toB, bin2, M.bind, varM, var, M.pure, cM, M.op2, hix, q, M.lift, asB, SR.of, if_true, retM, tupM, consM, nilM, hadd, z3, SR.bind, SR.out, List.getElem?_cons_succ, List.getElem?_cons_zero]
  have q10 := eq_nl S c
  rw [decide_eq_false c10] at q10
  cases hmk : mkB c with
  | true =>
    rw [hmk] at him
    have et : tokAt most (c :: r) = (("mark" : Str), D.str (chr c), (1 : Nat)) := by simp [tokAt, c10, hmk]
    rw [et]
    unfold m_token_at
    simp only [x_body, List.map_cons, List.map_nil, List.length_cons, List.length_nil, List.replicate_succ, List.replicate_zero, List.cons_append, List.nil_append, Nat.reduceAdd, Nat.reduceSub, x_seq, x_if, x_tV, toB, bin2, M.bind, varM, var, M.pure, cM, M.op2, hix, q10, him, M.lift, asB, SR.of, if_true, Bool.false_eq_true, if_false, x_nil, retM, tupM, consM, nilM, hadd, z3, SR.bind, SR.out, List.getElem?_cons_succ, List.getElem?_cons_zero]
  | false =>
    rw [hmk] at him
    have hl := wl_le ((tl x).drop (b + 1))
    rw [List.length_drop, ← len_tl] at hl
    by_cases c45 : c = 45
    · have q := eq_min S c
      rw [decide_eq_true c45] at q
      have heor := eor_run S hx (b + 1)
      have hcut := cut_wl (x := x) (i := b + 1) (by omega)
      rw [h2] at heor hcut hl
      have hsl := slS_run S hx (some ((b + 1 : Nat) : Int)) (some ((b + 1 + (wl r).length : Nat) : Int))
      rw [hcut] at hsl
      have hfg := run_figures S (r := wl r) (most := most) (by omega)
      have hne : neP S (.str (mk (wl r))) (.str "0") = some (.bl (!decide (wl r = [48]))) := by
        rw [ne_strs]
        congr 3
        exact decide_eq_decide.mpr (mkz _)
      unfold m_token_at
      by_cases hf : figB most (wl r) = true ∧ wl r ≠ [48]
      · have et : tokAt most (c :: r) = (("below" : Str), D.int (0 - valN (wl r)), 1 + (wl r).length) := by simp only [tokAt, if_neg c10, hmk, Bool.false_eq_true, if_false, if_pos c45, if_pos hf]
        rw [et]
        have hint := int_fig S hm hf.1
        rw [hf.1] at hfg
        rw [decide_eq_false hf.2] at hne
        have e3 : b + (1 + (wl r).length) = b + 1 + (wl r).length := by omega
        simp only [x_body, List.map_cons, List.map_nil, List.length_cons, List.length_nil, List.replicate_succ, List.replicate_zero, List.cons_append, List.nil_append, Nat.reduceAdd, Nat.reduceSub, x_seq, x_if, x_tV, toB, bin2, M.bind, varM, var, M.pure, cM, M.op2, hix, q10, him, q, M.lift, asB, SR.of, if_true, Bool.false_eq_true, if_false, x_nil, x_set, retM, tupM, consM, nilM, hadd, z3, SR.bind, SR.out, List.getElem?_cons_succ, List.getElem?_cons_zero, callM, heor, slM, opP, optI, asI, Option.map_some, opS, hsl, List.set, ifV, andM, hfg, hne, Bool.not_false, bltM, M.opL, hint, sub_ints, e3]
      · have et : tokAt most (c :: r) = badT := by simp only [tokAt, if_neg c10, hmk, Bool.false_eq_true, if_false, if_pos c45, if_neg hf]
        rw [et]
        cases q3 : figB most (wl r) with
        | false =>
          rw [q3] at hfg
          simp only [badT, Nat.add_zero, x_body, List.map_cons, List.map_nil, List.length_cons, List.length_nil, List.replicate_succ, List.replicate_zero, List.cons_append, List.nil_append, Nat.reduceAdd, Nat.reduceSub, x_seq, x_if, x_tV, toB, bin2, M.bind, varM, var, M.pure, cM, M.op2, hix, q10, him, q, M.lift, asB, SR.of, if_true, Bool.false_eq_true, if_false, x_nil, x_set, retM, tupM, consM, nilM, hadd, z3, SR.bind, SR.out, List.getElem?_cons_succ, List.getElem?_cons_zero, callM, heor, slM, opP, optI, asI, Option.map_some, opS, hsl, List.set, ifV, andM, hfg]
        | true =>
          rw [q3] at hfg
          have h48 : wl r = [48] := Classical.byContradiction fun z => hf ⟨q3, z⟩
          rw [decide_eq_true h48] at hne
          simp only [badT, Nat.add_zero, x_body, List.map_cons, List.map_nil, List.length_cons, List.length_nil, List.replicate_succ, List.replicate_zero, List.cons_append, List.nil_append, Nat.reduceAdd, Nat.reduceSub, x_seq, x_if, x_tV, toB, bin2, M.bind, varM, var, M.pure, cM, M.op2, hix, q10, him, q, M.lift, asB, SR.of, if_true, Bool.false_eq_true, if_false, x_nil, x_set, retM, tupM, consM, nilM, hadd, z3, SR.bind, SR.out, List.getElem?_cons_succ, List.getElem?_cons_zero, callM, heor, slM, opP, optI, asI, Option.map_some, opS, hsl, List.set, ifV, andM, hfg, hne, Bool.not_true]
    · have q := eq_min S c
      rw [decide_eq_false c45] at q
      have heor := eor_run S hx b
      have hcut := cut_wl (x := x) (i := b) (by omega)
      have hl2 := wl_le (c :: r)
      have hl3 := congrArg List.length h
      rw [List.length_drop, ← len_tl] at hl3
      rw [h] at heor hcut
      have hsl := slS_run S hx (some (b : Int)) (some ((b + (wl (c :: r)).length : Nat) : Int))
      rw [hcut] at hsl
      unfold m_token_at
      cases hln : lnd c with
      | true =>
        have hpos : 0 < (wl (c :: r)).length := by rw [wl, List.takeWhile_cons_of_pos hln]; simp
        have hgt : gtP S (.int ((b + (wl (c :: r)).length : Nat) : Int)) (.int (b : Int)) = some (.bl true) := by
          show some (D.bl (decide ((b : Int) < ((b + (wl (c :: r)).length : Nat) : Int)))) = _
          rw [decide_eq_true (by omega)]
        have hrt := run_token_run S (r := wl (c :: r)) (most := most) (by omega) hm
        have et : tokAt most (c :: r) = ((runTok most (wl (c :: r))).1, (runTok most (wl (c :: r))).2, (wl (c :: r)).length) := by
          simp only [tokAt, if_neg c10, hmk, Bool.false_eq_true, if_false, if_neg c45, hln, if_true]
        have hat : ∀ a b d : D, addP S (.tup [a, b]) (.tup [d]) = some (.tup [a, b, d]) := fun a b d => add_tups S [a, b] [d] z3
        rw [et]
        simp only [x_body, List.map_cons, List.map_nil, List.length_cons, List.length_nil, List.replicate_succ, List.replicate_zero, List.cons_append, List.nil_append, Nat.reduceAdd, Nat.reduceSub, x_seq, x_if, x_tV, toB, bin2, M.bind, varM, var, M.pure, cM, M.op2, hix, q10, him, q, M.lift, asB, SR.of, if_true, Bool.false_eq_true, if_false, x_nil, x_set, retM, tupM, consM, nilM, z1, SR.bind, SR.out, List.getElem?_cons_succ, List.getElem?_cons_zero, callM, heor, slM, opP, optI, asI, Option.map_some, opS, hsl, List.set, ifV, hgt, hrt, hat]
      | false =>
        have hnil : wl (c :: r) = [] := List.takeWhile_cons_of_neg (by rw [hln]; decide)
        have et : tokAt most (c :: r) = badT := by
          simp only [tokAt, if_neg c10, hmk, Bool.false_eq_true, if_false, if_neg c45, hln]
        rw [hnil] at heor
        have hgt : gtP S (.int ((b + 0 : Nat) : Int)) (.int (b : Int)) = some (.bl false) := by
          show some (D.bl (decide ((b : Int) < ((b + 0 : Nat) : Int)))) = _
          rw [decide_eq_false (by omega)]
        rw [et]
        simp only [badT, x_body, List.map_cons, List.map_nil, List.length_cons, List.length_nil, List.replicate_succ, List.replicate_zero, List.cons_append, List.nil_append, Nat.reduceAdd, Nat.reduceSub, x_seq, x_if, x_tV, toB, bin2, M.bind, varM, var, M.pure, cM, M.op2, hix, q10, him, q, M.lift, asB, SR.of, if_true, Bool.false_eq_true, if_false, x_nil, x_set, retM, tupM, consM, nilM, z3, SR.bind, SR.out, List.getElem?_cons_succ, List.getElem?_cons_zero, callM, heor, List.set, ifV, hgt]
        rfl
end PyM
set_option Elab.async false
set_option linter.all false
set_option maxRecDepth 100000
set_option maxHeartbeats 8000000
namespace PyM
open PySem PySem.Spec PyProof.Rows L2 TL
/-! ### the program's tokens, one by one -/
noncomputable def scanT : Env' → M Bool := (tV (bin2 ltP (varM 3) (bltM lenP (consM (varM 0) nilM))))
noncomputable def scanB : MSt := (ifM (tV (bin2 eqP (bin2 ixP (varM 0) (varM 3)) (cM (.str " "))))
  (setM 3 (bin2 addP (varM 3) (cM (.int 1))))
  (seqM (asgM (gT (gs1 (gN 6) (gs1 (gN 7) (gs1 (gN 8) gs0)))) (callM 3 m_token_at (consM (varM 0) (consM (varM 3) (consM (varM 1) nilM)))))
  (seqM (exprM (methM "list" appendP (varM 2) (consM (tupM (consM (varM 6) (consM (varM 7) (consM (varM 4) (consM (bin2 addP (bin2 subP (varM 3) (varM 5)) (cM (.int 1))) nilM))))) nilM)))
  (seqM (ifM (tV (bin2 eqP (varM 6) (cM (.str "bad"))))
  (retM (bltM tupleP (consM (varM 2) nilM)))
  nilS)
  (seqM (setM 3 (varM 8))
  (ifM (tV (bin2 eqP (varM 6) (cM (.str "line"))))
  (parM 4 5 (consM (bin2 addP (varM 4) (cM (.int 1))) (consM (varM 8) nilM)))
  nilS))))))
noncomputable def scanE : MSt := (seqM (exprM (methM "list" appendP (varM 2) (consM (tupM (consM (cM (.str "end")) (consM (cM (.str "")) (consM (varM 4) (consM (bin2 addP (bin2 subP (varM 3) (varM 5)) (cM (.int 1))) nilM))))) nilM)))
  (retM (bltM tupleP (consM (varM 2) nilM))))
abbrev tkD (w : Str) (c : D) (line col : Int) : D := .tup [.str w, c, .int line, .int col]
def scanF (most : Int) : Nat → List Nat → Int → Int → List D
  | _, [], line, col => [tkD "end" (.str "") line (col + 1)]
  | 0, _ :: _, _, _ => []
  | n + 1, c :: r, line, col => if c = 32 then scanF most n r line (col + 1) else
    tkD (tokAt most (c :: r)).1 (tokAt most (c :: r)).2.1 line (col + 1) :: (if (tokAt most (c :: r)).1 = ("bad" : Str) then [] else
      scanF most n ((c :: r).drop (tokAt most (c :: r)).2.2) (if (tokAt most (c :: r)).1 = ("line" : Str) then line + 1 else line) (if (tokAt most (c :: r)).1 = ("line" : Str) then 0 else col + ((tokAt most (c :: r)).2.2 : Int)))
theorem tokAt_cons (most : Int) (c : Nat) (r : List Nat) : tokAt most (c :: r) = if c = 10 then (("line" : Str), D.str "", (1 : Nat)) else if mkB c = true then (("mark" : Str), D.str (chr c), (1 : Nat))
    else if c = 45 then (if figB most (wl r) = true ∧ wl r ≠ [48] then (("below" : Str), D.int (0 - valN (wl r)), 1 + (wl r).length) else badT)
    else if lnd c = true then ((runTok most (wl (c :: r))).1, (runTok most (wl (c :: r))).2, (wl (c :: r)).length) else badT := rfl
/-- a token that is not bad eats some signs -/
theorem tok_eats (most : Int) {c : Nat} {r : List Nat} (h : (tokAt most (c :: r)).1 ≠ ("bad" : Str)) : 1 ≤ (tokAt most (c :: r)).2.2 ∧ (tokAt most (c :: r)).2.2 ≤ (c :: r).length := by
  have l1 := wl_le r
  have l2 := wl_le (c :: r)
  have l3 : (c :: r).length = r.length + 1 := rfl
  have hb : badT.1 = ("bad" : Str) := rfl
  rw [tokAt_cons] at h ⊢
  by_cases h1 : c = 10
  · rw [if_pos h1]; show 1 ≤ 1 ∧ 1 ≤ _; omega
  rw [if_neg h1] at h ⊢
  by_cases h2 : mkB c = true
  · rw [if_pos h2]; show 1 ≤ 1 ∧ 1 ≤ _; omega
  rw [if_neg h2] at h ⊢
  by_cases h3 : c = 45
  · rw [if_pos h3] at h ⊢
    by_cases h4 : figB most (wl r) = true ∧ wl r ≠ [48]
    · rw [if_pos h4]
      show 1 ≤ 1 + (wl r).length ∧ 1 + (wl r).length ≤ _
      omega
    · rw [if_neg h4] at h
      exact absurd hb h
  · rw [if_neg h3] at h ⊢
    by_cases h4 : lnd c = true
    · rw [if_pos h4]
      have : 0 < (wl (c :: r)).length := by rw [wl, List.takeWhile_cons_of_pos h4]; simp
      show 1 ≤ (wl (c :: r)).length ∧ (wl (c :: r)).length ≤ _
      omega
    · rw [if_neg h4] at h
      exact absurd hb h
section
variable {x : Str} {most : Int} {S0 : Store} {n : Nat} {F : List D}
theorem app_last (hn : n = S0.length) (d : D) (hF : F.length ≤ 1000000) : appendP (S0 ++ [.lst F]) (.loc n) [d] = some (.non, S0 ++ [.lst (F ++ [d])]) := by
  have hs := sizeLine_eq
  subst hn
  unfold appendP cellL
  simp
  omega
theorem ty_last (hn : n = S0.length) : tyOk "list" (S0 ++ [.lst F]) (.loc n) = true := by
  subst hn
  unfold tyOk asS asL
  simp
theorem tup_last (hn : n = S0.length) : tupleP (S0 ++ [.lst F]) [.loc n] = some (.tup F) := by
  subst hn
  unfold tupleP asL
  simp
theorem body_blank (S : Store) (hx : x.length ≤ 1000000) {b : Nat} {r : List Nat} (h : (tl x).drop b = 32 :: r) {d1 d2 d4 d5 d6 d7 d8 : Option D} :
    scanB [some (.str x), d1, d2, some (.int (b : Int)), d4, d5, d6, d7, d8] S = .nx [some (.str x), d1, d2, some (.int ((b + 1 : Nat) : Int)), d4, d5, d6, d7, d8] S := by
  obtain ⟨h1, h2, h3⟩ := drop_get h
  have hix := ix_str S hx h1
  have q := eq_bl S 32
  have e1 : ((b : Int) + 1) = ((b + 1 : Nat) : Int) := by omega
  have hadd : addP S (.int (b : Int)) (.int 1) = some (.int ((b + 1 : Nat) : Int)) := by rw [add_ints, e1]
  unfold scanB
  simp only [x_if, x_tV, toB, bin2, M.bind, varM, var, M.pure, cM, M.op2, hix, q, decide_true, M.lift, asB, SR.of, if_true, x_set, hadd, List.getElem?_cons_succ, List.getElem?_cons_zero, List.set]
theorem body_tok (hn : n = S0.length) (hx : x.length ≤ 1000000) (hm : most ≤ 40) (hF : F.length ≤ 1000000) {b : Nat} {c : Nat} {r : List Nat} (h : (tl x).drop b = c :: r) (hc : c ≠ 32) {line first : Int} {d6 d7 d8 : Option D} {w : Str} {cd : D} {k : Nat}
    (ht : tokAt most (c :: r) = (w, cd, k)) :
    scanB [some (.str x), some (.int most), some (.loc n), some (.int (b : Int)), some (.int line), some (.int first), d6, d7, d8] (S0 ++ [.lst F]) =
      if w = ("bad" : Str) then .rt (.tup (F ++ [tkD w cd line ((b : Int) - first + 1)])) (S0 ++ [.lst (F ++ [tkD w cd line ((b : Int) - first + 1)])])
      else .nx [some (.str x), some (.int most), some (.loc n), some (.int ((b + k : Nat) : Int)), some (.int (if w = ("line" : Str) then line + 1 else line)), some (.int (if w = ("line" : Str) then ((b + k : Nat) : Int) else first)), some (.str w), some cd, some (.int ((b + k : Nat) : Int))] (S0 ++ [.lst (F ++ [tkD w cd line ((b : Int) - first + 1)])]) := by
  obtain ⟨h1, h2, h3⟩ := drop_get h
  have hix := ix_str (S0 ++ [.lst F]) hx h1
  have q := eq_bl (S0 ++ [.lst F]) c
  rw [decide_eq_false hc] at q
  have htk := token_at_run (S0 ++ [.lst F]) hx hm h
  rw [ht] at htk
  have happ := app_last hn (tkD w cd line ((b : Int) - first + 1)) hF
  have hty := ty_last (F := F) hn
  have z4 := len_ok 4 (by decide)
  have hbad := eq_strs (S0 ++ [.lst (F ++ [tkD w cd line ((b : Int) - first + 1)])]) w "bad"
  have hlin := eq_strs (S0 ++ [.lst (F ++ [tkD w cd line ((b : Int) - first + 1)])]) w "line"
  have htup := tup_last (F := F ++ [tkD w cd line ((b : Int) - first + 1)]) hn
  unfold scanB
  by_cases w1 : w = ("bad" : Str)
  · rw [if_pos w1]
    rw [decide_eq_true w1] at hbad
    simp only [x_if, x_tV, x_seq, toB, bin2, M.bind, varM, var, M.pure, cM, M.op2, hix, q, M.lift, asB, SR.of, if_true, Bool.false_eq_true, if_false, asgM, callM, consM, nilM, htk, gT, gs1, gs0, gN, Option.bind, SR.opt, SR.bind, exprM, methM, M.guard, hty, tupM, add_ints, sub_ints, List.length_cons, List.length_nil, Nat.reduceAdd, z4, M.opM, happ, hbad, retM, bltM, M.opL, htup, List.getElem?_cons_succ, List.getElem?_cons_zero, List.set]
  · rw [if_neg w1]
    rw [decide_eq_false w1] at hbad
    by_cases w2 : w = ("line" : Str)
    · rw [decide_eq_true w2] at hlin
      rw [if_pos w2, if_pos w2]
      simp only [x_if, x_tV, x_seq, toB, bin2, M.bind, varM, var, M.pure, cM, M.op2, hix, q, M.lift, asB, SR.of, if_true, Bool.false_eq_true, if_false, asgM, callM, consM, nilM, htk, gT, gs1, gs0, gN, Option.bind, SR.opt, SR.bind, exprM, methM, M.guard, hty, tupM, add_ints, sub_ints, List.length_cons, List.length_nil, Nat.reduceAdd, z4, M.opM, happ, hbad, x_nil, x_set, hlin, parM, List.getElem?_cons_succ, List.getElem?_cons_zero, List.set]
    · rw [decide_eq_false w2] at hlin
      rw [if_neg w2, if_neg w2]
      simp only [x_if, x_tV, x_seq, toB, bin2, M.bind, varM, var, M.pure, cM, M.op2, hix, q, M.lift, asB, SR.of, if_true, Bool.false_eq_true, if_false, asgM, callM, consM, nilM, htk, gT, gs1, gs0, gN, Option.bind, SR.opt, SR.bind, exprM, methM, M.guard, hty, tupM, add_ints, sub_ints, List.length_cons, List.length_nil, Nat.reduceAdd, z4, M.opM, happ, hbad, x_nil, x_set, hlin, List.getElem?_cons_succ, List.getElem?_cons_zero, List.set]
end
end PyM
set_option Elab.async false
set_option linter.all false
set_option maxRecDepth 100000
set_option maxHeartbeats 8000000
namespace PyM
open PySem PySem.Spec PyProof.Rows L2 TL
/-! ### the program's tokens, all -/
theorem sr_assoc (r : SR) (m1 m2 : MSt) : SR.bind (SR.bind r m1) m2 = SR.bind r (seqM m1 m2) := by cases r <;> rfl
section
variable {x : Str} {most : Int} {S0 : Store} {n : Nat}
theorem scanF_nil (fuel : Nat) (line col : Int) : scanF most fuel [] line col = [tkD "end" (.str "") line (col + 1)] := by cases fuel <;> rfl
theorem scanF_cons (fuel c : Nat) (r : List Nat) (line col : Int) : scanF most (fuel + 1) (c :: r) line col = if c = 32 then scanF most fuel r line (col + 1) else
    tkD (tokAt most (c :: r)).1 (tokAt most (c :: r)).2.1 line (col + 1) :: (if (tokAt most (c :: r)).1 = ("bad" : Str) then [] else
      scanF most fuel ((c :: r).drop (tokAt most (c :: r)).2.2) (if (tokAt most (c :: r)).1 = ("line" : Str) then line + 1 else line) (if (tokAt most (c :: r)).1 = ("line" : Str) then 0 else col + ((tokAt most (c :: r)).2.2 : Int))) := rfl
theorem scan_end (hn : n = S0.length) {F : List D} (hF : F.length ≤ 1000000) (b : Int) (line first : Int) {d0 d1 d6 d7 d8 : Option D} :
    scanE [d0, d1, some (.loc n), some (.int b), some (.int line), some (.int first), d6, d7, d8] (S0 ++ [.lst F]) = .rt (.tup (F ++ [tkD "end" (.str "") line (b - first + 1)])) (S0 ++ [.lst (F ++ [tkD "end" (.str "") line (b - first + 1)])]) := by
  have z4 := len_ok 4 (by decide)
  have happ := app_last hn (tkD "end" (.str "") line (b - first + 1)) hF
  have hty := ty_last (F := F) hn
  have htup := tup_last (F := F ++ [tkD "end" (.str "") line (b - first + 1)]) hn
  unfold scanE
  simp only [x_seq, bin2, M.bind, varM, var, M.pure, cM, M.op2, M.lift, SR.of, if_true, consM, nilM, SR.bind, exprM, methM, M.guard, hty, tupM, add_ints, sub_ints, List.length_cons, List.length_nil, Nat.reduceAdd, z4, M.opM, happ, retM, bltM, M.opL, htup, List.getElem?_cons_succ, List.getElem?_cons_zero]
theorem scan_while (hn : n = S0.length) (hx : x.length ≤ 1000000) (hm : most ≤ 40) : ∀ (fuel : Nat) (rest : List Nat) (b : Nat) (line first : Int) (F : List D) (d6 d7 d8 : Option D), (tl x).drop b = rest → rest.length ≤ fuel → F.length + fuel ≤ 1000000 → 
    ∃ rr, whileS scanT scanB (fuel + 1) [some (.str x), some (.int most), some (.loc n), some (.int (b : Int)), some (.int line), some (.int first), d6, d7, d8] (S0 ++ [.lst F]) = rr ∧ rr ≠ .bad ∧
      SR.bind rr scanE = .rt (.tup (F ++ scanF most fuel rest line ((b : Int) - first))) (S0 ++ [.lst (F ++ scanF most fuel rest line ((b : Int) - first))])
  | fuel, [], b, line, first, F, d6, d7, d8, h, _, hF => by
    have hl := List.drop_eq_nil_iff.mp h
    rw [← len_tl] at hl
    have hn' : ¬ (b : Int) < (x.length : Int) := by omega
    have hlen := len_str (S0 ++ [.lst F]) hx
    refine ⟨.nx [some (.str x), some (.int most), some (.loc n), some (.int (b : Int)), some (.int line), some (.int first), d6, d7, d8] (S0 ++ [.lst F]), ?_, ?_, ?_⟩
    · unfold whileS scanT
      simp only [tV, toB, bin2, M.bind, varM, var, M.pure, bltM, consM, nilM, M.opL, hlen, M.op2, lt_ints, decide_eq_false hn', M.lift, asB, SR.of, List.getElem?_cons_succ, List.getElem?_cons_zero, Bool.false_eq_true, if_false]
    · simp
    · rw [x_sbind_nx, scan_end hn (by omega), scanF_nil]
  | 0, c :: r, b, line, first, F, d6, d7, d8, h, hr, hF => by
    rw [List.length_cons] at hr
    omega
  | fuel + 1, c :: r, b, line, first, F, d6, d7, d8, h, hr, hF => by
    rw [List.length_cons] at hr
    obtain ⟨h1, h2, h3⟩ := drop_get h
    rw [← len_tl] at h3
    have hlt : (b : Int) < (x.length : Int) := by omega
    have hlen := len_str (S0 ++ [.lst F]) hx
    have ht : scanT [some (.str x), some (.int most), some (.loc n), some (.int (b : Int)), some (.int line), some (.int first), d6, d7, d8] (S0 ++ [.lst F]) = .ok true (S0 ++ [.lst F]) := by
      unfold scanT
      simp only [tV, toB, bin2, M.bind, varM, var, M.pure, bltM, consM, nilM, M.opL, hlen, M.op2, lt_ints, decide_eq_true hlt, M.lift, asB, SR.of, List.getElem?_cons_succ, List.getElem?_cons_zero]
    rw [scanF_cons]
    by_cases c32 : c = 32
    · subst c32
      rw [if_pos rfl]
      obtain ⟨rr, e1, e2, e3⟩ := scan_while hn hx hm fuel r (b + 1) line first F d6 d7 d8 h2 (by omega) (by omega)
      have ec : ((b + 1 : Nat) : Int) - first = (b : Int) - first + 1 := by omega
      rw [ec] at e3
      refine ⟨rr, ?_, e2, e3⟩
      rw [← e1]
      show SR.of (scanT _ _) _ _ = _
      rw [ht]
      simp only [SR.of, if_true]
      rw [body_blank _ hx h]
    · rw [if_neg c32]
      have hb := body_tok hn hx hm (F := F) (by omega) h c32 (line := line) (first := first) (d6 := d6) (d7 := d7) (d8 := d8) (w := (tokAt most (c :: r)).1) (cd := (tokAt most (c :: r)).2.1) (k := (tokAt most (c :: r)).2.2) rfl
      by_cases w1 : (tokAt most (c :: r)).1 = ("bad" : Str)
      · rw [if_pos w1] at hb ⊢
        refine ⟨.rt (.tup (F ++ [tkD (tokAt most (c :: r)).1 (tokAt most (c :: r)).2.1 line ((b : Int) - first + 1)])) (S0 ++ [.lst (F ++ [tkD (tokAt most (c :: r)).1 (tokAt most (c :: r)).2.1 line ((b : Int) - first + 1)])]), ?_, ?_, ?_⟩
        · show SR.of (scanT _ _) _ _ = _
          rw [ht]
          simp only [SR.of, if_true]
          rw [hb]
        · simp
        · rfl
      · obtain ⟨k1, k2⟩ := tok_eats most w1
        rw [List.length_cons] at k2
        rw [if_neg w1] at hb ⊢
        have hd : (tl x).drop (b + (tokAt most (c :: r)).2.2) = (c :: r).drop (tokAt most (c :: r)).2.2 := by rw [← List.drop_drop, h]
        generalize (tokAt most (c :: r)).2.2 = k at *
        generalize (tokAt most (c :: r)).2.1 = cd at *
        generalize (tokAt most (c :: r)).1 = w at *
        obtain ⟨rr, e1, e2, e3⟩ := scan_while hn hx hm fuel ((c :: r).drop k) (b + k) (if w = ("line" : Str) then line + 1 else line) (if w = ("line" : Str) then ((b + k : Nat) : Int) else first) (F ++ [tkD w cd line ((b : Int) - first + 1)]) (some (.str w)) (some cd) (some (.int ((b + k : Nat) : Int))) hd (by rw [List.length_drop, List.length_cons]; omega) (by rw [List.length_append, List.length_singleton]; omega)
        have ec : ((b + k : Nat) : Int) - (if w = ("line" : Str) then ((b + k : Nat) : Int) else first) = if w = ("line" : Str) then 0 else (b : Int) - first + (k : Int) := by
          split <;> omega
        rw [ec, List.append_assoc, List.singleton_append] at e3
        refine ⟨rr, ?_, e2, e3⟩
        rw [← e1]
        show SR.of (scanT _ _) _ _ = _
        rw [ht]
        simp only [SR.of, if_true]
        rw [hb]
end
theorem scanned_run (S : Store) {x : Str} (hx : x.length ≤ 100000) {most : Int} (hm : most ≤ 40) : m_scanned [.str x, .int most] S = .ok (.tup (scanF most x.length (tl x) 1 0)) (S ++ [.lst (scanF most x.length (tl x) 1 0)]) := by
  obtain ⟨rr, e1, e2, e3⟩ := scan_while (x := x) (most := most) (S0 := S) (n := S.length) rfl (by omega) hm x.length (tl x) 0 1 0 [] none none none rfl (by rw [← len_tl]; exact Nat.le_refl _) (by simp; omega)
  have ew := whileM_eq e1 e2
  have z0 := len_ok 0 (by decide)
  have z3 := len_ok 3 (by decide)
  unfold m_scanned
  have e4 : SR.bind (SR.bind (setM 2 (cellM nilM) [some (.str x), some (.int most), none, none, none, none, none, none, none] S) (asgM (gT (gs1 (gN 3) (gs1 (gN 4) (gs1 (gN 5) gs0)))) (tupM (consM (cM (.int 0)) (consM (cM (.int 1)) (consM (cM (.int 0)) nilM)))))) (seqM (whileM scanT scanB) scanE) = .rt (.tup (scanF most x.length (tl x) 1 0)) (S ++ [.lst (scanF most x.length (tl x) 1 0)]) := by
    have e5 : SR.bind (setM 2 (cellM nilM) [some (.str x), some (.int most), none, none, none, none, none, none, none] S) (asgM (gT (gs1 (gN 3) (gs1 (gN 4) (gs1 (gN 5) gs0)))) (tupM (consM (cM (.int 0)) (consM (cM (.int 1)) (consM (cM (.int 0)) nilM))))) =
        .nx [some (.str x), some (.int most), some (.loc S.length), some (.int ((0 : Nat) : Int)), some (.int 1), some (.int 0), none, none, none] (S ++ [.lst []]) := by
      simp only [x_set, cellM, nilM, M.bind, M.pure, newCell, List.length_nil, z0, if_true, SR.of, x_sbind_nx, asgM, tupM, consM, cM, List.length_cons, Nat.reduceAdd, z3, gT, gs1, gs0, gN, Option.bind, SR.opt, List.set, SR.bind]
      rfl
    rw [e5, x_sbind_nx, x_seq, ew]
    exact e3
  rw [x_body]
  show (SR.bind _ _).out = _
  rw [sr_assoc] at e4
  exact congrArg SR.out e4
theorem is_index_int (S : Store) (f : Int) : m_is_index [.int f] S = .ok (.bl (decide (0 ≤ f))) S := by
  unfold m_is_index
  simp [andV, toB, M.bind, callM, consM, nilM, varM, var, M.pure, is_number_int, M.lift, asB, bin2, M.op2, geP, cM, retM, SR.of, SR.out]
theorem tokens_run (S : Store) {x : Str} (hx : x.length ≤ 6000) {f : Int} (h0 : 0 ≤ f) (hf : f ≤ 40) : m_tokens [.str x, .int f] S = .ok (.tup (scanF f x.length (tl x) 1 0)) (S ++ [.lst (scanF f x.length (tl x) 1 0)]) := by
  have e1 : c_MOST_ASKED = .int 40 := rfl
  have e2 : c_MOST_SIGNS = .int 6000 := rfl
  have g1 : gtP S (.int f) (.int 40) = some (.bl false) := by show some (D.bl (decide ((40 : Int) < f))) = _; rw [decide_eq_false (by omega)]
  have g2 : gtP S (.int (x.length : Int)) (.int 6000) = some (.bl false) := by show some (D.bl (decide ((6000 : Int) < (x.length : Int)))) = _; rw [decide_eq_false (by omega)]
  have hlen := len_str S (x := x) (by omega)
  have hi := is_index_int S f
  rw [decide_eq_true h0] at hi
  have hs := scanned_run S (x := x) (by omega) hf
  have ht : isiP S [.str x, .ty "str"] = some (.bl true) := by
    unfold isiP
    simp [tyName, k_str_str]
  unfold m_tokens
  simp only [x_body, List.map_cons, List.map_nil, List.length_cons, List.length_nil, List.replicate_succ, List.replicate_zero, List.cons_append, List.nil_append, Nat.reduceAdd, Nat.sub_self, x_seq, x_if, x_tV, toB, bin2, M.bind, varM, var, M.pure, cM, M.op2, M.lift, asB, SR.of, if_true, Bool.false_eq_true, if_false, x_nil, retM, consM, nilM, SR.bind, SR.out, List.getElem?_cons_succ, List.getElem?_cons_zero, callM, orM, notT, bltM, M.opL, ht, Bool.not_true, hi, e1, g1, hlen, e2, g2, hs]
end PyM
set_option Elab.async false
set_option linter.all false
set_option maxRecDepth 100000
set_option maxHeartbeats 8000000
namespace PyM
open PySem PySem.Spec PyProof.Rows L2 TL
/-! ### the law's runs: windows of signs -/
noncomputable def wndM : MSt := (setM 10 (ifV (andM (tV (bin2 leP (varM 13) (bltM maxP (consM (varM 10) (consM (varM 12) nilM))))) (tV (bin2 inP (bin2 ixP (varM 0) (varM 13)) (varM 4)))) (bin2 addP (varM 13) (cM (.int 1))) (varM 10)))
noncomputable def wsrcM : Env' → M Src := (rngI2 (consM (varM 12) (consM (bltM minP (consM (bltM lenP (consM (varM 0) nilM)) (consM (bin2 addP (varM 8) (cM (.int 50))) nilM))) nilM)))
noncomputable def s12M : MSt := (setM 12 (ifV (tV (bin2 eqP (varM 9) (cM (.str "-")))) (bin2 addP (varM 8) (cM (.int 1))) (varM 8)))
noncomputable def s14M : MSt := (setM 14 (slM (varM 0) (opP (varM 12)) (opP (varM 10))))
noncomputable def s15M : MSt := (setM 15 (andV (bin2 neP (varM 14) (cM (.str ""))) (andV (bin2 eqP (lcM (seqI (varM 14)) (gN 17) (tV (bin2 ninP (varM 17) (slM (varM 4) (opP (cM (.int 26))) noP))) (varM 17) [17]) (lstM nilM)) (andV (orV (bin2 eqP (varM 14) (cM (.str "0"))) (bin2 neP (bin2 ixP (varM 14) (cM (.int 0))) (cM (.str "0")))) (bin2 leP (bltM lenP (consM (varM 14) nilM)) (varM 1))))))
noncomputable def s16M : MSt := (setM 16 (andV (chain2 leP leP (cM (.int 1)) (bltM lenP (consM (varM 14) nilM)) (cM (.int 8))) (andV (bin2 inP (bin2 ixP (varM 14) (cM (.int 0))) (slM (varM 4) noP (opP (cM (.int 26))))) (bin2 eqP (lcM (seqI (varM 14)) (gN 17) (tV (bin2 ninP (varM 17) (varM 4))) (varM 17) [17]) (lstM nilM)))))
noncomputable def tokM : MSt := (ifM (tV (bin2 eqP (varM 9) (cM (.str "-"))))
  (exprM (methM "list" appendP (varM 5) (consM (bin2 addP (ifV (andM (tV (varM 15)) (tV (bin2 neP (varM 14) (cM (.str "0"))))) (tupM (consM (cM (.str "below")) (consM (bin2 subP (cM (.int 0)) (bltM intP2 (consM (varM 14) nilM))) nilM))) (tupM (consM (cM (.str "bad")) (consM (cM (.str "")) nilM)))) (varM 11)) nilM)))
  (exprM (methM "list" appendP (varM 5) (consM (bin2 addP (ifV (tV (bin2 inP (varM 14) (methM "str" splitP (varM 2) (consM (cM (.str " ")) nilM)))) (tupM (consM (cM (.str "key")) (consM (varM 14) nilM))) (ifV (tV (varM 16)) (tupM (consM (cM (.str "name")) (consM (varM 14) nilM))) (ifV (tV (varM 15)) (tupM (consM (cM (.str "number")) (consM (bltM intP2 (consM (varM 14) nilM)) nilM))) (tupM (consM (cM (.str "bad")) (consM (cM (.str "")) nilM)))))) (varM 11)) nilM))))
noncomputable def badM' : MSt := (ifM (tV (bin2 eqP (bin2 ixP (bin2 ixP (varM 5) (un1 negP (cM (.int 1)))) (cM (.int 0))) (cM (.str "bad"))))
  (retM (varM 5))
  nilS)
noncomputable def runW : MSt := (seqM s12M (seqM (forM wsrcM (gN 13) wndM) (seqM s14M (seqM s15M (seqM s16M (seqM tokM badM'))))))
theorem runW_eq : runW = (seqM (setM 12 (ifV (tV (bin2 eqP (varM 9) (cM (.str "-")))) (bin2 addP (varM 8) (cM (.int 1))) (varM 8)))
  (seqM (forM (rngI2 (consM (varM 12) (consM (bltM minP (consM (bltM lenP (consM (varM 0) nilM)) (consM (bin2 addP (varM 8) (cM (.int 50))) nilM))) nilM))) (gN 13)
  (setM 10 (ifV (andM (tV (bin2 leP (varM 13) (bltM maxP (consM (varM 10) (consM (varM 12) nilM))))) (tV (bin2 inP (bin2 ixP (varM 0) (varM 13)) (varM 4)))) (bin2 addP (varM 13) (cM (.int 1))) (varM 10))))
  (seqM (setM 14 (slM (varM 0) (opP (varM 12)) (opP (varM 10))))
  (seqM (setM 15 (andV (bin2 neP (varM 14) (cM (.str ""))) (andV (bin2 eqP (lcM (seqI (varM 14)) (gN 17) (tV (bin2 ninP (varM 17) (slM (varM 4) (opP (cM (.int 26))) noP))) (varM 17) [17]) (lstM nilM)) (andV (orV (bin2 eqP (varM 14) (cM (.str "0"))) (bin2 neP (bin2 ixP (varM 14) (cM (.int 0))) (cM (.str "0")))) (bin2 leP (bltM lenP (consM (varM 14) nilM)) (varM 1))))))
  (seqM (setM 16 (andV (chain2 leP leP (cM (.int 1)) (bltM lenP (consM (varM 14) nilM)) (cM (.int 8))) (andV (bin2 inP (bin2 ixP (varM 14) (cM (.int 0))) (slM (varM 4) noP (opP (cM (.int 26))))) (bin2 eqP (lcM (seqI (varM 14)) (gN 17) (tV (bin2 ninP (varM 17) (varM 4))) (varM 17) [17]) (lstM nilM)))))
  (seqM (ifM (tV (bin2 eqP (varM 9) (cM (.str "-"))))
  (exprM (methM "list" appendP (varM 5) (consM (bin2 addP (ifV (andM (tV (varM 15)) (tV (bin2 neP (varM 14) (cM (.str "0"))))) (tupM (consM (cM (.str "below")) (consM (bin2 subP (cM (.int 0)) (bltM intP2 (consM (varM 14) nilM))) nilM))) (tupM (consM (cM (.str "bad")) (consM (cM (.str "")) nilM)))) (varM 11)) nilM)))
  (exprM (methM "list" appendP (varM 5) (consM (bin2 addP (ifV (tV (bin2 inP (varM 14) (methM "str" splitP (varM 2) (consM (cM (.str " ")) nilM)))) (tupM (consM (cM (.str "key")) (consM (varM 14) nilM))) (ifV (tV (varM 16)) (tupM (consM (cM (.str "name")) (consM (varM 14) nilM))) (ifV (tV (varM 15)) (tupM (consM (cM (.str "number")) (consM (bltM intP2 (consM (varM 14) nilM)) nilM))) (tupM (consM (cM (.str "bad")) (consM (cM (.str "")) nilM)))))) (varM 11)) nilM))))
  (ifM (tV (bin2 eqP (bin2 ixP (bin2 ixP (varM 5) (un1 negP (cM (.int 1)))) (cM (.int 0))) (cM (.str "bad"))))
  (retM (varM 5))
  nilS))))))) := rfl
noncomputable def runB : MSt := (seqM (ifM (tV (bin2 geP (varM 8) (bltM lenP (consM (varM 0) nilM))))
  ctM
  nilS)
  (seqM (par3M 9 10 11 (consM (bin2 ixP (varM 0) (varM 8)) (consM (bin2 addP (varM 8) (cM (.int 1))) (consM (tupM (consM (varM 6) (consM (bin2 addP (bin2 subP (varM 8) (varM 7)) (cM (.int 1))) nilM))) nilM))))
  (seqM (ifM (tV (bin2 eqP (varM 9) (cM (.str "
"))))
  (seqM (exprM (methM "list" appendP (varM 5) (consM (bin2 addP (tupM (consM (cM (.str "line")) (consM (cM (.str "")) nilM))) (varM 11)) nilM)))
  (parM 6 7 (consM (bin2 addP (varM 6) (cM (.int 1))) (consM (bin2 addP (varM 8) (cM (.int 1))) nilM))))
  (ifM (tV (bin2 inP (varM 9) (cM (.str "(),"))))
  (exprM (methM "list" appendP (varM 5) (consM (bin2 addP (tupM (consM (cM (.str "mark")) (consM (varM 9) nilM))) (varM 11)) nilM)))
  (ifM (tV (bin2 neP (varM 9) (cM (.str " "))))
  runW
  nilS)))
  (setM 8 (varM 10)))))
noncomputable def runE : MSt := (retM (bin2 addP (varM 5) (lstM (consM (tupM (consM (cM (.str "end")) (consM (cM (.str "")) (consM (varM 6) (consM (bin2 addP (bin2 subP (bltM lenP (consM (varM 0) nilM)) (varM 7)) (cM (.int 1))) nilM))))) nilM))))
noncomputable def runA : MSt := (asgM (gT (gs1 (gN 4) (gs1 (gN 5) (gs1 (gN 6) (gs1 (gN 7) (gs1 (gN 8) gs0)))))) (tupM (consM (cM (.str "abcdefghijklmnopqrstuvwxyz0123456789")) (consM (cellM nilM) (consM (cM (.int 1)) (consM (cM (.int 0)) (consM (cM (.int 0)) nilM)))))))
def wordsT : Str := "barred deed down each else ends from full greatest half if is least less money packs plus reaches share shown standing then to until up"
abbrev signsT : Str := "abcdefghijklmnopqrstuvwxyz0123456789"
theorem tw_take : ∀ (l : List Nat) (k : Nat), (l.take k).takeWhile lnd = (wl l).take k
  | [], k => by simp
  | c :: l, 0 => rfl
  | c :: l, k + 1 => by
    rw [List.take_succ_cons]
    cases q : lnd c with
    | true => rw [wl, List.takeWhile_cons_of_pos q, List.takeWhile_cons_of_pos q, List.take_succ_cons, tw_take l k]
    | false => rw [wl, List.takeWhile_cons_of_neg (by rw [q]; decide), List.takeWhile_cons_of_neg (by rw [q]; decide)]; rfl
theorem res_len {r : List Nat} (h : resB r = true) : r.length ≤ 8 := by
  have hm : mk r ∈ resL := of_decide_eq_true h
  have ha : resL.all (fun w => decide (w.length ≤ 8)) = true := by decide +kernel
  have := of_decide_eq_true (List.all_eq_true.mp ha _ hm)
  rw [mk_len] at this
  exact this
theorem res_lnd {r : List Nat} (h : resB r = true) : r.all lnd = true ∧ r ≠ [] := by
  have hm : mk r ∈ resL := of_decide_eq_true h
  have ha : resL.all (fun w => (tl w).all lnd && !(tl w).isEmpty) = true := by decide +kernel
  have := List.all_eq_true.mp ha _ hm
  rw [tl_mk, Bool.and_eq_true] at this
  exact ⟨this.1, fun z => by rw [z] at this; exact absurd this.2 (by decide)⟩
theorem runTok_long {most : Int} (hm : most ≤ 40) {r : List Nat} (h : 41 ≤ r.length) : runTok most r = (("bad" : Str), D.str "") := by
  have h1 : resB r = false := by
    cases q : resB r with
    | false => rfl
    | true => have := res_len q; omega
  have h2 : nameB r = false := by
    unfold nameB
    rw [decide_eq_false (by omega)]
    rfl
  have h3 : figB most r = false := by
    unfold figB
    rw [decide_eq_false (p := 1 ≤ r.length ∧ (r.length : Int) ≤ most) (by omega)]
    simp
  unfold runTok
  rw [h1, h2, h3]
  rfl
theorem figB_long {most : Int} (hm : most ≤ 40) {r : List Nat} (h : 41 ≤ r.length) : figB most r = false := by
  unfold figB
  rw [decide_eq_false (p := 1 ≤ r.length ∧ (r.length : Int) ≤ most) (by omega)]
  simp
theorem runTok_odd {most : Int} {c : Nat} {r : List Nat} (h : lnd c = false) : runTok most (c :: r) = (("bad" : Str), D.str "") := by
  have hl : letB c = false ∧ dgB c = false := by
    unfold lnd at h
    rw [Bool.or_eq_false_iff] at h
    exact h
  have h1 : resB (c :: r) = false := by
    cases q : resB (c :: r) with
    | false => rfl
    | true =>
      have := (res_lnd q).1
      rw [List.all_cons, h] at this
      exact absurd this (by simp)
  have h2 : nameB (c :: r) = false := by
    unfold nameB
    rw [List.headD_cons, hl.1]
    simp
  have h3 : figB most (c :: r) = false := by
    unfold figB
    rw [List.all_cons, hl.2]
    rfl
  unfold runTok
  rw [h1, h2, h3]
  rfl
/-- the window's cut changes no token -/
theorem runTok_cut {most : Int} (hm : most ≤ 40) (r : List Nat) {k : Nat} (hk : 41 ≤ k) : runTok most (r.take k) = runTok most r := by
  by_cases h : r.length ≤ k
  · rw [List.take_of_length_le h]
  · rw [runTok_long hm (by rw [List.length_take]; omega), runTok_long hm (by omega)]
theorem figB_cut {most : Int} (hm : most ≤ 40) (r : List Nat) {k : Nat} (hk : 41 ≤ k) : figB most (r.take k) = figB most r ∧ (figB most r = true → r.take k = r) := by
  by_cases h : r.length ≤ k
  · rw [List.take_of_length_le h]
    exact ⟨rfl, fun _ => rfl⟩
  · rw [figB_long hm (by rw [List.length_take]; omega), figB_long hm (r := r) (by omega)]
    exact ⟨rfl, fun z => absurd z (by decide)⟩
/-! the walk of the window -/
theorem runs_body (ds : List D) (S : Store) : m__law_runs ds S = bodyM 18 (seqM (setM 2 (cM (.str wordsT))) (seqM runA (seqM (forM (rngI1 (consM (bltM lenP (consM (varM 0) nilM)) nilM)) (gN 3) runB) runE))) ds S := rfl
abbrev RV (x : Str) (f : Int) (n : Nat) (line first at' : Int) (d3 d9 : Option D) (e : Int) (d11 : Option D) (d12 d13 d14 d15 d16 d17 : Option D) : Env' :=
  [some (.str x), some (.int f), some (.str wordsT), d3, some (.str signsT), some (.loc n), some (.int line), some (.int first), some (.int at'), d9, some (.int e), d11, d12, d13, d14, d15, d16, d17]
def itN : Nat → Nat → List D
  | _, 0 => []
  | j, k + 1 => .int (j : Int) :: itN (j + 1) k
theorem it_range : ∀ (k j : Nat), (List.range k).map (fun (i : Nat) => D.int ((j : Int) + i)) = itN j k
  | 0, _ => rfl
  | k + 1, j => by
    rw [List.range_succ_eq_map, List.map_cons, List.map_map]
    show _ :: _ = D.int (j : Int) :: itN (j + 1) k
    rw [← it_range k (j + 1)]
    have h0 : (j : Int) + ((0 : Nat) : Int) = (j : Int) := by omega
    rw [h0]
    congr 1
    refine List.map_congr_left fun i _ => ?_
    show D.int ((j : Int) + ((i + 1 : Nat) : Int)) = D.int (((j + 1 : Nat) : Int) + (i : Int))
    have : (j : Int) + ((i + 1 : Nat) : Int) = ((j + 1 : Nat) : Int) + (i : Int) := by omega
    rw [this]
theorem srcR_it (j k : Nat) : (srcR (j : Int) ((j + k : Nat) : Int)).items = itN j k := by
  rw [← it_range]
  unfold srcR
  have : (((j + k : Nat) : Int) - (j : Int)).toNat = k := by omega
  simp only [this]
section
variable {x : Str} {f line first at' : Int} {n : Nat} {d3 d9 d11 d14 d15 d16 d17 : Option D} {S : Store}
theorem max_ints (S : Store) (i j : Int) : maxP S [.int i, .int j] = some (.int (max i j)) := by
  unfold maxP
  simp only
  congr 2
  split <;> omega
theorem le_ints (S : Store) (i j : Int) : leP S (.int i) (.int j) = some (.bl (decide (i ≤ j))) := rfl
theorem wnd_out {e b m : Int} (h : max e b < m) : wndM (RV x f n line first at' d3 d9 e d11 (some (.int b)) (some (.int m)) d14 d15 d16 d17) S = .nx (RV x f n line first at' d3 d9 e d11 (some (.int b)) (some (.int m)) d14 d15 d16 d17) S := by
  have hn : ¬ m ≤ max e b := by omega
  unfold wndM
  simp only [x_set, ifV, andM, x_tV, toB, bin2, M.bind, varM, var, M.pure, cM, M.op2, bltM, consM, nilM, M.opL, max_ints, le_ints, decide_eq_false hn, M.lift, asB, SR.of, if_true, Bool.false_eq_true, if_false, List.getElem?_cons_succ, List.getElem?_cons_zero, List.set]
theorem wnd_in (hx : x.length ≤ 1000000) {e b : Int} {j c : Nat} (h : (j : Int) ≤ max e b) (hj : (tl x)[j]? = some c) : wndM (RV x f n line first at' d3 d9 e d11 (some (.int b)) (some (.int (j : Int))) d14 d15 d16 d17) S =
    .nx (RV x f n line first at' d3 d9 (if lnd c = true then ((j + 1 : Nat) : Int) else e) d11 (some (.int b)) (some (.int (j : Int))) d14 d15 d16 d17) S := by
  have hix := ix_str S hx hj
  have hin := in_lnd S c
  have e1 : ((j : Int) + 1) = ((j + 1 : Nat) : Int) := by omega
  have hadd : addP S (.int (j : Int)) (.int 1) = some (.int ((j + 1 : Nat) : Int)) := by rw [add_ints, e1]
  unfold wndM
  cases q : lnd c with
  | true =>
    rw [q] at hin
    simp only [x_set, ifV, andM, x_tV, toB, bin2, M.bind, varM, var, M.pure, cM, M.op2, bltM, consM, nilM, M.opL, max_ints, le_ints, decide_eq_true h, M.lift, asB, SR.of, if_true, hix, hin, hadd, List.getElem?_cons_succ, List.getElem?_cons_zero, List.set]
  | false =>
    rw [q] at hin
    simp only [x_set, ifV, andM, x_tV, toB, bin2, M.bind, varM, var, M.pure, cM, M.op2, bltM, consM, nilM, M.opL, max_ints, le_ints, decide_eq_true h, M.lift, asB, SR.of, if_true, Bool.false_eq_true, if_false, hix, hin, hadd, List.getElem?_cons_succ, List.getElem?_cons_zero, List.set]
theorem wnd_stop {e b : Int} : ∀ (k j : Nat) (d13 : Option D), max e b < (j : Int) → ∃ d13', loopS (fun _ => true) (gN 13) wndM (itN j k) (RV x f n line first at' d3 d9 e d11 (some (.int b)) d13 d14 d15 d16 d17) S = .nx (RV x f n line first at' d3 d9 e d11 (some (.int b)) d13' d14 d15 d16 d17) S
  | 0, j, d13, _ => ⟨d13, rfl⟩
  | k + 1, j, d13, h => by
    obtain ⟨d13', ih⟩ := wnd_stop (e := e) (b := b) k (j + 1) (some (.int (j : Int))) (by omega)
    refine ⟨d13', ?_⟩
    rw [← ih]
    unfold itN loopS
    simp only [gN, List.set, if_true]
    rw [wnd_out h]
    cases k <;> rfl
/-- as long as the signs go on -/
theorem wnd_run (hx : x.length ≤ 1000000) {b : Int} : ∀ (k j : Nat) (d13 : Option D), b ≤ (j : Int) → j + k ≤ x.length →
    ∃ d13', loopS (fun _ => true) (gN 13) wndM (itN j k) (RV x f n line first at' d3 d9 (j : Int) d11 (some (.int b)) d13 d14 d15 d16 d17) S =
      .nx (RV x f n line first at' d3 d9 ((j + ((wl ((tl x).drop j)).take k).length : Nat) : Int) d11 (some (.int b)) d13' d14 d15 d16 d17) S
  | 0, j, d13, _, _ => ⟨d13, by rw [List.take_zero]; rfl⟩
  | k + 1, j, d13, hb, hk => by
    have hlt : j < (tl x).length := by rw [← len_tl]; omega
    have hd : (tl x).drop j = (tl x)[j] :: (tl x).drop (j + 1) := List.drop_eq_getElem_cons hlt
    have hj : (tl x)[j]? = some (tl x)[j] := List.getElem?_eq_getElem hlt
    rw [hd]
    generalize (tl x)[j] = c at *
    have st := wnd_in (x := x) (f := f) (n := n) (line := line) (first := first) (at' := at') (d3 := d3) (d9 := d9) (d11 := d11) (d14 := d14) (d15 := d15) (d16 := d16) (d17 := d17) (S := S) hx (e := (j : Int)) (b := b) (by omega) hj
    cases q : lnd c with
    | true =>
      rw [q, if_pos rfl] at st
      obtain ⟨d13', ih⟩ := wnd_run hx (b := b) k (j + 1) (some (.int (j : Int))) (by omega) (by omega)
      refine ⟨d13', ?_⟩
      have e : j + ((wl (c :: (tl x).drop (j + 1))).take (k + 1)).length = j + 1 + ((wl ((tl x).drop (j + 1))).take k).length := by
        show j + (((c :: (tl x).drop (j + 1)).takeWhile lnd).take (k + 1)).length = j + 1 + ((((tl x).drop (j + 1)).takeWhile lnd).take k).length
        rw [List.takeWhile_cons_of_pos q, List.take_succ_cons, List.length_cons]
        omega
      rw [e, ← ih]
      unfold itN loopS
      simp only [gN, List.set, if_true]
      rw [st]
      cases k <;> rfl
    | false =>
      rw [q] at st
      simp only [Bool.false_eq_true, if_false] at st
      obtain ⟨d13', ih⟩ := wnd_stop (x := x) (f := f) (n := n) (line := line) (first := first) (at' := at') (d3 := d3) (d9 := d9) (d11 := d11) (d14 := d14) (d15 := d15) (d16 := d16) (d17 := d17) (S := S) (e := (j : Int)) (b := b) k (j + 1) (some (.int (j : Int))) (by omega)
      refine ⟨d13', ?_⟩
      have e : ((wl (c :: (tl x).drop (j + 1))).take (k + 1)) = [] := by
        rw [wl, List.takeWhile_cons_of_neg (by rw [q]; decide)]
        rfl
      rw [e, List.length_nil]
      have e0 : ((j + 0 : Nat) : Int) = (j : Int) := by omega
      rw [e0, ← ih]
      unfold itN loopS
      simp only [gN, List.set, if_true]
      rw [st]
      cases k <;> rfl
end
end PyM
set_option Elab.async false
set_option linter.all false
set_option maxRecDepth 100000
set_option maxHeartbeats 8000000
namespace PyM
open PySem PySem.Spec PyProof.Rows L2 TL
/-! ### the law's runs: figures, names -/
theorem cut26 : cutS signsT (some 26) none = "0123456789" := by decide +kernel
theorem cut_26 : cutS signsT none (some 26) = "abcdefghijklmnopqrstuvwxyz" := by decide +kernel
section
variable {x : Str} {f line first at' e : Int} {n : Nat} {d3 d9 d11 d12 d13 d15 d16 d17 : Option D} {S : Store} {r : List Nat}
theorem lc_val {mt : Env' → M Bool} {g : Nat → Bool} {ρ : Env'} (hr : r.length ≤ 1000000) (hv : ρ[14]? = some (some (.str (mk r)))) (h : ∀ c, (wipeE ρ [17]).set 17 (some (.str (chr c))) = (wipeE ρ [17]).set 17 (some (.str (chr c))) → mt ((wipeE ρ [17]).set 17 (some (.str (chr c)))) S = .ok (g c) S) (h17 : ∀ c, ((wipeE ρ [17]).set 17 (some (.str (chr c))))[17]? = some (some (.str (chr c)))) :
    lcM (seqI (varM 14)) (gN 17) mt (varM 17) [17] ρ S = .ok (.lst (((r.filter g).map chr).map .str)) S := by
  have hs := sizeLine_eq
  have q := lc_signs (i := 17) (mt := mt) (me := varM 17) (ρ := wipeE ρ [17]) (S := S) (f := g) r (fun c _ => ⟨_, rfl, h c rfl, by simp [varM, var, h17, M.pure]⟩)
  have hl : (r.filter g).length ≤ sizeLine := by have := List.length_filter_le g r; omega
  simp [lcM, lcI, seqI, M.bind, varM, var, hv, M.pure, src_mk, q, hl, Function.comp_def]
theorem eq_filter (S : Store) (hg : Sg r) (g : Nat → Bool) : eqP S (.lst (((r.filter g).map chr).map .str)) (.lst []) = some (.bl (r.all fun c => !g c)) := by
  rw [eq_strs_nil S (fun y hy => by
    obtain ⟨c, hc, rfl⟩ := List.mem_map.mp hy
    have := hg c (List.mem_filter.mp hc).1
    unfold PyData.strOk
    simp
    omega)]
  congr 2
  induction r with
  | nil => rfl
  | cons c r ih =>
    have ih := ih fun d hd => hg d (by simp [hd])
    rw [List.filter_cons, List.all_cons]
    cases g c with
    | true => rfl
    | false => exact ih
theorem fig_step (hr : r.length ≤ 1000000) (hg : Sg r) : s15M (RV x f n line first at' d3 d9 e d11 d12 d13 (some (.str (mk r))) d15 d16 d17) S = .nx (RV x f n line first at' d3 d9 e d11 d12 d13 (some (.str (mk r))) (some (.bl (figB f r))) d16 d17) S := by
  have hsl := slS_run S (x := signsT) (by decide) (some 26) none
  rw [cut26] at hsl
  have z0 := len_ok 0 (by decide)
  have hl := lc_val (S := S) (ρ := RV x f n line first at' d3 d9 e d11 d12 d13 (some (.str (mk r))) d15 d16 d17) (mt := tV (bin2 ninP (varM 17) (slM (varM 4) (opP (cM (.int 26))) noP))) (g := fun c => !dgB c) hr rfl (fun c _ => by
    have hn : ninP S (.str (chr c)) (.str "0123456789") = some (.bl (!dgB c)) := by rw [← dig_mem]; rfl
    simp [wipeE, tV, toB, bin2, M.bind, varM, var, M.pure, slM, opP, noP, optI, asI, opS, cM, M.lift, hsl, M.op2, hn, asB]) (fun c => by simp [wipeE])
  have he := eq_filter S hg (fun c => !dgB c)
  simp only [Bool.not_not] at he
  have hlen := len_str S (x := mk r) (by rw [mk_len]; exact hr)
  rw [mk_len] at hlen
  unfold s15M
  generalize lcM (seqI (varM 14)) (gN 17) (tV (bin2 ninP (varM 17) (slM (varM 4) (opP (cM (.int 26))) noP))) (varM 17) [17] = A at hl ⊢
  generalize hds : D.lst ((List.filter (fun c => !dgB c) r).map chr |>.map D.str) = dl at hl he
  have hne : neP S (.str (mk r)) (.str "") = some (.bl (!decide (r = []))) := by
    rw [ne_strs]
    congr 3
    exact decide_eq_decide.mpr (mk_eq r "")
  cases r with
  | nil =>
    have ef : figB f [] = false := rfl
    rw [ef]
    simp only [decide_true, Bool.not_true] at hne
    simp only [x_set, andV, toB, bin2, M.bind, varM, var, M.pure, cM, M.op2, hne, M.lift, asB, SR.of, List.getElem?_cons_succ, List.getElem?_cons_zero, Bool.false_eq_true, if_false, List.set]
  | cons c r' =>
    have hh := head_mk S hr
    have hz := mkz (c :: r')
    have hnil : decide (c :: r' = []) = false := decide_eq_false (by simp)
    rw [hnil] at hne
    simp only [Bool.not_false] at hne
    cases h1 : (c :: r').all dgB with
    | false =>
      rw [h1] at he
      have ef : figB f (c :: r') = false := by unfold figB; rw [h1]; rfl
      rw [ef]
      simp only [x_set, andV, toB, bin2, M.bind, varM, var, M.pure, cM, M.op2, hne, hl, lstM, nilM, List.length_nil, z0, he, M.lift, asB, SR.of, List.getElem?_cons_succ, List.getElem?_cons_zero, Bool.false_eq_true, if_false, if_true, List.set]
    | true =>
      rw [h1] at he
      by_cases h2 : c :: r' = [48]
      · have e0 : eqP S (.str (mk (c :: r'))) (.str "0") = some (.bl true) := by rw [eq_strs, decide_eq_true (hz.mpr h2)]
        have ef : figB f (c :: r') = decide (((c :: r').length : Int) ≤ f) := by
          unfold figB
          rw [h1, decide_eq_true h2]
          simp
        rw [ef]
        simp only [x_set, andV, orV, toB, bin2, M.bind, varM, var, M.pure, cM, M.op2, hne, hl, lstM, nilM, List.length_nil, z0, he, e0, M.lift, asB, SR.of, List.getElem?_cons_succ, List.getElem?_cons_zero, Bool.false_eq_true, if_false, if_true, List.set, bltM, consM, M.opL, hlen, le_ints]
      · have e0 : eqP S (.str (mk (c :: r'))) (.str "0") = some (.bl false) := by rw [eq_strs, decide_eq_false (fun z => h2 (hz.mp z))]
        have e1 := ne_0 S c
        have ef : figB f (c :: r') = ((!decide (c = 48)) && decide (((c :: r').length : Int) ≤ f)) := by
          unfold figB
          rw [h1, decide_eq_false h2]
          simp [Bool.and_comm]
        rw [ef]
        cases h3 : decide (c = 48) with
        | true =>
          rw [h3] at e1
          simp only [x_set, andV, orV, toB, bin2, M.bind, varM, var, M.pure, cM, M.op2, hne, hl, lstM, nilM, List.length_nil, z0, he, e0, hh, e1, Bool.not_true, M.lift, asB, SR.of, List.getElem?_cons_succ, List.getElem?_cons_zero, Bool.false_eq_true, if_false, if_true, List.set, bltM, consM, M.opL, hlen, le_ints, Bool.false_and]
        | false =>
          rw [h3] at e1
          simp only [x_set, andV, orV, toB, bin2, M.bind, varM, var, M.pure, cM, M.op2, hne, hl, lstM, nilM, List.length_nil, z0, he, e0, hh, e1, Bool.not_false, M.lift, asB, SR.of, List.getElem?_cons_succ, List.getElem?_cons_zero, Bool.false_eq_true, if_false, if_true, List.set, bltM, consM, M.opL, hlen, le_ints, Bool.true_and]
theorem name_step (hr : r.length ≤ 1000000) (hg : Sg r) : s16M (RV x f n line first at' d3 d9 e d11 d12 d13 (some (.str (mk r))) d15 d16 d17) S = .nx (RV x f n line first at' d3 d9 e d11 d12 d13 (some (.str (mk r))) d15 (some (.bl (nameB r))) d17) S := by
  have hsl := slS_run S (x := signsT) (by decide) none (some 26)
  rw [cut_26] at hsl
  have z0 := len_ok 0 (by decide)
  have hl := lc_val (S := S) (ρ := RV x f n line first at' d3 d9 e d11 d12 d13 (some (.str (mk r))) d15 d16 d17) (mt := tV (bin2 ninP (varM 17) (varM 4))) (g := fun c => !lnd c) hr rfl (fun c _ => by
    have hn : ninP S (.str (chr c)) (.str signsT) = some (.bl (!lnd c)) := by rw [← lnd_mem]; rfl
    simp [wipeE, tV, toB, bin2, M.bind, varM, var, M.pure, M.lift, M.op2, hn, asB]) (fun c => by simp [wipeE])
  have he := eq_filter S hg (fun c => !lnd c)
  simp only [Bool.not_not] at he
  have hlen := len_str S (x := mk r) (by rw [mk_len]; exact hr)
  rw [mk_len] at hlen
  unfold s16M
  generalize lcM (seqI (varM 14)) (gN 17) (tV (bin2 ninP (varM 17) (varM 4))) (varM 17) [17] = A at hl ⊢
  generalize hds : D.lst ((List.filter (fun c => !lnd c) r).map chr |>.map D.str) = dl at hl he
  by_cases h1 : 1 ≤ r.length
  · have l1 : (1 : Int) ≤ (r.length : Int) := by omega
    by_cases h2 : r.length ≤ 8
    · have l2 : (r.length : Int) ≤ 8 := by omega
      cases r with
      | nil => simp at h1
      | cons c r' =>
        have hh := head_mk S hr
        have hin : inP S (.str (chr c)) (.str "abcdefghijklmnopqrstuvwxyz") = some (.bl (letB c)) := in_let S c
        have ef : nameB (c :: r') = (letB c && (c :: r').all lnd) := by
          unfold nameB
          rw [decide_eq_true ⟨h1, h2⟩]
          rfl
        rw [ef]
        cases h3 : letB c with
        | true =>
          rw [h3] at hin
          simp only [x_set, andV, chain2, toB, bin2, M.bind, varM, var, M.pure, cM, M.op2, hl, lstM, nilM, List.length_nil, z0, he, hh, hin, M.lift, asB, SR.of, List.getElem?_cons_succ, List.getElem?_cons_zero, Bool.false_eq_true, if_false, if_true, List.set, bltM, consM, M.opL, hlen, le_ints, decide_eq_true l1, decide_eq_true l2, slM, opP, noP, optI, asI, Option.map_some, opS, hsl, Bool.true_and]
        | false =>
          rw [h3] at hin
          simp only [x_set, andV, chain2, toB, bin2, M.bind, varM, var, M.pure, cM, M.op2, hl, lstM, nilM, List.length_nil, z0, he, hh, hin, M.lift, asB, SR.of, List.getElem?_cons_succ, List.getElem?_cons_zero, Bool.false_eq_true, if_false, if_true, List.set, bltM, consM, M.opL, hlen, le_ints, decide_eq_true l1, decide_eq_true l2, slM, opP, noP, optI, asI, Option.map_some, opS, hsl, Bool.false_and]
    · have l2 : ¬ (r.length : Int) ≤ 8 := by omega
      have ef : nameB r = false := by
        unfold nameB
        rw [decide_eq_false (fun z => h2 z.2)]
        rfl
      rw [ef]
      simp only [x_set, andV, chain2, toB, bin2, M.bind, varM, var, M.pure, cM, M.op2, nilM, M.lift, asB, SR.of, List.getElem?_cons_succ, List.getElem?_cons_zero, Bool.false_eq_true, if_false, if_true, List.set, bltM, consM, M.opL, hlen, le_ints, decide_eq_true l1, decide_eq_false l2]
  · have l1 : ¬ (1 : Int) ≤ (r.length : Int) := by omega
    have ef : nameB r = false := by
      unfold nameB
      rw [decide_eq_false (fun z => h1 z.1)]
      rfl
    rw [ef]
    simp only [x_set, andV, chain2, toB, bin2, M.bind, varM, var, M.pure, cM, M.op2, nilM, M.lift, asB, SR.of, List.getElem?_cons_succ, List.getElem?_cons_zero, Bool.false_eq_true, if_false, if_true, List.set, bltM, consM, M.opL, hlen, le_ints, decide_eq_false l1]
end
end PyM
set_option Elab.async false
set_option linter.all false
set_option maxRecDepth 100000
set_option maxHeartbeats 8000000
namespace PyM
open PySem PySem.Spec PyProof.Rows L2 TL
/-! ### the law's runs: tokens -/
theorem words_split : Txt.split wordsT " " = resL := by decide +kernel
theorem in_words (S : Store) (r : List Nat) : inP S (.str (mk r)) (.lst (resL.map .str)) = some (.bl (resB r)) := in_strsL S (mk r) resL
section
variable {x : Str} {f line first at' e : Int} {n : Nat} {d3 d12 d13 d16 d17 : Option D} {S0 : Store} {F : List D} {r : List Nat} {c : Nat} {ln col : Int}
theorem last_at (hn : n = S0.length) (d : D) : ixP (S0 ++ [.lst (F ++ [d])]) (.loc n) (.int (-1)) = some d := by
  subst hn
  have e : asA (S0 ++ [.lst (F ++ [d])]) (.loc S0.length) = some (F ++ [d]) := by
    unfold asA asS asL
    simp
  have e2 : ixN (F ++ [d]).length (-1) = some F.length := by
    unfold ixN
    rw [if_neg (by omega), List.length_append, List.length_singleton, if_pos (by omega)]
    congr 1
    omega
  unfold ixP
  simp only [e]
  unfold atI
  rw [e2]
  simp
theorem dash_tok (hn : n = S0.length) (hF : F.length ≤ 1000000) (hf : f ≤ 40) (hr : r.length ≤ 1000000) {w : Str} {cd : D} (hw : (if figB f r = true ∧ r ≠ [48] then (("below" : Str), D.int (0 - valN r)) else (("bad" : Str), D.str "")) = (w, cd)) :
    tokM (RV x f n line first at' d3 (some (.str (chr 45))) e (some (.tup [.int ln, .int col])) d12 d13 (some (.str (mk r))) (some (.bl (figB f r))) d16 d17) (S0 ++ [.lst F]) =
      .nx (RV x f n line first at' d3 (some (.str (chr 45))) e (some (.tup [.int ln, .int col])) d12 d13 (some (.str (mk r))) (some (.bl (figB f r))) d16 d17) (S0 ++ [.lst (F ++ [tkD w cd ln col])]) := by
  have q := eq_min (S0 ++ [.lst F]) 45
  have z2 := len_ok 2 (by decide)
  have z4 : [D.str w, cd].length + [D.int ln, D.int col].length ≤ sizeLine := len_ok 4 (by decide)
  have hat := add_tups (S0 ++ [.lst F]) [D.str w, cd] [.int ln, .int col] z4
  have happ := app_last (F := F) hn (tkD w cd ln col) hF
  have hty := ty_last (F := F) hn
  have hne : neP (S0 ++ [.lst F]) (.str (mk r)) (.str "0") = some (.bl (!decide (r = [48]))) := by
    rw [ne_strs]
    congr 3
    exact decide_eq_decide.mpr (mkz _)
  unfold tokM
  cases hfg : figB f r with
  | true =>
    have hint := int_fig (S0 ++ [.lst F]) hf hfg
    by_cases h48 : r = [48]
    · rw [if_neg (fun z => z.2 h48)] at hw
      rw [decide_eq_true h48] at hne
      injection hw with w1 w2
      subst w1 w2
      simp only [x_if, x_tV, toB, bin2, M.bind, varM, var, M.pure, cM, M.op2, q, decide_true, M.lift, asB, SR.of, if_true, exprM, methM, M.guard, hty, consM, nilM, ifV, andM, hne, Bool.not_true, Bool.false_eq_true, if_false, tupM, List.length_cons, List.length_nil, Nat.reduceAdd, z2, hat, List.cons_append, List.nil_append, M.opM, happ, List.getElem?_cons_succ, List.getElem?_cons_zero]
    · rw [if_pos ⟨hfg, h48⟩] at hw
      rw [decide_eq_false h48] at hne
      injection hw with w1 w2
      subst w1 w2
      simp only [x_if, x_tV, toB, bin2, M.bind, varM, var, M.pure, cM, M.op2, q, decide_true, M.lift, asB, SR.of, if_true, exprM, methM, M.guard, hty, consM, nilM, ifV, andM, hne, Bool.not_false, tupM, List.length_cons, List.length_nil, Nat.reduceAdd, z2, hat, List.cons_append, List.nil_append, M.opM, happ, bltM, M.opL, hint, sub_ints, List.getElem?_cons_succ, List.getElem?_cons_zero]
  | false =>
    rw [if_neg (fun z => by rw [hfg] at z; exact absurd z.1 (by decide))] at hw
    injection hw with w1 w2
    subst w1 w2
    simp only [x_if, x_tV, toB, bin2, M.bind, varM, var, M.pure, cM, M.op2, q, decide_true, M.lift, asB, SR.of, if_true, exprM, methM, M.guard, hty, consM, nilM, ifV, andM, Bool.false_eq_true, if_false, tupM, List.length_cons, List.length_nil, Nat.reduceAdd, z2, hat, List.cons_append, List.nil_append, M.opM, happ, List.getElem?_cons_succ, List.getElem?_cons_zero]
theorem other_tok (hn : n = S0.length) (hF : F.length ≤ 1000000) (hf : f ≤ 40) (hr : r.length ≤ 1000000) (hc : c ≠ 45) :
    tokM (RV x f n line first at' d3 (some (.str (chr c))) e (some (.tup [.int ln, .int col])) d12 d13 (some (.str (mk r))) (some (.bl (figB f r))) (some (.bl (nameB r))) d17) (S0 ++ [.lst F]) =
      .nx (RV x f n line first at' d3 (some (.str (chr c))) e (some (.tup [.int ln, .int col])) d12 d13 (some (.str (mk r))) (some (.bl (figB f r))) (some (.bl (nameB r))) d17) (S0 ++ [.lst (F ++ [tkD (runTok f r).1 (runTok f r).2 ln col])]) := by
  have q := eq_min (S0 ++ [.lst F]) c
  rw [decide_eq_false hc] at q
  have z2 := len_ok 2 (by decide)
  have z4 : [D.str (runTok f r).1, (runTok f r).2].length + [D.int ln, D.int col].length ≤ sizeLine := len_ok 4 (by decide)
  have hat := add_tups (S0 ++ [.lst F]) [D.str (runTok f r).1, (runTok f r).2] [.int ln, .int col] z4
  have happ := app_last (F := F) hn (tkD (runTok f r).1 (runTok f r).2 ln col) hF
  have hty := ty_last (F := F) hn
  have hsp := split_run (S0 ++ [.lst F]) (x := wordsT) (y := " ") (by decide) (by decide +kernel)
  rw [words_split] at hsp
  have hin := in_words (S0 ++ [.lst F]) r
  have hts : ∀ S, tyOk "str" S (.str wordsT) = true := fun _ => rfl
  have hi := int_fig (S0 ++ [.lst F]) (r := r) hf
  unfold tokM
  generalize hrt : runTok f r = rt at hat happ z4 ⊢
  obtain ⟨w, cd⟩ := rt
  unfold runTok at hrt
  generalize resL.map D.str = rl at hsp hin
  generalize resB r = b1 at *
  generalize nameB r = b2 at *
  generalize figB f r = b3 at *
  cases b1 with
  | true =>
    simp only [if_true] at hrt
    injection hrt with w1 w2
    subst w1 w2
    simp only [x_if, x_tV, toB, bin2, M.bind, varM, var, M.pure, cM, M.op2, q, M.lift, asB, SR.of, if_true, exprM, methM, M.guard, hty, hts, consM, nilM, ifV, hsp, hin, Bool.false_eq_true, if_false, tupM, List.length_cons, List.length_nil, Nat.reduceAdd, z2, hat, List.cons_append, List.nil_append, M.opM, happ, List.getElem?_cons_succ, List.getElem?_cons_zero]
  | false =>
    simp only [Bool.false_eq_true, if_false] at hrt
    cases b2 with
    | true =>
      simp only [if_true] at hrt
      injection hrt with w1 w2
      subst w1 w2
      simp only [x_if, x_tV, toB, bin2, M.bind, varM, var, M.pure, cM, M.op2, q, M.lift, asB, SR.of, if_true, exprM, methM, M.guard, hty, hts, consM, nilM, ifV, hsp, hin, Bool.false_eq_true, if_false, tupM, List.length_cons, List.length_nil, Nat.reduceAdd, z2, hat, List.cons_append, List.nil_append, M.opM, happ, List.getElem?_cons_succ, List.getElem?_cons_zero]
    | false =>
      simp only [Bool.false_eq_true, if_false] at hrt
      cases b3 with
      | true =>
        have hi := hi rfl
        simp only [if_true] at hrt
        injection hrt with w1 w2
        subst w1 w2
        simp only [x_if, x_tV, toB, bin2, M.bind, varM, var, M.pure, cM, M.op2, q, M.lift, asB, SR.of, if_true, exprM, methM, M.guard, hty, hts, consM, nilM, ifV, hsp, hin, Bool.false_eq_true, if_false, tupM, List.length_cons, List.length_nil, Nat.reduceAdd, z2, hat, List.cons_append, List.nil_append, M.opM, happ, bltM, M.opL, hi, List.getElem?_cons_succ, List.getElem?_cons_zero]
      | false =>
        simp only [Bool.false_eq_true, if_false] at hrt
        injection hrt with w1 w2
        subst w1 w2
        simp only [x_if, x_tV, toB, bin2, M.bind, varM, var, M.pure, cM, M.op2, q, M.lift, asB, SR.of, if_true, exprM, methM, M.guard, hty, hts, consM, nilM, ifV, hsp, hin, Bool.false_eq_true, if_false, tupM, List.length_cons, List.length_nil, Nat.reduceAdd, z2, hat, List.cons_append, List.nil_append, M.opM, happ, List.getElem?_cons_succ, List.getElem?_cons_zero]
theorem bad_step (hn : n = S0.length) {w : Str} {cd : D} {d9 d11 d14 d15 : Option D} : badM' (RV x f n line first at' d3 d9 e d11 d12 d13 d14 d15 d16 d17) (S0 ++ [.lst (F ++ [tkD w cd ln col])]) =
    if w = ("bad" : Str) then .rt (.loc n) (S0 ++ [.lst (F ++ [tkD w cd ln col])]) else .nx (RV x f n line first at' d3 d9 e d11 d12 d13 d14 d15 d16 d17) (S0 ++ [.lst (F ++ [tkD w cd ln col])]) := by
  have hl := last_at (F := F) hn (tkD w cd ln col)
  have hix : ixP (S0 ++ [.lst (F ++ [tkD w cd ln col])]) (tkD w cd ln col) (.int 0) = some (.str w) := rfl
  have hq := eq_strs (S0 ++ [.lst (F ++ [tkD w cd ln col])]) w "bad"
  unfold badM'
  by_cases h : w = ("bad" : Str)
  · rw [if_pos h]
    rw [decide_eq_true h] at hq
    simp only [x_if, x_tV, toB, bin2, un1, M.op1, neg_int, M.bind, varM, var, M.pure, cM, M.op2, hl, hix, hq, M.lift, asB, SR.of, if_true, retM, List.getElem?_cons_succ, List.getElem?_cons_zero]
  · rw [if_neg h]
    rw [decide_eq_false h] at hq
    simp only [x_if, x_tV, toB, bin2, un1, M.op1, neg_int, M.bind, varM, var, M.pure, cM, M.op2, hl, hix, hq, M.lift, asB, SR.of, Bool.false_eq_true, if_false, x_nil, List.getElem?_cons_succ, List.getElem?_cons_zero]
end
end PyM
set_option Elab.async false
set_option linter.all false
set_option maxRecDepth 100000
set_option maxHeartbeats 8000000
namespace PyM
open PySem PySem.Spec PyProof.Rows L2 TL
/-! ### the law's runs: one run -/
section
variable {x : Str} {f line first : Int} {n : Nat} {d3 d12 d13 d14 d15 d16 d17 : Option D} {S0 : Store} {F : List D} {r : List Nat} {c b : Nat}
theorem min_ints (S : Store) (i j : Int) : minP S [.int i, .int j] = some (.int (min i j)) := by
  unfold minP
  simp only
  congr 2
  split <;> omega
/-- the window begins at lo, behind the end so far -/
theorem wfor_run {S : Store} (hx : x.length ≤ 1000000) (hb : b < x.length) {lo : Nat} (hlo : lo = b ∨ lo = b + 1) {d9 d11 : Option D} :
    ∃ d13', forM wsrcM (gN 13) wndM (RV x f n line first (b : Int) d3 d9 ((b + 1 : Nat) : Int) d11 (some (.int (lo : Int))) d13 d14 d15 d16 d17) S =
      .nx (RV x f n line first (b : Int) d3 d9 ((b + 1 + ((wl ((tl x).drop (b + 1))).take 49).length : Nat) : Int) d11 (some (.int (lo : Int))) d13' d14 d15 d16 d17) S := by
  have hs := sizeLine_eq
  have hlen := len_str S hx
  have hlt : b < (tl x).length := by rw [← len_tl]; exact hb
  have hmin : min (x.length : Int) ((b : Int) + 50) = ((min x.length (b + 50) : Nat) : Int) := by omega
  obtain ⟨k, hk⟩ : ∃ k, min x.length (b + 50) = lo + k := ⟨min x.length (b + 50) - lo, by omega⟩
  have hsrc : wsrcM (RV x f n line first (b : Int) d3 d9 ((b + 1 : Nat) : Int) d11 (some (.int (lo : Int))) d13 d14 d15 d16 d17) S = .ok ⟨itN lo k, fun _ => true⟩ S := by
    have ok : rngOk (lo : Int) ∧ rngOk ((lo + k : Nat) : Int) := by unfold rngOk; omega
    have hit := srcR_it lo k
    have e2 : srcR (lo : Int) ((lo + k : Nat) : Int) = ⟨itN lo k, fun _ => true⟩ := by rw [← hit]; rfl
    unfold wsrcM
    simp only [rngI2, consM, nilM, M.bind, varM, var, M.pure, bltM, M.opL, hlen, bin2, M.op2, cM, add_ints, min_ints, hmin, hk, srcR2, ok, and_self, if_true, e2, List.getElem?_cons_succ, List.getElem?_cons_zero]
  have hw : (wl ((tl x).drop (b + 1))).length ≤ x.length - (b + 1) := by
    have := wl_le ((tl x).drop (b + 1))
    rw [List.length_drop, ← len_tl] at this
    exact this
  have htk : ∀ k', min x.length (b + 50) = b + 1 + k' → (wl ((tl x).drop (b + 1))).take k' = (wl ((tl x).drop (b + 1))).take 49 := fun k' hk' => by
    by_cases h : x.length ≤ b + 50
    · rw [List.take_of_length_le (by omega), List.take_of_length_le (by omega)]
    · congr 1
      omega
  unfold forM
  rw [hsrc]
  simp only [SR.of]
  rcases hlo with rfl | rfl
  · cases k with
    | zero => omega
    | succ k =>
      have st := wnd_in (x := x) (f := f) (n := n) (line := line) (first := first) (at' := (lo : Int)) (d3 := d3) (d9 := d9) (d11 := d11) (d14 := d14) (d15 := d15) (d16 := d16) (d17 := d17) (S := S) hx (e := ((lo + 1 : Nat) : Int)) (b := (lo : Int)) (j := lo) (by omega) (List.getElem?_eq_getElem hlt)
      have e0 : (if lnd (tl x)[lo] = true then ((lo + 1 : Nat) : Int) else ((lo + 1 : Nat) : Int)) = ((lo + 1 : Nat) : Int) := by split <;> rfl
      rw [e0] at st
      obtain ⟨d13', e1⟩ := wnd_run (x := x) (f := f) (n := n) (line := line) (first := first) (at' := (lo : Int)) (d3 := d3) (d9 := d9) (d11 := d11) (d14 := d14) (d15 := d15) (d16 := d16) (d17 := d17) (S := S) hx (b := (lo : Int)) k (lo + 1) (some (.int (lo : Int))) (by omega) (by omega)
      rw [htk k (by omega)] at e1
      refine ⟨d13', ?_⟩
      rw [← e1]
      unfold itN loopS
      simp only [gN, List.set, if_true]
      rw [st]
      cases k <;> rfl
  · obtain ⟨d13', e1⟩ := wnd_run (x := x) (f := f) (n := n) (line := line) (first := first) (at' := (b : Int)) (d3 := d3) (d9 := d9) (d11 := d11) (d14 := d14) (d15 := d15) (d16 := d16) (d17 := d17) (S := S) hx (b := ((b + 1 : Nat) : Int)) k (b + 1) d13 (Int.le_refl _) (by omega)
    rw [htk k (by omega)] at e1
    exact ⟨d13', e1⟩
theorem s14_run {S : Store} (hx : x.length ≤ 1000000) {lo hi : Nat} (h1 : lo ≤ hi) (h2 : hi ≤ x.length) {at' : Int} {d9 d11 : Option D} :
    s14M (RV x f n line first at' d3 d9 (hi : Int) d11 (some (.int (lo : Int))) d13 d14 d15 d16 d17) S = .nx (RV x f n line first at' d3 d9 (hi : Int) d11 (some (.int (lo : Int))) d13 (some (.str (mk (((tl x).drop lo).take (hi - lo))))) d15 d16 d17) S := by
  have hsl := slS_run S hx (some (lo : Int)) (some (hi : Int))
  rw [cut_str x h1 h2] at hsl
  unfold s14M
  simp only [x_set, slM, opP, optI, asI, Option.map_some, opS, hsl, M.bind, varM, var, M.pure, M.lift, SR.of, List.getElem?_cons_succ, List.getElem?_cons_zero, List.set]
theorem take_len_take (l : List Nat) (k : Nat) : l.take ((wl l).take k).length = (wl l).take k := by
  rw [List.length_take]
  conv => rhs; rw [← wl_take l, List.take_take]
theorem runW_run (hn : n = S0.length) (hx : x.length ≤ 1000000) (hf : f ≤ 40) (hg : Sg (tl x)) (hF : F.length ≤ 1000000) (h : (tl x).drop b = c :: r) (h32 : c ≠ 32) (h10 : c ≠ 10) (hmk : mkB c = false) {w : Str} {cd : D} {k : Nat} (ht : tokAt f (c :: r) = (w, cd, k)) :
    ∃ d12' d13' d14' d15' d16', runW (RV x f n line first (b : Int) d3 (some (.str (chr c))) ((b + 1 : Nat) : Int) (some (.tup [.int line, .int ((b : Int) - first + 1)])) d12 d13 d14 d15 d16 d17) (S0 ++ [.lst F]) =
      if w = ("bad" : Str) then .rt (.loc n) (S0 ++ [.lst (F ++ [tkD w cd line ((b : Int) - first + 1)])])
      else .nx (RV x f n line first (b : Int) d3 (some (.str (chr c))) ((b + k : Nat) : Int) (some (.tup [.int line, .int ((b : Int) - first + 1)])) d12' d13' d14' d15' d16' d17) (S0 ++ [.lst (F ++ [tkD w cd line ((b : Int) - first + 1)])]) := by
  obtain ⟨h1, h2, h3⟩ := drop_get h
  rw [← len_tl] at h3
  have hwl : (wl r).length ≤ x.length - (b + 1) := by
    have := wl_le r
    rw [← h2, List.length_drop, ← len_tl] at this
    rw [← h2]
    exact this
  have hgr : Sg r := fun z hz => hg z (by rw [← h2] at hz; exact List.mem_of_mem_drop hz)
  have hgc : c < 1114112 := hg c (List.mem_of_getElem? h1)
  have hgw : Sg ((wl r).take 49) := fun z hz => hgr z ((List.takeWhile_prefix lnd).subset (List.mem_of_mem_take hz))
  have hl49 : ((wl r).take 49).length ≤ (wl r).length := by rw [List.length_take]; omega
  have q := eq_min (S0 ++ [.lst F]) c
  rw [tokAt_cons, if_neg h10, hmk] at ht
  simp only [Bool.false_eq_true, if_false] at ht
  by_cases c45 : c = 45
  · subst c45
    rw [if_pos rfl] at ht
    have e1 : ((b : Int) + 1) = ((b + 1 : Nat) : Int) := by omega
    have e12 : s12M (RV x f n line first (b : Int) d3 (some (.str (chr 45))) ((b + 1 : Nat) : Int) (some (.tup [.int line, .int ((b : Int) - first + 1)])) d12 d13 d14 d15 d16 d17) (S0 ++ [.lst F]) =
        .nx (RV x f n line first (b : Int) d3 (some (.str (chr 45))) ((b + 1 : Nat) : Int) (some (.tup [.int line, .int ((b : Int) - first + 1)])) (some (.int ((b + 1 : Nat) : Int))) d13 d14 d15 d16 d17) (S0 ++ [.lst F]) := by
      unfold s12M
      simp only [x_set, ifV, x_tV, toB, bin2, M.bind, varM, var, M.pure, cM, M.op2, q, decide_true, M.lift, asB, SR.of, if_true, add_ints, e1, List.getElem?_cons_succ, List.getElem?_cons_zero, List.set]
    obtain ⟨d13', efor⟩ := wfor_run (f := f) (n := n) (line := line) (first := first) (d3 := d3) (d13 := d13) (d14 := d14) (d15 := d15) (d16 := d16) (d17 := d17) (S := S0 ++ [.lst F]) hx h3 (lo := b + 1) (.inr rfl) (d9 := some (.str (chr 45))) (d11 := some (.tup [.int line, .int ((b : Int) - first + 1)]))
    rw [h2] at efor
    have e14 := s14_run (f := f) (n := n) (line := line) (first := first) (d3 := d3) (d13 := d13') (d14 := d14) (d15 := d15) (d16 := d16) (d17 := d17) (S := S0 ++ [.lst F]) hx (lo := b + 1) (hi := b + 1 + ((wl r).take 49).length) (by omega) (by omega) (at' := (b : Int)) (d9 := some (.str (chr 45))) (d11 := some (.tup [.int line, .int ((b : Int) - first + 1)]))
    rw [h2, Nat.add_sub_cancel_left, take_len_take] at e14
    obtain ⟨fc1, fc2⟩ := figB_cut hf (wl r) (k := 49) (by decide)
    generalize hR : (wl r).take 49 = R at *
    have hR1 : R.length ≤ 1000000 := by omega
    have e15 := fig_step (x := x) (f := f) (n := n) (line := line) (first := first) (at' := (b : Int)) (d3 := d3) (e := ((b + 1 + R.length : Nat) : Int)) (d9 := some (.str (chr 45))) (d11 := some (.tup [.int line, .int ((b : Int) - first + 1)])) (d12 := some (.int ((b + 1 : Nat) : Int))) (d13 := d13') (d15 := d15) (d16 := d16) (d17 := d17) (S := S0 ++ [.lst F]) hR1 hgw
    have e16 := name_step (x := x) (f := f) (n := n) (line := line) (first := first) (at' := (b : Int)) (d3 := d3) (e := ((b + 1 + R.length : Nat) : Int)) (d9 := some (.str (chr 45))) (d11 := some (.tup [.int line, .int ((b : Int) - first + 1)])) (d12 := some (.int ((b + 1 : Nat) : Int))) (d13 := d13') (d15 := some (.bl (figB f R))) (d16 := d16) (d17 := d17) (S := S0 ++ [.lst F]) hR1 hgw
    have hkey : (if figB f R = true ∧ R ≠ [48] then (("below" : Str), D.int (0 - valN R)) else (("bad" : Str), D.str "")) = (w, cd) ∧ (w ≠ ("bad" : Str) → b + 1 + R.length = b + k) := by
      rw [fc1]
      cases hq : figB f (wl r) with
      | true =>
        have := fc2 hq
        rw [this]
        rw [hq] at ht
        by_cases h48 : wl r = [48]
        · rw [if_neg (fun z => z.2 h48)] at ht ⊢
          injection ht with w1 w2
          injection w2 with w2 w3
          subst w1 w2
          exact ⟨rfl, fun z => absurd rfl z⟩
        · rw [if_pos ⟨rfl, h48⟩] at ht ⊢
          injection ht with w1 w2
          injection w2 with w2 w3
          subst w1 w2 w3
          exact ⟨rfl, fun _ => by omega⟩
      | false =>
        rw [hq] at ht
        rw [if_neg (fun z => absurd z.1 (by decide))] at ht ⊢
        injection ht with w1 w2
        injection w2 with w2 w3
        subst w1 w2
        exact ⟨rfl, fun z => absurd rfl z⟩
    have etok := dash_tok (x := x) (f := f) (n := n) (line := line) (first := first) (at' := (b : Int)) (d3 := d3) (e := ((b + 1 + R.length : Nat) : Int)) (d12 := some (.int ((b + 1 : Nat) : Int))) (d13 := d13') (d16 := some (.bl (nameB R))) (d17 := d17) (ln := line) (col := (b : Int) - first + 1) hn hF hf hR1 hkey.1
    have ebad := bad_step (x := x) (f := f) (n := n) (line := line) (first := first) (at' := (b : Int)) (d3 := d3) (e := ((b + 1 + R.length : Nat) : Int)) (d12 := some (.int ((b + 1 : Nat) : Int))) (d13 := d13') (d16 := some (.bl (nameB R))) (d17 := d17) (ln := line) (col := (b : Int) - first + 1) (F := F) hn (w := w) (cd := cd) (d9 := some (.str (chr 45))) (d11 := some (.tup [.int line, .int ((b : Int) - first + 1)])) (d14 := some (.str (mk R))) (d15 := some (.bl (figB f R)))
    refine ⟨some (.int ((b + 1 : Nat) : Int)), d13', some (.str (mk R)), some (.bl (figB f R)), some (.bl (nameB R)), ?_⟩
    unfold runW
    rw [x_seq, e12, x_sbind_nx, x_seq, efor, x_sbind_nx, x_seq, e14, x_sbind_nx, x_seq, e15, x_sbind_nx, x_seq, e16, x_sbind_nx, x_seq, etok, x_sbind_nx, ebad]
    by_cases hw : w = ("bad" : Str)
    · rw [if_pos hw, if_pos hw]
    · rw [if_neg hw, if_neg hw, hkey.2 hw]
  · rw [if_neg c45] at ht
    rw [decide_eq_false c45] at q
    have e12 : s12M (RV x f n line first (b : Int) d3 (some (.str (chr c))) ((b + 1 : Nat) : Int) (some (.tup [.int line, .int ((b : Int) - first + 1)])) d12 d13 d14 d15 d16 d17) (S0 ++ [.lst F]) =
        .nx (RV x f n line first (b : Int) d3 (some (.str (chr c))) ((b + 1 : Nat) : Int) (some (.tup [.int line, .int ((b : Int) - first + 1)])) (some (.int (b : Int))) d13 d14 d15 d16 d17) (S0 ++ [.lst F]) := by
      unfold s12M
      simp only [x_set, ifV, x_tV, toB, bin2, M.bind, varM, var, M.pure, cM, M.op2, q, M.lift, asB, SR.of, Bool.false_eq_true, if_false, List.getElem?_cons_succ, List.getElem?_cons_zero, List.set]
    obtain ⟨d13', efor⟩ := wfor_run (f := f) (n := n) (line := line) (first := first) (d3 := d3) (d13 := d13) (d14 := d14) (d15 := d15) (d16 := d16) (d17 := d17) (S := S0 ++ [.lst F]) hx h3 (lo := b) (.inl rfl) (d9 := some (.str (chr c))) (d11 := some (.tup [.int line, .int ((b : Int) - first + 1)]))
    rw [h2] at efor
    have e14 := s14_run (f := f) (n := n) (line := line) (first := first) (d3 := d3) (d13 := d13') (d14 := d14) (d15 := d15) (d16 := d16) (d17 := d17) (S := S0 ++ [.lst F]) hx (lo := b) (hi := b + 1 + ((wl r).take 49).length) (by omega) (by omega) (at' := (b : Int)) (d9 := some (.str (chr c))) (d11 := some (.tup [.int line, .int ((b : Int) - first + 1)]))
    have esub : b + 1 + ((wl r).take 49).length - b = ((wl r).take 49).length + 1 := by omega
    rw [h, esub, List.take_succ_cons, take_len_take] at e14
    have hkey : runTok f (c :: (wl r).take 49) = (w, cd) ∧ (w ≠ ("bad" : Str) → b + 1 + ((wl r).take 49).length = b + k) := by
      cases hln : lnd c with
      | true =>
        have ew : wl (c :: r) = c :: wl r := List.takeWhile_cons_of_pos hln
        have et : c :: (wl r).take 49 = (wl (c :: r)).take 50 := by rw [ew, List.take_succ_cons]
        rw [et, runTok_cut hf _ (by decide)]
        rw [hln, if_pos rfl] at ht
        have ht1 := congrArg Prod.fst ht
        have ht2 := congrArg (fun z => z.2.1) ht
        have ht3 := congrArg (fun z => z.2.2) ht
        simp only at ht1 ht2 ht3
        refine ⟨by rw [← ht1, ← ht2], fun hw => ?_⟩
        have hsh : (wl (c :: r)).length ≤ 40 := by
          refine Nat.le_of_lt_succ (Nat.lt_of_not_le fun z => hw ?_)
          rw [← ht1, runTok_long hf z]
        rw [ew, List.length_cons] at hsh ht3
        rw [List.take_of_length_le (by omega)]
        omega
      | false =>
        rw [hln] at ht
        simp only [Bool.false_eq_true, if_false] at ht
        have ht1 : ("bad" : Str) = w := congrArg Prod.fst ht
        have ht2 := congrArg (fun z => z.2.1) ht
        refine ⟨?_, fun hw => absurd ht1.symm hw⟩
        rw [runTok_odd hln, ← ht1]
        have : cd = D.str "" := ht2.symm
        rw [this]
    have hgR : Sg (c :: (wl r).take 49) := fun z hz => by
      rcases List.mem_cons.mp hz with rfl | hz
      · exact hgc
      · exact hgw z hz
    have hE : b + 1 + ((wl r).take 49).length ≤ x.length := by omega
    generalize hR : c :: (wl r).take 49 = R at *
    have hR1 : R.length ≤ 1000000 := by rw [← hR, List.length_cons]; omega
    generalize hEe : b + 1 + ((wl r).take 49).length = E at *
    have e15 := fig_step (x := x) (f := f) (n := n) (line := line) (first := first) (at' := (b : Int)) (d3 := d3) (e := (E : Int)) (d9 := some (.str (chr c))) (d11 := some (.tup [.int line, .int ((b : Int) - first + 1)])) (d12 := some (.int (b : Int))) (d13 := d13') (d15 := d15) (d16 := d16) (d17 := d17) (S := S0 ++ [.lst F]) hR1 hgR
    have e16 := name_step (x := x) (f := f) (n := n) (line := line) (first := first) (at' := (b : Int)) (d3 := d3) (e := (E : Int)) (d9 := some (.str (chr c))) (d11 := some (.tup [.int line, .int ((b : Int) - first + 1)])) (d12 := some (.int (b : Int))) (d13 := d13') (d15 := some (.bl (figB f R))) (d16 := d16) (d17 := d17) (S := S0 ++ [.lst F]) hR1 hgR
    have etok := other_tok (x := x) (f := f) (n := n) (line := line) (first := first) (at' := (b : Int)) (d3 := d3) (e := (E : Int)) (d12 := some (.int (b : Int))) (d13 := d13') (d17 := d17) (c := c) (ln := line) (col := (b : Int) - first + 1) hn hF hf hR1 c45
    rw [hkey.1] at etok
    have ebad := bad_step (x := x) (f := f) (n := n) (line := line) (first := first) (at' := (b : Int)) (d3 := d3) (e := (E : Int)) (d12 := some (.int (b : Int))) (d13 := d13') (d16 := some (.bl (nameB R))) (d17 := d17) (ln := line) (col := (b : Int) - first + 1) (F := F) hn (w := w) (cd := cd) (d9 := some (.str (chr c))) (d11 := some (.tup [.int line, .int ((b : Int) - first + 1)])) (d14 := some (.str (mk R))) (d15 := some (.bl (figB f R)))
    refine ⟨some (.int (b : Int)), d13', some (.str (mk R)), some (.bl (figB f R)), some (.bl (nameB R)), ?_⟩
    unfold runW
    rw [x_seq, e12, x_sbind_nx, x_seq, efor, x_sbind_nx, x_seq, e14, x_sbind_nx, x_seq, e15, x_sbind_nx, x_seq, e16, x_sbind_nx, x_seq, etok, x_sbind_nx, ebad]
    by_cases hw : w = ("bad" : Str)
    · rw [if_pos hw, if_pos hw]
    · rw [if_neg hw, if_neg hw, hkey.2 hw]
end
end PyM
set_option Elab.async false
set_option linter.all false
set_option maxRecDepth 100000
set_option maxHeartbeats 8000000
namespace PyM
open PySem PySem.Spec PyProof.Rows L2 TL
/-! ### the law's runs: all -/
abbrev RV0 (x : Str) (f : Int) (n : Nat) (line first at' : Int) (d3 d9 d10 : Option D) (d11 : Option D) (d12 d13 d14 d15 d16 d17 : Option D) : Env' :=
  [some (.str x), some (.int f), some (.str wordsT), d3, some (.str signsT), some (.loc n), some (.int line), some (.int first), some (.int at'), d9, d10, d11, d12, d13, d14, d15, d16, d17]
theorem runTok_line (most : Int) (r : List Nat) : (runTok most r).1 ≠ ("line" : Str) := by
  have h1 : ("key" : Str) ≠ ("line" : Str) := by decide +kernel
  have h2 : ("name" : Str) ≠ ("line" : Str) := by decide +kernel
  have h3 : ("number" : Str) ≠ ("line" : Str) := by decide +kernel
  have h4 : ("bad" : Str) ≠ ("line" : Str) := by decide +kernel
  unfold runTok
  split
  · exact h1
  split
  · exact h2
  split
  · exact h3
  · exact h4
theorem tok_line {most : Int} {c : Nat} {r : List Nat} (h : c ≠ 10) : (tokAt most (c :: r)).1 ≠ ("line" : Str) := by
  have h1 : ("mark" : Str) ≠ ("line" : Str) := by decide +kernel
  have h2 : ("below" : Str) ≠ ("line" : Str) := by decide +kernel
  have h4 : badT.1 ≠ ("line" : Str) := by show ("bad" : Str) ≠ ("line" : Str); decide +kernel
  rw [tokAt_cons, if_neg h]
  split
  · exact h1
  split
  · split
    · exact h2
    · exact h4
  split
  · exact runTok_line _ _
  · exact h4
section
variable {x : Str} {f line first : Int} {n : Nat} {d3 d9 d10 d11 d12 d13 d14 d15 d16 d17 : Option D} {S0 : Store} {F : List D} {r : List Nat} {c b : Nat}
theorem ge_ints (S : Store) (i j : Int) : geP S (.int i) (.int j) = some (.bl (decide (j ≤ i))) := rfl
theorem runB_ct {S : Store} (hx : x.length ≤ 1000000) (hb : x.length ≤ b) : runB (RV0 x f n line first (b : Int) d3 d9 d10 d11 d12 d13 d14 d15 d16 d17) S = .ct (RV0 x f n line first (b : Int) d3 d9 d10 d11 d12 d13 d14 d15 d16 d17) S := by
  have hlen := len_str S hx
  have h1 : (x.length : Int) ≤ (b : Int) := by omega
  unfold runB
  simp only [x_seq, x_if, x_tV, toB, bin2, M.bind, varM, var, M.pure, M.op2, bltM, consM, nilM, M.opL, hlen, ge_ints, decide_eq_true h1, M.lift, asB, SR.of, if_true, ctM, SR.bind, List.getElem?_cons_succ, List.getElem?_cons_zero]
theorem runB_run (hn : n = S0.length) (hx : x.length ≤ 1000000) (hf : f ≤ 40) (hg : Sg (tl x)) (hF : F.length ≤ 1000000) (h : (tl x).drop b = c :: r) :
    ∃ d9' d11' d12' d13' d14' d15' d16', runB (RV0 x f n line first (b : Int) d3 d9 d10 d11 d12 d13 d14 d15 d16 d17) (S0 ++ [.lst F]) =
      if c = 32 then .nx (RV x f n line first ((b + 1 : Nat) : Int) d3 d9' ((b + 1 : Nat) : Int) d11' d12' d13' d14' d15' d16' d17) (S0 ++ [.lst F])
      else if (tokAt f (c :: r)).1 = ("bad" : Str) then .rt (.loc n) (S0 ++ [.lst (F ++ [tkD (tokAt f (c :: r)).1 (tokAt f (c :: r)).2.1 line ((b : Int) - first + 1)])])
      else .nx (RV x f n (if (tokAt f (c :: r)).1 = ("line" : Str) then line + 1 else line) (if (tokAt f (c :: r)).1 = ("line" : Str) then ((b + (tokAt f (c :: r)).2.2 : Nat) : Int) else first) ((b + (tokAt f (c :: r)).2.2 : Nat) : Int) d3 d9' ((b + (tokAt f (c :: r)).2.2 : Nat) : Int) d11' d12' d13' d14' d15' d16' d17) (S0 ++ [.lst (F ++ [tkD (tokAt f (c :: r)).1 (tokAt f (c :: r)).2.1 line ((b : Int) - first + 1)])]) := by
  obtain ⟨h1, h2, h3⟩ := drop_get h
  rw [← len_tl] at h3
  have hlen := len_str (S0 ++ [.lst F]) hx
  have hlt : ¬ (x.length : Int) ≤ (b : Int) := by omega
  have hix := ix_str (S0 ++ [.lst F]) hx h1
  have z2 := len_ok 2 (by decide)
  have e1 : ((b : Int) + 1) = ((b + 1 : Nat) : Int) := by omega
  have hadd : addP (S0 ++ [.lst F]) (.int (b : Int)) (.int 1) = some (.int ((b + 1 : Nat) : Int)) := by rw [add_ints, e1]
  have hpre : ∀ m, SR.bind (ifM (tV (bin2 geP (varM 8) (bltM lenP (consM (varM 0) nilM)))) ctM nilS (RV0 x f n line first (b : Int) d3 d9 d10 d11 d12 d13 d14 d15 d16 d17) (S0 ++ [.lst F])) (seqM (par3M 9 10 11 (consM (bin2 ixP (varM 0) (varM 8)) (consM (bin2 addP (varM 8) (cM (.int 1))) (consM (tupM (consM (varM 6) (consM (bin2 addP (bin2 subP (varM 8) (varM 7)) (cM (.int 1))) nilM))) nilM)))) m) =
      m (RV x f n line first (b : Int) d3 (some (.str (chr c))) ((b + 1 : Nat) : Int) (some (.tup [.int line, .int ((b : Int) - first + 1)])) d12 d13 d14 d15 d16 d17) (S0 ++ [.lst F]) := fun m => by
    simp only [x_seq, x_if, x_tV, toB, bin2, M.bind, varM, var, M.pure, cM, M.op2, bltM, consM, nilM, M.opL, hlen, ge_ints, decide_eq_false hlt, M.lift, asB, SR.of, Bool.false_eq_true, if_false, x_nil, x_sbind_nx, par3M, hix, hadd, tupM, sub_ints, add_ints, List.length_cons, List.length_nil, Nat.reduceAdd, z2, if_true, List.set, List.getElem?_cons_succ, List.getElem?_cons_zero]
  have e8 : ∀ (e : Int) (l1 f1 : Int) (d9 d11 d12 d13 d14 d15 d16 : Option D) (S : Store), setM 8 (varM 10) (RV x f n l1 f1 (b : Int) d3 d9 e d11 d12 d13 d14 d15 d16 d17) S = .nx (RV x f n l1 f1 e d3 d9 e d11 d12 d13 d14 d15 d16 d17) S := fun _ _ _ _ _ _ _ _ _ _ _ => rfl
  have q10 := eq_nl (S0 ++ [.lst F]) c
  have hmk := in_mark (S0 ++ [.lst F]) c
  have q32 := ne_bl (S0 ++ [.lst F]) c
  have hty := ty_last (F := F) hn
  unfold runB
  rw [x_seq, hpre]
  by_cases c32 : c = 32
  · subst c32
    have b1 : mkB 32 = false := rfl
    rw [b1] at hmk
    refine ⟨some (.str (chr 32)), some (.tup [.int line, .int ((b : Int) - first + 1)]), d12, d13, d14, d15, d16, ?_⟩
    rw [if_pos rfl, x_seq]
    have : ∀ A B : MSt, ifM (tV (bin2 eqP (varM 9) (cM (.str "\n")))) A (ifM (tV (bin2 inP (varM 9) (cM (.str "(),")))) B (ifM (tV (bin2 neP (varM 9) (cM (.str " ")))) runW nilS)) (RV x f n line first (b : Int) d3 (some (.str (chr 32))) ((b + 1 : Nat) : Int) (some (.tup [.int line, .int ((b : Int) - first + 1)])) d12 d13 d14 d15 d16 d17) (S0 ++ [.lst F]) =
        .nx (RV x f n line first (b : Int) d3 (some (.str (chr 32))) ((b + 1 : Nat) : Int) (some (.tup [.int line, .int ((b : Int) - first + 1)])) d12 d13 d14 d15 d16 d17) (S0 ++ [.lst F]) := fun A B => by
      simp only [x_if, x_tV, toB, bin2, M.bind, varM, var, M.pure, cM, M.op2, q10, show decide ((32 : Nat) = 10) = false from rfl, hmk, q32, decide_true, Bool.not_true, M.lift, asB, SR.of, Bool.false_eq_true, if_false, x_nil, List.getElem?_cons_succ, List.getElem?_cons_zero]
    rw [this, x_sbind_nx, e8]
  · by_cases c10 : c = 10
    · subst c10
      have et : tokAt f (10 :: r) = (("line" : Str), D.str "", (1 : Nat)) := by rw [tokAt_cons, if_pos rfl]
      have w1 : ("line" : Str) ≠ ("bad" : Str) := by decide +kernel
      have z4 : [D.str ("line" : Str), D.str ""].length + [D.int line, D.int ((b : Int) - first + 1)].length ≤ sizeLine := len_ok 4 (by decide)
      have hat := add_tups (S0 ++ [.lst F]) [D.str ("line" : Str), D.str ""] [.int line, .int ((b : Int) - first + 1)] z4
      have happ := app_last (F := F) hn (tkD ("line" : Str) (.str "") line ((b : Int) - first + 1)) hF
      refine ⟨some (.str (chr 10)), some (.tup [.int line, .int ((b : Int) - first + 1)]), d12, d13, d14, d15, d16, ?_⟩
      rw [if_neg c32, et, if_neg w1, if_pos rfl, if_pos rfl]
      simp only [x_seq, x_if, x_tV, toB, bin2, M.bind, varM, var, M.pure, cM, M.op2, q10, decide_true, M.lift, asB, SR.of, if_true, exprM, methM, M.guard, hty, consM, nilM, tupM, List.length_cons, List.length_nil, Nat.reduceAdd, z2, hat, List.cons_append, List.nil_append, M.opM, happ, x_sbind_nx, parM, add_ints, e1, x_set, List.set, List.getElem?_cons_succ, List.getElem?_cons_zero]
    · rw [decide_eq_false c10] at q10
      have wl1 := tok_line (most := f) (r := r) c10
      cases hm : mkB c with
      | true =>
        rw [hm] at hmk
        have et : tokAt f (c :: r) = (("mark" : Str), D.str (chr c), (1 : Nat)) := by rw [tokAt_cons, if_neg c10, if_pos hm]
        have w1 : ("mark" : Str) ≠ ("bad" : Str) := by decide +kernel
        have z4 : [D.str ("mark" : Str), D.str (chr c)].length + [D.int line, D.int ((b : Int) - first + 1)].length ≤ sizeLine := len_ok 4 (by decide)
        have hat := add_tups (S0 ++ [.lst F]) [D.str ("mark" : Str), D.str (chr c)] [.int line, .int ((b : Int) - first + 1)] z4
        have happ := app_last (F := F) hn (tkD ("mark" : Str) (.str (chr c)) line ((b : Int) - first + 1)) hF
        refine ⟨some (.str (chr c)), some (.tup [.int line, .int ((b : Int) - first + 1)]), d12, d13, d14, d15, d16, ?_⟩
        rw [if_neg c32, if_neg wl1, if_neg wl1, et, if_neg w1]
        simp only [x_seq, x_if, x_tV, toB, bin2, M.bind, varM, var, M.pure, cM, M.op2, q10, hmk, M.lift, asB, SR.of, if_true, Bool.false_eq_true, if_false, exprM, methM, M.guard, hty, consM, nilM, tupM, List.length_cons, List.length_nil, Nat.reduceAdd, z2, hat, List.cons_append, List.nil_append, M.opM, happ, x_sbind_nx, x_set, List.set, List.getElem?_cons_succ, List.getElem?_cons_zero]
      | false =>
        rw [hm] at hmk
        rw [decide_eq_false c32] at q32
        generalize ht : tokAt f (c :: r) = t at wl1 ⊢
        obtain ⟨w, cd, k⟩ := t
        obtain ⟨d12', d13', d14', d15', d16', er⟩ := runW_run (f := f) (n := n) (line := line) (first := first) (d3 := d3) (d12 := d12) (d13 := d13) (d14 := d14) (d15 := d15) (d16 := d16) (d17 := d17) hn hx hf hg hF h c32 c10 hm ht
        refine ⟨some (.str (chr c)), some (.tup [.int line, .int ((b : Int) - first + 1)]), d12', d13', d14', d15', d16', ?_⟩
        have : ∀ A B : MSt, ifM (tV (bin2 eqP (varM 9) (cM (.str "\n")))) A (ifM (tV (bin2 inP (varM 9) (cM (.str "(),")))) B (ifM (tV (bin2 neP (varM 9) (cM (.str " ")))) runW nilS)) (RV x f n line first (b : Int) d3 (some (.str (chr c))) ((b + 1 : Nat) : Int) (some (.tup [.int line, .int ((b : Int) - first + 1)])) d12 d13 d14 d15 d16 d17) (S0 ++ [.lst F]) =
            runW (RV x f n line first (b : Int) d3 (some (.str (chr c))) ((b + 1 : Nat) : Int) (some (.tup [.int line, .int ((b : Int) - first + 1)])) d12 d13 d14 d15 d16 d17) (S0 ++ [.lst F]) := fun A B => by
          simp only [x_if, x_tV, toB, bin2, M.bind, varM, var, M.pure, cM, M.op2, q10, hmk, q32, Bool.not_false, M.lift, asB, SR.of, Bool.false_eq_true, if_false, if_true, x_nil, List.getElem?_cons_succ, List.getElem?_cons_zero]
        rw [if_neg c32, if_neg wl1, if_neg wl1, x_seq, this, er]
        by_cases hw : w = ("bad" : Str)
        · rw [if_pos hw, if_pos hw]
          rfl
        · rw [if_neg hw, if_neg hw, x_sbind_nx, e8]
end
end PyM
set_option Elab.async false
set_option linter.all false
set_option maxRecDepth 100000
set_option maxHeartbeats 8000000
namespace PyM
open PySem PySem.Spec PyProof.Rows L2 TL
/-! ### the law's runs are the program's tokens -/
section
variable {x : Str} {f : Int} {n : Nat} {d17 : Option D} {S0 : Store}
theorem runE_run (hn : n = S0.length) (hx : x.length ≤ 1000000) {F : List D} (hF : F.length ≤ 1000000) {line first : Int} {b : Nat} (hb : b = x.length) {d3 d9 d10 d11 d12 d13 d14 d15 d16 : Option D} :
    runE (RV0 x f n line first (b : Int) d3 d9 d10 d11 d12 d13 d14 d15 d16 d17) (S0 ++ [.lst F]) = .rt (.lst (F ++ [tkD "end" (.str "") line ((b : Int) - first + 1)])) (S0 ++ [.lst F]) := by
  have hs := sizeLine_eq
  have hlen := len_str (S0 ++ [.lst F]) hx
  have z1 := len_ok 1 (by decide)
  have z4 := len_ok 4 (by decide)
  have hadd : addP (S0 ++ [.lst F]) (.loc n) (.lst [tkD "end" (.str "") line ((x.length : Int) - first + 1)]) = some (.lst (F ++ [tkD "end" (.str "") line ((x.length : Int) - first + 1)])) := by
    subst hn
    have e : asL (S0 ++ [.lst F]) (.loc S0.length) = some F := by
      unfold asL
      simp
    have e2 : asL (S0 ++ [.lst F]) (.lst [tkD "end" (.str "") line ((x.length : Int) - first + 1)]) = some [tkD "end" (.str "") line ((x.length : Int) - first + 1)] := rfl
    unfold addP
    simp only [e, e2]
    rw [if_pos (by simp; omega)]
  subst hb
  unfold runE
  simp only [x_ret, bin2, M.bind, varM, var, M.pure, cM, M.op2, lstM, consM, nilM, tupM, bltM, M.opL, hlen, sub_ints, add_ints, List.length_cons, List.length_nil, Nat.reduceAdd, z1, z4, if_true, hadd, SR.of, List.getElem?_cons_succ, List.getElem?_cons_zero]
theorem runs_loop (hn : n = S0.length) (hx : x.length ≤ 100000) (hf : f ≤ 40) (hg : Sg (tl x)) : ∀ (ks : List D) (rest : List Nat) (b : Nat) (line first : Int) (F : List D) (d3 d9 d10 d11 d12 d13 d14 d15 d16 : Option D), (tl x).drop b = rest → b ≤ x.length → rest.length ≤ ks.length → F.length + ks.length ≤ 1000000 →
    ∃ d F', SR.bind (loopS (fun _ => true) (gN 3) runB ks (RV0 x f n line first (b : Int) d3 d9 d10 d11 d12 d13 d14 d15 d16 d17) (S0 ++ [.lst F])) runE = .rt d (S0 ++ [.lst F']) ∧ tupleP (S0 ++ [.lst F']) [d] = some (.tup (F ++ scanF f ks.length rest line ((b : Int) - first)))
  | [], [], b, line, first, F, d3, d9, d10, d11, d12, d13, d14, d15, d16, h, hb, _, hF => by
    have hl := List.drop_eq_nil_iff.mp h
    rw [← len_tl] at hl
    refine ⟨.lst (F ++ [tkD "end" (.str "") line ((b : Int) - first + 1)]), F, ?_, ?_⟩
    · unfold loopS
      simp only [if_true, x_sbind_nx]
      exact runE_run hn (by omega) (by simp at hF; omega) (by omega)
    · rw [scanF_nil, tuple_lst]
  | [], c :: r, b, line, first, F, d3, d9, d10, d11, d12, d13, d14, d15, d16, h, hb, hr, hF => by
    simp at hr
  | k :: ks, [], b, line, first, F, d3, d9, d10, d11, d12, d13, d14, d15, d16, h, hb, _, hF => by
    have hl := List.drop_eq_nil_iff.mp h
    rw [← len_tl] at hl
    rw [List.length_cons] at hF
    obtain ⟨d, F', e1, e2⟩ := runs_loop hn hx hf hg ks [] b line first F (some k) d9 d10 d11 d12 d13 d14 d15 d16 h hb (Nat.zero_le _) (by omega)
    refine ⟨d, F', ?_, ?_⟩
    · rw [← e1]
      unfold loopS
      simp only [gN, List.set, if_true]
      rw [runB_ct (by omega) hl]
      cases ks <;> rfl
    · rw [e2, scanF_nil, scanF_nil]
  | k :: ks, c :: r, b, line, first, F, d3, d9, d10, d11, d12, d13, d14, d15, d16, h, hb, hr, hF => by
    obtain ⟨h1, h2, h3⟩ := drop_get h
    rw [← len_tl] at h3
    simp only [List.length_cons] at hr hF
    obtain ⟨a9, a11, a12, a13, a14, a15, a16, er⟩ := runB_run (f := f) (n := n) (line := line) (first := first) (d3 := some k) (d9 := d9) (d10 := d10) (d11 := d11) (d12 := d12) (d13 := d13) (d14 := d14) (d15 := d15) (d16 := d16) (d17 := d17) hn (by omega : x.length ≤ 1000000) hf hg (F := F) (by omega) h
    rw [List.length_cons, scanF_cons]
    have hstep : ∀ (m : MSt), SR.bind (loopS (fun _ => true) (gN 3) runB (k :: ks) (RV0 x f n line first (b : Int) d3 d9 d10 d11 d12 d13 d14 d15 d16 d17) (S0 ++ [.lst F])) m =
        SR.bind (match runB (RV0 x f n line first (b : Int) (some k) d9 d10 d11 d12 d13 d14 d15 d16 d17) (S0 ++ [.lst F]) with
          | .nx ρ2 S2 => loopS (fun _ => true) (gN 3) runB ks ρ2 S2
          | .ct ρ2 S2 => loopS (fun _ => true) (gN 3) runB ks ρ2 S2
          | .bk ρ2 S2 => .nx ρ2 S2
          | r => r) m := fun m => by
      conv => lhs; unfold loopS
      simp only [gN, List.set, if_true]
      all_goals (cases ks <;> rfl)
    rw [hstep, er]
    by_cases c32 : c = 32
    · rw [if_pos c32, if_pos c32]
      obtain ⟨d, F', e1, e2⟩ := runs_loop hn hx hf hg ks r (b + 1) line first F (some k) a9 (some (.int ((b + 1 : Nat) : Int))) a11 a12 a13 a14 a15 a16 h2 (by omega) (by omega) (by omega)
      have ec : ((b + 1 : Nat) : Int) - first = (b : Int) - first + 1 := by omega
      rw [ec] at e2
      exact ⟨d, F', e1, e2⟩
    · rw [if_neg c32, if_neg c32]
      by_cases w1 : (tokAt f (c :: r)).1 = ("bad" : Str)
      · rw [if_pos w1, if_pos w1]
        exact ⟨_, _, rfl, tup_last hn⟩
      · obtain ⟨k1, k2⟩ := tok_eats f w1
        rw [List.length_cons] at k2
        rw [if_neg w1, if_neg w1]
        have hlr : r.length + 1 = x.length - b := by
          have := congrArg List.length h
          rw [List.length_drop, ← len_tl, List.length_cons] at this
          omega
        have hd : (tl x).drop (b + (tokAt f (c :: r)).2.2) = (c :: r).drop (tokAt f (c :: r)).2.2 := by rw [← List.drop_drop, h]
        generalize (tokAt f (c :: r)).2.2 = kk at *
        generalize (tokAt f (c :: r)).2.1 = cd at *
        generalize (tokAt f (c :: r)).1 = w at *
        obtain ⟨d, F', e1, e2⟩ := runs_loop hn hx hf hg ks ((c :: r).drop kk) (b + kk) (if w = ("line" : Str) then line + 1 else line) (if w = ("line" : Str) then ((b + kk : Nat) : Int) else first) (F ++ [tkD w cd line ((b : Int) - first + 1)]) (some k) a9 (some (.int ((b + kk : Nat) : Int))) a11 a12 a13 a14 a15 a16 hd (by omega) (by rw [List.length_drop, List.length_cons]; omega) (by rw [List.length_append, List.length_singleton]; omega)
        have ec : ((b + kk : Nat) : Int) - (if w = ("line" : Str) then ((b + kk : Nat) : Int) else first) = if w = ("line" : Str) then 0 else (b : Int) - first + (kk : Int) := by
          split <;> omega
        rw [ec, List.append_assoc, List.singleton_append] at e2
        exact ⟨d, F', e1, e2⟩
end
theorem law_runs_run (S : Store) {x : Str} (hx : x.length ≤ 100000) {f : Int} (hf : f ≤ 40) (hg : Sg (tl x)) :
    ∃ d F', m__law_runs [.str x, .int f] S = .ok d (S ++ [.lst F']) ∧ tupleP (S ++ [.lst F']) [d] = some (.tup (scanF f x.length (tl x) 1 0)) := by
  have hs := sizeLine_eq
  have ok : rngOk (x.length : Int) := by unfold rngOk; omega
  have z0 := len_ok 0 (by decide)
  have z5 := len_ok 5 (by decide)
  have hl : (srcR 0 (x.length : Int)).items.length = x.length := by unfold srcR; simp
  obtain ⟨d, F', e1, e2⟩ := runs_loop (x := x) (f := f) (n := S.length) (S0 := S) (d17 := none) rfl hx hf hg (srcR 0 (x.length : Int)).items (tl x) 0 1 0 [] none none none none none none none none none rfl (Nat.zero_le _) (by rw [hl, ← len_tl]; exact Nat.le_refl _) (by rw [hl]; simp; omega)
  refine ⟨d, F', ?_, by rw [hl] at e2; exact e2⟩
  rw [runs_body, x_body]
  have hlen := len_str (S ++ [.lst []]) (x := x) (by omega)
  have sA : runA [some (.str x), some (.int f), some (.str wordsT), none, none, none, none, none, none, none, none, none, none, none, none, none, none, none] S = .nx (RV0 x f S.length 1 0 0 none none none none none none none none none none) (S ++ [.lst []]) := by
    unfold runA
    simp only [cellM, nilM, M.bind, M.pure, newCell, List.length_nil, z0, if_true, SR.of, asgM, tupM, consM, cM, List.length_cons, Nat.reduceAdd, z5, gT, gs1, gs0, gN, Option.bind, SR.opt, List.set]
  have sF : forM (rngI1 (consM (bltM lenP (consM (varM 0) nilM)) nilM)) (gN 3) runB (RV0 x f S.length 1 0 0 none none none none none none none none none none) (S ++ [.lst []]) = loopS (fun _ => true) (gN 3) runB (srcR 0 (x.length : Int)).items (RV0 x f S.length 1 0 0 none none none none none none none none none none) (S ++ [.lst []]) := by
    unfold forM
    have : rngI1 (consM (bltM lenP (consM (varM 0) nilM)) nilM) (RV0 x f S.length 1 0 0 none none none none none none none none none none) (S ++ [.lst []]) = .ok (srcR 0 (x.length : Int)) (S ++ [.lst []]) := by
      simp only [rngI1, consM, nilM, M.bind, varM, var, M.pure, bltM, M.opL, hlen, srcR1, ok, if_true, List.getElem?_cons_succ, List.getElem?_cons_zero]
    rw [this]
    rfl
  show (SR.bind (.nx [some (.str x), some (.int f), some (.str wordsT), none, none, none, none, none, none, none, none, none, none, none, none, none, none, none] S) _).out = _
  rw [x_sbind_nx, x_seq, sA, x_sbind_nx, x_seq, sF]
  rw [show SR.bind (loopS (fun _ => true) (gN 3) runB (srcR 0 (x.length : Int)).items (RV0 x f S.length 1 0 0 none none none none none none none none none none) (S ++ [.lst []])) runE = _ from e1]
  rfl
end PyM
set_option Elab.async false
set_option linter.all false
set_option maxRecDepth 100000
set_option maxHeartbeats 8000000
namespace PyM
open PySem PySem.Spec PyProof.Rows L2 TL
/-! ### tokens written out -/
theorem numT_len {i : Int} (h : i.natAbs < 10 ^ 40) : (numT i).length ≤ 41 := by
  cases i with
  | ofNat n =>
    have hl := numL_len (k := 40) (n := n) (by decide) h
    have e := num_pos n
    rw [len_tl]
    show (tl (numT (n : Int))).length ≤ _
    rw [e]
    omega
  | negSucc n =>
    have hl := numL_len (k := 40) (n := n + 1) (by decide) h
    rw [len_tl, num_neg, List.length_cons]
    omega
theorem sh_int {i : Int} (h : i.natAbs < 10 ^ 40) (n : Nat) : ShD n 90 (.int i) := fun S => by
  refine ⟨.int i, rfl, rfl, ?_, Nat.zero_le _, ?_⟩
  · show decide (i.natAbs.log2 < 1920) = true
    refine decide_eq_true ?_
    by_cases h0 : i.natAbs = 0
    · rw [h0]; decide
    · have : i.natAbs < 2 ^ 160 := Nat.lt_of_lt_of_le h (by decide)
      exact Nat.lt_trans ((Nat.log2_lt h0).mpr this) (by decide)
  · exact Nat.le_trans (numT_len h) (by decide)
theorem sh_str {r : List Nat} (h : r.length ≤ 8) (hg : Sg r) (n : Nat) : ShD n 90 (.str (mk r)) := fun S => by
  refine ⟨.str (mk r), rfl, ?_, rfl, Nat.zero_le _, ?_⟩
  · show PyData.strOk (mk r) = true
    unfold PyData.strOk
    simp only [List.all_toArray', List.all_eq_true, decide_eq_true_eq]
    exact fun c hc => hg c hc
  · show (reprText (mk r)).length ≤ _
    have h1 : (reprText (mk r)).length ≤ 10 * (mk r).length + 2 := PySem.StrLaws.reprText_len (mk r) (fun c hc => Nat.lt_of_lt_of_le (hg c (by simpa using hc)) (by decide))
    have h2 : (mk r).length = r.length := mk_len r
    rw [h2] at h1
    exact Nat.le_trans h1 (by omega)
theorem lnd_sg {r : List Nat} (h : r.all lnd = true) : Sg r := fun c hc => by
  have := List.all_eq_true.mp h c hc
  unfold lnd letB dgB at this
  simp at this
  omega
theorem val_lt : ∀ (r : List Nat) (a : Nat), r.all dgB = true → r.foldl (fun acc c => acc * 10 + (c - 48)) a < (a + 1) * 10 ^ r.length
  | [], a, _ => by simp
  | c :: r, a, h => by
    rw [List.all_cons, Bool.and_eq_true] at h
    have hc : 48 ≤ c ∧ c ≤ 57 := of_decide_eq_true h.1
    have ih := val_lt r (a * 10 + (c - 48)) h.2
    rw [List.foldl_cons, List.length_cons, Nat.pow_succ]
    refine Nat.lt_of_lt_of_le ih ?_
    rw [Nat.mul_comm (10 ^ r.length) 10, ← Nat.mul_assoc]
    exact Nat.mul_le_mul_right _ (by omega)
theorem fig_val {f : Int} (hf : f ≤ 40) {r : List Nat} (h : figB f r = true) : (valN r).natAbs < 10 ^ 40 ∧ (0 - valN r).natAbs < 10 ^ 40 := by
  unfold figB at h
  simp only [Bool.and_eq_true, decide_eq_true_eq] at h
  obtain ⟨h1, ⟨h2, h3⟩, _⟩ := h
  have hl : r.length ≤ 40 := by omega
  have hv := val_lt r 0 h1
  have : NumText.digitsVal r < 10 ^ 40 := by
    refine Nat.lt_of_lt_of_le hv ?_
    rw [Nat.zero_add, Nat.one_mul]
    exact Nat.pow_le_pow_right (by decide) hl
  unfold valN
  omega
theorem sh_runTok {f : Int} (hf : f ≤ 40) (r : List Nat) (n : Nat) : ShD n 90 (.str (runTok f r).1) ∧ ShD n 90 (runTok f r).2 := by
  have k1 : ShD n 90 (.str ("key" : Str)) := sh_str (r := tl "key") (by decide) (by unfold Sg; decide +kernel) n
  have k2 : ShD n 90 (.str ("name" : Str)) := sh_str (r := tl "name") (by decide) (by unfold Sg; decide +kernel) n
  have k3 : ShD n 90 (.str ("number" : Str)) := sh_str (r := tl "number") (by decide) (by unfold Sg; decide +kernel) n
  have k4 : ShD n 90 (.str ("bad" : Str)) := sh_str (r := tl "bad") (by decide) (by unfold Sg; decide +kernel) n
  have k5 : ShD n 90 (.str ("" : Str)) := sh_str (r := []) (by decide) (by unfold Sg; decide) n
  unfold runTok
  split
  · rename_i h
    exact ⟨k1, sh_str (res_len h) (lnd_sg (res_lnd h).1) n⟩
  split
  · rename_i h
    unfold nameB at h
    simp only [Bool.and_eq_true, decide_eq_true_eq] at h
    exact ⟨k2, sh_str h.1.2 (lnd_sg h.2.2) n⟩
  split
  · rename_i h
    exact ⟨k3, sh_int (fig_val hf h).1 n⟩
  · exact ⟨k4, k5⟩
theorem sh_tok {f : Int} (hf : f ≤ 40) (c : Nat) (r : List Nat) (n : Nat) : ShD n 90 (.str (tokAt f (c :: r)).1) ∧ ShD n 90 (tokAt f (c :: r)).2.1 := by
  have k1 : ShD n 90 (.str ("line" : Str)) := sh_str (r := tl "line") (by decide) (by unfold Sg; decide +kernel) n
  have k2 : ShD n 90 (.str ("mark" : Str)) := sh_str (r := tl "mark") (by decide) (by unfold Sg; decide +kernel) n
  have k3 : ShD n 90 (.str ("below" : Str)) := sh_str (r := tl "below") (by decide) (by unfold Sg; decide +kernel) n
  have k4 : ShD n 90 (.str badT.1) := sh_str (r := tl "bad") (by decide) (by unfold Sg; decide +kernel) n
  have k5 : ShD n 90 (.str ("" : Str)) := sh_str (r := []) (by decide) (by unfold Sg; decide) n
  rw [tokAt_cons]
  split
  · exact ⟨k1, k5⟩
  split
  · rename_i h
    refine ⟨k2, sh_str (r := [c]) (by simp) (fun z hz => ?_) n⟩
    rw [List.mem_singleton.mp hz]
    unfold mkB at h
    simp at h
    omega
  split
  · split
    · rename_i h
      exact ⟨k3, sh_int (fig_val hf h.1).2 n⟩
    · exact ⟨k4, k5⟩
  split
  · exact sh_runTok hf _ n
  · exact ⟨k4, k5⟩
theorem sh_tk {w : Str} {cd : D} {line col : Int} (h1 : ShD 0 90 (.str w)) (h2 : ShD 0 90 cd) (h3 : line.natAbs < 10 ^ 40) (h4 : col.natAbs < 10 ^ 40) : ShD 1 380 (tkD w cd line col) :=
  (sh_tup (.cons h1 (.cons h2 (.cons (sh_int h3 0) (.cons (sh_int h4 0) .nil))))).mono (Nat.le_refl _) (by decide)
theorem sh_end (n : Nat) : ShD n 90 (.str ("end" : Str)) ∧ ShD n 90 (.str ("" : Str)) := ⟨sh_str (r := tl "end") (by decide) (by unfold Sg; decide +kernel) n, sh_str (r := []) (by decide) (by unfold Sg; decide) n⟩
theorem scan_sh {f : Int} (hf : f ≤ 40) : ∀ (n : Nat) (l : List Nat) (line col : Int), l.length ≤ n → 0 ≤ line → 0 ≤ col → line + l.length ≤ 100000 → col + l.length ≤ 100000 → ∃ W, ShL 1 (scanF f n l line col) W ∧ W ≤ 382 * (n + 1)
  | n, [], line, col, _, h1, h2, h3, h4 => by
    simp only [List.length_nil] at h3 h4
    rw [scanF_nil]
    exact ⟨_, .cons (sh_tk (sh_end 0).1 (sh_end 0).2 (by omega) (by omega)) .nil, by omega⟩
  | 0, c :: l, line, col, h0, _, _, _, _ => by simp at h0
  | n + 1, c :: l, line, col, h0, h1, h2, h3, h4 => by
    rw [List.length_cons] at h0 h3 h4
    rw [scanF_cons]
    by_cases c32 : c = 32
    · rw [if_pos c32]
      obtain ⟨W, g1, g2⟩ := scan_sh hf n l line (col + 1) (by omega) h1 (by omega) (by omega) (by omega)
      exact ⟨W, g1, by omega⟩
    · rw [if_neg c32]
      obtain ⟨s1, s2⟩ := sh_tok hf c l 0
      have st := sh_tk (line := line) (col := col + 1) s1 s2 (by omega) (by omega)
      by_cases w1 : (tokAt f (c :: l)).1 = ("bad" : Str)
      · rw [if_pos w1]
        exact ⟨_, .cons st .nil, by omega⟩
      · rw [if_neg w1]
        obtain ⟨k1, k2⟩ := tok_eats f w1
        rw [List.length_cons] at k2
        generalize (tokAt f (c :: l)).2.2 = k at *
        generalize (tokAt f (c :: l)).2.1 = cd at *
        generalize (tokAt f (c :: l)).1 = w at *
        have hdl : ((c :: l).drop k).length = l.length + 1 - k := by rw [List.length_drop, List.length_cons]
        obtain ⟨W, g1, g2⟩ := scan_sh hf n ((c :: l).drop k) (if w = ("line" : Str) then line + 1 else line) (if w = ("line" : Str) then 0 else col + (k : Int)) (by omega) (by split <;> omega) (by split <;> omega) (by rw [hdl]; split <;> omega) (by rw [hdl]; split <;> omega)
        exact ⟨_, .cons st g1, by omega⟩
end PyM
set_option Elab.async false
set_option linter.all false
set_option maxRecDepth 100000
set_option maxHeartbeats 8000000
namespace PyM
open PySem PySem.Spec PyProof.Rows L2 TL
/-! ### the law's turns -/
noncomputable def looseM : MSt := (setM 3 (callM 2 m__law_loose (consM (varM 1) (consM (callM 1 m__law_shop_text (consM (callM 1 m__law_big_shop (consM (varM 1) nilM)) nilM)) nilM))))
noncomputable def bentT : MSt := (setM 3 (ifV (tV (bin2 eqP (callM 2 m__law_take (consM (varM 1) (consM (cM (.int 2)) nilM))) (cM (.int 0)))) (callM 2 m__law_bent_text (consM (varM 1) (consM (varM 3) nilM))) (varM 3)))
noncomputable def i6M : MSt := (setM 6 (callM 2 m__law_take (consM (varM 1) (consM (bin2 addP (bltM lenP (consM (varM 3) nilM)) (cM (.int 1))) nilM))))
noncomputable def moreL : Env' → M D := (lstM (consM (cM (.str "-")) (consM (cM (.str "- 3")) (consM (cM (.str "-0")) (consM (cM (.str "-07")) (consM (cM (.str "-12")) (consM (cM (.str "	")) (consM (bin2 mulP2 (cM (.str "a")) (cM (.int 9))) (consM (cM (.str "1234567")) (consM (cM (.str "12345678")) (consM (cM (.str "00")) (consM (cM (.str "0a")) (consM (cM (.str "9 9")) (consM (cM (.str "_")) (consM (cM (.str "

")) (consM (cM (.str "--1")) nilM))))))))))))))))
noncomputable def i7M : MSt := setM 7 (callM 2 m__law_some (consM (varM 1) (consM moreL nilM)))
noncomputable def i3M : MSt := (setM 3 (bin2 addP (bin2 addP (slM (varM 3) noP (opP (varM 6))) (varM 7)) (slM (varM 3) (opP (varM 6)) noP)))
noncomputable def insM : MSt := (ifM (tV (bin2 eqP (callM 2 m__law_take (consM (varM 1) (consM (cM (.int 2)) nilM))) (cM (.int 0))))
  (seqM (setM 6 (callM 2 m__law_take (consM (varM 1) (consM (bin2 addP (bltM lenP (consM (varM 3) nilM)) (cM (.int 1))) nilM))))
  (seqM (setM 7 (callM 2 m__law_some (consM (varM 1) (consM (lstM (consM (cM (.str "-")) (consM (cM (.str "- 3")) (consM (cM (.str "-0")) (consM (cM (.str "-07")) (consM (cM (.str "-12")) (consM (cM (.str "	")) (consM (bin2 mulP2 (cM (.str "a")) (cM (.int 9))) (consM (cM (.str "1234567")) (consM (cM (.str "12345678")) (consM (cM (.str "00")) (consM (cM (.str "0a")) (consM (cM (.str "9 9")) (consM (cM (.str "_")) (consM (cM (.str "

")) (consM (cM (.str "--1")) nilM)))))))))))))))) nilM))))
  (setM 3 (bin2 addP (bin2 addP (slM (varM 3) noP (opP (varM 6))) (varM 7)) (slM (varM 3) (opP (varM 6)) noP)))))
  nilS)
noncomputable def figsM : MSt := (setM 4 (callM 2 m__law_some (consM (varM 1) (consM (lstM (consM (cM (.int 0)) (consM (cM (.int 1)) (consM (cM (.int 7)) (consM (cM (.int 7)) (consM (cM (.int 30)) nilM)))))) nilM))))
noncomputable def alikeM : MSt := (ifM (notT (tV (callM 2 m__law_alike (consM (callM 2 m_tokens (consM (varM 3) (consM (varM 4) nilM))) (consM (bltM tupleP (consM (callM 2 m__law_runs (consM (varM 3) (consM (varM 4) nilM))) nilM)) nilM)))))
  (retM (cM (.bl false)))
  nilS)
noncomputable def oddT : MSt := (tryM subT (seqM (exprM (callM 2 m_tokens (consM (bin2 ixP (varM 5) (cM (.int 0))) (consM (bin2 ixP (varM 5) (cM (.int 1))) nilM))))
  (retM (cM (.bl false)))) [⟨"Nothing", none, fun a dx c fn ds => ctM⟩])
noncomputable def oddM : MSt := (forM (seqI (tupM (consM (tupM (consM (cM .non) (consM (cM (.int 5)) nilM))) (consM (tupM (consM (cM (.int 7)) (consM (cM (.int 5)) nilM))) (consM (tupM (consM (varM 3) (consM (un1 negP (cM (.int 1))) nilM))) (consM (tupM (consM (varM 3) (consM (cM .non) nilM))) (consM (tupM (consM (varM 3) (consM (cM (.bl true)) nilM))) (consM (tupM (consM (lstM (consM (varM 3) nilM)) (consM (cM (.int 9)) nilM))) nilM)))))))) (gN 5)
  (tryM subT (seqM (exprM (callM 2 m_tokens (consM (bin2 ixP (varM 5) (cM (.int 0))) (consM (bin2 ixP (varM 5) (cM (.int 1))) nilM))))
  (retM (cM (.bl false)))) [⟨"Nothing", none, fun a dx c fn ds => ctM⟩]))
noncomputable def turnB : MSt := seqM looseM (seqM bentT (seqM insM (seqM figsM (seqM alikeM oddM))))
theorem law_eq (ds : List D) (S : Store) : m_law ds S = bodyM 9 (seqM (setM 1 (callM 1 m__law_bag (consM (varM 0) nilM))) (seqM (forM (rngI1 (consM (cM (.int 6)) nilM)) (gN 2) turnB) lastM)) ds S := rfl
theorem ins_eq : insM = ifM (tV (bin2 eqP (callM 2 m__law_take (consM (varM 1) (consM (cM (.int 2)) nilM))) (cM (.int 0)))) (seqM i6M (seqM i7M i3M)) nilS := rfl
abbrev TV (d0 d2 : Option D) (x : D) (d4 d5 d6 d7 d8 : Option D) : Env' := [d0, some (.loc 0), d2, some x, d4, d5, d6, d7, d8]
section
variable {S R : Store} {x : Str} {d0 d2 d3 d4 d5 d6 d7 d8 : Option D}
theorem loose_step (hb : Bag S R) : ∃ x S' R', looseM [d0, some (.loc 0), d2, d3, d4, d5, d6, d7, d8] S = .nx (TV d0 d2 (.str x) d4 d5 d6 d7 d8) S' ∧ Bag S' R' ∧ x.length ≤ 4632 ∧ 0 < nb (tl x) ∧ nb (tl x) ≤ 2316 ∧ Sg (tl x) ∧ ∃ a, ra 20 (tl x) = some a := by
  obtain ⟨xs, es, ts, sh, S1, R1, e1, ok, b1⟩ := shop_draw hb
  have e2 := shop_text_run S1 ok
  obtain ⟨l1, l2⟩ := lines_len ok
  have hj := join_len "\n" (shopLines xs es ts sh)
  have o1 : ("\n" : Str).length = 1 := rfl
  have hnl := nb_sum_le (shopLines xs es ts sh)
  obtain ⟨x, S2, e3, b2, h1, h2, h3, h4, h5⟩ := loose_run (ls := shopLines xs es ts sh) (L := 440) b1 (by unfold shopLines; simp) (lines_tx ok) (by omega) (by rw [o1] at hj; omega) (lines_nb ok)
  refine ⟨x, S2, R1, ?_, b2, by omega, h2, by omega, h4, h5⟩
  unfold looseM
  simp only [x_set, callM, List.length_cons, List.length_nil, Nat.reduceAdd, if_true, consM, nilM, M.bind, varM, var, M.pure, e1, e2, e3, SR.of, List.getElem?_cons_succ, List.getElem?_cons_zero, List.set]
theorem bent_step (hb : Bag S R) (hx : x.length ≤ 4632) (h0 : 0 < nb (tl x)) (hn : nb (tl x) ≤ 2316) (hg : Sg (tl x)) (hr : ∃ a, ra 20 (tl x) = some a) :
    ∃ y S' R', bentT (TV d0 d2 (.str x) d4 d5 d6 d7 d8) S = .nx (TV d0 d2 (.str y) d4 d5 d6 d7 d8) S' ∧ Bag S' R' ∧ y.length ≤ 4674 ∧ Sg (tl y) := by
  obtain ⟨v, S1, e1, v0, v1, b1⟩ := take_any (many := 2) hb (by decide) (by decide)
  unfold bentT
  by_cases hv : v = 0
  · obtain ⟨y, S2, R2, e2, b2, l2, g2⟩ := bent_run (x := x) b1 (by omega) hr h0 hg
    refine ⟨y, S2, R2, ?_, b2, by omega, g2⟩
    simp only [x_set, ifV, x_tV, toB, bin2, M.op2, eq_ints, decide_eq_true hv, M.lift, asB, cM, callM, List.length_cons, List.length_nil, Nat.reduceAdd, if_true, consM, nilM, M.bind, varM, var, M.pure, e1, e2, SR.of, if_true, List.getElem?_cons_succ, List.getElem?_cons_zero, List.set]
  · refine ⟨x, S1, R, ?_, b1, by omega, hg⟩
    simp only [x_set, ifV, x_tV, toB, bin2, M.op2, eq_ints, decide_eq_false hv, M.lift, asB, cM, callM, List.length_cons, List.length_nil, Nat.reduceAdd, if_true, consM, nilM, M.bind, varM, var, M.pure, e1, SR.of, Bool.false_eq_true, if_false, List.getElem?_cons_succ, List.getElem?_cons_zero, List.set]
def moreW : List Str := ["-", "- 3", "-0", "-07", "-12", "\t", "aaaaaaaaa", "1234567", "12345678", "00", "0a", "9 9", "_", "\n\n", "--1"]
theorem more_ok : ∀ y ∈ moreW, y.length ≤ 9 ∧ Sg (tl y) := fun y hy => by
  have : moreW.all (fun y => decide (y.length ≤ 9) && (tl y).all fun c => decide (c < 1114112)) = true := by decide +kernel
  have := List.all_eq_true.mp this y hy
  rw [Bool.and_eq_true] at this
  exact ⟨of_decide_eq_true this.1, fun c hc => of_decide_eq_true (List.all_eq_true.mp this.2 c hc)⟩
theorem more_run (ρ : Env') (S : Store) : moreL ρ S = .ok (.lst (moreW.map .str)) S := by
  have h15 := len_ok 15 (by decide)
  have ha : mulP2 S (.str "a") (.int 9) = some (.str "aaaaaaaaa") := by
    have e : strRep "a" 9 = "aaaaaaaaa" := by decide +kernel
    have hs := sizeLine_eq
    have h1 : ("a" : Str).length = 1 := rfl
    unfold mulP2
    simp only
    rw [if_pos (by rw [h1]; omega)]
    show some (D.str (strRep "a" 9)) = _
    rw [e]
  unfold moreL
  simp only [lstM, consM, nilM, M.bind, M.pure, cM, bin2, M.op2, ha, List.length_cons, List.length_nil, Nat.reduceAdd, h15, if_true]
  rfl
theorem cut_to (x : Str) (j : Nat) : tl (cutS x none (some (j : Int))) = (tl x).take j := by
  have e1 : HT.sIx x.length 0 none = 0 := rfl
  have e2 : HT.sIx x.length x.length (some (j : Int)) = min j x.length := HT.sIx_nat _ _ _
  unfold cutS
  rw [tl_mk, e1, e2, Nat.sub_zero, List.drop_zero, len_tl]
  show (tl x).take _ = _
  rw [← List.take_eq_take_min]
theorem cut_fr (x : Str) (j : Nat) : tl (cutS x (some (j : Int)) none) = (tl x).drop j := by
  have e1 : HT.sIx x.length 0 (some (j : Int)) = min j x.length := HT.sIx_nat _ _ _
  have e2 : HT.sIx x.length x.length none = x.length := rfl
  unfold cutS
  rw [tl_mk, e1, e2, len_tl]
  show ((tl x).drop _).take _ = _
  by_cases h : j ≤ (tl x).length
  · rw [Nat.min_eq_left h]
    exact List.take_of_length_le (by rw [List.length_drop]; omega)
  · rw [Nat.min_eq_right (by omega), List.drop_eq_nil_of_le (Nat.le_refl _), List.drop_eq_nil_of_le (by omega), List.take_nil]
theorem ins_step (hb : Bag S R) (hx : x.length ≤ 4674) (hg : Sg (tl x)) :
    ∃ y e6 e7 S', insM (TV d0 d2 (.str x) d4 d5 d6 d7 d8) S = .nx (TV d0 d2 (.str y) d4 d5 e6 e7 d8) S' ∧ Bag S' R ∧ y.length ≤ 6000 ∧ Sg (tl y) := by
  obtain ⟨v, S1, e1, v0, v1, b1⟩ := take_any (many := 2) hb (by decide) (by decide)
  rw [ins_eq]
  by_cases hv : v = 0
  · obtain ⟨a, S2, e2, a0, a1, b2⟩ := take_any (many := (x.length : Int) + 1) b1 (by omega) (by omega)
    obtain ⟨j, rfl⟩ : ∃ j : Nat, a = (j : Int) := ⟨a.toNat, by omega⟩
    obtain ⟨d, S3, e3, hd, b3⟩ := some_any (things := .lst (moreW.map .str)) (ds := moreW.map .str) b2 (.inr rfl) (by decide) (by decide)
    obtain ⟨m, hm, rfl⟩ := List.mem_map.mp hd
    obtain ⟨m1, m2⟩ := more_ok m hm
    have hlen := len_str S1 (x := x) (by omega)
    have s1 := slS_run S3 (x := x) (by omega) none (some (j : Int))
    have s2 := slS_run S3 (x := x) (by omega) (some (j : Int)) none
    have t1 := cut_to x j
    have t2 := cut_fr x j
    generalize cutS x none (some (j : Int)) = y1 at *
    generalize cutS x (some (j : Int)) none = y2 at *
    have l1 : y1.length ≤ x.length := by rw [len_tl, t1, List.length_take, len_tl]; omega
    have l2 : y1.length + y2.length = x.length := by
      rw [len_tl, len_tl, t1, t2, ← List.length_append, List.take_append_drop, len_tl]
    have p1 := add_l S3 (x := y1) (y := m) (by omega)
    have p2 := add_l S3 (x := y1 ++ m) (y := y2) (by rw [str_len]; omega)
    refine ⟨y1 ++ m ++ y2, some (.int (j : Int)), some (.str m), S3, ?_, b3, by rw [str_len, str_len]; omega, ?_⟩
    · unfold i6M i7M i3M
      simp only [x_if, x_seq, x_set, x_tV, toB, bin2, M.op2, eq_ints, decide_eq_true hv, M.lift, asB, cM, callM, List.length_cons, List.length_nil, Nat.reduceAdd, if_true, consM, nilM, M.bind, varM, var, M.pure, e1, SR.of, if_true, bltM, M.opL, hlen, add_ints, e2, x_sbind_nx, more_run, e3, slM, opP, noP, optI, asI, Option.map_some, opS, s1, s2, p1, p2, List.getElem?_cons_succ, List.getElem?_cons_zero, List.set]
    · rw [tl_append, tl_append, t1, t2]
      exact Sg.append (Sg.append (fun z hz => hg z (List.mem_of_mem_take hz)) m2) fun z hz => hg z (List.mem_of_mem_drop hz)
  · refine ⟨x, d6, d7, S1, ?_, b1, by omega, hg⟩
    simp only [x_if, x_tV, toB, bin2, M.op2, eq_ints, decide_eq_false hv, M.lift, asB, cM, callM, List.length_cons, List.length_nil, Nat.reduceAdd, if_true, consM, nilM, M.bind, varM, var, M.pure, e1, SR.of, Bool.false_eq_true, if_false, x_nil, List.getElem?_cons_succ, List.getElem?_cons_zero]
theorem figs_step (hb : Bag S R) {d3 : D} : ∃ f S', figsM (TV d0 d2 d3 d4 d5 d6 d7 d8) S = .nx (TV d0 d2 d3 (some (.int f)) d5 d6 d7 d8) S' ∧ Bag S' R ∧ 0 ≤ f ∧ f ≤ 40 := by
  obtain ⟨d, S1, e1, hd, b1⟩ := some_any (things := .lst [.int 0, .int 1, .int 7, .int 7, .int 30]) (ds := [.int 0, .int 1, .int 7, .int 7, .int 30]) hb (.inr rfl) (by decide) (by decide)
  have h5 := len_ok 5 (by decide)
  have hf : ∃ f, d = .int f ∧ 0 ≤ f ∧ f ≤ 40 := by
    simp at hd
    rcases hd with rfl | rfl | rfl | rfl <;> exact ⟨_, rfl, by decide, by decide⟩
  obtain ⟨f, rfl, f0, f1⟩ := hf
  refine ⟨f, S1, ?_, b1, f0, f1⟩
  unfold figsM
  simp only [x_set, lstM, cM, callM, List.length_cons, List.length_nil, Nat.reduceAdd, if_true, consM, nilM, M.bind, varM, var, M.pure, List.length_cons, List.length_nil, Nat.reduceAdd, h5, if_true, e1, SR.of, List.getElem?_cons_succ, List.getElem?_cons_zero, List.set]
end
end PyM
set_option Elab.async false
set_option linter.all false
set_option maxRecDepth 100000
set_option maxHeartbeats 8000000
namespace PyM
open PySem PySem.Spec PyProof.Rows L2 TL
/-! ### the law's turns, all -/
theorem alike_same {n w : Nat} {ds : List D} (h : ShD n w (.tup ds)) (hn : n ≤ 60) (hw : w ≤ 10000000) (S : Store) : m__law_alike [.tup ds, .tup ds] S = .ok (.bl true) S := by
  obtain ⟨p, h1, h2, h3, h4, h5⟩ := h S
  have hs := sizeLine_eq
  have hnd := PyData.hasDict_of_canLay p h2
  have hr : reprP S [.tup ds] = some (.str p.shown) := by
    unfold reprP
    simp only [isRefD, if_true, h1]
    rw [if_pos]
    simp only [Bool.and_eq_true, decide_eq_true_eq, Bool.not_eq_true']
    refine ⟨⟨⟨h3, hnd⟩, ?_⟩, ?_⟩ <;> omega
  have hsh : SeqAt.shaped p = true := by
    unfold SeqAt.shaped
    rw [h2]
    simp
    omega
  have he : eqP S (.tup ds) (.tup ds) = some (.bl true) := by
    unfold eqP eqQ
    simp only [scalD]
    unfold eqDeep
    simp [h1, hsh, SeqAt.eqv_refl p h2]
  unfold m__law_alike
  simp [andV, toB, bltM, M.opL, consM, nilM, M.bind, varM, var, M.op2, M.lift, asB, M.pure, bin2, hr, eq_strs, he, SR.of, SR.bind]
section
variable {S R : Store} {x : Str} {f : Int} {d0 d2 d3 d4 d5 d6 d7 d8 : Option D}
theorem alike_step (hb : Bag S R) (hx : x.length ≤ 6000) (hg : Sg (tl x)) (f0 : 0 ≤ f) (f1 : f ≤ 40) :
    ∃ S' R', alikeM (TV d0 d2 (.str x) (some (.int f)) d5 d6 d7 d8) S = .nx (TV d0 d2 (.str x) (some (.int f)) d5 d6 d7 d8) S' ∧ Bag S' R' := by
  have e1 := tokens_run S hx f0 f1
  obtain ⟨d, F', e2, e3⟩ := law_runs_run (S ++ [.lst (scanF f x.length (tl x) 1 0)]) (x := x) (by omega) f1 hg
  obtain ⟨W, w1, w2⟩ := scan_sh f1 x.length (tl x) 1 0 (by rw [← len_tl]; exact Nat.le_refl _) (by decide) (by decide) (by rw [← len_tl]; omega) (by rw [← len_tl]; omega)
  have e4 := alike_same (sh_tup w1) (by decide) (by omega) (S ++ [.lst (scanF f x.length (tl x) 1 0)] ++ [.lst F'])
  refine ⟨_, _, ?_, bag_add (bag_add hb (.lst (scanF f x.length (tl x) 1 0))) (.lst F')⟩
  unfold alikeM
  simp only [x_if, notT, x_tV, toB, callM, List.length_cons, List.length_nil, Nat.reduceAdd, if_true, consM, nilM, M.bind, varM, var, M.pure, e1, e2, bltM, M.opL, e3, e4, M.lift, asB, Bool.not_true, SR.of, Bool.false_eq_true, if_false, x_nil, List.getElem?_cons_succ, List.getElem?_cons_zero]
theorem k_n_str : L2.kitB "NoneType" "str" = some false := by decide +kernel
theorem k_i_str : L2.kitB "int" "str" = some false := by decide +kernel
theorem k_l_str : L2.kitB "list" "str" = some false := by decide +kernel
theorem k_n_int : L2.kitB "NoneType" "int" = some false := by decide +kernel
theorem is_number_non (S : Store) : m_is_number [.non] S = .ok (.bl false) S := by
  unfold m_is_number
  simp [andV, notV, toB, bltM, consM, nilM, M.bind, varM, var, M.opL, isiP, tyName, k_n_int, M.lift, asB, M.pure, cM]
theorem is_index_non (S : Store) : m_is_index [.non] S = .ok (.bl false) S := by
  unfold m_is_index
  simp [andV, toB, M.bind, callM, consM, nilM, varM, var, M.pure, is_number_non, M.lift, asB, bin2, M.op2, geP, cM, retM, SR.of, SR.out]
theorem is_index_bl (S : Store) (b : Bool) : m_is_index [.bl b] S = .ok (.bl false) S := by
  unfold m_is_index
  simp [andV, toB, M.bind, callM, consM, nilM, varM, var, M.pure, is_number_bl, M.lift, asB, bin2, M.op2, geP, cM, retM, SR.of, SR.out]
theorem odd_str {a b : D} {t : String} (h : tyName S a = some t) (hk : L2.kitB t "str" = some false) : m_tokens [a, b] S = .exc "Nothing" [] S := by
  have ht : isiP S [a, .ty "str"] = some (.bl false) := by
    unfold isiP
    simp [h, hk]
  unfold m_tokens
  simp only [x_body, List.map_cons, List.map_nil, List.length_cons, List.length_nil, List.replicate_zero, List.cons_append, List.nil_append, Nat.reduceAdd, Nat.sub_self, x_seq, x_if, x_tV, toB, M.bind, varM, var, M.pure, cM, M.lift, asB, SR.of, if_true, consM, nilM, SR.bind, SR.out, List.getElem?_cons_succ, List.getElem?_cons_zero, orM, notT, bltM, M.opL, ht, Bool.not_false, raiseM]
theorem odd_fig {b : D} (hi : m_is_index [b] S = .ok (.bl false) S) : m_tokens [.str x, b] S = .exc "Nothing" [] S := by
  have ht : isiP S [.str x, .ty "str"] = some (.bl true) := by
    unfold isiP
    simp [tyName, k_str_str]
  unfold m_tokens
  simp only [x_body, List.map_cons, List.map_nil, List.length_cons, List.length_nil, List.replicate_zero, List.cons_append, List.nil_append, Nat.reduceAdd, Nat.sub_self, x_seq, x_if, x_tV, toB, M.bind, varM, var, M.pure, cM, M.lift, asB, SR.of, if_true, Bool.false_eq_true, if_false, consM, nilM, SR.bind, SR.out, List.getElem?_cons_succ, List.getElem?_cons_zero, orM, notT, bltM, M.opL, ht, Bool.not_true, Bool.not_false, callM, hi, raiseM]
theorem odd_turn {a b : D} (h : m_tokens [a, b] S = .exc "Nothing" [] S) {d3 : D} : oddT (TV d0 d2 d3 d4 (some (.tup [a, b])) d6 d7 d8) S = .ct (TV d0 d2 d3 d4 (some (.tup [a, b])) d6 d7 d8) S := by
  have hs : subT "Nothing" "Nothing" = some true := by decide +kernel
  have i0 : ixP S (.tup [a, b]) (.int 0) = some a := at_0 _ _
  have i1 : ixP S (.tup [a, b]) (.int 1) = some b := atI_nat (j := 1) rfl
  unfold oddT tryM
  simp only [x_seq, exprM, callM, List.length_cons, List.length_nil, Nat.reduceAdd, if_true, consM, nilM, M.bind, varM, var, M.pure, cM, bin2, M.op2, i0, i1, h, SR.of, SR.bind, List.getElem?_cons_succ, List.getElem?_cons_zero, catchM, hs, runH, noExc, ctM]
theorem odds_loop (S : Store) {d3 : D} : ∀ (ps : List (D × D)) (d5 : Option D), (∀ p ∈ ps, m_tokens [p.1, p.2] S = .exc "Nothing" [] S) → ∃ e5, loopS (fun _ => true) (gN 5) oddT (ps.map fun p => .tup [p.1, p.2]) (TV d0 d2 d3 d4 d5 d6 d7 d8) S = .nx (TV d0 d2 d3 d4 e5 d6 d7 d8) S
  | [], d5, _ => ⟨d5, rfl⟩
  | p :: ps, d5, h => by
    obtain ⟨e5, ih⟩ := odds_loop S (d3 := d3) ps (some (.tup [p.1, p.2])) fun q hq => h q (by simp [hq])
    refine ⟨e5, ?_⟩
    rw [← ih, List.map_cons]
    conv => lhs; unfold loopS
    simp only [gN, List.set, if_true]
    rw [odd_turn (h p (by simp))]
theorem odd_step (S : Store) (x : Str) : ∃ e5, oddM (TV d0 d2 (.str x) d4 d5 d6 d7 d8) S = .nx (TV d0 d2 (.str x) d4 e5 d6 d7 d8) S := by
  have z1 := len_ok 1 (by decide)
  have z2 := len_ok 2 (by decide)
  have z6 := len_ok 6 (by decide)
  obtain ⟨e5, hl⟩ := odds_loop (d0 := d0) (d2 := d2) (d4 := d4) (d6 := d6) (d7 := d7) (d8 := d8) S (d3 := .str x) [(.non, .int 5), (.int 7, .int 5), (.str x, .int (-1)), (.str x, .non), (.str x, .bl true), (.lst [.str x], .int 9)] d5 (fun p hp => by
    simp only [List.mem_cons, List.not_mem_nil, or_false] at hp
    rcases hp with rfl | rfl | rfl | rfl | rfl | rfl
    · exact odd_str rfl k_n_str
    · exact odd_str rfl k_i_str
    · exact odd_fig (is_index_int S (-1))
    · exact odd_fig (is_index_non S)
    · exact odd_fig (is_index_bl S true)
    · exact odd_str rfl k_l_str)
  refine ⟨e5, ?_⟩
  have hsrc : (seqI (tupM (consM (tupM (consM (cM .non) (consM (cM (.int 5)) nilM))) (consM (tupM (consM (cM (.int 7)) (consM (cM (.int 5)) nilM))) (consM (tupM (consM (varM 3) (consM (un1 negP (cM (.int 1))) nilM))) (consM (tupM (consM (varM 3) (consM (cM .non) nilM))) (consM (tupM (consM (varM 3) (consM (cM (.bl true)) nilM))) (consM (tupM (consM (lstM (consM (varM 3) nilM)) (consM (cM (.int 9)) nilM))) nilM)))))))) (TV d0 d2 (.str x) d4 d5 d6 d7 d8) S =
      .ok ⟨[.tup [.non, .int 5], .tup [.int 7, .int 5], .tup [.str x, .int (-1)], .tup [.str x, .non], .tup [.str x, .bl true], .tup [.lst [.str x], .int 9]], fun _ => true⟩ S := by
    simp only [seqI, tupM, lstM, cM, un1, M.op1, neg_int, consM, nilM, M.bind, varM, var, M.pure, List.length_cons, List.length_nil, Nat.reduceAdd, z1, z2, z6, if_true, List.getElem?_cons_succ, List.getElem?_cons_zero]
    rfl
  rw [← hl]
  show forM (seqI _) (gN 5) oddT _ S = _
  unfold forM
  rw [hsrc]
  rfl
theorem turn_step (hb : Bag S R) : ∃ ρ' S' R', turnB [d0, some (.loc 0), d2, d3, d4, d5, d6, d7, d8] S = .nx ρ' S' ∧ Bag S' R' ∧ ∃ e3 e4 e5 e6 e7, ρ' = [d0, some (.loc 0), d2, e3, e4, e5, e6, e7, d8] := by
  obtain ⟨x, S1, R1, r1, b1, l1, n1, m1, g1, a1⟩ := loose_step (d0 := d0) (d2 := d2) (d3 := d3) (d4 := d4) (d5 := d5) (d6 := d6) (d7 := d7) (d8 := d8) hb
  obtain ⟨y, S2, R2, r2, b2, l2, g2⟩ := bent_step (d0 := d0) (d2 := d2) (d4 := d4) (d5 := d5) (d6 := d6) (d7 := d7) (d8 := d8) b1 l1 n1 m1 g1 a1
  obtain ⟨z, e6, e7, S3, r3, b3, l3, g3⟩ := ins_step (d0 := d0) (d2 := d2) (d4 := d4) (d5 := d5) (d6 := d6) (d7 := d7) (d8 := d8) b2 l2 g2
  obtain ⟨f, S4, r4, b4, f0, f1⟩ := figs_step (d0 := d0) (d2 := d2) (d3 := .str z) (d4 := d4) (d5 := d5) (d6 := e6) (d7 := e7) (d8 := d8) b3
  obtain ⟨S5, R5, r5, b5⟩ := alike_step (d0 := d0) (d2 := d2) (d5 := d5) (d6 := e6) (d7 := e7) (d8 := d8) b4 l3 g3 f0 f1
  obtain ⟨e5, r6⟩ := odd_step (d0 := d0) (d2 := d2) (d4 := some (.int f)) (d5 := d5) (d6 := e6) (d7 := e7) (d8 := d8) S5 z
  refine ⟨_, S5, R5, ?_, b5, some (.str z), some (.int f), e5, e6, e7, rfl⟩
  unfold turnB
  rw [x_seq, r1, x_sbind_nx, x_seq, r2, x_sbind_nx, x_seq, r3, x_sbind_nx, x_seq, r4, x_sbind_nx, x_seq, r5, x_sbind_nx, r6]
theorem turns_loop : ∀ (ks : List D) {S R : Store} {d2 d3 d4 d5 d6 d7 : Option D}, Bag S R → ∃ ρ' S', ρ'.length = 9 ∧ loopS (fun _ => true) (gN 2) turnB ks [d0, some (.loc 0), d2, d3, d4, d5, d6, d7, d8] S = .nx ρ' S'
  | [], S, R, d2, d3, d4, d5, d6, d7, _ => ⟨[d0, some (.loc 0), d2, d3, d4, d5, d6, d7, d8], S, rfl, rfl⟩
  | k :: ks, S, R, d2, d3, d4, d5, d6, d7, hb => by
    obtain ⟨ρ1, S1, R1, r1, b1, e3, e4, e5, e6, e7, rfl⟩ := turn_step (d0 := d0) (d2 := some k) (d3 := d3) (d4 := d4) (d5 := d5) (d6 := d6) (d7 := d7) (d8 := d8) hb
    obtain ⟨ρ2, S2, l2, r2⟩ := turns_loop ks (d2 := some k) (d3 := e3) (d4 := e4) (d5 := e5) (d6 := e6) (d7 := e7) b1
    refine ⟨ρ2, S2, l2, ?_⟩
    rw [← r2]
    conv => lhs; unfold loopS
    simp only [gN, List.set, if_true]
    rw [r1]
end
end PyM
set_option Elab.async false
set_option linter.all false
set_option maxRecDepth 100000
set_option maxHeartbeats 8000000
namespace PyM
open PySem PySem.Spec PyProof.Rows L2 TL
/-! ### the law's last statement -/
noncomputable def blankB : MSt := ifM (tV (bin2 eqP (bin2 ixP (varM 0) (varM 3)) (cM (.str " ")))) (setM 3 (bin2 addP (varM 3) (cM (.int 1)))) badS
section
variable {x : Str} {most : Int} {n : Nat} {d6 d7 d8 : Option D}
theorem blank_step (S : Store) (hx : x.length ≤ 1000000) {b : Nat} {r : List Nat} (h : (tl x).drop b = 32 :: r) {d1 d2 d4 d5 : Option D} :
    blankB [some (.str x), d1, d2, some (.int (b : Int)), d4, d5, d6, d7, d8] S = .nx [some (.str x), d1, d2, some (.int ((b + 1 : Nat) : Int)), d4, d5, d6, d7, d8] S := by
  obtain ⟨h1, h2, h3⟩ := drop_get h
  have hix := ix_str S hx h1
  have q := eq_bl S 32
  have e1 : ((b : Int) + 1) = ((b + 1 : Nat) : Int) := by omega
  have hadd : addP S (.int (b : Int)) (.int 1) = some (.int ((b + 1 : Nat) : Int)) := by rw [add_ints, e1]
  unfold blankB
  simp only [x_if, x_tV, toB, bin2, M.bind, varM, var, M.pure, cM, M.op2, hix, q, decide_true, M.lift, asB, SR.of, if_true, x_set, hadd, List.getElem?_cons_succ, List.getElem?_cons_zero, List.set]
theorem blank_while (S : Store) (hx : x.length ≤ 1000000) {d1 d2 d4 d5 : Option D} : ∀ (rest : List Nat) (b : Nat), (tl x).drop b = rest → (∀ c ∈ rest, c = 32) → b ≤ x.length →
    whileS scanT blankB (rest.length + 1) [some (.str x), d1, d2, some (.int (b : Int)), d4, d5, d6, d7, d8] S = .nx [some (.str x), d1, d2, some (.int (x.length : Int)), d4, d5, d6, d7, d8] S
  | [], b, h, _, hb => by
    have hl := List.drop_eq_nil_iff.mp h
    rw [← len_tl] at hl
    have hn' : ¬ (b : Int) < (x.length : Int) := by omega
    have hlen := len_str S hx
    have e : (b : Int) = (x.length : Int) := by omega
    unfold whileS scanT
    simp only [tV, toB, bin2, M.bind, varM, var, M.pure, bltM, consM, nilM, M.opL, hlen, M.op2, lt_ints, decide_eq_false hn', M.lift, asB, SR.of, List.getElem?_cons_succ, List.getElem?_cons_zero, Bool.false_eq_true, if_false, e]
    simp
  | c :: r, b, h, hc, hb => by
    obtain ⟨h1, h2, h3⟩ := drop_get h
    rw [← len_tl] at h3
    obtain rfl : c = 32 := hc c (by simp)
    have hlt : (b : Int) < (x.length : Int) := by omega
    have hlen := len_str S hx
    have ht : scanT [some (.str x), d1, d2, some (.int (b : Int)), d4, d5, d6, d7, d8] S = .ok true S := by
      unfold scanT
      simp only [tV, toB, bin2, M.bind, varM, var, M.pure, bltM, consM, nilM, M.opL, hlen, M.op2, lt_ints, decide_eq_true hlt, M.lift, asB, SR.of, List.getElem?_cons_succ, List.getElem?_cons_zero]
    have ih := blank_while S hx (d1 := d1) (d2 := d2) (d4 := d4) (d5 := d5) r (b + 1) h2 (fun z hz => hc z (by simp [hz])) (by omega)
    rw [List.length_cons, ← ih]
    show SR.of (scanT _ _) _ _ = _
    rw [ht]
    simp only [SR.of, if_true]
    rw [blank_step S hx h]
theorem scannedH_run (S : Store) (hx : x.length ≤ 100000) (hb : ∀ c ∈ tl x, c = 32) : m_scannedH [.str x, .int most] S = .ok (.tup [tkD "end" (.str "") 1 ((x.length : Int) + 1)]) (S ++ [.lst [tkD "end" (.str "") 1 ((x.length : Int) + 1)]]) := by
  have ew := whileM_eq (blank_while (x := x) (d1 := some (.int most)) (d2 := some (.loc S.length)) (d4 := some (.int 1)) (d5 := some (.int 0)) (d6 := none) (d7 := none) (d8 := none) (S ++ [.lst []]) (by omega) (tl x) 0 rfl hb (Nat.zero_le _)) (by simp)
  have z0 := len_ok 0 (by decide)
  have z3 := len_ok 3 (by decide)
  have ee := scan_end (n := S.length) (S0 := S) rfl (F := []) (by simp) (x.length : Int) 1 0 (d0 := some (.str x)) (d1 := some (.int most)) (d6 := none) (d7 := none) (d8 := none)
  have e0 : (x.length : Int) - 0 + 1 = (x.length : Int) + 1 := by omega
  rw [e0] at ee
  have e5 : SR.bind (setM 2 (cellM nilM) [some (.str x), some (.int most), none, none, none, none, none, none, none] S) (asgM (gT (gs1 (gN 3) (gs1 (gN 4) (gs1 (gN 5) gs0)))) (tupM (consM (cM (.int 0)) (consM (cM (.int 1)) (consM (cM (.int 0)) nilM))))) =
      .nx [some (.str x), some (.int most), some (.loc S.length), some (.int ((0 : Nat) : Int)), some (.int 1), some (.int 0), none, none, none] (S ++ [.lst []]) := by
    simp only [x_set, cellM, nilM, M.bind, M.pure, newCell, List.length_nil, z0, if_true, SR.of, x_sbind_nx, asgM, tupM, consM, cM, List.length_cons, Nat.reduceAdd, z3, gT, gs1, gs0, gN, Option.bind, SR.opt, List.set, SR.bind]
    rfl
  have e4 : SR.bind (SR.bind (setM 2 (cellM nilM) [some (.str x), some (.int most), none, none, none, none, none, none, none] S) (asgM (gT (gs1 (gN 3) (gs1 (gN 4) (gs1 (gN 5) gs0)))) (tupM (consM (cM (.int 0)) (consM (cM (.int 1)) (consM (cM (.int 0)) nilM)))))) (seqM (whileM scanT blankB) scanE) = .rt (.tup [tkD "end" (.str "") 1 ((x.length : Int) + 1)]) (S ++ [.lst [tkD "end" (.str "") 1 ((x.length : Int) + 1)]]) := by
    rw [e5, x_sbind_nx, x_seq, ew, x_sbind_nx, ee]
    rfl
  rw [sr_assoc] at e4
  unfold m_scannedH
  rw [x_body]
  exact congrArg SR.out e4
theorem tokensH_run (S : Store) (hx : x.length ≤ 6000) (hb : ∀ c ∈ tl x, c = 32) : m_tokensH [.str x, .int 7] S = .ok (.tup [tkD "end" (.str "") 1 ((x.length : Int) + 1)]) (S ++ [.lst [tkD "end" (.str "") 1 ((x.length : Int) + 1)]]) := by
  have e1 : c_MOST_ASKED = .int 40 := rfl
  have e2 : c_MOST_SIGNS = .int 6000 := rfl
  have g1 : gtP S (.int 7) (.int 40) = some (.bl false) := rfl
  have g2 : gtP S (.int (x.length : Int)) (.int 6000) = some (.bl false) := by show some (D.bl (decide ((6000 : Int) < (x.length : Int)))) = _; rw [decide_eq_false (by omega)]
  have hlen := len_str S (x := x) (by omega)
  have hi : m_is_index [.int 7] S = .ok (.bl true) S := is_index_int S 7
  have hs := scannedH_run S (x := x) (most := 7) (by omega) hb
  have ht : isiP S [.str x, .ty "str"] = some (.bl true) := by
    unfold isiP
    simp [tyName, k_str_str]
  unfold m_tokensH
  simp only [x_body, List.map_cons, List.map_nil, List.length_cons, List.length_nil, List.replicate_succ, List.replicate_zero, List.cons_append, List.nil_append, Nat.reduceAdd, Nat.sub_self, x_seq, x_if, x_tV, toB, bin2, M.bind, varM, var, M.pure, cM, M.op2, M.lift, asB, SR.of, if_true, Bool.false_eq_true, if_false, x_nil, retM, consM, nilM, SR.bind, SR.out, List.getElem?_cons_succ, List.getElem?_cons_zero, callM, orM, notT, bltM, M.opL, ht, Bool.not_true, hi, e1, g1, hlen, e2, g2, hs]
theorem tokensN_run (S : Store) (hx : 6000 < x.length) (hx2 : x.length ≤ 100000) : m_tokensN [.str x, .int 7] S = .exc "TooLarge" [("what", .str "signs"), ("limit", .int 6000)] S := by
  have e1 : c_MOST_ASKED = .int 40 := rfl
  have e2 : c_MOST_SIGNS = .int 6000 := rfl
  have g1 : gtP S (.int 7) (.int 40) = some (.bl false) := rfl
  have g2 : gtP S (.int (x.length : Int)) (.int 6000) = some (.bl true) := by show some (D.bl (decide ((6000 : Int) < (x.length : Int)))) = _; rw [decide_eq_true (by omega)]
  have hlen := len_str S (x := x) (by omega)
  have hi : m_is_index [.int 7] S = .ok (.bl true) S := is_index_int S 7
  have ht : isiP S [.str x, .ty "str"] = some (.bl true) := by
    unfold isiP
    simp [tyName, k_str_str]
  unfold m_tokensN
  simp only [x_body, List.map_cons, List.map_nil, List.length_cons, List.length_nil, List.replicate_succ, List.replicate_zero, List.cons_append, List.nil_append, Nat.reduceAdd, Nat.sub_self, x_seq, x_if, x_tV, toB, bin2, M.bind, varM, var, M.pure, cM, M.op2, M.lift, asB, SR.of, if_true, Bool.false_eq_true, if_false, x_nil, consM, nilM, SR.bind, SR.out, List.getElem?_cons_succ, List.getElem?_cons_zero, callM, orM, notT, bltM, M.opL, ht, Bool.not_true, hi, e1, g1, hlen, e2, g2, raiseM, two]
end
theorem rep_big (S : Store) {n : Nat} (h : n ≤ 10000) : mulP2 S (.str " ") (.int (n : Int)) = some (.str (strRep " " n)) := by
  have hs := sizeLine_eq
  have e : (" " : Str).length = 1 := rfl
  unfold mulP2
  simp only
  rw [if_pos (by rw [e]; omega)]
  simp
theorem eq_same {n w : Nat} {ds : List D} (h : ShD n w (.tup ds)) (hn : n ≤ 60) (S : Store) : eqP S (.tup ds) (.tup ds) = some (.bl true) := by
  obtain ⟨p, h1, h2, h3, h4, h5⟩ := h S
  have hsh : SeqAt.shaped p = true := by
    unfold SeqAt.shaped
    rw [h2]
    simp
    omega
  unfold eqP eqQ
  simp only [scalD]
  unfold eqDeep
  simp [h1, hsh, SeqAt.eqv_refl p h2]
theorem last_run {ρ : Env'} (h : ρ.length = 9) (S : Store) : ∃ S', lastM ρ S = .rt (.bl true) S' := by
  have l1 : (strRep " " 6001).length = 6001 := by rw [len_tl, rep_tl, List.length_replicate]
  have l2 : (strRep " " 6000).length = 6000 := by rw [len_tl, rep_tl, List.length_replicate]
  have r1 : ∀ S, mulP2 S (.str " ") (.int 6001) = some (.str (strRep " " 6001)) := fun S => rep_big S (n := 6001) (by decide)
  have r2 : ∀ S, mulP2 S (.str " ") (.int 6000) = some (.str (strRep " " 6000)) := fun S => rep_big S (n := 6000) (by decide)
  generalize strRep " " 6001 = y1 at l1 r1
  have hbl : ∀ c ∈ tl (strRep " " 6000), c = 32 := fun c hc => by rw [rep_tl] at hc; exact (List.mem_replicate.mp hc).2
  generalize strRep " " 6000 = y2 at l2 r2 hbl
  have t1 := tokensN_run (x := y1) S (by omega) (by omega)
  have t2 := fun S => tokensH_run (x := y2) S (by omega) hbl
  rw [l2] at t2
  have e6 : ((6000 : Nat) : Int) + 1 = 6001 := rfl
  rw [e6] at t2
  have z1 := len_ok 1 (by decide)
  have z2 := len_ok 2 (by decide)
  have z4 := len_ok 4 (by decide)
  have hsub : subT "TooLarge" "TooLarge" = some true := by decide +kernel
  have hw : flT "TooLarge" "what" = true := by decide +kernel
  have hl : flT "TooLarge" "limit" = true := by decide +kernel
  have hsg : ShD 1 380 (.tup [.str "signs", .int 6000]) := (sh_tup (.cons (sh_str (r := tl "signs") (by decide) (by unfold Sg; decide +kernel) 0) (.cons (sh_int (by decide) 0) .nil))).mono (Nat.le_refl _) (by decide)
  have heq := fun S => eq_same hsg (by decide) S
  have hend : ShD 2 1000 (.tup [tkD "end" (.str "") 1 6001]) := (sh_tup (.cons (sh_tk (line := 1) (col := 6001) (sh_end 0).1 (sh_end 0).2 (by decide) (by decide)) .nil)).mono (Nat.le_refl _) (by decide)
  have hal := fun S => alike_same hend (by decide) (by decide) S
  have f1 : fieldD "what" ["what", "limit"] [D.str "signs", D.int 6000] = some (.str "signs") := by simp [fieldD]
  have f2 : fieldD "limit" ["what", "limit"] [D.str "signs", D.int 6000] = some (.int 6000) := by
    have : ¬ (("what" : Str) = ("limit" : Str)) := by decide +kernel
    simp [fieldD, this]
  have h8 : ∀ o : Option D, (ρ.set 8 o)[8]? = some o := fun o => by rw [List.getElem?_set_self (by omega)]
  have hbody : (seqM (exprM (callM 2 m_tokensN (consM (bin2 mulP2 (cM (.str " ")) (cM (.int 6001))) (consM (cM (.int 7)) nilM)))) (retM (cM (.bl false)))) ρ S = .exc ρ "TooLarge" [("what", .str "signs"), ("limit", .int 6000)] S := by
    simp only [x_seq, exprM, callM, consM, nilM, M.bind, M.pure, bin2, M.op2, cM, r1, List.length_cons, List.length_nil, Nat.reduceAdd, if_true, t1, SR.of, SR.bind]
  refine ⟨S ++ [.lst [tkD "end" (.str "") 1 6001]], ?_⟩
  unfold lastM tryN
  simp only [hbody, hsub, runH, List.map_cons, List.map_nil]
  have hL : lastH 0 0 "TooLarge" ["what", "limit"] (ρ.set 8 (some (.exo 0 0 "TooLarge" ["what", "limit"] [.str "signs", .int 6000]))) S = .ok (.bl true) (S ++ [.lst [tkD "end" (.str "") 1 6001]]) := by
    unfold lastH
    simp only [andV, toB, bin2, M.bind, tupM, consM, nilM, fldM, h8, hw, hl, and_self, List.isEmpty_cons, if_true, M.lift, f1, f2, M.pure, cM, List.length_cons, List.length_nil, Nat.reduceAdd, z1, z2, z4, M.op2, heq, asB, callM, r2, t2, hal]
  simp only [retM, hL, SR.of, noExc, wipeR]
theorem bag_any (ns : List Int) (h : ns.length ≤ 63) : ∃ S R, m__law_bag [.scr (ns.map .int)] [] = .ok (.loc 0) S ∧ Bag S R := ⟨_, [], bag_made ns h [], 0, 1234567891, 0, ns.map absI, rfl, by decide, by decide, by rw [List.length_map]; exact h⟩
theorem plain_law (ns : List Int) (h : ns.length ≤ 63) : ∃ S', m_law [.scr (ns.map .int)] [] = .ok (.bl true) S' := by
  obtain ⟨S1, R1, e1, b1⟩ := bag_any ns h
  have ok : rngOk 6 := by decide
  obtain ⟨ρ2, S2, l2, e2⟩ := turns_loop (d0 := some (.scr (ns.map .int))) (d8 := none) (srcR 0 6).items (d2 := none) (d3 := none) (d4 := none) (d5 := none) (d6 := none) (d7 := none) b1
  obtain ⟨S3, e3⟩ := last_run l2 S2
  refine ⟨S3, ?_⟩
  rw [law_eq, x_body]
  have s1 : setM 1 (callM 1 m__law_bag (consM (varM 0) nilM)) [some (.scr (ns.map .int)), none, none, none, none, none, none, none, none] [] = .nx [some (.scr (ns.map .int)), some (.loc 0), none, none, none, none, none, none, none] S1 := by
    simp only [x_set, callM, List.length_cons, List.length_nil, Nat.reduceAdd, if_true, consM, nilM, M.bind, varM, var, M.pure, e1, SR.of, List.getElem?_cons_succ, List.getElem?_cons_zero, List.set]
  have s2 : forM (rngI1 (consM (cM (.int 6)) nilM)) (gN 2) turnB [some (.scr (ns.map .int)), some (.loc 0), none, none, none, none, none, none, none] S1 = .nx ρ2 S2 := by
    rw [← e2]
    unfold forM
    have : rngI1 (consM (cM (.int 6)) nilM) [some (.scr (ns.map .int)), some (.loc 0), none, none, none, none, none, none, none] S1 = .ok (srcR 0 6) S1 := by
      simp only [rngI1, consM, nilM, M.bind, M.pure, cM, srcR1, ok, if_true]
    rw [this]
    rfl
  show (SR.bind (setM 1 (callM 1 m__law_bag (consM (varM 0) nilM)) [some (.scr (ns.map .int)), none, none, none, none, none, none, none, none] []) _).out = _
  rw [s1, x_sbind_nx, x_seq, s2, x_sbind_nx, e3]
  rfl
end PyM
set_option Elab.async false
set_option linter.all false
set_option maxRecDepth 100000
set_option maxHeartbeats 4000000
namespace PyM
open PySem PySem.Spec PyProof.Rows L2
/-- a def as the top has left it -/
structure FAt (K : W.Frag) (x : Str) (i : Nat) : Prop where
  ex : ∃ (f : Addr) (oc : Value) (od : Option Addr) (kV dc pm : Value) (an : Option Addr) (cd ct : Value) (sl : Array (Option Value)), W.nsIn K mainGlobals x = some (some (.ref f)) ∧
    K.lookup f = some ⟨oc, od, .func (W.fnOf x x (defArgs (top i)) (defBody (top i)) (defScope (top i)) .none kV dc pm an cd ct), sl⟩ ∧ W.codeIn K cd x = true ∧ W.keepIn K (.ref f) = true
theorem FAt.of {K : W.Frag} {x : Str} {i : Nat} {f : Addr} {oc : Value} {od : Option Addr} {kV dc pm : Value} {an : Option Addr} {cd ct : Value} {sl : Array (Option Value)} (a : W.nsIn K mainGlobals x = some (some (.ref f)))
    (l : K.lookup f = some ⟨oc, od, .func (W.fnOf x x (defArgs (top i)) (defBody (top i)) (defScope (top i)) .none kV dc pm an cd ct), sl⟩) (c : W.codeIn K cd x = true) (k : W.keepIn K (.ref f) = true) : FAt K x i := ⟨f, oc, od, kV, dc, pm, an, cd, ct, sl, a, l, c, k⟩
theorem FAt.fnd {K : W.Frag} {h : Heap} {mg : Str → Option Value} {x : Str} {i : Nat} {ps : List Str} (F : FAt K x i) (X : K.In h) (G : h.Ns mainGlobals mg)
    (hb : ∀ (kV doc pm : Value) (an : Option Addr) (cdv ct : Value) (us : List Value), us.length = ps.length → bindArgs (W.fnOf x x (defArgs (top i)) (defBody (top i)) (defScope (top i)) .none kV doc pm an cdv ct) ⟨us, []⟩ = pure (ps.zip us)) : Fnd K mg x i ps := by
  obtain ⟨f, oc, od, kV, dc, pm, an, cd, ct, sl, a, l, c, k⟩ := F.ex
  have F1 := fun_mk (st := top i) l c k
  exact ⟨f, _, F1, W.mg_of X G a, F1.binds hb⟩
/-- constants -/
inductive StrsV : List Value → List Str → Prop
  | nil : StrsV [] []
  | cons (x : Str) (t : Tok) {us : List Value} {xs : List Str} : StrsV us xs → StrsV (.str x t :: us) (x :: xs)
theorem StrsV.vals : ∀ {us : List Value} {xs : List Str}, StrsV us xs → Vals (xs.map V.str) us
  | _, _, .nil => .nil
  | _, _, .cons x t h => .cons ⟨t, rfl⟩ h.vals
theorem con_int {K : W.Frag} {h : Heap} {mg : Str → Option Value} {x : Str} {i : Int} {t : Tok} (X : K.In h) (G : h.Ns mainGlobals mg) (e : W.nsIn K mainGlobals x = some (some (.int i t))) : Con K mg x (.int i) := ⟨.int i, _, W.mg_of X G e, ⟨t, rfl⟩, fun _ _ => .int i⟩
theorem con_str {K : W.Frag} {h : Heap} {mg : Str → Option Value} {x z : Str} {t : Tok} (X : K.In h) (G : h.Ns mainGlobals mg) (e : W.nsIn K mainGlobals x = some (some (.str z t))) : Con K mg x (.str z) := ⟨.str z, _, W.mg_of X G e, ⟨t, rfl⟩, fun _ _ => .str z⟩
theorem strs_denM {K : W.Frag} {mg : Str → Option Value} {μ : Pl} {H : Hp} : ∀ (xs : List Str), DenL K mg μ H (xs.map V.str) (xs.map D.str)
  | [] => .nil
  | x :: xs => .cons (.str x) (strs_denM xs)
theorem con_tup {K : W.Frag} {h : Heap} {mg : Str → Option Value} {x : Str} {a : Addr} {oc : Value} {od : Option Addr} {its : List Value} {n : Nat} {sl : Array (Option Value)} {xs : List Str} (X : K.In h) (G : h.Ns mainGlobals mg) (e : W.nsIn K mainGlobals x = some (some (.ref a)))
    (l : K.lookup a = some ⟨oc, od, .seq its.toArray n, sl⟩) (c : oc = .type "tuple") (v : StrsV its xs) (hl : xs.length ≤ 1000) : Con K mg x (.tup (xs.map .str)) := by
  refine ⟨.ref a, _, W.mg_of X G e, rfl, fun μ H => .tup (.inr ⟨_, its.toArray, n, l, c, rfl, ?_, by simpa using v.vals⟩) (strs_denM xs)⟩
  have := v.vals.length
  have hs := sizeLine_eq
  simp at this ⊢
  omega

theorem all_k {P : Program} {w : World} {K : W.Frag} {h : Heap} {mg : Str → Option Value} {C_Nothing : Addr} {C_TooLarge : Addr} {nm_TooLarge q_TooLarge qu_TooLarge fi_TooLarge : Str} {N_TooLarge f_TooLarge cda_TooLarge cc_TooLarge : Addr} {bs_TooLarge bm_TooLarge sub_TooLarge : List Value} {sn_TooLarge : List Str} {ab_TooLarge : Bool} {col_TooLarge : Option Bool} {dd_TooLarge od_TooLarge an_TooLarge cdd_TooLarge cld_TooLarge : Option Addr} {m0_TooLarge m1_TooLarge m2_TooLarge m3_TooLarge m5_TooLarge : Option Value} {oc_TooLarge kV_TooLarge dc_TooLarge pm_TooLarge ct_TooLarge ccl_TooLarge cl_TooLarge : Value} {vs_TooLarge : Array Value} {sl_TooLarge ccs_TooLarge csl_TooLarge : Array (Option Value)} {tf_TooLarge : Tok} (X : K.In h) (G : h.Ns mainGlobals mg)
    (F_is_number : FAt K "is_number" 10)
    (F_is_index : FAt K "is_index" 11)
    (F_is_name : FAt K "is_name" 12)
    (F_end_of_run : FAt K "end_of_run" 17)
    (F_is_figures : FAt K "is_figures" 18)
    (F_run_token : FAt K "run_token" 19)
    (F_token_at : FAt K "token_at" 20)
    (F_scanned : FAt K "scanned" 21)
    (F_tokens : FAt K "tokens" 22)
    (F__law_bag : FAt K "_law_bag" 24)
    (F__law_take : FAt K "_law_take" 25)
    (F__law_loose : FAt K "_law_loose" 26)
    (F__law_part_text : FAt K "_law_part_text" 27)
    (F__law_price_text : FAt K "_law_price_text" 28)
    (F__law_shop_text : FAt K "_law_shop_text" 29)
    (F__law_mixed : FAt K "_law_mixed" 30)
    (F__law_some : FAt K "_law_some" 31)
    (F__law_big_price : FAt K "_law_big_price" 32)
    (F__law_big_shop : FAt K "_law_big_shop" 33)
    (F__law_bent_text : FAt K "_law_bent_text" 34)
    (F__law_alike : FAt K "_law_alike" 35)
    (F__law_runs : FAt K "_law_runs" 36)
    (F_law : FAt K "law" 37)
    (B_abs : W.nsIn K mainGlobals "abs" = some none)
    (B_all : W.nsIn K mainGlobals "all" = some none)
    (B_bool : W.nsIn K mainGlobals "bool" = some none)
    (B_int : W.nsIn K mainGlobals "int" = some none)
    (B_isinstance : W.nsIn K mainGlobals "isinstance" = some none)
    (B_len : W.nsIn K mainGlobals "len" = some none)
    (B_list : W.nsIn K mainGlobals "list" = some none)
    (B_max : W.nsIn K mainGlobals "max" = some none)
    (B_min : W.nsIn K mainGlobals "min" = some none)
    (B_range : W.nsIn K mainGlobals "range" = some none)
    (B_repr : W.nsIn K mainGlobals "repr" = some none)
    (B_sorted : W.nsIn K mainGlobals "sorted" = some none)
    (B_str : W.nsIn K mainGlobals "str" = some none)
    (B_tuple : W.nsIn K mainGlobals "tuple" = some none)
    (C_DIGITS : Con K mg "DIGITS" c_DIGITS)
    (C_LETTERS : Con K mg "LETTERS" c_LETTERS)
    (C_MARKS : Con K mg "MARKS" c_MARKS)
    (C_MOST_ASKED : Con K mg "MOST_ASKED" c_MOST_ASKED)
    (C_MOST_LETTERS : Con K mg "MOST_LETTERS" c_MOST_LETTERS)
    (C_MOST_SIGNS : Con K mg "MOST_SIGNS" c_MOST_SIGNS)
    (C_RESERVED : Con K mg "RESERVED" c_RESERVED)
    (A_Nothing : W.nsIn K mainGlobals "Nothing" = some (some (.ref C_Nothing)))
    (k_Nothing : W.keepIn K (.ref C_Nothing) = true)
    (ic_Nothing : W.isClsIn K C_Nothing = true)
    (s_Nothing : W.subIn K (.ref C_Nothing) (.type "BaseException") = some true)
    (t_Nothing : W.typeIn K (.ref C_Nothing) = some (.type "type"))
    (ga_Nothing : W.findIn K (.ref C_Nothing) "__getattribute__" = some (some (.builtin "BaseException.__getattribute__")))
    (gg_Nothing : W.findIn K (.ref C_Nothing) "__getattr__" = some none)
    (hd_Nothing : W.hasDictIn K C_Nothing = true)
    (x_Nothing : W.excIn K C_Nothing [.type "ValueError", .type "Exception", .type "BaseException", .type "object"] "ValueError.__new__" = true)
    (A_TooLarge : W.nsIn K mainGlobals "TooLarge" = some (some (.ref C_TooLarge)))
    (k_TooLarge : W.keepIn K (.ref C_TooLarge) = true)
    (ic_TooLarge : W.isClsIn K C_TooLarge = true)
    (s_TooLarge : W.subIn K (.ref C_TooLarge) (.type "BaseException") = some true)
    (t_TooLarge : W.typeIn K (.ref C_TooLarge) = some (.type "type"))
    (ga_TooLarge : W.findIn K (.ref C_TooLarge) "__getattribute__" = some (some (.builtin "BaseException.__getattribute__")))
    (gg_TooLarge : W.findIn K (.ref C_TooLarge) "__getattr__" = some none)
    (hd_TooLarge : W.hasDictIn K C_TooLarge = true)
    (l_TooLarge : K.lookup C_TooLarge = some (excClassObj nm_TooLarge q_TooLarge C_TooLarge N_TooLarge bs_TooLarge bm_TooLarge true sn_TooLarge sub_TooLarge ab_TooLarge col_TooLarge dd_TooLarge m0_TooLarge m1_TooLarge m2_TooLarge m3_TooLarge m5_TooLarge "ValueError.__new__"))
    (v_TooLarge : PySem.HandSPX.refsVE bm_TooLarge = true)
    (sa_TooLarge : W.findIn K (.ref C_TooLarge) "__setattr__" = some (some (.builtin "object.__setattr__")))
    (np_TooLarge : W.findIn K (.ref C_TooLarge) "what" = some none)
    (nq_TooLarge : W.findIn K (.ref C_TooLarge) "limit" = some none)
    (i_TooLarge : W.findIn K (.ref C_TooLarge) "__init__" = some (some (.ref f_TooLarge)))
    (ti_TooLarge : W.typeIn K (.ref f_TooLarge) = some (.type "function"))
    (su_TooLarge : W.ks_superIn K C_TooLarge C_TooLarge "__init__" = some (some (.builtin "ValueError.__init__")))
    (sv_TooLarge : W.subIn K (.ref C_TooLarge) (.type "ValueError") = some true)
    (se_TooLarge : W.mroIn K C_TooLarge (.ref C_TooLarge) = some true)
    (lf_TooLarge : K.lookup f_TooLarge = some ⟨oc_TooLarge, od_TooLarge, .func (W.ksFn "__init__" qu_TooLarge (defArgs (clsDef (top 4) 0)) (defBody (clsDef (top 4) 0)) (defScope (clsDef (top 4) 0)) .none kV_TooLarge dc_TooLarge pm_TooLarge an_TooLarge (.ref cda_TooLarge) ct_TooLarge cc_TooLarge), sl_TooLarge⟩)
    (cf_TooLarge : W.codeIn K (.ref cda_TooLarge) qu_TooLarge = true)
    (lcd_TooLarge : K.lookup cda_TooLarge = some ⟨ccl_TooLarge, cdd_TooLarge, .fields vs_TooLarge, ccs_TooLarge⟩)
    (hv_TooLarge : vs_TooLarge[2]? = some (.str fi_TooLarge tf_TooLarge))
    (hf_TooLarge : ((P.main.file : Str) == fi_TooLarge) = true)
    (lcc_TooLarge : K.lookup cc_TooLarge = some ⟨cl_TooLarge, cld_TooLarge, .cell (some (.ref C_TooLarge)), csl_TooLarge⟩)
    (opq : W.nsIn K cStatics "thirdparty.any" = some none)
    (nosup : W.nsIn K mainGlobals "super" = some none)
    (topn : (P.main.scope.names.lookup ("super" : Str)).isSome = false)
    (e_Nothing_Nothing : W.subIn K (.ref C_Nothing) (.ref C_Nothing) = some true)
    (e_Nothing_TooLarge : W.subIn K (.ref C_Nothing) (.ref C_TooLarge) = some false)
    (e_TooLarge_Nothing : W.subIn K (.ref C_TooLarge) (.ref C_Nothing) = some false)
    (e_TooLarge_TooLarge : W.subIn K (.ref C_TooLarge) (.ref C_TooLarge) = some true) :
    ∀ base : Heap, K.In base → base.Ns mainGlobals mg → Def P w K mg base (L2.CX P w) 42 "law" 1 m_law := by
  intro base _ _
  have g_Nothing := W.mg_of X G A_Nothing
  have g_TooLarge := W.mg_of X G A_TooLarge
  have Sb : Subs K mg subT := by
    intro c h b C Hc hs h1 h2
    unfold subT at hs
    split at hs
    · rename_i z
      obtain ⟨rfl, rfl⟩ := z
      obtain rfl := Option.some.inj hs
      rw [g_Nothing] at h1
      rw [g_Nothing] at h2
      cases h1
      cases h2
      exact exm_of s_Nothing ic_Nothing t_Nothing e_Nothing_Nothing
    split at hs
    · rename_i z
      obtain ⟨rfl, rfl⟩ := z
      obtain rfl := Option.some.inj hs
      rw [g_Nothing] at h1
      rw [g_TooLarge] at h2
      cases h1
      cases h2
      exact exm_of s_TooLarge ic_TooLarge t_TooLarge e_Nothing_TooLarge
    split at hs
    · rename_i z
      obtain ⟨rfl, rfl⟩ := z
      obtain rfl := Option.some.inj hs
      rw [g_TooLarge] at h1
      rw [g_Nothing] at h2
      cases h1
      cases h2
      exact exm_of s_Nothing ic_Nothing t_Nothing e_TooLarge_Nothing
    split at hs
    · rename_i z
      obtain ⟨rfl, rfl⟩ := z
      obtain rfl := Option.some.inj hs
      rw [g_TooLarge] at h1
      rw [g_TooLarge] at h2
      cases h1
      cases h2
      exact exm_of s_TooLarge ic_TooLarge t_TooLarge e_TooLarge_TooLarge
    cases hs
  have Fl : Flds K mg flT := by
    intro c f C hs h1
    unfold flT at hs
    simp only [Bool.or_eq_true, decide_eq_true_eq] at hs
    rcases hs with ⟨rfl, rfl⟩ | ⟨rfl, rfl⟩
    · rw [g_TooLarge] at h1
      cases h1
      exact ⟨⟨ga_TooLarge, gg_TooLarge, s_TooLarge, hd_TooLarge⟩, np_TooLarge⟩
    · rw [g_TooLarge] at h1
      cases h1
      exact ⟨⟨ga_TooLarge, gg_TooLarge, s_TooLarge, hd_TooLarge⟩, nq_TooLarge⟩
  have T : Txt P K mg := ⟨W.mg_none_of X G B_abs, W.mg_none_of X G B_all, W.mg_none_of X G B_bool, W.mg_none_of X G B_int, W.mg_none_of X G B_isinstance, W.mg_none_of X G B_len, W.mg_none_of X G B_list, W.mg_none_of X G B_max, W.mg_none_of X G B_min, W.mg_none_of X G B_range, W.mg_none_of X G B_repr, W.mg_none_of X G B_sorted, W.mg_none_of X G B_str, W.mg_none_of X G B_tuple, C_DIGITS, C_LETTERS, C_MARKS, C_MOST_ASKED, C_MOST_LETTERS, C_MOST_SIGNS, C_RESERVED, ⟨C_Nothing, g_Nothing⟩, ⟨⟨C_Nothing, g_Nothing, x_Nothing, k_Nothing, s_Nothing, t_Nothing⟩⟩, ⟨C_TooLarge, g_TooLarge⟩, ⟨C_TooLarge, f_TooLarge, g_TooLarge, ⟨⟨nm_TooLarge, q_TooLarge, N_TooLarge, bs_TooLarge, bm_TooLarge, sn_TooLarge, sub_TooLarge, ab_TooLarge, col_TooLarge, dd_TooLarge, m0_TooLarge, m1_TooLarge, m2_TooLarge, m3_TooLarge, m5_TooLarge, l_TooLarge, v_TooLarge⟩, sa_TooLarge, s_TooLarge, t_TooLarge, k_TooLarge⟩, np_TooLarge, nq_TooLarge, i_TooLarge, ti_TooLarge, su_TooLarge, sv_TooLarge, se_TooLarge, opq, W.mg_none_of X G nosup, ⟨qu_TooLarge, oc_TooLarge, od_TooLarge, kV_TooLarge, dc_TooLarge, pm_TooLarge, an_TooLarge, cda_TooLarge, cc_TooLarge, ct_TooLarge, sl_TooLarge, ccl_TooLarge, cl_TooLarge, cdd_TooLarge, cld_TooLarge, vs_TooLarge, ccs_TooLarge, csl_TooLarge, fi_TooLarge, tf_TooLarge, lf_TooLarge, cf_TooLarge, lcd_TooLarge, hv_TooLarge, hf_TooLarge, lcc_TooLarge⟩, topn⟩, Sb, Fl⟩
  have G_is_number : Fnd K mg "is_number" 10 ["thing"] := F_is_number.fnd X G fun _ _ _ _ _ _ us hl => match us, hl with | [_], _ => rfl
  have G_is_index : Fnd K mg "is_index" 11 ["thing"] := F_is_index.fnd X G fun _ _ _ _ _ _ us hl => match us, hl with | [_], _ => rfl
  have G_is_name : Fnd K mg "is_name" 12 ["thing"] := F_is_name.fnd X G fun _ _ _ _ _ _ us hl => match us, hl with | [_], _ => rfl
  have G_end_of_run : Fnd K mg "end_of_run" 17 ["text", "begin"] := F_end_of_run.fnd X G fun _ _ _ _ _ _ us hl => match us, hl with | [_, _], _ => rfl
  have G_is_figures : Fnd K mg "is_figures" 18 ["run", "most"] := F_is_figures.fnd X G fun _ _ _ _ _ _ us hl => match us, hl with | [_, _], _ => rfl
  have G_run_token : Fnd K mg "run_token" 19 ["run", "most"] := F_run_token.fnd X G fun _ _ _ _ _ _ us hl => match us, hl with | [_, _], _ => rfl
  have G_token_at : Fnd K mg "token_at" 20 ["text", "begin", "most"] := F_token_at.fnd X G fun _ _ _ _ _ _ us hl => match us, hl with | [_, _, _], _ => rfl
  have G_scanned : Fnd K mg "scanned" 21 ["text", "most"] := F_scanned.fnd X G fun _ _ _ _ _ _ us hl => match us, hl with | [_, _], _ => rfl
  have G_tokens : Fnd K mg "tokens" 22 ["text", "figures"] := F_tokens.fnd X G fun _ _ _ _ _ _ us hl => match us, hl with | [_, _], _ => rfl
  have G__law_bag : Fnd K mg "_law_bag" 24 ["script"] := F__law_bag.fnd X G fun _ _ _ _ _ _ us hl => match us, hl with | [_], _ => rfl
  have G__law_take : Fnd K mg "_law_take" 25 ["bag", "many"] := F__law_take.fnd X G fun _ _ _ _ _ _ us hl => match us, hl with | [_, _], _ => rfl
  have G__law_loose : Fnd K mg "_law_loose" 26 ["bag", "text"] := F__law_loose.fnd X G fun _ _ _ _ _ _ us hl => match us, hl with | [_, _], _ => rfl
  have G__law_part_text : Fnd K mg "_law_part_text" 27 ["price"] := F__law_part_text.fnd X G fun _ _ _ _ _ _ us hl => match us, hl with | [_], _ => rfl
  have G__law_price_text : Fnd K mg "_law_price_text" 28 ["price"] := F__law_price_text.fnd X G fun _ _ _ _ _ _ us hl => match us, hl with | [_], _ => rfl
  have G__law_shop_text : Fnd K mg "_law_shop_text" 29 ["shop"] := F__law_shop_text.fnd X G fun _ _ _ _ _ _ us hl => match us, hl with | [_], _ => rfl
  have G__law_mixed : Fnd K mg "_law_mixed" 30 ["bag", "things"] := F__law_mixed.fnd X G fun _ _ _ _ _ _ us hl => match us, hl with | [_, _], _ => rfl
  have G__law_some : Fnd K mg "_law_some" 31 ["bag", "things"] := F__law_some.fnd X G fun _ _ _ _ _ _ us hl => match us, hl with | [_, _], _ => rfl
  have G__law_big_price : Fnd K mg "_law_big_price" 32 ["bag", "deep"] := F__law_big_price.fnd X G fun _ _ _ _ _ _ us hl => match us, hl with | [_, _], _ => rfl
  have G__law_big_shop : Fnd K mg "_law_big_shop" 33 ["bag"] := F__law_big_shop.fnd X G fun _ _ _ _ _ _ us hl => match us, hl with | [_], _ => rfl
  have G__law_bent_text : Fnd K mg "_law_bent_text" 34 ["bag", "text"] := F__law_bent_text.fnd X G fun _ _ _ _ _ _ us hl => match us, hl with | [_, _], _ => rfl
  have G__law_alike : Fnd K mg "_law_alike" 35 ["found", "wanted"] := F__law_alike.fnd X G fun _ _ _ _ _ _ us hl => match us, hl with | [_, _], _ => rfl
  have G__law_runs : Fnd K mg "_law_runs" 36 ["text", "figures"] := F__law_runs.fnd X G fun _ _ _ _ _ _ us hl => match us, hl with | [_, _], _ => rfl
  have G_law : Fnd K mg "law" 37 ["script"] := F_law.fnd X G fun _ _ _ _ _ _ us hl => match us, hl with | [_], _ => rfl
  have D_is_number := d_is_number (P := P) (w := w) (base := base) T G_is_number 
  have D_is_index := d_is_index (P := P) (w := w) (base := base) T G_is_index D_is_number
  have D_is_name := d_is_name (P := P) (w := w) (base := base) T G_is_name 
  have D_end_of_run := d_end_of_run (P := P) (w := w) (base := base) T G_end_of_run 
  have D_is_figures := d_is_figures (P := P) (w := w) (base := base) T G_is_figures 
  have D_run_token := d_run_token (P := P) (w := w) (base := base) T G_run_token D_is_name D_is_figures
  have D_token_at := d_token_at (P := P) (w := w) (base := base) T G_token_at D_end_of_run D_is_figures D_run_token
  have D_scanned := d_scanned (P := P) (w := w) (base := base) T G_scanned D_token_at
  have D_tokens := d_tokens (P := P) (w := w) (base := base) T G_tokens D_is_index D_scanned
  have D__law_bag := d__law_bag (P := P) (w := w) (base := base) T G__law_bag 
  have D__law_take := d__law_take (P := P) (w := w) (base := base) T G__law_take 
  have D__law_loose := d__law_loose (P := P) (w := w) (base := base) T G__law_loose D__law_take
  have D__law_price_text := d__law_price_text (P := P) (w := w) (base := base) T G__law_price_text G__law_part_text 20
  have D__law_shop_text := d__law_shop_text (P := P) (w := w) (base := base) T G__law_shop_text D__law_price_text
  have D__law_mixed := d__law_mixed (P := P) (w := w) (base := base) T G__law_mixed D__law_take
  have D__law_some := d__law_some (P := P) (w := w) (base := base) T G__law_some D__law_take
  have D__law_big_price := d__law_big_price (P := P) (w := w) (base := base) T G__law_big_price D__law_take D__law_some 20
  have D__law_big_shop := d__law_big_shop (P := P) (w := w) (base := base) T G__law_big_shop D__law_take D__law_mixed D__law_some D__law_big_price
  have D__law_bent_text := d__law_bent_text (P := P) (w := w) (base := base) T G__law_bent_text D__law_take D__law_some
  have D__law_alike := d__law_alike (P := P) (w := w) (base := base) T G__law_alike 
  have D__law_runs := d__law_runs (P := P) (w := w) (base := base) T G__law_runs 
  have E0 := d0_is_number (P := P) (w := w) (base := base) T G_is_number
  have E1 := d0_is_index (P := P) (w := w) (base := base) T G_is_index E0
  have DN := dN_tokens (P := P) (w := w) (base := base) T G_tokens E1
  have H0 := dH_is_number (P := P) (w := w) (base := base) T G_is_number
  have H1 := dH_is_index (P := P) (w := w) (base := base) T G_is_index H0
  have H2 := dH_scanned (P := P) (w := w) (base := base) T G_scanned
  have H3 := dH_tokens (P := P) (w := w) (base := base) T G_tokens H1 H2
  have H4 := (dH__law_alike (P := P) (w := w) (base := base) T G__law_alike).mono (by decide : 1 ≤ 4)
  have D_law := d_law (P := P) (w := w) (base := base) T G_law D_tokens D__law_bag D__law_take D__law_loose D__law_shop_text D__law_some D__law_big_shop D__law_bent_text D__law_alike D__law_runs DN H3 H4
  exact D_law

end PyM
open PySem PySem.W PyProof.Rows PyM
set_option maxRecDepth 100000 in
set_option maxHeartbeats 0 in
theorem PySem.Challenge.cw_leantill_k03_tokens_of_texts_holds : PySem.Challenge.rw_leantill_k03_tokens_of_texts.Holds := by
  w_on; o_law; k_head; (case hw => w_witness2)
  k_fill
  refine PyM.walk_mirrorX (l := PySem.Challenge.rw_leantill_k03_tokens_of_texts) (n := 63) (k := 42) (Fm := PyM.m_law) rfl (by decide) rfl ⟨rfl, by decide, by decide⟩ (fun w h Y => PySem.W.kIn_of Y) ?F PyM.plain_law
  case F =>
    intro w mg h KX G
    refine' PyM.all_k KX G ?F_is_number ?F_is_index ?F_is_name ?F_end_of_run ?F_is_figures ?F_run_token ?F_token_at ?F_scanned ?F_tokens ?F__law_bag ?F__law_take ?F__law_loose ?F__law_part_text ?F__law_price_text ?F__law_shop_text ?F__law_mixed ?F__law_some ?F__law_big_price ?F__law_big_shop ?F__law_bent_text ?F__law_alike ?F__law_runs ?F_law ?B_abs ?B_all ?B_bool ?B_int ?B_isinstance ?B_len ?B_list ?B_max ?B_min ?B_range ?B_repr ?B_sorted ?B_str ?B_tuple ?C_DIGITS ?C_LETTERS ?C_MARKS ?C_MOST_ASKED ?C_MOST_LETTERS ?C_MOST_SIGNS ?C_RESERVED ?A_Nothing ?k_Nothing ?ic_Nothing ?s_Nothing ?t_Nothing ?ga_Nothing ?gg_Nothing ?hd_Nothing ?x_Nothing ?A_TooLarge ?k_TooLarge ?ic_TooLarge ?s_TooLarge ?t_TooLarge ?ga_TooLarge ?gg_TooLarge ?hd_TooLarge ?l_TooLarge ?v_TooLarge ?sa_TooLarge ?np_TooLarge ?nq_TooLarge ?i_TooLarge ?ti_TooLarge ?su_TooLarge ?sv_TooLarge ?se_TooLarge ?lf_TooLarge ?cf_TooLarge ?lcd_TooLarge ?hv_TooLarge ?hf_TooLarge ?lcc_TooLarge ?opq ?nosup ?topn ?e_Nothing_Nothing ?e_Nothing_TooLarge ?e_TooLarge_Nothing ?e_TooLarge_TooLarge
    (case F_is_number => refine' FAt.of ?a ?l ?c ?k; (case a => k_is); (case l => k_is); (case c => k_is); (case k => k_is))
    (case F_is_index => refine' FAt.of ?a ?l ?c ?k; (case a => k_is); (case l => k_is); (case c => k_is); (case k => k_is))
    (case F_is_name => refine' FAt.of ?a ?l ?c ?k; (case a => k_is); (case l => k_is); (case c => k_is); (case k => k_is))
    (case F_end_of_run => refine' FAt.of ?a ?l ?c ?k; (case a => k_is); (case l => k_is); (case c => k_is); (case k => k_is))
    (case F_is_figures => refine' FAt.of ?a ?l ?c ?k; (case a => k_is); (case l => k_is); (case c => k_is); (case k => k_is))
    (case F_run_token => refine' FAt.of ?a ?l ?c ?k; (case a => k_is); (case l => k_is); (case c => k_is); (case k => k_is))
    (case F_token_at => refine' FAt.of ?a ?l ?c ?k; (case a => k_is); (case l => k_is); (case c => k_is); (case k => k_is))
    (case F_scanned => refine' FAt.of ?a ?l ?c ?k; (case a => k_is); (case l => k_is); (case c => k_is); (case k => k_is))
    (case F_tokens => refine' FAt.of ?a ?l ?c ?k; (case a => k_is); (case l => k_is); (case c => k_is); (case k => k_is))
    (case F__law_bag => refine' FAt.of ?a ?l ?c ?k; (case a => k_is); (case l => k_is); (case c => k_is); (case k => k_is))
    (case F__law_take => refine' FAt.of ?a ?l ?c ?k; (case a => k_is); (case l => k_is); (case c => k_is); (case k => k_is))
    (case F__law_loose => refine' FAt.of ?a ?l ?c ?k; (case a => k_is); (case l => k_is); (case c => k_is); (case k => k_is))
    (case F__law_part_text => refine' FAt.of ?a ?l ?c ?k; (case a => k_is); (case l => k_is); (case c => k_is); (case k => k_is))
    (case F__law_price_text => refine' FAt.of ?a ?l ?c ?k; (case a => k_is); (case l => k_is); (case c => k_is); (case k => k_is))
    (case F__law_shop_text => refine' FAt.of ?a ?l ?c ?k; (case a => k_is); (case l => k_is); (case c => k_is); (case k => k_is))
    (case F__law_mixed => refine' FAt.of ?a ?l ?c ?k; (case a => k_is); (case l => k_is); (case c => k_is); (case k => k_is))
    (case F__law_some => refine' FAt.of ?a ?l ?c ?k; (case a => k_is); (case l => k_is); (case c => k_is); (case k => k_is))
    (case F__law_big_price => refine' FAt.of ?a ?l ?c ?k; (case a => k_is); (case l => k_is); (case c => k_is); (case k => k_is))
    (case F__law_big_shop => refine' FAt.of ?a ?l ?c ?k; (case a => k_is); (case l => k_is); (case c => k_is); (case k => k_is))
    (case F__law_bent_text => refine' FAt.of ?a ?l ?c ?k; (case a => k_is); (case l => k_is); (case c => k_is); (case k => k_is))
    (case F__law_alike => refine' FAt.of ?a ?l ?c ?k; (case a => k_is); (case l => k_is); (case c => k_is); (case k => k_is))
    (case F__law_runs => refine' FAt.of ?a ?l ?c ?k; (case a => k_is); (case l => k_is); (case c => k_is); (case k => k_is))
    (case F_law => refine' FAt.of ?a ?l ?c ?k; (case a => k_is); (case l => k_is); (case c => k_is); (case k => k_is))
    (case B_abs => k_is)
    (case B_all => k_is)
    (case B_bool => k_is)
    (case B_int => k_is)
    (case B_isinstance => k_is)
    (case B_len => k_is)
    (case B_list => k_is)
    (case B_max => k_is)
    (case B_min => k_is)
    (case B_range => k_is)
    (case B_repr => k_is)
    (case B_sorted => k_is)
    (case B_str => k_is)
    (case B_tuple => k_is)
    (case C_LETTERS => refine' con_str KX G ?e_LETTERS; (case e_LETTERS => k_is))
    (case C_DIGITS => refine' con_str KX G ?e_DIGITS; (case e_DIGITS => k_is))
    (case C_MOST_LETTERS => refine' con_int KX G ?e_MOST_LETTERS; (case e_MOST_LETTERS => k_is))
    (case C_RESERVED => refine' con_tup (xs := ["barred", "deed", "down", "each", "else", "ends", "from", "full", "greatest", "half", "if", "is", "least", "less", "money", "packs", "plus", "reaches", "share", "shown", "standing", "then", "to", "until", "up"]) KX G ?e_RESERVED ?l_RESERVED ?c_RESERVED ?v_RESERVED ?h_RESERVED; (case e_RESERVED => k_is); (case l_RESERVED => k_is); (case c_RESERVED => rfl); (case v_RESERVED => repeat (first | exact StrsV.nil | refine StrsV.cons _ _ ?_)); (case h_RESERVED => decide))
    (case C_MOST_SIGNS => refine' con_int KX G ?e_MOST_SIGNS; (case e_MOST_SIGNS => k_is))
    (case C_MOST_ASKED => refine' con_int KX G ?e_MOST_ASKED; (case e_MOST_ASKED => k_is))
    (case C_MARKS => refine' con_str KX G ?e_MARKS; (case e_MARKS => k_is))
    (case A_Nothing => k_is)
    (case k_Nothing => k_is)
    (case ic_Nothing => k_is)
    (case s_Nothing => k_is)
    (case t_Nothing => k_is)
    (case ga_Nothing => k_is)
    (case gg_Nothing => k_is)
    (case hd_Nothing => k_is)
    (case x_Nothing => first | k_exc | k_is)
    (case A_TooLarge => k_is)
    (case k_TooLarge => k_is)
    (case ic_TooLarge => k_is)
    (case s_TooLarge => k_is)
    (case t_TooLarge => k_is)
    (case ga_TooLarge => k_is)
    (case gg_TooLarge => k_is)
    (case hd_TooLarge => k_is)
    (case l_TooLarge => k_is)
    (case v_TooLarge => decide +kernel)
    (case sa_TooLarge => k_is)
    (case np_TooLarge => k_is)
    (case nq_TooLarge => k_is)
    (case i_TooLarge => k_is)
    (case ti_TooLarge => k_is)
    (case su_TooLarge => ks_is)
    (case sv_TooLarge => k_is)
    (case se_TooLarge => k_is)
    (case lf_TooLarge => k_is)
    (case cf_TooLarge => k_is)
    (case lcd_TooLarge => k_is)
    (case hv_TooLarge => rfl)
    (case hf_TooLarge => decide +kernel)
    (case lcc_TooLarge => k_is)
    (case opq => k_is)
    (case nosup => k_is)
    (case topn => first | rfl | decide +kernel)
    (case e_Nothing_Nothing => first | rfl | k_is)
    (case e_Nothing_TooLarge => first | rfl | k_is)
    (case e_TooLarge_Nothing => first | rfl | k_is)
    (case e_TooLarge_TooLarge => first | rfl | k_is)
