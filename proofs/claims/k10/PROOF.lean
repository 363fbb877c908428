import PyProof.Rows.All
import Wide.All
import OpenK.AllK
import Wide.FinOn
import HandS.ForMost
import HandS.Walk
import HandS.Wide
import HandS.Flow
import HandS.Style
import HandS.IsInst
import HandS.Deep
import HandS.TupAny
import HandS.More
import HandS.Head0
import HandS.Head1
import HandS.Head2
import HandS.HeadHook1
import HandS.HeadHook2
import HandS.Defaults
import HandS.EndBits
import HandS.NoneIn
import PySem.Challenge.RW_heapwhole_k10_files_keep_a_beginning
set_option Elab.async false
set_option linter.all false
set_option maxRecDepth 100000
set_option maxHeartbeats 8000000
/-! Hw: a layer over HandS: two heaps, G (what is frozen and known) and H (what is); data by PyData; heaplets (As) for what is changed; the state ST. -/
namespace Hw
open PySem L2

/-! ### growth -/
structure Gx (L : Addr → Prop) (G H G' H' : Hp) : Prop where
  g : Same G G'
  h : ∀ b o, H b = some o → ¬ L b → H' b = some o
  s : Same G' H'
  ap : ∀ b, H b ≠ none → G b = none → G' b = none
  dom : ∀ b, H b ≠ none → H' b ≠ none
abbrev NoL : Addr → Prop := fun _ => False
abbrev Gr := Gx NoL
theorem Gx.rfl' {L : Addr → Prop} {G H : Hp} (s : Same G H) : Gx L G H G H :=
  ⟨Same.refl G, fun _ _ h _ => h, s, fun _ _ h => h, fun _ h => h⟩
theorem Gx.trans {L : Addr → Prop} {G H G1 H1 G2 H2 : Hp} (a : Gx L G H G1 H1) (b : Gx L G1 H1 G2 H2) : Gx L G H G2 H2 :=
  ⟨a.g.trans b.g, fun c o e n => b.h c o (a.h c o e n) n, b.s, fun c e n => b.ap c (a.dom c e) (a.ap c e n), fun c e => b.dom c (a.dom c e)⟩
theorem Gx.weak {L L' : Addr → Prop} {G H G' H' : Hp} (a : Gx L G H G' H') (w : ∀ b, L b → L' b) : Gx L' G H G' H' :=
  ⟨a.g, fun c o e n => a.h c o e fun z => n (w c z), a.s, a.ap, a.dom⟩
/-- a step that changes places which are new since the entry (or L's) -/
theorem Gx.then {L M : Addr → Prop} {G H G1 H1 G2 H2 : Hp} (a : Gx L G H G1 H1) (b : Gx M G1 H1 G2 H2) (w : ∀ c, M c → L c ∨ H c = none) : Gx L G H G2 H2 :=
  ⟨a.g.trans b.g, fun c o e n => b.h c o (a.h c o e n) (fun z => (w c z).elim n (fun q => absurd (e.symm.trans q) (fun y => nomatch y))), b.s,
    fun c e n => b.ap c (a.dom c e) (a.ap c e n), fun c e => b.dom c (a.dom c e)⟩
theorem Gx.clean {L : Addr → Prop} {G H G' H' : Hp} (a : Gx L G H G' H') (w : ∀ b, L b → H b = none) : Gr G H G' H' :=
  ⟨a.g, fun c o e _ => a.h c o e (fun z => absurd (e.symm.trans (w c z)) (fun y => nomatch y)), a.s, a.ap, a.dom⟩
theorem Gx.same {G H G' H' : Hp} (a : Gr G H G' H') : Same H H' := fun b o e => a.h b o e fun z => z
theorem Gx.gnone {L : Addr → Prop} {G H G' H' : Hp} (a : Gx L G H G' H') {b : Addr} (h : H b ≠ none) (g : G b = none) : G' b = none := a.ap b h g
theorem none_of_same {G H : Hp} (s : Same G H) {b : Addr} (h : H b = none) : G b = none := s.free h
/-- a new frozen object -/
theorem Gx.frz {L : Addr → Prop} {G H : Hp} (s : Same G H) {p : Addr} {o : HO} (hp : H p = none) : Gx L G H (upd G p o) (upd H p o) := by
  have gp : G p = none := none_of_same s hp
  refine ⟨fun b u e => ?_, fun b u e _ => ?_, fun b u e => ?_, fun b e n => ?_, fun b e => ?_⟩
  · rw [upd_ne (ne_of_none e gp)]; exact e
  · rw [upd_ne (ne_of_none e hp)]; exact e
  · by_cases hb : b = p
    · subst hb; rw [upd_same] at e ⊢; exact e
    · rw [upd_ne hb] at e ⊢; exact s b u e
  · have hb : b ≠ p := fun q => e (by rw [q]; exact hp)
    rw [upd_ne hb]; exact n
  · by_cases hb : b = p
    · subst hb; rw [upd_same]; exact fun z => by cases z
    · rw [upd_ne hb]; exact e
/-- a new object that stays changeable -/
theorem Gx.new {L : Addr → Prop} {G H : Hp} (s : Same G H) {p : Addr} {o : HO} (hp : H p = none) : Gx L G H G (upd H p o) := by
  refine ⟨Same.refl G, fun b u e _ => ?_, fun b u e => ?_, fun b _ n => n, fun b e => ?_⟩
  · rw [upd_ne (ne_of_none e hp)]; exact e
  · rw [upd_ne (ne_of_none (s b u e) hp)]; exact s b u e
  · by_cases hb : b = p
    · subst hb; rw [upd_same]; exact fun z => by cases z
    · rw [upd_ne hb]; exact e
/-- a changeable object is written -/
theorem Gx.put {G H : Hp} (s : Same G H) {p : Addr} {o : HO} (gp : G p = none) : Gx (fun b => b = p) G H G (upd H p o) := by
  refine ⟨Same.refl G, fun b u e n => ?_, fun b u e => ?_, fun b _ n => n, fun b e => ?_⟩
  · rw [upd_ne n]; exact e
  · rw [upd_ne (ne_of_none e gp)]; exact s b u e
  · by_cases hb : b = p
    · subst hb; rw [upd_same]; exact fun z => by cases z
    · rw [upd_ne hb]; exact e

/-! ### data -/
mutual
/-- the value v is the data d, by what G holds -/
inductive Da (G : Hp) : V → PyData → Prop
  | non : Da G .non .none
  | bl (b : Bool) : Da G (.bl b) (.bool b)
  | int (i : Int) : Da G (.int i) (.int i)
  | str (x : Str) : Da G (.str x) (.str x)
  | lst {a : Addr} {xs : List V} {ds : List PyData} : G a = some (.lst xs) → DaAll G xs ds → Da G (.ref a) (.list ds)
  | tup {a : Addr} {xs : List V} {ds : List PyData} : G a = some (.tup xs) → DaAll G xs ds → Da G (.ref a) (.tuple ds)
inductive DaAll (G : Hp) : List V → List PyData → Prop
  | nil : DaAll G [] []
  | cons {v : V} {vs : List V} {d : PyData} {ds : List PyData} : Da G v d → DaAll G vs ds → DaAll G (v :: vs) (d :: ds)
end
mutual
theorem da_mono {G G' : Hp} (s : ∀ b o, G b = some o → G' b = some o) : ∀ (d : PyData) (v : V), Da G v d → Da G' v d
  | .none, _, h => by cases h; exact .non
  | .bool b, _, h => by cases h; exact .bl b
  | .int i, _, h => by cases h; exact .int i
  | .str x, _, h => by cases h; exact .str x
  | .list ds, _, h => by
    cases h with
    | lst hs ha => exact .lst (s _ _ hs) (daAll_mono s ds _ ha)
  | .tuple ds, _, h => by
    cases h with
    | tup hs ha => exact .tup (s _ _ hs) (daAll_mono s ds _ ha)
  | .dict _, _, h => by cases h
theorem daAll_mono {G G' : Hp} (s : ∀ b o, G b = some o → G' b = some o) : ∀ (ds : List PyData) (vs : List V), DaAll G vs ds → DaAll G' vs ds
  | [], _, h => by cases h; exact .nil
  | d :: ds, _, h => by
    cases h with
    | cons h1 h2 => exact .cons (da_mono s d _ h1) (daAll_mono s ds _ h2)
end
theorem Da.mono {G G' : Hp} {v : V} {d : PyData} (h : Da G v d) (s : Same G G') : Da G' v d := da_mono s d v h
theorem DaAll.mono {G G' : Hp} {vs : List V} {ds : List PyData} (h : DaAll G vs ds) (s : Same G G') : DaAll G' vs ds := daAll_mono s ds vs h
mutual
theorem da_dp {K : PySem.W.Frag} {G : Hp} : ∀ (d : PyData) (v : V), Da G v d → Dp K G v d
  | .none, _, h => by cases h; exact .non
  | .bool b, _, h => by cases h; exact .bl b
  | .int i, _, h => by cases h; exact .int i
  | .str x, _, h => by cases h; exact .str x
  | .list ds, _, h => by
    cases h with
    | lst hs ha => exact .lst (SqL.of hs) (daAll_dp ds _ ha)
  | .tuple ds, _, h => by
    cases h with
    | tup hs ha => exact .tup (SqT.of hs) (daAll_dp ds _ ha)
  | .dict _, _, h => by cases h
theorem daAll_dp {K : PySem.W.Frag} {G : Hp} : ∀ (ds : List PyData) (vs : List V), DaAll G vs ds → DpAll K G vs ds
  | [], _, h => by cases h; exact .nil
  | d :: ds, _, h => by
    cases h with
    | cons h1 h2 => exact .cons (da_dp d _ h1) (daAll_dp ds _ h2)
end
theorem Da.dp {K : PySem.W.Frag} {G H : Hp} {v : V} {d : PyData} (h : Da G v d) (s : Same G H) : Dp K H v d := da_dp d v (h.mono s)
section
variable {G H : Hp}
theorem da_int {v : V} {i : Int} (h : Da G v (.int i)) : v = .int i := by cases h; rfl
theorem da_str {v : V} {x : Str} (h : Da G v (.str x)) : v = .str x := by cases h; rfl
theorem da_bl {v : V} {b : Bool} (h : Da G v (.bool b)) : v = .bl b := by cases h; rfl
theorem da_non {v : V} (h : Da G v .none) : v = .non := by cases h; rfl
theorem da_lst {v : V} {ds : List PyData} (h : Da G v (.list ds)) : ∃ a xs, v = .ref a ∧ G a = some (.lst xs) ∧ DaAll G xs ds := by cases h with | lst a b => exact ⟨_, _, rfl, a, b⟩
theorem da_tup {v : V} {ds : List PyData} (h : Da G v (.tuple ds)) : ∃ a xs, v = .ref a ∧ G a = some (.tup xs) ∧ DaAll G xs ds := by cases h with | tup a b => exact ⟨_, _, rfl, a, b⟩
theorem da_len : ∀ {xs : List V} {ds : List PyData}, DaAll G xs ds → xs.length = ds.length
  | _, _, .nil => rfl
  | _, _, .cons _ h => congrArg Nat.succ (da_len h)
theorem da_get : ∀ {xs : List V} {ds : List PyData} {i : Nat} {d : PyData}, DaAll G xs ds → ds[i]? = some d → ∃ v, xs[i]? = some v ∧ Da G v d
  | _, _, _, _, .nil, e => by simp at e
  | _, _, 0, _, .cons h _, e => by simp at e; subst e; exact ⟨_, rfl, h⟩
  | _, _, i + 1, _, .cons _ h, e => by
    obtain ⟨v, h1, h2⟩ := da_get (i := i) h (by simpa using e)
    exact ⟨v, by simpa using h1, h2⟩
theorem da_getV {xs : List V} {ds : List PyData} {i : Nat} {v : V} (h : DaAll G xs ds) (e : xs[i]? = some v) : ∃ d, ds[i]? = some d ∧ Da G v d := by
  have hl := da_len h
  have hi : i < xs.length := (List.getElem?_eq_some_iff.mp e).1
  obtain ⟨w, h1, h2⟩ := da_get (i := i) (d := ds[i]'(by omega)) h (by simp [show i < ds.length by omega])
  rw [e] at h1; cases h1
  exact ⟨_, by simp [show i < ds.length by omega], h2⟩
theorem da_app : ∀ {xs ys : List V} {ds es : List PyData}, DaAll G xs ds → DaAll G ys es → DaAll G (xs ++ ys) (ds ++ es)
  | _, _, _, _, .nil, h => h
  | _, _, _, _, .cons a b, h => .cons a (da_app b h)
theorem da_take : ∀ {xs : List V} {ds : List PyData} (n : Nat), DaAll G xs ds → DaAll G (xs.take n) (ds.take n)
  | _, _, 0, _ => .nil
  | _, _, _ + 1, .nil => .nil
  | _, _, n + 1, .cons a b => .cons a (da_take n b)
theorem da_drop : ∀ {xs : List V} {ds : List PyData} (n : Nat), DaAll G xs ds → DaAll G (xs.drop n) (ds.drop n)
  | _, _, 0, h => h
  | _, _, _ + 1, .nil => .nil
  | _, _, n + 1, .cons a b => da_drop n b
theorem da_set : ∀ {xs : List V} {ds : List PyData} {v : V} {d : PyData} (n : Nat), DaAll G xs ds → Da G v d → DaAll G (xs.set n v) (ds.set n d)
  | _, _, _, _, _, .nil, _ => .nil
  | _, _, _, _, 0, .cons _ b, h => .cons h b
  | _, _, _, _, n + 1, .cons a b, h => .cons a (da_set n b h)
theorem da_snoc {xs : List V} {ds : List PyData} {v : V} {d : PyData} (h : DaAll G xs ds) (q : Da G v d) : DaAll G (xs ++ [v]) (ds ++ [d]) := da_app h (.cons q .nil)
theorem da_rev : ∀ {xs : List V} {ds : List PyData}, DaAll G xs ds → DaAll G xs.reverse ds.reverse
  | _, _, .nil => .nil
  | _, _, .cons a b => by
    rw [List.reverse_cons, List.reverse_cons]
    exact da_snoc (da_rev b) a
theorem da_ints : ∀ {xs : List V} {ns : List Int}, DaAll G xs (ns.map .int) → xs = ns.map .int
  | _, [], h => by cases h; rfl
  | _, n :: ns, h => by
    cases h with
    | cons a b => rw [da_int a, da_ints b]; rfl
theorem da_of_ints : ∀ (ns : List Int), DaAll G (ns.map .int) (ns.map .int)
  | [] => .nil
  | n :: ns => .cons (.int n) (da_of_ints ns)
theorem da_strs : ∀ {xs : List V} {ns : List Str}, DaAll G xs (ns.map .str) → xs = ns.map .str
  | _, [], h => by cases h; rfl
  | _, n :: ns, h => by
    cases h with
    | cons a b => rw [da_str a, da_strs b]; rfl
theorem da_bls : ∀ {xs : List V} {ns : List Bool}, DaAll G xs (ns.map .bool) → xs = ns.map .bl
  | _, [], h => by cases h; rfl
  | _, n :: ns, h => by
    cases h with
    | cons a b => rw [da_bl a, da_bls b]; rfl
theorem da_nil {xs : List V} (h : DaAll G xs []) : xs = [] := by cases h; rfl
theorem da_cons {xs : List V} {d : PyData} {ds : List PyData} (h : DaAll G xs (d :: ds)) : ∃ v vs, xs = v :: vs ∧ Da G v d ∧ DaAll G vs ds := by
  cases h with | cons a b => exact ⟨_, _, rfl, a, b⟩
end

/-! ### slots -/
inductive Sl where
  | any | dat (d : PyData) | val (v : V)
def SlOk (G : Hp) (o : Option V) : Sl → Prop
  | .any => True
  | .dat d => ∃ v, o = some v ∧ Da G v d
  | .val v => o = some v
def EnvOk (G : Hp) : St → List Sl → Prop
  | [], [] => True
  | o :: σ, r :: ρ => SlOk G o r ∧ EnvOk G σ ρ
  | _, _ => False
section
variable {G G' H : Hp}
theorem SlOk.mono (s : Same G G') {o : Option V} : ∀ {r : Sl}, SlOk G o r → SlOk G' o r
  | .any, _ => True.intro
  | .dat _, ⟨v, e, h⟩ => ⟨v, e, h.mono s⟩
  | .val _, h => h
theorem EnvOk.mono (s : Same G G') : ∀ {σ : St} {ρ : List Sl}, EnvOk G σ ρ → EnvOk G' σ ρ
  | [], [], _ => True.intro
  | _ :: _, _ :: _, ⟨a, b⟩ => ⟨a.mono s, EnvOk.mono s b⟩
  | [], _ :: _, h => h.elim
  | _ :: _, [], h => h.elim
theorem EnvOk.getS : ∀ {σ : St} {ρ : List Sl} {i : Nat} {r : Sl}, EnvOk G σ ρ → ρ[i]? = some r → ∃ o, σ[i]? = some o ∧ SlOk G o r
  | [], [], _, _, _, e => by simp at e
  | o :: _, r :: _, 0, _, ⟨a, _⟩, e => by simp at e; subst e; exact ⟨o, rfl, a⟩
  | _ :: σ, _ :: ρ, i + 1, _, ⟨_, b⟩, e => by
    obtain ⟨o, h1, h2⟩ := EnvOk.getS (i := i) b (by simpa using e)
    exact ⟨o, by simpa using h1, h2⟩
  | [], _ :: _, _, _, h, _ => h.elim
  | _ :: _, [], _, _, h, _ => h.elim
theorem EnvOk.setS : ∀ {σ : St} {ρ : List Sl} (i : Nat) {o : Option V} {r : Sl}, EnvOk G σ ρ → SlOk G o r → EnvOk G (σ.set i o) (ρ.set i r)
  | [], [], _, _, _, _, _ => True.intro
  | _ :: _, _ :: _, 0, _, _, ⟨_, b⟩, h => ⟨h, b⟩
  | _ :: _, _ :: _, i + 1, _, _, ⟨a, b⟩, h => ⟨a, EnvOk.setS i b h⟩
  | [], _ :: _, _, _, _, h, _ => h.elim
  | _ :: _, [], _, _, _, h, _ => h.elim
/-- weaker slots, one by one -/
def SlLe (G : Hp) (r r' : Sl) : Prop := ∀ o, SlOk G o r → SlOk G o r'
def SlsLe (G : Hp) : List Sl → List Sl → Prop
  | [], [] => True
  | r :: ρ, r' :: ρ' => SlLe G r r' ∧ SlsLe G ρ ρ'
  | _, _ => False
theorem EnvOk.le : ∀ {σ : St} {ρ ρ' : List Sl}, EnvOk G σ ρ → SlsLe G ρ ρ' → EnvOk G σ ρ'
  | [], [], [], _, _ => True.intro
  | _ :: _, _ :: _, _ :: _, ⟨a, b⟩, ⟨c, d⟩ => ⟨c _ a, EnvOk.le b d⟩
  | [], _ :: _, _, h, _ => h.elim
  | _ :: _, [], _, h, _ => h.elim
  | _, [], _ :: _, _, h => h.elim
  | _, _ :: _, [], _, h => h.elim
theorem SlLe.rfl' {r : Sl} : SlLe G r r := fun _ h => h
theorem SlLe.any' {r : Sl} : SlLe G r .any := fun _ _ => True.intro
theorem SlLe.frz {v : V} {d : PyData} (h : Da G v d) : SlLe G (.val v) (.dat d) := fun _ e => ⟨v, e, h⟩
theorem SlLe.int' {i : Int} : SlLe G (.dat (.int i)) (.val (.int i)) := fun o ⟨v, e, h⟩ => by rw [da_int h] at e; exact e
theorem SlLe.str' {i : Str} : SlLe G (.dat (.str i)) (.val (.str i)) := fun o ⟨v, e, h⟩ => by rw [da_str h] at e; exact e
theorem SlLe.bl' {i : Bool} : SlLe G (.dat (.bool i)) (.val (.bl i)) := fun o ⟨v, e, h⟩ => by rw [da_bl h] at e; exact e
theorem SlLe.non' : SlLe G (.dat .none) (.val .non) := fun o ⟨v, e, h⟩ => by rw [da_non h] at e; exact e
theorem SlLe.int'' {i : Int} : SlLe G (.val (.int i)) (.dat (.int i)) := fun o e => ⟨_, e, .int i⟩
/-- a def's entry -/
def ent (n : Nat) (ρ : List Sl) : List Sl := ρ ++ List.replicate (n - ρ.length) .any
theorem env_none (G : Hp) : ∀ n, EnvOk G (List.replicate n none) (List.replicate n .any)
  | 0 => True.intro
  | n + 1 => ⟨True.intro, env_none G n⟩
theorem env_app : ∀ {σ τ : St} {ρ θ : List Sl}, EnvOk G σ ρ → EnvOk G τ θ → EnvOk G (σ ++ τ) (ρ ++ θ)
  | [], _, [], _, _, h => h
  | _ :: _, _, _ :: _, _, ⟨a, b⟩, h => ⟨a, env_app b h⟩
  | [], _, _ :: _, _, h, _ => h.elim
  | _ :: _, _, [], _, h, _ => h.elim
theorem env_dat : ∀ {vs : List V} {ds : List PyData}, DaAll G vs ds → EnvOk G (vs.map some) (ds.map .dat)
  | _, _, .nil => True.intro
  | _, _, .cons a b => ⟨⟨_, rfl, a⟩, env_dat b⟩
theorem EnvOk.len : ∀ {σ : St} {ρ : List Sl}, EnvOk G σ ρ → σ.length = ρ.length
  | [], [], _ => rfl
  | _ :: _, _ :: _, ⟨_, b⟩ => congrArg Nat.succ (EnvOk.len b)
  | [], _ :: _, h => h.elim
  | _ :: _, [], h => h.elim
theorem env_start {N : List Str} {vs : List V} {ρ : List Sl} (h : EnvOk G (vs.map some) ρ) : EnvOk G (start N vs) (ρ ++ List.replicate (N.length - vs.length) .any) :=
  env_app h (env_none G _)
end

/-! ### what is changed: heaplets -/
structure As where
  fp : Addr → Prop
  ok : Hp → Hp → Prop
  stays : ∀ {G H G' H' : Hp}, Same G G' → (∀ b o, fp b → H b = some o → H' b = some o) → ok G H → ok G' H'
theorem As.gx (a : As) {G H G' H' : Hp} {L : Addr → Prop} (g : Gx L G H G' H') (n : ∀ b, a.fp b → ¬ L b) (k : a.ok G H) : a.ok G' H' := a.stays g.g (fun b o q e => g.h b o e (n b q)) k
/-- a list of data -/
def As.lst (l : Addr) (ds : List PyData) : As where
  fp := fun b => b = l
  ok := fun G H => ∃ vs, H l = some (.lst vs) ∧ DaAll G vs ds
  stays := fun g k ⟨vs, e, h⟩ => ⟨vs, k _ _ rfl e, h.mono g⟩
/-- any object, as it is -/
def As.raw (l : Addr) (o : HO) : As where
  fp := fun b => b = l
  ok := fun _ H => H l = some o
  stays := fun _ k e => k _ _ rfl e

/-- a fact about what is frozen -/
structure Pin where
  ok : Hp → Prop
  mono : ∀ {G G' : Hp}, Same G G' → ok G → ok G'
/-- v is d -/
def pD (v : V) (d : PyData) : Pin := ⟨fun G => Da G v d, fun s h => h.mono s⟩
/-- what was known is known -/
def pS (G0 : Hp) : Pin := ⟨fun G => Same G0 G, fun s h => h.trans s⟩
/-- slots elsewhere -/
def pE (σ : St) (ρ : List Sl) : Pin := ⟨fun G => EnvOk G σ ρ, fun s h => h.mono s⟩
/-- the state within a def: G0 H0 the entry, L what of the entry may change; π pinned values; ρ the slots; μ the heaplets -/
structure ST (G0 H0 : Hp) (L : Addr → Prop) (π : List Pin) (ρ : List Sl) (μ : List As) (G : Hp) (σ : St) (H : Hp) : Prop where
  gx : Gx L G0 H0 G H
  env : EnvOk G σ ρ
  pin : ∀ p ∈ π, p.ok G
  ok : ∀ a ∈ μ, a.ok G H
  fp : ∀ a ∈ μ, ∀ b, a.fp b → G b = none ∧ H b ≠ none ∧ (L b ∨ H0 b = none)
  dj : μ.Pairwise fun a c => ∀ b, a.fp b → ¬ c.fp b
section
variable {G0 H0 : Hp} {L : Addr → Prop} {π : List Pin} {ρ : List Sl} {μ : List As} {G H G' H' : Hp} {σ σ' : St}
theorem ST.same (S : ST G0 H0 L π ρ μ G σ H) : Same G H := S.gx.s
/-- growth alone -/
theorem ST.grow (S : ST G0 H0 L π ρ μ G σ H) (g : Gr G H G' H') : ST G0 H0 L π ρ μ G' σ H' where
  gx := S.gx.then g fun _ z => z.elim
  env := S.env.mono g.g
  pin := fun p hp => p.mono g.g (S.pin p hp)
  ok := fun a ha => a.gx g (fun _ _ z => z) (S.ok a ha)
  fp := fun a ha b hb => ⟨g.ap b (S.fp a ha b hb).2.1 (S.fp a ha b hb).1, g.dom b (S.fp a ha b hb).2.1, (S.fp a ha b hb).2.2⟩
  dj := S.dj
theorem ST.new0 (S : ST G0 H0 L π ρ μ G σ H) {b : Addr} (h : H b = none) : H0 b = none := by
  cases e : H0 b with
  | none => rfl
  | some o => exact absurd h (S.gx.dom b (by rw [e]; exact fun z => by cases z))
/-- the slots -/
theorem ST.slot (S : ST G0 H0 L π ρ μ G σ H) (e : EnvOk G σ' ρ') : ST G0 H0 L π ρ' μ G σ' H := ⟨S.gx, e, S.pin, S.ok, S.fp, S.dj⟩
theorem ST.set (S : ST G0 H0 L π ρ μ G σ H) (i : Nat) {v : V} : ST G0 H0 L π (ρ.set i (.val v)) μ G (σ.set i (some v)) H := S.slot (S.env.setS i rfl)
theorem ST.setD (S : ST G0 H0 L π ρ μ G σ H) (i : Nat) {v : V} {d : PyData} (h : Da G v d) : ST G0 H0 L π (ρ.set i (.dat d)) μ G (σ.set i (some v)) H := S.slot (S.env.setS i ⟨v, rfl, h⟩)
theorem ST.le (S : ST G0 H0 L π ρ μ G σ H) {ρ' : List Sl} (h : SlsLe G ρ ρ') : ST G0 H0 L π ρ' μ G σ H := S.slot (S.env.le h)
/-- pins -/
theorem ST.pinP (S : ST G0 H0 L π ρ μ G σ H) {p : Pin} (h : p.ok G) : ST G0 H0 L (p :: π) ρ μ G σ H :=
  ⟨S.gx, S.env, fun q hq => (List.mem_cons.mp hq).elim (fun e => by rw [e]; exact h) (S.pin q), S.ok, S.fp, S.dj⟩
theorem ST.pinned (S : ST G0 H0 L π ρ μ G σ H) {v : V} {d : PyData} (h : Da G v d) : ST G0 H0 L (pD v d :: π) ρ μ G σ H := S.pinP (p := pD v d) h
theorem ST.unpin {q : Pin} (S : ST G0 H0 L (q :: π) ρ μ G σ H) : ST G0 H0 L π ρ μ G σ H :=
  ⟨S.gx, S.env, fun p hp => S.pin p (List.mem_cons_of_mem _ hp), S.ok, S.fp, S.dj⟩
theorem ST.pin0 {v : V} {d : PyData} (S : ST G0 H0 L (pD v d :: π) ρ μ G σ H) : Da G v d := S.pin (pD v d) (List.mem_cons_self ..)
theorem ST.pin1 {q : Pin} {v : V} {d : PyData} (S : ST G0 H0 L (q :: pD v d :: π) ρ μ G σ H) : Da G v d := S.pin (pD v d) (List.mem_cons_of_mem _ (List.mem_cons_self ..))
theorem ST.pin2 {q r : Pin} {v : V} {d : PyData} (S : ST G0 H0 L (q :: r :: pD v d :: π) ρ μ G σ H) : Da G v d := S.pin (pD v d) (List.mem_cons_of_mem _ (List.mem_cons_of_mem _ (List.mem_cons_self ..)))
theorem ST.pin3 {q r t : Pin} {v : V} {d : PyData} (S : ST G0 H0 L (q :: r :: t :: pD v d :: π) ρ μ G σ H) : Da G v d := S.pin (pD v d) (List.mem_cons_of_mem _ (List.mem_cons_of_mem _ (List.mem_cons_of_mem _ (List.mem_cons_self ..))))
/-- the slots are kept beside, and are taken again -/
theorem ST.save (S : ST G0 H0 L π ρ μ G σ H) : ST G0 H0 L (pE σ ρ :: π) ρ μ G σ H := S.pinP (p := pE σ ρ) S.env
theorem ST.back {σ' : St} {ρ' : List Sl} (S : ST G0 H0 L (pE σ ρ :: π) ρ' μ G σ' H) : ST G0 H0 L π ρ μ G σ H :=
  ⟨S.gx, S.pin (pE σ ρ) (List.mem_cons_self ..), fun p hp => S.pin p (List.mem_cons_of_mem _ hp), S.ok, S.fp, S.dj⟩
/-- a heaplet is new -/
theorem ST.add (S : ST G0 H0 L π ρ μ G σ H) (g : Gr G H G' H') {A : As} (ok : A.ok G' H') (fp : ∀ b, A.fp b → H b = none ∧ G' b = none ∧ H' b ≠ none) : ST G0 H0 L π ρ (A :: μ) G' σ H' := by
  have S' := S.grow g
  refine ⟨S'.gx, S'.env, S'.pin, fun a ha => ?_, fun a ha b hb => ?_, List.pairwise_cons.mpr ⟨fun a ha b hb z => (S.fp a ha b z).2.1 (fp b hb).1, S.dj⟩⟩
  · rcases List.mem_cons.mp ha with e | ha
    · subst e; exact ok
    · exact S'.ok a ha
  · rcases List.mem_cons.mp ha with e | ha
    · subst e; exact ⟨(fp b hb).2.1, (fp b hb).2.2, .inr (S.new0 (fp b hb).1)⟩
    · exact S'.fp a ha b hb
theorem ST.drop {A : As} (S : ST G0 H0 L π ρ (A :: μ) G σ H) : ST G0 H0 L π ρ μ G σ H :=
  ⟨S.gx, S.env, S.pin, fun a ha => S.ok a (List.mem_cons_of_mem _ ha), fun a ha => S.fp a (List.mem_cons_of_mem _ ha), (List.pairwise_cons.mp S.dj).2⟩
/-- the heaplet ahead changes -/
theorem ST.step {A A' : As} (S : ST G0 H0 L π ρ (A :: μ) G σ H) (g : Gx A.fp G H G' H') (ok : A'.ok G' H') (fp : ∀ b, A'.fp b → (A.fp b ∨ H b = none) ∧ G' b = none ∧ H' b ≠ none) : ST G0 H0 L π ρ (A' :: μ) G' σ H' := by
  have dj := List.pairwise_cons.mp S.dj
  have mA : A ∈ A :: μ := List.mem_cons_self ..
  refine ⟨S.gx.then g fun c z => (S.fp A mA c z).2.2, S.env.mono g.g, fun p hp => p.mono g.g (S.pin p hp), fun a ha => ?_, fun a ha b hb => ?_, List.pairwise_cons.mpr ⟨fun a ha b hb z => ?_, dj.2⟩⟩
  · rcases List.mem_cons.mp ha with e | ha
    · subst e; exact ok
    · exact a.gx g (fun b hb z => dj.1 a ha b z hb) (S.ok a (List.mem_cons_of_mem _ ha))
  · rcases List.mem_cons.mp ha with e | ha
    · subst e
      obtain ⟨h1, h2, h3⟩ := fp b hb
      refine ⟨h2, h3, ?_⟩
      rcases h1 with h1 | h1
      · exact (S.fp A mA b h1).2.2
      · exact .inr (S.new0 h1)
    · obtain ⟨h1, h2, h3⟩ := S.fp a (List.mem_cons_of_mem _ ha) b hb
      exact ⟨g.ap b h2 h1, g.dom b h2, h3⟩
  · rcases (fp b hb).1 with h1 | h1
    · exact dj.1 a ha b h1 z
    · exact (S.fp a (List.mem_cons_of_mem _ ha) b z).2.1 h1
/-- heaplets in another order -/
theorem ST.perm {μ' : List As} (S : ST G0 H0 L π ρ μ G σ H) (p : μ.Perm μ') : ST G0 H0 L π ρ μ' G σ H :=
  ⟨S.gx, S.env, S.pin, fun a ha => S.ok a (p.mem_iff.mpr ha), fun a ha => S.fp a (p.mem_iff.mpr ha), (p.pairwise_iff (fun h b h1 h2 => h b h2 h1)).mp S.dj⟩
theorem ST.swap {A B : As} (S : ST G0 H0 L π ρ (A :: B :: μ) G σ H) : ST G0 H0 L π ρ (B :: A :: μ) G σ H := S.perm (List.Perm.swap B A μ)
theorem ST.swap1 {A B C : As} (S : ST G0 H0 L π ρ (A :: B :: C :: μ) G σ H) : ST G0 H0 L π ρ (A :: C :: B :: μ) G σ H := S.perm ((List.Perm.swap C B μ).cons A)
theorem ST.swap2 {A B C D : As} (S : ST G0 H0 L π ρ (A :: B :: C :: D :: μ) G σ H) : ST G0 H0 L π ρ (A :: B :: D :: C :: μ) G σ H := S.perm (((List.Perm.swap D C μ).cons B).cons A)
theorem ST.rot {A B C : As} (S : ST G0 H0 L π ρ (A :: B :: C :: μ) G σ H) : ST G0 H0 L π ρ (C :: A :: B :: μ) G σ H := by
  refine S.perm ?_
  exact ((List.Perm.swap C B μ).cons A).trans (List.Perm.swap C A (B :: μ))
theorem ST.head {A : As} (S : ST G0 H0 L π ρ (A :: μ) G σ H) : A.ok G H := S.ok A (List.mem_cons_self ..)
theorem ST.hfp {A : As} (S : ST G0 H0 L π ρ (A :: μ) G σ H) {b : Addr} (h : A.fp b) : G b = none ∧ H b ≠ none ∧ (L b ∨ H0 b = none) := S.fp A (List.mem_cons_self ..) b h
/-- a list is frozen -/
theorem ST.freeze {l : Addr} {ds : List PyData} (S : ST G0 H0 L π ρ (As.lst l ds :: μ) G σ H) (h0 : H0 l = none) : ∃ G', ST G0 H0 L π ρ μ G' σ H ∧ Da G' (.ref l) (.list ds) ∧ Same G G' := by
  obtain ⟨vs, e, ha⟩ := S.head
  obtain ⟨gl, _, _⟩ := S.hfp (b := l) rfl
  have sg : Same G (upd G l (.lst vs)) := fun b o q => by rw [upd_ne (ne_of_none q gl)]; exact q
  have dj := List.pairwise_cons.mp S.dj
  refine ⟨upd G l (.lst vs), ⟨⟨S.gx.g.trans sg, S.gx.h, fun b o q => ?_, fun b q n => ?_, S.gx.dom⟩, S.env.mono sg, fun p hp => p.mono sg (S.pin p hp), fun a ha' => ?_, fun a ha' b hb => ?_, dj.2⟩, .lst upd_same (ha.mono sg), sg⟩
  · by_cases hb : b = l
    · subst hb; rw [upd_same] at q; cases q; exact e
    · rw [upd_ne hb] at q; exact S.gx.s b o q
  · have hb : b ≠ l := fun z => q (by rw [z]; exact h0)
    rw [upd_ne hb]; exact S.gx.ap b q n
  · exact a.stays sg (fun _ _ _ q => q) (S.ok a (List.mem_cons_of_mem _ ha'))
  · obtain ⟨h1, h2, h3⟩ := S.fp a (List.mem_cons_of_mem _ ha') b hb
    have hb' : b ≠ l := fun z => dj.1 a ha' l rfl (by rw [← z]; exact hb)
    exact ⟨by rw [upd_ne hb']; exact h1, h2, h3⟩
end
end Hw

/-! Hw, part B: rules that serve several kinds of values, and steps over readings. -/
namespace Hw
open PySem L2

/-! ### operations for any kind of value -/
section
variable {X : Cx}
def rStrCat : R2 := fun x y H Q => ∃ i j, x = .str i ∧ y = .str j ∧ i.length + j.length ≤ sizeLine ∧ Q (.str (i ++ j)) H
def rPlus (K : PySem.W.Frag) : R2 := fun x y H Q => (rI0 (fun i j => .int (i + j)) x y H Q ∨ rStrCat x y H Q) ∨ (rCat x y H Q ∨ rCatA K x y H Q)
theorem op_plus : OpR X (binaryOp .Add) (rPlus X.K) := (op_add.or op_add_str).or (op_cat.or op_catA)
def rTimes : R2 := fun x y H Q => rI CMul (fun i j => .int (i * j)) x y H Q ∨ rRep x y H Q
theorem op_times : OpR X (binaryOp .Mult) rTimes := op_mul.or op_rep
theorem u65 {k : Nat} {A : Around} (r : Room k A) : A.units + 65 < cLine := by have := r.un; omega
def rAmong (K : PySem.W.Frag) : R2 := fun x y H Q => rIn K false x y H Q ∨ rInD K x y H Q
theorem op_among (hu : X.A.units + 65 < cLine) : OpR X (compareOp .In) (rAmong X.K) := op_in_seq.or (op_inD hu)
def rNotAmong (K : PySem.W.Frag) : R2 := fun x y H Q => rIn K true x y H Q ∨ rNotInD K x y H Q
theorem op_notAmong (hu : X.A.units + 65 < cLine) : OpR X (compareOp .NotIn) (rNotAmong X.K) := op_notIn_seq.or (op_notInD hu)
/-- xs[i], read in xs[i] += e -/
def rGetL (K : PySem.W.Frag) : V → V → Hp → VK → Prop := fun x y H Q => ∃ p xs i w, x = .ref p ∧ y = .int i ∧ SqL K H p xs ∧ 0 ≤ i ∧ i < 2 ^ 63 ∧ xs[i.toNat]? = some w ∧ Q w H
theorem get_list : PGet X (rGetL X.K) := by
  intro pins s σ H x y v u Q I rx ry h
  obtain ⟨p, xs, i, w, rfl, rfl, hq, h0, h1, hw, q⟩ := h
  cases rx
  obtain ⟨t, rfl⟩ := ry
  obtain ⟨its, r, pl, hz⟩ := I.list hq
  obtain ⟨z, ez, rz⟩ := r.get hw
  exact wpAny_getItem_list pl.isList h0 h1 (x := z) (by simpa using ez) ⟨w, H, I, rz, q⟩
def rMinus : R2 := rI0 fun i j => .int (i - j)
theorem op_minus : OpR X (binaryOp .Sub) rMinus := op_sub
def rDiv : R2 := rI CDivW fun i j => .int (i / j)
theorem op_div : OpR X (binaryOp .FloorDiv) rDiv := op_fdivW
def rMod : R2 := rI (fun _ j => 0 < j) fun i j => .int (i % j)
theorem op_rem : OpR X (binaryOp .Mod) rMod := op_mod
def rPow : R2 := rI CPow fun i j => .int (i ^ j.toNat)
theorem op_power : OpR X (binaryOp .Pow) rPow := op_pow
def rSame (K : PySem.W.Frag) : R2 := fun x y H Q => rEq x y H Q ∨ rEqD K x y H Q
def rDiff (K : PySem.W.Frag) : R2 := fun x y H Q => rNe x y H Q ∨ rNeD K x y H Q
theorem op_same (hu : X.A.units + 64 < cLine) : OpR X (compareOp .Eq) (rSame X.K) := op_eq.or (op_eqD hu)
theorem op_diff (hu : X.A.units + 64 < cLine) : OpR X (compareOp .NotEq) (rDiff X.K) := op_ne.or (op_neD hu)
def rLess (K : PySem.W.Frag) : R2 := fun x y H Q => rI0 (fun i j => .bl (decide (i < j))) x y H Q ∨ rLtT K x y H Q
theorem op_less (hu : X.A.units < cLine) : OpR X (compareOp .Lt) (rLess X.K) := op_lt.or (op_ltT hu)
def rLe : R2 := rI0 fun i j => .bl (decide (i ≤ j))
theorem op_leI : OpR X (compareOp .LtE) rLe := op_le
def rGt : R2 := rI0 fun i j => .bl (decide (j < i))
theorem op_gtI : OpR X (compareOp .Gt) rGt := op_gt
def rGe : R2 := rI0 fun i j => .bl (decide (j ≤ i))
theorem op_geI : OpR X (compareOp .GtE) rGe := op_ge
def rIsNone : R2 := fun x y H Q => y = .non ∧ Q (.bl (decide (x = .non))) H
theorem op_isNone : OpR X (compareOp .Is) rIsNone := op_isN
def rNotNone : R2 := fun x y H Q => y = .non ∧ Q (.bl (!decide (x = .non))) H
theorem op_notNone : OpR X (compareOp .IsNot) rNotNone := op_notN
def rInsert : V → List V → Hp → VK → Prop := fun x vs H Q => ∃ (l : Addr) (xs : List V) (i : Int) (y : V), x = .ref l ∧ vs = [.int i, y] ∧ H l = some (.lst xs) ∧ xs.length < sizeLine ∧ 0 ≤ i ∧ i < 2 ^ 63 ∧
    Q .non (upd H l (.lst (xs.take i.toNat ++ [y] ++ xs.drop i.toNat)))
theorem mt_ins : MtR X "list.insert" rInsert := mt_insert
/-- built-in calls -/
def rLen (K : PySem.W.Frag) : List V → Hp → VK → Prop := fun xs H Q => ∃ x n, xs = [x] ∧ LenV K x H n ∧ Q (.int n) H
theorem cl_len : CallR X (.builtin "len") (rLen X.K) := call_len
def rInt : List V → Hp → VK → Prop := fun xs H Q => (∃ i, xs = [.int i] ∧ Q (.int i) H) ∨ ∃ k, xs = [.bl k] ∧ Q (.int (if k then 1 else 0)) H
theorem cl_int : CallR X (.type "int") rInt := call_int1
def rMin2 : List V → Hp → VK → Prop := fun xs H Q => ∃ i j, xs = [.int i, .int j] ∧ Q (.int (if j < i then j else i)) H
theorem cl_min2 (hc : X.calm = true) : CallR X (.builtin "min") rMin2 := call_min2 hc
def rMax2 : List V → Hp → VK → Prop := fun xs H Q => ∃ i j, xs = [.int i, .int j] ∧ Q (.int (if j > i then j else i)) H
theorem cl_max2 (hc : X.calm = true) : CallR X (.builtin "max") rMax2 := call_max2 hc
def rList (K : PySem.W.Frag) : List V → Hp → VK → Prop := fun xs H Q => ∃ p ys, xs = [.ref p] ∧ (SqL K H p ys ∨ SqT K H p ys) ∧ ∀ l, H l = none → Q (.ref l) (upd H l (.lst ys))
theorem cl_list : CallR X (.type "list") (rList X.K) := call_list_of
def rTuple (K : PySem.W.Frag) : List V → Hp → VK → Prop := fun xs H Q => ∃ p ys, xs = [.ref p] ∧ ((SqL K H p ys ∧ ∀ l, H l = none → Q (.ref l) (upd H l (.tup ys))) ∨ (SqT K H p ys ∧ Q (.ref p) H))
theorem cl_tuple : CallR X (.type "tuple") (rTuple X.K) := call_tuple_of
def rIsi (K : PySem.W.Frag) : List V → Hp → VK → Prop := fun xs H Q => L2.rIsi K xs H Q ∨ L2.rIsiT K xs H Q
theorem cl_isi : CallR X (.builtin "isinstance") (rIsi X.K) := by
  intro pins s σ H xs us Q I r h
  rcases h with h | h
  · exact call_isi pins s σ H xs us Q I r h
  · exact call_isiT pins s σ H xs us Q I r h
/-- a slice of a list, a text, a tuple -/
def rSlice (K : PySem.W.Frag) : V → Option Int → Option Int → Hp → VK → Prop := fun x lo hi H Q => rSlL K x lo hi H Q ∨ rSlS x lo hi H Q ∨ rSlA K x lo hi H Q
theorem sl_any : SlR X (rSlice X.K) := by
  exact sl_list.or (sl_str.or sl_tupA)
end

section
variable {K : PySem.W.Frag} {G0 H0 : Hp} {L : Addr → Prop} {π : List Pin} {ρ : List Sl} {μ : List As} {G H : Hp} {σ : St}

/-! ### steps: structure -/
variable {Q : VK} {D : Ends} {t u : TS} {te ta tb tc : TE} {tt tw : TT} {x y v w : V}
theorem c_seq (h : t { D with nx := u D } σ H) : tSeq t u D σ H := h
/-- a statement whose ways meet behind it: Φ is what is known there -/
theorem c_seqJ (Φ : St → Hp → Prop) (rest : ∀ σ' H', Φ σ' H' → u D σ' H') (first : ∀ J : St → Hp → Prop, (∀ σ' H', Φ σ' H' → J σ' H') → t { D with nx := J } σ H) : tSeq t u D σ H := first (u D) rest
theorem c_asg {g : TG} (h : te σ H fun x H1 => g x σ H1 D.nx) : tAsg te g D σ H := h
theorem c_drop (h : te σ H fun _ H1 => D.nx σ H1) : tDrop te D σ H := h
theorem c_ret (h : te σ H D.rt) : tRet te D σ H := h
theorem c_if {c : TT} (h : c σ H fun b H1 => if b = true then t D σ H1 else u D σ H1) : tIfS c t u D σ H := h
theorem c_next (h : D.nx σ H) : tNext D σ H := h
def isB (Q : Bool → Hp → Prop) (x : V) (H : Hp) : Prop := ∃ k, x = .bl k ∧ Q k H
def isI (Q : Option Int → Hp → Prop) (x : V) (H : Hp) : Prop := ∃ i, x = .int i ∧ Q (some i) H
theorem c_test {Q : Bool → Hp → Prop} (h : te σ H (isB Q)) : tTest te σ H Q := h
theorem c_B {Q : Bool → Hp → Prop} (h : te σ H (isB Q)) : tB te σ H Q := h
theorem c_isB {b : Bool} {Q : Bool → Hp → Prop} (h : Q b H) : isB Q (.bl b) H := ⟨b, rfl, h⟩
theorem c_not {Q : Bool → Hp → Prop} (h : tt σ H fun c H1 => Q (!c) H1) : tNot tt σ H Q := h
theorem c_and {Q : Bool → Hp → Prop} (h : tt σ H fun c H1 => if c = true then tw σ H1 Q else Q false H1) : tAnd tt tw σ H Q := h
theorem c_or {Q : Bool → Hp → Prop} (h : tt σ H fun c H1 => if c = true then Q true H1 else tw σ H1 Q) : tOr tt tw σ H Q := h
theorem c_andV (h : ta σ H (isB fun c H1 => if c = true then tb σ H1 Q else Q (.bl false) H1)) : tAndV ta tb σ H Q := h
theorem c_orV (h : ta σ H (isB fun c H1 => if c = true then Q (.bl true) H1 else tb σ H1 Q)) : tOrV ta tb σ H Q := h
theorem c_notV (h : ta σ H (isB fun c H1 => Q (.bl (!c)) H1)) : tNotV ta σ H Q := h
theorem c_ifE (h : tt σ H fun c H1 => if c = true then ta σ H1 Q else tb σ H1 Q) : tIf tt ta tb σ H Q := h
theorem c_cons {r : TA} {Q : List V → Hp → Prop} (h : te σ H fun x H1 => r σ H1 fun xs H2 => Q (x :: xs) H2) : tCons te r σ H Q := h
theorem c_nil {Q : List V → Hp → Prop} (h : Q [] H) : tNil σ H Q := h
theorem c_op {r : R2} (h : ta σ H fun x H1 => tb σ H1 fun y H2 => r x y H2 Q) : tOp r ta tb σ H Q := h
theorem c_un {r : V → Hp → VK → Prop} (h : ta σ H fun x H1 => r x H1 Q) : tUn r ta σ H Q := h
theorem c_cb {r : List V → Hp → VK → Prop} {a : TA} (h : a σ H fun vs H1 => r vs H1 Q) : tCB r a σ H Q := h
theorem c_call {sp : Sp} {E : XK} {a : TA} (h : a σ H fun vs H1 => sp vs H1 Q E) : tCall sp [] E a σ H Q := by
  show a σ H fun vs H1 => sp (vs ++ []) H1 Q E
  have e : (fun (vs : List V) (H1 : Hp) => sp (vs ++ []) H1 Q E) = fun vs H1 => sp vs H1 Q E := by
    funext vs H1
    rw [List.append_nil]
  rw [e]
  exact h
theorem c_C (h : Q v H) : tC v σ H Q := h
theorem c_sl {r : V → Option Int → Option Int → Hp → VK → Prop} {tl th : TO} (h : te σ H fun x H1 => tl σ H1 fun l H2 => th σ H2 fun u H3 => r x l u H3 Q) : tSl r te tl th σ H Q := h
theorem c_noPart {Q : Option Int → Hp → Prop} (h : Q none H) : tNoPart σ H Q := h
theorem c_part {Q : Option Int → Hp → Prop} (h : te σ H (isI Q)) : tPart te σ H Q := h
theorem c_isI {i : Int} {Q : Option Int → Hp → Prop} (h : Q (some i) H) : isI Q (.int i) H := ⟨i, rfl, h⟩
/-- a new tuple, a new list is made of xs -/
def mkTup (Q : VK) (xs : List V) (H : Hp) : Prop := xs.length ≤ sizeLine ∧ ∀ p, H p = none → Q (.ref p) (upd H p (.tup xs))
def mkLst (Q : VK) (xs : List V) (H : Hp) : Prop := xs.length ≤ sizeLine ∧ ∀ p, H p = none → Q (.ref p) (upd H p (.lst xs))
theorem c_tup {a : TA} (h : a σ H (mkTup Q)) : tTup a σ H Q := h
theorem c_lst {a : TA} (h : a σ H (mkLst Q)) : tLst a σ H Q := h
theorem c_bm {T : String} {r : V → List V → Hp → VK → Prop} {a : TA} (h : te σ H fun x H1 => tyV K T x H1 ∧ a σ H1 fun xs H2 => r x xs H2 Q) : tBM K T r te a σ H Q := h
theorem c_bm0 {T : String} {r : V → List V → Hp → VK → Prop} (h : te σ H fun x H1 => tyV K T x H1 ∧ r x [] H1 Q) : tBM0 K T r te σ H Q := h
theorem c_gtup {n : Nat} {gs : TGs} {Q : St → Hp → Prop} (h : ∃ a xs, v = .ref a ∧ SqT K H a xs ∧ xs.length = n ∧ gs xs σ H Q) : gTup K n gs v σ H Q := h
theorem c_gcons {g : TG} {gs : TGs} {vs : List V} {Q : St → Hp → Prop} (h : g v σ H fun σ' H' => gs vs σ' H' Q) : gCons g gs (v :: vs) σ H Q := ⟨v, vs, rfl, h⟩
theorem c_gnil {Q : St → Hp → Prop} (h : Q σ H) : gNil [] σ H Q := ⟨rfl, h⟩
theorem c_ite {P A B : Prop} {inst : Decidable P} (h1 : P → A) (h2 : ¬ P → B) : if decide P = true then A else B := by
  by_cases h : P
  · rw [decide_eq_true h]; exact h1 h
  · rw [decide_eq_false h]; exact h2 h
theorem c_iteN {P A B : Prop} {inst : Decidable P} (h1 : ¬ P → A) (h2 : P → B) : if (!decide P) = true then A else B := by
  by_cases h : P
  · rw [decide_eq_true h]; exact h2 h
  · rw [decide_eq_false h]; exact h1 h
theorem c_iteB {b : Bool} {A B : Prop} (h1 : b = true → A) (h2 : b = false → B) : if b = true then A else B := by
  cases b
  · exact h2 rfl
  · exact h1 rfl

/-! ### steps: names -/
theorem c_var {i : Nat} (S : ST G0 H0 L π ρ μ G σ H) (hi : ρ[i]? = some (.val v)) (h : Q v H) : tVar i σ H Q := by
  obtain ⟨o, e, k⟩ := S.env.getS hi
  exact ⟨v, by rw [e]; exact congrArg some k, h⟩
theorem c_varD {i : Nat} {d : PyData} (S : ST G0 H0 L π ρ μ G σ H) (hi : ρ[i]? = some (.dat d)) (h : ∀ v, Da G v d → Q v H) : tVar i σ H Q := by
  obtain ⟨o, e, w, k, hw⟩ := S.env.getS hi
  exact ⟨w, by rw [e, k], h w hw⟩
theorem c_set {i : Nat} {Q : St → Hp → Prop} (S : ST G0 H0 L π ρ μ G σ H) (h : ∀ σ', ST G0 H0 L π (ρ.set i (.val v)) μ G σ' H → Q σ' H) : gName i v σ H Q := h _ (S.set i)
theorem c_setI {i : Nat} {n : Int} {Q : St → Hp → Prop} (S : ST G0 H0 L π ρ μ G σ H) (h : ∀ σ', ST G0 H0 L π (ρ.set i (.val (.int n))) μ G σ' H → Q σ' H) : gName i (.int n) σ H Q := h _ (S.set i)
theorem c_setS {i : Nat} {z : Str} {Q : St → Hp → Prop} (S : ST G0 H0 L π ρ μ G σ H) (h : ∀ σ', ST G0 H0 L π (ρ.set i (.val (.str z))) μ G σ' H → Q σ' H) : gName i (.str z) σ H Q := h _ (S.set i)
theorem c_setB {i : Nat} {b : Bool} {Q : St → Hp → Prop} (S : ST G0 H0 L π ρ μ G σ H) (h : ∀ σ', ST G0 H0 L π (ρ.set i (.val (.bl b))) μ G σ' H → Q σ' H) : gName i (.bl b) σ H Q := h _ (S.set i)
theorem c_setN {i : Nat} {Q : St → Hp → Prop} (S : ST G0 H0 L π ρ μ G σ H) (h : ∀ σ', ST G0 H0 L π (ρ.set i (.val .non)) μ G σ' H → Q σ' H) : gName i .non σ H Q := h _ (S.set i)
theorem c_setD {i : Nat} {d : PyData} {Q : St → Hp → Prop} (S : ST G0 H0 L π ρ μ G σ H) (hv : Da G v d) (h : ∀ σ', ST G0 H0 L π (ρ.set i (.dat d)) μ G σ' H → Q σ' H) : gName i v σ H Q := h _ (S.setD i hv)
theorem c_aug {i : Nat} {ti : TIp} (S : ST G0 H0 L π ρ μ G σ H) (hi : ρ[i]? = some (.val v)) (h : te σ H fun y H1 => ti v y H1 fun z H2 => gName i z σ H2 D.nx) : tAug i te ti D σ H := by
  obtain ⟨o, e, k⟩ := S.env.getS hi
  exact ⟨v, by rw [e]; exact congrArg some k, h⟩
theorem c_ip {f : Int → Int → Int} {a b : Int} (h : Q (.int (f a b)) H) : ipI f (.int a) (.int b) H Q := ⟨a, b, rfl, rfl, h⟩

/-! ### steps: ints, texts, bools -/
theorem c_I0 {g : Int → Int → V} {i j : Int} (h : Q (g i j) H) : rI0 g (.int i) (.int j) H Q := ⟨i, j, rfl, rfl, h⟩
theorem c_I {C : Int → Int → Prop} {g : Int → Int → V} {i j : Int} (hc : C i j) (h : Q (g i j) H) : rI C g (.int i) (.int j) H Q := ⟨i, j, rfl, rfl, hc, h⟩
theorem c_plusI {i j : Int} (h : Q (.int (i + j)) H) : rPlus K (.int i) (.int j) H Q := .inl (.inl (c_I0 h))
theorem c_plusS {i j : Str} (hl : i.length + j.length ≤ sizeLine) (h : Q (.str (i ++ j)) H) : rPlus K (.str i) (.str j) H Q := .inl (.inr ⟨i, j, rfl, rfl, hl, h⟩)
theorem c_minus {i j : Int} (h : Q (.int (i - j)) H) : rMinus (.int i) (.int j) H Q := c_I0 h
theorem c_times {i j : Int} (hc : CMul i j) (h : Q (.int (i * j)) H) : rTimes (.int i) (.int j) H Q := .inl (c_I hc h)
theorem c_div {i j : Int} (hc : CDivW i j) (h : Q (.int (i / j)) H) : rDiv (.int i) (.int j) H Q := c_I hc h
theorem c_rem {i j : Int} (hc : 0 < j) (h : Q (.int (i % j)) H) : rMod (.int i) (.int j) H Q := c_I hc h
theorem c_pow {i j : Int} (hc : CPow i j) (h : Q (.int (i ^ j.toNat)) H) : rPow (.int i) (.int j) H Q := c_I hc h
theorem c_less {i j : Int} (h : Q (.bl (decide (i < j))) H) : rLess K (.int i) (.int j) H Q := .inl (c_I0 h)
theorem c_le {i j : Int} (h : Q (.bl (decide (i ≤ j))) H) : rLe (.int i) (.int j) H Q := c_I0 h
theorem c_gt {i j : Int} (h : Q (.bl (decide (j < i))) H) : rGt (.int i) (.int j) H Q := c_I0 h
theorem c_ge {i j : Int} (h : Q (.bl (decide (j ≤ i))) H) : rGe (.int i) (.int j) H Q := c_I0 h
theorem dec_i {i j : Int} : decide (V.int i = V.int j) = decide (i = j) := by simp
theorem dec_s {i j : Str} : decide (V.str i = V.str j) = decide (i = j) := by simp
theorem dec_b {i j : Bool} : decide (V.bl i = V.bl j) = decide (i = j) := by simp
theorem c_sameI {i j : Int} (h : Q (.bl (decide (i = j))) H) : rSame K (.int i) (.int j) H Q := .inl ⟨rfl, by rw [dec_i]; exact h⟩
theorem c_sameS {i j : Str} (h : Q (.bl (decide (i = j))) H) : rSame K (.str i) (.str j) H Q := .inl ⟨rfl, by rw [dec_s]; exact h⟩
theorem c_sameB {i j : Bool} (h : Q (.bl (decide (i = j))) H) : rSame K (.bl i) (.bl j) H Q := .inl ⟨rfl, by rw [dec_b]; exact h⟩
theorem c_sameNI {j : Int} (h : Q (.bl false) H) : rSame K .non (.int j) H Q := .inl ⟨rfl, h⟩
theorem c_diffI {i j : Int} (h : Q (.bl (!decide (i = j))) H) : rDiff K (.int i) (.int j) H Q := .inl ⟨rfl, by rw [dec_i]; exact h⟩
theorem c_diffS {i j : Str} (h : Q (.bl (!decide (i = j))) H) : rDiff K (.str i) (.str j) H Q := .inl ⟨rfl, by rw [dec_s]; exact h⟩
theorem c_diffB {i j : Bool} (h : Q (.bl (!decide (i = j))) H) : rDiff K (.bl i) (.bl j) H Q := .inl ⟨rfl, by rw [dec_b]; exact h⟩
theorem c_sameD {d e : PyData} (hx : Da G x d) (hy : Da G y e) (s : Same G H) (sd : SeqAt.shaped d = true) (se : SeqAt.shaped e = true) (h : Q (.bl (PyData.eqv d e)) H) : rSame K x y H Q := .inr ⟨d, e, hx.dp s, hy.dp s, sd, se, h⟩
theorem c_diffD {d e : PyData} (hx : Da G x d) (hy : Da G y e) (s : Same G H) (sd : SeqAt.shaped d = true) (se : SeqAt.shaped e = true) (h : Q (.bl (!PyData.eqv d e)) H) : rDiff K x y H Q := .inr ⟨d, e, hx.dp s, hy.dp s, sd, se, h⟩
theorem c_sameEq {G1 : Hp} {d : PyData} (hx : Da G1 x d) (hy : Da G1 y d) (s : Same G1 H) (sd : SeqAt.shaped d = true) (h : Q (.bl true) H) : rSame K x y H Q := .inr ⟨d, d, hx.dp s, hy.dp s, sd, sd, by rw [SeqAt.eqv_refl]; (exact h); (exact SeqAt.canLay_of_shaped sd)⟩
theorem c_diffEq {G1 : Hp} {d : PyData} (hx : Da G1 x d) (hy : Da G1 y d) (s : Same G1 H) (sd : SeqAt.shaped d = true) (h : Q (.bl false) H) : rDiff K x y H Q := .inr ⟨d, d, hx.dp s, hy.dp s, sd, sd, by rw [SeqAt.eqv_refl]; (exact h); (exact SeqAt.canLay_of_shaped sd)⟩
theorem c_isNone (h : Q (.bl (decide (x = .non))) H) : rIsNone x .non H Q := ⟨rfl, h⟩
theorem c_notNone (h : Q (.bl (!decide (x = .non))) H) : rNotNone x .non H Q := ⟨rfl, h⟩
theorem c_int {i : Int} (h : Q (.int i) H) : rInt [.int i] H Q := .inl ⟨i, rfl, h⟩
theorem c_intB {b : Bool} (h : Q (.int (if b then 1 else 0)) H) : rInt [.bl b] H Q := .inr ⟨b, rfl, h⟩
theorem c_min2 {i j : Int} (h : Q (.int (if j < i then j else i)) H) : rMin2 [.int i, .int j] H Q := ⟨i, j, rfl, h⟩
theorem c_max2 {i j : Int} (h : Q (.int (if j > i then j else i)) H) : rMax2 [.int i, .int j] H Q := ⟨i, j, rfl, h⟩
theorem c_lenS {z : Str} (hl : z.length ≤ sizeLine) (h : Q (.int z.length) H) : rLen K [.str z] H Q := ⟨_, _, rfl, ⟨hl, rfl⟩, h⟩

/-! ### steps: lists and tuples that are frozen -/
theorem c_lenL {ds : List PyData} (hv : Da G v (.list ds)) (s : Same G H) (h : Q (.int ds.length) H) : rLen K [v] H Q := by
  obtain ⟨a, xs, rfl, e, ha⟩ := da_lst hv
  exact ⟨_, _, rfl, .inl ⟨xs, SqL.of (s _ _ e), rfl⟩, by rw [da_len ha]; exact h⟩
theorem c_lenT {ds : List PyData} (hv : Da G v (.tuple ds)) (s : Same G H) (h : Q (.int ds.length) H) : rLen K [v] H Q := by
  obtain ⟨a, xs, rfl, e, ha⟩ := da_tup hv
  exact ⟨_, _, rfl, .inr ⟨xs, SqT.of (s _ _ e), rfl⟩, by rw [da_len ha]; exact h⟩
theorem c_lenM {a : Addr} {xs : List V} (e : H a = some (.lst xs)) (h : Q (.int xs.length) H) : rLen K [.ref a] H Q := ⟨_, _, rfl, .inl ⟨xs, SqL.of e, rfl⟩, h⟩
/-- of a list that is told by SqL (the script) -/
theorem c_lenQ {a : Addr} {xs : List V} (e : SqL K H a xs) (h : Q (.int xs.length) H) : rLen K [.ref a] H Q := ⟨_, _, rfl, .inl ⟨xs, e, rfl⟩, h⟩
/-- an item -/
theorem at_i {α : Type} {xs : List α} {i : Int} {k : Nat} {v : α} (hk : xs[k]? = some v) (h : (0 ≤ i ∧ i.toNat = k) ∨ (i < 0 ∧ (i + xs.length).toNat = k ∧ 0 ≤ i + xs.length)) : atI xs i = some v := by
  have hl : k < xs.length := (List.getElem?_eq_some_iff.mp hk).1
  unfold atI ixN
  rcases h with ⟨h1, h2⟩ | ⟨h1, h2, h3⟩
  · rw [if_pos h1, if_pos (by omega)]
    show xs[i.toNat]? = some v
    rw [h2]; exact hk
  · rw [if_neg (by omega), if_pos (by omega)]
    show xs[(i + xs.length).toNat]? = some v
    rw [h2]; exact hk
theorem c_ixL {ds : List PyData} {i : Int} {k : Nat} {d : PyData} (hv : Da G v (.list ds)) (s : Same G H) (hk : ds[k]? = some d) (hi : (0 ≤ i ∧ i.toNat = k) ∨ (i < 0 ∧ (i + ds.length).toNat = k ∧ 0 ≤ i + ds.length)) (h : ∀ w, Da G w d → Q w H) : rIx K v (.int i) H Q := by
  obtain ⟨a, xs, rfl, e, ha⟩ := da_lst hv
  obtain ⟨w, hw, hd⟩ := da_get ha hk
  exact .inl ⟨a, xs, i, w, rfl, rfl, SqL.of (s _ _ e), at_i hw (by rw [da_len ha]; exact hi), h w hd⟩
theorem c_ixT {ds : List PyData} {i : Int} {k : Nat} {d : PyData} (hv : Da G v (.tuple ds)) (s : Same G H) (hk : ds[k]? = some d) (hi : (0 ≤ i ∧ i.toNat = k) ∨ (i < 0 ∧ (i + ds.length).toNat = k ∧ 0 ≤ i + ds.length)) (h : ∀ w, Da G w d → Q w H) : rIx K v (.int i) H Q := by
  obtain ⟨a, xs, rfl, e, ha⟩ := da_tup hv
  obtain ⟨w, hw, hd⟩ := da_get ha hk
  exact .inr (.inl ⟨a, xs, i, w, rfl, rfl, SqT.of (s _ _ e), at_i hw (by rw [da_len ha]; exact hi), h w hd⟩)
theorem c_ixQ {a : Addr} {xs : List V} {i : Int} {k : Nat} (e : SqL K H a xs) (hk : xs[k]? = some w) (hi : (0 ≤ i ∧ i.toNat = k) ∨ (i < 0 ∧ (i + xs.length).toNat = k ∧ 0 ≤ i + xs.length)) (h : Q w H) : rIx K (.ref a) (.int i) H Q :=
  .inl ⟨a, xs, i, w, rfl, rfl, e, at_i hk hi, h⟩
/-- an item of a list that may change -/
theorem c_ixM {a : Addr} {xs : List V} {i : Int} {k : Nat} (e : H a = some (.lst xs)) (hk : xs[k]? = some w) (hi : (0 ≤ i ∧ i.toNat = k) ∨ (i < 0 ∧ (i + xs.length).toNat = k ∧ 0 ≤ i + xs.length)) (h : Q w H) : rIx K (.ref a) (.int i) H Q :=
  .inl ⟨a, xs, i, w, rfl, rfl, SqL.of e, at_i hk hi, h⟩
theorem c_ixS {z : Str} {i : Int} {k c : Nat} (hl : z.length ≤ sizeLine) (hk : z.cps.toList[k]? = some c) (hi : (0 ≤ i ∧ i.toNat = k) ∨ (i < 0 ∧ (i + z.cps.toList.length).toNat = k ∧ 0 ≤ i + z.cps.toList.length)) (h : Q (.str ⟨#[c]⟩) H) : rIx K (.str z) (.int i) H Q :=
  .inr (.inr ⟨z, i, c, rfl, rfl, hl, at_i hk hi, h⟩)
/-- a, b, .. = a tuple -/
theorem c_gtupD {ds : List PyData} {n : Nat} {gs : TGs} {Q : St → Hp → Prop} (hv : Da G v (.tuple ds)) (s : Same G H) (hn : ds.length = n) (h : ∀ xs, DaAll G xs ds → gs xs σ H Q) : gTup K n gs v σ H Q := by
  obtain ⟨a, xs, rfl, e, ha⟩ := da_tup hv
  exact ⟨a, xs, rfl, SqT.of (s _ _ e), by rw [da_len ha]; exact hn, h xs ha⟩

/-! ### steps: new objects -/
theorem c_mkT {xs : List V} {ds : List PyData} (S : ST G0 H0 L π ρ μ G σ H) (hd : DaAll G xs ds) (hl : xs.length ≤ sizeLine) (k : ∀ v G' H', ST G0 H0 L π ρ μ G' σ H' → Gr G H G' H' → Da G' v (.tuple ds) → Q v H') : mkTup Q xs H := by
  refine ⟨hl, fun p hp => ?_⟩
  have g : Gr G H (upd G p (.tup xs)) (upd H p (.tup xs)) := Gx.frz S.same hp
  exact k _ _ _ (S.grow g) g (.tup upd_same (hd.mono g.g))
theorem c_mkL {xs : List V} {ds : List PyData} (S : ST G0 H0 L π ρ μ G σ H) (hd : DaAll G xs ds) (hl : xs.length ≤ sizeLine) (k : ∀ v G' H', ST G0 H0 L π ρ μ G' σ H' → Gr G H G' H' → Da G' v (.list ds) → Q v H') : mkLst Q xs H := by
  refine ⟨hl, fun p hp => ?_⟩
  have g : Gr G H (upd G p (.lst xs)) (upd H p (.lst xs)) := Gx.frz S.same hp
  exact k _ _ _ (S.grow g) g (.lst upd_same (hd.mono g.g))
/-- a new list that will change -/
theorem c_newL {xs : List V} {ds : List PyData} (S : ST G0 H0 L π ρ μ G σ H) (hd : DaAll G xs ds) (hl : xs.length ≤ sizeLine) (k : ∀ p H', ST G0 H0 L π ρ (As.lst p ds :: μ) G σ H' → H0 p = none → Gr G H G H' → Q (.ref p) H') : mkLst Q xs H := by
  refine ⟨hl, fun p hp => ?_⟩
  have g : Gr G H G (upd H p (.lst xs)) := Gx.new S.same hp
  exact k p _ (S.add g ⟨xs, upd_same, hd⟩ fun b e => by cases e; exact ⟨hp, none_of_same S.same hp, by rw [upd_same]; exact fun z => by cases z⟩) (S.new0 hp) g
/-- the same in the place of a rule's last wish -/
theorem c_newL' {xs : List V} {ds : List PyData} (S : ST G0 H0 L π ρ μ G σ H) (hd : DaAll G xs ds) (k : ∀ p H', ST G0 H0 L π ρ (As.lst p ds :: μ) G σ H' → H0 p = none → Gr G H G H' → Q (.ref p) H') :
    ∀ p, H p = none → Q (.ref p) (upd H p (.lst xs)) := by
  intro p hp
  have g : Gr G H G (upd H p (.lst xs)) := Gx.new S.same hp
  exact k p _ (S.add g ⟨xs, upd_same, hd⟩ fun b e => by cases e; exact ⟨hp, none_of_same S.same hp, by rw [upd_same]; exact fun z => by cases z⟩) (S.new0 hp) g
theorem c_mkL' {xs : List V} {ds : List PyData} (S : ST G0 H0 L π ρ μ G σ H) (hd : DaAll G xs ds) (k : ∀ v G' H', ST G0 H0 L π ρ μ G' σ H' → Gr G H G' H' → Da G' v (.list ds) → Q v H') :
    ∀ p, H p = none → Q (.ref p) (upd H p (.lst xs)) := by
  intro p hp
  have g : Gr G H (upd G p (.lst xs)) (upd H p (.lst xs)) := Gx.frz S.same hp
  exact k _ _ _ (S.grow g) g (.lst upd_same (hd.mono g.g))

/-! ### steps: a list that changes -/
theorem c_tyL {a : Addr} {xs : List V} (e : H a = some (.lst xs)) : tyV K "list" (.ref a) H := Or.inl ⟨rfl, xs, SqL.of e⟩
theorem c_tyM {l : Addr} {ds : List PyData} (S : ST G0 H0 L π ρ (As.lst l ds :: μ) G σ H) : tyV K "list" (.ref l) H := by
  obtain ⟨vs, e, _⟩ := S.head
  exact c_tyL e
theorem ST.put {l : Addr} {ds es : List PyData} {vs : List V} (S : ST G0 H0 L π ρ (As.lst l ds :: μ) G σ H) (h : DaAll G vs es) : ST G0 H0 L π ρ (As.lst l es :: μ) G σ (upd H l (.lst vs)) := by
  obtain ⟨gl, _, _⟩ := S.hfp (b := l) rfl
  have g := Gx.put (o := .lst vs) S.same gl
  exact S.step g ⟨vs, upd_same, h⟩ fun b e => by cases e; exact ⟨.inl rfl, gl, by rw [upd_same]; exact fun z => by cases z⟩
theorem c_append {l : Addr} {ds : List PyData} {d : PyData} (S : ST G0 H0 L π ρ (As.lst l ds :: μ) G σ H) (hv : Da G v d) (hl : ds.length < sizeLine) (k : ∀ H', ST G0 H0 L π ρ (As.lst l (ds ++ [d]) :: μ) G σ H' → Q .non H') : rAppend (.ref l) [v] H Q := by
  obtain ⟨vs, e, ha⟩ := S.head
  exact ⟨l, vs, v, rfl, rfl, e, by rw [da_len ha]; exact hl, k _ (S.put (da_snoc ha hv))⟩
theorem c_insert {l : Addr} {ds : List PyData} {d : PyData} {i : Int} (S : ST G0 H0 L π ρ (As.lst l ds :: μ) G σ H) (hv : Da G v d) (hl : ds.length < sizeLine) (h0 : 0 ≤ i) (h1 : i < 2 ^ 63) (k : ∀ H', ST G0 H0 L π ρ (As.lst l (ds.take i.toNat ++ [d] ++ ds.drop i.toNat) :: μ) G σ H' → Q .non H') : rInsert (.ref l) [.int i, v] H Q := by
  obtain ⟨vs, e, ha⟩ := S.head
  exact ⟨l, vs, i, v, rfl, rfl, e, by rw [da_len ha]; exact hl, h0, h1, k _ (S.put (da_app (da_app (da_take _ ha) (.cons hv .nil)) (da_drop _ ha)))⟩
theorem c_extend {l : Addr} {ds es : List PyData} (S : ST G0 H0 L π ρ (As.lst l ds :: μ) G σ H) (hv : Da G v (.list es)) (hl : ds.length + es.length ≤ sizeLine) (k : ∀ H', ST G0 H0 L π ρ (As.lst l (ds ++ es) :: μ) G σ H' → Q .non H') : rExtend (.ref l) [v] H Q := by
  obtain ⟨vs, e, ha⟩ := S.head
  obtain ⟨b, xs, rfl, eb, hb⟩ := da_lst hv
  exact ⟨l, b, vs, xs, rfl, rfl, e, S.same _ _ eb, by rw [da_len ha, da_len hb]; exact hl, k _ (S.put (da_app ha hb))⟩

/-! ### steps: sums and slices of lists and tuples -/
theorem c_plusL {ds es : List PyData} (hv : Da G v (.list ds)) (hw : Da G w (.list es)) (S : ST G0 H0 L π ρ μ G σ H) (hl : ds.length + es.length ≤ sizeLine) (k : ∀ v G' H', ST G0 H0 L π ρ μ G' σ H' → Gr G H G' H' → Da G' v (.list (ds ++ es)) → Q v H') : rPlus K v w H Q := by
  obtain ⟨a, xs, rfl, ea, ha⟩ := da_lst hv
  obtain ⟨b, ys, rfl, eb, hb⟩ := da_lst hw
  exact .inr (.inl ⟨a, b, xs, ys, rfl, rfl, S.same _ _ ea, S.same _ _ eb, by rw [da_len ha, da_len hb]; exact hl, c_mkL' S (da_app ha hb) k⟩)
theorem c_plusLm {ds es : List PyData} (hv : Da G v (.list ds)) (hw : Da G w (.list es)) (S : ST G0 H0 L π ρ μ G σ H) (hl : ds.length + es.length ≤ sizeLine) (k : ∀ p H', ST G0 H0 L π ρ (As.lst p (ds ++ es) :: μ) G σ H' → H0 p = none → Gr G H G H' → Q (.ref p) H') : rPlus K v w H Q := by
  obtain ⟨a, xs, rfl, ea, ha⟩ := da_lst hv
  obtain ⟨b, ys, rfl, eb, hb⟩ := da_lst hw
  exact .inr (.inl ⟨a, b, xs, ys, rfl, rfl, S.same _ _ ea, S.same _ _ eb, by rw [da_len ha, da_len hb]; exact hl, c_newL' S (da_app ha hb) k⟩)
theorem c_plusT {ds es : List PyData} (hv : Da G v (.tuple ds)) (hw : Da G w (.tuple es)) (S : ST G0 H0 L π ρ μ G σ H) (hl : ds.length + es.length ≤ sizeLine) (k : ∀ v G' H', ST G0 H0 L π ρ μ G' σ H' → Gr G H G' H' → Da G' v (.tuple (ds ++ es)) → Q v H') : rPlus K v w H Q := by
  obtain ⟨a, xs, rfl, ea, ha⟩ := da_tup hv
  obtain ⟨b, ys, rfl, eb, hb⟩ := da_tup hw
  refine .inr (.inr ⟨a, b, xs, ys, rfl, rfl, SqT.of (S.same _ _ ea), SqT.of (S.same _ _ eb), by rw [da_len ha, da_len hb]; exact hl, fun e => ?_, fun _ e => ?_, fun _ _ p hp => ?_⟩)
  · subst e
    have := da_len ha
    have e2 : ds = [] := by cases ds with
      | nil => rfl
      | cons _ _ => cases this
    subst e2
    exact k _ _ _ S (Gx.rfl' S.same) hw
  · subst e
    have := da_len hb
    have e2 : es = [] := by cases es with
      | nil => rfl
      | cons _ _ => cases this
    subst e2
    rw [List.append_nil] at k
    exact k _ _ _ S (Gx.rfl' S.same) hv
  · have g : Gr G H (upd G p (.tup (xs ++ ys))) (upd H p (.tup (xs ++ ys))) := Gx.frz S.same hp
    exact k _ _ _ (S.grow g) g (.tup upd_same ((da_app ha hb).mono g.g))
def cutD (ds : List PyData) (lo hi : Option Int) : List PyData := (ds.drop (HT.sIx ds.length 0 lo)).take (HT.sIx ds.length ds.length hi - HT.sIx ds.length 0 lo)
theorem da_cut {xs : List V} {ds : List PyData} (h : DaAll G xs ds) (lo hi : Option Int) : DaAll G (cutV xs lo hi) (cutD ds lo hi) := by
  unfold cutV cutD
  rw [da_len h]
  exact da_take _ (da_drop _ h)
theorem c_slL {ds : List PyData} {lo hi : Option Int} (hv : Da G v (.list ds)) (S : ST G0 H0 L π ρ μ G σ H) (k : ∀ v G' H', ST G0 H0 L π ρ μ G' σ H' → Gr G H G' H' → Da G' v (.list (cutD ds lo hi)) → Q v H') : rSlice K v lo hi H Q := by
  obtain ⟨a, xs, rfl, ea, ha⟩ := da_lst hv
  exact .inl ⟨a, xs, rfl, SqL.of (S.same _ _ ea), c_mkL' S (da_cut ha lo hi) k⟩
theorem c_slLm {ds : List PyData} {lo hi : Option Int} (hv : Da G v (.list ds)) (S : ST G0 H0 L π ρ μ G σ H) (k : ∀ p H', ST G0 H0 L π ρ (As.lst p (cutD ds lo hi) :: μ) G σ H' → H0 p = none → Gr G H G H' → Q (.ref p) H') : rSlice K v lo hi H Q := by
  obtain ⟨a, xs, rfl, ea, ha⟩ := da_lst hv
  exact .inl ⟨a, xs, rfl, SqL.of (S.same _ _ ea), c_newL' S (da_cut ha lo hi) k⟩
/-- of a list that may change -/
theorem c_slM {a : Addr} {xs : List V} {ds : List PyData} {lo hi : Option Int} (e : H a = some (.lst xs)) (ha : DaAll G xs ds) (S : ST G0 H0 L π ρ μ G σ H) (k : ∀ v G' H', ST G0 H0 L π ρ μ G' σ H' → Gr G H G' H' → Da G' v (.list (cutD ds lo hi)) → Q v H') : rSlice K (.ref a) lo hi H Q :=
  .inl ⟨a, xs, rfl, SqL.of e, c_mkL' S (da_cut ha lo hi) k⟩
theorem c_slMm {a : Addr} {xs : List V} {ds : List PyData} {lo hi : Option Int} (e : H a = some (.lst xs)) (ha : DaAll G xs ds) (S : ST G0 H0 L π ρ μ G σ H) (k : ∀ p H', ST G0 H0 L π ρ (As.lst p (cutD ds lo hi) :: μ) G σ H' → H0 p = none → Gr G H G H' → Q (.ref p) H') : rSlice K (.ref a) lo hi H Q :=
  .inl ⟨a, xs, rfl, SqL.of e, c_newL' S (da_cut ha lo hi) k⟩
theorem c_slS {z : Str} {lo hi : Option Int} (hl : z.length ≤ sizeLine) (h : Q (.str (cutS z lo hi)) H) : rSlice K (.str z) lo hi H Q := .inr (.inl ⟨z, rfl, hl, h⟩)
theorem c_listL {ds : List PyData} (hv : Da G v (.list ds)) (S : ST G0 H0 L π ρ μ G σ H) (k : ∀ p H', ST G0 H0 L π ρ (As.lst p ds :: μ) G σ H' → H0 p = none → Gr G H G H' → Q (.ref p) H') : rList K [v] H Q := by
  obtain ⟨a, xs, rfl, ea, ha⟩ := da_lst hv
  exact ⟨a, xs, rfl, .inl (SqL.of (S.same _ _ ea)), c_newL' S ha k⟩
theorem c_listLf {ds : List PyData} (hv : Da G v (.list ds)) (S : ST G0 H0 L π ρ μ G σ H) (k : ∀ v G' H', ST G0 H0 L π ρ μ G' σ H' → Gr G H G' H' → Da G' v (.list ds) → Q v H') : rList K [v] H Q := by
  obtain ⟨a, xs, rfl, ea, ha⟩ := da_lst hv
  exact ⟨a, xs, rfl, .inl (SqL.of (S.same _ _ ea)), c_mkL' S ha k⟩
theorem c_listT {ds : List PyData} (hv : Da G v (.tuple ds)) (S : ST G0 H0 L π ρ μ G σ H) (k : ∀ p H', ST G0 H0 L π ρ (As.lst p ds :: μ) G σ H' → H0 p = none → Gr G H G H' → Q (.ref p) H') : rList K [v] H Q := by
  obtain ⟨a, xs, rfl, ea, ha⟩ := da_tup hv
  exact ⟨a, xs, rfl, .inr (SqT.of (S.same _ _ ea)), c_newL' S ha k⟩
theorem c_tupleL {ds : List PyData} (hv : Da G v (.list ds)) (S : ST G0 H0 L π ρ μ G σ H) (k : ∀ v G' H', ST G0 H0 L π ρ μ G' σ H' → Gr G H G' H' → Da G' v (.tuple ds) → Q v H') : rTuple K [v] H Q := by
  obtain ⟨a, xs, rfl, ea, ha⟩ := da_lst hv
  refine ⟨a, xs, rfl, .inl ⟨SqL.of (S.same _ _ ea), fun p hp => ?_⟩⟩
  have g : Gr G H (upd G p (.tup xs)) (upd H p (.tup xs)) := Gx.frz S.same hp
  exact k _ _ _ (S.grow g) g (.tup upd_same (ha.mono g.g))

/-! ### steps: loops -/
def forW (J : It) (g : TG) (tb : TS) (D : Ends) (σ : St) (H : Hp) : Prop := ∃ W : Nat → Nat → St → Hp → Prop, (∃ m, W 0 m σ H) ∧ ∀ i m σ H, W i m σ H →
    (J.stop i H ∧ D.nx σ H) ∨ (J.go i H ∧ ∃ N : St → Hp → Prop, (∀ σ' H', N σ' H' → ∃ m', m' < m ∧ W (i + 1) m' σ' H') ∧ ∀ x H', J.yld i H x H' → g x σ H' fun σ2 H2 => tb { D with nx := N, ct := N, bk := D.nx } σ2 H2)
theorem c_for {wi : TI} {g : TG} {tb : TS} (h : wi σ H fun J H1 => forW J g tb D σ H1) : tFor wi g tb D σ H := h
def lW (K : PySem.W.Frag) (R : It → Hp → Prop) (x : V) (H : Hp) : Prop := ∃ a, x = .ref a ∧ (∃ xs, SqL K H a xs) ∧ R (Itl K a) H
def rW1 (R : It → Hp → Prop) (vs : List V) (H : Hp) : Prop := ∃ j : Int, vs = [.int j] ∧ -(2 ^ 62) ≤ j ∧ j < 2 ^ 62 ∧ R (Itr 0 j.toNat) H
def rW2 (R : It → Hp → Prop) (vs : List V) (H : Hp) : Prop := ∃ i j : Int, vs = [.int i, .int j] ∧ (-(2 ^ 62) ≤ i ∧ i < 2 ^ 62 ∧ -(2 ^ 62) ≤ j ∧ j < 2 ^ 62) ∧ R (Itr i (j - i).toNat) H
def rW3 (R : It → Hp → Prop) (vs : List V) (H : Hp) : Prop := ∃ (i j c : Int) (n : Nat), vs = [.int i, .int j, .int c] ∧ RgC i j c n ∧ R (Itc i c n) H
theorem c_iList {tl : TE} {R : It → Hp → Prop} (h : tl σ H (lW K R)) : iList K tl σ H R := h
theorem c_iR1 {ta : TA} {R : It → Hp → Prop} (h : ta σ H (rW1 R)) : iRng1 ta σ H R := h
theorem c_iR2 {ta : TA} {R : It → Hp → Prop} (h : ta σ H (rW2 R)) : iRng2 ta σ H R := h
theorem c_iR3 {ta : TA} {R : It → Hp → Prop} (h : ta σ H (rW3 R)) : iRng3 ta σ H R := h
theorem c_r1 {j : Int} {R : It → Hp → Prop} (h1 : -(2 ^ 62) ≤ j) (h2 : j < 2 ^ 62) (h : R (Itr 0 j.toNat) H) : rW1 R [.int j] H := ⟨j, rfl, h1, h2, h⟩
theorem c_r2 {a b : Int} {R : It → Hp → Prop} (h1 : -(2 ^ 62) ≤ a ∧ a < 2 ^ 62 ∧ -(2 ^ 62) ≤ b ∧ b < 2 ^ 62) (h : R (Itr a (b - a).toNat) H) : rW2 R [.int a, .int b] H := ⟨a, b, rfl, h1, h⟩
theorem c_rDown {a b : Int} {R : It → Hp → Prop} (h1 : -(2 ^ 62) ≤ a ∧ a < 2 ^ 62 ∧ -(2 ^ 62) ≤ b ∧ b < 2 ^ 62) (h : R (Itc a (-1) (a - b).toNat) H) : rW3 R [.int a, .int b, .int (-1)] H :=
  ⟨a, b, -1, _, rfl, RgC.neg h1.1 h1.2.1 h1.2.2.1 h1.2.2.2, h⟩
/-- over a frozen list: Pv by the turn, G, the slots, H -/
theorem c_forL {g : TG} {tb : TS} {ds : List PyData} (Pv : Nat → Hp → St → Hp → Prop) (hv : Da G v (.list ds)) (h0 : Pv 0 G σ H) (hp : ∀ i G σ H, Pv i G σ H → Da G v (.list ds) ∧ Same G H)
    (turn : ∀ i d y G' σ' H', ds[i]? = some d → Da G' y d → Pv i G' σ' H' → g y σ' H' fun σ2 H2 => tb { D with nx := fun σ3 H3 => ∃ G3, Pv (i + 1) G3 σ3 H3, ct := fun σ3 H3 => ∃ G3, Pv (i + 1) G3 σ3 H3, bk := D.nx } σ2 H2)
    (done : ∀ G' σ' H', Pv ds.length G' σ' H' → D.nx σ' H') :
    lW K (fun J H1 => forW J g tb D σ H1) v H := by
  obtain ⟨a, xs, rfl, ea, ha⟩ := da_lst hv
  refine ⟨a, rfl, ⟨xs, SqL.of ((hp 0 _ _ _ h0).2 _ _ ea)⟩, fun i m σ H => m = ds.length - i ∧ i ≤ ds.length ∧ ∃ G, Pv i G σ H, ⟨_, rfl, Nat.zero_le _, G, h0⟩, ?_⟩
  rintro i m σ' H' ⟨rfl, hi, G', p⟩
  obtain ⟨h1, h2⟩ := hp i G' σ' H' p
  obtain ⟨b, ys, e, eb, hb⟩ := da_lst h1
  cases e
  have el := da_len hb
  have q : SqL K H' a ys := SqL.of (h2 _ _ eb)
  by_cases hlt : i < ds.length
  · refine .inr ⟨⟨ys, ys[i]'(by omega), q, by simp [show i < ys.length by omega]⟩, fun σ3 H3 => ∃ G3, Pv (i + 1) G3 σ3 H3, fun σ3 H3 p3 => ⟨ds.length - (i + 1), by omega, rfl, hlt, p3⟩, fun x H2 y => ?_⟩
    obtain ⟨e, y⟩ := y
    subst e
    obtain ⟨d, hd, hx⟩ := da_getV hb (y ys q)
    exact turn i d x G' σ' _ hd hx p
  · have e : i = ds.length := by omega
    subst e
    exact .inl ⟨⟨ys, q, by omega⟩, done G' σ' H' p⟩
/-- over a range upwards -/
theorem c_forR {lo : Int} {n : Nat} {g : TG} {tb : TS} (Pv : Nat → Hp → St → Hp → Prop) (h0 : Pv 0 G σ H)
    (turn : ∀ i G' σ' H', i < n → Pv i G' σ' H' → g (.int (lo + i)) σ' H' fun σ2 H2 => tb { D with nx := fun σ3 H3 => ∃ G3, Pv (i + 1) G3 σ3 H3, ct := fun σ3 H3 => ∃ G3, Pv (i + 1) G3 σ3 H3, bk := D.nx } σ2 H2)
    (done : ∀ G' σ' H', Pv n G' σ' H' → D.nx σ' H') :
    forW (Itr lo n) g tb D σ H :=
  for_it walk_range (fun i σ H => ∃ G, Pv i G σ H) ⟨G, h0⟩ (fun _ _ _ _ _ => True.intro) (fun i x σ' H1 H2 hi ⟨G', p⟩ y => by
    obtain ⟨rfl, rfl⟩ := y
    exact turn i G' σ' _ hi p) fun σ' H' ⟨G', p⟩ => done G' σ' H' p
theorem c_forC {lo c : Int} {n : Nat} {g : TG} {tb : TS} (Pv : Nat → Hp → St → Hp → Prop) (h0 : Pv 0 G σ H)
    (turn : ∀ i G' σ' H', i < n → Pv i G' σ' H' → g (.int (lo + (i : Nat) * c)) σ' H' fun σ2 H2 => tb { D with nx := fun σ3 H3 => ∃ G3, Pv (i + 1) G3 σ3 H3, ct := fun σ3 H3 => ∃ G3, Pv (i + 1) G3 σ3 H3, bk := D.nx } σ2 H2)
    (done : ∀ G' σ' H', Pv n G' σ' H' → D.nx σ' H') :
    forW (Itc lo c n) g tb D σ H :=
  for_it walk_rangeC (fun i σ H => ∃ G, Pv i G σ H) ⟨G, h0⟩ (fun _ _ _ _ _ => True.intro) (fun i x σ' H1 H2 hi ⟨G', p⟩ y => by
    obtain ⟨rfl, rfl⟩ := y
    exact turn i G' σ' _ hi p) fun σ' H' ⟨G', p⟩ => done G' σ' H' p

/-! ### steps: comprehensions -/
def LcW (J : It) (g : TG) (tt : TT) (te : TE) (vs : List Nat) (σ : St) (H1 : Hp) (D : Addr) (Qd : Hp → Prop) : Prop :=
  ∃ W : Nat → Nat → Hp → Prop, (∃ m, W 0 m (upd H1 D (.lst []))) ∧ ∀ i m H, W i m H →
      (J.stop i H ∧ Qd H) ∨ (J.go i H ∧ ∃ Nx : Hp → Prop, (∀ H', Nx H' → ∃ m', m' < m ∧ W (i + 1) m' H') ∧ ∀ x H', J.yld i H x H' → g x (wipe σ vs) H' fun σ2 H2 => wipe σ2 vs = wipe σ vs ∧ tt σ2 H2 fun b H3 =>
        if b = true then te σ2 H3 fun y H4 => ∃ acc, H4 D = some (.lst acc) ∧ acc.length < sizeLine ∧ Nx (upd H4 D (.lst (acc ++ [y]))) else Nx H3)
theorem c_lc {wi : TI} {g : TG} {vs : List Nat} (h : wi σ H fun J H1 => ∀ D, H1 D = none → LcW J g tt te vs σ H1 D (Q (.ref D))) : tLc wi g tt te vs σ H Q := h
/-- the slots in a comprehension's block: its own are forgotten -/
def wipeR (ρ : List Sl) : List Nat → List Sl
  | [] => ρ
  | v :: vs => (wipeR ρ vs).set v .any
theorem env_wipe (e : EnvOk G σ ρ) : ∀ vs, EnvOk G (wipe σ vs) (wipeR ρ vs)
  | [] => e
  | v :: vs => (env_wipe e vs).setS v True.intro
theorem ST.wipe (S : ST G0 H0 L π ρ μ G σ H) (vs : List Nat) : ST G0 H0 L π (wipeR ρ vs) μ G (L2.wipe σ vs) H := S.slot (env_wipe S.env vs)
/-- behind a turn: the slots of the block again -/
theorem ST.wipe' {σ2 σ : St} {vs : List Nat} {ρ2 : List Sl} (S : ST G0 H0 L π ρ2 μ G σ2 H) (e : L2.wipe σ2 vs = L2.wipe σ vs) : ST G0 H0 L π (wipeR ρ2 vs) μ G (L2.wipe σ vs) H := by
  rw [← e]
  exact S.wipe vs
/-- a comprehension's new list -/
theorem ST.newD (S : ST G0 H0 L π ρ μ G σ H) {p : Addr} (hp : H p = none) : ST G0 H0 L π ρ (As.lst p [] :: μ) G σ (upd H p (.lst [])) ∧ H0 p = none :=
  ⟨S.add (Gx.new S.same hp) ⟨[], upd_same, .nil⟩ fun b e => by cases e; exact ⟨hp, none_of_same S.same hp, by rw [upd_same]; exact fun z => by cases z⟩, S.new0 hp⟩
def lcItem (p : Addr) (Nx : Hp → Prop) (y : V) (H : Hp) : Prop := ∃ acc, H p = some (.lst acc) ∧ acc.length < sizeLine ∧ Nx (upd H p (.lst (acc ++ [y])))
/-- a turn's end: the item goes to the new list -/
theorem c_lcItem {p : Addr} {ds : List PyData} {d : PyData} {Nx : Hp → Prop} (S : ST G0 H0 L π ρ (As.lst p ds :: μ) G σ H) (hv : Da G v d) (hl : ds.length < sizeLine) (k : ∀ H', ST G0 H0 L π ρ (As.lst p (ds ++ [d]) :: μ) G σ H' → Nx H') : lcItem p Nx v H := by
  obtain ⟨vs, e, ha⟩ := S.head
  exact ⟨vs, e, by rw [da_len ha]; exact hl, k _ (S.put (da_snoc ha hv))⟩
theorem wipe_set {σ : St} {i : Nat} {x : Option V} : ∀ vs : List Nat, (i ∈ vs → L2.wipe (σ.set i x) vs = L2.wipe σ vs) ∧ L2.wipe (σ.set i x) vs = (if i ∈ vs then L2.wipe σ vs else (L2.wipe σ vs).set i x)
  | [] => ⟨(fun h => nomatch h), rfl⟩
  | v :: vs => by
    obtain ⟨h1, h2⟩ := wipe_set (σ := σ) (i := i) (x := x) vs
    have key : i ∈ v :: vs → L2.wipe (σ.set i x) (v :: vs) = L2.wipe σ (v :: vs) := fun h => by
      show (L2.wipe (σ.set i x) vs).set v none = (L2.wipe σ vs).set v none
      by_cases hi : i ∈ vs
      · rw [h1 hi]
      · have hv : i = v := by rcases List.mem_cons.mp h with e | e; exact e; exact absurd e hi
        rw [h2, if_neg hi, hv, List.set_set]
    refine ⟨key, ?_⟩
    by_cases hi : i ∈ v :: vs
    · rw [if_pos hi]; exact key hi
    · rw [if_neg hi]
      have hv : i ≠ v := fun e => hi (by rw [e]; exact List.mem_cons_self ..)
      have hvs : i ∉ vs := fun e => hi (List.mem_cons_of_mem _ e)
      show (L2.wipe (σ.set i x) vs).set v none = ((L2.wipe σ vs).set v none).set i x
      rw [h2, if_neg hvs, List.set_comm _ _ hv]
theorem wipe_in {σ : St} {i : Nat} {x : Option V} {vs : List Nat} (h : i ∈ vs) : L2.wipe (σ.set i x) vs = L2.wipe σ vs := (wipe_set vs).1 h
theorem wipe_wipe (σ : St) : ∀ vs : List Nat, L2.wipe (L2.wipe σ vs) vs = L2.wipe σ vs
  | [] => rfl
  | v :: vs => by
    show (L2.wipe ((L2.wipe σ vs).set v none) vs).set v none = (L2.wipe σ vs).set v none
    have e := (wipe_set (σ := L2.wipe σ vs) (i := v) (x := none) vs).2
    rw [e]
    split
    · rw [wipe_wipe σ vs]
    · rw [wipe_wipe σ vs, List.set_set]
theorem c_setc {i : Nat} {Q : St → Hp → Prop} (S : ST G0 H0 L π ρ μ G σ H) (h : ST G0 H0 L π (ρ.set i (.val v)) μ G (σ.set i (some v)) H → Q (σ.set i (some v)) H) : gName i v σ H Q := h (S.set i)
theorem c_setcD {i : Nat} {d : PyData} {Q : St → Hp → Prop} (S : ST G0 H0 L π ρ μ G σ H) (hv : Da G v d) (h : ST G0 H0 L π (ρ.set i (.dat d)) μ G (σ.set i (some v)) H → Q (σ.set i (some v)) H) : gName i v σ H Q := h (S.setD i hv)
theorem c_lcR {lo : Int} {n : Nat} {g : TG} {vs : List Nat} {p : Addr} {Qd : Hp → Prop} (Pv : Nat → Hp → Hp → Prop) (h0 : Pv 0 G (upd H p (.lst [])))
    (turn : ∀ i G' H', i < n → Pv i G' H' → g (.int (lo + i)) (wipe σ vs) H' fun σ2 H2 => wipe σ2 vs = wipe σ vs ∧ tt σ2 H2 fun b H3 =>
      if b = true then te σ2 H3 fun y H4 => ∃ acc, H4 p = some (.lst acc) ∧ acc.length < sizeLine ∧ ∃ G4, Pv (i + 1) G4 (upd H4 p (.lst (acc ++ [y]))) else ∃ G4, Pv (i + 1) G4 H3) (done : ∀ G' H', Pv n G' H' → Qd H') : LcW (Itr lo n) g tt te vs σ H p Qd :=
  lc_range (fun i H => ∃ G, Pv i G H) ⟨G, h0⟩ (fun i H' hi ⟨G', q⟩ => turn i G' H' hi q) fun H' ⟨G', q⟩ => done G' H' q
theorem c_iL {ds : List PyData} {R : It → Hp → Prop} (hv : Da G v (.list ds)) (s : Same G H) (k : ∀ a, v = .ref a → R (Itl K a) H) : lW K R v H := by
  obtain ⟨a, xs, rfl, e, ha⟩ := da_lst hv
  exact ⟨a, rfl, ⟨xs, SqL.of (s _ _ e)⟩, k a rfl⟩
theorem c_iM {a : Addr} {xs : List V} {R : It → Hp → Prop} (e : H a = some (.lst xs)) (k : R (Itl K a) H) : lW K R (.ref a) H := ⟨a, rfl, ⟨xs, SqL.of e⟩, k⟩
theorem c_lcL {a : Addr} {ds : List PyData} {g : TG} {vs : List Nat} {p : Addr} {Qd : Hp → Prop} (Pv : Nat → Hp → Hp → Prop) (h0 : Pv 0 G (upd H p (.lst []))) (hp : ∀ i G' H', Pv i G' H' → Da G' (.ref a) (.list ds) ∧ Same G' H')
    (turn : ∀ i d y G' H', ds[i]? = some d → Da G' y d → Pv i G' H' → g y (wipe σ vs) H' fun σ2 H2 => wipe σ2 vs = wipe σ vs ∧ tt σ2 H2 fun b H3 =>
      if b = true then te σ2 H3 fun y H4 => ∃ acc, H4 p = some (.lst acc) ∧ acc.length < sizeLine ∧ ∃ G4, Pv (i + 1) G4 (upd H4 p (.lst (acc ++ [y]))) else ∃ G4, Pv (i + 1) G4 H3) (done : ∀ G' H', Pv ds.length G' H' → Qd H') : LcW (Itl K a) g tt te vs σ H p Qd := by
  refine ⟨fun i m H => m = ds.length - i ∧ i ≤ ds.length ∧ ∃ G, Pv i G H, ⟨_, rfl, Nat.zero_le _, G, h0⟩, ?_⟩
  rintro i m H' ⟨rfl, hi, G', q⟩
  obtain ⟨h1, h2⟩ := hp i G' H' q
  obtain ⟨b, ys, e, eb, hb⟩ := da_lst h1
  cases e
  have el := da_len hb
  have hq : SqL K H' a ys := SqL.of (h2 _ _ eb)
  by_cases hlt : i < ds.length
  · refine .inr ⟨⟨ys, ys[i]'(by omega), hq, by simp [show i < ys.length by omega]⟩, fun H3 => ∃ G3, Pv (i + 1) G3 H3, fun H3 p3 => ⟨ds.length - (i + 1), by omega, rfl, hlt, p3⟩, fun x H2 y => ?_⟩
    obtain ⟨e, y⟩ := y
    subst e
    obtain ⟨d, hd, hx⟩ := da_getV hb (y ys hq)
    exact turn i d x G' _ hd hx q
  · have e : i = ds.length := by omega
    subst e
    exact .inl ⟨⟨ys, hq, by omega⟩, done G' H' q⟩
/-- a comprehension over a frozen list: I tells what is made behind i turns -/
theorem c_compL {a : Addr} {ds : List PyData} {g : TG} {vs : List Nat} {p : Addr} {Qd : Hp → Prop} (I : Nat → List PyData → Prop) (S : ST G0 H0 L π ρ μ G σ H) (hv : Da G (.ref a) (.list ds)) (hp : H p = none) (h0 : I 0 [])
    (turn : ∀ i d y acc G' H', ds[i]? = some d → Da G' y d → I i acc → ST G0 H0 L (pE σ ρ :: pD (.ref a) (.list ds) :: pS G :: π) (wipeR ρ vs) (As.lst p acc :: μ) G' (wipe σ vs) H' →
      g y (wipe σ vs) H' fun σ2 H2 => wipe σ2 vs = wipe σ vs ∧ tt σ2 H2 fun b H3 =>
      if b = true then te σ2 H3 (lcItem p fun H4 => ∃ G4 acc', I (i + 1) acc' ∧ ST G0 H0 L (pE σ ρ :: pD (.ref a) (.list ds) :: pS G :: π) (wipeR ρ vs) (As.lst p acc' :: μ) G4 (wipe σ vs) H4)
      else ∃ G4 acc', I (i + 1) acc' ∧ ST G0 H0 L (pE σ ρ :: pD (.ref a) (.list ds) :: pS G :: π) (wipeR ρ vs) (As.lst p acc' :: μ) G4 (wipe σ vs) H3)
    (done : ∀ G' H' acc, Same G G' → I ds.length acc → ST G0 H0 L π ρ (As.lst p acc :: μ) G' σ H' → H0 p = none → Qd H') : LcW (Itl K a) g tt te vs σ H p Qd := by
  refine c_lcL (G := G) (fun i G' H' => ∃ acc, I i acc ∧ ST G0 H0 L (pE σ ρ :: pD (.ref a) (.list ds) :: pS G :: π) (wipeR ρ vs) (As.lst p acc :: μ) G' (wipe σ vs) H') ⟨[], h0, (((((S.pinP (p := pS G) (Same.refl G)).pinned hv).pinP (p := pE σ ρ) S.env).wipe vs).newD hp).1⟩ (fun i G' H' ⟨acc, _, S⟩ => ⟨S.pin1, S.same⟩) ?_ ?_
  · rintro i d y G' H' hd hy ⟨acc, hI, S⟩
    exact turn i d y acc G' H' hd hy hI S
  · rintro G' H' ⟨acc, hI, S'⟩
    exact done G' H' acc (S'.pin (pS G) (List.mem_cons_of_mem _ (List.mem_cons_of_mem _ (List.mem_cons_self ..)))) hI S'.back.unpin.unpin (S.new0 hp)
/-- .. over a range -/
theorem c_compR {lo : Int} {n : Nat} {g : TG} {vs : List Nat} {p : Addr} {Qd : Hp → Prop} (I : Nat → List PyData → Prop) (S : ST G0 H0 L π ρ μ G σ H) (hp : H p = none) (h0 : I 0 [])
    (turn : ∀ i acc G' H', i < n → I i acc → ST G0 H0 L (pE σ ρ :: pS G :: π) (wipeR ρ vs) (As.lst p acc :: μ) G' (wipe σ vs) H' →
      g (.int (lo + i)) (wipe σ vs) H' fun σ2 H2 => wipe σ2 vs = wipe σ vs ∧ tt σ2 H2 fun b H3 =>
      if b = true then te σ2 H3 (lcItem p fun H4 => ∃ G4 acc', I (i + 1) acc' ∧ ST G0 H0 L (pE σ ρ :: pS G :: π) (wipeR ρ vs) (As.lst p acc' :: μ) G4 (wipe σ vs) H4)
      else ∃ G4 acc', I (i + 1) acc' ∧ ST G0 H0 L (pE σ ρ :: pS G :: π) (wipeR ρ vs) (As.lst p acc' :: μ) G4 (wipe σ vs) H3)
    (done : ∀ G' H' acc, Same G G' → I n acc → ST G0 H0 L π ρ (As.lst p acc :: μ) G' σ H' → H0 p = none → Qd H') : LcW (Itr lo n) g tt te vs σ H p Qd := by
  refine c_lcR (G := G) (fun i G' H' => ∃ acc, I i acc ∧ ST G0 H0 L (pE σ ρ :: pS G :: π) (wipeR ρ vs) (As.lst p acc :: μ) G' (wipe σ vs) H') ⟨[], h0, ((((S.pinP (p := pS G) (Same.refl G)).save).wipe vs).newD hp).1⟩ ?_ ?_
  · rintro i G' H' hi ⟨acc, hI, S⟩
    exact turn i acc G' H' hi hI S
  · rintro G' H' ⟨acc, hI, S'⟩
    exact done G' H' acc (S'.pin (pS G) (List.mem_cons_of_mem _ (List.mem_cons_self ..))) hI S'.back.unpin (S.new0 hp)
/-- a value that a part of the reading comes to, whatever is wanted -/
theorem c_cut {te : TE} (h : ∀ Q' : VK, Q' v H → te σ H Q') (k : Q v H) : te σ H Q := h Q k
theorem c_yes {Q : Bool → Hp → Prop} (h : Q true H) : tYes σ H Q := h
end
end Hw

/-! Hw, part C: promises, defs, ends. -/
namespace Hw
open PySem L2
/-- a def that stands at a place and keeps a promise -/
def OkF (P : Program) (w : World) (K : PySem.W.Frag) (mg : Str → Option Value) (base : Heap) (CX : CXT) (p : Str × Option Str) (ps : List Str) (k : Nat) (sp : Sp) : Prop :=
  ∃ fd : FuncData, FnOk P w K mg base CX k (He.fAd K p) fd ps sp ∧ PySem.W.keepIn K (.ref (He.fAd K p)) = true ∧ Binds K fd ps []

/-- data in, data out; nothing that stood is changed -/
def spP (R : List PyData → PyData → Prop) : Sp := fun vs H Q _ => ∃ G ds d, Same G H ∧ DaAll G vs ds ∧ R ds d ∧ ∀ v G' H', Gr G H G' H' → Da G' v d → Q v H'
/-- data in, a new list out (it may be changed by who called) -/
def spL (R : List PyData → List PyData → Prop) : Sp := fun vs H Q _ => ∃ G ds es, Same G H ∧ DaAll G vs ds ∧ R ds es ∧
  ∀ p ws G' H', Gr G H G' H' → H p = none → G' p = none → H' p = some (.lst ws) → DaAll G' ws es → Q (.ref p) H'
def slotOf : PyData → Sl
  | .none => .val .non
  | .bool b => .val (.bl b)
  | .int i => .val (.int i)
  | .str x => .val (.str x)
  | d => .dat d
theorem slotOf_ok {G : Hp} {v : V} : ∀ {d : PyData}, Da G v d → SlOk G (some v) (slotOf d)
  | .none, h => by cases h; rfl
  | .bool _, h => by cases h; rfl
  | .int _, h => by cases h; rfl
  | .str _, h => by cases h; rfl
  | .list _, h => ⟨v, rfl, h⟩
  | .tuple _, h => ⟨v, rfl, h⟩
  | .dict _, h => by cases h
theorem env_args {G : Hp} : ∀ {vs : List V} {ds : List PyData}, DaAll G vs ds → EnvOk G (vs.map some) (ds.map slotOf)
  | _, _, .nil => True.intro
  | _, _, .cons a b => ⟨slotOf_ok a, env_args b⟩
section
variable {G0 H0 : Hp} {L : Addr → Prop} {π : List Pin} {ρ : List Sl} {μ : List As} {G H : Hp} {σ : St} {Q : VK} {E : XK}
theorem ST.start {N : List Str} {vs : List V} {ds : List PyData} (s : Same G H) (hd : DaAll G vs ds) : ST G H NoL [] (ds.map slotOf ++ List.replicate (N.length - ds.length) .any) [] G (L2.start N vs) H :=
  ⟨Gx.rfl' s, by rw [← da_len hd]; exact env_app (env_args hd) (env_none G _), (fun _ h => nomatch h), (fun _ h => nomatch h), (fun _ h => nomatch h), List.Pairwise.nil⟩
/-- .. with slots told by hand -/
theorem ST.startV {N : List Str} {vs : List V} {ρ : List Sl} (s : Same G H) (he : EnvOk G (vs.map some) ρ) : ST G H NoL [] (ρ ++ List.replicate (N.length - ρ.length) .any) [] G (L2.start N vs) H := by
  have e : vs.length = ρ.length := by have := he.len; rw [List.length_map] at this; exact this
  exact ⟨Gx.rfl' s, by rw [← e]; exact env_app he (env_none G _), (fun _ h => nomatch h), (fun _ h => nomatch h), (fun _ h => nomatch h), List.Pairwise.nil⟩
/-- .. with heaplets that are passed -/
theorem ST.startM {N : List Str} {vs : List V} {ρ : List Sl} {L : Addr → Prop} (s : Same G H) (he : EnvOk G (vs.map some) ρ) (ok : ∀ a ∈ μ, a.ok G H) (fp : ∀ a ∈ μ, ∀ b, a.fp b → G b = none ∧ H b ≠ none ∧ L b) (dj : μ.Pairwise fun a c => ∀ b, a.fp b → ¬ c.fp b) :
    ST G H L [] (ρ ++ List.replicate (N.length - ρ.length) .any) μ G (L2.start N vs) H := by
  have e : vs.length = ρ.length := by have := he.len; rw [List.length_map] at this; exact this
  exact ⟨Gx.rfl' s, by rw [← e]; exact env_app he (env_none G _), (fun _ h => nomatch h), ok, fun a ha b hb => ⟨(fp a ha b hb).1, (fp a ha b hb).2.1, .inl (fp a ha b hb).2.2⟩, dj⟩
theorem c_callP {R : List PyData → PyData → Prop} {vs : List V} {ds : List PyData} {d : PyData} (S : ST G0 H0 L π ρ μ G σ H) (hd : DaAll G vs ds) (hR : R ds d) (k : ∀ v G' H', ST G0 H0 L π ρ μ G' σ H' → Gr G H G' H' → Da G' v d → Q v H') : spP R vs H Q E :=
  ⟨G, ds, d, S.same, hd, hR, fun v G' H' g hv => k v G' H' (S.grow g) g hv⟩
theorem c_callL {R : List PyData → List PyData → Prop} {vs : List V} {ds es : List PyData} (S : ST G0 H0 L π ρ μ G σ H) (hd : DaAll G vs ds) (hR : R ds es) (k : ∀ p G' H', ST G0 H0 L π ρ (As.lst p es :: μ) G' σ H' → H0 p = none → Gr G H G' H' → Q (.ref p) H') : spL R vs H Q E :=
  ⟨G, ds, es, S.same, hd, hR, fun p ws G' H' g hp gp e hw => k p G' H' (S.add g ⟨ws, e, hw⟩ fun b q => by cases q; exact ⟨hp, gp, by rw [e]; exact fun z => by cases z⟩) (S.new0 hp) g⟩
theorem Gr.frzL {G H G' H' : Hp} {p : Addr} {ws : List V} (g : Gr G H G' H') (hp : H p = none) (e : H' p = some (.lst ws)) (gp : G' p = none) : Gr G H (upd G' p (.lst ws)) H' := by
  refine ⟨fun b o q => ?_, g.h, fun b o q => ?_, fun b q n => ?_, g.dom⟩
  · have := g.g b o q
    rw [upd_ne (ne_of_none this gp)]; exact this
  · by_cases hb : b = p
    · subst hb; rw [upd_same] at q; cases q; exact e
    · rw [upd_ne hb] at q; exact g.s b o q
  · have hb : b ≠ p := fun z => q (by rw [z]; exact hp)
    rw [upd_ne hb]; exact g.ap b q n
theorem c_callLf {R : List PyData → List PyData → Prop} {vs : List V} {ds es : List PyData} (S : ST G0 H0 L π ρ μ G σ H) (hd : DaAll G vs ds) (hR : R ds es) (k : ∀ v G' H', ST G0 H0 L π ρ μ G' σ H' → Gr G H G' H' → Da G' v (.list es) → Q v H') : spL R vs H Q E :=
  ⟨G, ds, es, S.same, hd, hR, fun p ws G' H' g hp gp e hw => by
    have g2 := g.frzL hp e gp
    have sg : Same G' (upd G' p (.lst ws)) := fun b o q => by rw [upd_ne (ne_of_none q gp)]; exact q
    exact k _ _ _ (S.grow g2) g2 (.lst upd_same (hw.mono sg))⟩
/-- a new list of ints out, whatever G the arguments are told by (lists that may change are told as they stand) -/
theorem c_callLi {R : List PyData → List PyData → Prop} {vs : List V} {ds : List PyData} {ns : List Int} {G1 : Hp} (S : ST G0 H0 L π ρ μ G σ H) (s1 : Same G1 H) (hd : DaAll G1 vs ds) (hR : R ds (ns.map .int)) (k : ∀ p H', ST G0 H0 L π ρ (As.lst p (ns.map .int) :: μ) G σ H' → H0 p = none → Gr G H G H' → Q (.ref p) H') : spL R vs H Q E :=
  ⟨G1, ds, _, s1, hd, hR, fun p ws G' H' g hp gp e hw => by
    have ew := da_ints hw
    subst ew
    have g2 : Gr G H G H' := ⟨Same.refl G, g.h, S.same.trans g.same, fun _ _ n => n, g.dom⟩
    exact k p H' (S.add g2 ⟨_, e, da_of_ints ns⟩ fun b q => by cases q; exact ⟨hp, none_of_same S.same hp, by rw [e]; exact fun z => by cases z⟩) (S.new0 hp) g2⟩
/-- a list that may change, as it stands -/
theorem lend {l : Addr} {vs : List V} {ds : List PyData} (s : Same G H) (gl : G l = none) (e : H l = some (.lst vs)) (h : DaAll G vs ds) : Same (upd G l (.lst vs)) H ∧ Da (upd G l (.lst vs)) (.ref l) (.list ds) ∧ Same G (upd G l (.lst vs)) := by
  have sg : Same G (upd G l (.lst vs)) := fun b o q => by rw [upd_ne (ne_of_none q gl)]; exact q
  refine ⟨fun b o q => ?_, .lst upd_same (h.mono sg), sg⟩
  by_cases hb : b = l
  · subst hb; rw [upd_same] at q; cases q; exact e
  · rw [upd_ne hb] at q; exact s b o q
/-- a def's end: data -/
theorem ret_P {d : PyData} {v : V} (S : ST G0 H0 NoL π ρ μ G σ H) (hv : Da G v d) (k : ∀ v G' H', Gr G0 H0 G' H' → Da G' v d → Q v H') : Q v H := k v G H S.gx hv
theorem ret_L {es : List PyData} {p : Addr} (S : ST G0 H0 NoL π ρ (As.lst p es :: μ) G σ H) (h0 : H0 p = none) (k : ∀ p ws G' H', Gr G0 H0 G' H' → H0 p = none → G' p = none → H' p = some (.lst ws) → DaAll G' ws es → Q (.ref p) H') : Q (.ref p) H := by
  obtain ⟨vs, e, ha⟩ := S.head
  exact k p vs G H S.gx h0 (S.hfp rfl).1 e ha
/-- a list out that is frozen for the caller -/
theorem ret_Lf {es : List PyData} {p : Addr} (S : ST G0 H0 NoL π ρ (As.lst p es :: μ) G σ H) (h0 : H0 p = none) (k : ∀ v G' H', Gr G0 H0 G' H' → Da G' v (.list es) → Q v H') : Q (.ref p) H := by
  obtain ⟨G', S', hd, _⟩ := S.freeze h0
  exact k _ G' H S'.gx hd
end
/-- a promise that nobody can ask -/
theorem fn_never {P : Program} {w : World} {K : PySem.W.Frag} {mg : Str → Option Value} {base : Heap} {CX : CXT} {k : Nat} {f : Addr} {fd : FuncData} {ps : List Str} {sp : Sp} (h : ∀ vs H Q E, ¬ sp vs H Q E) : FnOk P w K mg base CX k f fd ps sp :=
  ⟨fun vs H Q E q => (h vs H Q E q).elim, fun A outer s H args us vs Q E _ _ _ _ q => (h vs H Q E q).elim⟩
/-! ### isinstance of data -/
def tyName : PyData → String
  | .none => "NoneType"
  | .bool _ => "bool"
  | .int _ => "int"
  | .str _ => "str"
  | .list _ => "list"
  | .tuple _ => "tuple"
  | .dict _ => "dict"
theorem da_tyx {K : PySem.W.Frag} {G H : Hp} {v : V} (s : Same G H) : ∀ {d : PyData}, Da G v d → TyX K H v (.type (tyName d))
  | .none, h => by cases h; exact .base .non
  | .bool _, h => by cases h; exact .base (.bl _)
  | .int _, h => by cases h; exact .base (.int _)
  | .str _, h => by cases h; exact .base (.str _)
  | .list _, h => by cases h with | lst e _ => exact .base (.lst (s _ _ e))
  | .tuple _, h => by cases h with | tup e _ => exact .base (.tup (s _ _ e))
  | .dict _, h => by cases h
section
variable {K : PySem.W.Frag} {G0 H0 : Hp} {L : Addr → Prop} {π : List Pin} {ρ : List Sl} {μ : List As} {G H : Hp} {σ : St} {Q : VK} {v : V} {d : PyData}
theorem c_isi {T : String} {b : Bool} (hv : Da G v d) (s : Same G H) (h : kitB (tyName d) T = some b) (k : Q (.bl b) H) : rIsi K [v, .ty T] H Q :=
  .inl ⟨v, .ty T, _, _, b, rfl, .ty T, da_tyx s hv, kit_ty h, k⟩
theorem c_mkRaw {xs : List V} (S : ST G0 H0 L π ρ μ G σ H) (hl : xs.length ≤ sizeLine) (k : ∀ p H', ST G0 H0 L π ρ μ G σ H' → Gr G H G H' → H' p = some (.tup xs) → Q (.ref p) H') : mkTup Q xs H :=
  ⟨hl, fun p hp => k p _ (S.grow (Gx.new S.same hp)) (Gx.new S.same hp) upd_same⟩
theorem kit2 {t c1 c2 : Value} {b1 b2 : Bool} (h1 : PySem.W.kitOne K t c1 = some b1) (h2 : PySem.W.kitOne K t c2 = some b2) : PySem.W.kitAny K t [c1, c2] = some (b1 || b2) :=
  kitAny_cons h1 (fun e => by subst e; exact kitAny_cons h2 (fun e => by subst e; rfl) fun e => by subst e; rfl) fun e => by subst e; rfl
theorem c_isi2 {T1 T2 : String} {b1 b2 : Bool} {p : Addr} (hv : Da G v d) (s : Same G H) (e : H p = some (.tup [.ty T1, .ty T2])) (h1 : kitB (tyName d) T1 = some b1) (h2 : kitB (tyName d) T2 = some b2) (k : Q (.bl (b1 || b2)) H) : rIsi K [v, .ref p] H Q :=
  .inr ⟨v, p, _, _, [.type T1, .type T2], _, rfl, e, .cons (.ty T1) (.cons (.ty T2) .nil), da_tyx s hv, kit2 (kit_ty h1) (kit_ty h2), k⟩
end
/-! ### depth and width of data -/
/-- at most n lists or tuples in one another, each not too long -/
def fits : Nat → PyData → Prop
  | _, .none => True
  | _, .bool _ => True
  | _, .int _ => True
  | _, .str _ => True
  | n + 1, .list ds => ds.length < 2 ^ 60 ∧ ∀ d ∈ ds, fits n d
  | n + 1, .tuple ds => ds.length < 2 ^ 60 ∧ ∀ d ∈ ds, fits n d
  | _, _ => False
theorem fits_int {n : Nat} {i : Int} : fits n (.int i) := by cases n <;> exact True.intro
theorem fits_str {n : Nat} {i : Str} : fits n (.str i) := by cases n <;> exact True.intro
theorem fits_bl {n : Nat} {i : Bool} : fits n (.bool i) := by cases n <;> exact True.intro
theorem fits_non {n : Nat} : fits n .none := by cases n <;> exact True.intro
theorem fits_ints {n : Nat} {ns : List Int} (h : ns.length < 2 ^ 60) : fits (n + 1) (.list (ns.map .int)) := ⟨by rw [List.length_map]; exact h, fun d hd => by
  obtain ⟨i, _, rfl⟩ := List.mem_map.mp hd
  exact fits_int⟩
/-- the end of a law, over a head by facts, with the script's bits -/
theorem walk_bits {l : PySem.W.OpenLaw} {n k : Nat} {q : Program} {loose : List Str} {XP : (Str → Option Value) → Heap → Prop} {YP : World → Heap → Prop} {d : DefRec} {CX : CXT} {x : Str}
    (h1 : l.most = some n) (h2 : n ≤ sizeLine) (h3 : d.params.defaults = []) (h4 : Room k callerA)
    (F : ∀ (w : World) (mg : Str → Option Value) (fa : Addr) (h : Heap), YP w h → h.Ns mainGlobals mg → mg d.name = some (.ref fa) →
      ∃ (K : PySem.W.Frag) (fd : FuncData) (sp : Sp), K.In h ∧ (∀ (s : Shared) (u : Value), BindsTo s fd ⟨[u], []⟩ [(x, u)]) ∧
        (∀ (H : Hp) (a : Addr) (ns : List Int), ns.length ≤ n → (∀ z ∈ ns, Builtin.Int.intBits z ≤ 1048576) → Only H → SqL K H a (ns.map V.int) → sp [.ref a] H (fun v _ => v = .bl true) fun _ _ _ => False) ∧
        (∀ base : Heap, K.In base → base.Ns mainGlobals mg → FnOk l.prog w K mg base CX k fa fd [x] sp))
    (h5 : ∀ (H : Hp) (s : Shared) (e : Value) (s' : Shared), CX [] H s (fun _ _ _ => False) e s' → False) :
    PySem.W.WalkO q loose XP YP l.row.toRowW d [] (fun f vs => PySem.call f vs) := by
  refine Att.attach_callB h1 h3 fun w s₀ s₁ mg mb fa o pm cd doc a vs ns G Y ho hd hcd hmg hobj hints hlen hbits hg => ?_
  obtain ⟨K, fd, sp, KX, hb, hsp, hF⟩ := F w mg fa _ Y G.T.g hmg
  exact law_call KX G.T.g G.T.b G.T.builtins G.T.nolimit hg hobj hints (Nat.le_trans hlen h2) h4 hF hb (fun H hO hS => hsp H a ns hlen hbits hO hS) fun H e s' => h5 H s₁ e s'
end Hw

/-! Hw, part D: cut lists, fields of objects, items that are stored. -/
namespace Hw
open PySem L2
theorem cutD_to (ds : List PyData) (n : Nat) : cutD ds none (some (n : Int)) = ds.take n := by
  unfold cutD
  rw [HT.sIx_nat, HT.sIx_none, Nat.sub_zero, List.drop_zero]
  by_cases h : n ≤ ds.length
  · rw [Nat.min_eq_left h]
  · rw [Nat.min_eq_right (by omega), List.take_of_length_le (Nat.le_refl _), List.take_of_length_le (by omega)]
theorem cutD_from (ds : List PyData) (n : Nat) : cutD ds (some (n : Int)) none = ds.drop n := by
  unfold cutD
  rw [HT.sIx_nat, HT.sIx_none]
  by_cases h : n ≤ ds.length
  · rw [Nat.min_eq_left h, List.take_of_length_le (by rw [List.length_drop]; omega)]
  · rw [Nat.min_eq_right (by omega), List.drop_of_length_le (Nat.le_refl _), List.drop_of_length_le (by omega), List.take_nil]
theorem cutD_mid (ds : List PyData) (n m : Nat) : cutD ds (some (n : Int)) (some (m : Int)) = (ds.take m).drop n := by
  unfold cutD
  rw [HT.sIx_nat, HT.sIx_nat, List.drop_take]
  by_cases h : m ≤ ds.length
  · rw [Nat.min_eq_left h]
    by_cases h2 : n ≤ ds.length
    · rw [Nat.min_eq_left h2]
    · rw [Nat.min_eq_right (by omega), List.drop_of_length_le (Nat.le_refl _), List.drop_of_length_le (by omega), List.take_nil, List.take_nil]
  · rw [Nat.min_eq_right (by omega)]
    by_cases h2 : n ≤ ds.length
    · rw [Nat.min_eq_left h2, List.take_of_length_le (by rw [List.length_drop]; omega), List.take_of_length_le (by rw [List.length_drop]; omega)]
    · rw [Nat.min_eq_right (by omega), List.drop_of_length_le (Nat.le_refl _), List.drop_of_length_le (by omega), List.take_nil, List.take_nil]
theorem ixN_nat {n : Nat} {i : Int} {k : Nat} (h : i = (k : Int)) (hk : k < n) : ixN n i = some k := by
  subst h
  unfold ixN
  rw [if_pos (by omega), if_pos (by omega), Int.toNat_natCast]

theorem canLay_ints : ∀ ns : List Int, PyData.canLayAll0 (ns.map .int) = true
  | [] => rfl
  | n :: ns => by
    show (PyData.canLay0 (.int n) && PyData.canLayAll0 (ns.map .int)) = true
    rw [canLay_ints ns]
    rfl
theorem depth_ints : ∀ ns : List Int, PyData.depthAll (ns.map .int) = 0
  | [] => rfl
  | n :: ns => by
    show max (PyData.depth (.int n)) (PyData.depthAll (ns.map .int)) = 0
    rw [depth_ints ns]
    rfl
theorem shaped_ints (ns : List Int) : SeqAt.shaped (.list (ns.map .int)) = true := by
  have h1 : PyData.canLay0 (.list (ns.map .int)) = true := canLay_ints ns
  have h2 : PyData.depth (.list (ns.map .int)) ≤ 64 := by
    show PyData.depthAll (ns.map .int) + 1 ≤ 64
    rw [depth_ints]
    decide
  unfold SeqAt.shaped
  rw [h1, decide_eq_true h2]
  rfl
/-! ### fields -/
section
variable {a b m : Str} {x y z : V}
def f1 (a : Str) (x : V) : List (Str × V) := putF a x []
def f2 (a b : Str) (x y : V) : List (Str × V) := putF b y (putF a x [])
theorem f1_1 : (f1 a x).lookup a = some x := by unfold f1; rw [lookup_putF, if_pos rfl]
theorem f1_no (h : ¬ m = a) : (f1 a x).lookup m = none := by unfold f1; rw [lookup_putF, if_neg h]; rfl
theorem f1_put : putF a z (f1 a x) = f1 a z := by
  show (if a = a then [(a, z)] else _) = [(a, z)]
  rw [if_pos rfl]
theorem f2_1 (h : ¬ a = b) : (f2 a b x y).lookup a = some x := by unfold f2; rw [lookup_putF, if_neg h, lookup_putF, if_pos rfl]
theorem f2_2 : (f2 a b x y).lookup b = some y := by unfold f2; rw [lookup_putF, if_pos rfl]
theorem f2_no (h1 : ¬ m = a) (h2 : ¬ m = b) : (f2 a b x y).lookup m = none := by
  unfold f2; rw [lookup_putF, if_neg h2, lookup_putF, if_neg h1]; rfl
theorem f2_eq (h : ¬ a = b) : f2 a b x y = [(a, x), (b, y)] := by
  show (if a = b then [(a, y)] else (a, x) :: putF b y []) = [(a, x), (b, y)]
  rw [if_neg h]; rfl
theorem f2_put1 (h : ¬ a = b) : putF a z (f2 a b x y) = f2 a b z y := by
  rw [f2_eq h, f2_eq h]
  show (if a = a then (a, z) :: [(b, y)] else _) = [(a, z), (b, y)]
  rw [if_pos rfl]
theorem f2_put2 (h : ¬ a = b) : putF b z (f2 a b x y) = f2 a b x z := by
  rw [f2_eq h, f2_eq h]
  show (if a = b then _ else (a, x) :: (if b = b then [(b, z)] else _)) = [(a, x), (b, z)]
  rw [if_neg h, if_pos rfl]
theorem f2_len (h : ¬ a = b) : (f2 a b x y).length = 2 := by rw [f2_eq h]; rfl
end
section
variable {K : PySem.W.Frag} {G0 H0 : Hp} {L : Addr → Prop} {π : List Pin} {ρ : List Sl} {μ : List As} {G H : Hp} {σ : St} {Q : VK} {D : Ends} {te ta tv : TE} {v w : V}
/-- o.f where o is at p -/
def fldW (K : PySem.W.Frag) (f : Str) (Q : VK) (x : V) (H : Hp) : Prop := ∃ a C dx fs v, x = .ref a ∧ H a = some (.ins C dx fs) ∧ Cls K C ∧ NoAttr K C f ∧ fs.lookup f = some v ∧ Q v H
theorem c_fld {f : Str} (h : ta σ H (fldW K f Q)) : tFld K ta f σ H Q := h
theorem c_fldAt {f : Str} {p C dx : Addr} {fs : List (Str × V)} (e : H p = some (.ins C dx fs)) (c : Cls K C) (n : NoAttr K C f) (l : fs.lookup f = some w) (h : Q w H) : fldW K f Q (.ref p) H := ⟨p, C, dx, fs, w, rfl, e, c, n, l, h⟩
/-- o.f = e -/
def setW (K : PySem.W.Frag) (f : Str) (D : Ends) (σ : St) (y : V) (x : V) (H : Hp) : Prop := ∃ a C dx fs, x = .ref a ∧ H a = some (.ins C dx fs) ∧ Cls K C ∧ NoAttr K C f ∧ fs.length < 1000 ∧ D.nx σ (upd H a (.ins C dx (putF f y fs)))
theorem c_sfld {f : Str} (h : tv σ H fun y H1 => ta σ H1 (setW K f D σ y)) : sFld K ta tv f D σ H := h
theorem c_setAt {f : Str} {p C dx : Addr} {fs : List (Str × V)} (S : ST G0 H0 L π ρ (As.raw p (.ins C dx fs) :: μ) G σ H) (c : Cls K C) (n : NoAttr K C f) (l : fs.length < 1000) (k : ∀ H', ST G0 H0 L π ρ (As.raw p (.ins C dx (putF f v fs)) :: μ) G σ H' → D.nx σ H') : setW K f D σ v (.ref p) H := by
  have e : H p = some (.ins C dx fs) := S.head
  obtain ⟨gp, _, _⟩ := S.hfp (b := p) rfl
  refine ⟨p, C, dx, fs, rfl, e, c, n, l, k _ ?_⟩
  exact S.step (Gx.put S.same gp) upd_same fun b q => by cases q; exact ⟨.inl rfl, gp, by rw [upd_same]; exact fun z => nomatch z⟩
/-- o.f += e -/
def augW (K : PySem.W.Frag) (f : Str) (rd : V → V → Hp → VK → Prop) (tv : TE) (D : Ends) (σ : St) (x : V) (H : Hp) : Prop := ∃ a C dx fs v, x = .ref a ∧ H a = some (.ins C dx fs) ∧ Cls K C ∧ NoAttr K C f ∧ fs.lookup f = some v ∧
  tv σ H fun y H2 => rd v y H2 fun z H3 => ∃ dx' fs', H3 a = some (.ins C dx' fs') ∧ fs'.length < 1000 ∧ D.nx σ (upd H3 a (.ins C dx' (putF f z fs')))
/-- o.m(..) -/
def methW (C : Addr) (m : Str) (sp : Sp) (E : XK) (t : TA) (σ : St) (Q : VK) (x : V) (H : Hp) : Prop := ∃ a dx fs, x = .ref a ∧ H a = some (.ins C dx fs) ∧ fs.lookup m = none ∧ t σ H fun vs H2 => sp (x :: vs) H2 Q E
theorem c_meth {C : Addr} {m : Str} {sp : Sp} {E : XK} {t : TA} (h : ta σ H (methW C m sp E t σ Q)) : tMeth C m sp [] E ta t σ H Q := by
  have e : (fun (x : V) (H1 : Hp) => ∃ a dx fs, x = .ref a ∧ H1 a = some (.ins C dx fs) ∧ fs.lookup m = none ∧ t σ H1 fun vs H2 => sp (x :: (vs ++ [])) H2 Q E) = methW C m sp E t σ Q := by
    funext x H1
    unfold methW
    simp only [List.append_nil]
  show ta σ H (fun x H1 => ∃ a dx fs, x = .ref a ∧ H1 a = some (.ins C dx fs) ∧ fs.lookup m = none ∧ t σ H1 fun vs H2 => sp (x :: (vs ++ [])) H2 Q E)
  rw [e]
  exact h
theorem c_methAt {C p dx : Addr} {fs : List (Str × V)} {m : Str} {sp : Sp} {E : XK} {t : TA} (e : H p = some (.ins C dx fs)) (l : fs.lookup m = none) (h : t σ H fun vs H2 => sp (.ref p :: vs) H2 Q E) : methW C m sp E t σ Q (.ref p) H := ⟨p, dx, fs, rfl, e, l, h⟩
/-- C(..) -/
def makeW (C : Addr) (sp : Sp) (E : XK) (Q : VK) (vs : List V) (H : Hp) : Prop := ∀ x dx, H x = none → H dx = none → dx ≠ x → sp (.ref x :: vs) (upd (upd H dx (.own x)) x (.ins C dx [])) (fun v H2 => v = .non ∧ Q (.ref x) H2) E
theorem c_make {C : Addr} {sp : Sp} {E : XK} {t : TA} (h : t σ H (makeW C sp E Q)) : tMake C sp [] E t σ H Q := by
  have e : (fun (vs : List V) (H1 : Hp) => ∀ x dx, H1 x = none → H1 dx = none → dx ≠ x → sp (.ref x :: (vs ++ [])) (upd (upd H1 dx (.own x)) x (.ins C dx [])) (fun v H2 => v = .non ∧ Q (.ref x) H2) E) = makeW C sp E Q := by
    funext vs H1
    unfold makeW
    simp only [List.append_nil]
  show t σ H (fun vs H1 => ∀ x dx, H1 x = none → H1 dx = none → dx ≠ x → sp (.ref x :: (vs ++ [])) (upd (upd H1 dx (.own x)) x (.ins C dx [])) (fun v H2 => v = .non ∧ Q (.ref x) H2) E)
  rw [e]
  exact h
/-- a new object without fields -/
theorem ST.newO (S : ST G0 H0 L π ρ μ G σ H) {C x dx : Addr} (hx : H x = none) (hd : H dx = none) (ne : dx ≠ x) :
    ST G0 H0 L π ρ (As.raw x (.ins C dx []) :: μ) G σ (upd (upd H dx (.own x)) x (.ins C dx [])) ∧ H0 x = none := by
  have g1 : Gr G H G (upd H dx (.own x)) := Gx.new S.same hd
  have S1 := S.grow g1
  have hx1 : (upd H dx (.own x)) x = none := by rw [upd_ne ne.symm]; exact hx
  exact ⟨S1.add (Gx.new S1.same hx1) upd_same fun b e => by cases e; exact ⟨hx1, none_of_same S1.same hx1, by rw [upd_same]; exact fun z => nomatch z⟩, S.new0 hx⟩

/-! ### items that are stored -/
theorem c_augS {o i : TE} {tget : V → V → Hp → VK → Prop} {tip : TIp} {tset : TSet} (h : o σ H fun o H1 => i σ H1 fun i H2 => tget o i H2 fun x H3 => te σ H3 fun y H4 => tip x y H4 fun z H5 => tset o i z H5 fun H6 => D.nx σ H6) : tAugS o i te tget tip tset D σ H := h
theorem c_getL {l : Addr} {xs : List V} {i : Int} {k : Nat} (e : H l = some (.lst xs)) (hi : i = (k : Int)) (hk : xs[k]? = some w) (hs : k < 2 ^ 62) (h : Q w H) : rGetL K (.ref l) (.int i) H Q := by
  subst hi
  exact ⟨l, xs, k, w, rfl, rfl, SqL.of e, by omega, by omega, by rw [Int.toNat_natCast]; exact hk, h⟩
theorem c_setL {l : Addr} {ds : List PyData} {d : PyData} {i : Int} {k : Nat} {Q : Hp → Prop} (S : ST G0 H0 L π ρ (As.lst l ds :: μ) G σ H) (hv : Da G v d) (hi : i = (k : Int)) (hk : k < ds.length) (h : ∀ H', ST G0 H0 L π ρ (As.lst l (ds.set k d) :: μ) G σ H' → Q H') : rSetL (.ref l) (.int i) v H Q := by
  obtain ⟨vs, e, ha⟩ := S.head
  exact ⟨l, vs, i, k, rfl, rfl, e, by rw [da_len ha]; exact ixN_nat hi hk, h _ (S.put (da_set _ ha hv))⟩
theorem c_gsub {o i : TE} {t : TSet} {Q : St → Hp → Prop} (h : o σ H fun o H1 => i σ H1 fun i H2 => t o i v H2 fun H3 => Q σ H3) : gSub o i t v σ H Q := h
/-- unpacking a tuple of two, of three -/
theorem c_gtup2 {d1 d2 : PyData} {gs : TGs} {Q : St → Hp → Prop} (hv : Da G v (.tuple [d1, d2])) (s : Same G H) (k : ∀ v1 v2, Da G v1 d1 → Da G v2 d2 → gs [v1, v2] σ H Q) : gTup K 2 gs v σ H Q :=
  c_gtupD hv s rfl fun xs h => by
    obtain ⟨v1, r, rfl, h1, h⟩ := da_cons h
    obtain ⟨v2, r, rfl, h2, h⟩ := da_cons h
    cases da_nil h
    exact k v1 v2 h1 h2
theorem c_gtup3 {d1 d2 d3 : PyData} {gs : TGs} {Q : St → Hp → Prop} (hv : Da G v (.tuple [d1, d2, d3])) (s : Same G H) (k : ∀ v1 v2 v3, Da G v1 d1 → Da G v2 d2 → Da G v3 d3 → gs [v1, v2, v3] σ H Q) : gTup K 3 gs v σ H Q :=
  c_gtupD hv s rfl fun xs h => by
    obtain ⟨v1, r, rfl, h1, h⟩ := da_cons h
    obtain ⟨v2, r, rfl, h2, h⟩ := da_cons h
    obtain ⟨v3, r, rfl, h3, h⟩ := da_cons h
    cases da_nil h
    exact k v1 v2 v3 h1 h2 h3
theorem c_gtup4 {d1 d2 d3 d4 : PyData} {gs : TGs} {Q : St → Hp → Prop} (hv : Da G v (.tuple [d1, d2, d3, d4])) (s : Same G H) (k : ∀ v1 v2 v3 v4, Da G v1 d1 → Da G v2 d2 → Da G v3 d3 → Da G v4 d4 → gs [v1, v2, v3, v4] σ H Q) : gTup K 4 gs v σ H Q :=
  c_gtupD hv s rfl fun xs h => by
    obtain ⟨v1, r, rfl, h1, h⟩ := da_cons h
    obtain ⟨v2, r, rfl, h2, h⟩ := da_cons h
    obtain ⟨v3, r, rfl, h3, h⟩ := da_cons h
    obtain ⟨v4, r, rfl, h4, h⟩ := da_cons h
    cases da_nil h
    exact k v1 v2 v3 v4 h1 h2 h3 h4

theorem c_gunlD {ds : List PyData} {n : Nat} {gs : TGs} {Q : St → Hp → Prop} (hv : Da G v (.list ds)) (s : Same G H) (hn : ds.length = n) (h : ∀ xs, DaAll G xs ds → gs xs σ H Q) : gUnl K n gs v σ H Q := by
  obtain ⟨a, xs, rfl, e, ha⟩ := da_lst hv
  exact ⟨a, xs, rfl, SqL.of (s _ _ e), by rw [da_len ha]; exact hn, h xs ha⟩
theorem c_gunl2 {d1 d2 : PyData} {gs : TGs} {Q : St → Hp → Prop} (hv : Da G v (.list [d1, d2])) (s : Same G H) (k : ∀ v1 v2, Da G v1 d1 → Da G v2 d2 → gs [v1, v2] σ H Q) : gUnl K 2 gs v σ H Q :=
  c_gunlD hv s rfl fun xs h => by
    obtain ⟨v1, r, rfl, h1, h⟩ := da_cons h
    obtain ⟨v2, r, rfl, h2, h⟩ := da_cons h
    cases da_nil h
    exact k v1 v2 h1 h2
theorem c_gunl3 {d1 d2 d3 : PyData} {gs : TGs} {Q : St → Hp → Prop} (hv : Da G v (.list [d1, d2, d3])) (s : Same G H) (k : ∀ v1 v2 v3, Da G v1 d1 → Da G v2 d2 → Da G v3 d3 → gs [v1, v2, v3] σ H Q) : gUnl K 3 gs v σ H Q :=
  c_gunlD hv s rfl fun xs h => by
    obtain ⟨v1, r, rfl, h1, h⟩ := da_cons h
    obtain ⟨v2, r, rfl, h2, h⟩ := da_cons h
    obtain ⟨v3, r, rfl, h3, h⟩ := da_cons h
    cases da_nil h
    exact k v1 v2 v3 h1 h2 h3
/-! ### what is passed and changed -/
/-- a heaplet that stands -/
def As.at (A : As) (G H : Hp) : Prop := A.ok G H ∧ ∀ b, A.fp b → G b = none ∧ H b ≠ none
theorem ST.at {A : As} (S : ST G0 H0 L π ρ (A :: μ) G σ H) : A.at G H := ⟨S.head, fun b hb => ⟨(S.hfp hb).1, (S.hfp hb).2.1⟩⟩
/-- a call has changed the heaplet ahead -/
theorem ST.called {A A' : As} {G' H' : Hp} (S : ST G0 H0 L π ρ (A :: μ) G σ H) (g : Gx A.fp G H G' H') (h : A'.at G' H') (f : ∀ b, A'.fp b → A.fp b ∨ H b = none) : ST G0 H0 L π ρ (A' :: μ) G' σ H' :=
  S.step g h.1 fun b hb => ⟨f b hb, h.2 b hb⟩
/-- .. two heaplets -/
theorem ST.called2 {A B A' B' : As} {G' H' : Hp} (S : ST G0 H0 L π ρ (A :: B :: μ) G σ H) (g : Gx (fun b => A.fp b ∨ B.fp b) G H G' H') (ha : A'.at G' H') (hb : B'.at G' H') (fa : ∀ b, A'.fp b → (A.fp b ∨ B.fp b) ∨ H b = none) (fb : ∀ b, B'.fp b → (A.fp b ∨ B.fp b) ∨ H b = none) (d : ∀ b, A'.fp b → ¬ B'.fp b) : ST G0 H0 L π ρ (A' :: B' :: μ) G' σ H' := by
  have d1 := List.pairwise_cons.mp S.dj
  have d2 := List.pairwise_cons.mp d1.2
  have old : ∀ c, A.fp c ∨ B.fp c → L c ∨ H0 c = none := fun c z => z.elim (fun z => (S.hfp z).2.2) fun z => (S.fp B (List.mem_cons_of_mem _ (List.mem_cons_self ..)) c z).2.2
  have apart : ∀ a ∈ μ, ∀ c, (A.fp c ∨ B.fp c) ∨ H c = none → ¬ a.fp c := fun a ha c z q => by
    rcases z with (z | z) | z
    · exact d1.1 a (List.mem_cons_of_mem _ ha) c z q
    · exact d2.1 a ha c z q
    · exact (S.fp a (List.mem_cons_of_mem _ (List.mem_cons_of_mem _ ha)) c q).2.1 z
  have new : ∀ c, (A.fp c ∨ B.fp c) ∨ H c = none → L c ∨ H0 c = none := fun c z => z.elim (old c) fun z => .inr (S.new0 z)
  refine ⟨S.gx.then g old, S.env.mono g.g, fun p hp => p.mono g.g (S.pin p hp), fun a h => ?_, fun a h b hb' => ?_, List.pairwise_cons.mpr ⟨fun a h b hb' z => ?_, List.pairwise_cons.mpr ⟨fun a h b hb' z => apart a h b (fb b hb') z, d2.2⟩⟩⟩
  · rcases List.mem_cons.mp h with e | h
    · rw [e]; exact ha.1
    · rcases List.mem_cons.mp h with e | h
      · rw [e]; exact hb.1
      · exact a.gx g (fun b q z => apart a h b (.inl z) q) (S.ok a (List.mem_cons_of_mem _ (List.mem_cons_of_mem _ h)))
  · rcases List.mem_cons.mp h with e | h
    · rw [e] at hb'; exact ⟨(ha.2 b hb').1, (ha.2 b hb').2, new b (fa b hb')⟩
    · rcases List.mem_cons.mp h with e | h
      · rw [e] at hb'; exact ⟨(hb.2 b hb').1, (hb.2 b hb').2, new b (fb b hb')⟩
      · obtain ⟨h1, h2, h3⟩ := S.fp a (List.mem_cons_of_mem _ (List.mem_cons_of_mem _ h)) b hb'
        exact ⟨g.ap b h2 h1, g.dom b h2, h3⟩
  · rcases List.mem_cons.mp h with e | h
    · rw [e] at z; exact d b hb' z
    · exact apart a h b (fa b hb') z
/-- a def's entry where one heaplet is passed -/
theorem ST.start1 {N : List Str} {vs : List V} {ρ : List Sl} {A : As} (s : Same G H) (he : EnvOk G (vs.map some) ρ) (h : A.at G H) : ST G H A.fp [] (ρ ++ List.replicate (N.length - ρ.length) .any) [A] G (L2.start N vs) H :=
  ST.startM s he (fun a ha => by rw [List.mem_singleton.mp ha]; exact h.1) (fun a ha b hb => by
    rw [List.mem_singleton.mp ha] at hb
    exact ⟨(h.2 b hb).1, (h.2 b hb).2, hb⟩) (List.pairwise_singleton _ _)
end

/-! ### draws that change a state -/
def Drawn (ms : List Int) : Prop := ms.length ≤ 3780 ∧ ∀ m ∈ ms, 0 ≤ m ∧ m < 9973
/-- the list of the draws and the place -/
def DrA (s : Addr) : As where
  fp := fun b => b = s
  ok := fun G H => ∃ ms idx, Drawn ms ∧ 0 ≤ idx ∧ (As.lst s [.list (ms.map .int), .int idx]).ok G H
  stays := fun g k ⟨ms, idx, h1, h2, h3⟩ => ⟨ms, idx, h1, h2, (As.lst s _).stays g k h3⟩
def sp_next : Sp := fun vs H Q _ => ∃ (G : Hp) (s : Addr) (lim : Int), vs = [.ref s, .int lim] ∧ 0 < lim ∧ Same G H ∧ (DrA s).at G H ∧
  ∀ r G' H', 0 ≤ r → r < lim → Gx (DrA s).fp G H G' H' → (DrA s).at G' H' → Q (.int r) H'
theorem c_draw {G0 H0 : Hp} {L : Addr → Prop} {π : List Pin} {ρ : List Sl} {μ : List As} {G H : Hp} {σ : St} {Q : VK} {E : XK} {s : Addr} {lim : Int} (S : ST G0 H0 L π ρ (DrA s :: μ) G σ H) (hl : 0 < lim)
    (k : ∀ r G' H', 0 ≤ r → r < lim → ST G0 H0 L π ρ (DrA s :: μ) G' σ H' → Same G G' → Q (.int r) H') : sp_next [.ref s, .int lim] H Q E :=
  ⟨G, s, lim, rfl, hl, S.same, S.at, fun r G' H' h0 h1 g h => k r G' H' h0 h1 (S.called g h fun b hb => .inl hb) g.g⟩
end Hw

namespace K10
open PySem L2 Hw
def top (i : Nat) : Stmt := PySem.Challenge.pw_heapwhole_k10_files_keep_a_beginning.main.body.getD i (.Pass ⟨0, 0, 0, 0⟩)
abbrev s_applied : Stmt := top 1
abbrev n_applied : List Str := ["data", "steps", "result", "name", "number"]
theorem sc_applied : FnScope n_applied ["data", "steps"] (defScope s_applied) := ⟨rfl, rfl, rfl, by decide +kernel, rfl, by decide +kernel, by decide +kernel⟩
def d_applied : He.DefD := ⟨("_applied", none), "_applied", "_applied", defArgs s_applied, defBody s_applied, defScope s_applied, [], []⟩
abbrev s_File_init : Stmt := inClass (top 2) 0
abbrev n_File_init : List Str := ["self"]
theorem sc_File_init : FnScope n_File_init ["self"] (defScope s_File_init) := ⟨rfl, rfl, rfl, by decide +kernel, rfl, by decide +kernel, by decide +kernel⟩
def d_File_init : He.DefD := ⟨("File", some "__init__"), "__init__", "File.__init__", defArgs s_File_init, defBody s_File_init, defScope s_File_init, [], []⟩
abbrev s_File_write : Stmt := inClass (top 2) 1
abbrev n_File_write : List Str := ["self", "data", "steps", "count", "byte"]
theorem sc_File_write : FnScope n_File_write ["self", "data", "steps"] (defScope s_File_write) := ⟨rfl, rfl, rfl, by decide +kernel, rfl, by decide +kernel, by decide +kernel⟩
def d_File_write : He.DefD := ⟨("File", some "write"), "write", "File.write", defArgs s_File_write, defBody s_File_write, defScope s_File_write, [], []⟩
abbrev s_File_shorten : Stmt := inClass (top 2) 2
abbrev n_File_shorten : List Str := ["self", "size", "steps"]
theorem sc_File_shorten : FnScope n_File_shorten ["self", "size", "steps"] (defScope s_File_shorten) := ⟨rfl, rfl, rfl, by decide +kernel, rfl, by decide +kernel, by decide +kernel⟩
def d_File_shorten : He.DefD := ⟨("File", some "shorten"), "shorten", "File.shorten", defArgs s_File_shorten, defBody s_File_shorten, defScope s_File_shorten, [], []⟩
abbrev s_File_flush : Stmt := inClass (top 2) 3
abbrev n_File_flush : List Str := ["self", "steps"]
theorem sc_File_flush : FnScope n_File_flush ["self", "steps"] (defScope s_File_flush) := ⟨rfl, rfl, rfl, by decide +kernel, rfl, by decide +kernel, by decide +kernel⟩
def d_File_flush : He.DefD := ⟨("File", some "flush"), "flush", "File.flush", defArgs s_File_flush, defBody s_File_flush, defScope s_File_flush, [], []⟩
abbrev s_File_content : Stmt := inClass (top 2) 4
abbrev n_File_content : List Str := ["self"]
theorem sc_File_content : FnScope n_File_content ["self"] (defScope s_File_content) := ⟨rfl, rfl, rfl, by decide +kernel, rfl, by decide +kernel, by decide +kernel⟩
def d_File_content : He.DefD := ⟨("File", some "content"), "content", "File.content", defArgs s_File_content, defBody s_File_content, defScope s_File_content, [], []⟩
abbrev s_File_pending : Stmt := inClass (top 2) 5
abbrev n_File_pending : List Str := ["self"]
theorem sc_File_pending : FnScope n_File_pending ["self"] (defScope s_File_pending) := ⟨rfl, rfl, rfl, by decide +kernel, rfl, by decide +kernel, by decide +kernel⟩
def d_File_pending : He.DefD := ⟨("File", some "pending"), "pending", "File.pending", defArgs s_File_pending, defBody s_File_pending, defScope s_File_pending, [], []⟩
abbrev s_File_lose : Stmt := inClass (top 2) 6
abbrev n_File_lose : List Str := ["self", "steps"]
theorem sc_File_lose : FnScope n_File_lose ["self", "steps"] (defScope s_File_lose) := ⟨rfl, rfl, rfl, by decide +kernel, rfl, by decide +kernel, by decide +kernel⟩
def d_File_lose : He.DefD := ⟨("File", some "lose"), "lose", "File.lose", defArgs s_File_lose, defBody s_File_lose, defScope s_File_lose, [], []⟩
abbrev s_l_mix : Stmt := top 4
abbrev n_l_mix : List Str := ["cell", "k", "value"]
theorem sc_l_mix : FnScope n_l_mix ["cell", "k"] (defScope s_l_mix) := ⟨rfl, rfl, rfl, by decide +kernel, rfl, by decide +kernel, by decide +kernel⟩
def d_l_mix : He.DefD := ⟨("_law_mix", none), "_law_mix", "_law_mix", defArgs s_l_mix, defBody s_l_mix, defScope s_l_mix, [], []⟩
abbrev s_l_draws : Stmt := top 5
abbrev n_l_draws : List Str := ["script", "draws", "k", "cell", "place"]
theorem sc_l_draws : FnScope n_l_draws ["script"] (defScope s_l_draws) := ⟨rfl, rfl, rfl, by decide +kernel, rfl, by decide +kernel, by decide +kernel⟩
def d_l_draws : He.DefD := ⟨("_law_draws", none), "_law_draws", "_law_draws", defArgs s_l_draws, defBody s_l_draws, defScope s_l_draws, [], []⟩
abbrev s_l_at : Stmt := top 6
abbrev n_l_at : List Str := ["draws", "index"]
theorem sc_l_at : FnScope n_l_at ["draws", "index"] (defScope s_l_at) := ⟨rfl, rfl, rfl, by decide +kernel, rfl, by decide +kernel, by decide +kernel⟩
def d_l_at : He.DefD := ⟨("_law_at", none), "_law_at", "_law_at", defArgs s_l_at, defBody s_l_at, defScope s_l_at, [], []⟩
abbrev s_l_is_integer : Stmt := top 7
abbrev n_l_is_integer : List Str := ["actual"]
theorem sc_l_is_integer : FnScope n_l_is_integer ["actual"] (defScope s_l_is_integer) := ⟨rfl, rfl, rfl, by decide +kernel, rfl, by decide +kernel, by decide +kernel⟩
def d_l_is_integer : He.DefD := ⟨("_law_is_integer", none), "_law_is_integer", "_law_is_integer", defArgs s_l_is_integer, defBody s_l_is_integer, defScope s_l_is_integer, [], []⟩
abbrev s_l_same : Stmt := top 8
abbrev n_l_same : List Str := ["actual", "expected", "k"]
theorem sc_l_same : FnScope n_l_same ["actual", "expected"] (defScope s_l_same) := ⟨rfl, rfl, rfl, by decide +kernel, rfl, by decide +kernel, by decide +kernel⟩
def d_l_same : He.DefD := ⟨("_law_same", none), "_law_same", "_law_same", defArgs s_l_same, defBody s_l_same, defScope s_l_same, [], []⟩
abbrev s_l_next : Stmt := top 9
abbrev n_l_next : List Str := ["state", "limit"]
theorem sc_l_next : FnScope n_l_next ["state", "limit"] (defScope s_l_next) := ⟨rfl, rfl, rfl, by decide +kernel, rfl, by decide +kernel, by decide +kernel⟩
def d_l_next : He.DefD := ⟨("_law_next", none), "_law_next", "_law_next", defArgs s_l_next, defBody s_l_next, defScope s_l_next, [], []⟩
abbrev s_l_after : Stmt := top 10
abbrev n_l_after : List Str := ["data", "steps", "kind", "number"]
theorem sc_l_after : FnScope n_l_after ["data", "steps"] (defScope s_l_after) := ⟨rfl, rfl, rfl, by decide +kernel, rfl, by decide +kernel, by decide +kernel⟩
def d_l_after : He.DefD := ⟨("_law_after", none), "_law_after", "_law_after", defArgs s_l_after, defBody s_l_after, defScope s_l_after, [], []⟩
abbrev s_l_deed : Stmt := top 11
abbrev n_l_deed : List Str := ["state", "file", "lasting", "steps", "pick", "limit", "data", "k", "count", "passed", "done", "byte", "size"]
theorem sc_l_deed : FnScope n_l_deed ["state", "file", "lasting", "steps"] (defScope s_l_deed) := ⟨rfl, rfl, rfl, by decide +kernel, rfl, by decide +kernel, by decide +kernel⟩
def d_l_deed : He.DefD := ⟨("_law_deed", none), "_law_deed", "_law_deed", defArgs s_l_deed, defBody s_l_deed, defScope s_l_deed, [], []⟩
abbrev s_law : Stmt := top 12
abbrev n_law : List Str := ["script", "state", "file", "lasting", "steps", "other", "still", "k", "right"]
theorem sc_law : FnScope n_law ["script"] (defScope s_law) := ⟨rfl, rfl, rfl, by decide +kernel, rfl, by decide +kernel, by decide +kernel⟩
def d_law : He.DefD := ⟨("law", none), "law", "law", defArgs s_law, defBody s_law, defScope s_law, [], []⟩
def fns : List He.DefD := [d_applied, d_File_init, d_File_write, d_File_shorten, d_File_flush, d_File_content, d_File_pending, d_File_lose, d_l_mix, d_l_draws, d_l_at, d_l_is_integer, d_l_same, d_l_next, d_l_after, d_l_deed, d_law]
def fas : List He.Fa := [.glo "_applied", .meth "File" "write", .meth "File" "shorten", .meth "File" "flush", .meth "File" "content", .meth "File" "pending", .meth "File" "lose", .glo "_law_mix", .glo "_law_draws", .glo "_law_at", .glo "_law_is_integer", .glo "_law_same", .glo "_law_next", .glo "_law_after", .glo "_law_deed", .glo "law", .glo "File", .cls "File", .mkr "File", .noat "File" "_lasting", .noat "File" "_steps", .free "bool", .free "int", .free "isinstance", .free "len", .free "list", .free "min", .free "range", .free "str", .free "tuple"]
structure Tx (K : PySem.W.Frag) (mg : Str → Option Value) : Prop where
  g_applied : mg "_applied" = some (.ref (He.fAd K ("_applied", none)))
  m_File_write : Meth K (He.ga K "File") "write" (He.fAd K ("File", some "write"))
  m_File_shorten : Meth K (He.ga K "File") "shorten" (He.fAd K ("File", some "shorten"))
  m_File_flush : Meth K (He.ga K "File") "flush" (He.fAd K ("File", some "flush"))
  m_File_content : Meth K (He.ga K "File") "content" (He.fAd K ("File", some "content"))
  m_File_pending : Meth K (He.ga K "File") "pending" (He.fAd K ("File", some "pending"))
  m_File_lose : Meth K (He.ga K "File") "lose" (He.fAd K ("File", some "lose"))
  g_l_mix : mg "_law_mix" = some (.ref (He.fAd K ("_law_mix", none)))
  g_l_draws : mg "_law_draws" = some (.ref (He.fAd K ("_law_draws", none)))
  g_l_at : mg "_law_at" = some (.ref (He.fAd K ("_law_at", none)))
  g_l_is_integer : mg "_law_is_integer" = some (.ref (He.fAd K ("_law_is_integer", none)))
  g_l_same : mg "_law_same" = some (.ref (He.fAd K ("_law_same", none)))
  g_l_next : mg "_law_next" = some (.ref (He.fAd K ("_law_next", none)))
  g_l_after : mg "_law_after" = some (.ref (He.fAd K ("_law_after", none)))
  g_l_deed : mg "_law_deed" = some (.ref (He.fAd K ("_law_deed", none)))
  g_law : mg "law" = some (.ref (He.fAd K ("law", none)))
  g_File : mg "File" = some (.ref (He.ga K "File"))
  c_File : Cls K (He.ga K "File")
  k_File : Mk K (He.ga K "File") (He.fAd K ("File", some "__init__"))
  na_File__lasting : NoAttr K (He.ga K "File") "_lasting"
  na_File__steps : NoAttr K (He.ga K "File") "_steps"
  f_bool : mg "bool" = none
  f_int : mg "int" = none
  f_isinstance : mg "isinstance" = none
  f_len : mg "len" = none
  f_list : mg "list" = none
  f_min : mg "min" = none
  f_range : mg "range" = none
  f_str : mg "str" = none
  f_tuple : mg "tuple" = none
theorem tx {K : PySem.W.Frag} {h : Heap} {mg : Str → Option Value} (X : K.In h) (G : h.Ns mainGlobals mg) (c : He.SaysD fas fns K) : Tx K mg :=
  ⟨He.glo_ok X G (c.fact 0), He.meth_ok (c.fact 1), He.meth_ok (c.fact 2), He.meth_ok (c.fact 3), He.meth_ok (c.fact 4), He.meth_ok (c.fact 5), He.meth_ok (c.fact 6), He.glo_ok X G (c.fact 7), He.glo_ok X G (c.fact 8), He.glo_ok X G (c.fact 9), He.glo_ok X G (c.fact 10), He.glo_ok X G (c.fact 11), He.glo_ok X G (c.fact 12), He.glo_ok X G (c.fact 13), He.glo_ok X G (c.fact 14), He.glo_ok X G (c.fact 15), He.glo_ok X G (c.fact 16), He.cls_ok (c.fact 17), He.mkr_ok (c.fact 18), He.noat_ok (c.fact 19), He.noat_ok (c.fact 20), He.free_ok X G (c.fact 21), He.free_ok X G (c.fact 22), He.free_ok X G (c.fact 23), He.free_ok X G (c.fact 24), He.free_ok X G (c.fact 25), He.free_ok X G (c.fact 26), He.free_ok X G (c.fact 27), He.free_ok X G (c.fact 28), He.free_ok X G (c.fact 29)⟩
end K10
namespace K10
open PySem L2 Hw
local macro_rules | `(tactic| walk_at "s1") => `(tactic| (first
  | with_reducible refine c_seq ?_ | with_reducible refine c_asg ?_ | with_reducible refine c_drop ?_ | with_reducible refine c_ret ?_ | with_reducible refine c_if ?_ | with_reducible refine c_next ?_
  | with_reducible refine c_test ?_ | with_reducible refine c_B ?_ | with_reducible refine c_isB ?_ | with_reducible refine c_not ?_ | with_reducible refine c_and ?_ | with_reducible refine c_or ?_
  | with_reducible refine c_andV ?_ | with_reducible refine c_orV ?_ | with_reducible refine c_notV ?_ | with_reducible refine c_ifE ?_
  | with_reducible refine c_cons ?_ | with_reducible refine c_nil ?_ | with_reducible refine c_op ?_ | with_reducible refine c_un ?_ | with_reducible refine c_cb ?_ | with_reducible refine c_call ?_
  | with_reducible refine c_C ?_ | with_reducible refine c_sl ?_ | with_reducible refine c_noPart ?_ | with_reducible refine c_part ?_ | with_reducible refine c_isI ?_
  | with_reducible refine c_for ?_ | with_reducible refine c_iR1 ?_ | with_reducible refine c_iR2 ?_ | with_reducible refine c_iR3 ?_ | with_reducible refine c_iList ?_ | with_reducible refine c_gcons ?_ | with_reducible refine c_gnil ?_
  | with_reducible refine c_lc ?_ | with_reducible refine c_yes ?_ | with_reducible refine c_fld ?_ | with_reducible refine c_sfld ?_ | with_reducible refine c_meth ?_ | with_reducible refine c_make ?_ | with_reducible refine c_augS ?_ | with_reducible refine c_gsub ?_ | with_reducible refine c_ip ?_
  | ((with_reducible refine' c_aug ?S ?h ?_); (case S => assumption); (case h => exact rfl))
  | with_reducible refine c_tup ?_ | with_reducible refine c_lst ?_ | with_reducible refine c_bm ?_ | with_reducible refine c_bm0 ?_
  | ((with_reducible refine' c_var ?S ?h ?_); (case S => assumption); (case h => exact rfl)) | ((with_reducible refine' c_varD ?S ?h (fun v hv => ?_)); (case S => assumption); (case h => exact rfl))
  | ((with_reducible refine' c_setI ?S (fun σ' S => ?_)); (case S => assumption)) | ((with_reducible refine' c_setS ?S (fun σ' S => ?_)); (case S => assumption)) | ((with_reducible refine' c_setB ?S (fun σ' S => ?_)); (case S => assumption)) | ((with_reducible refine' c_setN ?S (fun σ' S => ?_)); (case S => assumption))
  | with_reducible refine c_plusI ?_ | with_reducible refine c_minus ?_ | with_reducible refine c_less ?_ | with_reducible refine c_le ?_ | with_reducible refine c_gt ?_ | with_reducible refine c_ge ?_
  | with_reducible refine c_sameI ?_ | with_reducible refine c_sameS ?_ | with_reducible refine c_sameB ?_ | with_reducible refine c_diffI ?_ | with_reducible refine c_diffS ?_ | with_reducible refine c_diffB ?_
  | with_reducible refine c_isNone ?_ | with_reducible refine c_notNone ?_
  | with_reducible refine c_int ?_ | with_reducible refine c_intB ?_ | with_reducible refine c_min2 ?_ | with_reducible refine c_max2 ?_
  | ((with_reducible refine' c_lenL ?h ?s ?_); (case h => assumption); (case s => exact ST.same (by assumption)))
  | ((with_reducible refine' c_lenT ?h ?s ?_); (case h => assumption); (case s => exact ST.same (by assumption)))
  | ((with_reducible refine c_rem ?h ?_); (case h => decide)) | ((with_reducible refine c_div ?h ?_); (case h => exact ⟨by decide, by decide⟩)) | ((with_reducible refine c_times ?h ?_); (case h => exact .inr ⟨by decide, by decide⟩))))
local macro_rules | `(tactic| walk_at "st") => `(tactic| repeat walk_at "s1")
local macro_rules | `(tactic| walk_at "le") => `(tactic| repeat' (first | exact True.intro | exact SlLe.rfl' | exact SlLe.any' | exact SlLe.int' | exact SlLe.str' | exact SlLe.bl' | exact SlLe.non' | (refine And.intro ?_ ?_)))
local macro_rules | `(tactic| walk_at "da") => `(tactic| repeat' (first | assumption | exact DaAll.nil | exact Da.int _ | exact Da.str _ | exact Da.bl _ | exact Da.non | (with_reducible apply DaAll.cons)))
local macro_rules | `(tactic| walk_at "wp") => `(tactic| repeat (first | (rw [wipe_in (by decide)]) | exact wipe_wipe _ _))
local macro_rules | `(tactic| walk_at "sj") => `(tactic| ((repeat ((fail_if_success (with_reducible show tSeq (tIfS _ _ _) _ _ _ _)); walk_at "s1")); (try (with_reducible show tSeq (tIfS _ _ _) _ _ _ _))))
/-! ### the draws -/
def mixI (cell k : Int) : Int :=
  ((cell * 48271 + k * 69621 + 12345) % 2147483647 * ((cell * 48271 + k * 69621 + 12345) % 2147483647) + k * 40692 + 1) % 2147483399 / 5 % 9973
theorem mixI_lo (c k : Int) : 0 ≤ mixI c k := Int.emod_nonneg _ (by decide)
theorem mixI_hi (c k : Int) : mixI c k < 9973 := Int.emod_lt_of_pos _ (by decide)
def R_mix (ds : List PyData) (d : PyData) : Prop := ∃ cell k : Int, ds = [.int cell, .int k] ∧ d = .int (mixI cell k)
section
variable {P : Program} {w : World} {K : PySem.W.Frag} {mg : Str → Option Value} {base : Heap}
theorem fo_l_mix (T : Tx K mg) {fd : FuncData} (F : FunD K "_law_mix" "_law_mix" (defArgs s_l_mix) (defBody s_l_mix) (defScope s_l_mix) [] [] (He.fAd K ("_law_mix", none)) fd)   : FnOk P w K mg base CX0 1 (He.fAd K ("_law_mix", none)) fd ["cell", "k"] (spP R_mix) := by
  refine F.ok sc_l_mix (fun vs H Q E h => ?len) (fun cdv A outer s H vs Q E hr h => ?read)
  case len =>
    obtain ⟨G, ds, d, _, hd, ⟨cell, k, rfl, _⟩, _⟩ := h
    exact da_len hd
  case read =>
    refine ⟨_, PSs.nox (pss_cons (ps_set (i := 2) sc_l_mix.nd rfl (by first | exact Or.inl rfl | exact Or.inr rfl) (pe_op op_rem (pe_callTy cl_int (by rfl) T.f_int (by decide +kernel) (pa_cons (pe_op op_plus (pe_op op_plus (pe_op op_times (pe_callTy cl_int (by rfl) T.f_int (by decide +kernel) (pa_cons (pv 0) pa_nil)) pe_int) (pe_op op_times (pv 1) pe_int)) pe_int) pa_nil)) pe_int))
      (pss_cons (ps_set (i := 2) sc_l_mix.nd rfl (by first | exact Or.inl rfl | exact Or.inr rfl) (pe_op op_rem (pe_callTy cl_int (by rfl) T.f_int (by decide +kernel) (pa_cons (pe_op op_plus (pe_op op_plus (pe_op op_times (pv 2) (pv 2)) (pe_op op_times (pv 1) pe_int)) pe_int) pa_nil)) pe_int))
      (pss_one (ps_ret (pe_op op_rem (pe_op op_div (pv 2) pe_int) pe_int))))), ?_⟩
    obtain ⟨G, ds, d, s0, hd, ⟨cell, k, rfl, rfl⟩, ret⟩ := h
    have S : ST G H NoL [] [.val (.int cell), .val (.int k), .any] [] G (L2.start n_l_mix vs) H := ST.start (N := n_l_mix) s0 hd
    walk_at "st"
    have h1 : (cell * 48271 + k * 69621 + 12345) % 2147483647 < 2147483647 := Int.emod_lt_of_pos _ (by decide)
    have h2 : 0 ≤ (cell * 48271 + k * 69621 + 12345) % 2147483647 := Int.emod_nonneg _ (by decide)
    refine c_times (.inl ⟨by omega, by omega⟩) ?_
    walk_at "st"
    exact ret_P (by assumption) (.int _) ret
  
  /-- the law's own draws: from the script -/
  def sp_draws (K : PySem.W.Frag) : Sp := fun vs H Q _ => ∃ (G : Hp) (a : Addr) (ns : List Int), vs = [.ref a] ∧ Same G H ∧ SqL K H a (ns.map V.int) ∧ ns.length ≤ 63 ∧
    ∀ v G' H' ms, Gr G H G' H' → Da G' v (.list (ms.map .int)) → Drawn ms → Q v H'
theorem ok_l_mix (T : Tx K mg) (c : He.SaysD fas fns K)  : OkF P w K mg base CX0 ("_law_mix", none) ["cell", "k"] 1 (spP R_mix) := by
  obtain ⟨fd, F⟩ := c.def_ 8 (d := d_l_mix) rfl
  exact ⟨fd, fo_l_mix T F , F.kp, F.bindsN fun _ _ _ _ _ _ us hl => match us, hl with | [_, _], _ => rfl⟩
end
section
variable {P : Program} {w : World} {K : PySem.W.Frag} {mg : Str → Option Value} {base : Heap}
theorem fo_l_draws (T : Tx K mg) {fd : FuncData} (F : FunD K "_law_draws" "_law_draws" (defArgs s_l_draws) (defBody s_l_draws) (defScope s_l_draws) [] [] (He.fAd K ("_law_draws", none)) fd) (h_l_mix : OkF P w K mg base CX0 ("_law_mix", none) ["cell", "k"] 1 (spP R_mix))  : FnOk P w K mg base CX0 2 (He.fAd K ("_law_draws", none)) fd ["script"] (sp_draws K) := by
  obtain ⟨fd_l_mix, G_l_mix, kp_l_mix, b_l_mix⟩ := h_l_mix
  refine F.ok sc_l_draws (fun vs H Q E h => ?len) (fun cdv A outer s H vs Q E hr h => ?read)
  case len =>
    obtain ⟨G, a, ns, rfl, _⟩ := h
    rfl
  case read =>
    refine ⟨_, PSs.nox (pss_cons (ps_set (i := 1) sc_l_draws.nd rfl (by first | exact Or.inl rfl | exact Or.inr rfl) (pe_lst pa_nil))
      (pss_cons (ps_for PassesOwn.never rfl (pi_range1 (by rfl) T.f_range (pa_cons (pe_callB (cl_min2 rfl) (by rfl) T.f_min (by decide +kernel) (pa_cons pe_int (pa_cons (pe_callB cl_len (by rfl) T.f_len (by decide +kernel) (pa_cons (pv 0) pa_nil)) pa_nil))) pa_nil)) (pg_name (i := 2) sc_l_draws.nd rfl (by first | exact Or.inl rfl | exact Or.inr rfl))
      (pss_cons (ps_set (i := 3) sc_l_draws.nd rfl (by first | exact Or.inl rfl | exact Or.inr rfl) (pe_callTy cl_int (by rfl) T.f_int (by decide +kernel) (pa_cons (pe_ix ix_seq (pv 0) (pv 2) (fun _ _ => rfl)) pa_nil)))
      (pss_one (ps_if (pt_cmpR (op_less hr.units0) (pv 3) (pe_op op_power pe_int pe_int) (nomark _)) (pss_one (ps_expr (pe_bm PySem.F.plainAttrs_list PySem.F.slot_list_append PySem.F.type_list_append mt_append (pv 1) (pa_cons (pe_call G_l_mix (hr.mono (by decide)) (by rfl) T.g_l_mix kp_l_mix b_l_mix .nil pass0 (pa_cons (pv 3) (pa_cons (pv 2) pa_nil))) pa_nil)))) (pss_one (ps_for PassesOwn.never rfl (pi_range1 (by rfl) T.f_range (pa_cons pe_int pa_nil)) (pg_name (i := 4) sc_l_draws.nd rfl (by first | exact Or.inl rfl | exact Or.inr rfl))
      (pss_one (ps_if (pt_cmpR op_gtI (pv 3) pe_int (nomark _)) (pss_cons (ps_expr (pe_bm PySem.F.plainAttrs_list PySem.F.slot_list_append PySem.F.type_list_append mt_append (pv 1) (pa_cons (pe_op op_rem (pe_callTy cl_int (by rfl) T.f_int (by decide +kernel) (pa_cons (pv 3) pa_nil)) pe_int) pa_nil)))
      (pss_one (ps_set (i := 3) sc_l_draws.nd rfl (by first | exact Or.inl rfl | exact Or.inr rfl) (pe_op op_div (pv 3) pe_int)))) pss_nil))))))))
      (pss_one (ps_ret (pv 1))))), ?_⟩
    obtain ⟨G, a, ns, rfl, s0, hq, hl, ret⟩ := h
    have S : ST G H NoL [] [.val (.ref a), .any, .any, .any, .any] [] G (L2.start n_l_draws [.ref a]) H := ST.startV (N := n_l_draws) (ρ := [.val (.ref a)]) s0 ⟨rfl, True.intro⟩
    walk_at "st"
    refine c_newL S .nil (Nat.zero_le _) (fun p H1 S p0 g => ?_)
    refine c_set S (fun σ1 S => ?_)
    walk_at "st"
    refine c_lenQ (S.gx.same.seq hq) ?_
    rw [List.length_map]
    walk_at "st"
    refine c_r1 (by split <;> omega) (by split <;> omega) ?_
    refine c_forR (fun i G' σ' H' => ∃ ms : List Int, ST G H NoL [] [.val (.ref a), .val (.ref p), .any, .any, .any] [As.lst p (ms.map .int)] G' σ' H' ∧ ms.length ≤ 60 * i ∧ ∀ m ∈ ms, 0 ≤ m ∧ m < 9973)
      ⟨[], S.le (by walk_at "le"), Nat.zero_le _, fun _ h => nomatch h⟩ ?_ ?_
    · rintro i G' σ' H' hi ⟨ms, S, hml, hm⟩
      have hi2 : i < ns.length := by split at hi <;> omega
      walk_at "st"
      refine c_ixQ (k := i) (w := .int ns[i]) (S.gx.same.seq hq) (by simp [hi2]) (.inl ⟨by omega, by omega⟩) ?_
      walk_at "st"
      refine c_pow ⟨by decide, by decide, by decide⟩ ?_
      walk_at "st"
      refine c_ite (fun _ => ?_) (fun _ => ?_)
      · walk_at "st"
        refine ⟨c_tyM S, ?_⟩
        walk_at "st"
        refine c_callP (by assumption) (by walk_at "da") ⟨_, _, rfl, rfl⟩ (fun v G2 H2 S _ hv => ?_)
        walk_at "st"
        refine c_append S hv (by rw [List.length_map]; exact Nat.lt_of_le_of_lt (show ms.length ≤ 10000 by omega) (by decide)) (fun H3 S => ?_)
        refine ⟨G2, ms ++ [mixI ns[i] (0 + i)], ?_, by rw [List.length_append]; simp; omega, fun m h => ?_⟩
        · rw [List.map_append]
          exact S.le (by walk_at "le")
        · rcases List.mem_append.mp h with h | h
          · exact hm m h
          · rw [List.mem_singleton.mp h]
            exact ⟨mixI_lo _ _, mixI_hi _ _⟩
      · walk_at "st"
        refine c_r1 (by decide) (by decide) ?_
        refine c_forR (fun j G' σ' H' => ∃ (ms : List Int) (z : Int), ST G H NoL [] [.val (.ref a), .val (.ref p), .any, .val (.int z), .any] [As.lst p (ms.map .int)] G' σ' H' ∧ ms.length ≤ 60 * i + j ∧ ∀ m ∈ ms, 0 ≤ m ∧ m < 9973)
          ⟨ms, _, ST.le (by assumption) (by walk_at "le"), hml, hm⟩ ?_ ?_
        · rintro j G' σ' H' hj ⟨ms, z, S, hml, hm⟩
          have hj : j < 60 := hj
          walk_at "st"
          refine c_ite (fun _ => ?_) (fun _ => ?_)
          · walk_at "st"
            refine ⟨c_tyM S, ?_⟩
            walk_at "st"
            refine c_append (by assumption) (.int _) (by rw [List.length_map]; exact Nat.lt_of_le_of_lt (show ms.length ≤ 10000 by omega) (by decide)) (fun H3 S => ?_)
            walk_at "st"
            refine ⟨G', ms ++ [z % 9973], z / 9973, ?_, by rw [List.length_append]; simp; omega, fun m h => ?_⟩
            · rw [List.map_append]
              exact ST.le (by assumption) (by walk_at "le")
            · rcases List.mem_append.mp h with h | h
              · exact hm m h
              · rw [List.mem_singleton.mp h]
                exact ⟨Int.emod_nonneg _ (by decide), Int.emod_lt_of_pos _ (by decide)⟩
          · walk_at "st"
            exact ⟨_, ms, z, ST.le (by assumption) (by walk_at "le"), by omega, hm⟩
        · rintro G' σ' H' ⟨ms, z, S, hml, hm⟩
          have e : (60 : Int).toNat = 60 := rfl
          rw [e] at hml
          exact ⟨_, ms, S.le (by walk_at "le"), by omega, hm⟩
    · rintro G' σ' H' ⟨ms, S, hml, hm⟩
      walk_at "st"
      refine ret_Lf S p0 (fun v G2 H2 g hv => ret v G2 H2 ms g hv ⟨?_, hm⟩)
      refine Nat.le_trans hml ?_
      split <;> omega
  def at_ (ms : List Int) (i : Int) : Int := if i < ms.length then ms.getD i.toNat 0 else if ms.length = 0 then mixI i 77 else mixI (ms.getD (i % ms.length).toNat 0 + i * 131) i
  theorem getD_ok {ms : List Int} (h : ∀ m ∈ ms, 0 ≤ m ∧ m < 9973) {k : Nat} (hk : k < ms.length) : 0 ≤ ms.getD k 0 ∧ ms.getD k 0 < 9973 := by
    have e : ms.getD k 0 = ms[k] := by simp [List.getD, hk]
    rw [e]
    exact h _ (List.getElem_mem hk)
  theorem at_ok {ms : List Int} (h : Drawn ms) {i : Int} (h0 : 0 ≤ i) : 0 ≤ at_ ms i ∧ at_ ms i < 9973 := by
    unfold at_
    split
    · exact getD_ok h.2 (by omega)
    · split
      · exact ⟨mixI_lo _ _, mixI_hi _ _⟩
      · exact ⟨mixI_lo _ _, mixI_hi _ _⟩
  theorem getI {ms : List Int} {k : Nat} (hk : k < ms.length) : (ms.map PyData.int)[k]? = some (.int (ms.getD k 0)) := by
    simp [List.getD, hk]
  def R_at (ds : List PyData) (d : PyData) : Prop := ∃ (ms : List Int) (i : Int), ds = [.list (ms.map .int), .int i] ∧ Drawn ms ∧ 0 ≤ i ∧ d = .int (at_ ms i)
theorem ok_l_draws (T : Tx K mg) (c : He.SaysD fas fns K) (h_l_mix : OkF P w K mg base CX0 ("_law_mix", none) ["cell", "k"] 1 (spP R_mix)) : OkF P w K mg base CX0 ("_law_draws", none) ["script"] 2 (sp_draws K) := by
  obtain ⟨fd, F⟩ := c.def_ 9 (d := d_l_draws) rfl
  exact ⟨fd, fo_l_draws T F h_l_mix, F.kp, F.bindsN fun _ _ _ _ _ _ us hl => match us, hl with | [_], _ => rfl⟩
end
section
variable {P : Program} {w : World} {K : PySem.W.Frag} {mg : Str → Option Value} {base : Heap}
theorem fo_l_at (T : Tx K mg) {fd : FuncData} (F : FunD K "_law_at" "_law_at" (defArgs s_l_at) (defBody s_l_at) (defScope s_l_at) [] [] (He.fAd K ("_law_at", none)) fd) (h_l_mix : OkF P w K mg base CX0 ("_law_mix", none) ["cell", "k"] 1 (spP R_mix))  : FnOk P w K mg base CX0 2 (He.fAd K ("_law_at", none)) fd ["draws", "index"] (spP R_at) := by
  obtain ⟨fd_l_mix, G_l_mix, kp_l_mix, b_l_mix⟩ := h_l_mix
  refine F.ok sc_l_at (fun vs H Q E h => ?len) (fun cdv A outer s H vs Q E hr h => ?read)
  case len =>
    obtain ⟨G, ds, d, _, hd, ⟨ms, i, rfl, _⟩, _⟩ := h
    exact da_len hd
  case read =>
    refine ⟨_, PSs.nox (pss_cons (ps_if (pt_cmpR (op_less hr.units0) (pv 1) (pe_callB cl_len (by rfl) T.f_len (by decide +kernel) (pa_cons (pv 0) pa_nil)) (nomark _)) (pss_one (ps_ret (pe_ix ix_seq (pv 0) (pv 1) (fun _ _ => rfl)))) pss_nil)
      (pss_cons (ps_if (pt_cmpR (op_same hr.units) (pe_callB cl_len (by rfl) T.f_len (by decide +kernel) (pa_cons (pv 0) pa_nil)) pe_int (nomark _)) (pss_one (ps_ret (pe_call G_l_mix (hr.mono (by decide)) (by rfl) T.g_l_mix kp_l_mix b_l_mix .nil pass0 (pa_cons (pv 1) (pa_cons pe_int pa_nil))))) pss_nil)
      (pss_one (ps_ret (pe_call G_l_mix (hr.mono (by decide)) (by rfl) T.g_l_mix kp_l_mix b_l_mix .nil pass0 (pa_cons (pe_op op_plus (pe_ix ix_seq (pv 0) (pe_op op_rem (pe_callTy cl_int (by rfl) T.f_int (by decide +kernel) (pa_cons (pv 1) pa_nil)) (pe_callB cl_len (by rfl) T.f_len (by decide +kernel) (pa_cons (pv 0) pa_nil))) (fun _ _ => rfl)) (pe_op op_times (pv 1) pe_int)) (pa_cons (pv 1) pa_nil))))))), ?_⟩
    obtain ⟨G, ds, d, s0, hd, ⟨ms, i, rfl, hm, h0, rfl⟩, ret⟩ := h
    have S : ST G H NoL [] [.dat (.list (ms.map .int)), .val (.int i)] [] G (L2.start n_l_at vs) H := ST.start (N := n_l_at) s0 hd
    unfold at_ at ret
    walk_at "st"
    rw [List.length_map]
    walk_at "st"
    refine c_ite (fun h1 => ?_) (fun h1 => ?_)
    · rw [if_pos h1] at ret
      walk_at "st"
      refine c_ixL (k := i.toNat) (by assumption) S.same (getI (by omega)) (.inl ⟨h0, rfl⟩) (fun w hw => ?_)
      exact ret_P S hw ret
    · rw [if_neg h1] at ret
      walk_at "st"
      rw [List.length_map]
      refine c_ite (fun h2 => ?_) (fun h2 => ?_)
      · rw [if_pos (by omega)] at ret
        walk_at "st"
        refine c_callP S (by walk_at "da") ⟨_, _, rfl, rfl⟩ (fun v G2 H2 S _ hv => ?_)
        exact ret_P S hv ret
      · rw [if_neg (by omega)] at ret
        walk_at "st"
        rw [List.length_map]
        have hl : 0 < (ms.length : Int) := by omega
        refine c_rem hl ?_
        have h3 := Int.emod_lt_of_pos i hl
        have h4 := Int.emod_nonneg i (show (ms.length : Int) ≠ 0 by omega)
        refine c_ixL (k := (i % ms.length).toNat) (by assumption) S.same (getI (by omega)) (.inl ⟨h4, rfl⟩) (fun w hw => ?_)
        cases hw
        walk_at "st"
        refine c_callP S (by walk_at "da") ⟨_, _, rfl, rfl⟩ (fun v G2 H2 S _ hv => ?_)
        exact ret_P S hv ret
theorem ok_l_at (T : Tx K mg) (c : He.SaysD fas fns K) (h_l_mix : OkF P w K mg base CX0 ("_law_mix", none) ["cell", "k"] 1 (spP R_mix)) : OkF P w K mg base CX0 ("_law_at", none) ["draws", "index"] 2 (spP R_at) := by
  obtain ⟨fd, F⟩ := c.def_ 10 (d := d_l_at) rfl
  exact ⟨fd, fo_l_at T F h_l_mix, F.kp, F.bindsN fun _ _ _ _ _ _ us hl => match us, hl with | [_, _], _ => rfl⟩
end
/-! ### the law's own comparison -/
def R_isint (ds : List PyData) (d : PyData) : Prop := ∃ i, ds = [.int i] ∧ d = .bool true
section
variable {P : Program} {w : World} {K : PySem.W.Frag} {mg : Str → Option Value} {base : Heap}
theorem fo_l_is_integer (T : Tx K mg) {fd : FuncData} (F : FunD K "_law_is_integer" "_law_is_integer" (defArgs s_l_is_integer) (defBody s_l_is_integer) (defScope s_l_is_integer) [] [] (He.fAd K ("_law_is_integer", none)) fd)   : FnOk P w K mg base CX0 1 (He.fAd K ("_law_is_integer", none)) fd ["actual"] (spP R_isint) := by
  refine F.ok sc_l_is_integer (fun vs H Q E h => ?len) (fun cdv A outer s H vs Q E hr h => ?read)
  case len =>
    obtain ⟨G, ds, d, _, hd, ⟨i, rfl, _⟩, _⟩ := h
    exact da_len hd
  case read =>
    refine ⟨_, PSs.nox (pss_one (ps_ret (pe_and (pe_callB cl_isi (by rfl) T.f_isinstance (by decide +kernel) (pa_cons (pv 0) (pa_cons (pe_bltn (v := .ty "int") (by rfl) T.f_int (by decide +kernel) rfl) pa_nil))) (pe_one (pe_not (pe_callB cl_isi (by rfl) T.f_isinstance (by decide +kernel) (pa_cons (pv 0) (pa_cons (pe_bltn (v := .ty "bool") (by rfl) T.f_bool (by decide +kernel) rfl) pa_nil)))))))), ?_⟩
    obtain ⟨G, ds, d, s0, hd, ⟨i, rfl, rfl⟩, ret⟩ := h
    have S : ST G H NoL [] [.val (.int i)] [] G (L2.start n_l_is_integer vs) H := ST.start (N := n_l_is_integer) s0 hd
    walk_at "st"
    refine c_isi (d := .int i) (.int i) S.same (b := true) (by show kitB "int" "int" = _; decide +kernel) ?_
    walk_at "st"
    refine iteT ?_
    walk_at "st"
    refine c_isi (d := .int i) (.int i) S.same (b := false) (by show kitB "int" "bool" = _; decide +kernel) ?_
    walk_at "st"
    exact ret_P S (.bl _) ret
theorem ok_l_is_integer (T : Tx K mg) (c : He.SaysD fas fns K)  : OkF P w K mg base CX0 ("_law_is_integer", none) ["actual"] 1 (spP R_isint) := by
  obtain ⟨fd, F⟩ := c.def_ 11 (d := d_l_is_integer) rfl
  exact ⟨fd, fo_l_is_integer T F , F.kp, F.bindsN fun _ _ _ _ _ _ us hl => match us, hl with | [_], _ => rfl⟩
end
def R_same (n : Nat) (ds : List PyData) (d : PyData) : Prop := ∃ m x, n = m + 1 ∧ ds = [x, x] ∧ fits m x ∧ d = .bool true
abbrev sp_same (n : Nat) : Sp := spP (R_same n)
section
variable {P : Program} {w : World} {K : PySem.W.Frag} {mg : Str → Option Value} {base : Heap}
theorem fo_l_same (T : Tx K mg) {fd : FuncData} (F : FunD K "_law_same" "_law_same" (defArgs s_l_same) (defBody s_l_same) (defScope s_l_same) [] [] (He.fAd K ("_law_same", none)) fd) (h_l_is_integer : OkF P w K mg base CX0 ("_law_is_integer", none) ["actual"] 1 (spP R_isint)) {lv n : Nat} (hb : 1 ≤ lv) (h_l_same : OkF P w K mg base CX0 ("_law_same", none) ["actual", "expected"] lv (sp_same n)) : FnOk P w K mg base CX0 (lv + 1) (He.fAd K ("_law_same", none)) fd ["actual", "expected"] (sp_same (n + 1)) := by
  obtain ⟨fd_l_same, G_l_same, kp_l_same, b_l_same⟩ := h_l_same
  obtain ⟨fd_l_is_integer, G_l_is_integer, kp_l_is_integer, b_l_is_integer⟩ := h_l_is_integer
  refine F.ok sc_l_same (fun vs H Q E h => ?len) (fun cdv A outer s H vs Q E hr h => ?read)
  case len =>
    obtain ⟨G, ds, d, _, hd, ⟨m, x, _, rfl, _⟩, _⟩ := h
    exact da_len hd
  case read =>
    refine ⟨_, PSs.nox (pss_cons (ps_if (pt_val (pe_callB cl_isi (by rfl) T.f_isinstance (by decide +kernel) (pa_cons (pv 1) (pa_cons (pe_tup (pa_cons (pe_bltn (v := .ty "list") (by rfl) T.f_list (by decide +kernel) rfl) (pa_cons (pe_bltn (v := .ty "tuple") (by rfl) T.f_tuple (by decide +kernel) rfl) pa_nil))) pa_nil)))) (pss_cons (ps_if (PW.pt (pw_or (pt_cmpR (op_diff hr.units) (pe_callB cl_isi (by rfl) T.f_isinstance (by decide +kernel) (pa_cons (pv 1) (pa_cons (pe_bltn (v := .ty "list") (by rfl) T.f_list (by decide +kernel) rfl) pa_nil))) (pe_callB cl_isi (by rfl) T.f_isinstance (by decide +kernel) (pa_cons (pv 0) (pa_cons (pe_bltn (v := .ty "list") (by rfl) T.f_list (by decide +kernel) rfl) pa_nil))) (nomark _)) (pw_or1 (pt_cmpR (op_diff hr.units) (pe_callB cl_isi (by rfl) T.f_isinstance (by decide +kernel) (pa_cons (pv 1) (pa_cons (pe_bltn (v := .ty "tuple") (by rfl) T.f_tuple (by decide +kernel) rfl) pa_nil))) (pe_callB cl_isi (by rfl) T.f_isinstance (by decide +kernel) (pa_cons (pv 0) (pa_cons (pe_bltn (v := .ty "tuple") (by rfl) T.f_tuple (by decide +kernel) rfl) pa_nil))) (nomark _))))) (pss_one (ps_ret pe_bl)) pss_nil)
      (pss_cons (ps_if (pt_cmpR (op_diff hr.units) (pe_callB cl_len (by rfl) T.f_len (by decide +kernel) (pa_cons (pv 0) pa_nil)) (pe_callB cl_len (by rfl) T.f_len (by decide +kernel) (pa_cons (pv 1) pa_nil)) (nomark _)) (pss_one (ps_ret pe_bl)) pss_nil)
      (pss_cons (ps_for PassesOwn.never rfl (pi_range1 (by rfl) T.f_range (pa_cons (pe_callB cl_len (by rfl) T.f_len (by decide +kernel) (pa_cons (pv 1) pa_nil)) pa_nil)) (pg_name (i := 2) sc_l_same.nd rfl (by first | exact Or.inl rfl | exact Or.inr rfl))
      (pss_one (ps_if (pt_not (pt_val (pe_call G_l_same (hr.mono (by omega)) (by rfl) T.g_l_same kp_l_same b_l_same .nil pass0 (pa_cons (pe_ix ix_seq (pv 0) (pv 2) (fun _ _ => rfl)) (pa_cons (pe_ix ix_seq (pv 1) (pv 2) (fun _ _ => rfl)) pa_nil))))) (pss_one (ps_ret pe_bl)) pss_nil)))
      (pss_one (ps_ret pe_bl))))) pss_nil)
      (pss_cons (ps_if (pt_cmpR op_isNone (pv 1) pe_non (nomark _)) (pss_one (ps_ret (pe_cmpR op_isNone (pv 0) pe_non (nomark _)))) pss_nil)
      (pss_cons (ps_if (pt_val (pe_callB cl_isi (by rfl) T.f_isinstance (by decide +kernel) (pa_cons (pv 1) (pa_cons (pe_bltn (v := .ty "bool") (by rfl) T.f_bool (by decide +kernel) rfl) pa_nil)))) (pss_one (ps_ret (pe_and (pe_callB cl_isi (by rfl) T.f_isinstance (by decide +kernel) (pa_cons (pv 0) (pa_cons (pe_bltn (v := .ty "bool") (by rfl) T.f_bool (by decide +kernel) rfl) pa_nil))) (pe_one (pe_cmpR (op_same hr.units) (pv 0) (pv 1) (nomark _)))))) pss_nil)
      (pss_cons (ps_if (pt_val (pe_callB cl_isi (by rfl) T.f_isinstance (by decide +kernel) (pa_cons (pv 1) (pa_cons (pe_bltn (v := .ty "int") (by rfl) T.f_int (by decide +kernel) rfl) pa_nil)))) (pss_one (ps_ret (pe_and (pe_call G_l_is_integer (hr.mono (by omega)) (by rfl) T.g_l_is_integer kp_l_is_integer b_l_is_integer .nil pass0 (pa_cons (pv 0) pa_nil)) (pe_one (pe_cmpR (op_same hr.units) (pv 0) (pv 1) (nomark _)))))) pss_nil)
      (pss_one (ps_ret (pe_and (pe_callB cl_isi (by rfl) T.f_isinstance (by decide +kernel) (pa_cons (pv 0) (pa_cons (pe_bltn (v := .ty "str") (by rfl) T.f_str (by decide +kernel) rfl) pa_nil))) (pe_one (pe_cmpR (op_same hr.units) (pv 0) (pv 1) (nomark _)))))))))), ?_⟩
    obtain ⟨G, ds, d, s0, hd, ⟨m, x, hn, rfl, hf, rfl⟩, ret⟩ := h
    obtain rfl : n = m := by omega
    cases x with
    | dict kvs => cases n <;> exact hf.elim
    | none =>
      have S : ST G H NoL [] [.val .non, .val .non, .any] [] G (L2.start n_l_same vs) H := ST.start (N := n_l_same) s0 hd
      walk_at "st"
      refine c_mkRaw S (by decide) (fun p H1 S g e => ?_)
      walk_at "st"
      refine c_isi2 (d := .none) .non S.same e (b1 := false) (b2 := false) (by decide +kernel) (by decide +kernel) ?_
      walk_at "st"
      refine iteF ?_
      walk_at "st"
      refine c_ite (fun _ => ?_) (fun h => absurd rfl h)
      walk_at "st"
      exact ret_P S (.bl true) ret
    | bool b =>
      have S : ST G H NoL [] [.val (.bl b), .val (.bl b), .any] [] G (L2.start n_l_same vs) H := ST.start (N := n_l_same) s0 hd
      walk_at "st"
      refine c_mkRaw S (by decide) (fun p H1 S g e => ?_)
      walk_at "st"
      refine c_isi2 (d := .bool b) (.bl b) S.same e (b1 := false) (b2 := false) (by show kitB "bool" "list" = _; decide +kernel) (by show kitB "bool" "tuple" = _; decide +kernel) ?_
      walk_at "st"
      refine iteF ?_
      walk_at "st"
      refine c_ite (fun h => nomatch h) (fun _ => ?_)
      walk_at "st"
      refine c_isi (d := .bool b) (.bl b) S.same (b := true) (by show kitB "bool" "bool" = _; decide +kernel) ?_
      walk_at "st"
      refine iteT ?_
      walk_at "st"
      refine c_isi (d := .bool b) (.bl b) S.same (b := true) (by show kitB "bool" "bool" = _; decide +kernel) ?_
      walk_at "st"
      refine iteT ?_
      walk_at "st"
      rw [decide_eq_true rfl]
      exact ret_P S (.bl true) ret
    | int i =>
      have S : ST G H NoL [] [.val (.int i), .val (.int i), .any] [] G (L2.start n_l_same vs) H := ST.start (N := n_l_same) s0 hd
      walk_at "st"
      refine c_mkRaw S (by decide) (fun p H1 S g e => ?_)
      walk_at "st"
      refine c_isi2 (d := .int i) (.int i) S.same e (b1 := false) (b2 := false) (by show kitB "int" "list" = _; decide +kernel) (by show kitB "int" "tuple" = _; decide +kernel) ?_
      walk_at "st"
      refine iteF ?_
      walk_at "st"
      refine c_ite (fun h => nomatch h) (fun _ => ?_)
      walk_at "st"
      refine c_isi (d := .int i) (.int i) S.same (b := false) (by show kitB "int" "bool" = _; decide +kernel) ?_
      walk_at "st"
      refine iteF ?_
      walk_at "st"
      refine c_isi (d := .int i) (.int i) S.same (b := true) (by show kitB "int" "int" = _; decide +kernel) ?_
      walk_at "st"
      refine iteT ?_
      walk_at "st"
      refine c_callP S (by walk_at "da") ⟨_, rfl, rfl⟩ (fun v G2 H2 S _ hv => ?_)
      cases hv
      walk_at "st"
      refine iteT ?_
      walk_at "st"
      rw [decide_eq_true rfl]
      exact ret_P S (.bl true) ret
    | str z =>
      have S : ST G H NoL [] [.val (.str z), .val (.str z), .any] [] G (L2.start n_l_same vs) H := ST.start (N := n_l_same) s0 hd
      walk_at "st"
      refine c_mkRaw S (by decide) (fun p H1 S g e => ?_)
      walk_at "st"
      refine c_isi2 (d := .str z) (.str z) S.same e (b1 := false) (b2 := false) (by show kitB "str" "list" = _; decide +kernel) (by show kitB "str" "tuple" = _; decide +kernel) ?_
      walk_at "st"
      refine iteF ?_
      walk_at "st"
      refine c_ite (fun h => nomatch h) (fun _ => ?_)
      walk_at "st"
      refine c_isi (d := .str z) (.str z) S.same (b := false) (by show kitB "str" "bool" = _; decide +kernel) ?_
      walk_at "st"
      refine iteF ?_
      walk_at "st"
      refine c_isi (d := .str z) (.str z) S.same (b := false) (by show kitB "str" "int" = _; decide +kernel) ?_
      walk_at "st"
      refine iteF ?_
      walk_at "st"
      refine c_isi (d := .str z) (.str z) S.same (b := true) (by show kitB "str" "str" = _; decide +kernel) ?_
      walk_at "st"
      refine iteT ?_
      walk_at "st"
      rw [decide_eq_true rfl]
      exact ret_P S (.bl true) ret
    | list xs =>
      have S : ST G H NoL [] [.dat (.list xs), .dat (.list xs), .any] [] G (L2.start n_l_same vs) H := ST.start (N := n_l_same) s0 hd
      walk_at "st"
      refine c_mkRaw S (by decide) (fun p H1 S g e => ?_)
      walk_at "st"
      refine c_isi2 (d := .list xs) (by assumption) S.same e (b1 := true) (b2 := false) (by show kitB "list" "list" = _; decide +kernel) (by show kitB "list" "tuple" = _; decide +kernel) ?_
      walk_at "st"
      refine iteT ?_
      walk_at "st"
      refine c_isi (d := .list xs) (by assumption) S.same (b := true) (by show kitB "list" "list" = _; decide +kernel) ?_
      walk_at "st"
      refine c_isi (d := .list xs) (by assumption) S.same (b := true) (by show kitB "list" "list" = _; decide +kernel) ?_
      walk_at "st"
      refine c_iteN (fun h => absurd rfl h) (fun _ => ?_)
      walk_at "st"
      refine c_isi (d := .list xs) (by assumption) S.same (b := false) (by show kitB "list" "tuple" = _; decide +kernel) ?_
      walk_at "st"
      refine c_isi (d := .list xs) (by assumption) S.same (b := false) (by show kitB "list" "tuple" = _; decide +kernel) ?_
      walk_at "st"
      refine c_iteN (fun h => absurd rfl h) (fun _ => ?_)
      walk_at "st"
      refine c_iteN (fun h => absurd rfl h) (fun _ => ?_)
      walk_at "st"
      cases n with
      | zero => exact hf.elim
      | succ n =>
      have hl : xs.length < 2 ^ 60 := hf.1
      refine c_r1 (by omega) (by omega) ?_
      refine c_forR (fun i G' σ' H' => ST G H NoL [] [.dat (.list xs), .dat (.list xs), .any] [] G' σ' H') S ?_ ?_
      · rintro i G' σ' H' hi S
        have hi : i < xs.length := by omega
        walk_at "st"
        refine c_ixL (k := i) (by assumption) (ST.same (by assumption)) (show xs[i]? = some xs[i] by simp [hi]) (.inl ⟨by omega, by omega⟩) (fun u hu => ?_)
        walk_at "st"
        refine c_ixL (k := i) (by assumption) (ST.same (by assumption)) (show xs[i]? = some xs[i] by simp [hi]) (.inl ⟨by omega, by omega⟩) (fun u2 hu2 => ?_)
        walk_at "st"
        refine c_callP (by assumption) (by walk_at "da") ⟨n, _, rfl, rfl, hf.2 _ (List.getElem_mem hi), rfl⟩ (fun v G2 H2 S _ hv => ?_)
        cases hv
        walk_at "st"
        refine iteF ?_
        walk_at "st"
        exact ⟨_, S.le (by walk_at "le")⟩
      · intro G' σ' H' S
        walk_at "st"
        exact ret_P S (.bl true) ret
    | tuple xs =>
      have S : ST G H NoL [] [.dat (.tuple xs), .dat (.tuple xs), .any] [] G (L2.start n_l_same vs) H := ST.start (N := n_l_same) s0 hd
      walk_at "st"
      refine c_mkRaw S (by decide) (fun p H1 S g e => ?_)
      walk_at "st"
      refine c_isi2 (d := .tuple xs) (by assumption) S.same e (b1 := false) (b2 := true) (by show kitB "tuple" "list" = _; decide +kernel) (by show kitB "tuple" "tuple" = _; decide +kernel) ?_
      walk_at "st"
      refine iteT ?_
      walk_at "st"
      refine c_isi (d := .tuple xs) (by assumption) S.same (b := false) (by show kitB "tuple" "list" = _; decide +kernel) ?_
      walk_at "st"
      refine c_isi (d := .tuple xs) (by assumption) S.same (b := false) (by show kitB "tuple" "list" = _; decide +kernel) ?_
      walk_at "st"
      refine c_iteN (fun h => absurd rfl h) (fun _ => ?_)
      walk_at "st"
      refine c_isi (d := .tuple xs) (by assumption) S.same (b := true) (by show kitB "tuple" "tuple" = _; decide +kernel) ?_
      walk_at "st"
      refine c_isi (d := .tuple xs) (by assumption) S.same (b := true) (by show kitB "tuple" "tuple" = _; decide +kernel) ?_
      walk_at "st"
      refine c_iteN (fun h => absurd rfl h) (fun _ => ?_)
      walk_at "st"
      refine c_iteN (fun h => absurd rfl h) (fun _ => ?_)
      walk_at "st"
      cases n with
      | zero => exact hf.elim
      | succ n =>
      have hl : xs.length < 2 ^ 60 := hf.1
      refine c_r1 (by omega) (by omega) ?_
      refine c_forR (fun i G' σ' H' => ST G H NoL [] [.dat (.tuple xs), .dat (.tuple xs), .any] [] G' σ' H') S ?_ ?_
      · rintro i G' σ' H' hi S
        have hi : i < xs.length := by omega
        walk_at "st"
        refine c_ixT (k := i) (by assumption) (ST.same (by assumption)) (show xs[i]? = some xs[i] by simp [hi]) (.inl ⟨by omega, by omega⟩) (fun u hu => ?_)
        walk_at "st"
        refine c_ixT (k := i) (by assumption) (ST.same (by assumption)) (show xs[i]? = some xs[i] by simp [hi]) (.inl ⟨by omega, by omega⟩) (fun u2 hu2 => ?_)
        walk_at "st"
        refine c_callP (by assumption) (by walk_at "da") ⟨n, _, rfl, rfl, hf.2 _ (List.getElem_mem hi), rfl⟩ (fun v G2 H2 S _ hv => ?_)
        cases hv
        walk_at "st"
        refine iteF ?_
        walk_at "st"
        exact ⟨_, S.le (by walk_at "le")⟩
      · intro G' σ' H' S
        walk_at "st"
        exact ret_P S (.bl true) ret
theorem ok_l_same (T : Tx K mg) (c : He.SaysD fas fns K) (h_l_is_integer : OkF P w K mg base CX0 ("_law_is_integer", none) ["actual"] 1 (spP R_isint)) : ∀ n : Nat, OkF P w K mg base CX0 ("_law_same", none) ["actual", "expected"] (1 + n) (sp_same n)
  | 0 => by
    obtain ⟨fd, F⟩ := c.def_ 12 (d := d_l_same) rfl
    exact ⟨fd, fn_never (by intro vs H Q E ⟨_, _, _, _, _, ⟨_, _, e, _⟩, _⟩; cases e), F.kp, F.bindsN fun _ _ _ _ _ _ us hl => match us, hl with | [_, _], _ => rfl⟩
  | n + 1 => by
    obtain ⟨fd, F⟩ := c.def_ 12 (d := d_l_same) rfl
    exact ⟨fd, fo_l_same T F h_l_is_integer (Nat.le_add_right _ _) (ok_l_same T c h_l_is_integer n), F.kp, F.bindsN fun _ _ _ _ _ _ us hl => match us, hl with | [_, _], _ => rfl⟩
end
section
variable {P : Program} {w : World} {K : PySem.W.Frag} {mg : Str → Option Value} {base : Heap}
theorem fo_l_next (T : Tx K mg) {fd : FuncData} (F : FunD K "_law_next" "_law_next" (defArgs s_l_next) (defBody s_l_next) (defScope s_l_next) [] [] (He.fAd K ("_law_next", none)) fd) (h_l_at : OkF P w K mg base CX0 ("_law_at", none) ["draws", "index"] 2 (spP R_at))  : FnOk P w K mg base CX0 3 (He.fAd K ("_law_next", none)) fd ["state", "limit"] sp_next := by
  obtain ⟨fd_l_at, G_l_at, kp_l_at, b_l_at⟩ := h_l_at
  refine F.ok sc_l_next (fun vs H Q E h => ?len) (fun cdv A outer s H vs Q E hr h => ?read)
  case len =>
    obtain ⟨G, s, lim, rfl, _⟩ := h
    rfl
  case read =>
    refine ⟨_, PSs.nox (pss_cons (ps_augS (pv 0) pe_int get_list pe_int ip_add set_list)
      (pss_one (ps_ret (pe_op op_rem (pe_call G_l_at (hr.mono (by decide)) (by rfl) T.g_l_at kp_l_at b_l_at .nil pass0 (pa_cons (pe_ix ix_seq (pv 0) pe_int (fun _ _ => rfl)) (pa_cons (pe_ix ix_seq (pv 0) pe_int (fun _ _ => rfl)) pa_nil))) (pv 1))))), ?_⟩
    obtain ⟨G, s, lim, rfl, hl, s0, hA, ret⟩ := h
    obtain ⟨⟨ms, idx, hm, h0, hs⟩, hf⟩ := hA
    have S : ST G H (DrA s).fp [] [.val (.ref s), .val (.int lim)] [As.lst s [.list (ms.map .int), .int idx]] G (L2.start n_l_next [.ref s, .int lim]) H :=
      ST.start1 (N := n_l_next) (ρ := [.val (.ref s), .val (.int lim)]) (A := As.lst s [.list (ms.map .int), .int idx]) s0 ⟨rfl, rfl, True.intro⟩ ⟨hs, hf⟩
    obtain ⟨xs, e, hx⟩ := S.head
    obtain ⟨v1, r, rfl, h1, hx⟩ := da_cons hx
    obtain ⟨v2, r, rfl, h2, hx⟩ := da_cons hx
    cases da_nil hx
    cases h2
    walk_at "st"
    refine c_getL (k := 1) e rfl rfl (by decide) ?_
    walk_at "st"
    refine c_setL (k := 1) S (.int _) rfl (Nat.lt_succ_self 1) (fun H1 S => ?_)
    obtain ⟨xs, e, hx⟩ := S.head
    obtain ⟨v1, r, rfl, h1, hx⟩ := da_cons hx
    obtain ⟨v2, r, rfl, h2, hx⟩ := da_cons hx
    cases da_nil hx
    cases h2
    walk_at "st"
    refine c_ixM (k := 0) e rfl (.inl ⟨by decide, rfl⟩) ?_
    walk_at "st"
    refine c_ixM (k := 1) e rfl (.inl ⟨by decide, rfl⟩) ?_
    walk_at "st"
    refine c_callP S (by walk_at "da") ⟨ms, _, rfl, hm, by omega, rfl⟩ (fun v G2 H2 S _ hv => ?_)
    cases hv
    walk_at "st"
    refine c_rem hl ?_
    refine ret _ _ _ (Int.emod_nonneg _ (by omega)) (Int.emod_lt_of_pos _ hl) S.gx ⟨⟨ms, idx + 1, hm, by omega, S.head⟩, fun b hb => ⟨(S.hfp hb).1, (S.hfp hb).2.1⟩⟩
theorem ok_l_next (T : Tx K mg) (c : He.SaysD fas fns K) (h_l_at : OkF P w K mg base CX0 ("_law_at", none) ["draws", "index"] 2 (spP R_at)) : OkF P w K mg base CX0 ("_law_next", none) ["state", "limit"] 3 sp_next := by
  obtain ⟨fd, F⟩ := c.def_ 13 (d := d_l_next) rfl
  exact ⟨fd, fo_l_next T F h_l_at, F.kp, F.bindsN fun _ _ _ _ _ _ us hl => match us, hl with | [_, _], _ => rfl⟩
end
/-! ### files -/
inductive Stp where
  | app (b : Int) | cut (n : Nat)
def fD : Stp → PyData
  | .app b => .tuple [.str "append", .int b]
  | .cut n => .tuple [.str "truncate", .int n]
def lD : Stp → PyData
  | .app b => .tuple [.int 0, .int b]
  | .cut n => .tuple [.int 1, .int n]
def run1 (d : List Int) : Stp → List Int
  | .app b => d ++ [b]
  | .cut n => d.take n
def runs (d : List Int) (ss : List Stp) : List Int := ss.foldl run1 d
theorem run1_len (d : List Int) (s : Stp) : (run1 d s).length ≤ d.length + 1 := by
  cases s with
  | app b => show (d ++ [b]).length ≤ _; simp
  | cut n => show (d.take n).length ≤ _; rw [List.length_take]; omega
theorem runs_len : ∀ (ss : List Stp) (d : List Int), (runs d ss).length ≤ d.length + ss.length
  | [], d => by show d.length ≤ d.length + 0; omega
  | s :: ss, d => by
    have h1 := runs_len ss (run1 d s)
    have h2 := run1_len d s
    show (runs (run1 d s) ss).length ≤ d.length + (ss.length + 1)
    omega
theorem runs_snoc (d : List Int) (ss : List Stp) (s : Stp) : runs d (ss ++ [s]) = run1 (runs d ss) s := by
  unfold runs
  rw [List.foldl_append]
  rfl
theorem runs_take {d : List Int} {ss : List Stp} {i : Nat} {s : Stp} (h : ss[i]? = some s) : runs d (ss.take (i + 1)) = run1 (runs d (ss.take i)) s := by
  rw [List.take_add_one, h]
  exact runs_snoc d _ s
def R_steps (f : Stp → PyData) (ds es : List PyData) : Prop := ∃ (la : List Int) (ss : List Stp), ds = [.list (la.map .int), .list (ss.map f)] ∧ la.length + ss.length ≤ 1000000 ∧ es = (runs la ss).map .int
theorem sz_int {n : Nat} (h : n ≤ 1000000) : n < sizeLine := Nat.lt_of_le_of_lt h (by decide)
section
variable {P : Program} {w : World} {K : PySem.W.Frag} {mg : Str → Option Value} {base : Heap}
theorem fo_applied (T : Tx K mg) {fd : FuncData} (F : FunD K "_applied" "_applied" (defArgs s_applied) (defBody s_applied) (defScope s_applied) [] [] (He.fAd K ("_applied", none)) fd)   : FnOk P w K mg base CX0 1 (He.fAd K ("_applied", none)) fd ["data", "steps"] (spL (R_steps fD)) := by
  refine F.ok sc_applied (fun vs H Q E h => ?len) (fun cdv A outer s H vs Q E hr h => ?read)
  case len =>
    obtain ⟨G, ds, d, _, hd, ⟨la, ss, rfl, _⟩, _⟩ := h
    exact da_len hd
  case read =>
    refine ⟨_, PSs.nox (pss_cons (ps_set (i := 2) sc_applied.nd rfl (by first | exact Or.inl rfl | exact Or.inr rfl) (pe_callTy cl_list (by rfl) T.f_list (by decide +kernel) (pa_cons (pv 0) pa_nil)))
      (pss_cons (ps_for PassesOwn.never rfl (pi_list (pv 1)) (pg_tup rfl (pgs_cons (pg_name (i := 3) sc_applied.nd rfl (by first | exact Or.inl rfl | exact Or.inr rfl)) (pgs_cons (pg_name (i := 4) sc_applied.nd rfl (by first | exact Or.inl rfl | exact Or.inr rfl)) pgs_nil)))
      (pss_one (ps_if (pt_cmpR (op_same hr.units) (pv 3) pe_str (nomark _)) (pss_one (ps_expr (pe_bm PySem.F.plainAttrs_list PySem.F.slot_list_append PySem.F.type_list_append mt_append (pv 2) (pa_cons (pv 4) pa_nil)))) (pss_one (ps_set (i := 2) sc_applied.nd rfl (by first | exact Or.inl rfl | exact Or.inr rfl) (pe_slice sl_any (pv 2) po_none (po_some (pv 4))))))))
      (pss_one (ps_ret (pv 2))))), ?_⟩
    obtain ⟨G, ds, d, s0, hd, ⟨la, ss, rfl, hl, rfl⟩, ret⟩ := h
    have S : ST G H NoL [] [.dat (.list (la.map .int)), .dat (.list (ss.map fD)), .any, .any, .any] [] G (L2.start n_applied vs) H := ST.start (N := n_applied) s0 hd
    walk_at "st"
    refine c_listL (by assumption) S (fun p H1 S p0 _ => ?_)
    refine c_set S (fun σ1 S => ?_)
    walk_at "st"
    rename_i u hu
    refine c_forL (fun i G' σ' H' => ∃ p, H p = none ∧ ST G H NoL [pD u (.list (ss.map fD))] [.any, .any, .val (.ref p), .any, .any] [As.lst p ((runs la (ss.take i)).map .int)] G' σ' H') hu
      ⟨p, p0, (S.pinned hu).le (by walk_at "le")⟩ (fun i G' σ' H' ⟨p, _, S⟩ => ⟨S.pin0, S.same⟩) ?_ ?_
    · rintro i d y G' σ' H' hd hy ⟨p, p0, S⟩
      rw [List.getElem?_map] at hd
      cases es : ss[i]? with
      | none => rw [es] at hd; cases hd
      | some s =>
        rw [es] at hd
        obtain rfl : fD s = d := Option.some.inj hd
        have hi : i < ss.length := (List.getElem?_eq_some_iff.mp es).1
        have hlen : (runs la (ss.take i)).length ≤ 1000000 := by
          have := runs_len (ss.take i) la
          rw [List.length_take] at this
          omega
        cases s with
        | app b =>
          refine c_gtup2 hy S.same (fun v1 v2 h1 h2 => ?_)
          cases h1
          cases h2
          walk_at "st"
          refine c_ite (fun _ => ?_) (fun h => absurd rfl h)
          walk_at "st"
          refine ⟨c_tyM (by assumption), ?_⟩
          walk_at "st"
          refine c_append (by assumption) (.int b) (by rw [List.length_map]; exact sz_int hlen) (fun H2 S => ?_)
          refine ⟨G', p, p0, ?_⟩
          rw [runs_take es]
          show ST _ _ _ _ _ [As.lst p ((runs la (ss.take i) ++ [b]).map .int)] _ _ _
          rw [List.map_append]
          exact S.le (by walk_at "le")
        | cut n =>
          refine c_gtup2 hy S.same (fun v1 v2 h1 h2 => ?_)
          cases h1
          cases h2
          walk_at "st"
          refine c_ite (fun h => absurd h (by decide +kernel)) (fun _ => ?_)
          walk_at "st"
          rename_i S _
          obtain ⟨xs, e, hx⟩ := S.head
          refine c_slMm e hx S (fun q H2 S q0 _ => ?_)
          refine c_set S (fun σ2 S => ?_)
          refine ⟨G', q, q0, ?_⟩
          rw [runs_take es]
          show ST _ _ _ _ _ [As.lst q (((runs la (ss.take i)).take n).map .int)] _ _ _
          rw [List.map_take, ← cutD_to]
          exact S.swap.drop.le (by walk_at "le")
    · rintro G' σ' H' ⟨p, p0, S⟩
      walk_at "st"
      rw [List.length_map, List.take_length] at S
      exact ret_L S p0 ret
theorem ok_applied (T : Tx K mg) (c : He.SaysD fas fns K)  : OkF P w K mg base CX0 ("_applied", none) ["data", "steps"] 1 (spL (R_steps fD)) := by
  obtain ⟨fd, F⟩ := c.def_ 0 (d := d_applied) rfl
  exact ⟨fd, fo_applied T F , F.kp, F.bindsN fun _ _ _ _ _ _ us hl => match us, hl with | [_, _], _ => rfl⟩
end
section
variable {P : Program} {w : World} {K : PySem.W.Frag} {mg : Str → Option Value} {base : Heap}
theorem fo_l_after (T : Tx K mg) {fd : FuncData} (F : FunD K "_law_after" "_law_after" (defArgs s_l_after) (defBody s_l_after) (defScope s_l_after) [] [] (He.fAd K ("_law_after", none)) fd)   : FnOk P w K mg base CX0 1 (He.fAd K ("_law_after", none)) fd ["data", "steps"] (spL (R_steps lD)) := by
  refine F.ok sc_l_after (fun vs H Q E h => ?len) (fun cdv A outer s H vs Q E hr h => ?read)
  case len =>
    obtain ⟨G, ds, d, _, hd, ⟨la, ss, rfl, _⟩, _⟩ := h
    exact da_len hd
  case read =>
    refine ⟨_, PSs.nox (pss_cons (ps_set (i := 0) sc_l_after.nd rfl (by first | exact Or.inl rfl | exact Or.inr rfl) (pe_callTy cl_list (by rfl) T.f_list (by decide +kernel) (pa_cons (pv 0) pa_nil)))
      (pss_cons (ps_for PassesOwn.never rfl (pi_list (pv 1)) (pg_tup rfl (pgs_cons (pg_name (i := 2) sc_l_after.nd rfl (by first | exact Or.inl rfl | exact Or.inr rfl)) (pgs_cons (pg_name (i := 3) sc_l_after.nd rfl (by first | exact Or.inl rfl | exact Or.inr rfl)) pgs_nil)))
      (pss_one (ps_if (pt_cmpR (op_same hr.units) (pv 2) pe_int (nomark _)) (pss_one (ps_expr (pe_bm PySem.F.plainAttrs_list PySem.F.slot_list_append PySem.F.type_list_append mt_append (pv 0) (pa_cons (pv 3) pa_nil)))) (pss_one (ps_set (i := 0) sc_l_after.nd rfl (by first | exact Or.inl rfl | exact Or.inr rfl) (pe_slice sl_any (pv 0) po_none (po_some (pv 3))))))))
      (pss_one (ps_ret (pv 0))))), ?_⟩
    obtain ⟨G, ds, d, s0, hd, ⟨la, ss, rfl, hl, rfl⟩, ret⟩ := h
    have S : ST G H NoL [] [.dat (.list (la.map .int)), .dat (.list (ss.map lD)), .any, .any] [] G (L2.start n_l_after vs) H := ST.start (N := n_l_after) s0 hd
    walk_at "st"
    refine c_listL (by assumption) S (fun p H1 S p0 _ => ?_)
    refine c_set S (fun σ1 S => ?_)
    walk_at "st"
    rename_i u hu
    refine c_forL (fun i G' σ' H' => ∃ p, H p = none ∧ ST G H NoL [pD u (.list (ss.map lD))] [.val (.ref p), .any, .any, .any] [As.lst p ((runs la (ss.take i)).map .int)] G' σ' H') hu
      ⟨p, p0, (S.pinned hu).le (by walk_at "le")⟩ (fun i G' σ' H' ⟨p, _, S⟩ => ⟨S.pin0, S.same⟩) ?_ ?_
    · rintro i d y G' σ' H' hd hy ⟨p, p0, S⟩
      rw [List.getElem?_map] at hd
      cases es : ss[i]? with
      | none => rw [es] at hd; cases hd
      | some s =>
        rw [es] at hd
        obtain rfl : lD s = d := Option.some.inj hd
        have hi : i < ss.length := (List.getElem?_eq_some_iff.mp es).1
        have hlen : (runs la (ss.take i)).length ≤ 1000000 := by
          have := runs_len (ss.take i) la
          rw [List.length_take] at this
          omega
        cases s with
        | app b =>
          refine c_gtup2 hy S.same (fun v1 v2 h1 h2 => ?_)
          cases h1
          cases h2
          walk_at "st"
          refine c_ite (fun _ => ?_) (fun h => absurd rfl h)
          walk_at "st"
          refine ⟨c_tyM (by assumption), ?_⟩
          walk_at "st"
          refine c_append (by assumption) (.int b) (by rw [List.length_map]; exact sz_int hlen) (fun H2 S => ?_)
          refine ⟨G', p, p0, ?_⟩
          rw [runs_take es]
          show ST _ _ _ _ _ [As.lst p ((runs la (ss.take i) ++ [b]).map .int)] _ _ _
          rw [List.map_append]
          exact S.le (by walk_at "le")
        | cut n =>
          refine c_gtup2 hy S.same (fun v1 v2 h1 h2 => ?_)
          cases h1
          cases h2
          walk_at "st"
          refine c_ite (fun h => absurd h (by decide)) (fun _ => ?_)
          walk_at "st"
          rename_i S _
          obtain ⟨xs, e, hx⟩ := S.head
          refine c_slMm e hx S (fun q H2 S q0 _ => ?_)
          refine c_set S (fun σ2 S => ?_)
          refine ⟨G', q, q0, ?_⟩
          rw [runs_take es]
          show ST _ _ _ _ _ [As.lst q (((runs la (ss.take i)).take n).map .int)] _ _ _
          rw [List.map_take, ← cutD_to]
          exact S.swap.drop.le (by walk_at "le")
    · rintro G' σ' H' ⟨p, p0, S⟩
      walk_at "st"
      rw [List.length_map, List.take_length] at S
      exact ret_L S p0 ret
theorem ok_l_after (T : Tx K mg) (c : He.SaysD fas fns K)  : OkF P w K mg base CX0 ("_law_after", none) ["data", "steps"] 1 (spL (R_steps lD)) := by
  obtain ⟨fd, F⟩ := c.def_ 14 (d := d_l_after) rfl
  exact ⟨fd, fo_l_after T F , F.kp, F.bindsN fun _ _ _ _ _ _ us hl => match us, hl with | [_, _], _ => rfl⟩
end
/-! ### the class -/
theorem neLS : ¬ (("_lasting" : Str) = "_steps") := by decide +kernel
abbrev fF (l s : Addr) : List (Str × V) := f2 "_lasting" "_steps" (.ref l) (.ref s)
def FileA (C p l s : Addr) (la : List Int) (ss : List Stp) : As where
  fp := fun b => b = p ∨ b = l ∨ b = s
  ok := fun G H => l ≠ s ∧ (∃ dx, H p = some (.ins C dx (fF l s))) ∧ (As.lst l (la.map .int)).ok G H ∧ (As.lst s (ss.map fD)).ok G H
  stays := fun g k ⟨h1, ⟨dx, h2⟩, h3, h4⟩ => ⟨h1, ⟨dx, k _ _ (.inl rfl) h2⟩, (As.lst l _).stays g (fun b o e => k b o (.inr (.inl e))) h3, (As.lst s _).stays g (fun b o e => k b o (.inr (.inr e))) h4⟩
section
variable {G0 H0 : Hp} {L : Addr → Prop} {π : List Pin} {ρ : List Sl} {μ : List As} {G H : Hp} {σ : St} {C p l s : Addr} {la : List Int} {ss : List Stp}
theorem file_open (S : ST G0 H0 L π ρ (FileA C p l s la ss :: μ) G σ H) : ∃ dx, ST G0 H0 L π ρ (As.raw p (.ins C dx (fF l s)) :: As.lst l (la.map .int) :: As.lst s (ss.map fD) :: μ) G σ H ∧ l ≠ s ∧ p ≠ l ∧ p ≠ s := by
  obtain ⟨h1, ⟨dx, h2⟩, h3, h4⟩ := S.head
  obtain ⟨vs, e3, _⟩ := id h3
  obtain ⟨ws, e4, _⟩ := id h4
  have npl : p ≠ l := ne_of h2 e3 (by intro z; cases z)
  have nps : p ≠ s := ne_of h2 e4 (by intro z; cases z)
  have dj := List.pairwise_cons.mp S.dj
  refine ⟨dx, ⟨S.gx, S.env, S.pin, fun a ha => ?_, fun a ha b hb => ?_, ?_⟩, h1, npl, nps⟩
  · rcases List.mem_cons.mp ha with e | ha
    · rw [e]; exact h2
    · rcases List.mem_cons.mp ha with e | ha
      · rw [e]; exact h3
      · rcases List.mem_cons.mp ha with e | ha
        · rw [e]; exact h4
        · exact S.ok a (List.mem_cons_of_mem _ ha)
  · rcases List.mem_cons.mp ha with e | ha
    · rw [e] at hb; exact S.hfp (.inl hb)
    · rcases List.mem_cons.mp ha with e | ha
      · rw [e] at hb; exact S.hfp (.inr (.inl hb))
      · rcases List.mem_cons.mp ha with e | ha
        · rw [e] at hb; exact S.hfp (.inr (.inr hb))
        · exact S.fp a (List.mem_cons_of_mem _ ha) b hb
  · refine List.pairwise_cons.mpr ⟨fun a ha b hb z => ?_, List.pairwise_cons.mpr ⟨fun a ha b hb z => ?_, List.pairwise_cons.mpr ⟨fun a ha b hb z => dj.1 a ha b (.inr (.inr hb)) z, dj.2⟩⟩⟩
    · have hb' : b = p := hb
      rcases List.mem_cons.mp ha with e | ha
      · rw [e] at z; exact npl (hb'.symm.trans z)
      · rcases List.mem_cons.mp ha with e | ha
        · rw [e] at z; exact nps (hb'.symm.trans z)
        · exact dj.1 a ha b (.inl hb) z
    · have hb' : b = l := hb
      rcases List.mem_cons.mp ha with e | ha
      · rw [e] at z; exact h1 (hb'.symm.trans z)
      · exact dj.1 a ha b (.inr (.inl hb)) z
theorem file_close {dx : Addr} (S : ST G0 H0 L π ρ (As.raw p (.ins C dx (fF l s)) :: As.lst l (la.map .int) :: As.lst s (ss.map fD) :: μ) G σ H) : ST G0 H0 L π ρ (FileA C p l s la ss :: μ) G σ H := by
  have dj1 := List.pairwise_cons.mp S.dj
  have dj2 := List.pairwise_cons.mp dj1.2
  have dj3 := List.pairwise_cons.mp dj2.2
  have nls : l ≠ s := fun e => dj2.1 _ (List.mem_cons_self ..) l rfl e
  have S1 := S.drop
  have S2 := S1.drop
  refine ⟨S.gx, S.env, S.pin, fun a ha => ?_, fun a ha b hb => ?_, List.pairwise_cons.mpr ⟨fun a ha b hb z => ?_, dj3.2⟩⟩
  · rcases List.mem_cons.mp ha with e | ha
    · rw [e]; exact ⟨nls, ⟨dx, S.head⟩, S1.head, S2.head⟩
    · exact S2.drop.ok a ha
  · rcases List.mem_cons.mp ha with e | ha
    · rw [e] at hb
      rcases hb with hb | hb | hb
      · exact S.hfp hb
      · exact S1.hfp hb
      · exact S2.hfp hb
    · exact S2.drop.fp a ha b hb
  · rcases hb with hb | hb | hb
    · exact dj1.1 a (List.mem_cons_of_mem _ (List.mem_cons_of_mem _ ha)) b hb z
    · exact dj2.1 a (List.mem_cons_of_mem _ ha) b hb z
    · exact dj3.1 a ha b hb z
end
/-- what a method leaves of its file -/
def FPost (C p l s : Addr) (la : List Int) (ss : List Stp) (G H : Hp) (la' : List Int) (ss' : List Stp) (k : Hp → Prop) : Prop :=
  ∀ G' H' l' s', Gx (FileA C p l s la ss).fp G H G' H' → (FileA C p l' s' la' ss').at G' H' → (∀ b, (FileA C p l' s' la' ss').fp b → (FileA C p l s la ss).fp b ∨ H b = none) → k H'
theorem fpost {C p l s l' s' : Addr} {la la' : List Int} {ss ss' : List Stp} {G H : Hp} {k : Hp → Prop} {π : List Pin} {ρ : List Sl} {μ : List As} {G' H' : Hp} {σ : St} (h : FPost C p l s la ss G H la' ss' k) (S : ST G H (FileA C p l s la ss).fp π ρ (FileA C p l' s' la' ss' :: μ) G' σ H') : k H' :=
  h G' H' l' s' S.gx S.at fun b hb => (S.hfp hb).2.2
def spInit (C : Addr) : Sp := fun vs H Q _ => ∃ (G : Hp) (p dx : Addr), vs = [.ref p] ∧ Same G H ∧ (As.raw p (.ins C dx [])).at G H ∧
  ∀ H' l s, Gx (fun b => b = p) G H G H' → (FileA C p l s [] []).at G H' → H l = none → H s = none → Q .non H'
/-- how many of m steps are done -/
def Lim (w : V) (m cnt : Nat) : Prop := (w = .non ∧ cnt = m) ∨ ∃ n : Nat, w = .int n ∧ cnt = min n m
def spWrite (C : Addr) : Sp := fun vs H Q _ => ∃ (G : Hp) (p l s : Addr) (la : List Int) (ss : List Stp) (a : Addr) (w : V) (bs : List Int) (cnt : Nat), vs = [.ref p, .ref a, w] ∧ Same G H ∧ (FileA C p l s la ss).at G H ∧ H a = some (.lst (bs.map V.int)) ∧ Lim w bs.length cnt ∧
  la.length + ss.length + bs.length ≤ 1000000 ∧ FPost C p l s la ss G H la (ss ++ (bs.take cnt).map .app) (Q (.int cnt))
def spShorten (C : Addr) : Sp := fun vs H Q _ => ∃ (G : Hp) (p l s : Addr) (la : List Int) (ss : List Stp) (w : V) (n cnt : Nat), vs = [.ref p, .int n, w] ∧ Same G H ∧ (FileA C p l s la ss).at G H ∧ ((w = .int 0 ∧ cnt = 0) ∨ (w = .non ∧ cnt = 1) ∨ ∃ m : Int, w = .int m ∧ m ≠ 0 ∧ cnt = 1) ∧
  ss.length < 1000000 ∧ FPost C p l s la ss G H la (if cnt = 0 then ss else ss ++ [.cut n]) (Q (.int cnt))
def spFlush (C : Addr) : Sp := fun vs H Q _ => ∃ (G : Hp) (p l s : Addr) (la : List Int) (ss : List Stp) (w : V) (cnt : Nat), vs = [.ref p, w] ∧ Same G H ∧ (FileA C p l s la ss).at G H ∧ ((w = .int 0 ∧ cnt = 0) ∨ (w = .non ∧ cnt = 1) ∨ ∃ m : Int, w = .int m ∧ m ≠ 0 ∧ cnt = 1) ∧
  la.length + ss.length ≤ 1000000 ∧ FPost C p l s la ss G H (if cnt = 0 then la else runs la ss) (if cnt = 0 then ss else []) (Q (.int cnt))
def spContent (C : Addr) : Sp := fun vs H Q _ => ∃ (G : Hp) (p l s : Addr) (la : List Int) (ss : List Stp), vs = [.ref p] ∧ Same G H ∧ (FileA C p l s la ss).at G H ∧ la.length + ss.length ≤ 1000000 ∧
  ∀ q ws G' H', Gr G H G' H' → H q = none → G' q = none → H' q = some (.lst ws) → DaAll G' ws ((runs la ss).map .int) → Q (.ref q) H'
def spPending (C : Addr) : Sp := fun vs H Q _ => ∃ (G : Hp) (p l s : Addr) (la : List Int) (ss : List Stp), vs = [.ref p] ∧ Same G H ∧ (FileA C p l s la ss).at G H ∧ Q (.int ss.length) H
def spLose (C : Addr) : Sp := fun vs H Q _ => ∃ (G : Hp) (p l s : Addr) (la : List Int) (ss : List Stp) (n : Nat), vs = [.ref p, .int n] ∧ Same G H ∧ (FileA C p l s la ss).at G H ∧ la.length + ss.length ≤ 1000000 ∧
  FPost C p l s la ss G H (runs la (ss.take n)) [] (Q .non)
section
variable {P : Program} {w : World} {K : PySem.W.Frag} {mg : Str → Option Value} {base : Heap}
theorem fo_File_init (T : Tx K mg) {fd : FuncData} (F : FunD K "__init__" "File.__init__" (defArgs s_File_init) (defBody s_File_init) (defScope s_File_init) [] [] (He.fAd K ("File", some "__init__")) fd)   : FnOk P w K mg base CX0 1 (He.fAd K ("File", some "__init__")) fd ["self"] (spInit (He.ga K "File")) := by
  refine F.ok sc_File_init (fun vs H Q E h => ?len) (fun cdv A outer s H vs Q E hr h => ?read)
  case len =>
    obtain ⟨G, p, dx, rfl, _⟩ := h
    rfl
  case read =>
    refine ⟨_, PSs.nox (pss_cons (ps_fld (pv 0) (pe_lst pa_nil) rfl)
      (pss_one (ps_fld (pv 0) (pe_lst pa_nil) rfl))), ?_⟩
    obtain ⟨G, p, dx, rfl, s0, hA, ret⟩ := h
    have S : ST G H (fun b => b = p) [] [.val (.ref p)] [As.raw p (.ins (He.ga K "File") dx [])] G (L2.start n_File_init [.ref p]) H := ST.start1 (N := n_File_init) (vs := [.ref p]) (ρ := [.val (.ref p)]) s0 ⟨rfl, True.intro⟩ hA
    walk_at "st"
    refine c_newL S .nil (Nat.zero_le _) (fun l H1 S l0 _ => ?_)
    walk_at "st"
    refine c_setAt S.swap T.c_File T.na_File__lasting (by decide) (fun H2 S => ?_)
    walk_at "st"
    refine c_newL S .nil (Nat.zero_le _) (fun s H3 S s0 _ => ?_)
    walk_at "st"
    refine c_setAt S.swap T.c_File T.na_File__steps (by show 1 < 1000; decide) (fun H4 S => ?_)
    have S : ST G H (fun b => b = p) [] _ (As.raw p (.ins (He.ga K "File") dx (fF l s)) :: As.lst l (([] : List Int).map .int) :: As.lst s (([] : List Stp).map fD) :: []) G _ H4 := S.swap1
    exact ret H4 l s S.gx (file_close S).at l0 s0
theorem ok_File_init (T : Tx K mg) (c : He.SaysD fas fns K)  : OkF P w K mg base CX0 ("File", some "__init__") ["self"] 1 (spInit (He.ga K "File")) := by
  obtain ⟨fd, F⟩ := c.def_ 1 (d := d_File_init) rfl
  exact ⟨fd, fo_File_init T F , F.kp, F.bindsN fun _ _ _ _ _ _ us hl => match us, hl with | [_], _ => rfl⟩
end
section
variable {P : Program} {w : World} {K : PySem.W.Frag} {mg : Str → Option Value} {base : Heap}
theorem fo_File_write (T : Tx K mg) {fd : FuncData} (F : FunD K "write" "File.write" (defArgs s_File_write) (defBody s_File_write) (defScope s_File_write) [] [] (He.fAd K ("File", some "write")) fd)   : FnOk P w K mg base CX0 1 (He.fAd K ("File", some "write")) fd ["self", "data", "steps"] (spWrite (He.ga K "File")) := by
  refine F.ok sc_File_write (fun vs H Q E h => ?len) (fun cdv A outer s H vs Q E hr h => ?read)
  case len =>
    obtain ⟨G, p, l, s, la, ss, a, w, bs, cnt, rfl, _⟩ := h
    rfl
  case read =>
    refine ⟨_, PSs.nox (pss_cons (ps_set (i := 3) sc_File_write.nd rfl (by first | exact Or.inl rfl | exact Or.inr rfl) (pe_ifExp (pt_cmpR op_isNone (pv 2) pe_non (nomark _)) (pe_callB cl_len (by rfl) T.f_len (by decide +kernel) (pa_cons (pv 1) pa_nil)) (pe_callB (cl_min2 rfl) (by rfl) T.f_min (by decide +kernel) (pa_cons (pv 2) (pa_cons (pe_callB cl_len (by rfl) T.f_len (by decide +kernel) (pa_cons (pv 1) pa_nil)) pa_nil)))))
      (pss_cons (ps_expr (pe_bm PySem.F.plainAttrs_list PySem.F.slot_list_extend PySem.F.type_list_extend mt_extend (pe_fld (pv 0) rfl) (pa_cons (pe_lc (own := [("byte", 4)]) (g := gName 4) (tt := tYes) rfl sc_File_write.nd (pi_list (pe_slice sl_any (pv 1) po_none (po_some (pv 3)))) (blkOk_by (own := [("byte", 4)]) (N := n_File_write) (sc := defScope s_File_write) (by decide +kernel)) (fun _ _ _ _ _ => (pg_name (i := 4) sc_File_write.nd rfl (by first | exact Or.inl rfl | exact Or.inr rfl))) (fun _ _ _ _ _ => pts_nil) (fun _ _ _ _ _ => (pe_tup (pa_cons pe_str (pa_cons (pv 4) pa_nil))))) pa_nil)))
      (pss_one (ps_ret (pv 3))))), ?_⟩
    obtain ⟨G, p, l, s, la, ss, ad, wv, bs, cnt, rfl, s0, hA, hv, hlim, hz, ret⟩ := h
    have S : ST G H (FileA (He.ga K "File") p l s la ss).fp [] [.val (.ref p), .val (.ref ad), .val wv, .any, .any] [FileA (He.ga K "File") p l s la ss] G (L2.start n_File_write [.ref p, .ref ad, wv]) H :=
      ST.start1 (N := n_File_write) (vs := [.ref p, .ref ad, wv]) (ρ := [.val (.ref p), .val (.ref ad), .val wv]) s0 ⟨rfl, rfl, rfl, True.intro⟩ hA
    obtain ⟨dx, S, nls, npl, nps⟩ := file_open S
    have hcnt : cnt ≤ bs.length := by rcases hlim with ⟨_, rfl⟩ | ⟨n, _, rfl⟩ <;> omega
    refine c_seq ?_
    refine c_asg ?_
    refine c_cut (v := .int cnt) (fun Q' hq => ?_) ?_
    · rcases hlim with ⟨rfl, rfl⟩ | ⟨n, rfl, rfl⟩
      · walk_at "st"
        refine c_ite (fun _ => ?_) (fun h => absurd rfl h)
        walk_at "st"
        refine c_lenM hv ?_
        rw [List.length_map]
        exact hq
      · walk_at "st"
        refine c_ite (fun h => nomatch h) (fun _ => ?_)
        walk_at "st"
        refine c_lenM hv ?_
        rw [List.length_map]
        walk_at "st"
        have e : (if (bs.length : Int) < (n : Int) then (bs.length : Int) else (n : Int)) = ((min n bs.length : Nat) : Int) := by split <;> omega
        rw [e]
        exact hq
    walk_at "st"
    rename_i S1
    refine c_fldAt S1.head T.c_File T.na_File__steps f2_2 ?_
    refine ⟨c_tyM S1.rot, ?_⟩
    walk_at "st"
    refine c_slM hv (da_of_ints bs) S1 (fun v2 G2 H2 S2 g2 hv2 => ?_)
    rw [cutD_to, ← List.map_take] at hv2
    refine c_iL hv2 S2.same (fun a ea D hD => ?_)
    subst ea
    refine c_compL (fun i acc => acc = ((bs.take cnt).take i).map fun b => fD (.app b)) S2 hv2 hD rfl ?_ ?_
    · rintro i d y acc G' H' hd hy rfl S
      rw [List.getElem?_map] at hd
      cases eb : (bs.take cnt)[i]? with
      | none => rw [eb] at hd; cases hd
      | some b =>
        rw [eb] at hd
        obtain rfl : PyData.int b = d := Option.some.inj hd
        cases hy
        refine c_setc S (fun S => ?_)
        refine ⟨by walk_at "wp", ?_⟩
        walk_at "st"
        refine iteT ?_
        walk_at "st"
        refine c_mkT S (by walk_at "da") (by show 2 ≤ sizeLine; decide) (fun v G4 H4 S g hv => ?_)
        have hi : i < (bs.take cnt).length := (List.getElem?_eq_some_iff.mp eb).1
        have hl2 : (bs.take cnt).length ≤ 1000000 := by rw [List.length_take]; omega
        refine c_lcItem S hv (by rw [List.length_map, List.length_take]; exact sz_int (by omega)) (fun H5 S => ?_)
        refine ⟨G4, _, ?_, (S.wipe' (by walk_at "wp")).le (by walk_at "le")⟩
        rw [List.take_add_one, eb, List.map_append]
        rfl
    · rintro G' H' acc _ rfl S q0
      obtain ⟨G3, S, hf, _⟩ := S.freeze q0
      rw [List.length_map, List.take_length] at hf
      walk_at "st"
      refine c_extend S.rot hf (by
        rw [List.length_map, List.length_map, List.length_take]
        exact Nat.le_of_lt (sz_int (by omega))) (fun H5 S => ?_)
      walk_at "st"
      rename_i S
      have e : ss.map fD ++ (bs.take cnt).map (fun b => fD (.app b)) = (ss ++ (bs.take cnt).map Stp.app).map fD := by
        rw [List.map_append, List.map_map]
        rfl
      rw [e] at S
      exact fpost ret (file_close S.swap.swap1)
theorem ok_File_write (T : Tx K mg) (c : He.SaysD fas fns K)  : OkF P w K mg base CX0 ("File", some "write") ["self", "data", "steps"] 1 (spWrite (He.ga K "File")) := by
  obtain ⟨fd, F⟩ := c.def_ 2 (d := d_File_write) rfl
  exact ⟨fd, fo_File_write T F , F.kp, F.bindsN fun _ _ _ _ _ _ us hl => match us, hl with | [_, _, _], _ => rfl⟩
end
section
variable {P : Program} {w : World} {K : PySem.W.Frag} {mg : Str → Option Value} {base : Heap}
theorem fo_File_shorten (T : Tx K mg) {fd : FuncData} (F : FunD K "shorten" "File.shorten" (defArgs s_File_shorten) (defBody s_File_shorten) (defScope s_File_shorten) [] [] (He.fAd K ("File", some "shorten")) fd)   : FnOk P w K mg base CX0 1 (He.fAd K ("File", some "shorten")) fd ["self", "size", "steps"] (spShorten (He.ga K "File")) := by
  refine F.ok sc_File_shorten (fun vs H Q E h => ?len) (fun cdv A outer s H vs Q E hr h => ?read)
  case len =>
    obtain ⟨G, p, l, s, la, ss, w, n, cnt, rfl, _⟩ := h
    rfl
  case read =>
    refine ⟨_, PSs.nox (pss_cons (ps_if (pt_cmpR (op_same hr.units) (pv 2) pe_int (nomark _)) (pss_one (ps_ret pe_int)) pss_nil)
      (pss_cons (ps_expr (pe_bm PySem.F.plainAttrs_list PySem.F.slot_list_append PySem.F.type_list_append mt_append (pe_fld (pv 0) rfl) (pa_cons (pe_tup (pa_cons pe_str (pa_cons (pv 1) pa_nil))) pa_nil)))
      (pss_one (ps_ret pe_int)))), ?_⟩
    obtain ⟨G, p, l, s, la, ss, wv, n, cnt, rfl, s0, hA, hlim, hz, ret⟩ := h
    have S : ST G H (FileA (He.ga K "File") p l s la ss).fp [] [.val (.ref p), .val (.int n), .val wv] [FileA (He.ga K "File") p l s la ss] G (L2.start n_File_shorten [.ref p, .int n, wv]) H :=
      ST.start1 (N := n_File_shorten) (vs := [.ref p, .int n, wv]) (ρ := [.val (.ref p), .val (.int n), .val wv]) s0 ⟨rfl, rfl, rfl, True.intro⟩ hA
    have go : cnt = 1 → tSeq (tDrop (tBM K "list" rAppend (tFld K (tVar 0) "_steps") (tCons (tTup (tCons (tC (.str "truncate")) (tCons (tVar 1) tNil))) tNil))) (tRet (tC (.int 1))) { nx := fun _ H' => Q .non H', rt := Q } (L2.start n_File_shorten [.ref p, .int n, wv]) H := by
      rintro rfl
      obtain ⟨dx, S, nls, npl, nps⟩ := file_open S
      walk_at "st"
      refine c_fldAt S.head T.c_File T.na_File__steps f2_2 ?_
      refine ⟨c_tyM S.rot, ?_⟩
      walk_at "st"
      refine c_mkT S (by walk_at "da") (by show 2 ≤ sizeLine; decide) (fun v G2 H2 S _ hv => ?_)
      walk_at "st"
      refine c_append S.rot hv (by rw [List.length_map]; exact sz_int (by omega)) (fun H3 S => ?_)
      walk_at "st"
      rename_i S
      have e : ss.map fD ++ [PyData.tuple [.str "truncate", .int n]] = (ss ++ [Stp.cut n]).map fD := by
        rw [List.map_append]
        rfl
      rw [e] at S
      exact fpost ret (file_close S.swap.swap1)
    rcases hlim with ⟨rfl, rfl⟩ | ⟨rfl, h1⟩ | ⟨m, rfl, hm, h1⟩
    · walk_at "st"
      refine c_ite (fun _ => ?_) (fun h => absurd rfl h)
      walk_at "st"
      exact fpost ret S
    · walk_at "st"
      refine c_sameNI ?_
      walk_at "st"
      refine iteF ?_
      exact go h1
    · walk_at "st"
      refine c_ite (fun h => absurd h hm) (fun _ => ?_)
      exact go h1
theorem ok_File_shorten (T : Tx K mg) (c : He.SaysD fas fns K)  : OkF P w K mg base CX0 ("File", some "shorten") ["self", "size", "steps"] 1 (spShorten (He.ga K "File")) := by
  obtain ⟨fd, F⟩ := c.def_ 3 (d := d_File_shorten) rfl
  exact ⟨fd, fo_File_shorten T F , F.kp, F.bindsN fun _ _ _ _ _ _ us hl => match us, hl with | [_, _, _], _ => rfl⟩
end
section
variable {P : Program} {w : World} {K : PySem.W.Frag} {mg : Str → Option Value} {base : Heap}
theorem fo_File_lose (T : Tx K mg) {fd : FuncData} (F : FunD K "lose" "File.lose" (defArgs s_File_lose) (defBody s_File_lose) (defScope s_File_lose) [] [] (He.fAd K ("File", some "lose")) fd) (h_applied : OkF P w K mg base CX0 ("_applied", none) ["data", "steps"] 1 (spL (R_steps fD)))  : FnOk P w K mg base CX0 2 (He.fAd K ("File", some "lose")) fd ["self", "steps"] (spLose (He.ga K "File")) := by
  obtain ⟨fd_applied, G_applied, kp_applied, b_applied⟩ := h_applied
  refine F.ok sc_File_lose (fun vs H Q E h => ?len) (fun cdv A outer s H vs Q E hr h => ?read)
  case len =>
    obtain ⟨G, p, l, s, la, ss, n, rfl, _⟩ := h
    rfl
  case read =>
    refine ⟨_, PSs.nox (pss_cons (ps_fld (pv 0) (pe_call G_applied (hr.mono (by decide)) (by rfl) T.g_applied kp_applied b_applied .nil pass0 (pa_cons (pe_fld (pv 0) rfl) (pa_cons (pe_slice sl_any (pe_fld (pv 0) rfl) po_none (po_some (pv 1))) pa_nil))) rfl)
      (pss_one (ps_fld (pv 0) (pe_lst pa_nil) rfl))), ?_⟩
    obtain ⟨G, p, l, s, la, ss, n, rfl, s0, hA, hz, ret⟩ := h
    have S : ST G H (FileA (He.ga K "File") p l s la ss).fp [] [.val (.ref p), .val (.int n)] [FileA (He.ga K "File") p l s la ss] G (L2.start n_File_lose [.ref p, .int n]) H :=
      ST.start1 (N := n_File_lose) (vs := [.ref p, .int n]) (ρ := [.val (.ref p), .val (.int n)]) s0 ⟨rfl, rfl, True.intro⟩ hA
    obtain ⟨dx, S, nls, npl, nps⟩ := file_open S
    walk_at "st"
    refine c_fldAt S.head T.c_File T.na_File__lasting (f2_1 neLS) ?_
    walk_at "st"
    refine c_fldAt S.head T.c_File T.na_File__steps f2_2 ?_
    walk_at "st"
    obtain ⟨xs, e, hx⟩ := S.rot.head
    refine c_slM e hx S (fun v2 G2 H2 S g hv2 => ?_)
    rw [cutD_to, ← List.map_take] at hv2
    walk_at "st"
    obtain ⟨ys, e2, hy⟩ := S.swap.head
    obtain ⟨s1, d1, sg⟩ := lend S.same (S.swap.hfp rfl).1 e2 hy
    refine c_callLi (ns := runs la (ss.take n)) S s1 (.cons d1 (.cons (hv2.mono sg) .nil)) ⟨la, ss.take n, rfl, by rw [List.length_take]; omega, rfl⟩ (fun q H3 S q0 _ => ?_)
    walk_at "st"
    refine c_setAt S.swap T.c_File T.na_File__lasting (by rw [f2_len neLS]; decide) (fun H4 S => ?_)
    rw [f2_put1 neLS] at S
    walk_at "st"
    refine c_newL S .nil (Nat.zero_le _) (fun s2 H5 S s20 _ => ?_)
    walk_at "st"
    refine c_setAt S.swap T.c_File T.na_File__steps (by rw [f2_len neLS]; decide) (fun H6 S => ?_)
    rw [f2_put2 neLS] at S
    have S : ST G H (FileA (He.ga K "File") p l s la ss).fp [] _ (FileA (He.ga K "File") p q s2 (runs la (ss.take n)) [] :: As.lst l (la.map .int) :: As.lst s (ss.map fD) :: []) G2 _ H6 := file_close S.swap1
    exact fpost ret S.swap.drop.swap.drop
theorem ok_File_lose (T : Tx K mg) (c : He.SaysD fas fns K) (h_applied : OkF P w K mg base CX0 ("_applied", none) ["data", "steps"] 1 (spL (R_steps fD))) : OkF P w K mg base CX0 ("File", some "lose") ["self", "steps"] 2 (spLose (He.ga K "File")) := by
  obtain ⟨fd, F⟩ := c.def_ 7 (d := d_File_lose) rfl
  exact ⟨fd, fo_File_lose T F h_applied, F.kp, F.bindsN fun _ _ _ _ _ _ us hl => match us, hl with | [_, _], _ => rfl⟩
end
section
variable {P : Program} {w : World} {K : PySem.W.Frag} {mg : Str → Option Value} {base : Heap}
theorem fo_File_content (T : Tx K mg) {fd : FuncData} (F : FunD K "content" "File.content" (defArgs s_File_content) (defBody s_File_content) (defScope s_File_content) [] [] (He.fAd K ("File", some "content")) fd) (h_applied : OkF P w K mg base CX0 ("_applied", none) ["data", "steps"] 1 (spL (R_steps fD)))  : FnOk P w K mg base CX0 2 (He.fAd K ("File", some "content")) fd ["self"] (spContent (He.ga K "File")) := by
  obtain ⟨fd_applied, G_applied, kp_applied, b_applied⟩ := h_applied
  refine F.ok sc_File_content (fun vs H Q E h => ?len) (fun cdv A outer s H vs Q E hr h => ?read)
  case len =>
    obtain ⟨G, p, l, s, la, ss, rfl, _⟩ := h
    rfl
  case read =>
    refine ⟨_, PSs.nox (pss_one (ps_ret (pe_call G_applied (hr.mono (by decide)) (by rfl) T.g_applied kp_applied b_applied .nil pass0 (pa_cons (pe_fld (pv 0) rfl) (pa_cons (pe_fld (pv 0) rfl) pa_nil))))), ?_⟩
    obtain ⟨G, p, l, s, la, ss, rfl, s0, hA, hz, ret⟩ := h
    have S : ST G H NoL [] [.val (.ref p)] [] G (L2.start n_File_content [.ref p]) H := ST.startV (N := n_File_content) (vs := [.ref p]) (ρ := [.val (.ref p)]) s0 ⟨rfl, True.intro⟩
    obtain ⟨⟨nls, ⟨dx, eo⟩, ⟨xs, el, hx⟩, ⟨ys, es, hy⟩⟩, hf⟩ := hA
    walk_at "st"
    refine c_fldAt eo T.c_File T.na_File__lasting (f2_1 neLS) ?_
    walk_at "st"
    refine c_fldAt eo T.c_File T.na_File__steps f2_2 ?_
    walk_at "st"
    obtain ⟨s1, d1, sg⟩ := lend s0 (hf l (.inr (.inl rfl))).1 el hx
    have e1 : (upd G l (.lst xs)) s = none := by rw [upd_ne nls.symm]; exact (hf s (.inr (.inr rfl))).1
    obtain ⟨s2, d2, sg2⟩ := lend s1 e1 es (hy.mono sg)
    refine c_callLi (ns := runs la ss) S s2 (.cons (d1.mono sg2) (.cons d2 .nil)) ⟨la, ss, rfl, by omega, rfl⟩ (fun q H3 S q0 g => ?_)
    exact ret_L S q0 ret
theorem ok_File_content (T : Tx K mg) (c : He.SaysD fas fns K) (h_applied : OkF P w K mg base CX0 ("_applied", none) ["data", "steps"] 1 (spL (R_steps fD))) : OkF P w K mg base CX0 ("File", some "content") ["self"] 2 (spContent (He.ga K "File")) := by
  obtain ⟨fd, F⟩ := c.def_ 5 (d := d_File_content) rfl
  exact ⟨fd, fo_File_content T F h_applied, F.kp, F.bindsN fun _ _ _ _ _ _ us hl => match us, hl with | [_], _ => rfl⟩
end
section
variable {P : Program} {w : World} {K : PySem.W.Frag} {mg : Str → Option Value} {base : Heap}
theorem fo_File_pending (T : Tx K mg) {fd : FuncData} (F : FunD K "pending" "File.pending" (defArgs s_File_pending) (defBody s_File_pending) (defScope s_File_pending) [] [] (He.fAd K ("File", some "pending")) fd)   : FnOk P w K mg base CX0 1 (He.fAd K ("File", some "pending")) fd ["self"] (spPending (He.ga K "File")) := by
  refine F.ok sc_File_pending (fun vs H Q E h => ?len) (fun cdv A outer s H vs Q E hr h => ?read)
  case len =>
    obtain ⟨G, p, l, s, la, ss, rfl, _⟩ := h
    rfl
  case read =>
    refine ⟨_, PSs.nox (pss_one (ps_ret (pe_callB cl_len (by rfl) T.f_len (by decide +kernel) (pa_cons (pe_fld (pv 0) rfl) pa_nil)))), ?_⟩
    obtain ⟨G, p, l, s, la, ss, rfl, s0, hA, ret⟩ := h
    have S : ST G H (FileA (He.ga K "File") p l s la ss).fp [] [.val (.ref p)] [FileA (He.ga K "File") p l s la ss] G (L2.start n_File_pending [.ref p]) H :=
      ST.start1 (N := n_File_pending) (vs := [.ref p]) (ρ := [.val (.ref p)]) s0 ⟨rfl, True.intro⟩ hA
    obtain ⟨dx, S, nls, npl, nps⟩ := file_open S
    walk_at "st"
    refine c_fldAt S.head T.c_File T.na_File__steps f2_2 ?_
    walk_at "st"
    obtain ⟨xs, e, hx⟩ := S.rot.head
    refine c_lenM e ?_
    rw [da_len hx, List.length_map]
    exact ret
theorem ok_File_pending (T : Tx K mg) (c : He.SaysD fas fns K)  : OkF P w K mg base CX0 ("File", some "pending") ["self"] 1 (spPending (He.ga K "File")) := by
  obtain ⟨fd, F⟩ := c.def_ 6 (d := d_File_pending) rfl
  exact ⟨fd, fo_File_pending T F , F.kp, F.bindsN fun _ _ _ _ _ _ us hl => match us, hl with | [_], _ => rfl⟩
end
section
variable {P : Program} {w : World} {K : PySem.W.Frag} {mg : Str → Option Value} {base : Heap}
theorem fo_File_flush (T : Tx K mg) {fd : FuncData} (F : FunD K "flush" "File.flush" (defArgs s_File_flush) (defBody s_File_flush) (defScope s_File_flush) [] [] (He.fAd K ("File", some "flush")) fd) (h_File_lose : OkF P w K mg base CX0 ("File", some "lose") ["self", "steps"] 2 (spLose (He.ga K "File")))  : FnOk P w K mg base CX0 3 (He.fAd K ("File", some "flush")) fd ["self", "steps"] (spFlush (He.ga K "File")) := by
  obtain ⟨fd_File_lose, G_File_lose, kp_File_lose, b_File_lose⟩ := h_File_lose
  refine F.ok sc_File_flush (fun vs H Q E h => ?len) (fun cdv A outer s H vs Q E hr h => ?read)
  case len =>
    obtain ⟨G, p, l, s, la, ss, w, cnt, rfl, _⟩ := h
    rfl
  case read =>
    refine ⟨_, PSs.nox (pss_cons (ps_if (pt_cmpR (op_same hr.units) (pv 1) pe_int (nomark _)) (pss_one (ps_ret pe_int)) pss_nil)
      (pss_cons (ps_expr (pe_meth (pv 0) T.c_File T.m_File_lose G_File_lose (hr.mono (by decide)) b_File_lose .nil pass0 (pa_cons (pe_callB cl_len (by rfl) T.f_len (by decide +kernel) (pa_cons (pe_fld (pv 0) rfl) pa_nil)) pa_nil)))
      (pss_one (ps_ret pe_int)))), ?_⟩
    obtain ⟨G, p, l, s, la, ss, wv, cnt, rfl, s0, hA, hlim, hz, ret⟩ := h
    have S : ST G H (FileA (He.ga K "File") p l s la ss).fp [] [.val (.ref p), .val wv] [FileA (He.ga K "File") p l s la ss] G (L2.start n_File_flush [.ref p, wv]) H :=
      ST.start1 (N := n_File_flush) (vs := [.ref p, wv]) (ρ := [.val (.ref p), .val wv]) s0 ⟨rfl, rfl, True.intro⟩ hA
    have go : cnt = 1 → tSeq (tDrop (tMeth (He.ga K "File") "lose" (spLose (He.ga K "File")) [] E0 (tVar 0) (tCons (tCB (Hw.rLen K) (tCons (tFld K (tVar 0) "_steps") tNil)) tNil))) (tRet (tC (.int 1))) { nx := fun _ H' => Q .non H', rt := Q } (L2.start n_File_flush [.ref p, wv]) H := by
      rintro rfl
      obtain ⟨⟨nls, ⟨dx, eo⟩, ⟨xs, el, hx⟩, ⟨ys, es, hy⟩⟩, hf⟩ := id hA
      walk_at "st"
      refine c_methAt eo (f2_no (by decide +kernel) (by decide +kernel)) ?_
      walk_at "st"
      refine c_fldAt eo T.c_File T.na_File__steps f2_2 ?_
      walk_at "st"
      refine c_lenM es ?_
      rw [da_len hy, List.length_map]
      walk_at "st"
      refine ⟨G, p, l, s, la, ss, ss.length, rfl, S.same, S.at, hz, fun G2 H2 l2 s2 g hA2 hf2 => ?_⟩
      have S := S.called g hA2 hf2
      rw [List.take_length] at S
      walk_at "st"
      exact fpost ret S
    rcases hlim with ⟨rfl, rfl⟩ | ⟨rfl, h1⟩ | ⟨m, rfl, hm, h1⟩
    · walk_at "st"
      refine c_ite (fun _ => ?_) (fun h => absurd rfl h)
      walk_at "st"
      exact fpost ret S
    · walk_at "st"
      refine c_sameNI ?_
      walk_at "st"
      refine iteF ?_
      exact go h1
    · walk_at "st"
      refine c_ite (fun h => absurd h hm) (fun _ => ?_)
      exact go h1
theorem ok_File_flush (T : Tx K mg) (c : He.SaysD fas fns K) (h_File_lose : OkF P w K mg base CX0 ("File", some "lose") ["self", "steps"] 2 (spLose (He.ga K "File"))) : OkF P w K mg base CX0 ("File", some "flush") ["self", "steps"] 3 (spFlush (He.ga K "File")) := by
  obtain ⟨fd, F⟩ := c.def_ 4 (d := d_File_flush) rfl
  exact ⟨fd, fo_File_flush T F h_File_lose, F.kp, F.bindsN fun _ _ _ _ _ _ us hl => match us, hl with | [_, _], _ => rfl⟩
end
/-- what the law's deed leaves -/
def spDeed (C : Addr) : Sp := fun vs H Q _ => ∃ (G : Hp) (st p l s : Addr) (la : List Int) (ss : List Stp) (v1 v2 : V), vs = [.ref st, .ref p, v1, v2] ∧ Same G H ∧ (DrA st).at G H ∧ (FileA C p l s la ss).at G H ∧ ¬ (FileA C p l s la ss).fp st ∧
  Da G v1 (.list (la.map .int)) ∧ Da G v2 (.list (ss.map lD)) ∧ la.length + ss.length ≤ 900000 ∧
  ∀ G' H' l' s' la' ss' r, Gx (fun b => (DrA st).fp b ∨ (FileA C p l s la ss).fp b) G H G' H' → (DrA st).at G' H' → (FileA C p l' s' la' ss').at G' H' → (∀ b, (FileA C p l' s' la' ss').fp b → (FileA C p l s la ss).fp b ∨ H b = none) →
    Da G' r (.list [.bool true, .list (la'.map .int), .list (ss'.map lD)]) → la'.length + ss'.length ≤ la.length + ss.length + 70 → Q r H'
theorem fits_lD (ss : List Stp) (n : Nat) (h : ss.length < 2 ^ 60) : fits (n + 2) (.list (ss.map lD)) := ⟨by rw [List.length_map]; exact h, fun d hd => by
  obtain ⟨s, _, rfl⟩ := List.mem_map.mp hd
  cases s with
  | app b => exact ⟨by show 2 < 2 ^ 60; decide, fun e he => by
      rcases List.mem_cons.mp he with rfl | he
      · exact fits_int
      · rw [List.mem_singleton.mp he]; exact fits_int⟩
  | cut b => exact ⟨by show 2 < 2 ^ 60; decide, fun e he => by
      rcases List.mem_cons.mp he with rfl | he
      · exact fits_int
      · rw [List.mem_singleton.mp he]; exact fits_int⟩⟩
section
variable {P : Program} {w : World} {K : PySem.W.Frag} {mg : Str → Option Value} {base : Heap}
theorem fo_l_deed (T : Tx K mg) {fd : FuncData} (F : FunD K "_law_deed" "_law_deed" (defArgs s_l_deed) (defBody s_l_deed) (defScope s_l_deed) [] [] (He.fAd K ("_law_deed", none)) fd) (h_l_next : OkF P w K mg base CX0 ("_law_next", none) ["state", "limit"] 3 sp_next) (h_File_write : OkF P w K mg base CX0 ("File", some "write") ["self", "data", "steps"] 1 (spWrite (He.ga K "File"))) (h_l_same : OkF P w K mg base CX0 ("_law_same", none) ["actual", "expected"] 9 (sp_same 8)) (h_l_after : OkF P w K mg base CX0 ("_law_after", none) ["data", "steps"] 1 (spL (R_steps lD))) (h_File_shorten : OkF P w K mg base CX0 ("File", some "shorten") ["self", "size", "steps"] 1 (spShorten (He.ga K "File"))) (h_File_flush : OkF P w K mg base CX0 ("File", some "flush") ["self", "steps"] 3 (spFlush (He.ga K "File"))) (h_File_lose : OkF P w K mg base CX0 ("File", some "lose") ["self", "steps"] 2 (spLose (He.ga K "File")))  : FnOk P w K mg base CX0 10 (He.fAd K ("_law_deed", none)) fd ["state", "file", "lasting", "steps"] (spDeed (He.ga K "File")) := by
  obtain ⟨fd_l_next, G_l_next, kp_l_next, b_l_next⟩ := h_l_next
  obtain ⟨fd_File_write, G_File_write, kp_File_write, b_File_write⟩ := h_File_write
  obtain ⟨fd_l_same, G_l_same, kp_l_same, b_l_same⟩ := h_l_same
  obtain ⟨fd_l_after, G_l_after, kp_l_after, b_l_after⟩ := h_l_after
  obtain ⟨fd_File_shorten, G_File_shorten, kp_File_shorten, b_File_shorten⟩ := h_File_shorten
  obtain ⟨fd_File_flush, G_File_flush, kp_File_flush, b_File_flush⟩ := h_File_flush
  obtain ⟨fd_File_lose, G_File_lose, kp_File_lose, b_File_lose⟩ := h_File_lose
  refine F.ok sc_l_deed (fun vs H Q E h => ?len) (fun cdv A outer s H vs Q E hr h => ?read)
  case len =>
    obtain ⟨G, st, p, l, s, la, ss, v1, v2, rfl, _⟩ := h
    rfl
  case read =>
    refine ⟨_, PSs.nox (pss_cons (ps_set (i := 4) sc_l_deed.nd rfl (by first | exact Or.inl rfl | exact Or.inr rfl) (pe_call G_l_next (hr.mono (by decide)) (by rfl) T.g_l_next kp_l_next b_l_next .nil pass0 (pa_cons (pv 0) (pa_cons pe_int pa_nil))))
      (pss_cons (ps_set (i := 5) sc_l_deed.nd rfl (by first | exact Or.inl rfl | exact Or.inr rfl) pe_non)
      (pss_cons (ps_if (pt_cmpR (op_same hr.units) (pe_call G_l_next (hr.mono (by decide)) (by rfl) T.g_l_next kp_l_next b_l_next .nil pass0 (pa_cons (pv 0) (pa_cons pe_int pa_nil))) pe_int (nomark _)) (pss_one (ps_set (i := 5) sc_l_deed.nd rfl (by first | exact Or.inl rfl | exact Or.inr rfl) (pe_ix ix_seq (pe_lst (pa_cons (pe_call G_l_next (hr.mono (by decide)) (by rfl) T.g_l_next kp_l_next b_l_next .nil pass0 (pa_cons (pv 0) (pa_cons pe_int pa_nil))) (pa_cons (pe_call G_l_next (hr.mono (by decide)) (by rfl) T.g_l_next kp_l_next b_l_next .nil pass0 (pa_cons (pv 0) (pa_cons pe_int pa_nil))) pa_nil))) (pe_call G_l_next (hr.mono (by decide)) (by rfl) T.g_l_next kp_l_next b_l_next .nil pass0 (pa_cons (pv 0) (pa_cons pe_int pa_nil))) (fun _ _ => rfl)))) pss_nil)
      (pss_cons (ps_if (pt_cmpR (op_less hr.units0) (pv 4) pe_int (nomark _)) (pss_cons (ps_setLc (i := 6) (own := [("k", 7)]) (g := gName 7) (tt := tYes) rfl sc_l_deed.nd rfl rfl (sw_true rfl rfl rfl (by decide +kernel)) (pi_range1 (by rfl) T.f_range (pa_cons (pe_op op_plus (pe_call G_l_next (hr.mono (by decide)) (by rfl) T.g_l_next kp_l_next b_l_next .nil pass0 (pa_cons (pv 0) (pa_cons pe_int pa_nil))) (pe_op op_times pe_int (pe_callTy cl_int (by rfl) T.f_int (by decide +kernel) (pa_cons (pe_cmpR (op_same hr.units) (pe_call G_l_next (hr.mono (by decide)) (by rfl) T.g_l_next kp_l_next b_l_next .nil pass0 (pa_cons (pv 0) (pa_cons pe_int pa_nil))) pe_int (nomark _)) pa_nil)))) pa_nil)) (blkOk_by (own := [("k", 7)]) (N := n_l_deed) (sc := defScope s_l_deed) (by decide +kernel)) (fun _ _ _ _ _ => (pg_name (i := 7) sc_l_deed.nd rfl (by first | exact Or.inl rfl | exact Or.inr rfl))) (fun _ _ _ _ _ => pts_nil) (fun _ _ _ _ _ => (pe_call G_l_next (hr.mono (by decide)) (by rfl) T.g_l_next kp_l_next b_l_next .nil pass0 (pa_cons (pv 0) (pa_cons pe_int pa_nil)))))
      (pss_cons (ps_set (i := 8) sc_l_deed.nd rfl (by first | exact Or.inl rfl | exact Or.inr rfl) (pe_callB cl_len (by rfl) T.f_len (by decide +kernel) (pa_cons (pv 6) pa_nil)))
      (pss_cons (ps_if (pt_cmpR op_notNone (pv 5) pe_non (nomark _)) (pss_one (ps_set (i := 8) sc_l_deed.nd rfl (by first | exact Or.inl rfl | exact Or.inr rfl) (pe_callB (cl_min2 rfl) (by rfl) T.f_min (by decide +kernel) (pa_cons (pv 8) (pa_cons (pv 5) pa_nil))))) pss_nil)
      (pss_cons (ps_set (i := 9) sc_l_deed.nd rfl (by first | exact Or.inl rfl | exact Or.inr rfl) (pe_callTy cl_list (by rfl) T.f_list (by decide +kernel) (pa_cons (pv 6) pa_nil)))
      (pss_cons (ps_set (i := 10) sc_l_deed.nd rfl (by first | exact Or.inl rfl | exact Or.inr rfl) (pe_meth (pv 1) T.c_File T.m_File_write G_File_write (hr.mono (by decide)) b_File_write .nil pass0 (pa_cons (pv 9) (pa_cons (pv 5) pa_nil))))
      (pss_cons (ps_if (pt_cmpR (op_diff hr.units) (pv 9) (pv 6) (nomark _)) (pss_one (ps_ret (pe_lst (pa_cons pe_bl (pa_cons (pv 2) (pa_cons (pv 3) pa_nil)))))) pss_nil)
      (pss_cons (ps_expr (pe_bm PySem.F.plainAttrs_list PySem.F.slot_list_insert PySem.F.type_list_insert mt_ins (pv 9) (pa_cons pe_int (pa_cons pe_int pa_nil))))
      (pss_cons (ps_expr (pe_bm PySem.F.plainAttrs_list PySem.F.slot_list_append PySem.F.type_list_append mt_append (pv 9) (pa_cons pe_int pa_nil)))
      (pss_one (ps_ret (pe_lst (pa_cons (pe_call G_l_same (hr.mono (by decide)) (by rfl) T.g_l_same kp_l_same b_l_same .nil pass0 (pa_cons (pv 10) (pa_cons (pv 8) pa_nil))) (pa_cons (pv 2) (pa_cons (pe_op op_plus (pv 3) (pe_lc (own := [("byte", 11)]) (g := gName 11) (tt := tYes) rfl sc_l_deed.nd (pi_list (pe_slice sl_any (pv 6) po_none (po_some (pv 8)))) (blkOk_by (own := [("byte", 11)]) (N := n_l_deed) (sc := defScope s_l_deed) (by decide +kernel)) (fun _ _ _ _ _ => (pg_name (i := 11) sc_l_deed.nd rfl (by first | exact Or.inl rfl | exact Or.inr rfl))) (fun _ _ _ _ _ => pts_nil) (fun _ _ _ _ _ => (pe_tup (pa_cons pe_int (pa_cons (pv 11) pa_nil)))))) pa_nil)))))))))))))) pss_nil)
      (pss_cons (ps_if (pt_cmpR (op_less hr.units0) (pv 4) pe_int (nomark _)) (pss_cons (ps_set (i := 12) sc_l_deed.nd rfl (by first | exact Or.inl rfl | exact Or.inr rfl) (pe_call G_l_next (hr.mono (by decide)) (by rfl) T.g_l_next kp_l_next b_l_next .nil pass0 (pa_cons (pv 0) (pa_cons (pe_op op_plus (pe_callB cl_len (by rfl) T.f_len (by decide +kernel) (pa_cons (pe_call G_l_after (hr.mono (by decide)) (by rfl) T.g_l_after kp_l_after b_l_after .nil pass0 (pa_cons (pv 2) (pa_cons (pv 3) pa_nil))) pa_nil)) pe_int) pa_nil))))
      (pss_cons (ps_set (i := 10) sc_l_deed.nd rfl (by first | exact Or.inl rfl | exact Or.inr rfl) (pe_meth (pv 1) T.c_File T.m_File_shorten G_File_shorten (hr.mono (by decide)) b_File_shorten .nil pass0 (pa_cons (pv 12) (pa_cons (pv 5) pa_nil))))
      (pss_cons (ps_if (pt_cmpR (op_same hr.units) (pv 5) pe_int (nomark _)) (pss_one (ps_ret (pe_lst (pa_cons (pe_call G_l_same (hr.mono (by decide)) (by rfl) T.g_l_same kp_l_same b_l_same .nil pass0 (pa_cons (pv 10) (pa_cons pe_int pa_nil))) (pa_cons (pv 2) (pa_cons (pv 3) pa_nil)))))) pss_nil)
      (pss_one (ps_ret (pe_lst (pa_cons (pe_call G_l_same (hr.mono (by decide)) (by rfl) T.g_l_same kp_l_same b_l_same .nil pass0 (pa_cons (pv 10) (pa_cons pe_int pa_nil))) (pa_cons (pv 2) (pa_cons (pe_op op_plus (pv 3) (pe_lst (pa_cons (pe_tup (pa_cons pe_int (pa_cons (pv 12) pa_nil))) pa_nil))) pa_nil))))))))) pss_nil)
      (pss_cons (ps_if (pt_cmpR (op_less hr.units0) (pv 4) pe_int (nomark _)) (pss_cons (ps_set (i := 10) sc_l_deed.nd rfl (by first | exact Or.inl rfl | exact Or.inr rfl) (pe_meth (pv 1) T.c_File T.m_File_flush G_File_flush (hr.mono (by decide)) b_File_flush .nil pass0 (pa_cons (pv 5) pa_nil)))
      (pss_cons (ps_if (pt_cmpR (op_same hr.units) (pv 5) pe_int (nomark _)) (pss_one (ps_ret (pe_lst (pa_cons (pe_call G_l_same (hr.mono (by decide)) (by rfl) T.g_l_same kp_l_same b_l_same .nil pass0 (pa_cons (pv 10) (pa_cons pe_int pa_nil))) (pa_cons (pv 2) (pa_cons (pv 3) pa_nil)))))) pss_nil)
      (pss_one (ps_ret (pe_lst (pa_cons (pe_call G_l_same (hr.mono (by decide)) (by rfl) T.g_l_same kp_l_same b_l_same .nil pass0 (pa_cons (pv 10) (pa_cons pe_int pa_nil))) (pa_cons (pe_call G_l_after (hr.mono (by decide)) (by rfl) T.g_l_after kp_l_after b_l_after .nil pass0 (pa_cons (pv 2) (pa_cons (pv 3) pa_nil))) (pa_cons (pe_lst pa_nil) pa_nil)))))))) pss_nil)
      (pss_cons (ps_set (i := 8) sc_l_deed.nd rfl (by first | exact Or.inl rfl | exact Or.inr rfl) (pe_call G_l_next (hr.mono (by decide)) (by rfl) T.g_l_next kp_l_next b_l_next .nil pass0 (pa_cons (pv 0) (pa_cons (pe_op op_plus (pe_callB cl_len (by rfl) T.f_len (by decide +kernel) (pa_cons (pv 3) pa_nil)) pe_int) pa_nil))))
      (pss_cons (ps_expr (pe_meth (pv 1) T.c_File T.m_File_lose G_File_lose (hr.mono (by decide)) b_File_lose .nil pass0 (pa_cons (pv 8) pa_nil)))
      (pss_one (ps_ret (pe_lst (pa_cons pe_bl (pa_cons (pe_call G_l_after (hr.mono (by decide)) (by rfl) T.g_l_after kp_l_after b_l_after .nil pass0 (pa_cons (pv 2) (pa_cons (pe_slice sl_any (pv 3) po_none (po_some (pv 8))) pa_nil))) (pa_cons (pe_lst pa_nil) pa_nil)))))))))))))), ?_⟩
    obtain ⟨G, st, p, l, s, la, ss, v1, v2, rfl, s0, hD, hA, nst, h1, h2, hz, ret⟩ := h
    have S : ST G H (fun b => (DrA st).fp b ∨ (FileA (He.ga K "File") p l s la ss).fp b) [] [.val (.ref st), .val (.ref p), .dat (.list (la.map .int)), .dat (.list (ss.map lD)), .any, .any, .any, .any, .any, .any, .any, .any, .any] [DrA st, FileA (He.ga K "File") p l s la ss] G (L2.start n_l_deed [.ref st, .ref p, v1, v2]) H := by
      refine ST.startM (N := n_l_deed) (vs := [.ref st, .ref p, v1, v2]) (ρ := [.val (.ref st), .val (.ref p), .dat (.list (la.map .int)), .dat (.list (ss.map lD))]) s0 ⟨rfl, rfl, ⟨v1, rfl, h1⟩, ⟨v2, rfl, h2⟩, True.intro⟩ (fun a ha => ?_) (fun a ha b hb => ?_) ?_
      · rcases List.mem_cons.mp ha with rfl | ha
        · exact hD.1
        · rw [List.mem_singleton.mp ha]; exact hA.1
      · rcases List.mem_cons.mp ha with rfl | ha
        · exact ⟨(hD.2 b hb).1, (hD.2 b hb).2, .inl hb⟩
        · rw [List.mem_singleton.mp ha] at hb
          exact ⟨(hA.2 b hb).1, (hA.2 b hb).2, .inr hb⟩
      · refine List.pairwise_cons.mpr ⟨fun a ha b hb z => ?_, List.pairwise_singleton _ _⟩
        rw [List.mem_singleton.mp ha] at z
        have e : b = st := hb
        rw [e] at z
        exact nst z
    -- the end
    have fin : ∀ {ρ : List Sl} {G' H' : Hp} {σ : St} {l' s' : Addr} {la' : List Int} {ss' : List Stp} {r : V}, ST G H (fun b => (DrA st).fp b ∨ (FileA (He.ga K "File") p l s la ss).fp b) [] ρ [DrA st, FileA (He.ga K "File") p l' s' la' ss'] G' σ H' → Da G' r (.list [.bool true, .list (la'.map .int), .list (ss'.map lD)]) → la'.length + ss'.length ≤ la.length + ss.length + 70 → Q r H' := by
      intro ρ G' H' σ l' s' la' ss' r S hr hl
      have S2 := S.swap
      refine ret G' H' l' s' la' ss' r S.gx S.at S2.at (fun b hb => ?_) hr hl
      rcases (S2.hfp hb).2.2 with h | h
      · rcases h with h | h
        · exact absurd hb ((List.pairwise_cons.mp S.dj).1 _ (List.mem_singleton.mpr rfl) b h)
        · exact .inl h
      · exact .inr h
    walk_at "st"
    refine c_draw S (by decide) (fun pick G1 H1 hp0 hp1 S sg1 => ?_)
    walk_at "sj"
    refine c_seqJ (fun σ' H' => ∃ G' w, (w = .non ∨ ∃ n : Nat, w = .int n) ∧ ST G H (fun b => (DrA st).fp b ∨ (FileA (He.ga K "File") p l s la ss).fp b) [] [.val (.ref st), .val (.ref p), .dat (.list (la.map .int)), .dat (.list (ss.map lD)), .val (.int pick), .val w, .any, .any, .any, .any, .any, .any, .any] [DrA st, FileA (He.ga K "File") p l s la ss] G' σ' H') ?rest ?first
    case first =>
      intro J hJ
      walk_at "st"
      refine c_draw (by assumption) (by decide) (fun r1 G2 H2 hr0 hr1 S sg2 => ?_)
      walk_at "st"
      refine c_ite (fun _ => ?_) (fun _ => ?_)
      · walk_at "st"
        refine c_draw (by assumption) (by decide) (fun r2 G3 H3 h20 h21 S sg3 => ?_)
        walk_at "st"
        refine c_draw (by assumption) (by decide) (fun r3 G4 H4 h30 h31 S sg4 => ?_)
        walk_at "st"
        refine c_mkL S (by walk_at "da") (by show 2 ≤ sizeLine; decide) (fun v G5 H5 S g hv => ?_)
        walk_at "st"
        refine c_draw (by assumption) (by decide) (fun r4 G6 H6 h40 h41 S sg6 => ?_)
        have hv := hv.mono sg6
        have e4 : r4 = 0 ∨ r4 = 1 := by omega
        rcases e4 with rfl | rfl
        · refine c_ixL (k := 0) hv S.same rfl (.inl ⟨by decide, rfl⟩) (fun w hw => ?_)
          cases hw
          walk_at "st"
          exact hJ _ _ ⟨_, _, .inr ⟨r2.toNat, by rw [Int.toNat_of_nonneg h20]⟩, ST.le (by assumption) (by walk_at "le")⟩
        · refine c_ixL (k := 1) hv S.same rfl (.inl ⟨by decide, rfl⟩) (fun w hw => ?_)
          cases hw
          walk_at "st"
          exact hJ _ _ ⟨_, _, .inr ⟨r3.toNat, by rw [Int.toNat_of_nonneg h30]⟩, ST.le (by assumption) (by walk_at "le")⟩
      · walk_at "st"
        exact hJ _ _ ⟨_, _, .inl rfl, ST.le (by assumption) (by walk_at "le")⟩
    case rest =>
      rintro σ2 H2 ⟨G2, w, hw, S⟩
      walk_at "st"
      refine c_ite (fun _ => ?_) (fun _ => ?_)
      · walk_at "st"
        refine c_draw S (by decide) (fun r1 G3 H3 h10 h11 S _ => ?_)
        walk_at "st"
        refine c_draw S (by decide) (fun r2 G4 H4 h20 h21 S _ => ?_)
        walk_at "st"
        refine c_times (.inl ⟨by decide, by decide⟩) ?_
        walk_at "st"
        generalize hb : (if decide (r2 = 0) = true then (1 : Int) else 0) = bt
        have hb2 : bt = 0 ∨ bt = 1 := by rw [← hb]; split <;> simp
        refine c_r1 (by omega) (by omega) ?_
        intro D hD
        refine c_compR (fun i acc => ∃ bs : List Int, bs.length = i ∧ acc = bs.map .int) S hD ⟨[], rfl, rfl⟩ ?_ ?_
        · rintro i acc G' H' hi ⟨bs, hbl, rfl⟩ S
          refine c_setc S (fun S => ?_)
          refine ⟨by walk_at "wp", ?_⟩
          walk_at "st"
          refine iteT ?_
          walk_at "st"
          refine c_draw S.swap (by decide) (fun r G5 H5 h50 h51 S _ => ?_)
          refine c_lcItem S.swap (.int r) (by rw [List.length_map]; exact sz_int (by omega)) (fun H6 S => ?_)
          refine ⟨G5, _, ⟨bs ++ [r], by rw [List.length_append, hbl]; rfl, by rw [List.map_append]; rfl⟩, (S.wipe' (by walk_at "wp")).le (by walk_at "le")⟩
        · rintro G' H' acc _ ⟨bs, hbl, rfl⟩ S q0
          obtain ⟨G5, S, hf, _⟩ := S.freeze q0
          have hbl : bs.length ≤ 59 := by omega
          refine c_setD S hf (fun σ3 S => ?_)
          walk_at "sj"
          rename_i S
          rw [List.length_map] at S
          refine c_seqJ (fun σ' H' => ∃ G' cnt, Lim w bs.length cnt ∧ ST G H (fun b => (DrA st).fp b ∨ (FileA (He.ga K "File") p l s la ss).fp b) [] [.val (.ref st), .val (.ref p), .dat (.list (la.map .int)), .dat (.list (ss.map lD)), .any, .val w, .dat (.list (bs.map .int)), .any, .val (.int (cnt : Nat)), .any, .any, .any, .any] [DrA st, FileA (He.ga K "File") p l s la ss] G' σ' H') ?rest2 ?first2
          case first2 =>
            intro J hJ
            rcases hw with rfl | ⟨n, rfl⟩
            · walk_at "st"
              refine c_iteN (fun h => absurd rfl h) (fun _ => ?_)
              walk_at "st"
              exact hJ _ _ ⟨_, bs.length, .inl ⟨rfl, rfl⟩, ST.le (by assumption) (by walk_at "le")⟩
            · walk_at "st"
              refine c_iteN (fun _ => ?_) (fun h => nomatch h)
              walk_at "st"
              have e : (if (n : Int) < (bs.length : Int) then (n : Int) else (bs.length : Int)) = ((min n bs.length : Nat) : Int) := by split <;> omega
              rename_i S
              rw [e] at S
              exact hJ _ _ ⟨_, min n bs.length, .inr ⟨n, rfl, rfl⟩, S.le (by walk_at "le")⟩
          case rest2 =>
            rintro σ4 H4 ⟨G4, cnt, hlim, S⟩
            have hcnt : cnt ≤ bs.length := by rcases hlim with ⟨_, rfl⟩ | ⟨n, _, rfl⟩ <;> omega
            walk_at "st"
            refine c_listL (by assumption) S (fun q H5 S q0 _ => ?_)
            refine c_set S (fun σ5 S => ?_)
            walk_at "st"
            have SF := S.rot
            obtain ⟨⟨nls, ⟨dx, eo⟩, _⟩, _⟩ := SF.at
            refine c_methAt eo (f2_no (by decide +kernel) (by decide +kernel)) ?_
            walk_at "st"
            obtain ⟨ws, eq, hws⟩ := S.head
            cases da_ints hws
            refine ⟨_, p, l, s, la, ss, q, w, bs, cnt, rfl, S.same, SF.at, eq, hlim, by omega, fun G6 H6 l2 s2 g hA2 hf2 => ?_⟩
            have S := SF.called g hA2 hf2
            walk_at "st"
            have SQ := S.swap
            obtain ⟨ws, eq, hws⟩ := SQ.head
            obtain ⟨s1, d1, sg⟩ := lend S.same (SQ.hfp rfl).1 eq hws
            refine c_diffEq d1 (Da.mono (by assumption) sg) s1 (shaped_ints bs) ?_
            walk_at "st"
            refine iteF ?_
            walk_at "st"
            refine ⟨c_tyM (ST.swap (by assumption)), ?_⟩
            walk_at "st"
            refine c_insert (ST.swap (by assumption)) (.int 9) (by rw [List.length_map]; exact sz_int (by omega)) (by decide) (by decide) (fun H7 S => ?_)
            walk_at "st"
            refine ⟨c_tyM S, ?_⟩
            walk_at "st"
            refine c_append S (.int 9) (by simp; exact sz_int (by omega)) (fun H8 S => ?_)
            have S := S.drop.swap
            walk_at "st"
            refine c_callP S (by walk_at "da") ⟨7, _, rfl, rfl, fits_int, rfl⟩ (fun v G9 H9 S _ hv => ?_)
            cases hv
            walk_at "st"
            rename_i va hva vb hvb vc hvc
            refine c_slL hvc S (fun v2 G2 H2 S g2 hv2 => ?_)
            rw [cutD_to, ← List.map_take] at hv2
            refine c_iL hv2 S.same (fun a ea D hD => ?_)
            subst ea
            refine c_compL (fun i acc => acc = ((bs.take cnt).take i).map fun b => lD (.app b)) S hv2 hD rfl ?_ ?_
            · rintro i d y acc G' H' hd hy rfl S
              rw [List.getElem?_map] at hd
              cases eb : (bs.take cnt)[i]? with
              | none => rw [eb] at hd; cases hd
              | some b =>
                rw [eb] at hd
                obtain rfl : PyData.int b = d := Option.some.inj hd
                cases hy
                refine c_setc S (fun S => ?_)
                refine ⟨by walk_at "wp", ?_⟩
                walk_at "st"
                refine iteT ?_
                walk_at "st"
                refine c_mkT S (by walk_at "da") (by show 2 ≤ sizeLine; decide) (fun v G4 H4 S g hv => ?_)
                have hi : i < (bs.take cnt).length := (List.getElem?_eq_some_iff.mp eb).1
                have hl2 : (bs.take cnt).length ≤ 59 := by rw [List.length_take]; omega
                refine c_lcItem S hv (by rw [List.length_map, List.length_take]; exact sz_int (by omega)) (fun H5 S => ?_)
                refine ⟨G4, _, ?_, (S.wipe' (by walk_at "wp")).le (by walk_at "le")⟩
                rw [List.take_add_one, eb, List.map_append]
                rfl
            · rintro G' H' acc sG rfl S q0
              obtain ⟨G3, S, hf, sG3⟩ := S.freeze q0
              rw [List.length_map, List.take_length] at hf
              have sA : Same G9 G3 := g2.g.trans (sG.trans sG3)
              refine c_plusL (hvb.mono sA) hf S (by
                rw [List.length_map, List.length_map, List.length_take]
                exact Nat.le_of_lt (sz_int (by omega))) (fun v5 G5 H5 S g5 hv5 => ?_)
              walk_at "st"
              refine c_mkL S (.cons (.bl true) (.cons (hva.mono (sA.trans g5.g)) (.cons hv5 .nil))) (by show 3 ≤ sizeLine; decide) (fun r G6 H6 S g6 hr => ?_)
              have e : ss.map lD ++ (bs.take cnt).map (fun b => lD (.app b)) = (ss ++ (bs.take cnt).map Stp.app).map lD := by
                rw [List.map_append, List.map_map]
                rfl
              rw [e] at hr
              exact fin S hr (by rw [List.length_append, List.length_map, List.length_take]; omega)
      · walk_at "st"
        refine c_ite (fun _ => ?_) (fun _ => ?_)
        · -- a truncation
          walk_at "st"
          rename_i va hva vb hvb
          refine c_callLf S (.cons hva (.cons hvb .nil)) ⟨la, ss, rfl, by omega, rfl⟩ (fun v3 G3 H3 S g3 hv3 => ?_)
          walk_at "st"
          rw [List.length_map]
          refine c_draw S (by omega) (fun sz G4 H4 h40 h41 S sg4 => ?_)
          obtain ⟨n, rfl⟩ : ∃ n : Nat, sz = n := ⟨sz.toNat, by omega⟩
          walk_at "st"
          rename_i S
          obtain ⟨⟨nls, ⟨dx, eo⟩, _⟩, _⟩ := S.swap.at
          refine c_methAt eo (f2_no (by decide +kernel) (by decide +kernel)) ?_
          walk_at "st"
          by_cases hw0 : w = .int 0
          · subst hw0
            refine ⟨_, p, l, s, la, ss, .int 0, n, 0, rfl, S.same, S.swap.at, .inl ⟨rfl, rfl⟩, by omega, fun G6 H6 l2 s2 g hA2 hf2 => ?_⟩
            have S := (S.swap.called g hA2 hf2).swap
            have S : ST G H (fun b => (DrA st).fp b ∨ (FileA (He.ga K "File") p l s la ss).fp b) [] _ [DrA st, FileA (He.ga K "File") p l2 s2 la ss] G6 _ H6 := S
            walk_at "st"
            refine c_ite (fun _ => ?_) (fun h => absurd rfl h)
            walk_at "st"
            refine c_callP (by assumption) (by walk_at "da") ⟨7, _, rfl, rfl, fits_int, rfl⟩ (fun v G9 H9 S _ hv => ?_)
            cases hv
            walk_at "st"
            rename_i va hva vb hvb
            refine c_mkL S (.cons (.bl true) (.cons hva (.cons hvb .nil))) (by show 3 ≤ sizeLine; decide) (fun r G6 H6 S g6 hr => ?_)
            exact fin S hr (by omega)
          · have hlim : w = .non ∨ ∃ m : Int, w = .int m ∧ m ≠ 0 := by
              rcases hw with h | ⟨n, h⟩
              · exact .inl h
              · exact .inr ⟨n, h, fun z => hw0 (by rw [h, z])⟩
            refine ⟨_, p, l, s, la, ss, w, n, 1, rfl, S.same, S.swap.at, ?_, by omega, fun G6 H6 l2 s2 g hA2 hf2 => ?_⟩
            · rcases hlim with h | ⟨m, h, h2⟩
              · exact .inr (.inl ⟨h, rfl⟩)
              · exact .inr (.inr ⟨m, h, h2, rfl⟩)
            have S := (S.swap.called g hA2 hf2).swap
            have S : ST G H (fun b => (DrA st).fp b ∨ (FileA (He.ga K "File") p l s la ss).fp b) [] _ [DrA st, FileA (He.ga K "File") p l2 s2 la (ss ++ [.cut n])] G6 _ H6 := S
            walk_at "st"
            have ev : ∀ Q' : VK, Q' (.bl false) H6 → rSame K w (.int 0) H6 Q' := fun Q' hq => by
              rcases hlim with rfl | ⟨m, rfl, h2⟩
              · exact c_sameNI hq
              · refine c_sameI ?_
                rw [decide_eq_false h2]
                exact hq
            refine ev _ ?_
            walk_at "st"
            refine iteF ?_
            walk_at "st"
            refine c_callP (by assumption) (by walk_at "da") ⟨7, _, rfl, rfl, fits_int, rfl⟩ (fun v G9 H9 S _ hv => ?_)
            cases hv
            walk_at "st"
            rename_i va hva vb hvb
            refine c_mkT S (by walk_at "da") (by show 2 ≤ sizeLine; decide) (fun v4 G4 H4 S g4 hv4 => ?_)
            walk_at "st"
            refine c_mkL S (.cons hv4 .nil) (by show 1 ≤ sizeLine; decide) (fun v5 G5 H5 S g5 hv5 => ?_)
            walk_at "st"
            refine c_plusL (hvb.mono (g4.g.trans g5.g)) hv5 S (by
                rw [List.length_map]
                exact Nat.le_of_lt (sz_int (by show ss.length + 1 ≤ _; omega))) (fun v7 G7 H7 S g7 hv7 => ?_)
            walk_at "st"
            refine c_mkL S (.cons (.bl true) (.cons (hva.mono (g4.g.trans (g5.g.trans g7.g))) (.cons hv7 .nil))) (by show 3 ≤ sizeLine; decide) (fun r G6 H6 S g6 hr => ?_)
            have e : ss.map lD ++ [PyData.tuple [.int 1, .int n]] = (ss ++ [Stp.cut n]).map lD := by
              rw [List.map_append]
              rfl
            rw [e] at hr
            exact fin S hr (by rw [List.length_append]; show _ + (_ + 1) ≤ _; omega)
        · walk_at "st"
          refine c_ite (fun _ => ?_) (fun _ => ?_)
          · -- a flush
            walk_at "st"
            obtain ⟨⟨nls, ⟨dx, eo⟩, _⟩, _⟩ := S.swap.at
            refine c_methAt eo (f2_no (by decide +kernel) (by decide +kernel)) ?_
            walk_at "st"
            by_cases hw0 : w = .int 0
            · subst hw0
              refine ⟨_, p, l, s, la, ss, .int 0, 0, rfl, S.same, S.swap.at, .inl ⟨rfl, rfl⟩, by omega, fun G6 H6 l2 s2 g hA2 hf2 => ?_⟩
              have S := (S.swap.called g hA2 hf2).swap
              have S : ST G H (fun b => (DrA st).fp b ∨ (FileA (He.ga K "File") p l s la ss).fp b) [] _ [DrA st, FileA (He.ga K "File") p l2 s2 la ss] G6 _ H6 := S
              walk_at "st"
              refine c_ite (fun _ => ?_) (fun h => absurd rfl h)
              walk_at "st"
              refine c_callP (by assumption) (by walk_at "da") ⟨7, _, rfl, rfl, fits_int, rfl⟩ (fun v G9 H9 S _ hv => ?_)
              cases hv
              walk_at "st"
              rename_i va hva vb hvb
              refine c_mkL S (.cons (.bl true) (.cons hva (.cons hvb .nil))) (by show 3 ≤ sizeLine; decide) (fun r G6 H6 S g6 hr => ?_)
              exact fin S hr (by omega)
            · have hlim : w = .non ∨ ∃ m : Int, w = .int m ∧ m ≠ 0 := by
                rcases hw with h | ⟨n, h⟩
                · exact .inl h
                · exact .inr ⟨n, h, fun z => hw0 (by rw [h, z])⟩
              refine ⟨_, p, l, s, la, ss, w, 1, rfl, S.same, S.swap.at, ?_, by omega, fun G6 H6 l2 s2 g hA2 hf2 => ?_⟩
              · rcases hlim with h | ⟨m, h, h2⟩
                · exact .inr (.inl ⟨h, rfl⟩)
                · exact .inr (.inr ⟨m, h, h2, rfl⟩)
              have S := (S.swap.called g hA2 hf2).swap
              have S : ST G H (fun b => (DrA st).fp b ∨ (FileA (He.ga K "File") p l s la ss).fp b) [] _ [DrA st, FileA (He.ga K "File") p l2 s2 (runs la ss) []] G6 _ H6 := S
              walk_at "st"
              have ev : ∀ Q' : VK, Q' (.bl false) H6 → rSame K w (.int 0) H6 Q' := fun Q' hq => by
                rcases hlim with rfl | ⟨m, rfl, h2⟩
                · exact c_sameNI hq
                · refine c_sameI ?_
                  rw [decide_eq_false h2]
                  exact hq
              refine ev _ ?_
              walk_at "st"
              refine iteF ?_
              walk_at "st"
              refine c_callP (by assumption) (by walk_at "da") ⟨7, _, rfl, rfl, fits_int, rfl⟩ (fun v G9 H9 S _ hv => ?_)
              cases hv
              walk_at "st"
              rename_i va hva vb hvb
              refine c_callLf S (.cons hva (.cons hvb .nil)) ⟨la, ss, rfl, by omega, rfl⟩ (fun v3 G3 H3 S g3 hv3 => ?_)
              walk_at "st"
              refine c_mkL S .nil (by decide) (fun v5 G5 H5 S g5 hv5 => ?_)
              walk_at "st"
              refine c_mkL S (.cons (.bl true) (.cons (hv3.mono g5.g) (.cons hv5 .nil))) (by show 3 ≤ sizeLine; decide) (fun r G6 H6 S g6 hr => ?_)
              have := runs_len ss la
              exact fin S hr (by show _ + 0 ≤ _; omega)
          · -- a loss
            walk_at "st"
            rw [List.length_map]
            refine c_draw S (by omega) (fun sz G4 H4 h40 h41 S sg4 => ?_)
            obtain ⟨n, rfl⟩ : ∃ n : Nat, sz = n := ⟨sz.toNat, by omega⟩
            walk_at "st"
            rename_i S
            obtain ⟨⟨nls, ⟨dx, eo⟩, _⟩, _⟩ := S.swap.at
            refine c_methAt eo (f2_no (by decide +kernel) (by decide +kernel)) ?_
            walk_at "st"
            refine ⟨_, p, l, s, la, ss, n, rfl, S.same, S.swap.at, by omega, fun G6 H6 l2 s2 g hA2 hf2 => ?_⟩
            have S := (S.swap.called g hA2 hf2).swap
            walk_at "st"
            rename_i va hva vb hvb
            refine c_slL hvb S (fun v2 G2 H2 S g2 hv2 => ?_)
            rw [cutD_to, ← List.map_take] at hv2
            walk_at "st"
            refine c_callLf S (.cons (hva.mono g2.g) (.cons hv2 .nil)) ⟨la, ss.take n, rfl, by rw [List.length_take]; omega, rfl⟩ (fun v3 G3 H3 S g3 hv3 => ?_)
            walk_at "st"
            refine c_mkL S .nil (by decide) (fun v5 G5 H5 S g5 hv5 => ?_)
            walk_at "st"
            refine c_mkL S (.cons (.bl true) (.cons (hv3.mono g5.g) (.cons hv5 .nil))) (by show 3 ≤ sizeLine; decide) (fun r G6 H6 S g6 hr => ?_)
            have := runs_len (ss.take n) la
            rw [List.length_take] at this
            exact fin S hr (by show _ + 0 ≤ _; omega)
theorem ok_l_deed (T : Tx K mg) (c : He.SaysD fas fns K) (h_l_next : OkF P w K mg base CX0 ("_law_next", none) ["state", "limit"] 3 sp_next) (h_File_write : OkF P w K mg base CX0 ("File", some "write") ["self", "data", "steps"] 1 (spWrite (He.ga K "File"))) (h_l_same : OkF P w K mg base CX0 ("_law_same", none) ["actual", "expected"] 9 (sp_same 8)) (h_l_after : OkF P w K mg base CX0 ("_law_after", none) ["data", "steps"] 1 (spL (R_steps lD))) (h_File_shorten : OkF P w K mg base CX0 ("File", some "shorten") ["self", "size", "steps"] 1 (spShorten (He.ga K "File"))) (h_File_flush : OkF P w K mg base CX0 ("File", some "flush") ["self", "steps"] 3 (spFlush (He.ga K "File"))) (h_File_lose : OkF P w K mg base CX0 ("File", some "lose") ["self", "steps"] 2 (spLose (He.ga K "File"))) : OkF P w K mg base CX0 ("_law_deed", none) ["state", "file", "lasting", "steps"] 10 (spDeed (He.ga K "File")) := by
  obtain ⟨fd, F⟩ := c.def_ 15 (d := d_l_deed) rfl
  exact ⟨fd, fo_l_deed T F h_l_next h_File_write h_l_same h_l_after h_File_shorten h_File_flush h_File_lose, F.kp, F.bindsN fun _ _ _ _ _ _ us hl => match us, hl with | [_, _, _, _], _ => rfl⟩
end
section
variable {K : PySem.W.Frag} {mg : Str → Option Value} {G0 H0 : Hp} {L : Addr → Prop} {π : List Pin} {ρ : List Sl} {μ : List As} {G H : Hp} {σ : St} {C p l s : Addr} {la : List Int} {ss : List Stp} {Q : VK} {E : XK}
theorem c_newFile (S : ST G0 H0 L π ρ μ G σ H) (k : ∀ p l s H', ST G0 H0 L π ρ (FileA C p l s [] [] :: μ) G σ H' → Q (.ref p) H') : makeW C (spInit C) E Q [] H := by
  intro x dx hx hd ne
  obtain ⟨S1, _⟩ := S.newO (C := C) hx hd ne
  refine ⟨G, x, dx, rfl, S1.same, S1.at, fun H' l s g hA hl hs => ⟨rfl, k x l s H' (S1.called g hA fun b hb => ?_)⟩⟩
  rcases hb with rfl | rfl | rfl
  · exact .inl rfl
  · exact .inr hl
  · exact .inr hs
theorem c_write {a : Addr} {w : V} {bs : List Int} {cnt : Nat} (S : ST G0 H0 L π ρ (FileA C p l s la ss :: μ) G σ H) (ha : H a = some (.lst (bs.map V.int))) (hl : Lim w bs.length cnt) (hz : la.length + ss.length + bs.length ≤ 1000000)
    (k : ∀ l s G' H', ST G0 H0 L π ρ (FileA C p l s la (ss ++ (bs.take cnt).map .app) :: μ) G' σ H' → Same G G' → Q (.int cnt) H') : spWrite C [.ref p, .ref a, w] H Q E :=
  ⟨G, p, l, s, la, ss, a, w, bs, cnt, rfl, S.same, S.at, ha, hl, hz, fun G' H' l' s' g hA hf => k l' s' G' H' (S.called g hA hf) g.g⟩
theorem c_content (S : ST G0 H0 L π ρ (FileA C p l s la ss :: μ) G σ H) (hz : la.length + ss.length ≤ 1000000) (k : ∀ q G' H', ST G0 H0 L π ρ (As.lst q ((runs la ss).map .int) :: FileA C p l s la ss :: μ) G' σ H' → H0 q = none → Same G G' → Q (.ref q) H') : spContent C [.ref p] H Q E :=
  ⟨G, p, l, s, la, ss, rfl, S.same, S.at, hz, fun q ws G' H' g hq gq e hw => k q G' H' (S.add g ⟨ws, e, hw⟩ fun b z => by cases z; exact ⟨hq, gq, by rw [e]; exact fun z => nomatch z⟩) (S.new0 hq) g.g⟩
theorem c_contentF (S : ST G0 H0 L π ρ (FileA C p l s la ss :: μ) G σ H) (hz : la.length + ss.length ≤ 1000000) (k : ∀ v G' H', ST G0 H0 L π ρ (FileA C p l s la ss :: μ) G' σ H' → Same G G' → Da G' v (.list ((runs la ss).map .int)) → Q v H') : spContent C [.ref p] H Q E :=
  c_content S hz fun q G' H' S q0 sg => by
    obtain ⟨G3, S, hf, s3⟩ := S.freeze q0
    exact k _ G3 H' S (sg.trans s3) hf
theorem c_pending (S : ST G0 H0 L π ρ (FileA C p l s la ss :: μ) G σ H) (k : Q (.int ss.length) H) : spPending C [.ref p] H Q E := ⟨G, p, l, s, la, ss, rfl, S.same, S.at, k⟩
theorem c_methF {m : Str} {sp : Sp} {t : TA} (S : ST G0 H0 L π ρ (FileA C p l s la ss :: μ) G σ H) (h1 : ¬ m = "_lasting") (h2 : ¬ m = "_steps") (h : t σ H fun vs H2 => sp (.ref p :: vs) H2 Q E) : methW C m sp E t σ Q (.ref p) H := by
  obtain ⟨_, ⟨dx, e⟩, _⟩ := S.head
  exact c_methAt e (f2_no h1 h2) h
end
def sp_law (K : PySem.W.Frag) : Sp := fun vs H Q _ => ∃ (a : Addr) (ns : List Int), vs = [.ref a] ∧ SqL K H a (ns.map V.int) ∧ ns.length ≤ 63 ∧ (∀ z ∈ ns, Builtin.Int.intBits z ≤ 1048576) ∧ ∀ H', Q (.bl true) H'
section
variable {P : Program} {w : World} {K : PySem.W.Frag} {mg : Str → Option Value} {base : Heap}
theorem fo_law (T : Tx K mg) {fd : FuncData} (F : FunD K "law" "law" (defArgs s_law) (defBody s_law) (defScope s_law) [] [] (He.fAd K ("law", none)) fd) (h_l_draws : OkF P w K mg base CX0 ("_law_draws", none) ["script"] 2 (sp_draws K)) (h_File_init : OkF P w K mg base CX0 ("File", some "__init__") ["self"] 1 (spInit (He.ga K "File"))) (h_File_write : OkF P w K mg base CX0 ("File", some "write") ["self", "data", "steps"] 1 (spWrite (He.ga K "File"))) (h_File_flush : OkF P w K mg base CX0 ("File", some "flush") ["self", "steps"] 3 (spFlush (He.ga K "File"))) (h_l_next : OkF P w K mg base CX0 ("_law_next", none) ["state", "limit"] 3 sp_next) (h_l_same : OkF P w K mg base CX0 ("_law_same", none) ["actual", "expected"] 9 (sp_same 8)) (h_File_pending : OkF P w K mg base CX0 ("File", some "pending") ["self"] 1 (spPending (He.ga K "File"))) (h_File_content : OkF P w K mg base CX0 ("File", some "content") ["self"] 2 (spContent (He.ga K "File"))) (h_l_deed : OkF P w K mg base CX0 ("_law_deed", none) ["state", "file", "lasting", "steps"] 10 (spDeed (He.ga K "File"))) (h_l_after : OkF P w K mg base CX0 ("_law_after", none) ["data", "steps"] 1 (spL (R_steps lD))) (h_File_lose : OkF P w K mg base CX0 ("File", some "lose") ["self", "steps"] 2 (spLose (He.ga K "File")))  : FnOk P w K mg base CX0 11 (He.fAd K ("law", none)) fd ["script"] (sp_law K) := by
  obtain ⟨fd_l_draws, G_l_draws, kp_l_draws, b_l_draws⟩ := h_l_draws
  obtain ⟨fd_File_init, G_File_init, kp_File_init, b_File_init⟩ := h_File_init
  obtain ⟨fd_File_write, G_File_write, kp_File_write, b_File_write⟩ := h_File_write
  obtain ⟨fd_File_flush, G_File_flush, kp_File_flush, b_File_flush⟩ := h_File_flush
  obtain ⟨fd_l_next, G_l_next, kp_l_next, b_l_next⟩ := h_l_next
  obtain ⟨fd_l_same, G_l_same, kp_l_same, b_l_same⟩ := h_l_same
  obtain ⟨fd_File_pending, G_File_pending, kp_File_pending, b_File_pending⟩ := h_File_pending
  obtain ⟨fd_File_content, G_File_content, kp_File_content, b_File_content⟩ := h_File_content
  obtain ⟨fd_l_deed, G_l_deed, kp_l_deed, b_l_deed⟩ := h_l_deed
  obtain ⟨fd_l_after, G_l_after, kp_l_after, b_l_after⟩ := h_l_after
  obtain ⟨fd_File_lose, G_File_lose, kp_File_lose, b_File_lose⟩ := h_File_lose
  refine F.ok sc_law (fun vs H Q E h => ?len) (fun cdv A outer s H vs Q E hr h => ?read)
  case len =>
    obtain ⟨a, ns, rfl, _⟩ := h
    rfl
  case read =>
    refine ⟨_, PSs.nox (pss_cons (ps_set (i := 1) sc_law.nd rfl (by first | exact Or.inl rfl | exact Or.inr rfl) (pe_lst (pa_cons (pe_call G_l_draws (hr.mono (by decide)) (by rfl) T.g_l_draws kp_l_draws b_l_draws .nil pass0 (pa_cons (pv 0) pa_nil)) (pa_cons pe_int pa_nil))))
      (pss_cons (ps_set (i := 2) sc_law.nd rfl (by first | exact Or.inl rfl | exact Or.inr rfl) (pe_make0 T.k_File G_File_init (hr.mono (by decide)) (by rfl) T.g_File b_File_init .nil pass0))
      (pss_cons (ps_set (i := 3) sc_law.nd rfl (by first | exact Or.inl rfl | exact Or.inr rfl) (pe_lst pa_nil))
      (pss_cons (ps_set (i := 4) sc_law.nd rfl (by first | exact Or.inl rfl | exact Or.inr rfl) (pe_lst pa_nil))
      (pss_cons (ps_set (i := 5) sc_law.nd rfl (by first | exact Or.inl rfl | exact Or.inr rfl) (pe_make0 T.k_File G_File_init (hr.mono (by decide)) (by rfl) T.g_File b_File_init .nil pass0))
      (pss_cons (ps_set (i := 6) sc_law.nd rfl (by first | exact Or.inl rfl | exact Or.inr rfl) (pe_make0 T.k_File G_File_init (hr.mono (by decide)) (by rfl) T.g_File b_File_init .nil pass0))
      (pss_cons (ps_expr (pe_meth (pv 6) T.c_File T.m_File_write G_File_write (hr.mono (by decide)) b_File_write .nil pass0 (pa_cons (pe_lst (pa_cons pe_int (pa_cons pe_int pa_nil))) (pa_cons pe_non pa_nil))))
      (pss_cons (ps_expr (pe_meth (pv 6) T.c_File T.m_File_flush G_File_flush (hr.mono (by decide)) b_File_flush .nil pass0 (pa_cons pe_non pa_nil)))
      (pss_cons (ps_expr (pe_meth (pv 6) T.c_File T.m_File_write G_File_write (hr.mono (by decide)) b_File_write .nil pass0 (pa_cons (pe_lst (pa_cons pe_int pa_nil)) (pa_cons pe_non pa_nil))))
      (pss_cons (ps_for PassesOwn.never rfl (pi_range1 (by rfl) T.f_range (pa_cons (pe_call G_l_next (hr.mono (by decide)) (by rfl) T.g_l_next kp_l_next b_l_next .nil pass0 (pa_cons (pv 1) (pa_cons pe_int pa_nil))) pa_nil)) (pg_name (i := 7) sc_law.nd rfl (by first | exact Or.inl rfl | exact Or.inr rfl))
      (pss_cons (ps_if (pt_cmpR (op_same hr.units) (pe_call G_l_next (hr.mono (by decide)) (by rfl) T.g_l_next kp_l_next b_l_next .nil pass0 (pa_cons (pv 1) (pa_cons pe_int pa_nil))) pe_int (nomark _)) (pss_cons (ps_expr (pe_meth (pv 5) T.c_File T.m_File_write G_File_write (hr.mono (by decide)) b_File_write .nil pass0 (pa_cons (pe_lst (pa_cons (pv 7) (pa_cons (pe_op op_plus (pv 7) pe_int) (pa_cons (pe_op op_plus (pv 7) pe_int) pa_nil)))) (pa_cons pe_non pa_nil))))
      (pss_cons (ps_if (PW.pt (pw_or (pt_not (pt_val (pe_call G_l_same (hr.mono (by decide)) (by rfl) T.g_l_same kp_l_same b_l_same .nil pass0 (pa_cons (pe_meth0 (pv 5) T.c_File T.m_File_content G_File_content (hr.mono (by decide)) b_File_content .nil pass0) (pa_cons (pe_lst (pa_cons (pv 7) (pa_cons (pe_op op_plus (pv 7) pe_int) (pa_cons (pe_op op_plus (pv 7) pe_int) pa_nil)))) pa_nil))))) (pw_or1 (pt_not (pt_val (pe_call G_l_same (hr.mono (by decide)) (by rfl) T.g_l_same kp_l_same b_l_same .nil pass0 (pa_cons (pe_meth0 (pv 5) T.c_File T.m_File_pending G_File_pending (hr.mono (by decide)) b_File_pending .nil pass0) (pa_cons pe_int pa_nil)))))))) (pss_one (ps_ret pe_bl)) pss_nil)
      (pss_cons (ps_set (i := 5) sc_law.nd rfl (by first | exact Or.inl rfl | exact Or.inr rfl) (pe_make0 T.k_File G_File_init (hr.mono (by decide)) (by rfl) T.g_File b_File_init .nil pass0))
      (pss_one (ps_if (PW.pt (pw_or (pt_cmpR (op_diff hr.units) (pe_meth0 (pv 5) T.c_File T.m_File_content G_File_content (hr.mono (by decide)) b_File_content .nil pass0) (pe_lst pa_nil) (nomark _)) (pw_or1 (pt_not (pt_val (pe_call G_l_same (hr.mono (by decide)) (by rfl) T.g_l_same kp_l_same b_l_same .nil pass0 (pa_cons (pe_meth0 (pv 5) T.c_File T.m_File_pending G_File_pending (hr.mono (by decide)) b_File_pending .nil pass0) (pa_cons pe_int pa_nil)))))))) (pss_one (ps_ret pe_bl)) pss_nil))))) pss_nil)
      (pss_cons (ps_asg (pe_call G_l_deed (hr.mono (by decide)) (by rfl) T.g_l_deed kp_l_deed b_l_deed .nil pass0 (pa_cons (pv 1) (pa_cons (pv 2) (pa_cons (pv 3) (pa_cons (pv 4) pa_nil))))) (pg_unl rfl (pgs_cons (pg_name (i := 8) sc_law.nd rfl (by first | exact Or.inl rfl | exact Or.inr rfl)) (pgs_cons (pg_name (i := 3) sc_law.nd rfl (by first | exact Or.inl rfl | exact Or.inr rfl)) (pgs_cons (pg_name (i := 4) sc_law.nd rfl (by first | exact Or.inl rfl | exact Or.inr rfl)) pgs_nil)))))
      (pss_cons (ps_if (PW.pt (pw_or (pt_not (pt_val (pv 8))) (pw_or1 (pt_not (pt_val (pe_call G_l_same (hr.mono (by decide)) (by rfl) T.g_l_same kp_l_same b_l_same .nil pass0 (pa_cons (pe_meth0 (pv 2) T.c_File T.m_File_content G_File_content (hr.mono (by decide)) b_File_content .nil pass0) (pa_cons (pe_call G_l_after (hr.mono (by decide)) (by rfl) T.g_l_after kp_l_after b_l_after .nil pass0 (pa_cons (pv 3) (pa_cons (pv 4) pa_nil))) pa_nil)))))))) (pss_one (ps_ret pe_bl)) pss_nil)
      (pss_cons (ps_if (pt_not (pt_val (pe_call G_l_same (hr.mono (by decide)) (by rfl) T.g_l_same kp_l_same b_l_same .nil pass0 (pa_cons (pe_meth0 (pv 2) T.c_File T.m_File_pending G_File_pending (hr.mono (by decide)) b_File_pending .nil pass0) (pa_cons (pe_callB cl_len (by rfl) T.f_len (by decide +kernel) (pa_cons (pv 4) pa_nil)) pa_nil))))) (pss_one (ps_ret pe_bl)) pss_nil)
      (pss_cons (ps_expr (pe_bm PySem.F.plainAttrs_list PySem.F.slot_list_append PySem.F.type_list_append mt_append (pe_meth0 (pv 2) T.c_File T.m_File_content G_File_content (hr.mono (by decide)) b_File_content .nil pass0) (pa_cons pe_int pa_nil)))
      (pss_one (ps_if (PW.pt (pw_and (pt_cmpR (op_same hr.units) (pe_call G_l_next (hr.mono (by decide)) (by rfl) T.g_l_next kp_l_next b_l_next .nil pass0 (pa_cons (pv 1) (pa_cons pe_int pa_nil))) pe_int (nomark _)) (pw_and1 (pt_not (pt_val (pe_call G_l_same (hr.mono (by decide)) (by rfl) T.g_l_same kp_l_same b_l_same .nil pass0 (pa_cons (pe_meth0 (pv 2) T.c_File T.m_File_content G_File_content (hr.mono (by decide)) b_File_content .nil pass0) (pa_cons (pe_call G_l_after (hr.mono (by decide)) (by rfl) T.g_l_after kp_l_after b_l_after .nil pass0 (pa_cons (pv 3) (pa_cons (pv 4) pa_nil))) pa_nil)))))))) (pss_one (ps_ret pe_bl)) pss_nil))))))))
      (pss_cons (ps_expr (pe_meth (pv 2) T.c_File T.m_File_lose G_File_lose (hr.mono (by decide)) b_File_lose .nil pass0 (pa_cons pe_int pa_nil)))
      (pss_cons (ps_if (PW.pt (pw_or (pt_not (pt_val (pe_call G_l_same (hr.mono (by decide)) (by rfl) T.g_l_same kp_l_same b_l_same .nil pass0 (pa_cons (pe_meth0 (pv 6) T.c_File T.m_File_content G_File_content (hr.mono (by decide)) b_File_content .nil pass0) (pa_cons (pe_lst (pa_cons pe_int (pa_cons pe_int (pa_cons pe_int pa_nil)))) pa_nil))))) (pw_or1 (pt_not (pt_val (pe_call G_l_same (hr.mono (by decide)) (by rfl) T.g_l_same kp_l_same b_l_same .nil pass0 (pa_cons (pe_meth0 (pv 6) T.c_File T.m_File_pending G_File_pending (hr.mono (by decide)) b_File_pending .nil pass0) (pa_cons pe_int pa_nil)))))))) (pss_one (ps_ret pe_bl)) pss_nil)
      (pss_one (ps_ret (pe_and (pe_call G_l_same (hr.mono (by decide)) (by rfl) T.g_l_same kp_l_same b_l_same .nil pass0 (pa_cons (pe_meth0 (pv 2) T.c_File T.m_File_content G_File_content (hr.mono (by decide)) b_File_content .nil pass0) (pa_cons (pv 3) pa_nil))) (pe_one (pe_call G_l_same (hr.mono (by decide)) (by rfl) T.g_l_same kp_l_same b_l_same .nil pass0 (pa_cons (pe_meth0 (pv 2) T.c_File T.m_File_pending G_File_pending (hr.mono (by decide)) b_File_pending .nil pass0) (pa_cons pe_int pa_nil))))))))))))))))))), ?_⟩
    obtain ⟨a, ns, rfl, hq, hl, _, ret⟩ := h
    have S : ST (fun _ => none) H NoL [] [.val (.ref a), .any, .any, .any, .any, .any, .any, .any, .any] [] (fun _ => none) (L2.start n_law [.ref a]) H := ST.startV (N := n_law) (vs := [.ref a]) (ρ := [.val (.ref a)]) (fun _ _ h => nomatch h) ⟨rfl, True.intro⟩
    walk_at "st"
    refine ⟨_, a, ns, rfl, S.same, hq, hl, fun v G1 H1 ms g hv hm => ?_⟩
    have S := S.grow g
    walk_at "st"
    refine c_newL S (.cons hv (.cons (.int 20) .nil)) (by show 2 ≤ sizeLine; decide) (fun st H2 S st0 _ => ?_)
    have S : ST (fun _ => none) H NoL [] _ [DrA st] G1 _ H2 := S.step (Gx.rfl' S.same) ⟨ms, 20, hm, by decide, S.head⟩ fun b hb => ⟨.inl hb, (S.hfp hb).1, (S.hfp hb).2.1⟩
    refine c_set S (fun σ2 S => ?_)
    walk_at "st"
    refine c_newFile S (fun pf l s H3 S => ?_)
    refine c_set S (fun σ3 S => ?_)
    walk_at "st"
    refine c_mkL S .nil (by decide) (fun v3 G3 H4 S _ hv3 => ?_)
    refine c_setD S hv3 (fun σ4 S => ?_)
    walk_at "st"
    refine c_mkL S .nil (by decide) (fun v4 G4 H5 S _ hv4 => ?_)
    refine c_setD S hv4 (fun σ5 S => ?_)
    walk_at "st"
    refine c_newFile S (fun po lo so H6 S => ?_)
    refine c_set S (fun σ6 S => ?_)
    walk_at "st"
    refine c_newFile S (fun ps l1 s1 H7 S => ?_)
    refine c_set S (fun σ7 S => ?_)
    walk_at "st"
    refine c_methF S (by decide +kernel) (by decide +kernel) ?_
    walk_at "st"
    refine c_newL S (.cons (.int 1) (.cons (.int 2) .nil)) (by show 2 ≤ sizeLine; decide) (fun q1 H8 S _ _ => ?_)
    walk_at "st"
    obtain ⟨ws, eq, hws⟩ := S.head
    cases da_ints (ns := [1, 2]) hws
    refine c_write S.swap eq (.inl ⟨rfl, rfl⟩) (by decide) (fun l2 s2 G9 H9 S _ => ?_)
    have S := S.swap.drop
    walk_at "st"
    refine c_methF S (by decide +kernel) (by decide +kernel) ?_
    walk_at "st"
    refine ⟨_, ps, l2, s2, [], _, .non, 1, rfl, S.same, S.at, .inr (.inl ⟨rfl, rfl⟩), by decide, fun G10 H10 l3 s3 g hA hf => ?_⟩
    have S := S.called g hA hf
    have S : ST (fun _ => none) H NoL [] _ (FileA (He.ga K "File") ps l3 s3 [1, 2] [] :: FileA (He.ga K "File") po lo so [] [] :: FileA (He.ga K "File") pf l s [] [] :: DrA st :: []) G10 _ H10 := S
    walk_at "st"
    refine c_methF S (by decide +kernel) (by decide +kernel) ?_
    walk_at "st"
    refine c_newL S (.cons (.int 3) .nil) (by show 1 ≤ sizeLine; decide) (fun q2 H11 S _ _ => ?_)
    walk_at "st"
    obtain ⟨ws, eq, hws⟩ := S.head
    cases da_ints (ns := [3]) hws
    refine c_write S.swap eq (.inl ⟨rfl, rfl⟩) (by decide) (fun l4 s4 G12 H12 S _ => ?_)
    have S := S.swap.drop
    have S : ST (fun _ => none) H NoL [] _ (DrA st :: FileA (He.ga K "File") pf l s [] [] :: FileA (He.ga K "File") po lo so [] [] :: FileA (He.ga K "File") ps l4 s4 [1, 2] [.app 3] :: []) G12 _ H12 := S.perm (by
      refine List.Perm.trans (List.reverse_perm _).symm ?_
      exact List.Perm.refl _)
    walk_at "st"
    refine c_draw S (by decide) (fun n G13 H13 hn0 hn1 S _ => ?_)
    walk_at "st"
    refine c_r1 (by omega) (by omega) ?_
    refine c_forR (fun i G' σ' H' => ∃ l s la ss po lo so, ST (fun _ => none) H NoL [] [.val (.ref a), .val (.ref st), .val (.ref pf), .dat (.list (la.map .int)), .dat (.list (ss.map lD)), .val (.ref po), .val (.ref ps), .any, .any]
        [DrA st, FileA (He.ga K "File") pf l s la ss, FileA (He.ga K "File") po lo so [] [], FileA (He.ga K "File") ps l4 s4 [1, 2] [.app 3]] G' σ' H' ∧ la.length + ss.length ≤ 70 * i)
      ⟨l, s, [], [], po, lo, so, S.le (by walk_at "le"), Nat.le_refl _⟩ ?_ ?_
    · rintro i G' σ' H' hi ⟨l, s, la, ss, po, lo, so, S, hz⟩
      have hi : i < 31 := by omega
      walk_at "sj"
      refine c_seqJ (fun σ' H' => ∃ G' po lo so, ST (fun _ => none) H NoL [] [.val (.ref a), .val (.ref st), .val (.ref pf), .dat (.list (la.map .int)), .dat (.list (ss.map lD)), .val (.ref po), .val (.ref ps), .val (.int (0 + i)), .any]
        [DrA st, FileA (He.ga K "File") pf l s la ss, FileA (He.ga K "File") po lo so [] [], FileA (He.ga K "File") ps l4 s4 [1, 2] [.app 3]] G' σ' H') ?rest ?first
      case first =>
        intro J hJ
        walk_at "st"
        refine c_draw (by assumption) (by decide) (fun r G2 H2 _ _ S _ => ?_)
        walk_at "st"
        refine c_ite (fun _ => ?_) (fun _ => ?_)
        · walk_at "st"
          refine c_methF S.rot (by decide +kernel) (by decide +kernel) ?_
          walk_at "st"
          refine c_newL S (ds := ([0 + (i : Int), 0 + i + 1, 0 + i + 2] : List Int).map .int) (da_of_ints [0 + (i : Int), 0 + i + 1, 0 + i + 2]) (by show 3 ≤ sizeLine; decide) (fun q H3 S q0 _ => ?_)
          walk_at "st"
          obtain ⟨ws, eq, hws⟩ := S.head
          cases da_ints hws
          have S := S.perm (μ' := FileA (He.ga K "File") po lo so [] [] :: As.lst q (([0 + (i : Int), 0 + i + 1, 0 + i + 2] : List Int).map .int) :: DrA st :: FileA (He.ga K "File") pf l s la ss :: FileA (He.ga K "File") ps l4 s4 [1, 2] [.app 3] :: []) (by
            exact (((List.Perm.swap _ _ _).cons _).cons _).trans (((List.Perm.swap _ _ _).cons _).trans (List.Perm.swap _ _ _)))
          refine c_write S eq (.inl ⟨rfl, rfl⟩) (by show 0 + 0 + 3 ≤ 1000000; decide) (fun lo so G4 H4 S _ => ?_)
          have S := S.swap.drop
          have S : ST (fun _ => none) H NoL [] _ (FileA (He.ga K "File") po lo so [] [.app (0 + i), .app (0 + i + 1), .app (0 + i + 2)] :: DrA st :: FileA (He.ga K "File") pf l s la ss :: FileA (He.ga K "File") ps l4 s4 [1, 2] [.app 3] :: []) G4 _ H4 := S
          walk_at "st"
          refine c_methF S (by decide +kernel) (by decide +kernel) ?_
          walk_at "st"
          refine c_contentF S (by show 0 + 3 ≤ 1000000; decide) (fun v G5 H5 S _ hv => ?_)
          walk_at "st"
          refine c_mkL S (ds := ([0 + (i : Int), 0 + i + 1, 0 + i + 2] : List Int).map .int) (da_of_ints [0 + (i : Int), 0 + i + 1, 0 + i + 2]) (by show 3 ≤ sizeLine; decide) (fun v2 G6 H6 S g6 hv2 => ?_)
          walk_at "st"
          refine c_callP S (.cons (hv.mono g6.g) (.cons hv2 .nil)) ⟨7, _, rfl, rfl, fits_ints (by show 3 < 2 ^ 60; decide), rfl⟩ (fun v G9 H9 S _ hv => ?_)
          cases hv
          walk_at "st"
          refine iteF ?_
          walk_at "st"
          refine c_methF S (by decide +kernel) (by decide +kernel) ?_
          walk_at "st"
          refine c_pending S ?_
          walk_at "st"
          refine c_callP S (.cons (.int _) (.cons (.int _) .nil)) ⟨7, .int 3, rfl, rfl, fits_int, rfl⟩ (fun v G10 H10 S _ hv => ?_)
          cases hv
          walk_at "st"
          refine iteF ?_
          walk_at "st"
          refine c_newFile S.drop (fun po2 lo2 so2 H11 S => ?_)
          refine c_set S (fun σ6 S => ?_)
          walk_at "st"
          refine c_methF S (by decide +kernel) (by decide +kernel) ?_
          walk_at "st"
          refine c_contentF S (by decide) (fun v G12 H12 S _ hv => ?_)
          walk_at "st"
          refine c_mkL S .nil (by decide) (fun v2 G13 H13 S g13 hv2 => ?_)
          refine c_diffEq (hv.mono g13.g) hv2 S.same (shaped_ints []) ?_
          walk_at "st"
          refine iteF ?_
          walk_at "st"
          refine c_methF S (by decide +kernel) (by decide +kernel) ?_
          walk_at "st"
          refine c_pending S ?_
          walk_at "st"
          refine c_callP S (.cons (.int _) (.cons (.int _) .nil)) ⟨7, .int 0, rfl, rfl, fits_int, rfl⟩ (fun v G10 H10 S _ hv => ?_)
          cases hv
          walk_at "st"
          refine iteF ?_
          walk_at "st"
          exact hJ _ _ ⟨_, po2, lo2, so2, S.swap.swap1.le (by walk_at "le")⟩
        · walk_at "st"
          exact hJ _ _ ⟨_, po, lo, so, ST.le (by assumption) (by walk_at "le")⟩
      case rest =>
        rintro σ2 H2 ⟨G2, po, lo, so, S⟩
        walk_at "st"
        rename_i va hva vb hvb
        have nst : ¬ (FileA (He.ga K "File") pf l s la ss).fp st := fun z => (List.pairwise_cons.mp S.dj).1 _ (List.mem_cons_self ..) st rfl z
        refine ⟨G2, st, pf, l, s, la, ss, va, vb, rfl, S.same, S.at, S.swap.at, nst, hva, hvb, by omega, fun G3 H3 l' s' la' ss' r g hD hA hf hr hz2 => ?_⟩
        have S := S.called2 g hD hA (fun b hb => .inl (.inl hb)) (fun b hb => (hf b hb).elim (fun z => .inl (.inr z)) .inr) (fun b hb z => by
          have e : b = st := hb
          subst e
          rcases hf b z with z | z
          · exact nst z
          · exact (S.hfp rfl).2.1 z)
        have hz3 : la'.length + ss'.length ≤ 70 * (i + 1) := by omega
        refine c_gunl3 hr S.same (fun w1 w2 w3 h1 h2 h3 => ?_)
        cases h1
        walk_at "st"
        refine c_setD (by assumption) h2 (fun σ3 S => ?_)
        walk_at "st"
        refine c_setD S h3 (fun σ4 S => ?_)
        walk_at "st"
        refine iteF ?_
        walk_at "st"
        refine c_methF S.swap (by decide +kernel) (by decide +kernel) ?_
        walk_at "st"
        refine c_contentF S.swap (by omega) (fun v G5 H5 S _ hv => ?_)
        walk_at "st"
        rename_i ua hua ub hub
        refine c_callLf S (.cons hua (.cons hub .nil)) ⟨la', ss', rfl, by omega, rfl⟩ (fun v3 G6 H6 S g6 hv3 => ?_)
        walk_at "st"
        have hrl := runs_len ss' la'
        refine c_callP S (.cons (hv.mono g6.g) (.cons hv3 .nil)) ⟨7, _, rfl, rfl, fits_ints (Nat.lt_of_le_of_lt (show (runs la' ss').length ≤ 100000 by omega) (by decide)), rfl⟩ (fun v G9 H9 S _ hv => ?_)
        cases hv
        walk_at "st"
        refine iteF ?_
        walk_at "st"
        refine c_methF S (by decide +kernel) (by decide +kernel) ?_
        walk_at "st"
        refine c_pending S ?_
        walk_at "st"
        rw [List.length_map]
        refine c_callP S (.cons (.int _) (.cons (.int _) .nil)) ⟨7, _, rfl, rfl, fits_int, rfl⟩ (fun v G10 H10 S _ hv => ?_)
        cases hv
        walk_at "st"
        refine iteF ?_
        walk_at "st"
        refine c_methF S (by decide +kernel) (by decide +kernel) ?_
        walk_at "st"
        refine c_content S (by omega) (fun q G11 H11 S q0 _ => ?_)
        refine ⟨c_tyM S, ?_⟩
        walk_at "st"
        refine c_append S (.int 7) (by rw [List.length_map]; exact sz_int (by omega)) (fun H12 S => ?_)
        have S := S.drop.swap
        walk_at "st"
        refine c_draw S (by decide) (fun r2 G13 H13 _ _ S _ => ?_)
        walk_at "st"
        refine c_ite (fun _ => ?_) (fun _ => ?_)
        · walk_at "st"
          refine c_methF S.swap (by decide +kernel) (by decide +kernel) ?_
          walk_at "st"
          refine c_contentF S.swap (by omega) (fun v G5 H5 S _ hv => ?_)
          walk_at "st"
          rename_i ua hua ub hub
          refine c_callLf S (.cons hua (.cons hub .nil)) ⟨la', ss', rfl, by omega, rfl⟩ (fun v3 G6 H6 S g6 hv3 => ?_)
          walk_at "st"
          refine c_callP S (.cons (hv.mono g6.g) (.cons hv3 .nil)) ⟨7, _, rfl, rfl, fits_ints (Nat.lt_of_le_of_lt (show (runs la' ss').length ≤ 100000 by omega) (by decide)), rfl⟩ (fun v G9 H9 S _ hv => ?_)
          cases hv
          walk_at "st"
          refine iteF ?_
          walk_at "st"
          exact ⟨_, l', s', la', ss', po, lo, so, S.swap.le (by walk_at "le"), hz3⟩
        · refine iteF ?_
          walk_at "st"
          exact ⟨_, l', s', la', ss', po, lo, so, S.le (by walk_at "le"), hz3⟩
    · rintro G' σ' H' ⟨l, s, la, ss, po, lo, so, S, hz⟩
      have hz : la.length + ss.length ≤ 3000 := by omega
      walk_at "st"
      refine c_methF S.swap (by decide +kernel) (by decide +kernel) ?_
      walk_at "st"
      refine ⟨_, pf, l, s, la, ss, 0, rfl, S.same, S.swap.at, by omega, fun G6 H6 l2 s2 g hA hf => ?_⟩
      have S := S.swap.called g hA hf
      have S : ST (fun _ => none) H NoL [] _ (FileA (He.ga K "File") pf l2 s2 la [] :: DrA st :: FileA (He.ga K "File") po lo so [] [] :: FileA (He.ga K "File") ps l4 s4 [1, 2] [.app 3] :: []) G6 _ H6 := S
      have S := S.perm (μ' := FileA (He.ga K "File") ps l4 s4 [1, 2] [.app 3] :: FileA (He.ga K "File") pf l2 s2 la [] :: DrA st :: FileA (He.ga K "File") po lo so [] [] :: []) (by
        exact (((List.Perm.swap _ _ _).cons _).cons _).trans (((List.Perm.swap _ _ _).cons _).trans (List.Perm.swap _ _ _)))
      walk_at "st"
      refine c_methF S (by decide +kernel) (by decide +kernel) ?_
      walk_at "st"
      refine c_contentF S (by decide) (fun v G5 H5 S _ hv => ?_)
      walk_at "st"
      refine c_mkL S (ds := ([1, 2, 3] : List Int).map .int) (da_of_ints [1, 2, 3]) (by show 3 ≤ sizeLine; decide) (fun v2 G7 H7 S g7 hv2 => ?_)
      walk_at "st"
      refine c_callP S (.cons (hv.mono g7.g) (.cons hv2 .nil)) ⟨7, _, rfl, rfl, fits_ints (by show 3 < 2 ^ 60; decide), rfl⟩ (fun v G9 H9 S _ hv => ?_)
      cases hv
      walk_at "st"
      refine iteF ?_
      walk_at "st"
      refine c_methF S (by decide +kernel) (by decide +kernel) ?_
      walk_at "st"
      refine c_pending S ?_
      walk_at "st"
      refine c_callP S (.cons (.int _) (.cons (.int _) .nil)) ⟨7, .int 1, rfl, rfl, fits_int, rfl⟩ (fun v G10 H10 S _ hv => ?_)
      cases hv
      walk_at "st"
      refine iteF ?_
      walk_at "st"
      have S := S.swap
      refine c_methF S (by decide +kernel) (by decide +kernel) ?_
      walk_at "st"
      refine c_contentF S (by show _ + 0 ≤ _; omega) (fun v G11 H11 S _ hv => ?_)
      walk_at "st"
      refine c_callP S (.cons hv (.cons (by assumption) .nil)) ⟨7, _, rfl, rfl, fits_ints (Nat.lt_of_le_of_lt (show la.length ≤ 100000 by omega) (by decide)), rfl⟩ (fun v G12 H12 S _ hv => ?_)
      cases hv
      walk_at "st"
      refine iteT ?_
      walk_at "st"
      refine c_methF S (by decide +kernel) (by decide +kernel) ?_
      walk_at "st"
      refine c_pending S ?_
      walk_at "st"
      refine c_callP S (.cons (.int _) (.cons (.int _) .nil)) ⟨7, .int 0, rfl, rfl, fits_int, rfl⟩ (fun v G13 H13 S _ hv => ?_)
      cases hv
      exact ret _
theorem ok_law (T : Tx K mg) (c : He.SaysD fas fns K) (h_l_draws : OkF P w K mg base CX0 ("_law_draws", none) ["script"] 2 (sp_draws K)) (h_File_init : OkF P w K mg base CX0 ("File", some "__init__") ["self"] 1 (spInit (He.ga K "File"))) (h_File_write : OkF P w K mg base CX0 ("File", some "write") ["self", "data", "steps"] 1 (spWrite (He.ga K "File"))) (h_File_flush : OkF P w K mg base CX0 ("File", some "flush") ["self", "steps"] 3 (spFlush (He.ga K "File"))) (h_l_next : OkF P w K mg base CX0 ("_law_next", none) ["state", "limit"] 3 sp_next) (h_l_same : OkF P w K mg base CX0 ("_law_same", none) ["actual", "expected"] 9 (sp_same 8)) (h_File_pending : OkF P w K mg base CX0 ("File", some "pending") ["self"] 1 (spPending (He.ga K "File"))) (h_File_content : OkF P w K mg base CX0 ("File", some "content") ["self"] 2 (spContent (He.ga K "File"))) (h_l_deed : OkF P w K mg base CX0 ("_law_deed", none) ["state", "file", "lasting", "steps"] 10 (spDeed (He.ga K "File"))) (h_l_after : OkF P w K mg base CX0 ("_law_after", none) ["data", "steps"] 1 (spL (R_steps lD))) (h_File_lose : OkF P w K mg base CX0 ("File", some "lose") ["self", "steps"] 2 (spLose (He.ga K "File"))) : OkF P w K mg base CX0 ("law", none) ["script"] 11 (sp_law K) := by
  obtain ⟨fd, F⟩ := c.def_ 16 (d := d_law) rfl
  exact ⟨fd, fo_law T F h_l_draws h_File_init h_File_write h_File_flush h_l_next h_l_same h_File_pending h_File_content h_l_deed h_l_after h_File_lose, F.kp, F.bindsN fun _ _ _ _ _ _ us hl => match us, hl with | [_], _ => rfl⟩
end
theorem facts {P : Program} {w : World} {K : PySem.W.Frag} {h : Heap} {mg : Str → Option Value} {f : Addr} (X : K.In h) (G : h.Ns mainGlobals mg) (hfa : mg ("law" : Str) = some (.ref f)) (c : He.SaysD fas fns K) :
    ∃ fd : FuncData, (∀ (s : Shared) (v : Value), BindsTo s fd ⟨[v], []⟩ [("script", v)]) ∧ ∀ base : Heap, K.In base → base.Ns mainGlobals mg → FnOk P w K mg base CX0 11 f fd ["script"] (sp_law K) := by
  have T := tx X G c
  obtain ⟨fd, F⟩ := c.def_ 16 (d := d_law) rfl
  have e := hfa.symm.trans T.g_law
  cases e
  have b := FunD.bindsA (ps := ["script"]) F fun _ _ _ _ _ _ us hl => match us, hl with | [_], _ => rfl
  refine ⟨fd, fun s v => b s [v] rfl, fun base _ _ => ?_⟩
  have o_applied := ok_applied (P := P) (w := w) (base := base) T c 
  have o_File_init := ok_File_init (P := P) (w := w) (base := base) T c 
  have o_File_write := ok_File_write (P := P) (w := w) (base := base) T c 
  have o_File_shorten := ok_File_shorten (P := P) (w := w) (base := base) T c 
  have o_File_lose := ok_File_lose (P := P) (w := w) (base := base) T c o_applied
  have o_File_flush := ok_File_flush (P := P) (w := w) (base := base) T c o_File_lose
  have o_File_content := ok_File_content (P := P) (w := w) (base := base) T c o_applied
  have o_File_pending := ok_File_pending (P := P) (w := w) (base := base) T c 
  have o_l_mix := ok_l_mix (P := P) (w := w) (base := base) T c 
  have o_l_draws := ok_l_draws (P := P) (w := w) (base := base) T c o_l_mix
  have o_l_at := ok_l_at (P := P) (w := w) (base := base) T c o_l_mix
  have o_l_is_integer := ok_l_is_integer (P := P) (w := w) (base := base) T c 
  have o_l_same := ok_l_same (P := P) (w := w) (base := base) T c o_l_is_integer 8
  have o_l_next := ok_l_next (P := P) (w := w) (base := base) T c o_l_at
  have o_l_after := ok_l_after (P := P) (w := w) (base := base) T c 
  have o_l_deed := ok_l_deed (P := P) (w := w) (base := base) T c o_l_next o_File_write o_l_same o_l_after o_File_shorten o_File_flush o_File_lose
  exact fo_law T F o_l_draws o_File_init o_File_write o_File_flush o_l_next o_l_same o_File_pending o_File_content o_l_deed o_l_after o_File_lose
abbrev R : PySem.W.OpenRow := PySem.W.OpenLaw.row PySem.Challenge.rw_heapwhole_k10_files_keep_a_beginning
abbrev hk : PySem.W.Hook := He.hookD 5 fas fns
def ob (s : PySem.W.SharedT) : He.AlD := He.obsDG 5 fas fns (HandSHeadRun.getT s)
theorem ob_eq (s : PySem.W.SharedT) : ob s = hk.obs s.abs := He.obsDG_eq (HandSHeadRun.getT_eq s)
theorem run (w : World) : HandSHeadRun.RunEq R (PySem.W.view R.prog [12]) hk ob 3000 ["__name__", "_applied", "File", "_law_mix", "_law_draws", "_law_at", "_law_is_integer", "_law_same", "_law_next", "_law_after", "_law_deed"] w := by
  intro os
  kernel_rfl
end K10
open PySem PySem.W PySem.Calls PyProof.Rows
set_option maxRecDepth 100000 in
set_option maxHeartbeats 0 in
theorem PySem.Challenge.cw_heapwhole_k10_files_keep_a_beginning_holds : PySem.Challenge.rw_heapwhole_k10_files_keep_a_beginning.Holds := by
  w_on; o_law
  refine HandSHeadRun.head_any (r := OpenLaw.row PySem.Challenge.rw_heapwhole_k10_files_keep_a_beginning) (q := view (OpenLaw.row PySem.Challenge.rw_heapwhole_k10_files_keep_a_beginning).prog [12]) (H := K10.hk) (ob := K10.ob) (M := 3000) (loose := ["__name__", "_applied", "File", "_law_mix", "_law_draws", "_law_at", "_law_is_integer", "_law_same", "_law_next", "_law_after", "_law_deed"]) (d := HandSHeadRun.topDef (OpenLaw.row PySem.Challenge.rw_heapwhole_k10_files_keep_a_beginning).prog 12) (kwd := []) K10.ob_eq
    (by kernel_rfl) (fun s => by kernel_rfl) K10.run (by kernel_rfl) (by kernel_rfl) (by kernel_rfl) (by rfl) (by first | assumption | decide +kernel) (by decide +kernel) ⟨rfl, rfl, rfl, rfl, rfl, by decide +kernel⟩ ?hw ?hc
  case hw => w_witness2
  case hc =>
    refine Hw.walk_bits (l := PySem.Challenge.rw_heapwhole_k10_files_keep_a_beginning) (n := 63) (k := 11) (x := "script") (CX := L2.CX0) rfl (by decide) (by kernel_rfl) ⟨rfl, by decide, by decide⟩ ?F (fun _ _ _ _ z => z)
    intro w mg fa h Y G hmg0
    obtain ⟨K, KX, c⟩ := Y
    have hmg : mg ("law" : PySem.Str) = some (.ref fa) := by
      have e : (HandSHeadRun.topDef (OpenLaw.row PySem.Challenge.rw_heapwhole_k10_files_keep_a_beginning).prog 12).name = ("law" : PySem.Str) := by kernel_rfl
      rw [← e]
      exact hmg0
    obtain ⟨fd, hb, hF⟩ := K10.facts (P := (PySem.Challenge.rw_heapwhole_k10_files_keep_a_beginning).prog) (w := w) KX G hmg c
    exact ⟨K, fd, (K10.sp_law K), KX, hb, fun H a ns hl hb hO hS => ⟨a, ns, rfl, hS, hl, hb, fun _ => rfl⟩, hF⟩
#print axioms PySem.Challenge.cw_heapwhole_k10_files_keep_a_beginning_holds
