import PyProof.Rows.All
import Wide.All
import OpenK.AllK
import Wide.FinOn
import HandS.ForMost
import HandS.Walk
import HandS.Wide
import HandS.Flow
import HandS.Style
import HandS.IsInst
import HandS.Deep
import HandS.TupAny
import HandS.More
import HandS.Head0
import HandS.Head1
import HandS.Head2
import HandS.HeadHook1
import HandS.HeadHook2
import HandS.Defaults
import HandS.EndBits
import HandS.NoneIn
import HandS.Codes
import HandS.Text
import HandS.Iter
import PySem.Challenge.RW_heapwhole_k09_chunks_of_a_text
set_option Elab.async false
set_option linter.all false
set_option maxRecDepth 100000
set_option maxHeartbeats 8000000
/-! Hw: a layer over HandS: two heaps, G (what is frozen and known) and H (what is); data by PyData; heaplets (As) for what is changed; the state ST. -/
namespace Hw
open PySem L2

/-! ### growth -/
structure Gx (L : Addr → Prop) (G H G' H' : Hp) : Prop where
  g : Same G G'
  h : ∀ b o, H b = some o → ¬ L b → H' b = some o
  s : Same G' H'
  ap : ∀ b, H b ≠ none → G b = none → G' b = none
  dom : ∀ b, H b ≠ none → H' b ≠ none
abbrev NoL : Addr → Prop := fun _ => False
abbrev Gr := Gx NoL
theorem Gx.rfl' {L : Addr → Prop} {G H : Hp} (s : Same G H) : Gx L G H G H :=
  ⟨Same.refl G, fun _ _ h _ => h, s, fun _ _ h => h, fun _ h => h⟩
theorem Gx.trans {L : Addr → Prop} {G H G1 H1 G2 H2 : Hp} (a : Gx L G H G1 H1) (b : Gx L G1 H1 G2 H2) : Gx L G H G2 H2 :=
  ⟨a.g.trans b.g, fun c o e n => b.h c o (a.h c o e n) n, b.s, fun c e n => b.ap c (a.dom c e) (a.ap c e n), fun c e => b.dom c (a.dom c e)⟩
theorem Gx.weak {L L' : Addr → Prop} {G H G' H' : Hp} (a : Gx L G H G' H') (w : ∀ b, L b → L' b) : Gx L' G H G' H' :=
  ⟨a.g, fun c o e n => a.h c o e fun z => n (w c z), a.s, a.ap, a.dom⟩
/-- a step that changes places which are new since the entry (or L's) -/
theorem Gx.then {L M : Addr → Prop} {G H G1 H1 G2 H2 : Hp} (a : Gx L G H G1 H1) (b : Gx M G1 H1 G2 H2) (w : ∀ c, M c → L c ∨ H c = none) : Gx L G H G2 H2 :=
  ⟨a.g.trans b.g, fun c o e n => b.h c o (a.h c o e n) (fun z => (w c z).elim n (fun q => absurd (e.symm.trans q) (fun y => nomatch y))), b.s,
    fun c e n => b.ap c (a.dom c e) (a.ap c e n), fun c e => b.dom c (a.dom c e)⟩
theorem Gx.clean {L : Addr → Prop} {G H G' H' : Hp} (a : Gx L G H G' H') (w : ∀ b, L b → H b = none) : Gr G H G' H' :=
  ⟨a.g, fun c o e _ => a.h c o e (fun z => absurd (e.symm.trans (w c z)) (fun y => nomatch y)), a.s, a.ap, a.dom⟩
theorem Gx.same {G H G' H' : Hp} (a : Gr G H G' H') : Same H H' := fun b o e => a.h b o e fun z => z
theorem Gx.gnone {L : Addr → Prop} {G H G' H' : Hp} (a : Gx L G H G' H') {b : Addr} (h : H b ≠ none) (g : G b = none) : G' b = none := a.ap b h g
theorem none_of_same {G H : Hp} (s : Same G H) {b : Addr} (h : H b = none) : G b = none := s.free h
/-- a new frozen object -/
theorem Gx.frz {L : Addr → Prop} {G H : Hp} (s : Same G H) {p : Addr} {o : HO} (hp : H p = none) : Gx L G H (upd G p o) (upd H p o) := by
  have gp : G p = none := none_of_same s hp
  refine ⟨fun b u e => ?_, fun b u e _ => ?_, fun b u e => ?_, fun b e n => ?_, fun b e => ?_⟩
  · rw [upd_ne (ne_of_none e gp)]; exact e
  · rw [upd_ne (ne_of_none e hp)]; exact e
  · by_cases hb : b = p
    · subst hb; rw [upd_same] at e ⊢; exact e
    · rw [upd_ne hb] at e ⊢; exact s b u e
  · have hb : b ≠ p := fun q => e (by rw [q]; exact hp)
    rw [upd_ne hb]; exact n
  · by_cases hb : b = p
    · subst hb; rw [upd_same]; exact fun z => by cases z
    · rw [upd_ne hb]; exact e
/-- a new object that stays changeable -/
theorem Gx.new {L : Addr → Prop} {G H : Hp} (s : Same G H) {p : Addr} {o : HO} (hp : H p = none) : Gx L G H G (upd H p o) := by
  refine ⟨Same.refl G, fun b u e _ => ?_, fun b u e => ?_, fun b _ n => n, fun b e => ?_⟩
  · rw [upd_ne (ne_of_none e hp)]; exact e
  · rw [upd_ne (ne_of_none (s b u e) hp)]; exact s b u e
  · by_cases hb : b = p
    · subst hb; rw [upd_same]; exact fun z => by cases z
    · rw [upd_ne hb]; exact e
/-- a changeable object is written -/
theorem Gx.put {G H : Hp} (s : Same G H) {p : Addr} {o : HO} (gp : G p = none) : Gx (fun b => b = p) G H G (upd H p o) := by
  refine ⟨Same.refl G, fun b u e n => ?_, fun b u e => ?_, fun b _ n => n, fun b e => ?_⟩
  · rw [upd_ne n]; exact e
  · rw [upd_ne (ne_of_none e gp)]; exact s b u e
  · by_cases hb : b = p
    · subst hb; rw [upd_same]; exact fun z => by cases z
    · rw [upd_ne hb]; exact e

/-! ### data -/
mutual
/-- the value v is the data d, by what G holds -/
inductive Da (G : Hp) : V → PyData → Prop
  | non : Da G .non .none
  | bl (b : Bool) : Da G (.bl b) (.bool b)
  | int (i : Int) : Da G (.int i) (.int i)
  | str (x : Str) : Da G (.str x) (.str x)
  | lst {a : Addr} {xs : List V} {ds : List PyData} : G a = some (.lst xs) → DaAll G xs ds → Da G (.ref a) (.list ds)
  | tup {a : Addr} {xs : List V} {ds : List PyData} : G a = some (.tup xs) → DaAll G xs ds → Da G (.ref a) (.tuple ds)
inductive DaAll (G : Hp) : List V → List PyData → Prop
  | nil : DaAll G [] []
  | cons {v : V} {vs : List V} {d : PyData} {ds : List PyData} : Da G v d → DaAll G vs ds → DaAll G (v :: vs) (d :: ds)
end
mutual
theorem da_mono {G G' : Hp} (s : ∀ b o, G b = some o → G' b = some o) : ∀ (d : PyData) (v : V), Da G v d → Da G' v d
  | .none, _, h => by cases h; exact .non
  | .bool b, _, h => by cases h; exact .bl b
  | .int i, _, h => by cases h; exact .int i
  | .str x, _, h => by cases h; exact .str x
  | .list ds, _, h => by
    cases h with
    | lst hs ha => exact .lst (s _ _ hs) (daAll_mono s ds _ ha)
  | .tuple ds, _, h => by
    cases h with
    | tup hs ha => exact .tup (s _ _ hs) (daAll_mono s ds _ ha)
  | .dict _, _, h => by cases h
theorem daAll_mono {G G' : Hp} (s : ∀ b o, G b = some o → G' b = some o) : ∀ (ds : List PyData) (vs : List V), DaAll G vs ds → DaAll G' vs ds
  | [], _, h => by cases h; exact .nil
  | d :: ds, _, h => by
    cases h with
    | cons h1 h2 => exact .cons (da_mono s d _ h1) (daAll_mono s ds _ h2)
end
theorem Da.mono {G G' : Hp} {v : V} {d : PyData} (h : Da G v d) (s : Same G G') : Da G' v d := da_mono s d v h
theorem DaAll.mono {G G' : Hp} {vs : List V} {ds : List PyData} (h : DaAll G vs ds) (s : Same G G') : DaAll G' vs ds := daAll_mono s ds vs h
mutual
theorem da_dp {K : PySem.W.Frag} {G : Hp} : ∀ (d : PyData) (v : V), Da G v d → Dp K G v d
  | .none, _, h => by cases h; exact .non
  | .bool b, _, h => by cases h; exact .bl b
  | .int i, _, h => by cases h; exact .int i
  | .str x, _, h => by cases h; exact .str x
  | .list ds, _, h => by
    cases h with
    | lst hs ha => exact .lst (SqL.of hs) (daAll_dp ds _ ha)
  | .tuple ds, _, h => by
    cases h with
    | tup hs ha => exact .tup (SqT.of hs) (daAll_dp ds _ ha)
  | .dict _, _, h => by cases h
theorem daAll_dp {K : PySem.W.Frag} {G : Hp} : ∀ (ds : List PyData) (vs : List V), DaAll G vs ds → DpAll K G vs ds
  | [], _, h => by cases h; exact .nil
  | d :: ds, _, h => by
    cases h with
    | cons h1 h2 => exact .cons (da_dp d _ h1) (daAll_dp ds _ h2)
end
theorem Da.dp {K : PySem.W.Frag} {G H : Hp} {v : V} {d : PyData} (h : Da G v d) (s : Same G H) : Dp K H v d := da_dp d v (h.mono s)
section
variable {G H : Hp}
theorem da_int {v : V} {i : Int} (h : Da G v (.int i)) : v = .int i := by cases h; rfl
theorem da_str {v : V} {x : Str} (h : Da G v (.str x)) : v = .str x := by cases h; rfl
theorem da_bl {v : V} {b : Bool} (h : Da G v (.bool b)) : v = .bl b := by cases h; rfl
theorem da_non {v : V} (h : Da G v .none) : v = .non := by cases h; rfl
theorem da_lst {v : V} {ds : List PyData} (h : Da G v (.list ds)) : ∃ a xs, v = .ref a ∧ G a = some (.lst xs) ∧ DaAll G xs ds := by cases h with | lst a b => exact ⟨_, _, rfl, a, b⟩
theorem da_tup {v : V} {ds : List PyData} (h : Da G v (.tuple ds)) : ∃ a xs, v = .ref a ∧ G a = some (.tup xs) ∧ DaAll G xs ds := by cases h with | tup a b => exact ⟨_, _, rfl, a, b⟩
theorem da_len : ∀ {xs : List V} {ds : List PyData}, DaAll G xs ds → xs.length = ds.length
  | _, _, .nil => rfl
  | _, _, .cons _ h => congrArg Nat.succ (da_len h)
theorem da_get : ∀ {xs : List V} {ds : List PyData} {i : Nat} {d : PyData}, DaAll G xs ds → ds[i]? = some d → ∃ v, xs[i]? = some v ∧ Da G v d
  | _, _, _, _, .nil, e => by simp at e
  | _, _, 0, _, .cons h _, e => by simp at e; subst e; exact ⟨_, rfl, h⟩
  | _, _, i + 1, _, .cons _ h, e => by
    obtain ⟨v, h1, h2⟩ := da_get (i := i) h (by simpa using e)
    exact ⟨v, by simpa using h1, h2⟩
theorem da_getV {xs : List V} {ds : List PyData} {i : Nat} {v : V} (h : DaAll G xs ds) (e : xs[i]? = some v) : ∃ d, ds[i]? = some d ∧ Da G v d := by
  have hl := da_len h
  have hi : i < xs.length := (List.getElem?_eq_some_iff.mp e).1
  obtain ⟨w, h1, h2⟩ := da_get (i := i) (d := ds[i]'(by omega)) h (by simp [show i < ds.length by omega])
  rw [e] at h1; cases h1
  exact ⟨_, by simp [show i < ds.length by omega], h2⟩
theorem da_app : ∀ {xs ys : List V} {ds es : List PyData}, DaAll G xs ds → DaAll G ys es → DaAll G (xs ++ ys) (ds ++ es)
  | _, _, _, _, .nil, h => h
  | _, _, _, _, .cons a b, h => .cons a (da_app b h)
theorem da_take : ∀ {xs : List V} {ds : List PyData} (n : Nat), DaAll G xs ds → DaAll G (xs.take n) (ds.take n)
  | _, _, 0, _ => .nil
  | _, _, _ + 1, .nil => .nil
  | _, _, n + 1, .cons a b => .cons a (da_take n b)
theorem da_drop : ∀ {xs : List V} {ds : List PyData} (n : Nat), DaAll G xs ds → DaAll G (xs.drop n) (ds.drop n)
  | _, _, 0, h => h
  | _, _, _ + 1, .nil => .nil
  | _, _, n + 1, .cons a b => da_drop n b
theorem da_set : ∀ {xs : List V} {ds : List PyData} {v : V} {d : PyData} (n : Nat), DaAll G xs ds → Da G v d → DaAll G (xs.set n v) (ds.set n d)
  | _, _, _, _, _, .nil, _ => .nil
  | _, _, _, _, 0, .cons _ b, h => .cons h b
  | _, _, _, _, n + 1, .cons a b, h => .cons a (da_set n b h)
theorem da_snoc {xs : List V} {ds : List PyData} {v : V} {d : PyData} (h : DaAll G xs ds) (q : Da G v d) : DaAll G (xs ++ [v]) (ds ++ [d]) := da_app h (.cons q .nil)
theorem da_rev : ∀ {xs : List V} {ds : List PyData}, DaAll G xs ds → DaAll G xs.reverse ds.reverse
  | _, _, .nil => .nil
  | _, _, .cons a b => by
    rw [List.reverse_cons, List.reverse_cons]
    exact da_snoc (da_rev b) a
theorem da_ints : ∀ {xs : List V} {ns : List Int}, DaAll G xs (ns.map .int) → xs = ns.map .int
  | _, [], h => by cases h; rfl
  | _, n :: ns, h => by
    cases h with
    | cons a b => rw [da_int a, da_ints b]; rfl
theorem da_of_ints : ∀ (ns : List Int), DaAll G (ns.map .int) (ns.map .int)
  | [] => .nil
  | n :: ns => .cons (.int n) (da_of_ints ns)
theorem da_strs : ∀ {xs : List V} {ns : List Str}, DaAll G xs (ns.map .str) → xs = ns.map .str
  | _, [], h => by cases h; rfl
  | _, n :: ns, h => by
    cases h with
    | cons a b => rw [da_str a, da_strs b]; rfl
theorem da_bls : ∀ {xs : List V} {ns : List Bool}, DaAll G xs (ns.map .bool) → xs = ns.map .bl
  | _, [], h => by cases h; rfl
  | _, n :: ns, h => by
    cases h with
    | cons a b => rw [da_bl a, da_bls b]; rfl
theorem da_nil {xs : List V} (h : DaAll G xs []) : xs = [] := by cases h; rfl
theorem da_cons {xs : List V} {d : PyData} {ds : List PyData} (h : DaAll G xs (d :: ds)) : ∃ v vs, xs = v :: vs ∧ Da G v d ∧ DaAll G vs ds := by
  cases h with | cons a b => exact ⟨_, _, rfl, a, b⟩
end

/-! ### slots -/
inductive Sl where
  | any | dat (d : PyData) | val (v : V)
def SlOk (G : Hp) (o : Option V) : Sl → Prop
  | .any => True
  | .dat d => ∃ v, o = some v ∧ Da G v d
  | .val v => o = some v
def EnvOk (G : Hp) : St → List Sl → Prop
  | [], [] => True
  | o :: σ, r :: ρ => SlOk G o r ∧ EnvOk G σ ρ
  | _, _ => False
section
variable {G G' H : Hp}
theorem SlOk.mono (s : Same G G') {o : Option V} : ∀ {r : Sl}, SlOk G o r → SlOk G' o r
  | .any, _ => True.intro
  | .dat _, ⟨v, e, h⟩ => ⟨v, e, h.mono s⟩
  | .val _, h => h
theorem EnvOk.mono (s : Same G G') : ∀ {σ : St} {ρ : List Sl}, EnvOk G σ ρ → EnvOk G' σ ρ
  | [], [], _ => True.intro
  | _ :: _, _ :: _, ⟨a, b⟩ => ⟨a.mono s, EnvOk.mono s b⟩
  | [], _ :: _, h => h.elim
  | _ :: _, [], h => h.elim
theorem EnvOk.getS : ∀ {σ : St} {ρ : List Sl} {i : Nat} {r : Sl}, EnvOk G σ ρ → ρ[i]? = some r → ∃ o, σ[i]? = some o ∧ SlOk G o r
  | [], [], _, _, _, e => by simp at e
  | o :: _, r :: _, 0, _, ⟨a, _⟩, e => by simp at e; subst e; exact ⟨o, rfl, a⟩
  | _ :: σ, _ :: ρ, i + 1, _, ⟨_, b⟩, e => by
    obtain ⟨o, h1, h2⟩ := EnvOk.getS (i := i) b (by simpa using e)
    exact ⟨o, by simpa using h1, h2⟩
  | [], _ :: _, _, _, h, _ => h.elim
  | _ :: _, [], _, _, h, _ => h.elim
theorem EnvOk.setS : ∀ {σ : St} {ρ : List Sl} (i : Nat) {o : Option V} {r : Sl}, EnvOk G σ ρ → SlOk G o r → EnvOk G (σ.set i o) (ρ.set i r)
  | [], [], _, _, _, _, _ => True.intro
  | _ :: _, _ :: _, 0, _, _, ⟨_, b⟩, h => ⟨h, b⟩
  | _ :: _, _ :: _, i + 1, _, _, ⟨a, b⟩, h => ⟨a, EnvOk.setS i b h⟩
  | [], _ :: _, _, _, _, h, _ => h.elim
  | _ :: _, [], _, _, _, h, _ => h.elim
/-- weaker slots, one by one -/
def SlLe (G : Hp) (r r' : Sl) : Prop := ∀ o, SlOk G o r → SlOk G o r'
def SlsLe (G : Hp) : List Sl → List Sl → Prop
  | [], [] => True
  | r :: ρ, r' :: ρ' => SlLe G r r' ∧ SlsLe G ρ ρ'
  | _, _ => False
theorem EnvOk.le : ∀ {σ : St} {ρ ρ' : List Sl}, EnvOk G σ ρ → SlsLe G ρ ρ' → EnvOk G σ ρ'
  | [], [], [], _, _ => True.intro
  | _ :: _, _ :: _, _ :: _, ⟨a, b⟩, ⟨c, d⟩ => ⟨c _ a, EnvOk.le b d⟩
  | [], _ :: _, _, h, _ => h.elim
  | _ :: _, [], _, h, _ => h.elim
  | _, [], _ :: _, _, h => h.elim
  | _, _ :: _, [], _, h => h.elim
theorem SlLe.rfl' {r : Sl} : SlLe G r r := fun _ h => h
theorem SlLe.any' {r : Sl} : SlLe G r .any := fun _ _ => True.intro
theorem SlLe.frz {v : V} {d : PyData} (h : Da G v d) : SlLe G (.val v) (.dat d) := fun _ e => ⟨v, e, h⟩
theorem SlLe.int' {i : Int} : SlLe G (.dat (.int i)) (.val (.int i)) := fun o ⟨v, e, h⟩ => by rw [da_int h] at e; exact e
theorem SlLe.str' {i : Str} : SlLe G (.dat (.str i)) (.val (.str i)) := fun o ⟨v, e, h⟩ => by rw [da_str h] at e; exact e
theorem SlLe.bl' {i : Bool} : SlLe G (.dat (.bool i)) (.val (.bl i)) := fun o ⟨v, e, h⟩ => by rw [da_bl h] at e; exact e
theorem SlLe.non' : SlLe G (.dat .none) (.val .non) := fun o ⟨v, e, h⟩ => by rw [da_non h] at e; exact e
theorem SlLe.int'' {i : Int} : SlLe G (.val (.int i)) (.dat (.int i)) := fun o e => ⟨_, e, .int i⟩
/-- a def's entry -/
def ent (n : Nat) (ρ : List Sl) : List Sl := ρ ++ List.replicate (n - ρ.length) .any
theorem env_none (G : Hp) : ∀ n, EnvOk G (List.replicate n none) (List.replicate n .any)
  | 0 => True.intro
  | n + 1 => ⟨True.intro, env_none G n⟩
theorem env_app : ∀ {σ τ : St} {ρ θ : List Sl}, EnvOk G σ ρ → EnvOk G τ θ → EnvOk G (σ ++ τ) (ρ ++ θ)
  | [], _, [], _, _, h => h
  | _ :: _, _, _ :: _, _, ⟨a, b⟩, h => ⟨a, env_app b h⟩
  | [], _, _ :: _, _, h, _ => h.elim
  | _ :: _, _, [], _, h, _ => h.elim
theorem env_dat : ∀ {vs : List V} {ds : List PyData}, DaAll G vs ds → EnvOk G (vs.map some) (ds.map .dat)
  | _, _, .nil => True.intro
  | _, _, .cons a b => ⟨⟨_, rfl, a⟩, env_dat b⟩
theorem EnvOk.len : ∀ {σ : St} {ρ : List Sl}, EnvOk G σ ρ → σ.length = ρ.length
  | [], [], _ => rfl
  | _ :: _, _ :: _, ⟨_, b⟩ => congrArg Nat.succ (EnvOk.len b)
  | [], _ :: _, h => h.elim
  | _ :: _, [], h => h.elim
theorem env_start {N : List Str} {vs : List V} {ρ : List Sl} (h : EnvOk G (vs.map some) ρ) : EnvOk G (start N vs) (ρ ++ List.replicate (N.length - vs.length) .any) :=
  env_app h (env_none G _)
end

/-! ### what is changed: heaplets -/
structure As where
  fp : Addr → Prop
  ok : Hp → Hp → Prop
  stays : ∀ {G H G' H' : Hp}, Same G G' → (∀ b o, fp b → H b = some o → H' b = some o) → ok G H → ok G' H'
theorem As.gx (a : As) {G H G' H' : Hp} {L : Addr → Prop} (g : Gx L G H G' H') (n : ∀ b, a.fp b → ¬ L b) (k : a.ok G H) : a.ok G' H' := a.stays g.g (fun b o q e => g.h b o e (n b q)) k
/-- a list of data -/
def As.lst (l : Addr) (ds : List PyData) : As where
  fp := fun b => b = l
  ok := fun G H => ∃ vs, H l = some (.lst vs) ∧ DaAll G vs ds
  stays := fun g k ⟨vs, e, h⟩ => ⟨vs, k _ _ rfl e, h.mono g⟩
/-- any object, as it is -/
def As.raw (l : Addr) (o : HO) : As where
  fp := fun b => b = l
  ok := fun _ H => H l = some o
  stays := fun _ k e => k _ _ rfl e

/-- a fact about what is frozen -/
structure Pin where
  ok : Hp → Prop
  mono : ∀ {G G' : Hp}, Same G G' → ok G → ok G'
/-- v is d -/
def pD (v : V) (d : PyData) : Pin := ⟨fun G => Da G v d, fun s h => h.mono s⟩
/-- what was known is known -/
def pS (G0 : Hp) : Pin := ⟨fun G => Same G0 G, fun s h => h.trans s⟩
/-- slots elsewhere -/
def pE (σ : St) (ρ : List Sl) : Pin := ⟨fun G => EnvOk G σ ρ, fun s h => h.mono s⟩
/-- the state within a def: G0 H0 the entry, L what of the entry may change; π pinned values; ρ the slots; μ the heaplets -/
structure ST (G0 H0 : Hp) (L : Addr → Prop) (π : List Pin) (ρ : List Sl) (μ : List As) (G : Hp) (σ : St) (H : Hp) : Prop where
  gx : Gx L G0 H0 G H
  env : EnvOk G σ ρ
  pin : ∀ p ∈ π, p.ok G
  ok : ∀ a ∈ μ, a.ok G H
  fp : ∀ a ∈ μ, ∀ b, a.fp b → G b = none ∧ H b ≠ none ∧ (L b ∨ H0 b = none)
  dj : μ.Pairwise fun a c => ∀ b, a.fp b → ¬ c.fp b
section
variable {G0 H0 : Hp} {L : Addr → Prop} {π : List Pin} {ρ : List Sl} {μ : List As} {G H G' H' : Hp} {σ σ' : St}
theorem ST.same (S : ST G0 H0 L π ρ μ G σ H) : Same G H := S.gx.s
/-- growth alone -/
theorem ST.grow (S : ST G0 H0 L π ρ μ G σ H) (g : Gr G H G' H') : ST G0 H0 L π ρ μ G' σ H' where
  gx := S.gx.then g fun _ z => z.elim
  env := S.env.mono g.g
  pin := fun p hp => p.mono g.g (S.pin p hp)
  ok := fun a ha => a.gx g (fun _ _ z => z) (S.ok a ha)
  fp := fun a ha b hb => ⟨g.ap b (S.fp a ha b hb).2.1 (S.fp a ha b hb).1, g.dom b (S.fp a ha b hb).2.1, (S.fp a ha b hb).2.2⟩
  dj := S.dj
theorem ST.new0 (S : ST G0 H0 L π ρ μ G σ H) {b : Addr} (h : H b = none) : H0 b = none := by
  cases e : H0 b with
  | none => rfl
  | some o => exact absurd h (S.gx.dom b (by rw [e]; exact fun z => by cases z))
/-- the slots -/
theorem ST.slot (S : ST G0 H0 L π ρ μ G σ H) (e : EnvOk G σ' ρ') : ST G0 H0 L π ρ' μ G σ' H := ⟨S.gx, e, S.pin, S.ok, S.fp, S.dj⟩
theorem ST.set (S : ST G0 H0 L π ρ μ G σ H) (i : Nat) {v : V} : ST G0 H0 L π (ρ.set i (.val v)) μ G (σ.set i (some v)) H := S.slot (S.env.setS i rfl)
theorem ST.setD (S : ST G0 H0 L π ρ μ G σ H) (i : Nat) {v : V} {d : PyData} (h : Da G v d) : ST G0 H0 L π (ρ.set i (.dat d)) μ G (σ.set i (some v)) H := S.slot (S.env.setS i ⟨v, rfl, h⟩)
theorem ST.le (S : ST G0 H0 L π ρ μ G σ H) {ρ' : List Sl} (h : SlsLe G ρ ρ') : ST G0 H0 L π ρ' μ G σ H := S.slot (S.env.le h)
/-- pins -/
theorem ST.pinP (S : ST G0 H0 L π ρ μ G σ H) {p : Pin} (h : p.ok G) : ST G0 H0 L (p :: π) ρ μ G σ H :=
  ⟨S.gx, S.env, fun q hq => (List.mem_cons.mp hq).elim (fun e => by rw [e]; exact h) (S.pin q), S.ok, S.fp, S.dj⟩
theorem ST.pinned (S : ST G0 H0 L π ρ μ G σ H) {v : V} {d : PyData} (h : Da G v d) : ST G0 H0 L (pD v d :: π) ρ μ G σ H := S.pinP (p := pD v d) h
theorem ST.unpin {q : Pin} (S : ST G0 H0 L (q :: π) ρ μ G σ H) : ST G0 H0 L π ρ μ G σ H :=
  ⟨S.gx, S.env, fun p hp => S.pin p (List.mem_cons_of_mem _ hp), S.ok, S.fp, S.dj⟩
theorem ST.pin0 {v : V} {d : PyData} (S : ST G0 H0 L (pD v d :: π) ρ μ G σ H) : Da G v d := S.pin (pD v d) (List.mem_cons_self ..)
theorem ST.pin1 {q : Pin} {v : V} {d : PyData} (S : ST G0 H0 L (q :: pD v d :: π) ρ μ G σ H) : Da G v d := S.pin (pD v d) (List.mem_cons_of_mem _ (List.mem_cons_self ..))
theorem ST.pin2 {q r : Pin} {v : V} {d : PyData} (S : ST G0 H0 L (q :: r :: pD v d :: π) ρ μ G σ H) : Da G v d := S.pin (pD v d) (List.mem_cons_of_mem _ (List.mem_cons_of_mem _ (List.mem_cons_self ..)))
theorem ST.pin3 {q r t : Pin} {v : V} {d : PyData} (S : ST G0 H0 L (q :: r :: t :: pD v d :: π) ρ μ G σ H) : Da G v d := S.pin (pD v d) (List.mem_cons_of_mem _ (List.mem_cons_of_mem _ (List.mem_cons_of_mem _ (List.mem_cons_self ..))))
/-- the slots are kept beside, and are taken again -/
theorem ST.save (S : ST G0 H0 L π ρ μ G σ H) : ST G0 H0 L (pE σ ρ :: π) ρ μ G σ H := S.pinP (p := pE σ ρ) S.env
theorem ST.back {σ' : St} {ρ' : List Sl} (S : ST G0 H0 L (pE σ ρ :: π) ρ' μ G σ' H) : ST G0 H0 L π ρ μ G σ H :=
  ⟨S.gx, S.pin (pE σ ρ) (List.mem_cons_self ..), fun p hp => S.pin p (List.mem_cons_of_mem _ hp), S.ok, S.fp, S.dj⟩
/-- a heaplet is new -/
theorem ST.add (S : ST G0 H0 L π ρ μ G σ H) (g : Gr G H G' H') {A : As} (ok : A.ok G' H') (fp : ∀ b, A.fp b → H b = none ∧ G' b = none ∧ H' b ≠ none) : ST G0 H0 L π ρ (A :: μ) G' σ H' := by
  have S' := S.grow g
  refine ⟨S'.gx, S'.env, S'.pin, fun a ha => ?_, fun a ha b hb => ?_, List.pairwise_cons.mpr ⟨fun a ha b hb z => (S.fp a ha b z).2.1 (fp b hb).1, S.dj⟩⟩
  · rcases List.mem_cons.mp ha with e | ha
    · subst e; exact ok
    · exact S'.ok a ha
  · rcases List.mem_cons.mp ha with e | ha
    · subst e; exact ⟨(fp b hb).2.1, (fp b hb).2.2, .inr (S.new0 (fp b hb).1)⟩
    · exact S'.fp a ha b hb
theorem ST.drop {A : As} (S : ST G0 H0 L π ρ (A :: μ) G σ H) : ST G0 H0 L π ρ μ G σ H :=
  ⟨S.gx, S.env, S.pin, fun a ha => S.ok a (List.mem_cons_of_mem _ ha), fun a ha => S.fp a (List.mem_cons_of_mem _ ha), (List.pairwise_cons.mp S.dj).2⟩
/-- the heaplet ahead changes -/
theorem ST.step {A A' : As} (S : ST G0 H0 L π ρ (A :: μ) G σ H) (g : Gx A.fp G H G' H') (ok : A'.ok G' H') (fp : ∀ b, A'.fp b → (A.fp b ∨ H b = none) ∧ G' b = none ∧ H' b ≠ none) : ST G0 H0 L π ρ (A' :: μ) G' σ H' := by
  have dj := List.pairwise_cons.mp S.dj
  have mA : A ∈ A :: μ := List.mem_cons_self ..
  refine ⟨S.gx.then g fun c z => (S.fp A mA c z).2.2, S.env.mono g.g, fun p hp => p.mono g.g (S.pin p hp), fun a ha => ?_, fun a ha b hb => ?_, List.pairwise_cons.mpr ⟨fun a ha b hb z => ?_, dj.2⟩⟩
  · rcases List.mem_cons.mp ha with e | ha
    · subst e; exact ok
    · exact a.gx g (fun b hb z => dj.1 a ha b z hb) (S.ok a (List.mem_cons_of_mem _ ha))
  · rcases List.mem_cons.mp ha with e | ha
    · subst e
      obtain ⟨h1, h2, h3⟩ := fp b hb
      refine ⟨h2, h3, ?_⟩
      rcases h1 with h1 | h1
      · exact (S.fp A mA b h1).2.2
      · exact .inr (S.new0 h1)
    · obtain ⟨h1, h2, h3⟩ := S.fp a (List.mem_cons_of_mem _ ha) b hb
      exact ⟨g.ap b h2 h1, g.dom b h2, h3⟩
  · rcases (fp b hb).1 with h1 | h1
    · exact dj.1 a ha b h1 z
    · exact (S.fp a (List.mem_cons_of_mem _ ha) b z).2.1 h1
/-- heaplets in another order -/
theorem ST.perm {μ' : List As} (S : ST G0 H0 L π ρ μ G σ H) (p : μ.Perm μ') : ST G0 H0 L π ρ μ' G σ H :=
  ⟨S.gx, S.env, S.pin, fun a ha => S.ok a (p.mem_iff.mpr ha), fun a ha => S.fp a (p.mem_iff.mpr ha), (p.pairwise_iff (fun h b h1 h2 => h b h2 h1)).mp S.dj⟩
theorem ST.swap {A B : As} (S : ST G0 H0 L π ρ (A :: B :: μ) G σ H) : ST G0 H0 L π ρ (B :: A :: μ) G σ H := S.perm (List.Perm.swap B A μ)
theorem ST.swap1 {A B C : As} (S : ST G0 H0 L π ρ (A :: B :: C :: μ) G σ H) : ST G0 H0 L π ρ (A :: C :: B :: μ) G σ H := S.perm ((List.Perm.swap C B μ).cons A)
theorem ST.swap2 {A B C D : As} (S : ST G0 H0 L π ρ (A :: B :: C :: D :: μ) G σ H) : ST G0 H0 L π ρ (A :: B :: D :: C :: μ) G σ H := S.perm (((List.Perm.swap D C μ).cons B).cons A)
theorem ST.rot {A B C : As} (S : ST G0 H0 L π ρ (A :: B :: C :: μ) G σ H) : ST G0 H0 L π ρ (C :: A :: B :: μ) G σ H := by
  refine S.perm ?_
  exact ((List.Perm.swap C B μ).cons A).trans (List.Perm.swap C A (B :: μ))
theorem ST.head {A : As} (S : ST G0 H0 L π ρ (A :: μ) G σ H) : A.ok G H := S.ok A (List.mem_cons_self ..)
theorem ST.hfp {A : As} (S : ST G0 H0 L π ρ (A :: μ) G σ H) {b : Addr} (h : A.fp b) : G b = none ∧ H b ≠ none ∧ (L b ∨ H0 b = none) := S.fp A (List.mem_cons_self ..) b h
/-- a list is frozen -/
theorem ST.freeze {l : Addr} {ds : List PyData} (S : ST G0 H0 L π ρ (As.lst l ds :: μ) G σ H) (h0 : H0 l = none) : ∃ G', ST G0 H0 L π ρ μ G' σ H ∧ Da G' (.ref l) (.list ds) ∧ Same G G' := by
  obtain ⟨vs, e, ha⟩ := S.head
  obtain ⟨gl, _, _⟩ := S.hfp (b := l) rfl
  have sg : Same G (upd G l (.lst vs)) := fun b o q => by rw [upd_ne (ne_of_none q gl)]; exact q
  have dj := List.pairwise_cons.mp S.dj
  refine ⟨upd G l (.lst vs), ⟨⟨S.gx.g.trans sg, S.gx.h, fun b o q => ?_, fun b q n => ?_, S.gx.dom⟩, S.env.mono sg, fun p hp => p.mono sg (S.pin p hp), fun a ha' => ?_, fun a ha' b hb => ?_, dj.2⟩, .lst upd_same (ha.mono sg), sg⟩
  · by_cases hb : b = l
    · subst hb; rw [upd_same] at q; cases q; exact e
    · rw [upd_ne hb] at q; exact S.gx.s b o q
  · have hb : b ≠ l := fun z => q (by rw [z]; exact h0)
    rw [upd_ne hb]; exact S.gx.ap b q n
  · exact a.stays sg (fun _ _ _ q => q) (S.ok a (List.mem_cons_of_mem _ ha'))
  · obtain ⟨h1, h2, h3⟩ := S.fp a (List.mem_cons_of_mem _ ha') b hb
    have hb' : b ≠ l := fun z => dj.1 a ha' l rfl (by rw [← z]; exact hb)
    exact ⟨by rw [upd_ne hb']; exact h1, h2, h3⟩
end
end Hw

/-! Hw, part B: rules that serve several kinds of values, and steps over readings. -/
namespace Hw
open PySem L2

/-! ### operations for any kind of value -/
section
variable {X : Cx}
def rStrCat : R2 := fun x y H Q => ∃ i j, x = .str i ∧ y = .str j ∧ i.length + j.length ≤ sizeLine ∧ Q (.str (i ++ j)) H
def rPlus (K : PySem.W.Frag) : R2 := fun x y H Q => (rI0 (fun i j => .int (i + j)) x y H Q ∨ rStrCat x y H Q) ∨ (rCat x y H Q ∨ rCatA K x y H Q)
theorem op_plus : OpR X (binaryOp .Add) (rPlus X.K) := (op_add.or op_add_str).or (op_cat.or op_catA)
def rTimes : R2 := fun x y H Q => rI CMul (fun i j => .int (i * j)) x y H Q ∨ rRep x y H Q
theorem op_times : OpR X (binaryOp .Mult) rTimes := op_mul.or op_rep
theorem u65 {k : Nat} {A : Around} (r : Room k A) : A.units + 65 < cLine := by have := r.un; omega
def rAmong (K : PySem.W.Frag) : R2 := fun x y H Q => rIn K false x y H Q ∨ rInD K x y H Q
theorem op_among (hu : X.A.units + 65 < cLine) : OpR X (compareOp .In) (rAmong X.K) := op_in_seq.or (op_inD hu)
def rNotAmong (K : PySem.W.Frag) : R2 := fun x y H Q => rIn K true x y H Q ∨ rNotInD K x y H Q
theorem op_notAmong (hu : X.A.units + 65 < cLine) : OpR X (compareOp .NotIn) (rNotAmong X.K) := op_notIn_seq.or (op_notInD hu)
/-- xs[i], read in xs[i] += e -/
def rGetL (K : PySem.W.Frag) : V → V → Hp → VK → Prop := fun x y H Q => ∃ p xs i w, x = .ref p ∧ y = .int i ∧ SqL K H p xs ∧ 0 ≤ i ∧ i < 2 ^ 63 ∧ xs[i.toNat]? = some w ∧ Q w H
theorem get_list : PGet X (rGetL X.K) := by
  intro pins s σ H x y v u Q I rx ry h
  obtain ⟨p, xs, i, w, rfl, rfl, hq, h0, h1, hw, q⟩ := h
  cases rx
  obtain ⟨t, rfl⟩ := ry
  obtain ⟨its, r, pl, hz⟩ := I.list hq
  obtain ⟨z, ez, rz⟩ := r.get hw
  exact wpAny_getItem_list pl.isList h0 h1 (x := z) (by simpa using ez) ⟨w, H, I, rz, q⟩
def rMinus : R2 := rI0 fun i j => .int (i - j)
theorem op_minus : OpR X (binaryOp .Sub) rMinus := op_sub
def rDiv : R2 := rI CDivW fun i j => .int (i / j)
theorem op_div : OpR X (binaryOp .FloorDiv) rDiv := op_fdivW
def rMod : R2 := rI (fun _ j => 0 < j) fun i j => .int (i % j)
theorem op_rem : OpR X (binaryOp .Mod) rMod := op_mod
def rPow : R2 := rI CPow fun i j => .int (i ^ j.toNat)
theorem op_power : OpR X (binaryOp .Pow) rPow := op_pow
def rSame (K : PySem.W.Frag) : R2 := fun x y H Q => rEq x y H Q ∨ rEqD K x y H Q
def rDiff (K : PySem.W.Frag) : R2 := fun x y H Q => rNe x y H Q ∨ rNeD K x y H Q
theorem op_same (hu : X.A.units + 64 < cLine) : OpR X (compareOp .Eq) (rSame X.K) := op_eq.or (op_eqD hu)
theorem op_diff (hu : X.A.units + 64 < cLine) : OpR X (compareOp .NotEq) (rDiff X.K) := op_ne.or (op_neD hu)
def rLess (K : PySem.W.Frag) : R2 := fun x y H Q => rI0 (fun i j => .bl (decide (i < j))) x y H Q ∨ rLtT K x y H Q
theorem op_less (hu : X.A.units < cLine) : OpR X (compareOp .Lt) (rLess X.K) := op_lt.or (op_ltT hu)
def rLe : R2 := rI0 fun i j => .bl (decide (i ≤ j))
theorem op_leI : OpR X (compareOp .LtE) rLe := op_le
def rGt : R2 := rI0 fun i j => .bl (decide (j < i))
theorem op_gtI : OpR X (compareOp .Gt) rGt := op_gt
def rGe : R2 := rI0 fun i j => .bl (decide (j ≤ i))
theorem op_geI : OpR X (compareOp .GtE) rGe := op_ge
def rIsNone : R2 := fun x y H Q => y = .non ∧ Q (.bl (decide (x = .non))) H
theorem op_isNone : OpR X (compareOp .Is) rIsNone := op_isN
def rNotNone : R2 := fun x y H Q => y = .non ∧ Q (.bl (!decide (x = .non))) H
theorem op_notNone : OpR X (compareOp .IsNot) rNotNone := op_notN
def rInsert : V → List V → Hp → VK → Prop := fun x vs H Q => ∃ (l : Addr) (xs : List V) (i : Int) (y : V), x = .ref l ∧ vs = [.int i, y] ∧ H l = some (.lst xs) ∧ xs.length < sizeLine ∧ 0 ≤ i ∧ i < 2 ^ 63 ∧
    Q .non (upd H l (.lst (xs.take i.toNat ++ [y] ++ xs.drop i.toNat)))
theorem mt_ins : MtR X "list.insert" rInsert := mt_insert
/-- built-in calls -/
def rLen (K : PySem.W.Frag) : List V → Hp → VK → Prop := fun xs H Q => ∃ x n, xs = [x] ∧ LenV K x H n ∧ Q (.int n) H
theorem cl_len : CallR X (.builtin "len") (rLen X.K) := call_len
def rInt : List V → Hp → VK → Prop := fun xs H Q => (∃ i, xs = [.int i] ∧ Q (.int i) H) ∨ ∃ k, xs = [.bl k] ∧ Q (.int (if k then 1 else 0)) H
theorem cl_int : CallR X (.type "int") rInt := call_int1
def rMin2 : List V → Hp → VK → Prop := fun xs H Q => ∃ i j, xs = [.int i, .int j] ∧ Q (.int (if j < i then j else i)) H
theorem cl_min2 (hc : X.calm = true) : CallR X (.builtin "min") rMin2 := call_min2 hc
def rMax2 : List V → Hp → VK → Prop := fun xs H Q => ∃ i j, xs = [.int i, .int j] ∧ Q (.int (if j > i then j else i)) H
theorem cl_max2 (hc : X.calm = true) : CallR X (.builtin "max") rMax2 := call_max2 hc
def rList (K : PySem.W.Frag) : List V → Hp → VK → Prop := fun xs H Q => ∃ p ys, xs = [.ref p] ∧ (SqL K H p ys ∨ SqT K H p ys) ∧ ∀ l, H l = none → Q (.ref l) (upd H l (.lst ys))
theorem cl_list : CallR X (.type "list") (rList X.K) := call_list_of
def rTuple (K : PySem.W.Frag) : List V → Hp → VK → Prop := fun xs H Q => ∃ p ys, xs = [.ref p] ∧ ((SqL K H p ys ∧ ∀ l, H l = none → Q (.ref l) (upd H l (.tup ys))) ∨ (SqT K H p ys ∧ Q (.ref p) H))
theorem cl_tuple : CallR X (.type "tuple") (rTuple X.K) := call_tuple_of
def rIsi (K : PySem.W.Frag) : List V → Hp → VK → Prop := fun xs H Q => L2.rIsi K xs H Q ∨ L2.rIsiT K xs H Q
theorem cl_isi : CallR X (.builtin "isinstance") (rIsi X.K) := by
  intro pins s σ H xs us Q I r h
  rcases h with h | h
  · exact call_isi pins s σ H xs us Q I r h
  · exact call_isiT pins s σ H xs us Q I r h
/-- a slice of a list, a text, a tuple -/
def rSlice (K : PySem.W.Frag) : V → Option Int → Option Int → Hp → VK → Prop := fun x lo hi H Q => rSlL K x lo hi H Q ∨ rSlS x lo hi H Q ∨ rSlA K x lo hi H Q
theorem sl_any : SlR X (rSlice X.K) := by
  exact sl_list.or (sl_str.or sl_tupA)
end

section
variable {K : PySem.W.Frag} {G0 H0 : Hp} {L : Addr → Prop} {π : List Pin} {ρ : List Sl} {μ : List As} {G H : Hp} {σ : St}

/-! ### steps: structure -/
variable {Q : VK} {D : Ends} {t u : TS} {te ta tb tc : TE} {tt tw : TT} {x y v w : V}
theorem c_seq (h : t { D with nx := u D } σ H) : tSeq t u D σ H := h
/-- a statement whose ways meet behind it: Φ is what is known there -/
theorem c_seqJ (Φ : St → Hp → Prop) (rest : ∀ σ' H', Φ σ' H' → u D σ' H') (first : ∀ J : St → Hp → Prop, (∀ σ' H', Φ σ' H' → J σ' H') → t { D with nx := J } σ H) : tSeq t u D σ H := first (u D) rest
theorem c_asg {g : TG} (h : te σ H fun x H1 => g x σ H1 D.nx) : tAsg te g D σ H := h
theorem c_drop (h : te σ H fun _ H1 => D.nx σ H1) : tDrop te D σ H := h
theorem c_ret (h : te σ H D.rt) : tRet te D σ H := h
theorem c_if {c : TT} (h : c σ H fun b H1 => if b = true then t D σ H1 else u D σ H1) : tIfS c t u D σ H := h
theorem c_next (h : D.nx σ H) : tNext D σ H := h
def isB (Q : Bool → Hp → Prop) (x : V) (H : Hp) : Prop := ∃ k, x = .bl k ∧ Q k H
def isI (Q : Option Int → Hp → Prop) (x : V) (H : Hp) : Prop := ∃ i, x = .int i ∧ Q (some i) H
theorem c_test {Q : Bool → Hp → Prop} (h : te σ H (isB Q)) : tTest te σ H Q := h
theorem c_B {Q : Bool → Hp → Prop} (h : te σ H (isB Q)) : tB te σ H Q := h
theorem c_isB {b : Bool} {Q : Bool → Hp → Prop} (h : Q b H) : isB Q (.bl b) H := ⟨b, rfl, h⟩
theorem c_not {Q : Bool → Hp → Prop} (h : tt σ H fun c H1 => Q (!c) H1) : tNot tt σ H Q := h
theorem c_and {Q : Bool → Hp → Prop} (h : tt σ H fun c H1 => if c = true then tw σ H1 Q else Q false H1) : tAnd tt tw σ H Q := h
theorem c_or {Q : Bool → Hp → Prop} (h : tt σ H fun c H1 => if c = true then Q true H1 else tw σ H1 Q) : tOr tt tw σ H Q := h
theorem c_andV (h : ta σ H (isB fun c H1 => if c = true then tb σ H1 Q else Q (.bl false) H1)) : tAndV ta tb σ H Q := h
theorem c_orV (h : ta σ H (isB fun c H1 => if c = true then Q (.bl true) H1 else tb σ H1 Q)) : tOrV ta tb σ H Q := h
theorem c_notV (h : ta σ H (isB fun c H1 => Q (.bl (!c)) H1)) : tNotV ta σ H Q := h
theorem c_ifE (h : tt σ H fun c H1 => if c = true then ta σ H1 Q else tb σ H1 Q) : tIf tt ta tb σ H Q := h
theorem c_cons {r : TA} {Q : List V → Hp → Prop} (h : te σ H fun x H1 => r σ H1 fun xs H2 => Q (x :: xs) H2) : tCons te r σ H Q := h
theorem c_nil {Q : List V → Hp → Prop} (h : Q [] H) : tNil σ H Q := h
theorem c_op {r : R2} (h : ta σ H fun x H1 => tb σ H1 fun y H2 => r x y H2 Q) : tOp r ta tb σ H Q := h
theorem c_un {r : V → Hp → VK → Prop} (h : ta σ H fun x H1 => r x H1 Q) : tUn r ta σ H Q := h
theorem c_cb {r : List V → Hp → VK → Prop} {a : TA} (h : a σ H fun vs H1 => r vs H1 Q) : tCB r a σ H Q := h
theorem c_call {sp : Sp} {E : XK} {a : TA} (h : a σ H fun vs H1 => sp vs H1 Q E) : tCall sp [] E a σ H Q := by
  show a σ H fun vs H1 => sp (vs ++ []) H1 Q E
  have e : (fun (vs : List V) (H1 : Hp) => sp (vs ++ []) H1 Q E) = fun vs H1 => sp vs H1 Q E := by
    funext vs H1
    rw [List.append_nil]
  rw [e]
  exact h
theorem c_C (h : Q v H) : tC v σ H Q := h
theorem c_sl {r : V → Option Int → Option Int → Hp → VK → Prop} {tl th : TO} (h : te σ H fun x H1 => tl σ H1 fun l H2 => th σ H2 fun u H3 => r x l u H3 Q) : tSl r te tl th σ H Q := h
theorem c_noPart {Q : Option Int → Hp → Prop} (h : Q none H) : tNoPart σ H Q := h
theorem c_part {Q : Option Int → Hp → Prop} (h : te σ H (isI Q)) : tPart te σ H Q := h
theorem c_isI {i : Int} {Q : Option Int → Hp → Prop} (h : Q (some i) H) : isI Q (.int i) H := ⟨i, rfl, h⟩
/-- a new tuple, a new list is made of xs -/
def mkTup (Q : VK) (xs : List V) (H : Hp) : Prop := xs.length ≤ sizeLine ∧ ∀ p, H p = none → Q (.ref p) (upd H p (.tup xs))
def mkLst (Q : VK) (xs : List V) (H : Hp) : Prop := xs.length ≤ sizeLine ∧ ∀ p, H p = none → Q (.ref p) (upd H p (.lst xs))
theorem c_tup {a : TA} (h : a σ H (mkTup Q)) : tTup a σ H Q := h
theorem c_lst {a : TA} (h : a σ H (mkLst Q)) : tLst a σ H Q := h
theorem c_bm {T : String} {r : V → List V → Hp → VK → Prop} {a : TA} (h : te σ H fun x H1 => tyV K T x H1 ∧ a σ H1 fun xs H2 => r x xs H2 Q) : tBM K T r te a σ H Q := h
theorem c_bm0 {T : String} {r : V → List V → Hp → VK → Prop} (h : te σ H fun x H1 => tyV K T x H1 ∧ r x [] H1 Q) : tBM0 K T r te σ H Q := h
theorem c_gtup {n : Nat} {gs : TGs} {Q : St → Hp → Prop} (h : ∃ a xs, v = .ref a ∧ SqT K H a xs ∧ xs.length = n ∧ gs xs σ H Q) : gTup K n gs v σ H Q := h
theorem c_gcons {g : TG} {gs : TGs} {vs : List V} {Q : St → Hp → Prop} (h : g v σ H fun σ' H' => gs vs σ' H' Q) : gCons g gs (v :: vs) σ H Q := ⟨v, vs, rfl, h⟩
theorem c_gnil {Q : St → Hp → Prop} (h : Q σ H) : gNil [] σ H Q := ⟨rfl, h⟩
theorem c_ite {P A B : Prop} {inst : Decidable P} (h1 : P → A) (h2 : ¬ P → B) : if decide P = true then A else B := by
  by_cases h : P
  · rw [decide_eq_true h]; exact h1 h
  · rw [decide_eq_false h]; exact h2 h
theorem c_iteN {P A B : Prop} {inst : Decidable P} (h1 : ¬ P → A) (h2 : P → B) : if (!decide P) = true then A else B := by
  by_cases h : P
  · rw [decide_eq_true h]; exact h2 h
  · rw [decide_eq_false h]; exact h1 h
theorem c_iteB {b : Bool} {A B : Prop} (h1 : b = true → A) (h2 : b = false → B) : if b = true then A else B := by
  cases b
  · exact h2 rfl
  · exact h1 rfl

/-! ### steps: names -/
theorem c_var {i : Nat} (S : ST G0 H0 L π ρ μ G σ H) (hi : ρ[i]? = some (.val v)) (h : Q v H) : tVar i σ H Q := by
  obtain ⟨o, e, k⟩ := S.env.getS hi
  exact ⟨v, by rw [e]; exact congrArg some k, h⟩
theorem c_varD {i : Nat} {d : PyData} (S : ST G0 H0 L π ρ μ G σ H) (hi : ρ[i]? = some (.dat d)) (h : ∀ v, Da G v d → Q v H) : tVar i σ H Q := by
  obtain ⟨o, e, w, k, hw⟩ := S.env.getS hi
  exact ⟨w, by rw [e, k], h w hw⟩
theorem c_set {i : Nat} {Q : St → Hp → Prop} (S : ST G0 H0 L π ρ μ G σ H) (h : ∀ σ', ST G0 H0 L π (ρ.set i (.val v)) μ G σ' H → Q σ' H) : gName i v σ H Q := h _ (S.set i)
theorem c_setI {i : Nat} {n : Int} {Q : St → Hp → Prop} (S : ST G0 H0 L π ρ μ G σ H) (h : ∀ σ', ST G0 H0 L π (ρ.set i (.val (.int n))) μ G σ' H → Q σ' H) : gName i (.int n) σ H Q := h _ (S.set i)
theorem c_setS {i : Nat} {z : Str} {Q : St → Hp → Prop} (S : ST G0 H0 L π ρ μ G σ H) (h : ∀ σ', ST G0 H0 L π (ρ.set i (.val (.str z))) μ G σ' H → Q σ' H) : gName i (.str z) σ H Q := h _ (S.set i)
theorem c_setB {i : Nat} {b : Bool} {Q : St → Hp → Prop} (S : ST G0 H0 L π ρ μ G σ H) (h : ∀ σ', ST G0 H0 L π (ρ.set i (.val (.bl b))) μ G σ' H → Q σ' H) : gName i (.bl b) σ H Q := h _ (S.set i)
theorem c_setN {i : Nat} {Q : St → Hp → Prop} (S : ST G0 H0 L π ρ μ G σ H) (h : ∀ σ', ST G0 H0 L π (ρ.set i (.val .non)) μ G σ' H → Q σ' H) : gName i .non σ H Q := h _ (S.set i)
theorem c_setD {i : Nat} {d : PyData} {Q : St → Hp → Prop} (S : ST G0 H0 L π ρ μ G σ H) (hv : Da G v d) (h : ∀ σ', ST G0 H0 L π (ρ.set i (.dat d)) μ G σ' H → Q σ' H) : gName i v σ H Q := h _ (S.setD i hv)
theorem c_aug {i : Nat} {ti : TIp} (S : ST G0 H0 L π ρ μ G σ H) (hi : ρ[i]? = some (.val v)) (h : te σ H fun y H1 => ti v y H1 fun z H2 => gName i z σ H2 D.nx) : tAug i te ti D σ H := by
  obtain ⟨o, e, k⟩ := S.env.getS hi
  exact ⟨v, by rw [e]; exact congrArg some k, h⟩
theorem c_ip {f : Int → Int → Int} {a b : Int} (h : Q (.int (f a b)) H) : ipI f (.int a) (.int b) H Q := ⟨a, b, rfl, rfl, h⟩

/-! ### steps: ints, texts, bools -/
theorem c_I0 {g : Int → Int → V} {i j : Int} (h : Q (g i j) H) : rI0 g (.int i) (.int j) H Q := ⟨i, j, rfl, rfl, h⟩
theorem c_I {C : Int → Int → Prop} {g : Int → Int → V} {i j : Int} (hc : C i j) (h : Q (g i j) H) : rI C g (.int i) (.int j) H Q := ⟨i, j, rfl, rfl, hc, h⟩
theorem c_plusI {i j : Int} (h : Q (.int (i + j)) H) : rPlus K (.int i) (.int j) H Q := .inl (.inl (c_I0 h))
theorem c_plusS {i j : Str} (hl : i.length + j.length ≤ sizeLine) (h : Q (.str (i ++ j)) H) : rPlus K (.str i) (.str j) H Q := .inl (.inr ⟨i, j, rfl, rfl, hl, h⟩)
theorem c_minus {i j : Int} (h : Q (.int (i - j)) H) : rMinus (.int i) (.int j) H Q := c_I0 h
theorem c_times {i j : Int} (hc : CMul i j) (h : Q (.int (i * j)) H) : rTimes (.int i) (.int j) H Q := .inl (c_I hc h)
theorem c_div {i j : Int} (hc : CDivW i j) (h : Q (.int (i / j)) H) : rDiv (.int i) (.int j) H Q := c_I hc h
theorem c_rem {i j : Int} (hc : 0 < j) (h : Q (.int (i % j)) H) : rMod (.int i) (.int j) H Q := c_I hc h
theorem c_pow {i j : Int} (hc : CPow i j) (h : Q (.int (i ^ j.toNat)) H) : rPow (.int i) (.int j) H Q := c_I hc h
theorem c_less {i j : Int} (h : Q (.bl (decide (i < j))) H) : rLess K (.int i) (.int j) H Q := .inl (c_I0 h)
theorem c_le {i j : Int} (h : Q (.bl (decide (i ≤ j))) H) : rLe (.int i) (.int j) H Q := c_I0 h
theorem c_gt {i j : Int} (h : Q (.bl (decide (j < i))) H) : rGt (.int i) (.int j) H Q := c_I0 h
theorem c_ge {i j : Int} (h : Q (.bl (decide (j ≤ i))) H) : rGe (.int i) (.int j) H Q := c_I0 h
theorem dec_i {i j : Int} : decide (V.int i = V.int j) = decide (i = j) := by simp
theorem dec_s {i j : Str} : decide (V.str i = V.str j) = decide (i = j) := by simp
theorem dec_b {i j : Bool} : decide (V.bl i = V.bl j) = decide (i = j) := by simp
theorem c_sameI {i j : Int} (h : Q (.bl (decide (i = j))) H) : rSame K (.int i) (.int j) H Q := .inl ⟨rfl, by rw [dec_i]; exact h⟩
theorem c_sameS {i j : Str} (h : Q (.bl (decide (i = j))) H) : rSame K (.str i) (.str j) H Q := .inl ⟨rfl, by rw [dec_s]; exact h⟩
theorem c_sameB {i j : Bool} (h : Q (.bl (decide (i = j))) H) : rSame K (.bl i) (.bl j) H Q := .inl ⟨rfl, by rw [dec_b]; exact h⟩
theorem c_sameNI {j : Int} (h : Q (.bl false) H) : rSame K .non (.int j) H Q := .inl ⟨rfl, h⟩
theorem c_diffI {i j : Int} (h : Q (.bl (!decide (i = j))) H) : rDiff K (.int i) (.int j) H Q := .inl ⟨rfl, by rw [dec_i]; exact h⟩
theorem c_diffS {i j : Str} (h : Q (.bl (!decide (i = j))) H) : rDiff K (.str i) (.str j) H Q := .inl ⟨rfl, by rw [dec_s]; exact h⟩
theorem c_diffB {i j : Bool} (h : Q (.bl (!decide (i = j))) H) : rDiff K (.bl i) (.bl j) H Q := .inl ⟨rfl, by rw [dec_b]; exact h⟩
theorem c_sameD {d e : PyData} (hx : Da G x d) (hy : Da G y e) (s : Same G H) (sd : SeqAt.shaped d = true) (se : SeqAt.shaped e = true) (h : Q (.bl (PyData.eqv d e)) H) : rSame K x y H Q := .inr ⟨d, e, hx.dp s, hy.dp s, sd, se, h⟩
theorem c_diffD {d e : PyData} (hx : Da G x d) (hy : Da G y e) (s : Same G H) (sd : SeqAt.shaped d = true) (se : SeqAt.shaped e = true) (h : Q (.bl (!PyData.eqv d e)) H) : rDiff K x y H Q := .inr ⟨d, e, hx.dp s, hy.dp s, sd, se, h⟩
theorem c_sameEq {G1 : Hp} {d : PyData} (hx : Da G1 x d) (hy : Da G1 y d) (s : Same G1 H) (sd : SeqAt.shaped d = true) (h : Q (.bl true) H) : rSame K x y H Q := .inr ⟨d, d, hx.dp s, hy.dp s, sd, sd, by rw [SeqAt.eqv_refl]; (exact h); (exact SeqAt.canLay_of_shaped sd)⟩
theorem c_diffEq {G1 : Hp} {d : PyData} (hx : Da G1 x d) (hy : Da G1 y d) (s : Same G1 H) (sd : SeqAt.shaped d = true) (h : Q (.bl false) H) : rDiff K x y H Q := .inr ⟨d, d, hx.dp s, hy.dp s, sd, sd, by rw [SeqAt.eqv_refl]; (exact h); (exact SeqAt.canLay_of_shaped sd)⟩
theorem c_isNone (h : Q (.bl (decide (x = .non))) H) : rIsNone x .non H Q := ⟨rfl, h⟩
theorem c_notNone (h : Q (.bl (!decide (x = .non))) H) : rNotNone x .non H Q := ⟨rfl, h⟩
theorem c_int {i : Int} (h : Q (.int i) H) : rInt [.int i] H Q := .inl ⟨i, rfl, h⟩
theorem c_intB {b : Bool} (h : Q (.int (if b then 1 else 0)) H) : rInt [.bl b] H Q := .inr ⟨b, rfl, h⟩
theorem c_min2 {i j : Int} (h : Q (.int (if j < i then j else i)) H) : rMin2 [.int i, .int j] H Q := ⟨i, j, rfl, h⟩
theorem c_max2 {i j : Int} (h : Q (.int (if j > i then j else i)) H) : rMax2 [.int i, .int j] H Q := ⟨i, j, rfl, h⟩
theorem c_lenS {z : Str} (hl : z.length ≤ sizeLine) (h : Q (.int z.length) H) : rLen K [.str z] H Q := ⟨_, _, rfl, ⟨hl, rfl⟩, h⟩

/-! ### steps: lists and tuples that are frozen -/
theorem c_lenL {ds : List PyData} (hv : Da G v (.list ds)) (s : Same G H) (h : Q (.int ds.length) H) : rLen K [v] H Q := by
  obtain ⟨a, xs, rfl, e, ha⟩ := da_lst hv
  exact ⟨_, _, rfl, .inl ⟨xs, SqL.of (s _ _ e), rfl⟩, by rw [da_len ha]; exact h⟩
theorem c_lenT {ds : List PyData} (hv : Da G v (.tuple ds)) (s : Same G H) (h : Q (.int ds.length) H) : rLen K [v] H Q := by
  obtain ⟨a, xs, rfl, e, ha⟩ := da_tup hv
  exact ⟨_, _, rfl, .inr ⟨xs, SqT.of (s _ _ e), rfl⟩, by rw [da_len ha]; exact h⟩
theorem c_lenM {a : Addr} {xs : List V} (e : H a = some (.lst xs)) (h : Q (.int xs.length) H) : rLen K [.ref a] H Q := ⟨_, _, rfl, .inl ⟨xs, SqL.of e, rfl⟩, h⟩
/-- of a list that is told by SqL (the script) -/
theorem c_lenQ {a : Addr} {xs : List V} (e : SqL K H a xs) (h : Q (.int xs.length) H) : rLen K [.ref a] H Q := ⟨_, _, rfl, .inl ⟨xs, e, rfl⟩, h⟩
/-- an item -/
theorem at_i {α : Type} {xs : List α} {i : Int} {k : Nat} {v : α} (hk : xs[k]? = some v) (h : (0 ≤ i ∧ i.toNat = k) ∨ (i < 0 ∧ (i + xs.length).toNat = k ∧ 0 ≤ i + xs.length)) : atI xs i = some v := by
  have hl : k < xs.length := (List.getElem?_eq_some_iff.mp hk).1
  unfold atI ixN
  rcases h with ⟨h1, h2⟩ | ⟨h1, h2, h3⟩
  · rw [if_pos h1, if_pos (by omega)]
    show xs[i.toNat]? = some v
    rw [h2]; exact hk
  · rw [if_neg (by omega), if_pos (by omega)]
    show xs[(i + xs.length).toNat]? = some v
    rw [h2]; exact hk
theorem c_ixL {ds : List PyData} {i : Int} {k : Nat} {d : PyData} (hv : Da G v (.list ds)) (s : Same G H) (hk : ds[k]? = some d) (hi : (0 ≤ i ∧ i.toNat = k) ∨ (i < 0 ∧ (i + ds.length).toNat = k ∧ 0 ≤ i + ds.length)) (h : ∀ w, Da G w d → Q w H) : rIx K v (.int i) H Q := by
  obtain ⟨a, xs, rfl, e, ha⟩ := da_lst hv
  obtain ⟨w, hw, hd⟩ := da_get ha hk
  exact .inl ⟨a, xs, i, w, rfl, rfl, SqL.of (s _ _ e), at_i hw (by rw [da_len ha]; exact hi), h w hd⟩
theorem c_ixT {ds : List PyData} {i : Int} {k : Nat} {d : PyData} (hv : Da G v (.tuple ds)) (s : Same G H) (hk : ds[k]? = some d) (hi : (0 ≤ i ∧ i.toNat = k) ∨ (i < 0 ∧ (i + ds.length).toNat = k ∧ 0 ≤ i + ds.length)) (h : ∀ w, Da G w d → Q w H) : rIx K v (.int i) H Q := by
  obtain ⟨a, xs, rfl, e, ha⟩ := da_tup hv
  obtain ⟨w, hw, hd⟩ := da_get ha hk
  exact .inr (.inl ⟨a, xs, i, w, rfl, rfl, SqT.of (s _ _ e), at_i hw (by rw [da_len ha]; exact hi), h w hd⟩)
theorem c_ixQ {a : Addr} {xs : List V} {i : Int} {k : Nat} (e : SqL K H a xs) (hk : xs[k]? = some w) (hi : (0 ≤ i ∧ i.toNat = k) ∨ (i < 0 ∧ (i + xs.length).toNat = k ∧ 0 ≤ i + xs.length)) (h : Q w H) : rIx K (.ref a) (.int i) H Q :=
  .inl ⟨a, xs, i, w, rfl, rfl, e, at_i hk hi, h⟩
/-- an item of a list that may change -/
theorem c_ixM {a : Addr} {xs : List V} {i : Int} {k : Nat} (e : H a = some (.lst xs)) (hk : xs[k]? = some w) (hi : (0 ≤ i ∧ i.toNat = k) ∨ (i < 0 ∧ (i + xs.length).toNat = k ∧ 0 ≤ i + xs.length)) (h : Q w H) : rIx K (.ref a) (.int i) H Q :=
  .inl ⟨a, xs, i, w, rfl, rfl, SqL.of e, at_i hk hi, h⟩
theorem c_ixS {z : Str} {i : Int} {k c : Nat} (hl : z.length ≤ sizeLine) (hk : z.cps.toList[k]? = some c) (hi : (0 ≤ i ∧ i.toNat = k) ∨ (i < 0 ∧ (i + z.cps.toList.length).toNat = k ∧ 0 ≤ i + z.cps.toList.length)) (h : Q (.str ⟨#[c]⟩) H) : rIx K (.str z) (.int i) H Q :=
  .inr (.inr ⟨z, i, c, rfl, rfl, hl, at_i hk hi, h⟩)
/-- a, b, .. = a tuple -/
theorem c_gtupD {ds : List PyData} {n : Nat} {gs : TGs} {Q : St → Hp → Prop} (hv : Da G v (.tuple ds)) (s : Same G H) (hn : ds.length = n) (h : ∀ xs, DaAll G xs ds → gs xs σ H Q) : gTup K n gs v σ H Q := by
  obtain ⟨a, xs, rfl, e, ha⟩ := da_tup hv
  exact ⟨a, xs, rfl, SqT.of (s _ _ e), by rw [da_len ha]; exact hn, h xs ha⟩

/-! ### steps: new objects -/
theorem c_mkT {xs : List V} {ds : List PyData} (S : ST G0 H0 L π ρ μ G σ H) (hd : DaAll G xs ds) (hl : xs.length ≤ sizeLine) (k : ∀ v G' H', ST G0 H0 L π ρ μ G' σ H' → Gr G H G' H' → Da G' v (.tuple ds) → Q v H') : mkTup Q xs H := by
  refine ⟨hl, fun p hp => ?_⟩
  have g : Gr G H (upd G p (.tup xs)) (upd H p (.tup xs)) := Gx.frz S.same hp
  exact k _ _ _ (S.grow g) g (.tup upd_same (hd.mono g.g))
theorem c_mkL {xs : List V} {ds : List PyData} (S : ST G0 H0 L π ρ μ G σ H) (hd : DaAll G xs ds) (hl : xs.length ≤ sizeLine) (k : ∀ v G' H', ST G0 H0 L π ρ μ G' σ H' → Gr G H G' H' → Da G' v (.list ds) → Q v H') : mkLst Q xs H := by
  refine ⟨hl, fun p hp => ?_⟩
  have g : Gr G H (upd G p (.lst xs)) (upd H p (.lst xs)) := Gx.frz S.same hp
  exact k _ _ _ (S.grow g) g (.lst upd_same (hd.mono g.g))
/-- a new list that will change -/
theorem c_newL {xs : List V} {ds : List PyData} (S : ST G0 H0 L π ρ μ G σ H) (hd : DaAll G xs ds) (hl : xs.length ≤ sizeLine) (k : ∀ p H', ST G0 H0 L π ρ (As.lst p ds :: μ) G σ H' → H0 p = none → Gr G H G H' → Q (.ref p) H') : mkLst Q xs H := by
  refine ⟨hl, fun p hp => ?_⟩
  have g : Gr G H G (upd H p (.lst xs)) := Gx.new S.same hp
  exact k p _ (S.add g ⟨xs, upd_same, hd⟩ fun b e => by cases e; exact ⟨hp, none_of_same S.same hp, by rw [upd_same]; exact fun z => by cases z⟩) (S.new0 hp) g
/-- the same in the place of a rule's last wish -/
theorem c_newL' {xs : List V} {ds : List PyData} (S : ST G0 H0 L π ρ μ G σ H) (hd : DaAll G xs ds) (k : ∀ p H', ST G0 H0 L π ρ (As.lst p ds :: μ) G σ H' → H0 p = none → Gr G H G H' → Q (.ref p) H') :
    ∀ p, H p = none → Q (.ref p) (upd H p (.lst xs)) := by
  intro p hp
  have g : Gr G H G (upd H p (.lst xs)) := Gx.new S.same hp
  exact k p _ (S.add g ⟨xs, upd_same, hd⟩ fun b e => by cases e; exact ⟨hp, none_of_same S.same hp, by rw [upd_same]; exact fun z => by cases z⟩) (S.new0 hp) g
theorem c_mkL' {xs : List V} {ds : List PyData} (S : ST G0 H0 L π ρ μ G σ H) (hd : DaAll G xs ds) (k : ∀ v G' H', ST G0 H0 L π ρ μ G' σ H' → Gr G H G' H' → Da G' v (.list ds) → Q v H') :
    ∀ p, H p = none → Q (.ref p) (upd H p (.lst xs)) := by
  intro p hp
  have g : Gr G H (upd G p (.lst xs)) (upd H p (.lst xs)) := Gx.frz S.same hp
  exact k _ _ _ (S.grow g) g (.lst upd_same (hd.mono g.g))

/-! ### steps: a list that changes -/
theorem c_tyL {a : Addr} {xs : List V} (e : H a = some (.lst xs)) : tyV K "list" (.ref a) H := Or.inl ⟨rfl, xs, SqL.of e⟩
theorem c_tyM {l : Addr} {ds : List PyData} (S : ST G0 H0 L π ρ (As.lst l ds :: μ) G σ H) : tyV K "list" (.ref l) H := by
  obtain ⟨vs, e, _⟩ := S.head
  exact c_tyL e
theorem ST.put {l : Addr} {ds es : List PyData} {vs : List V} (S : ST G0 H0 L π ρ (As.lst l ds :: μ) G σ H) (h : DaAll G vs es) : ST G0 H0 L π ρ (As.lst l es :: μ) G σ (upd H l (.lst vs)) := by
  obtain ⟨gl, _, _⟩ := S.hfp (b := l) rfl
  have g := Gx.put (o := .lst vs) S.same gl
  exact S.step g ⟨vs, upd_same, h⟩ fun b e => by cases e; exact ⟨.inl rfl, gl, by rw [upd_same]; exact fun z => by cases z⟩
theorem c_append {l : Addr} {ds : List PyData} {d : PyData} (S : ST G0 H0 L π ρ (As.lst l ds :: μ) G σ H) (hv : Da G v d) (hl : ds.length < sizeLine) (k : ∀ H', ST G0 H0 L π ρ (As.lst l (ds ++ [d]) :: μ) G σ H' → Q .non H') : rAppend (.ref l) [v] H Q := by
  obtain ⟨vs, e, ha⟩ := S.head
  exact ⟨l, vs, v, rfl, rfl, e, by rw [da_len ha]; exact hl, k _ (S.put (da_snoc ha hv))⟩
theorem c_insert {l : Addr} {ds : List PyData} {d : PyData} {i : Int} (S : ST G0 H0 L π ρ (As.lst l ds :: μ) G σ H) (hv : Da G v d) (hl : ds.length < sizeLine) (h0 : 0 ≤ i) (h1 : i < 2 ^ 63) (k : ∀ H', ST G0 H0 L π ρ (As.lst l (ds.take i.toNat ++ [d] ++ ds.drop i.toNat) :: μ) G σ H' → Q .non H') : rInsert (.ref l) [.int i, v] H Q := by
  obtain ⟨vs, e, ha⟩ := S.head
  exact ⟨l, vs, i, v, rfl, rfl, e, by rw [da_len ha]; exact hl, h0, h1, k _ (S.put (da_app (da_app (da_take _ ha) (.cons hv .nil)) (da_drop _ ha)))⟩
theorem c_extend {l : Addr} {ds es : List PyData} (S : ST G0 H0 L π ρ (As.lst l ds :: μ) G σ H) (hv : Da G v (.list es)) (hl : ds.length + es.length ≤ sizeLine) (k : ∀ H', ST G0 H0 L π ρ (As.lst l (ds ++ es) :: μ) G σ H' → Q .non H') : rExtend (.ref l) [v] H Q := by
  obtain ⟨vs, e, ha⟩ := S.head
  obtain ⟨b, xs, rfl, eb, hb⟩ := da_lst hv
  exact ⟨l, b, vs, xs, rfl, rfl, e, S.same _ _ eb, by rw [da_len ha, da_len hb]; exact hl, k _ (S.put (da_app ha hb))⟩

/-! ### steps: sums and slices of lists and tuples -/
theorem c_plusL {ds es : List PyData} (hv : Da G v (.list ds)) (hw : Da G w (.list es)) (S : ST G0 H0 L π ρ μ G σ H) (hl : ds.length + es.length ≤ sizeLine) (k : ∀ v G' H', ST G0 H0 L π ρ μ G' σ H' → Gr G H G' H' → Da G' v (.list (ds ++ es)) → Q v H') : rPlus K v w H Q := by
  obtain ⟨a, xs, rfl, ea, ha⟩ := da_lst hv
  obtain ⟨b, ys, rfl, eb, hb⟩ := da_lst hw
  exact .inr (.inl ⟨a, b, xs, ys, rfl, rfl, S.same _ _ ea, S.same _ _ eb, by rw [da_len ha, da_len hb]; exact hl, c_mkL' S (da_app ha hb) k⟩)
theorem c_plusLm {ds es : List PyData} (hv : Da G v (.list ds)) (hw : Da G w (.list es)) (S : ST G0 H0 L π ρ μ G σ H) (hl : ds.length + es.length ≤ sizeLine) (k : ∀ p H', ST G0 H0 L π ρ (As.lst p (ds ++ es) :: μ) G σ H' → H0 p = none → Gr G H G H' → Q (.ref p) H') : rPlus K v w H Q := by
  obtain ⟨a, xs, rfl, ea, ha⟩ := da_lst hv
  obtain ⟨b, ys, rfl, eb, hb⟩ := da_lst hw
  exact .inr (.inl ⟨a, b, xs, ys, rfl, rfl, S.same _ _ ea, S.same _ _ eb, by rw [da_len ha, da_len hb]; exact hl, c_newL' S (da_app ha hb) k⟩)
theorem c_plusT {ds es : List PyData} (hv : Da G v (.tuple ds)) (hw : Da G w (.tuple es)) (S : ST G0 H0 L π ρ μ G σ H) (hl : ds.length + es.length ≤ sizeLine) (k : ∀ v G' H', ST G0 H0 L π ρ μ G' σ H' → Gr G H G' H' → Da G' v (.tuple (ds ++ es)) → Q v H') : rPlus K v w H Q := by
  obtain ⟨a, xs, rfl, ea, ha⟩ := da_tup hv
  obtain ⟨b, ys, rfl, eb, hb⟩ := da_tup hw
  refine .inr (.inr ⟨a, b, xs, ys, rfl, rfl, SqT.of (S.same _ _ ea), SqT.of (S.same _ _ eb), by rw [da_len ha, da_len hb]; exact hl, fun e => ?_, fun _ e => ?_, fun _ _ p hp => ?_⟩)
  · subst e
    have := da_len ha
    have e2 : ds = [] := by cases ds with
      | nil => rfl
      | cons _ _ => cases this
    subst e2
    exact k _ _ _ S (Gx.rfl' S.same) hw
  · subst e
    have := da_len hb
    have e2 : es = [] := by cases es with
      | nil => rfl
      | cons _ _ => cases this
    subst e2
    rw [List.append_nil] at k
    exact k _ _ _ S (Gx.rfl' S.same) hv
  · have g : Gr G H (upd G p (.tup (xs ++ ys))) (upd H p (.tup (xs ++ ys))) := Gx.frz S.same hp
    exact k _ _ _ (S.grow g) g (.tup upd_same ((da_app ha hb).mono g.g))
def cutD (ds : List PyData) (lo hi : Option Int) : List PyData := (ds.drop (HT.sIx ds.length 0 lo)).take (HT.sIx ds.length ds.length hi - HT.sIx ds.length 0 lo)
theorem da_cut {xs : List V} {ds : List PyData} (h : DaAll G xs ds) (lo hi : Option Int) : DaAll G (cutV xs lo hi) (cutD ds lo hi) := by
  unfold cutV cutD
  rw [da_len h]
  exact da_take _ (da_drop _ h)
theorem c_slL {ds : List PyData} {lo hi : Option Int} (hv : Da G v (.list ds)) (S : ST G0 H0 L π ρ μ G σ H) (k : ∀ v G' H', ST G0 H0 L π ρ μ G' σ H' → Gr G H G' H' → Da G' v (.list (cutD ds lo hi)) → Q v H') : rSlice K v lo hi H Q := by
  obtain ⟨a, xs, rfl, ea, ha⟩ := da_lst hv
  exact .inl ⟨a, xs, rfl, SqL.of (S.same _ _ ea), c_mkL' S (da_cut ha lo hi) k⟩
theorem c_slLm {ds : List PyData} {lo hi : Option Int} (hv : Da G v (.list ds)) (S : ST G0 H0 L π ρ μ G σ H) (k : ∀ p H', ST G0 H0 L π ρ (As.lst p (cutD ds lo hi) :: μ) G σ H' → H0 p = none → Gr G H G H' → Q (.ref p) H') : rSlice K v lo hi H Q := by
  obtain ⟨a, xs, rfl, ea, ha⟩ := da_lst hv
  exact .inl ⟨a, xs, rfl, SqL.of (S.same _ _ ea), c_newL' S (da_cut ha lo hi) k⟩
/-- of a list that may change -/
theorem c_slM {a : Addr} {xs : List V} {ds : List PyData} {lo hi : Option Int} (e : H a = some (.lst xs)) (ha : DaAll G xs ds) (S : ST G0 H0 L π ρ μ G σ H) (k : ∀ v G' H', ST G0 H0 L π ρ μ G' σ H' → Gr G H G' H' → Da G' v (.list (cutD ds lo hi)) → Q v H') : rSlice K (.ref a) lo hi H Q :=
  .inl ⟨a, xs, rfl, SqL.of e, c_mkL' S (da_cut ha lo hi) k⟩
theorem c_slMm {a : Addr} {xs : List V} {ds : List PyData} {lo hi : Option Int} (e : H a = some (.lst xs)) (ha : DaAll G xs ds) (S : ST G0 H0 L π ρ μ G σ H) (k : ∀ p H', ST G0 H0 L π ρ (As.lst p (cutD ds lo hi) :: μ) G σ H' → H0 p = none → Gr G H G H' → Q (.ref p) H') : rSlice K (.ref a) lo hi H Q :=
  .inl ⟨a, xs, rfl, SqL.of e, c_newL' S (da_cut ha lo hi) k⟩
theorem c_slS {z : Str} {lo hi : Option Int} (hl : z.length ≤ sizeLine) (h : Q (.str (cutS z lo hi)) H) : rSlice K (.str z) lo hi H Q := .inr (.inl ⟨z, rfl, hl, h⟩)
theorem c_listL {ds : List PyData} (hv : Da G v (.list ds)) (S : ST G0 H0 L π ρ μ G σ H) (k : ∀ p H', ST G0 H0 L π ρ (As.lst p ds :: μ) G σ H' → H0 p = none → Gr G H G H' → Q (.ref p) H') : rList K [v] H Q := by
  obtain ⟨a, xs, rfl, ea, ha⟩ := da_lst hv
  exact ⟨a, xs, rfl, .inl (SqL.of (S.same _ _ ea)), c_newL' S ha k⟩
theorem c_listLf {ds : List PyData} (hv : Da G v (.list ds)) (S : ST G0 H0 L π ρ μ G σ H) (k : ∀ v G' H', ST G0 H0 L π ρ μ G' σ H' → Gr G H G' H' → Da G' v (.list ds) → Q v H') : rList K [v] H Q := by
  obtain ⟨a, xs, rfl, ea, ha⟩ := da_lst hv
  exact ⟨a, xs, rfl, .inl (SqL.of (S.same _ _ ea)), c_mkL' S ha k⟩
theorem c_listT {ds : List PyData} (hv : Da G v (.tuple ds)) (S : ST G0 H0 L π ρ μ G σ H) (k : ∀ p H', ST G0 H0 L π ρ (As.lst p ds :: μ) G σ H' → H0 p = none → Gr G H G H' → Q (.ref p) H') : rList K [v] H Q := by
  obtain ⟨a, xs, rfl, ea, ha⟩ := da_tup hv
  exact ⟨a, xs, rfl, .inr (SqT.of (S.same _ _ ea)), c_newL' S ha k⟩
theorem c_tupleL {ds : List PyData} (hv : Da G v (.list ds)) (S : ST G0 H0 L π ρ μ G σ H) (k : ∀ v G' H', ST G0 H0 L π ρ μ G' σ H' → Gr G H G' H' → Da G' v (.tuple ds) → Q v H') : rTuple K [v] H Q := by
  obtain ⟨a, xs, rfl, ea, ha⟩ := da_lst hv
  refine ⟨a, xs, rfl, .inl ⟨SqL.of (S.same _ _ ea), fun p hp => ?_⟩⟩
  have g : Gr G H (upd G p (.tup xs)) (upd H p (.tup xs)) := Gx.frz S.same hp
  exact k _ _ _ (S.grow g) g (.tup upd_same (ha.mono g.g))

/-! ### steps: loops -/
def forW (J : It) (g : TG) (tb : TS) (D : Ends) (σ : St) (H : Hp) : Prop := ∃ W : Nat → Nat → St → Hp → Prop, (∃ m, W 0 m σ H) ∧ ∀ i m σ H, W i m σ H →
    (J.stop i H ∧ D.nx σ H) ∨ (J.go i H ∧ ∃ N : St → Hp → Prop, (∀ σ' H', N σ' H' → ∃ m', m' < m ∧ W (i + 1) m' σ' H') ∧ ∀ x H', J.yld i H x H' → g x σ H' fun σ2 H2 => tb { D with nx := N, ct := N, bk := D.nx } σ2 H2)
theorem c_for {wi : TI} {g : TG} {tb : TS} (h : wi σ H fun J H1 => forW J g tb D σ H1) : tFor wi g tb D σ H := h
def lW (K : PySem.W.Frag) (R : It → Hp → Prop) (x : V) (H : Hp) : Prop := ∃ a, x = .ref a ∧ (∃ xs, SqL K H a xs) ∧ R (Itl K a) H
def rW1 (R : It → Hp → Prop) (vs : List V) (H : Hp) : Prop := ∃ j : Int, vs = [.int j] ∧ -(2 ^ 62) ≤ j ∧ j < 2 ^ 62 ∧ R (Itr 0 j.toNat) H
def rW2 (R : It → Hp → Prop) (vs : List V) (H : Hp) : Prop := ∃ i j : Int, vs = [.int i, .int j] ∧ (-(2 ^ 62) ≤ i ∧ i < 2 ^ 62 ∧ -(2 ^ 62) ≤ j ∧ j < 2 ^ 62) ∧ R (Itr i (j - i).toNat) H
def rW3 (R : It → Hp → Prop) (vs : List V) (H : Hp) : Prop := ∃ (i j c : Int) (n : Nat), vs = [.int i, .int j, .int c] ∧ RgC i j c n ∧ R (Itc i c n) H
theorem c_iList {tl : TE} {R : It → Hp → Prop} (h : tl σ H (lW K R)) : iList K tl σ H R := h
theorem c_iR1 {ta : TA} {R : It → Hp → Prop} (h : ta σ H (rW1 R)) : iRng1 ta σ H R := h
theorem c_iR2 {ta : TA} {R : It → Hp → Prop} (h : ta σ H (rW2 R)) : iRng2 ta σ H R := h
theorem c_iR3 {ta : TA} {R : It → Hp → Prop} (h : ta σ H (rW3 R)) : iRng3 ta σ H R := h
theorem c_r1 {j : Int} {R : It → Hp → Prop} (h1 : -(2 ^ 62) ≤ j) (h2 : j < 2 ^ 62) (h : R (Itr 0 j.toNat) H) : rW1 R [.int j] H := ⟨j, rfl, h1, h2, h⟩
theorem c_r2 {a b : Int} {R : It → Hp → Prop} (h1 : -(2 ^ 62) ≤ a ∧ a < 2 ^ 62 ∧ -(2 ^ 62) ≤ b ∧ b < 2 ^ 62) (h : R (Itr a (b - a).toNat) H) : rW2 R [.int a, .int b] H := ⟨a, b, rfl, h1, h⟩
theorem c_rDown {a b : Int} {R : It → Hp → Prop} (h1 : -(2 ^ 62) ≤ a ∧ a < 2 ^ 62 ∧ -(2 ^ 62) ≤ b ∧ b < 2 ^ 62) (h : R (Itc a (-1) (a - b).toNat) H) : rW3 R [.int a, .int b, .int (-1)] H :=
  ⟨a, b, -1, _, rfl, RgC.neg h1.1 h1.2.1 h1.2.2.1 h1.2.2.2, h⟩
/-- over a frozen list: Pv by the turn, G, the slots, H -/
theorem c_forL {g : TG} {tb : TS} {ds : List PyData} (Pv : Nat → Hp → St → Hp → Prop) (hv : Da G v (.list ds)) (h0 : Pv 0 G σ H) (hp : ∀ i G σ H, Pv i G σ H → Da G v (.list ds) ∧ Same G H)
    (turn : ∀ i d y G' σ' H', ds[i]? = some d → Da G' y d → Pv i G' σ' H' → g y σ' H' fun σ2 H2 => tb { D with nx := fun σ3 H3 => ∃ G3, Pv (i + 1) G3 σ3 H3, ct := fun σ3 H3 => ∃ G3, Pv (i + 1) G3 σ3 H3, bk := D.nx } σ2 H2)
    (done : ∀ G' σ' H', Pv ds.length G' σ' H' → D.nx σ' H') :
    lW K (fun J H1 => forW J g tb D σ H1) v H := by
  obtain ⟨a, xs, rfl, ea, ha⟩ := da_lst hv
  refine ⟨a, rfl, ⟨xs, SqL.of ((hp 0 _ _ _ h0).2 _ _ ea)⟩, fun i m σ H => m = ds.length - i ∧ i ≤ ds.length ∧ ∃ G, Pv i G σ H, ⟨_, rfl, Nat.zero_le _, G, h0⟩, ?_⟩
  rintro i m σ' H' ⟨rfl, hi, G', p⟩
  obtain ⟨h1, h2⟩ := hp i G' σ' H' p
  obtain ⟨b, ys, e, eb, hb⟩ := da_lst h1
  cases e
  have el := da_len hb
  have q : SqL K H' a ys := SqL.of (h2 _ _ eb)
  by_cases hlt : i < ds.length
  · refine .inr ⟨⟨ys, ys[i]'(by omega), q, by simp [show i < ys.length by omega]⟩, fun σ3 H3 => ∃ G3, Pv (i + 1) G3 σ3 H3, fun σ3 H3 p3 => ⟨ds.length - (i + 1), by omega, rfl, hlt, p3⟩, fun x H2 y => ?_⟩
    obtain ⟨e, y⟩ := y
    subst e
    obtain ⟨d, hd, hx⟩ := da_getV hb (y ys q)
    exact turn i d x G' σ' _ hd hx p
  · have e : i = ds.length := by omega
    subst e
    exact .inl ⟨⟨ys, q, by omega⟩, done G' σ' H' p⟩
/-- over a range upwards -/
theorem c_forR {lo : Int} {n : Nat} {g : TG} {tb : TS} (Pv : Nat → Hp → St → Hp → Prop) (h0 : Pv 0 G σ H)
    (turn : ∀ i G' σ' H', i < n → Pv i G' σ' H' → g (.int (lo + i)) σ' H' fun σ2 H2 => tb { D with nx := fun σ3 H3 => ∃ G3, Pv (i + 1) G3 σ3 H3, ct := fun σ3 H3 => ∃ G3, Pv (i + 1) G3 σ3 H3, bk := D.nx } σ2 H2)
    (done : ∀ G' σ' H', Pv n G' σ' H' → D.nx σ' H') :
    forW (Itr lo n) g tb D σ H :=
  for_it walk_range (fun i σ H => ∃ G, Pv i G σ H) ⟨G, h0⟩ (fun _ _ _ _ _ => True.intro) (fun i x σ' H1 H2 hi ⟨G', p⟩ y => by
    obtain ⟨rfl, rfl⟩ := y
    exact turn i G' σ' _ hi p) fun σ' H' ⟨G', p⟩ => done G' σ' H' p
theorem c_forC {lo c : Int} {n : Nat} {g : TG} {tb : TS} (Pv : Nat → Hp → St → Hp → Prop) (h0 : Pv 0 G σ H)
    (turn : ∀ i G' σ' H', i < n → Pv i G' σ' H' → g (.int (lo + (i : Nat) * c)) σ' H' fun σ2 H2 => tb { D with nx := fun σ3 H3 => ∃ G3, Pv (i + 1) G3 σ3 H3, ct := fun σ3 H3 => ∃ G3, Pv (i + 1) G3 σ3 H3, bk := D.nx } σ2 H2)
    (done : ∀ G' σ' H', Pv n G' σ' H' → D.nx σ' H') :
    forW (Itc lo c n) g tb D σ H :=
  for_it walk_rangeC (fun i σ H => ∃ G, Pv i G σ H) ⟨G, h0⟩ (fun _ _ _ _ _ => True.intro) (fun i x σ' H1 H2 hi ⟨G', p⟩ y => by
    obtain ⟨rfl, rfl⟩ := y
    exact turn i G' σ' _ hi p) fun σ' H' ⟨G', p⟩ => done G' σ' H' p

/-! ### steps: comprehensions -/
def LcW (J : It) (g : TG) (tt : TT) (te : TE) (vs : List Nat) (σ : St) (H1 : Hp) (D : Addr) (Qd : Hp → Prop) : Prop :=
  ∃ W : Nat → Nat → Hp → Prop, (∃ m, W 0 m (upd H1 D (.lst []))) ∧ ∀ i m H, W i m H →
      (J.stop i H ∧ Qd H) ∨ (J.go i H ∧ ∃ Nx : Hp → Prop, (∀ H', Nx H' → ∃ m', m' < m ∧ W (i + 1) m' H') ∧ ∀ x H', J.yld i H x H' → g x (wipe σ vs) H' fun σ2 H2 => wipe σ2 vs = wipe σ vs ∧ tt σ2 H2 fun b H3 =>
        if b = true then te σ2 H3 fun y H4 => ∃ acc, H4 D = some (.lst acc) ∧ acc.length < sizeLine ∧ Nx (upd H4 D (.lst (acc ++ [y]))) else Nx H3)
theorem c_lc {wi : TI} {g : TG} {vs : List Nat} (h : wi σ H fun J H1 => ∀ D, H1 D = none → LcW J g tt te vs σ H1 D (Q (.ref D))) : tLc wi g tt te vs σ H Q := h
/-- the slots in a comprehension's block: its own are forgotten -/
def wipeR (ρ : List Sl) : List Nat → List Sl
  | [] => ρ
  | v :: vs => (wipeR ρ vs).set v .any
theorem env_wipe (e : EnvOk G σ ρ) : ∀ vs, EnvOk G (wipe σ vs) (wipeR ρ vs)
  | [] => e
  | v :: vs => (env_wipe e vs).setS v True.intro
theorem ST.wipe (S : ST G0 H0 L π ρ μ G σ H) (vs : List Nat) : ST G0 H0 L π (wipeR ρ vs) μ G (L2.wipe σ vs) H := S.slot (env_wipe S.env vs)
/-- behind a turn: the slots of the block again -/
theorem ST.wipe' {σ2 σ : St} {vs : List Nat} {ρ2 : List Sl} (S : ST G0 H0 L π ρ2 μ G σ2 H) (e : L2.wipe σ2 vs = L2.wipe σ vs) : ST G0 H0 L π (wipeR ρ2 vs) μ G (L2.wipe σ vs) H := by
  rw [← e]
  exact S.wipe vs
/-- a comprehension's new list -/
theorem ST.newD (S : ST G0 H0 L π ρ μ G σ H) {p : Addr} (hp : H p = none) : ST G0 H0 L π ρ (As.lst p [] :: μ) G σ (upd H p (.lst [])) ∧ H0 p = none :=
  ⟨S.add (Gx.new S.same hp) ⟨[], upd_same, .nil⟩ fun b e => by cases e; exact ⟨hp, none_of_same S.same hp, by rw [upd_same]; exact fun z => by cases z⟩, S.new0 hp⟩
def lcItem (p : Addr) (Nx : Hp → Prop) (y : V) (H : Hp) : Prop := ∃ acc, H p = some (.lst acc) ∧ acc.length < sizeLine ∧ Nx (upd H p (.lst (acc ++ [y])))
/-- a turn's end: the item goes to the new list -/
theorem c_lcItem {p : Addr} {ds : List PyData} {d : PyData} {Nx : Hp → Prop} (S : ST G0 H0 L π ρ (As.lst p ds :: μ) G σ H) (hv : Da G v d) (hl : ds.length < sizeLine) (k : ∀ H', ST G0 H0 L π ρ (As.lst p (ds ++ [d]) :: μ) G σ H' → Nx H') : lcItem p Nx v H := by
  obtain ⟨vs, e, ha⟩ := S.head
  exact ⟨vs, e, by rw [da_len ha]; exact hl, k _ (S.put (da_snoc ha hv))⟩
theorem wipe_set {σ : St} {i : Nat} {x : Option V} : ∀ vs : List Nat, (i ∈ vs → L2.wipe (σ.set i x) vs = L2.wipe σ vs) ∧ L2.wipe (σ.set i x) vs = (if i ∈ vs then L2.wipe σ vs else (L2.wipe σ vs).set i x)
  | [] => ⟨(fun h => nomatch h), rfl⟩
  | v :: vs => by
    obtain ⟨h1, h2⟩ := wipe_set (σ := σ) (i := i) (x := x) vs
    have key : i ∈ v :: vs → L2.wipe (σ.set i x) (v :: vs) = L2.wipe σ (v :: vs) := fun h => by
      show (L2.wipe (σ.set i x) vs).set v none = (L2.wipe σ vs).set v none
      by_cases hi : i ∈ vs
      · rw [h1 hi]
      · have hv : i = v := by rcases List.mem_cons.mp h with e | e; exact e; exact absurd e hi
        rw [h2, if_neg hi, hv, List.set_set]
    refine ⟨key, ?_⟩
    by_cases hi : i ∈ v :: vs
    · rw [if_pos hi]; exact key hi
    · rw [if_neg hi]
      have hv : i ≠ v := fun e => hi (by rw [e]; exact List.mem_cons_self ..)
      have hvs : i ∉ vs := fun e => hi (List.mem_cons_of_mem _ e)
      show (L2.wipe (σ.set i x) vs).set v none = ((L2.wipe σ vs).set v none).set i x
      rw [h2, if_neg hvs, List.set_comm _ _ hv]
theorem wipe_in {σ : St} {i : Nat} {x : Option V} {vs : List Nat} (h : i ∈ vs) : L2.wipe (σ.set i x) vs = L2.wipe σ vs := (wipe_set vs).1 h
theorem wipe_wipe (σ : St) : ∀ vs : List Nat, L2.wipe (L2.wipe σ vs) vs = L2.wipe σ vs
  | [] => rfl
  | v :: vs => by
    show (L2.wipe ((L2.wipe σ vs).set v none) vs).set v none = (L2.wipe σ vs).set v none
    have e := (wipe_set (σ := L2.wipe σ vs) (i := v) (x := none) vs).2
    rw [e]
    split
    · rw [wipe_wipe σ vs]
    · rw [wipe_wipe σ vs, List.set_set]
theorem c_setc {i : Nat} {Q : St → Hp → Prop} (S : ST G0 H0 L π ρ μ G σ H) (h : ST G0 H0 L π (ρ.set i (.val v)) μ G (σ.set i (some v)) H → Q (σ.set i (some v)) H) : gName i v σ H Q := h (S.set i)
theorem c_setcD {i : Nat} {d : PyData} {Q : St → Hp → Prop} (S : ST G0 H0 L π ρ μ G σ H) (hv : Da G v d) (h : ST G0 H0 L π (ρ.set i (.dat d)) μ G (σ.set i (some v)) H → Q (σ.set i (some v)) H) : gName i v σ H Q := h (S.setD i hv)
theorem c_lcR {lo : Int} {n : Nat} {g : TG} {vs : List Nat} {p : Addr} {Qd : Hp → Prop} (Pv : Nat → Hp → Hp → Prop) (h0 : Pv 0 G (upd H p (.lst [])))
    (turn : ∀ i G' H', i < n → Pv i G' H' → g (.int (lo + i)) (wipe σ vs) H' fun σ2 H2 => wipe σ2 vs = wipe σ vs ∧ tt σ2 H2 fun b H3 =>
      if b = true then te σ2 H3 fun y H4 => ∃ acc, H4 p = some (.lst acc) ∧ acc.length < sizeLine ∧ ∃ G4, Pv (i + 1) G4 (upd H4 p (.lst (acc ++ [y]))) else ∃ G4, Pv (i + 1) G4 H3) (done : ∀ G' H', Pv n G' H' → Qd H') : LcW (Itr lo n) g tt te vs σ H p Qd :=
  lc_range (fun i H => ∃ G, Pv i G H) ⟨G, h0⟩ (fun i H' hi ⟨G', q⟩ => turn i G' H' hi q) fun H' ⟨G', q⟩ => done G' H' q
theorem c_iL {ds : List PyData} {R : It → Hp → Prop} (hv : Da G v (.list ds)) (s : Same G H) (k : ∀ a, v = .ref a → R (Itl K a) H) : lW K R v H := by
  obtain ⟨a, xs, rfl, e, ha⟩ := da_lst hv
  exact ⟨a, rfl, ⟨xs, SqL.of (s _ _ e)⟩, k a rfl⟩
theorem c_iM {a : Addr} {xs : List V} {R : It → Hp → Prop} (e : H a = some (.lst xs)) (k : R (Itl K a) H) : lW K R (.ref a) H := ⟨a, rfl, ⟨xs, SqL.of e⟩, k⟩
theorem c_lcL {a : Addr} {ds : List PyData} {g : TG} {vs : List Nat} {p : Addr} {Qd : Hp → Prop} (Pv : Nat → Hp → Hp → Prop) (h0 : Pv 0 G (upd H p (.lst []))) (hp : ∀ i G' H', Pv i G' H' → Da G' (.ref a) (.list ds) ∧ Same G' H')
    (turn : ∀ i d y G' H', ds[i]? = some d → Da G' y d → Pv i G' H' → g y (wipe σ vs) H' fun σ2 H2 => wipe σ2 vs = wipe σ vs ∧ tt σ2 H2 fun b H3 =>
      if b = true then te σ2 H3 fun y H4 => ∃ acc, H4 p = some (.lst acc) ∧ acc.length < sizeLine ∧ ∃ G4, Pv (i + 1) G4 (upd H4 p (.lst (acc ++ [y]))) else ∃ G4, Pv (i + 1) G4 H3) (done : ∀ G' H', Pv ds.length G' H' → Qd H') : LcW (Itl K a) g tt te vs σ H p Qd := by
  refine ⟨fun i m H => m = ds.length - i ∧ i ≤ ds.length ∧ ∃ G, Pv i G H, ⟨_, rfl, Nat.zero_le _, G, h0⟩, ?_⟩
  rintro i m H' ⟨rfl, hi, G', q⟩
  obtain ⟨h1, h2⟩ := hp i G' H' q
  obtain ⟨b, ys, e, eb, hb⟩ := da_lst h1
  cases e
  have el := da_len hb
  have hq : SqL K H' a ys := SqL.of (h2 _ _ eb)
  by_cases hlt : i < ds.length
  · refine .inr ⟨⟨ys, ys[i]'(by omega), hq, by simp [show i < ys.length by omega]⟩, fun H3 => ∃ G3, Pv (i + 1) G3 H3, fun H3 p3 => ⟨ds.length - (i + 1), by omega, rfl, hlt, p3⟩, fun x H2 y => ?_⟩
    obtain ⟨e, y⟩ := y
    subst e
    obtain ⟨d, hd, hx⟩ := da_getV hb (y ys hq)
    exact turn i d x G' _ hd hx q
  · have e : i = ds.length := by omega
    subst e
    exact .inl ⟨⟨ys, hq, by omega⟩, done G' H' q⟩
/-- a comprehension over a frozen list: I tells what is made behind i turns -/
theorem c_compL {a : Addr} {ds : List PyData} {g : TG} {vs : List Nat} {p : Addr} {Qd : Hp → Prop} (I : Nat → List PyData → Prop) (S : ST G0 H0 L π ρ μ G σ H) (hv : Da G (.ref a) (.list ds)) (hp : H p = none) (h0 : I 0 [])
    (turn : ∀ i d y acc G' H', ds[i]? = some d → Da G' y d → I i acc → ST G0 H0 L (pE σ ρ :: pD (.ref a) (.list ds) :: pS G :: π) (wipeR ρ vs) (As.lst p acc :: μ) G' (wipe σ vs) H' →
      g y (wipe σ vs) H' fun σ2 H2 => wipe σ2 vs = wipe σ vs ∧ tt σ2 H2 fun b H3 =>
      if b = true then te σ2 H3 (lcItem p fun H4 => ∃ G4 acc', I (i + 1) acc' ∧ ST G0 H0 L (pE σ ρ :: pD (.ref a) (.list ds) :: pS G :: π) (wipeR ρ vs) (As.lst p acc' :: μ) G4 (wipe σ vs) H4)
      else ∃ G4 acc', I (i + 1) acc' ∧ ST G0 H0 L (pE σ ρ :: pD (.ref a) (.list ds) :: pS G :: π) (wipeR ρ vs) (As.lst p acc' :: μ) G4 (wipe σ vs) H3)
    (done : ∀ G' H' acc, Same G G' → I ds.length acc → ST G0 H0 L π ρ (As.lst p acc :: μ) G' σ H' → H0 p = none → Qd H') : LcW (Itl K a) g tt te vs σ H p Qd := by
  refine c_lcL (G := G) (fun i G' H' => ∃ acc, I i acc ∧ ST G0 H0 L (pE σ ρ :: pD (.ref a) (.list ds) :: pS G :: π) (wipeR ρ vs) (As.lst p acc :: μ) G' (wipe σ vs) H') ⟨[], h0, (((((S.pinP (p := pS G) (Same.refl G)).pinned hv).pinP (p := pE σ ρ) S.env).wipe vs).newD hp).1⟩ (fun i G' H' ⟨acc, _, S⟩ => ⟨S.pin1, S.same⟩) ?_ ?_
  · rintro i d y G' H' hd hy ⟨acc, hI, S⟩
    exact turn i d y acc G' H' hd hy hI S
  · rintro G' H' ⟨acc, hI, S'⟩
    exact done G' H' acc (S'.pin (pS G) (List.mem_cons_of_mem _ (List.mem_cons_of_mem _ (List.mem_cons_self ..)))) hI S'.back.unpin.unpin (S.new0 hp)
/-- .. over a range -/
theorem c_compR {lo : Int} {n : Nat} {g : TG} {vs : List Nat} {p : Addr} {Qd : Hp → Prop} (I : Nat → List PyData → Prop) (S : ST G0 H0 L π ρ μ G σ H) (hp : H p = none) (h0 : I 0 [])
    (turn : ∀ i acc G' H', i < n → I i acc → ST G0 H0 L (pE σ ρ :: pS G :: π) (wipeR ρ vs) (As.lst p acc :: μ) G' (wipe σ vs) H' →
      g (.int (lo + i)) (wipe σ vs) H' fun σ2 H2 => wipe σ2 vs = wipe σ vs ∧ tt σ2 H2 fun b H3 =>
      if b = true then te σ2 H3 (lcItem p fun H4 => ∃ G4 acc', I (i + 1) acc' ∧ ST G0 H0 L (pE σ ρ :: pS G :: π) (wipeR ρ vs) (As.lst p acc' :: μ) G4 (wipe σ vs) H4)
      else ∃ G4 acc', I (i + 1) acc' ∧ ST G0 H0 L (pE σ ρ :: pS G :: π) (wipeR ρ vs) (As.lst p acc' :: μ) G4 (wipe σ vs) H3)
    (done : ∀ G' H' acc, Same G G' → I n acc → ST G0 H0 L π ρ (As.lst p acc :: μ) G' σ H' → H0 p = none → Qd H') : LcW (Itr lo n) g tt te vs σ H p Qd := by
  refine c_lcR (G := G) (fun i G' H' => ∃ acc, I i acc ∧ ST G0 H0 L (pE σ ρ :: pS G :: π) (wipeR ρ vs) (As.lst p acc :: μ) G' (wipe σ vs) H') ⟨[], h0, ((((S.pinP (p := pS G) (Same.refl G)).save).wipe vs).newD hp).1⟩ ?_ ?_
  · rintro i G' H' hi ⟨acc, hI, S⟩
    exact turn i acc G' H' hi hI S
  · rintro G' H' ⟨acc, hI, S'⟩
    exact done G' H' acc (S'.pin (pS G) (List.mem_cons_of_mem _ (List.mem_cons_self ..))) hI S'.back.unpin (S.new0 hp)
/-- a value that a part of the reading comes to, whatever is wanted -/
theorem c_cut {te : TE} (h : ∀ Q' : VK, Q' v H → te σ H Q') (k : Q v H) : te σ H Q := h Q k
theorem c_yes {Q : Bool → Hp → Prop} (h : Q true H) : tYes σ H Q := h
end
end Hw

/-! Hw, part C: promises, defs, ends. -/
namespace Hw
open PySem L2
/-- a def that stands at a place and keeps a promise -/
def OkF (P : Program) (w : World) (K : PySem.W.Frag) (mg : Str → Option Value) (base : Heap) (CX : CXT) (p : Str × Option Str) (ps : List Str) (k : Nat) (sp : Sp) : Prop :=
  ∃ fd : FuncData, FnOk P w K mg base CX k (He.fAd K p) fd ps sp ∧ PySem.W.keepIn K (.ref (He.fAd K p)) = true ∧ Binds K fd ps []

/-- data in, data out; nothing that stood is changed -/
def spP (R : List PyData → PyData → Prop) : Sp := fun vs H Q _ => ∃ G ds d, Same G H ∧ DaAll G vs ds ∧ R ds d ∧ ∀ v G' H', Gr G H G' H' → Da G' v d → Q v H'
/-- data in, a new list out (it may be changed by who called) -/
def spL (R : List PyData → List PyData → Prop) : Sp := fun vs H Q _ => ∃ G ds es, Same G H ∧ DaAll G vs ds ∧ R ds es ∧
  ∀ p ws G' H', Gr G H G' H' → H p = none → G' p = none → H' p = some (.lst ws) → DaAll G' ws es → Q (.ref p) H'
def slotOf : PyData → Sl
  | .none => .val .non
  | .bool b => .val (.bl b)
  | .int i => .val (.int i)
  | .str x => .val (.str x)
  | d => .dat d
theorem slotOf_ok {G : Hp} {v : V} : ∀ {d : PyData}, Da G v d → SlOk G (some v) (slotOf d)
  | .none, h => by cases h; rfl
  | .bool _, h => by cases h; rfl
  | .int _, h => by cases h; rfl
  | .str _, h => by cases h; rfl
  | .list _, h => ⟨v, rfl, h⟩
  | .tuple _, h => ⟨v, rfl, h⟩
  | .dict _, h => by cases h
theorem env_args {G : Hp} : ∀ {vs : List V} {ds : List PyData}, DaAll G vs ds → EnvOk G (vs.map some) (ds.map slotOf)
  | _, _, .nil => True.intro
  | _, _, .cons a b => ⟨slotOf_ok a, env_args b⟩
section
variable {G0 H0 : Hp} {L : Addr → Prop} {π : List Pin} {ρ : List Sl} {μ : List As} {G H : Hp} {σ : St} {Q : VK} {E : XK}
theorem ST.start {N : List Str} {vs : List V} {ds : List PyData} (s : Same G H) (hd : DaAll G vs ds) : ST G H NoL [] (ds.map slotOf ++ List.replicate (N.length - ds.length) .any) [] G (L2.start N vs) H :=
  ⟨Gx.rfl' s, by rw [← da_len hd]; exact env_app (env_args hd) (env_none G _), (fun _ h => nomatch h), (fun _ h => nomatch h), (fun _ h => nomatch h), List.Pairwise.nil⟩
/-- .. with slots told by hand -/
theorem ST.startV {N : List Str} {vs : List V} {ρ : List Sl} (s : Same G H) (he : EnvOk G (vs.map some) ρ) : ST G H NoL [] (ρ ++ List.replicate (N.length - ρ.length) .any) [] G (L2.start N vs) H := by
  have e : vs.length = ρ.length := by have := he.len; rw [List.length_map] at this; exact this
  exact ⟨Gx.rfl' s, by rw [← e]; exact env_app he (env_none G _), (fun _ h => nomatch h), (fun _ h => nomatch h), (fun _ h => nomatch h), List.Pairwise.nil⟩
/-- .. with heaplets that are passed -/
theorem ST.startM {N : List Str} {vs : List V} {ρ : List Sl} {L : Addr → Prop} (s : Same G H) (he : EnvOk G (vs.map some) ρ) (ok : ∀ a ∈ μ, a.ok G H) (fp : ∀ a ∈ μ, ∀ b, a.fp b → G b = none ∧ H b ≠ none ∧ L b) (dj : μ.Pairwise fun a c => ∀ b, a.fp b → ¬ c.fp b) :
    ST G H L [] (ρ ++ List.replicate (N.length - ρ.length) .any) μ G (L2.start N vs) H := by
  have e : vs.length = ρ.length := by have := he.len; rw [List.length_map] at this; exact this
  exact ⟨Gx.rfl' s, by rw [← e]; exact env_app he (env_none G _), (fun _ h => nomatch h), ok, fun a ha b hb => ⟨(fp a ha b hb).1, (fp a ha b hb).2.1, .inl (fp a ha b hb).2.2⟩, dj⟩
theorem c_callP {R : List PyData → PyData → Prop} {vs : List V} {ds : List PyData} {d : PyData} (S : ST G0 H0 L π ρ μ G σ H) (hd : DaAll G vs ds) (hR : R ds d) (k : ∀ v G' H', ST G0 H0 L π ρ μ G' σ H' → Gr G H G' H' → Da G' v d → Q v H') : spP R vs H Q E :=
  ⟨G, ds, d, S.same, hd, hR, fun v G' H' g hv => k v G' H' (S.grow g) g hv⟩
theorem c_callL {R : List PyData → List PyData → Prop} {vs : List V} {ds es : List PyData} (S : ST G0 H0 L π ρ μ G σ H) (hd : DaAll G vs ds) (hR : R ds es) (k : ∀ p G' H', ST G0 H0 L π ρ (As.lst p es :: μ) G' σ H' → H0 p = none → Gr G H G' H' → Q (.ref p) H') : spL R vs H Q E :=
  ⟨G, ds, es, S.same, hd, hR, fun p ws G' H' g hp gp e hw => k p G' H' (S.add g ⟨ws, e, hw⟩ fun b q => by cases q; exact ⟨hp, gp, by rw [e]; exact fun z => by cases z⟩) (S.new0 hp) g⟩
theorem Gr.frzL {G H G' H' : Hp} {p : Addr} {ws : List V} (g : Gr G H G' H') (hp : H p = none) (e : H' p = some (.lst ws)) (gp : G' p = none) : Gr G H (upd G' p (.lst ws)) H' := by
  refine ⟨fun b o q => ?_, g.h, fun b o q => ?_, fun b q n => ?_, g.dom⟩
  · have := g.g b o q
    rw [upd_ne (ne_of_none this gp)]; exact this
  · by_cases hb : b = p
    · subst hb; rw [upd_same] at q; cases q; exact e
    · rw [upd_ne hb] at q; exact g.s b o q
  · have hb : b ≠ p := fun z => q (by rw [z]; exact hp)
    rw [upd_ne hb]; exact g.ap b q n
theorem c_callLf {R : List PyData → List PyData → Prop} {vs : List V} {ds es : List PyData} (S : ST G0 H0 L π ρ μ G σ H) (hd : DaAll G vs ds) (hR : R ds es) (k : ∀ v G' H', ST G0 H0 L π ρ μ G' σ H' → Gr G H G' H' → Da G' v (.list es) → Q v H') : spL R vs H Q E :=
  ⟨G, ds, es, S.same, hd, hR, fun p ws G' H' g hp gp e hw => by
    have g2 := g.frzL hp e gp
    have sg : Same G' (upd G' p (.lst ws)) := fun b o q => by rw [upd_ne (ne_of_none q gp)]; exact q
    exact k _ _ _ (S.grow g2) g2 (.lst upd_same (hw.mono sg))⟩
/-- a new list of ints out, whatever G the arguments are told by (lists that may change are told as they stand) -/
theorem c_callLi {R : List PyData → List PyData → Prop} {vs : List V} {ds : List PyData} {ns : List Int} {G1 : Hp} (S : ST G0 H0 L π ρ μ G σ H) (s1 : Same G1 H) (hd : DaAll G1 vs ds) (hR : R ds (ns.map .int)) (k : ∀ p H', ST G0 H0 L π ρ (As.lst p (ns.map .int) :: μ) G σ H' → H0 p = none → Gr G H G H' → Q (.ref p) H') : spL R vs H Q E :=
  ⟨G1, ds, _, s1, hd, hR, fun p ws G' H' g hp gp e hw => by
    have ew := da_ints hw
    subst ew
    have g2 : Gr G H G H' := ⟨Same.refl G, g.h, S.same.trans g.same, fun _ _ n => n, g.dom⟩
    exact k p H' (S.add g2 ⟨_, e, da_of_ints ns⟩ fun b q => by cases q; exact ⟨hp, none_of_same S.same hp, by rw [e]; exact fun z => by cases z⟩) (S.new0 hp) g2⟩
/-- a list that may change, as it stands -/
theorem lend {l : Addr} {vs : List V} {ds : List PyData} (s : Same G H) (gl : G l = none) (e : H l = some (.lst vs)) (h : DaAll G vs ds) : Same (upd G l (.lst vs)) H ∧ Da (upd G l (.lst vs)) (.ref l) (.list ds) ∧ Same G (upd G l (.lst vs)) := by
  have sg : Same G (upd G l (.lst vs)) := fun b o q => by rw [upd_ne (ne_of_none q gl)]; exact q
  refine ⟨fun b o q => ?_, .lst upd_same (h.mono sg), sg⟩
  by_cases hb : b = l
  · subst hb; rw [upd_same] at q; cases q; exact e
  · rw [upd_ne hb] at q; exact s b o q
/-- a def's end: data -/
theorem ret_P {d : PyData} {v : V} (S : ST G0 H0 NoL π ρ μ G σ H) (hv : Da G v d) (k : ∀ v G' H', Gr G0 H0 G' H' → Da G' v d → Q v H') : Q v H := k v G H S.gx hv
theorem ret_L {es : List PyData} {p : Addr} (S : ST G0 H0 NoL π ρ (As.lst p es :: μ) G σ H) (h0 : H0 p = none) (k : ∀ p ws G' H', Gr G0 H0 G' H' → H0 p = none → G' p = none → H' p = some (.lst ws) → DaAll G' ws es → Q (.ref p) H') : Q (.ref p) H := by
  obtain ⟨vs, e, ha⟩ := S.head
  exact k p vs G H S.gx h0 (S.hfp rfl).1 e ha
/-- a list out that is frozen for the caller -/
theorem ret_Lf {es : List PyData} {p : Addr} (S : ST G0 H0 NoL π ρ (As.lst p es :: μ) G σ H) (h0 : H0 p = none) (k : ∀ v G' H', Gr G0 H0 G' H' → Da G' v (.list es) → Q v H') : Q (.ref p) H := by
  obtain ⟨G', S', hd, _⟩ := S.freeze h0
  exact k _ G' H S'.gx hd
end
/-- a promise that nobody can ask -/
theorem fn_never {P : Program} {w : World} {K : PySem.W.Frag} {mg : Str → Option Value} {base : Heap} {CX : CXT} {k : Nat} {f : Addr} {fd : FuncData} {ps : List Str} {sp : Sp} (h : ∀ vs H Q E, ¬ sp vs H Q E) : FnOk P w K mg base CX k f fd ps sp :=
  ⟨fun vs H Q E q => (h vs H Q E q).elim, fun A outer s H args us vs Q E _ _ _ _ q => (h vs H Q E q).elim⟩
/-! ### isinstance of data -/
def tyName : PyData → String
  | .none => "NoneType"
  | .bool _ => "bool"
  | .int _ => "int"
  | .str _ => "str"
  | .list _ => "list"
  | .tuple _ => "tuple"
  | .dict _ => "dict"
theorem da_tyx {K : PySem.W.Frag} {G H : Hp} {v : V} (s : Same G H) : ∀ {d : PyData}, Da G v d → TyX K H v (.type (tyName d))
  | .none, h => by cases h; exact .base .non
  | .bool _, h => by cases h; exact .base (.bl _)
  | .int _, h => by cases h; exact .base (.int _)
  | .str _, h => by cases h; exact .base (.str _)
  | .list _, h => by cases h with | lst e _ => exact .base (.lst (s _ _ e))
  | .tuple _, h => by cases h with | tup e _ => exact .base (.tup (s _ _ e))
  | .dict _, h => by cases h
section
variable {K : PySem.W.Frag} {G0 H0 : Hp} {L : Addr → Prop} {π : List Pin} {ρ : List Sl} {μ : List As} {G H : Hp} {σ : St} {Q : VK} {v : V} {d : PyData}
theorem c_isi {T : String} {b : Bool} (hv : Da G v d) (s : Same G H) (h : kitB (tyName d) T = some b) (k : Q (.bl b) H) : rIsi K [v, .ty T] H Q :=
  .inl ⟨v, .ty T, _, _, b, rfl, .ty T, da_tyx s hv, kit_ty h, k⟩
theorem c_mkRaw {xs : List V} (S : ST G0 H0 L π ρ μ G σ H) (hl : xs.length ≤ sizeLine) (k : ∀ p H', ST G0 H0 L π ρ μ G σ H' → Gr G H G H' → H' p = some (.tup xs) → Q (.ref p) H') : mkTup Q xs H :=
  ⟨hl, fun p hp => k p _ (S.grow (Gx.new S.same hp)) (Gx.new S.same hp) upd_same⟩
theorem kit2 {t c1 c2 : Value} {b1 b2 : Bool} (h1 : PySem.W.kitOne K t c1 = some b1) (h2 : PySem.W.kitOne K t c2 = some b2) : PySem.W.kitAny K t [c1, c2] = some (b1 || b2) :=
  kitAny_cons h1 (fun e => by subst e; exact kitAny_cons h2 (fun e => by subst e; rfl) fun e => by subst e; rfl) fun e => by subst e; rfl
theorem c_isi2 {T1 T2 : String} {b1 b2 : Bool} {p : Addr} (hv : Da G v d) (s : Same G H) (e : H p = some (.tup [.ty T1, .ty T2])) (h1 : kitB (tyName d) T1 = some b1) (h2 : kitB (tyName d) T2 = some b2) (k : Q (.bl (b1 || b2)) H) : rIsi K [v, .ref p] H Q :=
  .inr ⟨v, p, _, _, [.type T1, .type T2], _, rfl, e, .cons (.ty T1) (.cons (.ty T2) .nil), da_tyx s hv, kit2 (kit_ty h1) (kit_ty h2), k⟩
end
/-! ### depth and width of data -/
/-- at most n lists or tuples in one another, each not too long -/
def fits : Nat → PyData → Prop
  | _, .none => True
  | _, .bool _ => True
  | _, .int _ => True
  | _, .str _ => True
  | n + 1, .list ds => ds.length < 2 ^ 60 ∧ ∀ d ∈ ds, fits n d
  | n + 1, .tuple ds => ds.length < 2 ^ 60 ∧ ∀ d ∈ ds, fits n d
  | _, _ => False
theorem fits_int {n : Nat} {i : Int} : fits n (.int i) := by cases n <;> exact True.intro
theorem fits_str {n : Nat} {i : Str} : fits n (.str i) := by cases n <;> exact True.intro
theorem fits_bl {n : Nat} {i : Bool} : fits n (.bool i) := by cases n <;> exact True.intro
theorem fits_non {n : Nat} : fits n .none := by cases n <;> exact True.intro
theorem fits_ints {n : Nat} {ns : List Int} (h : ns.length < 2 ^ 60) : fits (n + 1) (.list (ns.map .int)) := ⟨by rw [List.length_map]; exact h, fun d hd => by
  obtain ⟨i, _, rfl⟩ := List.mem_map.mp hd
  exact fits_int⟩
/-- the end of a law, over a head by facts, with the script's bits -/
theorem walk_bits {l : PySem.W.OpenLaw} {n k : Nat} {q : Program} {loose : List Str} {XP : (Str → Option Value) → Heap → Prop} {YP : World → Heap → Prop} {d : DefRec} {CX : CXT} {x : Str}
    (h1 : l.most = some n) (h2 : n ≤ sizeLine) (h3 : d.params.defaults = []) (h4 : Room k callerA)
    (F : ∀ (w : World) (mg : Str → Option Value) (fa : Addr) (h : Heap), YP w h → h.Ns mainGlobals mg → mg d.name = some (.ref fa) →
      ∃ (K : PySem.W.Frag) (fd : FuncData) (sp : Sp), K.In h ∧ (∀ (s : Shared) (u : Value), BindsTo s fd ⟨[u], []⟩ [(x, u)]) ∧
        (∀ (H : Hp) (a : Addr) (ns : List Int), ns.length ≤ n → (∀ z ∈ ns, Builtin.Int.intBits z ≤ 1048576) → Only H → SqL K H a (ns.map V.int) → sp [.ref a] H (fun v _ => v = .bl true) fun _ _ _ => False) ∧
        (∀ base : Heap, K.In base → base.Ns mainGlobals mg → FnOk l.prog w K mg base CX k fa fd [x] sp))
    (h5 : ∀ (H : Hp) (s : Shared) (e : Value) (s' : Shared), CX [] H s (fun _ _ _ => False) e s' → False) :
    PySem.W.WalkO q loose XP YP l.row.toRowW d [] (fun f vs => PySem.call f vs) := by
  refine Att.attach_callB h1 h3 fun w s₀ s₁ mg mb fa o pm cd doc a vs ns G Y ho hd hcd hmg hobj hints hlen hbits hg => ?_
  obtain ⟨K, fd, sp, KX, hb, hsp, hF⟩ := F w mg fa _ Y G.T.g hmg
  exact law_call KX G.T.g G.T.b G.T.builtins G.T.nolimit hg hobj hints (Nat.le_trans hlen h2) h4 hF hb (fun H hO hS => hsp H a ns hlen hbits hO hS) fun H e s' => h5 H s₁ e s'
end Hw

/-! Hw, part D: cut lists, fields of objects, items that are stored. -/
namespace Hw
open PySem L2
theorem cutD_to (ds : List PyData) (n : Nat) : cutD ds none (some (n : Int)) = ds.take n := by
  unfold cutD
  rw [HT.sIx_nat, HT.sIx_none, Nat.sub_zero, List.drop_zero]
  by_cases h : n ≤ ds.length
  · rw [Nat.min_eq_left h]
  · rw [Nat.min_eq_right (by omega), List.take_of_length_le (Nat.le_refl _), List.take_of_length_le (by omega)]
theorem cutD_from (ds : List PyData) (n : Nat) : cutD ds (some (n : Int)) none = ds.drop n := by
  unfold cutD
  rw [HT.sIx_nat, HT.sIx_none]
  by_cases h : n ≤ ds.length
  · rw [Nat.min_eq_left h, List.take_of_length_le (by rw [List.length_drop]; omega)]
  · rw [Nat.min_eq_right (by omega), List.drop_of_length_le (Nat.le_refl _), List.drop_of_length_le (by omega), List.take_nil]
theorem cutD_mid (ds : List PyData) (n m : Nat) : cutD ds (some (n : Int)) (some (m : Int)) = (ds.take m).drop n := by
  unfold cutD
  rw [HT.sIx_nat, HT.sIx_nat, List.drop_take]
  by_cases h : m ≤ ds.length
  · rw [Nat.min_eq_left h]
    by_cases h2 : n ≤ ds.length
    · rw [Nat.min_eq_left h2]
    · rw [Nat.min_eq_right (by omega), List.drop_of_length_le (Nat.le_refl _), List.drop_of_length_le (by omega), List.take_nil, List.take_nil]
  · rw [Nat.min_eq_right (by omega)]
    by_cases h2 : n ≤ ds.length
    · rw [Nat.min_eq_left h2, List.take_of_length_le (by rw [List.length_drop]; omega), List.take_of_length_le (by rw [List.length_drop]; omega)]
    · rw [Nat.min_eq_right (by omega), List.drop_of_length_le (Nat.le_refl _), List.drop_of_length_le (by omega), List.take_nil, List.take_nil]
theorem ixN_nat {n : Nat} {i : Int} {k : Nat} (h : i = (k : Int)) (hk : k < n) : ixN n i = some k := by
  subst h
  unfold ixN
  rw [if_pos (by omega), if_pos (by omega), Int.toNat_natCast]

theorem canLay_ints : ∀ ns : List Int, PyData.canLayAll0 (ns.map .int) = true
  | [] => rfl
  | n :: ns => by
    show (PyData.canLay0 (.int n) && PyData.canLayAll0 (ns.map .int)) = true
    rw [canLay_ints ns]
    rfl
theorem depth_ints : ∀ ns : List Int, PyData.depthAll (ns.map .int) = 0
  | [] => rfl
  | n :: ns => by
    show max (PyData.depth (.int n)) (PyData.depthAll (ns.map .int)) = 0
    rw [depth_ints ns]
    rfl
theorem shaped_ints (ns : List Int) : SeqAt.shaped (.list (ns.map .int)) = true := by
  have h1 : PyData.canLay0 (.list (ns.map .int)) = true := canLay_ints ns
  have h2 : PyData.depth (.list (ns.map .int)) ≤ 64 := by
    show PyData.depthAll (ns.map .int) + 1 ≤ 64
    rw [depth_ints]
    decide
  unfold SeqAt.shaped
  rw [h1, decide_eq_true h2]
  rfl
/-! ### fields -/
section
variable {a b m : Str} {x y z : V}
def f1 (a : Str) (x : V) : List (Str × V) := putF a x []
def f2 (a b : Str) (x y : V) : List (Str × V) := putF b y (putF a x [])
theorem f1_1 : (f1 a x).lookup a = some x := by unfold f1; rw [lookup_putF, if_pos rfl]
theorem f1_no (h : ¬ m = a) : (f1 a x).lookup m = none := by unfold f1; rw [lookup_putF, if_neg h]; rfl
theorem f1_put : putF a z (f1 a x) = f1 a z := by
  show (if a = a then [(a, z)] else _) = [(a, z)]
  rw [if_pos rfl]
theorem f2_1 (h : ¬ a = b) : (f2 a b x y).lookup a = some x := by unfold f2; rw [lookup_putF, if_neg h, lookup_putF, if_pos rfl]
theorem f2_2 : (f2 a b x y).lookup b = some y := by unfold f2; rw [lookup_putF, if_pos rfl]
theorem f2_no (h1 : ¬ m = a) (h2 : ¬ m = b) : (f2 a b x y).lookup m = none := by
  unfold f2; rw [lookup_putF, if_neg h2, lookup_putF, if_neg h1]; rfl
theorem f2_eq (h : ¬ a = b) : f2 a b x y = [(a, x), (b, y)] := by
  show (if a = b then [(a, y)] else (a, x) :: putF b y []) = [(a, x), (b, y)]
  rw [if_neg h]; rfl
theorem f2_put1 (h : ¬ a = b) : putF a z (f2 a b x y) = f2 a b z y := by
  rw [f2_eq h, f2_eq h]
  show (if a = a then (a, z) :: [(b, y)] else _) = [(a, z), (b, y)]
  rw [if_pos rfl]
theorem f2_put2 (h : ¬ a = b) : putF b z (f2 a b x y) = f2 a b x z := by
  rw [f2_eq h, f2_eq h]
  show (if a = b then _ else (a, x) :: (if b = b then [(b, z)] else _)) = [(a, x), (b, z)]
  rw [if_neg h, if_pos rfl]
theorem f2_len (h : ¬ a = b) : (f2 a b x y).length = 2 := by rw [f2_eq h]; rfl
end
section
variable {K : PySem.W.Frag} {G0 H0 : Hp} {L : Addr → Prop} {π : List Pin} {ρ : List Sl} {μ : List As} {G H : Hp} {σ : St} {Q : VK} {D : Ends} {te ta tv : TE} {v w : V}
/-- o.f where o is at p -/
def fldW (K : PySem.W.Frag) (f : Str) (Q : VK) (x : V) (H : Hp) : Prop := ∃ a C dx fs v, x = .ref a ∧ H a = some (.ins C dx fs) ∧ Cls K C ∧ NoAttr K C f ∧ fs.lookup f = some v ∧ Q v H
theorem c_fld {f : Str} (h : ta σ H (fldW K f Q)) : tFld K ta f σ H Q := h
theorem c_fldAt {f : Str} {p C dx : Addr} {fs : List (Str × V)} (e : H p = some (.ins C dx fs)) (c : Cls K C) (n : NoAttr K C f) (l : fs.lookup f = some w) (h : Q w H) : fldW K f Q (.ref p) H := ⟨p, C, dx, fs, w, rfl, e, c, n, l, h⟩
/-- o.f = e -/
def setW (K : PySem.W.Frag) (f : Str) (D : Ends) (σ : St) (y : V) (x : V) (H : Hp) : Prop := ∃ a C dx fs, x = .ref a ∧ H a = some (.ins C dx fs) ∧ Cls K C ∧ NoAttr K C f ∧ fs.length < 1000 ∧ D.nx σ (upd H a (.ins C dx (putF f y fs)))
theorem c_sfld {f : Str} (h : tv σ H fun y H1 => ta σ H1 (setW K f D σ y)) : sFld K ta tv f D σ H := h
theorem c_setAt {f : Str} {p C dx : Addr} {fs : List (Str × V)} (S : ST G0 H0 L π ρ (As.raw p (.ins C dx fs) :: μ) G σ H) (c : Cls K C) (n : NoAttr K C f) (l : fs.length < 1000) (k : ∀ H', ST G0 H0 L π ρ (As.raw p (.ins C dx (putF f v fs)) :: μ) G σ H' → D.nx σ H') : setW K f D σ v (.ref p) H := by
  have e : H p = some (.ins C dx fs) := S.head
  obtain ⟨gp, _, _⟩ := S.hfp (b := p) rfl
  refine ⟨p, C, dx, fs, rfl, e, c, n, l, k _ ?_⟩
  exact S.step (Gx.put S.same gp) upd_same fun b q => by cases q; exact ⟨.inl rfl, gp, by rw [upd_same]; exact fun z => nomatch z⟩
/-- o.f += e -/
def augW (K : PySem.W.Frag) (f : Str) (rd : V → V → Hp → VK → Prop) (tv : TE) (D : Ends) (σ : St) (x : V) (H : Hp) : Prop := ∃ a C dx fs v, x = .ref a ∧ H a = some (.ins C dx fs) ∧ Cls K C ∧ NoAttr K C f ∧ fs.lookup f = some v ∧
  tv σ H fun y H2 => rd v y H2 fun z H3 => ∃ dx' fs', H3 a = some (.ins C dx' fs') ∧ fs'.length < 1000 ∧ D.nx σ (upd H3 a (.ins C dx' (putF f z fs')))
/-- o.m(..) -/
def methW (C : Addr) (m : Str) (sp : Sp) (E : XK) (t : TA) (σ : St) (Q : VK) (x : V) (H : Hp) : Prop := ∃ a dx fs, x = .ref a ∧ H a = some (.ins C dx fs) ∧ fs.lookup m = none ∧ t σ H fun vs H2 => sp (x :: vs) H2 Q E
theorem c_meth {C : Addr} {m : Str} {sp : Sp} {E : XK} {t : TA} (h : ta σ H (methW C m sp E t σ Q)) : tMeth C m sp [] E ta t σ H Q := by
  have e : (fun (x : V) (H1 : Hp) => ∃ a dx fs, x = .ref a ∧ H1 a = some (.ins C dx fs) ∧ fs.lookup m = none ∧ t σ H1 fun vs H2 => sp (x :: (vs ++ [])) H2 Q E) = methW C m sp E t σ Q := by
    funext x H1
    unfold methW
    simp only [List.append_nil]
  show ta σ H (fun x H1 => ∃ a dx fs, x = .ref a ∧ H1 a = some (.ins C dx fs) ∧ fs.lookup m = none ∧ t σ H1 fun vs H2 => sp (x :: (vs ++ [])) H2 Q E)
  rw [e]
  exact h
theorem c_methAt {C p dx : Addr} {fs : List (Str × V)} {m : Str} {sp : Sp} {E : XK} {t : TA} (e : H p = some (.ins C dx fs)) (l : fs.lookup m = none) (h : t σ H fun vs H2 => sp (.ref p :: vs) H2 Q E) : methW C m sp E t σ Q (.ref p) H := ⟨p, dx, fs, rfl, e, l, h⟩
/-- C(..) -/
def makeW (C : Addr) (sp : Sp) (E : XK) (Q : VK) (vs : List V) (H : Hp) : Prop := ∀ x dx, H x = none → H dx = none → dx ≠ x → sp (.ref x :: vs) (upd (upd H dx (.own x)) x (.ins C dx [])) (fun v H2 => v = .non ∧ Q (.ref x) H2) E
theorem c_make {C : Addr} {sp : Sp} {E : XK} {t : TA} (h : t σ H (makeW C sp E Q)) : tMake C sp [] E t σ H Q := by
  have e : (fun (vs : List V) (H1 : Hp) => ∀ x dx, H1 x = none → H1 dx = none → dx ≠ x → sp (.ref x :: (vs ++ [])) (upd (upd H1 dx (.own x)) x (.ins C dx [])) (fun v H2 => v = .non ∧ Q (.ref x) H2) E) = makeW C sp E Q := by
    funext vs H1
    unfold makeW
    simp only [List.append_nil]
  show t σ H (fun vs H1 => ∀ x dx, H1 x = none → H1 dx = none → dx ≠ x → sp (.ref x :: (vs ++ [])) (upd (upd H1 dx (.own x)) x (.ins C dx [])) (fun v H2 => v = .non ∧ Q (.ref x) H2) E)
  rw [e]
  exact h
/-- a new object without fields -/
theorem ST.newO (S : ST G0 H0 L π ρ μ G σ H) {C x dx : Addr} (hx : H x = none) (hd : H dx = none) (ne : dx ≠ x) :
    ST G0 H0 L π ρ (As.raw x (.ins C dx []) :: μ) G σ (upd (upd H dx (.own x)) x (.ins C dx [])) ∧ H0 x = none := by
  have g1 : Gr G H G (upd H dx (.own x)) := Gx.new S.same hd
  have S1 := S.grow g1
  have hx1 : (upd H dx (.own x)) x = none := by rw [upd_ne ne.symm]; exact hx
  exact ⟨S1.add (Gx.new S1.same hx1) upd_same fun b e => by cases e; exact ⟨hx1, none_of_same S1.same hx1, by rw [upd_same]; exact fun z => nomatch z⟩, S.new0 hx⟩

/-! ### items that are stored -/
theorem c_augS {o i : TE} {tget : V → V → Hp → VK → Prop} {tip : TIp} {tset : TSet} (h : o σ H fun o H1 => i σ H1 fun i H2 => tget o i H2 fun x H3 => te σ H3 fun y H4 => tip x y H4 fun z H5 => tset o i z H5 fun H6 => D.nx σ H6) : tAugS o i te tget tip tset D σ H := h
theorem c_getL {l : Addr} {xs : List V} {i : Int} {k : Nat} (e : H l = some (.lst xs)) (hi : i = (k : Int)) (hk : xs[k]? = some w) (hs : k < 2 ^ 62) (h : Q w H) : rGetL K (.ref l) (.int i) H Q := by
  subst hi
  exact ⟨l, xs, k, w, rfl, rfl, SqL.of e, by omega, by omega, by rw [Int.toNat_natCast]; exact hk, h⟩
theorem c_setL {l : Addr} {ds : List PyData} {d : PyData} {i : Int} {k : Nat} {Q : Hp → Prop} (S : ST G0 H0 L π ρ (As.lst l ds :: μ) G σ H) (hv : Da G v d) (hi : i = (k : Int)) (hk : k < ds.length) (h : ∀ H', ST G0 H0 L π ρ (As.lst l (ds.set k d) :: μ) G σ H' → Q H') : rSetL (.ref l) (.int i) v H Q := by
  obtain ⟨vs, e, ha⟩ := S.head
  exact ⟨l, vs, i, k, rfl, rfl, e, by rw [da_len ha]; exact ixN_nat hi hk, h _ (S.put (da_set _ ha hv))⟩
theorem c_gsub {o i : TE} {t : TSet} {Q : St → Hp → Prop} (h : o σ H fun o H1 => i σ H1 fun i H2 => t o i v H2 fun H3 => Q σ H3) : gSub o i t v σ H Q := h
/-- unpacking a tuple of two, of three -/
theorem c_gtup2 {d1 d2 : PyData} {gs : TGs} {Q : St → Hp → Prop} (hv : Da G v (.tuple [d1, d2])) (s : Same G H) (k : ∀ v1 v2, Da G v1 d1 → Da G v2 d2 → gs [v1, v2] σ H Q) : gTup K 2 gs v σ H Q :=
  c_gtupD hv s rfl fun xs h => by
    obtain ⟨v1, r, rfl, h1, h⟩ := da_cons h
    obtain ⟨v2, r, rfl, h2, h⟩ := da_cons h
    cases da_nil h
    exact k v1 v2 h1 h2
theorem c_gtup3 {d1 d2 d3 : PyData} {gs : TGs} {Q : St → Hp → Prop} (hv : Da G v (.tuple [d1, d2, d3])) (s : Same G H) (k : ∀ v1 v2 v3, Da G v1 d1 → Da G v2 d2 → Da G v3 d3 → gs [v1, v2, v3] σ H Q) : gTup K 3 gs v σ H Q :=
  c_gtupD hv s rfl fun xs h => by
    obtain ⟨v1, r, rfl, h1, h⟩ := da_cons h
    obtain ⟨v2, r, rfl, h2, h⟩ := da_cons h
    obtain ⟨v3, r, rfl, h3, h⟩ := da_cons h
    cases da_nil h
    exact k v1 v2 v3 h1 h2 h3
theorem c_gtup4 {d1 d2 d3 d4 : PyData} {gs : TGs} {Q : St → Hp → Prop} (hv : Da G v (.tuple [d1, d2, d3, d4])) (s : Same G H) (k : ∀ v1 v2 v3 v4, Da G v1 d1 → Da G v2 d2 → Da G v3 d3 → Da G v4 d4 → gs [v1, v2, v3, v4] σ H Q) : gTup K 4 gs v σ H Q :=
  c_gtupD hv s rfl fun xs h => by
    obtain ⟨v1, r, rfl, h1, h⟩ := da_cons h
    obtain ⟨v2, r, rfl, h2, h⟩ := da_cons h
    obtain ⟨v3, r, rfl, h3, h⟩ := da_cons h
    obtain ⟨v4, r, rfl, h4, h⟩ := da_cons h
    cases da_nil h
    exact k v1 v2 v3 v4 h1 h2 h3 h4

theorem c_gunlD {ds : List PyData} {n : Nat} {gs : TGs} {Q : St → Hp → Prop} (hv : Da G v (.list ds)) (s : Same G H) (hn : ds.length = n) (h : ∀ xs, DaAll G xs ds → gs xs σ H Q) : gUnl K n gs v σ H Q := by
  obtain ⟨a, xs, rfl, e, ha⟩ := da_lst hv
  exact ⟨a, xs, rfl, SqL.of (s _ _ e), by rw [da_len ha]; exact hn, h xs ha⟩
theorem c_gunl2 {d1 d2 : PyData} {gs : TGs} {Q : St → Hp → Prop} (hv : Da G v (.list [d1, d2])) (s : Same G H) (k : ∀ v1 v2, Da G v1 d1 → Da G v2 d2 → gs [v1, v2] σ H Q) : gUnl K 2 gs v σ H Q :=
  c_gunlD hv s rfl fun xs h => by
    obtain ⟨v1, r, rfl, h1, h⟩ := da_cons h
    obtain ⟨v2, r, rfl, h2, h⟩ := da_cons h
    cases da_nil h
    exact k v1 v2 h1 h2
theorem c_gunl3 {d1 d2 d3 : PyData} {gs : TGs} {Q : St → Hp → Prop} (hv : Da G v (.list [d1, d2, d3])) (s : Same G H) (k : ∀ v1 v2 v3, Da G v1 d1 → Da G v2 d2 → Da G v3 d3 → gs [v1, v2, v3] σ H Q) : gUnl K 3 gs v σ H Q :=
  c_gunlD hv s rfl fun xs h => by
    obtain ⟨v1, r, rfl, h1, h⟩ := da_cons h
    obtain ⟨v2, r, rfl, h2, h⟩ := da_cons h
    obtain ⟨v3, r, rfl, h3, h⟩ := da_cons h
    cases da_nil h
    exact k v1 v2 v3 h1 h2 h3
/-! ### what is passed and changed -/
/-- a heaplet that stands -/
def As.at (A : As) (G H : Hp) : Prop := A.ok G H ∧ ∀ b, A.fp b → G b = none ∧ H b ≠ none
theorem ST.at {A : As} (S : ST G0 H0 L π ρ (A :: μ) G σ H) : A.at G H := ⟨S.head, fun b hb => ⟨(S.hfp hb).1, (S.hfp hb).2.1⟩⟩
/-- a call has changed the heaplet ahead -/
theorem ST.called {A A' : As} {G' H' : Hp} (S : ST G0 H0 L π ρ (A :: μ) G σ H) (g : Gx A.fp G H G' H') (h : A'.at G' H') (f : ∀ b, A'.fp b → A.fp b ∨ H b = none) : ST G0 H0 L π ρ (A' :: μ) G' σ H' :=
  S.step g h.1 fun b hb => ⟨f b hb, h.2 b hb⟩
/-- .. two heaplets -/
theorem ST.called2 {A B A' B' : As} {G' H' : Hp} (S : ST G0 H0 L π ρ (A :: B :: μ) G σ H) (g : Gx (fun b => A.fp b ∨ B.fp b) G H G' H') (ha : A'.at G' H') (hb : B'.at G' H') (fa : ∀ b, A'.fp b → (A.fp b ∨ B.fp b) ∨ H b = none) (fb : ∀ b, B'.fp b → (A.fp b ∨ B.fp b) ∨ H b = none) (d : ∀ b, A'.fp b → ¬ B'.fp b) : ST G0 H0 L π ρ (A' :: B' :: μ) G' σ H' := by
  have d1 := List.pairwise_cons.mp S.dj
  have d2 := List.pairwise_cons.mp d1.2
  have old : ∀ c, A.fp c ∨ B.fp c → L c ∨ H0 c = none := fun c z => z.elim (fun z => (S.hfp z).2.2) fun z => (S.fp B (List.mem_cons_of_mem _ (List.mem_cons_self ..)) c z).2.2
  have apart : ∀ a ∈ μ, ∀ c, (A.fp c ∨ B.fp c) ∨ H c = none → ¬ a.fp c := fun a ha c z q => by
    rcases z with (z | z) | z
    · exact d1.1 a (List.mem_cons_of_mem _ ha) c z q
    · exact d2.1 a ha c z q
    · exact (S.fp a (List.mem_cons_of_mem _ (List.mem_cons_of_mem _ ha)) c q).2.1 z
  have new : ∀ c, (A.fp c ∨ B.fp c) ∨ H c = none → L c ∨ H0 c = none := fun c z => z.elim (old c) fun z => .inr (S.new0 z)
  refine ⟨S.gx.then g old, S.env.mono g.g, fun p hp => p.mono g.g (S.pin p hp), fun a h => ?_, fun a h b hb' => ?_, List.pairwise_cons.mpr ⟨fun a h b hb' z => ?_, List.pairwise_cons.mpr ⟨fun a h b hb' z => apart a h b (fb b hb') z, d2.2⟩⟩⟩
  · rcases List.mem_cons.mp h with e | h
    · rw [e]; exact ha.1
    · rcases List.mem_cons.mp h with e | h
      · rw [e]; exact hb.1
      · exact a.gx g (fun b q z => apart a h b (.inl z) q) (S.ok a (List.mem_cons_of_mem _ (List.mem_cons_of_mem _ h)))
  · rcases List.mem_cons.mp h with e | h
    · rw [e] at hb'; exact ⟨(ha.2 b hb').1, (ha.2 b hb').2, new b (fa b hb')⟩
    · rcases List.mem_cons.mp h with e | h
      · rw [e] at hb'; exact ⟨(hb.2 b hb').1, (hb.2 b hb').2, new b (fb b hb')⟩
      · obtain ⟨h1, h2, h3⟩ := S.fp a (List.mem_cons_of_mem _ (List.mem_cons_of_mem _ h)) b hb'
        exact ⟨g.ap b h2 h1, g.dom b h2, h3⟩
  · rcases List.mem_cons.mp h with e | h
    · rw [e] at z; exact d b hb' z
    · exact apart a h b (fa b hb') z
/-- a def's entry where one heaplet is passed -/
theorem ST.start1 {N : List Str} {vs : List V} {ρ : List Sl} {A : As} (s : Same G H) (he : EnvOk G (vs.map some) ρ) (h : A.at G H) : ST G H A.fp [] (ρ ++ List.replicate (N.length - ρ.length) .any) [A] G (L2.start N vs) H :=
  ST.startM s he (fun a ha => by rw [List.mem_singleton.mp ha]; exact h.1) (fun a ha b hb => by
    rw [List.mem_singleton.mp ha] at hb
    exact ⟨(h.2 b hb).1, (h.2 b hb).2, hb⟩) (List.pairwise_singleton _ _)
end

/-! ### draws that change a state -/
def Drawn (ms : List Int) : Prop := ms.length ≤ 3780 ∧ ∀ m ∈ ms, 0 ≤ m ∧ m < 9973
/-- the list of the draws and the place -/
def DrA (s : Addr) : As where
  fp := fun b => b = s
  ok := fun G H => ∃ ms idx, Drawn ms ∧ 0 ≤ idx ∧ (As.lst s [.list (ms.map .int), .int idx]).ok G H
  stays := fun g k ⟨ms, idx, h1, h2, h3⟩ => ⟨ms, idx, h1, h2, (As.lst s _).stays g k h3⟩
def sp_next : Sp := fun vs H Q _ => ∃ (G : Hp) (s : Addr) (lim : Int), vs = [.ref s, .int lim] ∧ 0 < lim ∧ Same G H ∧ (DrA s).at G H ∧
  ∀ r G' H', 0 ≤ r → r < lim → Gx (DrA s).fp G H G' H' → (DrA s).at G' H' → Q (.int r) H'
theorem c_draw {G0 H0 : Hp} {L : Addr → Prop} {π : List Pin} {ρ : List Sl} {μ : List As} {G H : Hp} {σ : St} {Q : VK} {E : XK} {s : Addr} {lim : Int} (S : ST G0 H0 L π ρ (DrA s :: μ) G σ H) (hl : 0 < lim)
    (k : ∀ r G' H', 0 ≤ r → r < lim → ST G0 H0 L π ρ (DrA s :: μ) G' σ H' → Same G G' → Q (.int r) H') : sp_next [.ref s, .int lim] H Q E :=
  ⟨G, s, lim, rfl, hl, S.same, S.at, fun r G' H' h0 h1 g h => k r G' H' h0 h1 (S.called g h fun b hb => .inl hb) g.g⟩
end Hw

/-! Hw, part E: texts as lists of signs; zip; draws from a state of four. -/
namespace Hw
open PySem L2

/-! ### rules within a block: K is told -/
section
variable {X : Cx} {K : PySem.W.Frag}
theorem op_plusK (h : X.K = K) : OpR X (binaryOp .Add) (rPlus K) := by subst h; exact op_plus
theorem op_sameK (h : X.K = K) (hu : X.A.units + 64 < cLine) : OpR X (compareOp .Eq) (rSame K) := by subst h; exact op_same hu
theorem op_diffK (h : X.K = K) (hu : X.A.units + 64 < cLine) : OpR X (compareOp .NotEq) (rDiff K) := by subst h; exact op_diff hu
theorem op_lessK (h : X.K = K) (hu : X.A.units < cLine) : OpR X (compareOp .Lt) (rLess K) := by subst h; exact op_less hu
theorem op_amongK (h : X.K = K) (hu : X.A.units + 65 < cLine) : OpR X (compareOp .In) (rAmong K) := by subst h; exact op_among hu
theorem op_notAmongK (h : X.K = K) (hu : X.A.units + 65 < cLine) : OpR X (compareOp .NotIn) (rNotAmong K) := by subst h; exact op_notAmong hu
theorem sl_anyK (h : X.K = K) : SlR X (rSlice K) := by subst h; exact sl_any
theorem ix_seqK (h : X.K = K) : IxR X (rIx K) := by subst h; exact ix_seq
theorem cl_lenK (h : X.K = K) : CallR X (.builtin "len") (rLen K) := by subst h; exact cl_len
theorem cl_isiK (h : X.K = K) : CallR X (.builtin "isinstance") (rIsi K) := by subst h; exact cl_isi
theorem cl_listK (h : X.K = K) : CallR X (.type "list") (rList K) := by subst h; exact cl_list
theorem cl_tupleK (h : X.K = K) : CallR X (.type "tuple") (rTuple K) := by subst h; exact cl_tuple
end

/-! ### texts -/
abbrev tX (l : List Nat) : Str := SX.S l
theorem tx_app (a b : List Nat) : tX a ++ tX b = tX (a ++ b) := SX.S_cat a b
theorem tx_len (a : List Nat) : (tX a).length = a.length := SX.S_len a
theorem tx_cps (a : List Nat) : (tX a).cps.toList = a := rfl
theorem tx_of (x : Str) : x = tX x.cps.toList := (SX.S_tl x).symm
theorem tx_inj {a b : List Nat} (h : tX a = tX b) : a = b := SX.S_inj h
theorem sIx_to (n k : Nat) (h : k ≤ n) (d : Nat) : HT.sIx n d (some (k : Int)) = k := by rw [HT.sIx_nat, Nat.min_eq_left h]
theorem cutS_mid {l : List Nat} {i j : Nat} (hi : i ≤ l.length) (hj : j ≤ l.length) : cutS (tX l) (some (i : Int)) (some (j : Int)) = tX ((l.take j).drop i) := by
  unfold cutS
  rw [tx_len, sIx_to _ _ hi, sIx_to _ _ hj, tx_cps, List.drop_take]
theorem cutS_to {l : List Nat} {j : Nat} (hj : j ≤ l.length) : cutS (tX l) none (some (j : Int)) = tX (l.take j) := by
  unfold cutS
  rw [tx_len, HT.sIx_none, sIx_to _ _ hj, tx_cps, List.drop_zero, Nat.sub_zero]
theorem cutS_from {l : List Nat} {i : Nat} (hi : i ≤ l.length) : cutS (tX l) (some (i : Int)) none = tX (l.drop i) := by
  unfold cutS
  rw [tx_len, HT.sIx_none, sIx_to _ _ hi, tx_cps, List.take_of_length_le]
  rw [List.length_drop]
  exact Nat.le_refl _
/-- one sign among some -/
theorem inV_signs (c : Nat) : ∀ cs : List Nat, inV (.str (tX [c])) (cs.map fun d => V.str (tX [d])) = decide (c ∈ cs)
  | [] => by simp [inV]
  | d :: cs => by
    have ih := inV_signs c cs
    have e1 : eqV (.str (tX [d])) (.str (tX [c])) = decide (d = c) := by
      show (tX [d] == tX [c]) = _
      rw [SX.S_beq_eq]
      by_cases h : d = c
      · rw [h]; simp
      · rw [decide_eq_false h, decide_eq_false]
        intro z; cases z; exact h rfl
    show (eqV (.str (tX [d])) (.str (tX [c])) || inV (.str (tX [c])) (cs.map fun d => V.str (tX [d]))) = _
    rw [ih, e1]
    by_cases h : d = c
    · rw [h]; simp
    · by_cases h2 : c ∈ cs
      · simp [h2]
      · rw [decide_eq_false h, decide_eq_false h2, decide_eq_false]
        · rfl
        · intro z
          rcases List.mem_cons.mp z with z | z
          · exact h z.symm
          · exact h2 z
theorem all_signs : ∀ cs : List Nat, (cs.map fun d => V.str (tX [d])).all flatV = true
  | [] => rfl
  | _ :: cs => all_signs cs
section
variable {K : PySem.W.Frag} {G0 H0 : Hp} {L : Addr → Prop} {π : List Pin} {ρ : List Sl} {μ : List As} {G H : Hp} {σ : St} {Q : VK} {D : Ends} {te ta tb to : TE} {v w : V}
theorem c_notAmong {c : Nat} {cs : List Nat} {p : Addr} (e : H p = some (.tup (cs.map fun d => V.str (tX [d])))) (h : Q (.bl (!decide (c ∈ cs))) H) : rNotAmong K (.str (tX [c])) (.ref p) H Q :=
  .inl ⟨p, _, rfl, .inr (SqT.of e), rfl, all_signs cs, by
    show Q (.bl (!inV _ _)) H
    rw [inV_signs]; exact h⟩
theorem c_plusX {a b : List Nat} (hl : a.length + b.length ≤ sizeLine) (h : Q (.str (tX (a ++ b))) H) : rPlus K (.str (tX a)) (.str (tX b)) H Q := by
  refine c_plusS (by rw [tx_len, tx_len]; exact hl) ?_
  rw [tx_app]; exact h
theorem c_lenX {a : List Nat} (hl : a.length ≤ sizeLine) (h : Q (.int a.length) H) : rLen K [.str (tX a)] H Q := by
  refine c_lenS (by rw [tx_len]; exact hl) ?_
  rw [tx_len]; exact h
theorem c_ixX {l : List Nat} {i : Int} {k c : Nat} (hl : l.length ≤ sizeLine) (hk : l[k]? = some c) (hi : (0 ≤ i ∧ i.toNat = k) ∨ (i < 0 ∧ (i + l.length).toNat = k ∧ 0 ≤ i + l.length)) (h : Q (.str (tX [c])) H) : rIx K (.str (tX l)) (.int i) H Q :=
  c_ixS (by rw [tx_len]; exact hl) hk hi h
theorem c_slX {l : List Nat} {i j : Nat} (hl : l.length ≤ sizeLine) (hi : i ≤ l.length) (hj : j ≤ l.length) (h : Q (.str (tX ((l.take j).drop i))) H) : rSlice K (.str (tX l)) (some (i : Int)) (some (j : Int)) H Q := by
  refine c_slS (by rw [tx_len]; exact hl) ?_
  rw [cutS_mid hi hj]; exact h
theorem c_slXto {l : List Nat} {j : Nat} (hl : l.length ≤ sizeLine) (hj : j ≤ l.length) (h : Q (.str (tX (l.take j))) H) : rSlice K (.str (tX l)) none (some (j : Int)) H Q := by
  refine c_slS (by rw [tx_len]; exact hl) ?_
  rw [cutS_to hj]; exact h
theorem c_slXfrom {l : List Nat} {i : Nat} (hl : l.length ≤ sizeLine) (hi : i ≤ l.length) (h : Q (.str (tX (l.drop i))) H) : rSlice K (.str (tX l)) (some (i : Int)) none H Q := by
  refine c_slS (by rw [tx_len]; exact hl) ?_
  rw [cutS_from hi]; exact h
/-- sep.join(e) -/
def joinR (K : PySem.W.Frag) : V → List V → Hp → VK → Prop := fun x xs H Q => ∃ a p, ∃ ys : List Str, x = .str a ∧ xs = [.ref p] ∧ (SqL K H p (ys.map V.str) ∨ SqT K H p (ys.map V.str)) ∧
      (ys.map (·.length)).sum + ys.length * a.length ≤ 16777216 ∧ Q (.str (Txt.join a ys)) H
def joinT (K : PySem.W.Frag) (te : TE) (σ : St) (Q : VK) (x : V) (H : Hp) : Prop := (∃ a, x = .str a) ∧ te σ H fun y H2 => joinR K x [y] H2 Q
theorem c_join (h : to σ H (joinT K te σ Q)) : tM1 (fun x xs H Q => ∃ a p, ∃ ys : List Str, x = .str a ∧ xs = [.ref p] ∧ (SqL K H p (ys.map V.str) ∨ SqT K H p (ys.map V.str)) ∧
      (ys.map (·.length)).sum + ys.length * a.length ≤ 16777216 ∧ Q (.str (Txt.join a ys)) H) to te σ H Q := h
theorem c_joinT {a : Str} (h : te σ H fun y H2 => joinR K (.str a) [y] H2 Q) : joinT K te σ Q (.str a) H := ⟨⟨a, rfl⟩, h⟩
theorem joinL_nil : ∀ ls : List (List Nat), TL.joinL [] ls = ls.flatten
  | [] => rfl
  | [p] => by show p = _; simp
  | p :: q :: r => by
    show p ++ ([] ++ TL.joinL [] (q :: r)) = _
    rw [joinL_nil (q :: r), List.nil_append]
    rfl
theorem c_joinL {ls : List (List Nat)} (hv : Da G v (.list (ls.map fun l => .str (tX l)))) (s : Same G H) (hl : ls.flatten.length ≤ 16777216) (h : Q (.str (tX ls.flatten)) H) : joinR K (.str (tX [])) [v] H Q := by
  obtain ⟨a, xs, rfl, e, ha⟩ := da_lst hv
  have e2 : xs = (ls.map tX).map V.str := by
    refine da_strs (G := G) ?_
    rw [List.map_map]
    exact ha
  subst e2
  refine ⟨_, a, ls.map tX, rfl, rfl, .inl (SqL.of (s _ _ e)), ?_, ?_⟩
  · rw [tx_len]
    have : ((ls.map tX).map (·.length)).sum = ls.flatten.length := by
      rw [SX.lens, List.length_flatten]
    rw [this]
    simpa using hl
  · rw [show Txt.join (tX []) (ls.map tX) = tX ls.flatten by rw [SX.join_S, joinL_nil]]
    exact h

/-! ### the script -/
theorem c_listQ {a : Addr} {xs : List V} {ds : List PyData} (S : ST G0 H0 L π ρ μ G σ H) (hq : SqL K H a xs) (hd : DaAll G xs ds) (k : ∀ v G' H', ST G0 H0 L π ρ μ G' σ H' → Gr G H G' H' → Da G' v (.list ds) → Q v H') : rList K [.ref a] H Q :=
  ⟨a, xs, rfl, .inl hq, c_mkL' S hd k⟩

/-! ### zip of two frozen lists -/
def zW (K : PySem.W.Frag) (R : It → Hp → Prop) (vs : List V) (H : Hp) : Prop := ∃ a b xs ys, vs = [.ref a, .ref b] ∧ SqL K H a xs ∧ SqL K H b ys ∧ R (Itz K a b) H
theorem c_iZip {ta : TA} {R : It → Hp → Prop} (h : ta σ H (zW K R)) : iZip K ta σ H R := h
theorem c_iZ {ds es : List PyData} {R : It → Hp → Prop} (hv : Da G v (.list ds)) (hw : Da G w (.list es)) (s : Same G H) (k : ∀ a b, v = .ref a → w = .ref b → R (Itz K a b) H) : zW K R [v, w] H := by
  obtain ⟨a, xs, rfl, e, ha⟩ := da_lst hv
  obtain ⟨b, ys, rfl, e2, hb⟩ := da_lst hw
  exact ⟨a, b, xs, ys, rfl, SqL.of (s _ _ e), SqL.of (s _ _ e2), k a b rfl rfl⟩
theorem c_compZ {a b : Addr} {ds es : List PyData} {g : TG} {tt : TT} {vs : List Nat} {p : Addr} {Qd : Hp → Prop} (I : Nat → List PyData → Prop) (S : ST G0 H0 L π ρ μ G σ H) (hv : Da G (.ref a) (.list ds)) (hw : Da G (.ref b) (.list es)) (hp : H p = none) (h0 : I 0 [])
    (turn : ∀ i d e y acc G' H', ds[i]? = some d → es[i]? = some e → Da G' y (.tuple [d, e]) → I i acc → ST G0 H0 L (pE σ ρ :: pS G :: π) (wipeR ρ vs) (As.lst p acc :: μ) G' (wipe σ vs) H' →
      g y (wipe σ vs) H' fun σ2 H2 => wipe σ2 vs = wipe σ vs ∧ tt σ2 H2 fun b H3 =>
      if b = true then te σ2 H3 (lcItem p fun H4 => ∃ G4 acc', I (i + 1) acc' ∧ ST G0 H0 L (pE σ ρ :: pS G :: π) (wipeR ρ vs) (As.lst p acc' :: μ) G4 (wipe σ vs) H4)
      else ∃ G4 acc', I (i + 1) acc' ∧ ST G0 H0 L (pE σ ρ :: pS G :: π) (wipeR ρ vs) (As.lst p acc' :: μ) G4 (wipe σ vs) H3)
    (done : ∀ G' H' acc, Same G G' → I (min ds.length es.length) acc → ST G0 H0 L π ρ (As.lst p acc :: μ) G' σ H' → H0 p = none → Qd H') : LcW (Itz K a b) g tt te vs σ H p Qd := by
  obtain ⟨_, xs, e1, ea, ha⟩ := da_lst hv
  cases e1
  obtain ⟨_, ys, e1, eb, hb⟩ := da_lst hw
  cases e1
  have la := da_len ha
  have lb := da_len hb
  refine lc_it (walk_zip (n := min ds.length es.length) (xs := xs) (ys := ys) (by rw [la, lb]))
    (fun i H' => ∃ G' acc, I i acc ∧ ST G0 H0 L (pE σ ρ :: pS G :: π) (wipeR ρ vs) (As.lst p acc :: μ) G' (wipe σ vs) H')
    ⟨G, [], h0, ((((S.pinP (p := pS G) (Same.refl G)).save).wipe vs).newD hp).1⟩ (fun i H' _ ⟨G', acc, _, S'⟩ => ?_) (fun i x H1 H2 hi ⟨G', acc, hI, S'⟩ y => ?_) (fun H' ⟨G', acc, hI, S'⟩ => ?_)
  · have sg : Same G G' := S'.pin (pS G) (List.mem_cons_of_mem _ (List.mem_cons_self ..))
    exact ⟨SqL.of (S'.same _ _ (sg _ _ ea)), SqL.of (S'.same _ _ (sg _ _ eb))⟩
  · obtain ⟨T, x1, y1, rfl, hT, rfl, hx, hy⟩ := y
    have sg : Same G G' := S'.pin (pS G) (List.mem_cons_of_mem _ (List.mem_cons_self ..))
    obtain ⟨d, hd, hdx⟩ := da_getV ha hx
    obtain ⟨e, he, hey⟩ := da_getV hb hy
    have g2 : Gr G' H1 (upd G' T (.tup [x1, y1])) (upd H1 T (.tup [x1, y1])) := Gx.frz S'.same hT
    exact turn i d e _ acc _ _ hd he (.tup upd_same (.cons ((hdx.mono sg).mono g2.g) (.cons ((hey.mono sg).mono g2.g) .nil))) hI (S'.grow g2)
  · exact done G' H' acc (S'.pin (pS G) (List.mem_cons_of_mem _ (List.mem_cons_self ..))) hI S'.back.unpin (S.new0 hp)

/-! ### draws from a state of four -/
/-- the script's numbers, the next one's place, what is left of a great one, the seed -/
def stD (ns : List Int) (i c k : Int) : List PyData := [.list (ns.map .int), .int i, .int c, .int k]
def StOk (ns : List Int) (i c k : Int) : Prop := ns.length ≤ 63 ∧ 0 ≤ i ∧ 0 ≤ c ∧ 0 ≤ k ∧ k < 2147483647
def DrB (s : Addr) : As where
  fp := fun b => b = s
  ok := fun G H => ∃ (ns : List Int) (i c k : Int), StOk ns i c k ∧ (As.lst s (stD ns i c k)).ok G H
  stays := fun g h ⟨ns, i, c, k, h1, h2⟩ => ⟨ns, i, c, k, h1, (As.lst s _).stays g h h2⟩
theorem stD_head {s : Addr} {ns : List Int} {i c k : Int} (S : ST G0 H0 L π ρ (As.lst s (stD ns i c k) :: μ) G σ H) : ∃ v, H s = some (.lst [v, .int i, .int c, .int k]) ∧ Da G v (.list (ns.map .int)) := by
  obtain ⟨xs, e, hx⟩ := S.head
  obtain ⟨v1, r, rfl, h1, hx⟩ := da_cons hx
  obtain ⟨v2, r, rfl, h2, hx⟩ := da_cons hx
  obtain ⟨v3, r, rfl, h3, hx⟩ := da_cons hx
  obtain ⟨v4, r, rfl, h4, hx⟩ := da_cons hx
  cases da_nil hx
  cases h2
  cases h3
  cases h4
  exact ⟨v1, e, h1⟩
/-- a def that draws: R tells what is asked of the further arguments, and what can come out -/
def spB (R : List PyData → (PyData → Prop) → Prop) : Sp := fun vs H Q _ => ∃ (G : Hp) (s : Addr) (rest : List V) (ds : List PyData) (D : PyData → Prop), vs = .ref s :: rest ∧ Same G H ∧ (DrB s).at G H ∧ DaAll G rest ds ∧ R ds D ∧
  ∀ d x G' H', D d → Gx (DrB s).fp G H G' H' → (DrB s).at G' H' → Da G' x d → Q x H'
theorem c_callB {R : List PyData → (PyData → Prop) → Prop} {s : Addr} {rest : List V} {ds : List PyData} {D : PyData → Prop} {E : XK} (S : ST G0 H0 L π ρ (DrB s :: μ) G σ H) (hd : DaAll G rest ds) (hR : R ds D)
    (k : ∀ d x G' H', D d → ST G0 H0 L π ρ (DrB s :: μ) G' σ H' → Same G G' → Da G' x d → Q x H') : spB R (.ref s :: rest) H Q E :=
  ⟨G, s, rest, ds, D, rfl, S.same, S.at, hd, hR, fun d x G' H' hD g h hx => k d x G' H' hD (S.called g h fun b hb => .inl hb) g.g hx⟩
theorem ret_B {s : Addr} {d : PyData} {Dd : PyData → Prop} (S : ST G0 H0 (DrB s).fp π ρ [DrB s] G σ H) (hd : Dd d) (hv : Da G v d) (k : ∀ d x G' H', Dd d → Gx (DrB s).fp G0 H0 G' H' → (DrB s).at G' H' → Da G' x d → Q x H') : Q v H :=
  k d v G H hd S.gx S.at hv
/-- the next draw below a limit -/
def R_next (ds : List PyData) (D : PyData → Prop) : Prop := ∃ lim : Int, ds = [.int lim] ∧ 0 < lim ∧ lim < 2 ^ 8000 ∧ D = fun d => ∃ r, d = .int r ∧ 0 ≤ r ∧ r < lim
theorem c_drawB {s : Addr} {lim : Int} {E : XK} (S : ST G0 H0 L π ρ (DrB s :: μ) G σ H) (h0 : 0 < lim) (h1 : lim < 2 ^ 8000)
    (k : ∀ r G' H', 0 ≤ r → r < lim → ST G0 H0 L π ρ (DrB s :: μ) G' σ H' → Same G G' → Q (.int r) H') : spB R_next [.ref s, .int lim] H Q E :=
  c_callB S (.cons (.int lim) .nil) ⟨lim, rfl, h0, h1, rfl⟩ fun d x G' H' ⟨r, e, h2, h3⟩ S sg hx => by
    subst e
    cases hx
    exact k r G' H' h2 h3 S sg
theorem lim_small {lim : Int} (h : lim < 2 ^ 64) : lim < 2 ^ 8000 := Int.lt_of_lt_of_le h (by decide +kernel)
end
end Hw

namespace K09
open PySem L2 Hw
def top (i : Nat) : Stmt := PySem.Challenge.pw_heapwhole_k09_chunks_of_a_text.main.body.getD i (.Pass ⟨0, 0, 0, 0⟩)
abbrev s_line_starts : Stmt := top 1
abbrev n_line_starts : List Str := ["text", "found", "position"]
theorem sc_line_starts : FnScope n_line_starts ["text"] (defScope s_line_starts) := ⟨rfl, rfl, rfl, by decide +kernel, rfl, by decide +kernel, by decide +kernel⟩
def d_line_starts : He.DefD := ⟨("line_starts", none), "line_starts", "line_starts", defArgs s_line_starts, defBody s_line_starts, defScope s_line_starts, [], []⟩
abbrev s_chunks : Stmt := top 2
abbrev n_chunks : List Str := ["text", "starts", "ends", "start", "end"]
theorem sc_chunks : FnScope n_chunks ["text"] (defScope s_chunks) := ⟨rfl, rfl, rfl, by decide +kernel, rfl, by decide +kernel, by decide +kernel⟩
def d_chunks : He.DefD := ⟨("chunks", none), "chunks", "chunks", defArgs s_chunks, defBody s_chunks, defScope s_chunks, [], []⟩
abbrev s_l_next : Stmt := top 4
abbrev n_l_next : List Str := ["state", "limit", "cell", "value"]
theorem sc_l_next : FnScope n_l_next ["state", "limit"] (defScope s_l_next) := ⟨rfl, rfl, rfl, by decide +kernel, rfl, by decide +kernel, by decide +kernel⟩
def d_l_next : He.DefD := ⟨("_law_next", none), "_law_next", "_law_next", defArgs s_l_next, defBody s_l_next, defScope s_l_next, [], []⟩
abbrev s_l_same : Stmt := top 5
abbrev n_l_same : List Str := ["actual", "expected", "k"]
theorem sc_l_same : FnScope n_l_same ["actual", "expected"] (defScope s_l_same) := ⟨rfl, rfl, rfl, by decide +kernel, rfl, by decide +kernel, by decide +kernel⟩
def d_l_same : He.DefD := ⟨("_law_same", none), "_law_same", "_law_same", defArgs s_l_same, defBody s_l_same, defScope s_l_same, [], []⟩
abbrev s_l_char : Stmt := top 6
abbrev n_l_char : List Str := ["index", "chars"]
theorem sc_l_char : FnScope n_l_char ["index"] (defScope s_l_char) := ⟨rfl, rfl, rfl, by decide +kernel, rfl, by decide +kernel, by decide +kernel⟩
def d_l_char : He.DefD := ⟨("_law_char", none), "_law_char", "_law_char", defArgs s_l_char, defBody s_l_char, defScope s_l_char, [], []⟩
abbrev s_l_line : Stmt := top 7
abbrev n_l_line : List Str := ["state", "line", "k"]
theorem sc_l_line : FnScope n_l_line ["state"] (defScope s_l_line) := ⟨rfl, rfl, rfl, by decide +kernel, rfl, by decide +kernel, by decide +kernel⟩
def d_l_line : He.DefD := ⟨("_law_line", none), "_law_line", "_law_line", defArgs s_l_line, defBody s_l_line, defScope s_l_line, [], []⟩
abbrev s_l_lines : Stmt := top 8
abbrev n_l_lines : List Str := ["state", "count", "text", "k"]
theorem sc_l_lines : FnScope n_l_lines ["state", "count"] (defScope s_l_lines) := ⟨rfl, rfl, rfl, by decide +kernel, rfl, by decide +kernel, by decide +kernel⟩
def d_l_lines : He.DefD := ⟨("_law_lines", none), "_law_lines", "_law_lines", defArgs s_l_lines, defBody s_l_lines, defScope s_l_lines, [], []⟩
abbrev s_law : Stmt := top 9
abbrev n_law : List Str := ["script", "state", "text", "expected", "before", "count", "k", "chunk", "actual", "position"]
theorem sc_law : FnScope n_law ["script"] (defScope s_law) := ⟨rfl, rfl, rfl, by decide +kernel, rfl, by decide +kernel, by decide +kernel⟩
def d_law : He.DefD := ⟨("law", none), "law", "law", defArgs s_law, defBody s_law, defScope s_law, [], []⟩
def fns : List He.DefD := [d_line_starts, d_chunks, d_l_next, d_l_same, d_l_char, d_l_line, d_l_lines, d_law]
def fas : List He.Fa := [.glo "line_starts", .glo "chunks", .glo "_law_next", .glo "_law_same", .glo "_law_char", .glo "_law_line", .glo "_law_lines", .glo "law", .free "bool", .free "int", .free "isinstance", .free "len", .free "list", .free "range", .free "str", .free "tuple", .free "zip"]
structure Tx (K : PySem.W.Frag) (mg : Str → Option Value) : Prop where
  g_line_starts : mg "line_starts" = some (.ref (He.fAd K ("line_starts", none)))
  g_chunks : mg "chunks" = some (.ref (He.fAd K ("chunks", none)))
  g_l_next : mg "_law_next" = some (.ref (He.fAd K ("_law_next", none)))
  g_l_same : mg "_law_same" = some (.ref (He.fAd K ("_law_same", none)))
  g_l_char : mg "_law_char" = some (.ref (He.fAd K ("_law_char", none)))
  g_l_line : mg "_law_line" = some (.ref (He.fAd K ("_law_line", none)))
  g_l_lines : mg "_law_lines" = some (.ref (He.fAd K ("_law_lines", none)))
  g_law : mg "law" = some (.ref (He.fAd K ("law", none)))
  f_bool : mg "bool" = none
  f_int : mg "int" = none
  f_isinstance : mg "isinstance" = none
  f_len : mg "len" = none
  f_list : mg "list" = none
  f_range : mg "range" = none
  f_str : mg "str" = none
  f_tuple : mg "tuple" = none
  f_zip : mg "zip" = none
theorem tx {K : PySem.W.Frag} {h : Heap} {mg : Str → Option Value} (X : K.In h) (G : h.Ns mainGlobals mg) (c : He.SaysD fas fns K) : Tx K mg :=
  ⟨He.glo_ok X G (c.fact 0), He.glo_ok X G (c.fact 1), He.glo_ok X G (c.fact 2), He.glo_ok X G (c.fact 3), He.glo_ok X G (c.fact 4), He.glo_ok X G (c.fact 5), He.glo_ok X G (c.fact 6), He.glo_ok X G (c.fact 7), He.free_ok X G (c.fact 8), He.free_ok X G (c.fact 9), He.free_ok X G (c.fact 10), He.free_ok X G (c.fact 11), He.free_ok X G (c.fact 12), He.free_ok X G (c.fact 13), He.free_ok X G (c.fact 14), He.free_ok X G (c.fact 15), He.free_ok X G (c.fact 16)⟩
end K09
namespace K09
open PySem L2 Hw
local macro_rules | `(tactic| walk_at "s1") => `(tactic| (first
  | with_reducible refine c_seq ?_ | with_reducible refine c_asg ?_ | with_reducible refine c_drop ?_ | with_reducible refine c_ret ?_ | with_reducible refine c_if ?_ | with_reducible refine c_next ?_
  | with_reducible refine c_test ?_ | with_reducible refine c_B ?_ | with_reducible refine c_isB ?_ | with_reducible refine c_not ?_ | with_reducible refine c_and ?_ | with_reducible refine c_or ?_
  | with_reducible refine c_andV ?_ | with_reducible refine c_orV ?_ | with_reducible refine c_notV ?_ | with_reducible refine c_ifE ?_
  | with_reducible refine c_cons ?_ | with_reducible refine c_nil ?_ | with_reducible refine c_op ?_ | with_reducible refine c_un ?_ | with_reducible refine c_cb ?_ | with_reducible refine c_call ?_
  | with_reducible refine c_C ?_ | with_reducible refine c_sl ?_ | with_reducible refine c_noPart ?_ | with_reducible refine c_part ?_ | with_reducible refine c_isI ?_
  | with_reducible refine c_for ?_ | with_reducible refine c_iR1 ?_ | with_reducible refine c_iR2 ?_ | with_reducible refine c_iR3 ?_ | with_reducible refine c_iList ?_ | with_reducible refine c_gcons ?_ | with_reducible refine c_gnil ?_
  | with_reducible refine c_lc ?_ | with_reducible refine c_yes ?_ | with_reducible refine c_fld ?_ | with_reducible refine c_sfld ?_ | with_reducible refine c_meth ?_ | with_reducible refine c_make ?_ | with_reducible refine c_augS ?_ | with_reducible refine c_gsub ?_ | with_reducible refine c_ip ?_
  | ((with_reducible refine' c_aug ?S ?h ?_); (case S => assumption); (case h => exact rfl))
  | with_reducible refine c_tup ?_ | with_reducible refine c_lst ?_ | with_reducible refine c_bm ?_ | with_reducible refine c_bm0 ?_
  | ((with_reducible refine' c_var ?S ?h ?_); (case S => assumption); (case h => exact rfl)) | ((with_reducible refine' c_varD ?S ?h (fun v hv => ?_)); (case S => assumption); (case h => exact rfl))
  | ((with_reducible refine' c_setI ?S (fun σ' S => ?_)); (case S => assumption)) | ((with_reducible refine' c_setS ?S (fun σ' S => ?_)); (case S => assumption)) | ((with_reducible refine' c_setB ?S (fun σ' S => ?_)); (case S => assumption)) | ((with_reducible refine' c_setN ?S (fun σ' S => ?_)); (case S => assumption))
  | with_reducible refine c_plusI ?_ | with_reducible refine c_minus ?_ | with_reducible refine c_less ?_ | with_reducible refine c_le ?_ | with_reducible refine c_gt ?_ | with_reducible refine c_ge ?_
  | with_reducible refine c_sameI ?_ | with_reducible refine c_sameS ?_ | with_reducible refine c_sameB ?_ | with_reducible refine c_diffI ?_ | with_reducible refine c_diffS ?_ | with_reducible refine c_diffB ?_
  | with_reducible refine c_isNone ?_ | with_reducible refine c_notNone ?_
  | with_reducible refine c_int ?_ | with_reducible refine c_intB ?_ | with_reducible refine c_min2 ?_ | with_reducible refine c_max2 ?_
  | ((with_reducible refine' c_lenL ?h ?s ?_); (case h => assumption); (case s => exact ST.same (by assumption)))
  | ((with_reducible refine' c_lenT ?h ?s ?_); (case h => assumption); (case s => exact ST.same (by assumption)))
  | ((with_reducible refine c_rem ?h ?_); (case h => decide)) | ((with_reducible refine c_div ?h ?_); (case h => exact ⟨by decide, by decide⟩)) | ((with_reducible refine c_times ?h ?_); (case h => exact .inr ⟨by decide, by decide⟩))))
local macro_rules | `(tactic| walk_at "st") => `(tactic| repeat walk_at "s1")
local macro_rules | `(tactic| walk_at "le") => `(tactic| repeat' (first | exact True.intro | exact SlLe.rfl' | exact SlLe.any' | exact SlLe.int' | exact SlLe.str' | exact SlLe.bl' | exact SlLe.non' | (refine And.intro ?_ ?_)))
local macro_rules | `(tactic| walk_at "da") => `(tactic| repeat' (first | assumption | exact DaAll.nil | exact Da.int _ | exact Da.str _ | exact Da.bl _ | exact Da.non | (with_reducible apply DaAll.cons)))
local macro_rules | `(tactic| walk_at "wp") => `(tactic| repeat (first | (rw [wipe_in (by decide)]) | exact wipe_wipe _ _))
local macro_rules | `(tactic| walk_at "sj") => `(tactic| ((repeat ((fail_if_success (with_reducible show tSeq (tIfS _ _ _) _ _ _ _)); walk_at "s1")); (try (with_reducible show tSeq (tIfS _ _ _) _ _ _ _))))
section
variable {P : Program} {w : World} {K : PySem.W.Frag} {mg : Str → Option Value} {base : Heap}
theorem fo_l_next (T : Tx K mg) {fd : FuncData} (F : FunD K "_law_next" "_law_next" (defArgs s_l_next) (defBody s_l_next) (defScope s_l_next) [] [] (He.fAd K ("_law_next", none)) fd)   : FnOk P w K mg base CX0 1 (He.fAd K ("_law_next", none)) fd ["state", "limit"] (spB R_next) := by
  refine F.ok sc_l_next (fun vs H Q E h => ?len) (fun cdv A outer s H vs Q E hr h => ?read)
  case len =>
    obtain ⟨G, s, rest, ds, D, rfl, _, _, hd, ⟨lim, rfl, _⟩, _⟩ := h
    show rest.length + 1 = 2
    rw [da_len hd]; rfl
  case read =>
    refine ⟨_, PSs.nox (pss_cons (ps_if (PW.pt (pw_and (pt_cmpR (op_same hr.units) (pe_ix ix_seq (pv 0) pe_int (fun _ _ => rfl)) pe_int (nomark _)) (pw_and1 (pt_cmpR (op_less hr.units0) (pe_ix ix_seq (pv 0) pe_int (fun _ _ => rfl)) (pe_callB cl_len (by rfl) T.f_len (by decide +kernel) (pa_cons (pe_ix ix_seq (pv 0) pe_int (fun _ _ => rfl)) pa_nil)) (nomark _))))) (pss_cons (ps_set (i := 2) sc_l_next.nd rfl (by first | exact Or.inl rfl | exact Or.inr rfl) (pe_ix ix_seq (pe_ix ix_seq (pv 0) pe_int (fun _ _ => rfl)) (pe_ix ix_seq (pv 0) pe_int (fun _ _ => rfl)) (fun _ _ => rfl)))
      (pss_cons (ps_augS (pv 0) pe_int get_list pe_int ip_add set_list)
      (pss_one (ps_if (pt_cmpR op_geI (pv 2) (pe_op op_power pe_int pe_int) (nomark _)) (pss_one (ps_asg (pv 2) (pg_sub (pv 0) pe_int set_list))) (pss_one (ps_asg (pe_op op_rem (pe_callTy cl_int (by rfl) T.f_int (by decide +kernel) (pa_cons (pe_op op_plus (pe_op op_plus (pe_op op_times (pe_ix ix_seq (pv 0) pe_int (fun _ _ => rfl)) pe_int) (pe_op op_rem (pe_callTy cl_int (by rfl) T.f_int (by decide +kernel) (pa_cons (pv 2) pa_nil)) pe_int)) pe_int) pa_nil)) pe_int) (pg_sub (pv 0) pe_int set_list))))))) pss_nil)
      (pss_cons (ps_if (pt_cmpR op_gtI (pe_ix ix_seq (pv 0) pe_int (fun _ _ => rfl)) pe_int (nomark _)) (pss_cons (ps_set (i := 3) sc_l_next.nd rfl (by first | exact Or.inl rfl | exact Or.inr rfl) (pe_op op_rem (pe_callTy cl_int (by rfl) T.f_int (by decide +kernel) (pa_cons (pe_ix ix_seq (pv 0) pe_int (fun _ _ => rfl)) pa_nil)) (pv 1)))
      (pss_cons (ps_asg (pe_op op_div (pe_ix ix_seq (pv 0) pe_int (fun _ _ => rfl)) (pv 1)) (pg_sub (pv 0) pe_int set_list))
      (pss_one (ps_ret (pv 3))))) pss_nil)
      (pss_cons (ps_asg (pe_op op_rem (pe_callTy cl_int (by rfl) T.f_int (by decide +kernel) (pa_cons (pe_op op_plus (pe_op op_times (pe_ix ix_seq (pv 0) pe_int (fun _ _ => rfl)) pe_int) pe_int) pa_nil)) pe_int) (pg_sub (pv 0) pe_int set_list))
      (pss_one (ps_ret (pe_op op_rem (pe_callTy cl_int (by rfl) T.f_int (by decide +kernel) (pa_cons (pe_op op_div (pe_ix ix_seq (pv 0) pe_int (fun _ _ => rfl)) pe_int) pa_nil)) (pv 1))))))), ?_⟩
    obtain ⟨G, s, rest, ds, D, rfl, s0, hA, hd, ⟨lim, rfl, hl, hl2, rfl⟩, ret⟩ := h
    obtain ⟨v0, r, rfl, h1, hd⟩ := da_cons hd
    cases da_nil hd
    cases h1
    obtain ⟨⟨ns, i, c, k, ⟨hn, hi, hc, hk0, hk1⟩, hs⟩, hf⟩ := hA
    have S : ST G H (DrB s).fp [] [.val (.ref s), .val (.int lim), .any, .any] [As.lst s (stD ns i c k)] G (L2.start n_l_next [.ref s, .int lim]) H :=
      ST.start1 (N := n_l_next) (ρ := [.val (.ref s), .val (.int lim)]) (A := As.lst s (stD ns i c k)) s0 ⟨rfl, rfl, True.intro⟩ ⟨hs, hf⟩
    have end_ : ∀ {G' : Hp} {σ' : St} {H' : Hp} {ρ' : List Sl} {i c k r : Int}, StOk ns i c k → 0 ≤ r → r < lim → ST G H (DrB s).fp [] ρ' [As.lst s (stD ns i c k)] G' σ' H' → Q (.int r) H' := fun {G' σ' H' ρ' i c k r} ok h0 h1 S =>
      ret _ _ G' H' ⟨r, rfl, h0, h1⟩ S.gx ⟨⟨ns, i, c, k, ok, S.head⟩, fun b hb => ⟨(S.hfp hb).1, (S.hfp hb).2.1⟩⟩ (.int r)
    walk_at "sj"
    refine c_seqJ (fun σ' H' => ∃ G' i c k, StOk ns i c k ∧ ST G H (DrB s).fp [] [.val (.ref s), .val (.int lim), .any, .any] [As.lst s (stD ns i c k)] G' σ' H') ?rest ?first
    case first =>
      intro J hJ
      obtain ⟨v1, e, h1⟩ := stD_head S
      walk_at "st"
      refine c_ixM (k := 2) e rfl (.inl ⟨by decide, rfl⟩) ?_
      walk_at "st"
      refine c_ite (fun hc0 => ?_) (fun hc0 => ?_)
      · walk_at "st"
        refine c_ixM (k := 1) e rfl (.inl ⟨by decide, rfl⟩) ?_
        walk_at "st"
        refine c_ixM (k := 0) e rfl (.inl ⟨by decide, rfl⟩) ?_
        walk_at "st"
        rw [List.length_map]
        refine c_ite (fun hin => ?_) (fun hin => ?_)
        · walk_at "st"
          refine c_ixM (k := 0) e rfl (.inl ⟨by decide, rfl⟩) ?_
          walk_at "st"
          refine c_ixM (k := 1) e rfl (.inl ⟨by decide, rfl⟩) ?_
          have hil : i.toNat < ns.length := by omega
          refine c_ixL (k := i.toNat) h1 S.same (d := .int ns[i.toNat]) (by rw [List.getElem?_map]; simp [hil]) (.inl ⟨hi, rfl⟩) (fun w hw => ?_)
          cases hw
          walk_at "st"
          rename_i σ1 S1
          refine c_getL (k := 1) e rfl rfl (by decide) ?_
          walk_at "st"
          refine c_setL (k := 1) S1 (.int _) rfl (by show 1 < 4; decide) (fun H1 S => ?_)
          have S : ST G H (DrB s).fp [] _ [As.lst s (stD ns (i + 1) c k)] G _ H1 := S
          obtain ⟨v1, e, h1⟩ := stD_head S
          walk_at "st"
          refine c_pow ⟨by decide, by decide, by decide⟩ ?_
          walk_at "st"
          refine c_ite (fun hbig => ?_) (fun hbig => ?_)
          · walk_at "st"
            refine c_setL (k := 2) S (.int _) rfl (by show 2 < 4; decide) (fun H2 S => ?_)
            have hz : (0 : Int) ≤ ns[i.toNat] := Int.le_trans (by decide) hbig
            have S : ST G H (DrB s).fp [] _ [As.lst s (stD ns (i + 1) ns[i.toNat] k)] G _ H2 := S
            exact hJ _ _ ⟨_, _, _, _, ⟨hn, by omega, hz, hk0, hk1⟩, S.le (by walk_at "le")⟩
          · walk_at "st"
            refine c_ixM (k := 3) e rfl (.inl ⟨by decide, rfl⟩) ?_
            walk_at "st"
            refine c_setL (k := 3) S (.int _) rfl (by show 3 < 4; decide) (fun H2 S => ?_)
            have S : ST G H (DrB s).fp [] _ [As.lst s (stD ns (i + 1) c ((k * 48271 + ns[i.toNat] % 2147483647 + 7) % 2147483647))] G _ H2 := S
            exact hJ _ _ ⟨_, _, _, _, ⟨hn, by omega, hc, Int.emod_nonneg _ (by decide), Int.emod_lt_of_pos _ (by decide)⟩, S.le (by walk_at "le")⟩
        · walk_at "st"
          exact hJ _ _ ⟨_, _, _, _, ⟨hn, hi, hc, hk0, hk1⟩, S.le (by walk_at "le")⟩
      · refine iteF ?_
        walk_at "st"
        exact hJ _ _ ⟨_, _, _, _, ⟨hn, hi, hc, hk0, hk1⟩, S.le (by walk_at "le")⟩
    case rest =>
      rintro σ1 H1 ⟨G1, i, c, k, ⟨hn, hi, hc, hk0, hk1⟩, S⟩
      obtain ⟨v1, e, h1⟩ := stD_head S
      walk_at "st"
      refine c_ixM (k := 2) e rfl (.inl ⟨by decide, rfl⟩) ?_
      walk_at "st"
      refine c_ite (fun hc1 => ?_) (fun hc1 => ?_)
      · walk_at "st"
        refine c_ixM (k := 2) e rfl (.inl ⟨by decide, rfl⟩) ?_
        walk_at "st"
        refine c_rem hl ?_
        walk_at "st"
        refine c_ixM (k := 2) e rfl (.inl ⟨by decide, rfl⟩) ?_
        walk_at "st"
        refine c_div (wide_div hl (b := 8000) (by omega) (by decide) (by decide)) ?_
        walk_at "st"
        rename_i σ2 S2
        refine c_setL (k := 2) S2 (.int _) rfl (by show 2 < 4; decide) (fun H2 S => ?_)
        have S : ST G H (DrB s).fp [] _ [As.lst s (stD ns i (c / lim) k)] G1 _ H2 := S
        walk_at "st"
        exact end_ ⟨hn, hi, Int.ediv_nonneg hc (by omega), hk0, hk1⟩ (Int.emod_nonneg _ (by omega)) (Int.emod_lt_of_pos _ hl) S
      · walk_at "st"
        refine c_ixM (k := 3) e rfl (.inl ⟨by decide, rfl⟩) ?_
        walk_at "st"
        refine c_setL (k := 3) S (.int _) rfl (by show 3 < 4; decide) (fun H2 S => ?_)
        have S : ST G H (DrB s).fp [] _ [As.lst s (stD ns i c ((k * 69621 + 12345) % 2147483647))] G1 _ H2 := S
        obtain ⟨v1, e, h1⟩ := stD_head S
        walk_at "st"
        refine c_ixM (k := 3) e rfl (.inl ⟨by decide, rfl⟩) ?_
        walk_at "st"
        refine c_rem hl ?_
        exact end_ ⟨hn, hi, hc, Int.emod_nonneg _ (by decide), Int.emod_lt_of_pos _ (by decide)⟩ (Int.emod_nonneg _ (by omega)) (Int.emod_lt_of_pos _ hl) S
theorem ok_l_next (T : Tx K mg) (c : He.SaysD fas fns K)  : OkF P w K mg base CX0 ("_law_next", none) ["state", "limit"] 1 (spB R_next) := by
  obtain ⟨fd, F⟩ := c.def_ 2 (d := d_l_next) rfl
  exact ⟨fd, fo_l_next T F , F.kp, F.bindsN fun _ _ _ _ _ _ us hl => match us, hl with | [_, _], _ => rfl⟩
end
/-! ### the law's own comparison -/
def R_same (n : Nat) (ds : List PyData) (d : PyData) : Prop := ∃ m x, n = m + 1 ∧ ds = [x, x] ∧ fits m x ∧ d = .bool true
abbrev sp_same (n : Nat) : Sp := spP (R_same n)
section
variable {P : Program} {w : World} {K : PySem.W.Frag} {mg : Str → Option Value} {base : Heap}
theorem fo_l_same (T : Tx K mg) {fd : FuncData} (F : FunD K "_law_same" "_law_same" (defArgs s_l_same) (defBody s_l_same) (defScope s_l_same) [] [] (He.fAd K ("_law_same", none)) fd)  {lv n : Nat} (hb : 0 ≤ lv) (h_l_same : OkF P w K mg base CX0 ("_law_same", none) ["actual", "expected"] lv (sp_same n)) : FnOk P w K mg base CX0 (lv + 1) (He.fAd K ("_law_same", none)) fd ["actual", "expected"] (sp_same (n + 1)) := by
  obtain ⟨fd_l_same, G_l_same, kp_l_same, b_l_same⟩ := h_l_same
  refine F.ok sc_l_same (fun vs H Q E h => ?len) (fun cdv A outer s H vs Q E hr h => ?read)
  case len =>
    obtain ⟨G, ds, d, _, hd, ⟨m, x, _, rfl, _⟩, _⟩ := h
    exact da_len hd
  case read =>
    refine ⟨_, PSs.nox (pss_cons (ps_if (pt_cmpR op_isNone (pv 1) pe_non (nomark _)) (pss_one (ps_ret (pe_cmpR op_isNone (pv 0) pe_non (nomark _)))) pss_nil)
      (pss_cons (ps_if (pt_val (pe_callB cl_isi (by rfl) T.f_isinstance (by decide +kernel) (pa_cons (pv 1) (pa_cons (pe_bltn (v := .ty "bool") (by rfl) T.f_bool (by decide +kernel) rfl) pa_nil)))) (pss_one (ps_ret (pe_and (pe_callB cl_isi (by rfl) T.f_isinstance (by decide +kernel) (pa_cons (pv 0) (pa_cons (pe_bltn (v := .ty "bool") (by rfl) T.f_bool (by decide +kernel) rfl) pa_nil))) (pe_one (pe_cmpR (op_same hr.units) (pv 0) (pv 1) (nomark _)))))) pss_nil)
      (pss_cons (ps_if (pt_val (pe_callB cl_isi (by rfl) T.f_isinstance (by decide +kernel) (pa_cons (pv 1) (pa_cons (pe_bltn (v := .ty "int") (by rfl) T.f_int (by decide +kernel) rfl) pa_nil)))) (pss_one (ps_ret (pe_and (pe_callB cl_isi (by rfl) T.f_isinstance (by decide +kernel) (pa_cons (pv 0) (pa_cons (pe_bltn (v := .ty "int") (by rfl) T.f_int (by decide +kernel) rfl) pa_nil))) (pe_and (pe_not (pe_callB cl_isi (by rfl) T.f_isinstance (by decide +kernel) (pa_cons (pv 0) (pa_cons (pe_bltn (v := .ty "bool") (by rfl) T.f_bool (by decide +kernel) rfl) pa_nil)))) (pe_one (pe_cmpR (op_same hr.units) (pv 0) (pv 1) (nomark _))))))) pss_nil)
      (pss_cons (ps_if (pt_val (pe_callB cl_isi (by rfl) T.f_isinstance (by decide +kernel) (pa_cons (pv 1) (pa_cons (pe_bltn (v := .ty "str") (by rfl) T.f_str (by decide +kernel) rfl) pa_nil)))) (pss_one (ps_ret (pe_and (pe_callB cl_isi (by rfl) T.f_isinstance (by decide +kernel) (pa_cons (pv 0) (pa_cons (pe_bltn (v := .ty "str") (by rfl) T.f_str (by decide +kernel) rfl) pa_nil))) (pe_one (pe_cmpR (op_same hr.units) (pv 0) (pv 1) (nomark _)))))) pss_nil)
      (pss_cons (ps_if (PW.pt (pw_and (pt_val (pe_callB cl_isi (by rfl) T.f_isinstance (by decide +kernel) (pa_cons (pv 1) (pa_cons (pe_bltn (v := .ty "tuple") (by rfl) T.f_tuple (by decide +kernel) rfl) pa_nil)))) (pw_and1 (pt_not (pt_val (pe_callB cl_isi (by rfl) T.f_isinstance (by decide +kernel) (pa_cons (pv 0) (pa_cons (pe_bltn (v := .ty "tuple") (by rfl) T.f_tuple (by decide +kernel) rfl) pa_nil)))))))) (pss_one (ps_ret pe_bl)) pss_nil)
      (pss_cons (ps_if (PW.pt (pw_and (pt_val (pe_callB cl_isi (by rfl) T.f_isinstance (by decide +kernel) (pa_cons (pv 1) (pa_cons (pe_bltn (v := .ty "list") (by rfl) T.f_list (by decide +kernel) rfl) pa_nil)))) (pw_and1 (pt_not (pt_val (pe_callB cl_isi (by rfl) T.f_isinstance (by decide +kernel) (pa_cons (pv 0) (pa_cons (pe_bltn (v := .ty "list") (by rfl) T.f_list (by decide +kernel) rfl) pa_nil)))))))) (pss_one (ps_ret pe_bl)) pss_nil)
      (pss_cons (ps_if (pt_cmpR (op_diff hr.units) (pe_callB cl_len (by rfl) T.f_len (by decide +kernel) (pa_cons (pv 0) pa_nil)) (pe_callB cl_len (by rfl) T.f_len (by decide +kernel) (pa_cons (pv 1) pa_nil)) (nomark _)) (pss_one (ps_ret pe_bl)) pss_nil)
      (pss_cons (ps_for PassesOwn.never rfl (pi_range1 (by rfl) T.f_range (pa_cons (pe_callB cl_len (by rfl) T.f_len (by decide +kernel) (pa_cons (pv 1) pa_nil)) pa_nil)) (pg_name (i := 2) sc_l_same.nd rfl (by first | exact Or.inl rfl | exact Or.inr rfl))
      (pss_one (ps_if (pt_not (pt_val (pe_call G_l_same (hr.mono (by omega)) (by rfl) T.g_l_same kp_l_same b_l_same .nil pass0 (pa_cons (pe_ix ix_seq (pv 0) (pv 2) (fun _ _ => rfl)) (pa_cons (pe_ix ix_seq (pv 1) (pv 2) (fun _ _ => rfl)) pa_nil))))) (pss_one (ps_ret pe_bl)) pss_nil)))
      (pss_one (ps_ret pe_bl)))))))))), ?_⟩
    obtain ⟨G, ds, d, s0, hd, ⟨m, x, hn, rfl, hf, rfl⟩, ret⟩ := h
    obtain rfl : n = m := by omega
    cases x with
    | dict kvs => cases n <;> exact hf.elim
    | none =>
      have S : ST G H NoL [] [.val .non, .val .non, .any] [] G (L2.start n_l_same vs) H := ST.start (N := n_l_same) s0 hd
      walk_at "st"
      refine c_ite (fun _ => ?_) (fun h => absurd rfl h)
      walk_at "st"
      exact ret_P S (.bl true) ret
    | bool b =>
      have S : ST G H NoL [] [.val (.bl b), .val (.bl b), .any] [] G (L2.start n_l_same vs) H := ST.start (N := n_l_same) s0 hd
      walk_at "st"
      refine c_ite (fun h => nomatch h) (fun _ => ?_)
      walk_at "st"
      refine c_isi (d := .bool b) (.bl b) S.same (b := true) (by show kitB "bool" "bool" = _; decide +kernel) ?_
      walk_at "st"
      refine iteT ?_
      walk_at "st"
      refine c_isi (d := .bool b) (.bl b) S.same (b := true) (by show kitB "bool" "bool" = _; decide +kernel) ?_
      walk_at "st"
      refine iteT ?_
      walk_at "st"
      rw [decide_eq_true rfl]
      exact ret_P S (.bl true) ret
    | int i =>
      have S : ST G H NoL [] [.val (.int i), .val (.int i), .any] [] G (L2.start n_l_same vs) H := ST.start (N := n_l_same) s0 hd
      walk_at "st"
      refine c_ite (fun h => nomatch h) (fun _ => ?_)
      walk_at "st"
      refine c_isi (d := .int i) (.int i) S.same (b := false) (by show kitB "int" "bool" = _; decide +kernel) ?_
      walk_at "st"
      refine iteF ?_
      walk_at "st"
      refine c_isi (d := .int i) (.int i) S.same (b := true) (by show kitB "int" "int" = _; decide +kernel) ?_
      walk_at "st"
      refine iteT ?_
      walk_at "st"
      refine c_isi (d := .int i) (.int i) S.same (b := true) (by show kitB "int" "int" = _; decide +kernel) ?_
      walk_at "st"
      refine iteT ?_
      walk_at "st"
      refine c_isi (d := .int i) (.int i) S.same (b := false) (by show kitB "int" "bool" = _; decide +kernel) ?_
      walk_at "st"
      refine iteT ?_
      walk_at "st"
      rw [decide_eq_true rfl]
      exact ret_P S (.bl true) ret
    | str z =>
      have S : ST G H NoL [] [.val (.str z), .val (.str z), .any] [] G (L2.start n_l_same vs) H := ST.start (N := n_l_same) s0 hd
      walk_at "st"
      refine c_ite (fun h => nomatch h) (fun _ => ?_)
      walk_at "st"
      refine c_isi (d := .str z) (.str z) S.same (b := false) (by show kitB "str" "bool" = _; decide +kernel) ?_
      walk_at "st"
      refine iteF ?_
      walk_at "st"
      refine c_isi (d := .str z) (.str z) S.same (b := false) (by show kitB "str" "int" = _; decide +kernel) ?_
      walk_at "st"
      refine iteF ?_
      walk_at "st"
      refine c_isi (d := .str z) (.str z) S.same (b := true) (by show kitB "str" "str" = _; decide +kernel) ?_
      walk_at "st"
      refine iteT ?_
      walk_at "st"
      refine c_isi (d := .str z) (.str z) S.same (b := true) (by show kitB "str" "str" = _; decide +kernel) ?_
      walk_at "st"
      refine iteT ?_
      walk_at "st"
      rw [decide_eq_true rfl]
      exact ret_P S (.bl true) ret
    | list xs =>
      have S : ST G H NoL [] [.dat (.list xs), .dat (.list xs), .any] [] G (L2.start n_l_same vs) H := ST.start (N := n_l_same) s0 hd
      walk_at "st"
      refine c_ite (fun h => ?_) (fun _ => ?_)
      · subst h; obtain ⟨_, _, e, _⟩ := da_lst (by assumption); cases e
      walk_at "st"
      refine c_isi (d := .list xs) (by assumption) S.same (b := false) (by show kitB "list" "bool" = _; decide +kernel) ?_
      walk_at "st"
      refine iteF ?_
      walk_at "st"
      refine c_isi (d := .list xs) (by assumption) S.same (b := false) (by show kitB "list" "int" = _; decide +kernel) ?_
      walk_at "st"
      refine iteF ?_
      walk_at "st"
      refine c_isi (d := .list xs) (by assumption) S.same (b := false) (by show kitB "list" "str" = _; decide +kernel) ?_
      walk_at "st"
      refine iteF ?_
      walk_at "st"
      refine c_isi (d := .list xs) (by assumption) S.same (b := false) (by show kitB "list" "tuple" = _; decide +kernel) ?_
      walk_at "st"
      refine iteF ?_
      walk_at "st"
      refine iteF ?_
      walk_at "st"
      refine c_isi (d := .list xs) (by assumption) S.same (b := true) (by show kitB "list" "list" = _; decide +kernel) ?_
      walk_at "st"
      refine iteT ?_
      walk_at "st"
      refine c_isi (d := .list xs) (by assumption) S.same (b := true) (by show kitB "list" "list" = _; decide +kernel) ?_
      walk_at "st"
      refine iteF ?_
      walk_at "st"
      refine c_iteN (fun h => absurd rfl h) (fun _ => ?_)
      walk_at "st"
      cases n with
      | zero => exact hf.elim
      | succ n =>
      have hl : xs.length < 2 ^ 60 := hf.1
      refine c_r1 (by omega) (by omega) ?_
      refine c_forR (fun i G' σ' H' => ST G H NoL [] [.dat (.list xs), .dat (.list xs), .any] [] G' σ' H') S ?_ ?_
      · rintro i G' σ' H' hi S
        have hi : i < xs.length := by omega
        walk_at "st"
        refine c_ixL (k := i) (by assumption) (ST.same (by assumption)) (show xs[i]? = some xs[i] by simp [hi]) (.inl ⟨by omega, by omega⟩) (fun u hu => ?_)
        walk_at "st"
        refine c_ixL (k := i) (by assumption) (ST.same (by assumption)) (show xs[i]? = some xs[i] by simp [hi]) (.inl ⟨by omega, by omega⟩) (fun u2 hu2 => ?_)
        walk_at "st"
        refine c_callP (by assumption) (by walk_at "da") ⟨n, _, rfl, rfl, hf.2 _ (List.getElem_mem hi), rfl⟩ (fun v G2 H2 S _ hv => ?_)
        cases hv
        walk_at "st"
        refine iteF ?_
        walk_at "st"
        exact ⟨_, S.le (by walk_at "le")⟩
      · intro G' σ' H' S
        walk_at "st"
        exact ret_P S (.bl true) ret
    | tuple xs =>
      have S : ST G H NoL [] [.dat (.tuple xs), .dat (.tuple xs), .any] [] G (L2.start n_l_same vs) H := ST.start (N := n_l_same) s0 hd
      walk_at "st"
      refine c_ite (fun h => ?_) (fun _ => ?_)
      · subst h; obtain ⟨_, _, e, _⟩ := da_tup (by assumption); cases e
      walk_at "st"
      refine c_isi (d := .tuple xs) (by assumption) S.same (b := false) (by show kitB "tuple" "bool" = _; decide +kernel) ?_
      walk_at "st"
      refine iteF ?_
      walk_at "st"
      refine c_isi (d := .tuple xs) (by assumption) S.same (b := false) (by show kitB "tuple" "int" = _; decide +kernel) ?_
      walk_at "st"
      refine iteF ?_
      walk_at "st"
      refine c_isi (d := .tuple xs) (by assumption) S.same (b := false) (by show kitB "tuple" "str" = _; decide +kernel) ?_
      walk_at "st"
      refine iteF ?_
      walk_at "st"
      refine c_isi (d := .tuple xs) (by assumption) S.same (b := true) (by show kitB "tuple" "tuple" = _; decide +kernel) ?_
      walk_at "st"
      refine iteT ?_
      walk_at "st"
      refine c_isi (d := .tuple xs) (by assumption) S.same (b := true) (by show kitB "tuple" "tuple" = _; decide +kernel) ?_
      walk_at "st"
      refine iteF ?_
      walk_at "st"
      refine c_isi (d := .tuple xs) (by assumption) S.same (b := false) (by show kitB "tuple" "list" = _; decide +kernel) ?_
      walk_at "st"
      refine iteF ?_
      walk_at "st"
      refine iteF ?_
      walk_at "st"
      refine c_iteN (fun h => absurd rfl h) (fun _ => ?_)
      walk_at "st"
      cases n with
      | zero => exact hf.elim
      | succ n =>
      have hl : xs.length < 2 ^ 60 := hf.1
      refine c_r1 (by omega) (by omega) ?_
      refine c_forR (fun i G' σ' H' => ST G H NoL [] [.dat (.tuple xs), .dat (.tuple xs), .any] [] G' σ' H') S ?_ ?_
      · rintro i G' σ' H' hi S
        have hi : i < xs.length := by omega
        walk_at "st"
        refine c_ixT (k := i) (by assumption) (ST.same (by assumption)) (show xs[i]? = some xs[i] by simp [hi]) (.inl ⟨by omega, by omega⟩) (fun u hu => ?_)
        walk_at "st"
        refine c_ixT (k := i) (by assumption) (ST.same (by assumption)) (show xs[i]? = some xs[i] by simp [hi]) (.inl ⟨by omega, by omega⟩) (fun u2 hu2 => ?_)
        walk_at "st"
        refine c_callP (by assumption) (by walk_at "da") ⟨n, _, rfl, rfl, hf.2 _ (List.getElem_mem hi), rfl⟩ (fun v G2 H2 S _ hv => ?_)
        cases hv
        walk_at "st"
        refine iteF ?_
        walk_at "st"
        exact ⟨_, S.le (by walk_at "le")⟩
      · intro G' σ' H' S
        walk_at "st"
        exact ret_P S (.bl true) ret
theorem ok_l_same (T : Tx K mg) (c : He.SaysD fas fns K)  : ∀ n : Nat, OkF P w K mg base CX0 ("_law_same", none) ["actual", "expected"] (0 + n) (sp_same n)
  | 0 => by
    obtain ⟨fd, F⟩ := c.def_ 3 (d := d_l_same) rfl
    exact ⟨fd, fn_never (by intro vs H Q E ⟨_, _, _, _, _, ⟨_, _, e, _⟩, _⟩; cases e), F.kp, F.bindsN fun _ _ _ _ _ _ us hl => match us, hl with | [_, _], _ => rfl⟩
  | n + 1 => by
    obtain ⟨fd, F⟩ := c.def_ 3 (d := d_l_same) rfl
    exact ⟨fd, fo_l_same T F  (Nat.le_add_right _ _) (ok_l_same T c  n), F.kp, F.bindsN fun _ _ _ _ _ _ us hl => match us, hl with | [_, _], _ => rfl⟩
end
/-! ### where lines start -/
/-- behind l: at a line's start? -/
def ln : Bool → List Nat → Bool
  | b, [] => b
  | _, c :: r => ln (c == 10) r
/-- the places where a chunk starts -/
def st : Bool → Nat → List Nat → List Nat
  | _, _, [] => []
  | b, p, c :: r => (if b = true ∧ c ≠ 32 ∧ c ≠ 10 then [p] else []) ++ st (c == 10) (p + 1) r
/-- no chunk starts in l -/
def ns : Bool → List Nat → Prop
  | _, [] => True
  | b, c :: r => (b = true → c = 32 ∨ c = 10) ∧ ns (c == 10) r
theorem ln_app : ∀ (a : List Nat) (b : Bool) (c : List Nat), ln b (a ++ c) = ln (ln b a) c
  | [], _, _ => rfl
  | x :: a, _, c => ln_app a (x == 10) c
theorem st_app : ∀ (a : List Nat) (b : Bool) (p : Nat) (c : List Nat), st b p (a ++ c) = st b p a ++ st (ln b a) (p + a.length) c
  | [], _, _, _ => rfl
  | x :: a, b, p, c => by
    show _ ++ st (x == 10) (p + 1) (a ++ c) = (_ ++ st (x == 10) (p + 1) a) ++ st (ln (x == 10) a) (p + (a.length + 1)) c
    rw [st_app a (x == 10) (p + 1) c, List.append_assoc, show p + (a.length + 1) = p + 1 + a.length by omega]
theorem st_ns : ∀ (l : List Nat) (b : Bool) (p : Nat), ns b l → st b p l = []
  | [], _, _, _ => rfl
  | c :: r, b, p, ⟨h1, h2⟩ => by
    show (if b = true ∧ c ≠ 32 ∧ c ≠ 10 then [p] else []) ++ st (c == 10) (p + 1) r = []
    rw [if_neg, st_ns r _ _ h2]
    · rfl
    · rintro ⟨a, b, d⟩
      exact (h1 a).elim b d
theorem ns_app : ∀ (a : List Nat) (b : Bool) (c : List Nat), ns b a → ns (ln b a) c → ns b (a ++ c)
  | [], _, _, _, h => h
  | _ :: a, _, c, ⟨h1, h2⟩, h => ⟨h1, ns_app a _ c h2 h⟩
theorem ns_line : ∀ l : List Nat, (∀ c ∈ l, c ≠ 10) → ns false l ∧ ln false l = false
  | [], _ => ⟨True.intro, rfl⟩
  | c :: r, h => by
    have h1 : (c == 10) = false := by
      rw [beq_eq_false_iff_ne]; exact h c (List.mem_cons_self ..)
    obtain ⟨a, b⟩ := ns_line r fun d hd => h d (List.mem_cons_of_mem _ hd)
    exact ⟨⟨(fun z => nomatch z), by rw [h1]; exact a⟩, by show ln (c == 10) r = false; rw [h1]; exact b⟩
theorem ns_take : ∀ (l : List Nat) (b : Bool) (n : Nat), ns b l → ns b (l.take n)
  | [], _, n, _ => by rw [List.take_nil]; exact True.intro
  | _ :: _, _, 0, _ => True.intro
  | _ :: r, _, n + 1, ⟨h1, h2⟩ => ⟨h1, ns_take r _ n h2⟩
theorem st_len : ∀ (l : List Nat) (b : Bool) (p : Nat), (st b p l).length ≤ l.length
  | [], _, _ => Nat.le_refl _
  | c :: r, b, p => by
    have := st_len r (c == 10) (p + 1)
    show ((if b = true ∧ c ≠ 32 ∧ c ≠ 10 then [p] else []) ++ st (c == 10) (p + 1) r).length ≤ r.length + 1
    rw [List.length_append]
    split <;> simp <;> omega
theorem st_lt : ∀ (l : List Nat) (b : Bool) (p : Nat), ∀ x ∈ st b p l, p ≤ x ∧ x < p + l.length
  | [], _, _, _, h => nomatch h
  | c :: r, b, p, x, h => by
    rw [List.length_cons]
    rcases List.mem_append.mp (show x ∈ (if b = true ∧ c ≠ 32 ∧ c ≠ 10 then [p] else []) ++ st (c == 10) (p + 1) r from h) with h | h
    · split at h
      · rw [List.mem_singleton.mp h]; omega
      · cases h
    · have := st_lt r (c == 10) (p + 1) x h; omega
/-- one sign more -/
theorem st_snoc {l : List Nat} {i c : Nat} (h : l[i]? = some c) : st true 0 (l.take (i + 1)) = st true 0 (l.take i) ++ if ln true (l.take i) = true ∧ c ≠ 32 ∧ c ≠ 10 then [i] else [] := by
  have hi : i < l.length := (List.getElem?_eq_some_iff.mp h).1
  rw [List.take_add_one, h, st_app]
  show _ ++ ((if _ then [0 + (l.take i).length] else []) ++ []) = _
  rw [List.append_nil, List.length_take, Nat.zero_add, Nat.min_eq_left (by omega)]
theorem ln_at {l : List Nat} {i c : Nat} (h : l[i]? = some c) : ln true (l.take (i + 1)) = (c == 10) := by
  rw [List.take_add_one, h, ln_app]
  rfl
theorem sz_n {n : Nat} (h : n ≤ 1000000) : n ≤ sizeLine := Nat.le_of_lt (Nat.lt_of_le_of_lt h (by decide))
theorem sz_lt {n : Nat} (h : n ≤ 1000000) : n < sizeLine := Nat.lt_of_le_of_lt h (by decide)
def natD (n : Nat) : PyData := .int (n : Int)
def R_starts (ds es : List PyData) : Prop := ∃ l : List Nat, ds = [.str (tX l)] ∧ l.length ≤ 1000000 ∧ es = (st true 0 l).map natD
section
variable {P : Program} {w : World} {K : PySem.W.Frag} {mg : Str → Option Value} {base : Heap}
theorem fo_line_starts (T : Tx K mg) {fd : FuncData} (F : FunD K "line_starts" "line_starts" (defArgs s_line_starts) (defBody s_line_starts) (defScope s_line_starts) [] [] (He.fAd K ("line_starts", none)) fd)   : FnOk P w K mg base CX0 1 (He.fAd K ("line_starts", none)) fd ["text"] (spL R_starts) := by
  refine F.ok sc_line_starts (fun vs H Q E h => ?len) (fun cdv A outer s H vs Q E hr h => ?read)
  case len =>
    obtain ⟨G, ds, d, _, hd, ⟨l, rfl, _⟩, _⟩ := h
    exact da_len hd
  case read =>
    refine ⟨_, PSs.nox (pss_cons (ps_set (i := 1) sc_line_starts.nd rfl (by first | exact Or.inl rfl | exact Or.inr rfl) (pe_lst pa_nil))
      (pss_cons (ps_for PassesOwn.never rfl (pi_range1 (by rfl) T.f_range (pa_cons (pe_callB cl_len (by rfl) T.f_len (by decide +kernel) (pa_cons (pv 0) pa_nil)) pa_nil)) (pg_name (i := 2) sc_line_starts.nd rfl (by first | exact Or.inl rfl | exact Or.inr rfl))
      (pss_one (ps_if (PW.pt (pw_and (pt_cmpR (op_notAmong (u65 hr)) (pe_ix ix_seq (pv 0) (pv 2) (fun _ _ => rfl)) (pe_tup (pa_cons pe_str (pa_cons pe_str pa_nil))) (by rfl)) (pw_and1 (PW.pt (pw_or (pt_cmpR (op_same hr.units) (pv 2) pe_int (nomark _)) (pw_or1 (pt_cmpR (op_same hr.units) (pe_ix ix_seq (pv 0) (pe_op op_minus (pv 2) pe_int) (fun _ _ => rfl)) pe_str (nomark _)))))))) (pss_one (ps_expr (pe_bm PySem.F.plainAttrs_list PySem.F.slot_list_append PySem.F.type_list_append mt_append (pv 1) (pa_cons (pv 2) pa_nil)))) pss_nil)))
      (pss_one (ps_ret (pv 1))))), ?_⟩
    obtain ⟨G, ds, d, s0, hd, ⟨l, rfl, hl, rfl⟩, ret⟩ := h
    have S : ST G H NoL [] [.val (.str (tX l)), .any, .any] [] G (L2.start n_line_starts vs) H := ST.start (N := n_line_starts) s0 hd
    walk_at "st"
    refine c_newL S .nil (Nat.zero_le _) (fun p H1 S p0 _ => ?_)
    refine c_set S (fun σ1 S => ?_)
    walk_at "st"
    refine c_lenX (sz_n hl) ?_
    walk_at "st"
    refine c_r1 (by omega) (by omega) ?_
    refine c_forR (fun i G' σ' H' => ST G H NoL [] [.val (.str (tX l)), .val (.ref p), .any] [As.lst p ((st true 0 (l.take i)).map natD)] G' σ' H')
      (S.le (by walk_at "le")) ?_ ?_
    · rintro i G' σ' H' hi S
      have hi : i < l.length := by omega
      have e : l[i]? = some l[i] := by simp [hi]
      have hsn := st_snoc e
      have hlen := st_len (l.take i) true 0
      rw [List.length_take] at hlen
      generalize hc : l[i] = c at e hsn
      have no : ¬ (ln true (l.take i) = true ∧ c ≠ 32 ∧ c ≠ 10) → st true 0 (l.take (i + 1)) = st true 0 (l.take i) := fun h => by rw [hsn, if_neg h, List.append_nil]
      have yes : ln true (l.take i) = true → c ≠ 32 ∧ c ≠ 10 → (st true 0 (l.take (i + 1))).map natD = (st true 0 (l.take i)).map natD ++ [natD i] := fun h h2 => by
        rw [hsn, if_pos ⟨h, h2⟩, List.map_append]; rfl
      walk_at "st"
      refine c_ixX (k := i) (sz_n hl) e (.inl ⟨by omega, by omega⟩) ?_
      walk_at "st"
      rename_i S
      refine c_mkRaw S (by show 2 ≤ sizeLine; decide) (fun q H2 S g eq => ?_)
      refine c_notAmong (cs := [32, 10]) (by rw [eq]; rfl) ?_
      walk_at "st"
      refine c_iteN (fun hn => ?_) (fun hn => ?_)
      · have h2 : c ≠ 32 ∧ c ≠ 10 := by simpa using hn
        walk_at "st"
        refine c_ite (fun h0 => ?_) (fun h0 => ?_)
        · have i0 : i = 0 := by omega
          walk_at "st"
          refine iteT ?_
          walk_at "st"
          refine ⟨c_tyM S, ?_⟩
          walk_at "st"
          refine c_append S (.int _) (by rw [List.length_map]; exact sz_lt (by omega)) (fun H3 S => ?_)
          refine ⟨G', ?_⟩
          rw [yes (by rw [i0]; rfl) h2]
          have S : ST G H NoL [] _ [As.lst p ((st true 0 (l.take i)).map natD ++ [.int (0 + (i : Int))])] G' _ H3 := S
          rw [Int.zero_add] at S
          exact S.le (by walk_at "le")
        · obtain ⟨j, rfl⟩ : ∃ j, i = j + 1 := ⟨i - 1, by omega⟩
          have e2 : l[j]? = some l[j] := by simp [show j < l.length by omega]
          have hln := ln_at e2
          generalize hc2 : l[j] = c2 at e2 hln
          walk_at "st"
          refine c_ixX (k := j) (sz_n hl) e2 (.inl ⟨by omega, by omega⟩) ?_
          refine c_sameS ?_
          walk_at "st"
          refine c_ite (fun h10 => ?_) (fun h10 => ?_)
          · have h10 : c2 = 10 := by
              have := tx_inj (a := [c2]) (b := [10]) h10
              exact (List.cons.inj this).1
            walk_at "st"
            refine ⟨c_tyM S, ?_⟩
            walk_at "st"
            refine c_append S (.int _) (by rw [List.length_map]; exact sz_lt (by omega)) (fun H3 S => ?_)
            refine ⟨G', ?_⟩
            rw [yes (by rw [hln, h10]; rfl) h2]
            have S : ST G H NoL [] _ [As.lst p ((st true 0 (l.take (j + 1))).map natD ++ [.int (0 + ((j + 1 : Nat) : Int))])] G' _ H3 := S
            rw [Int.zero_add] at S
            exact S.le (by walk_at "le")
          · walk_at "st"
            refine ⟨G', ?_⟩
            rw [no]
            · exact S.le (by walk_at "le")
            · rintro ⟨z, _⟩
              rw [hln] at z
              exact h10 (by rw [eq_of_beq z]; rfl)
      · refine iteF ?_
        walk_at "st"
        refine ⟨G', ?_⟩
        rw [no]
        · exact S.le (by walk_at "le")
        · rintro ⟨_, z1, z2⟩
          rcases List.mem_cons.mp hn with z | z
          · exact z1 z
          · exact z2 (List.mem_singleton.mp z)
    · rintro G' σ' H' S
      walk_at "st"
      have e : ((l.length : Nat) : Int).toNat = l.length := Int.toNat_natCast _
      rw [e, List.take_length] at S
      exact ret_L S p0 ret
theorem ok_line_starts (T : Tx K mg) (c : He.SaysD fas fns K)  : OkF P w K mg base CX0 ("line_starts", none) ["text"] 1 (spL R_starts) := by
  obtain ⟨fd, F⟩ := c.def_ 0 (d := d_line_starts) rfl
  exact ⟨fd, fo_line_starts T F , F.kp, F.bindsN fun _ _ _ _ _ _ us hl => match us, hl with | [_], _ => rfl⟩
end
def cutsOf (l : List Nat) : List (Nat × Nat) := (st true 0 l).zip ((st true 0 l).drop 1 ++ [l.length])
def chD (l : List Nat) (q : Nat × Nat) : PyData := .tuple [natD q.1, .str (tX ((l.take q.2).drop q.1))]
def R_chunks (ds es : List PyData) : Prop := ∃ l : List Nat, ds = [.str (tX l)] ∧ l.length ≤ 1000000 ∧ es = (cutsOf l).map (chD l)
theorem cuts_ok {l : List Nat} {i : Nat} {q : Nat × Nat} (h : (cutsOf l)[i]? = some q) : q.1 ≤ l.length ∧ q.2 ≤ l.length := by
  have hm := List.mem_of_getElem? h
  obtain ⟨a, b⟩ := q
  obtain ⟨h1, h2⟩ := List.of_mem_zip hm
  have z1 := st_lt l true 0 a h1
  refine ⟨by show a ≤ _; omega, ?_⟩
  show b ≤ _
  rcases List.mem_append.mp h2 with h2 | h2
  · have z2 := st_lt l true 0 b (List.mem_of_mem_drop h2); omega
  · rw [List.mem_singleton.mp h2]; exact Nat.le_refl _
section
variable {P : Program} {w : World} {K : PySem.W.Frag} {mg : Str → Option Value} {base : Heap}
theorem fo_chunks (T : Tx K mg) {fd : FuncData} (F : FunD K "chunks" "chunks" (defArgs s_chunks) (defBody s_chunks) (defScope s_chunks) [] [] (He.fAd K ("chunks", none)) fd) (h_line_starts : OkF P w K mg base CX0 ("line_starts", none) ["text"] 1 (spL R_starts))  : FnOk P w K mg base CX0 2 (He.fAd K ("chunks", none)) fd ["text"] (spL R_chunks) := by
  obtain ⟨fd_line_starts, G_line_starts, kp_line_starts, b_line_starts⟩ := h_line_starts
  refine F.ok sc_chunks (fun vs H Q E h => ?len) (fun cdv A outer s H vs Q E hr h => ?read)
  case len =>
    obtain ⟨G, ds, d, _, hd, ⟨l, rfl, _⟩, _⟩ := h
    exact da_len hd
  case read =>
    refine ⟨_, PSs.nox (pss_cons (ps_set (i := 1) sc_chunks.nd rfl (by first | exact Or.inl rfl | exact Or.inr rfl) (pe_call G_line_starts (hr.mono (by decide)) (by rfl) T.g_line_starts kp_line_starts b_line_starts .nil pass0 (pa_cons (pv 0) pa_nil)))
      (pss_cons (ps_set (i := 2) sc_chunks.nd rfl (by first | exact Or.inl rfl | exact Or.inr rfl) (pe_op op_plus (pe_slice sl_any (pv 1) (po_some pe_int) po_none) (pe_lst (pa_cons (pe_callB cl_len (by rfl) T.f_len (by decide +kernel) (pa_cons (pv 0) pa_nil)) pa_nil))))
      (pss_one (ps_ret (pe_lc (own := [("start", 3), ("end", 4)]) (g := gTup K 2 (gCons (gName 3) (gCons (gName 4) gNil))) (tt := tYes) rfl sc_chunks.nd (pi_zip (by rfl) T.f_zip (pa_cons (pv 1) (pa_cons (pv 2) pa_nil))) (blkOk_by (own := [("start", 3), ("end", 4)]) (N := n_chunks) (sc := defScope s_chunks) (by decide +kernel)) (fun _ _ _ _ _ => (pg_tup rfl (pgs_cons (pg_name (i := 3) sc_chunks.nd rfl (by first | exact Or.inl rfl | exact Or.inr rfl)) (pgs_cons (pg_name (i := 4) sc_chunks.nd rfl (by first | exact Or.inl rfl | exact Or.inr rfl)) pgs_nil)))) (fun _ _ _ _ _ => pts_nil) (fun _ _ _ _ _ => (pe_tup (pa_cons (pv 3) (pa_cons (pe_slice (sl_anyK (K := K) rfl) (pv 0) (po_some (pv 3)) (po_some (pv 4))) pa_nil))))))))), ?_⟩
    obtain ⟨G, ds, d, s0, hd, ⟨l, rfl, hl, rfl⟩, ret⟩ := h
    have S : ST G H NoL [] [.val (.str (tX l)), .any, .any, .any, .any] [] G (L2.start n_chunks vs) H := ST.start (N := n_chunks) s0 hd
    have hlen := st_len l true 0
    walk_at "st"
    refine c_callLf S (by walk_at "da") ⟨l, rfl, hl, rfl⟩ (fun v1 G1 H1 S _ hv1 => ?_)
    refine c_setD S hv1 (fun σ1 S => ?_)
    walk_at "st"
    rename_i w1 hw1
    refine c_slL (lo := some ((1 : Nat) : Int)) (hi := none) hw1 S (fun v2 G2 H2 S _ hv2 => ?_)
    rw [cutD_from] at hv2
    walk_at "st"
    refine c_lenX (sz_n hl) ?_
    walk_at "st"
    refine c_mkL S (.cons (.int l.length) .nil) (by show 1 ≤ sizeLine; decide) (fun v3 G3 H3 S g3 hv3 => ?_)
    refine c_plusL (hv2.mono g3.g) hv3 S (by rw [List.length_drop, List.length_map]; exact sz_n (by show (st true 0 l).length - 1 + 1 ≤ _; omega)) (fun v4 G4 H4 S _ hv4 => ?_)
    have e4 : ((st true 0 l).map natD).drop 1 ++ [PyData.int (l.length : Nat)] = ((st true 0 l).drop 1 ++ [l.length]).map natD := by
      rw [List.map_append, List.map_drop]; rfl
    rw [e4] at hv4
    refine c_setD S hv4 (fun σ2 S => ?_)
    walk_at "st"
    refine c_iZip ?_
    walk_at "st"
    rename_i wa hwa wb hwb
    refine c_iZ hwa hwb S.same (fun a b ea eb => ?_)
    subst ea
    subst eb
    intro D hD
    refine c_compZ (fun i acc => acc = ((cutsOf l).take i).map (chD l)) S hwa hwb hD rfl ?_ ?_
    · rintro i d e y acc G' H' hd he hy rfl S
      rw [List.getElem?_map] at hd he
      obtain ⟨a1, ha1, rfl⟩ := Option.map_eq_some_iff.mp hd
      obtain ⟨b1, hb1, rfl⟩ := Option.map_eq_some_iff.mp he
      have hq : (cutsOf l)[i]? = some (a1, b1) := List.getElem?_zip_eq_some.mpr ⟨ha1, hb1⟩
      obtain ⟨k1, k2⟩ := cuts_ok hq
      have hlt : (cutsOf l).length ≤ 1000000 := by
        show ((st true 0 l).zip _).length ≤ _
        rw [List.length_zip]
        omega
      refine c_gtup2 hy S.same (fun x1 x2 h1 h2 => ?_)
      cases h1
      cases h2
      refine c_gcons (c_setc S (fun S => ?_))
      refine c_gcons (c_setc S (fun S => ?_))
      refine c_gnil ?_
      refine ⟨by walk_at "wp", ?_⟩
      walk_at "st"
      refine iteT ?_
      walk_at "st"
      refine c_slX (sz_n hl) k1 k2 ?_
      walk_at "st"
      refine c_mkT S (.cons (.int _) (.cons (.str _) .nil)) (by show 2 ≤ sizeLine; decide) (fun v5 G5 H5 S _ hv5 => ?_)
      refine c_lcItem S hv5 (by rw [List.length_map, List.length_take]; exact sz_lt (by omega)) (fun H6 S => ?_)
      refine ⟨G5, _, ?_, (S.wipe' (by walk_at "wp")).le (by walk_at "le")⟩
      rw [List.take_add_one, hq, List.map_append]
      rfl
    · rintro G' H' acc sg hI S p0
      have e : min ((st true 0 l).map natD).length (((st true 0 l).drop 1 ++ [l.length]).map natD).length = (cutsOf l).length := by
        rw [List.length_map, List.length_map]
        exact List.length_zip.symm
      rw [e, List.take_length] at hI
      subst hI
      exact ret_L S p0 ret
theorem ok_chunks (T : Tx K mg) (c : He.SaysD fas fns K) (h_line_starts : OkF P w K mg base CX0 ("line_starts", none) ["text"] 1 (spL R_starts)) : OkF P w K mg base CX0 ("chunks", none) ["text"] 2 (spL R_chunks) := by
  obtain ⟨fd, F⟩ := c.def_ 1 (d := d_chunks) rfl
  exact ⟨fd, fo_chunks T F h_line_starts, F.kp, F.bindsN fun _ _ _ _ _ _ us hl => match us, hl with | [_], _ => rfl⟩
end
/-! ### the signs of a text -/
def chA : Str := " '!\"#$&()*+,-./0123456789:;<=>?@ABCDEFGHIJKLMNOPQRSTUVWXYZ[\\]^_`"
def chB : Str := "abcdefghijklmnopqrstuvwxyz{|}~\n"
def chs : List Nat := (chA ++ chB).cps.toList
theorem chs_len : chs.length = 95 := by decide +kernel
theorem chs_all : ∀ k : Fin 95, (k.val < 94 → chs.getD k.val 0 ≠ 10) ∧ (0 < k.val → chs.getD k.val 0 ≠ 32) := by decide +kernel
theorem chs_at {k : Nat} (h : k < 95) : (k < 94 → chs.getD k 0 ≠ 10) ∧ (0 < k → chs.getD k 0 ≠ 32) := chs_all ⟨k, h⟩
theorem chs_get {k : Nat} (h : k < 95) : chs[k]? = some (chs.getD k 0) := by
  have h2 : k < chs.length := by rw [chs_len]; exact h
  simp [List.getD, h2]
def R_char (ds : List PyData) (d : PyData) : Prop := ∃ i : Int, ds = [.int i] ∧ 0 ≤ i ∧ i < 95 ∧ d = .str (tX [chs.getD i.toNat 0])
section
variable {P : Program} {w : World} {K : PySem.W.Frag} {mg : Str → Option Value} {base : Heap}
theorem fo_l_char (T : Tx K mg) {fd : FuncData} (F : FunD K "_law_char" "_law_char" (defArgs s_l_char) (defBody s_l_char) (defScope s_l_char) [] [] (He.fAd K ("_law_char", none)) fd)   : FnOk P w K mg base CX0 1 (He.fAd K ("_law_char", none)) fd ["index"] (spP R_char) := by
  refine F.ok sc_l_char (fun vs H Q E h => ?len) (fun cdv A outer s H vs Q E hr h => ?read)
  case len =>
    obtain ⟨G, ds, d, _, hd, ⟨i, rfl, _⟩, _⟩ := h
    exact da_len hd
  case read =>
    refine ⟨_, PSs.nox (pss_cons (ps_set (i := 1) sc_l_char.nd rfl (by first | exact Or.inl rfl | exact Or.inr rfl) pe_str)
      (pss_cons (ps_set (i := 1) sc_l_char.nd rfl (by first | exact Or.inl rfl | exact Or.inr rfl) (pe_op op_plus (pv 1) pe_str))
      (pss_one (ps_ret (pe_ix ix_seq (pv 1) (pe_op op_rem (pe_callTy cl_int (by rfl) T.f_int (by decide +kernel) (pa_cons (pv 0) pa_nil)) pe_int) (fun _ _ => rfl)))))), ?_⟩
    obtain ⟨G, ds, d, s0, hd, ⟨i, rfl, h0, h1, rfl⟩, ret⟩ := h
    have S : ST G H NoL [] [.val (.int i), .any] [] G (L2.start n_l_char vs) H := ST.start (N := n_l_char) s0 hd
    walk_at "st"
    refine c_plusS (by decide +kernel) ?_
    walk_at "st"
    have e : i % 95 = i := Int.emod_eq_of_lt h0 h1
    rw [e]
    refine c_ixS (z := chA ++ chB) (by decide +kernel) (chs_get (show i.toNat < 95 by omega)) (.inl ⟨h0, rfl⟩) ?_
    exact ret_P (by assumption) (.str _) ret
theorem ok_l_char (T : Tx K mg) (c : He.SaysD fas fns K)  : OkF P w K mg base CX0 ("_law_char", none) ["index"] 1 (spP R_char) := by
  obtain ⟨fd, F⟩ := c.def_ 4 (d := d_l_char) rfl
  exact ⟨fd, fo_l_char T F , F.kp, F.bindsN fun _ _ _ _ _ _ us hl => match us, hl with | [_], _ => rfl⟩
end
theorem four {r : Int} (h0 : 0 ≤ r) (h1 : r < 4) : ∃ lim : Int, ([.int 9, .int 9, .int 9, .int 90] : List PyData)[r.toNat]? = some (.int lim) ∧ 0 < lim ∧ lim ≤ 90 := by
  have : r = 0 ∨ r = 1 ∨ r = 2 ∨ r = 3 := by omega
  rcases this with rfl | rfl | rfl | rfl
  · exact ⟨9, rfl, by decide, by decide⟩
  · exact ⟨9, rfl, by decide, by decide⟩
  · exact ⟨9, rfl, by decide, by decide⟩
  · exact ⟨90, rfl, by decide, by decide⟩
theorem two {r : Int} (h0 : 0 ≤ r) (h1 : r < 2) : ∃ lim : Int, ([.int 4, .int 9] : List PyData)[r.toNat]? = some (.int lim) ∧ 0 < lim ∧ lim ≤ 9 := by
  have : r = 0 ∨ r = 1 := by omega
  rcases this with rfl | rfl
  · exact ⟨4, rfl, by decide, by decide⟩
  · exact ⟨9, rfl, by decide, by decide⟩
def LineOk (l : List Nat) : Prop := l.length ≤ 89 ∧ ∀ c ∈ l, c ≠ 10
def R_line (ds : List PyData) (D : PyData → Prop) : Prop := ds = [] ∧ D = fun d => ∃ l, d = .str (tX l) ∧ LineOk l
section
variable {P : Program} {w : World} {K : PySem.W.Frag} {mg : Str → Option Value} {base : Heap}
theorem fo_l_line (T : Tx K mg) {fd : FuncData} (F : FunD K "_law_line" "_law_line" (defArgs s_l_line) (defBody s_l_line) (defScope s_l_line) [] [] (He.fAd K ("_law_line", none)) fd) (h_l_next : OkF P w K mg base CX0 ("_law_next", none) ["state", "limit"] 1 (spB R_next)) (h_l_char : OkF P w K mg base CX0 ("_law_char", none) ["index"] 1 (spP R_char))  : FnOk P w K mg base CX0 2 (He.fAd K ("_law_line", none)) fd ["state"] (spB R_line) := by
  obtain ⟨fd_l_next, G_l_next, kp_l_next, b_l_next⟩ := h_l_next
  obtain ⟨fd_l_char, G_l_char, kp_l_char, b_l_char⟩ := h_l_char
  refine F.ok sc_l_line (fun vs H Q E h => ?len) (fun cdv A outer s H vs Q E hr h => ?read)
  case len =>
    obtain ⟨G, s, rest, ds, D, rfl, _, _, hd, ⟨rfl, _⟩, _⟩ := h
    show rest.length + 1 = 1
    rw [da_len hd]; rfl
  case read =>
    refine ⟨_, PSs.nox (pss_cons (ps_set (i := 1) sc_l_line.nd rfl (by first | exact Or.inl rfl | exact Or.inr rfl) pe_str)
      (pss_cons (ps_for PassesOwn.never rfl (pi_range1 (by rfl) T.f_range (pa_cons (pe_call G_l_next (hr.mono (by decide)) (by rfl) T.g_l_next kp_l_next b_l_next .nil pass0 (pa_cons (pv 0) (pa_cons (pe_ix ix_seq (pe_lst (pa_cons pe_int (pa_cons pe_int (pa_cons pe_int (pa_cons pe_int pa_nil))))) (pe_call G_l_next (hr.mono (by decide)) (by rfl) T.g_l_next kp_l_next b_l_next .nil pass0 (pa_cons (pv 0) (pa_cons pe_int pa_nil))) (fun _ _ => rfl)) pa_nil))) pa_nil)) (pg_name (i := 2) sc_l_line.nd rfl (by first | exact Or.inl rfl | exact Or.inr rfl))
      (pss_one (ps_set (i := 1) sc_l_line.nd rfl (by first | exact Or.inl rfl | exact Or.inr rfl) (pe_op op_plus (pv 1) (pe_call G_l_char (hr.mono (by decide)) (by rfl) T.g_l_char kp_l_char b_l_char .nil pass0 (pa_cons (pe_call G_l_next (hr.mono (by decide)) (by rfl) T.g_l_next kp_l_next b_l_next .nil pass0 (pa_cons (pv 0) (pa_cons pe_int pa_nil))) pa_nil))))))
      (pss_one (ps_ret (pv 1))))), ?_⟩
    obtain ⟨G, s, rest, ds, D, rfl, s0, hA, hd, ⟨rfl, rfl⟩, ret⟩ := h
    cases da_nil hd
    have S : ST G H (DrB s).fp [] [.val (.ref s), .any, .any] [DrB s] G (L2.start n_l_line [.ref s]) H :=
      ST.start1 (N := n_l_line) (ρ := [.val (.ref s)]) (A := DrB s) s0 ⟨rfl, True.intro⟩ hA
    walk_at "st"
    refine c_mkL (by assumption) (.cons (.int 9) (.cons (.int 9) (.cons (.int 9) (.cons (.int 90) .nil)))) (by show 4 ≤ sizeLine; decide) (fun v1 G1 H1 S _ hv1 => ?_)
    walk_at "st"
    refine c_drawB S (by decide) (lim_small (by decide)) (fun r G2 H2 hr0 hr1 S sg => ?_)
    obtain ⟨lim, hlim, hl0, hl1⟩ := four hr0 hr1
    refine c_ixL (k := r.toNat) (hv1.mono sg) S.same hlim (.inl ⟨hr0, rfl⟩) (fun w hw => ?_)
    cases hw
    walk_at "st"
    refine c_drawB S hl0 (lim_small (by omega)) (fun n G3 H3 hn0 hn1 S _ => ?_)
    walk_at "st"
    refine c_r1 (by omega) (by omega) ?_
    refine c_forR (fun i G' σ' H' => ∃ l : List Nat, l.length = i ∧ (∀ c ∈ l, c ≠ 10) ∧ ST G H (DrB s).fp [] [.val (.ref s), .val (.str (tX l)), .any] [DrB s] G' σ' H')
      ⟨[], rfl, (fun _ h => nomatch h), S.le (by walk_at "le")⟩ ?_ ?_
    · rintro i G' σ' H' hi ⟨l, hl, hc, S⟩
      walk_at "st"
      refine c_drawB (by assumption) (by decide) (lim_small (by decide)) (fun r2 G4 H4 hr0 hr1 S _ => ?_)
      walk_at "st"
      refine c_callP S (by walk_at "da") ⟨r2, rfl, hr0, by omega, rfl⟩ (fun v G5 H5 S _ hv => ?_)
      cases hv
      refine c_plusX (sz_n (by show l.length + 1 ≤ _; omega)) ?_
      walk_at "st"
      refine ⟨_, l ++ [chs.getD r2.toNat 0], by rw [List.length_append, hl]; rfl, fun c h => ?_, ST.le (by assumption) (by walk_at "le")⟩
      rcases List.mem_append.mp h with h | h
      · exact hc c h
      · rw [List.mem_singleton.mp h]
        exact (chs_at (by omega)).1 (by omega)
    · rintro G' σ' H' ⟨l, hl, hc, S⟩
      walk_at "st"
      exact ret_B S ⟨l, rfl, by omega, hc⟩ (.str _) ret
theorem ok_l_line (T : Tx K mg) (c : He.SaysD fas fns K) (h_l_next : OkF P w K mg base CX0 ("_law_next", none) ["state", "limit"] 1 (spB R_next)) (h_l_char : OkF P w K mg base CX0 ("_law_char", none) ["index"] 1 (spP R_char)) : OkF P w K mg base CX0 ("_law_line", none) ["state"] 2 (spB R_line) := by
  obtain ⟨fd, F⟩ := c.def_ 5 (d := d_l_line) rfl
  exact ⟨fd, fo_l_line T F h_l_next h_l_char, F.kp, F.bindsN fun _ _ _ _ _ _ us hl => match us, hl with | [_], _ => rfl⟩
end
def LinesOk (n : Nat) (l : List Nat) : Prop := l.length ≤ 100 * n ∧ ns true l ∧ ln true l = true
def R_lines (ds : List PyData) (D : PyData → Prop) : Prop := ∃ n : Int, ds = [.int n] ∧ 0 ≤ n ∧ n < 9 ∧ D = fun d => ∃ l, d = .str (tX l) ∧ LinesOk n.toNat l
theorem lines_blank {n : Nat} {l m : List Nat} (h : LinesOk n l) (hm : LineOk m) : LinesOk (n + 1) (l ++ [32] ++ m ++ [10]) := by
  obtain ⟨h1, h2, h3⟩ := h
  obtain ⟨k1, k2⟩ := hm
  obtain ⟨a, b⟩ := ns_line m k2
  refine ⟨?_, ?_, ?_⟩
  · simp only [List.length_append, List.length_cons, List.length_nil]; omega
  · have e : l ++ [32] ++ m ++ [10] = l ++ (32 :: (m ++ [10])) := by simp
    rw [e]
    refine ns_app _ _ _ h2 ?_
    rw [h3]
    refine ⟨fun _ => .inl rfl, ns_app m false _ a ?_⟩
    rw [b]
    exact ⟨(fun z => nomatch z), True.intro⟩
  · rw [ln_app]; rfl
theorem lines_empty {n : Nat} {l : List Nat} (h : LinesOk n l) : LinesOk (n + 1) (l ++ [10]) := by
  obtain ⟨h1, h2, h3⟩ := h
  refine ⟨?_, ?_, ?_⟩
  · simp only [List.length_append, List.length_cons, List.length_nil]; omega
  · refine ns_app _ _ _ h2 ?_
    exact ⟨fun _ => .inr rfl, True.intro⟩
  · rw [ln_app]; rfl
section
variable {P : Program} {w : World} {K : PySem.W.Frag} {mg : Str → Option Value} {base : Heap}
theorem fo_l_lines (T : Tx K mg) {fd : FuncData} (F : FunD K "_law_lines" "_law_lines" (defArgs s_l_lines) (defBody s_l_lines) (defScope s_l_lines) [] [] (He.fAd K ("_law_lines", none)) fd) (h_l_next : OkF P w K mg base CX0 ("_law_next", none) ["state", "limit"] 1 (spB R_next)) (h_l_line : OkF P w K mg base CX0 ("_law_line", none) ["state"] 2 (spB R_line))  : FnOk P w K mg base CX0 3 (He.fAd K ("_law_lines", none)) fd ["state", "count"] (spB R_lines) := by
  obtain ⟨fd_l_next, G_l_next, kp_l_next, b_l_next⟩ := h_l_next
  obtain ⟨fd_l_line, G_l_line, kp_l_line, b_l_line⟩ := h_l_line
  refine F.ok sc_l_lines (fun vs H Q E h => ?len) (fun cdv A outer s H vs Q E hr h => ?read)
  case len =>
    obtain ⟨G, s, rest, ds, D, rfl, _, _, hd, ⟨n, rfl, _⟩, _⟩ := h
    show rest.length + 1 = 2
    rw [da_len hd]; rfl
  case read =>
    refine ⟨_, PSs.nox (pss_cons (ps_set (i := 2) sc_l_lines.nd rfl (by first | exact Or.inl rfl | exact Or.inr rfl) pe_str)
      (pss_cons (ps_for PassesOwn.never rfl (pi_range1 (by rfl) T.f_range (pa_cons (pv 1) pa_nil)) (pg_name (i := 3) sc_l_lines.nd rfl (by first | exact Or.inl rfl | exact Or.inr rfl))
      (pss_cons (ps_if (pt_cmpR op_gtI (pe_call G_l_next (hr.mono (by decide)) (by rfl) T.g_l_next kp_l_next b_l_next .nil pass0 (pa_cons (pv 0) (pa_cons pe_int pa_nil))) pe_int (nomark _)) (pss_one (ps_set (i := 2) sc_l_lines.nd rfl (by first | exact Or.inl rfl | exact Or.inr rfl) (pe_op op_plus (pe_op op_plus (pv 2) pe_str) (pe_call G_l_line (hr.mono (by decide)) (by rfl) T.g_l_line kp_l_line b_l_line .nil pass0 (pa_cons (pv 0) pa_nil))))) pss_nil)
      (pss_one (ps_set (i := 2) sc_l_lines.nd rfl (by first | exact Or.inl rfl | exact Or.inr rfl) (pe_op op_plus (pv 2) pe_str)))))
      (pss_one (ps_ret (pv 2))))), ?_⟩
    obtain ⟨G, s, rest, ds, D, rfl, s0, hA, hd, ⟨n, rfl, hn0, hn1, rfl⟩, ret⟩ := h
    obtain ⟨v0, r, rfl, h1, hd⟩ := da_cons hd
    cases da_nil hd
    cases h1
    have S : ST G H (DrB s).fp [] [.val (.ref s), .val (.int n), .any, .any] [DrB s] G (L2.start n_l_lines [.ref s, .int n]) H :=
      ST.start1 (N := n_l_lines) (ρ := [.val (.ref s), .val (.int n)]) (A := DrB s) s0 ⟨rfl, rfl, True.intro⟩ hA
    walk_at "st"
    refine c_r1 (by omega) (by omega) ?_
    refine c_forR (fun i G' σ' H' => ∃ l : List Nat, LinesOk i l ∧ ST G H (DrB s).fp [] [.val (.ref s), .val (.int n), .val (.str (tX l)), .any] [DrB s] G' σ' H')
      ⟨[], ⟨Nat.le_refl _, True.intro, rfl⟩, ST.le (by assumption) (by walk_at "le")⟩ ?_ ?_
    · rintro i G' σ' H' hi ⟨l, hl, S⟩
      have hi : i < 9 := by omega
      have hl1 := hl.1
      walk_at "sj"
      refine c_seqJ (fun σ' H' => ∃ G' m, (m = [] ∨ ∃ u, m = 32 :: u ∧ LineOk u) ∧ ST G H (DrB s).fp [] [.val (.ref s), .val (.int n), .val (.str (tX (l ++ m))), .any] [DrB s] G' σ' H') ?rest ?first
      case first =>
        intro J hJ
        walk_at "st"
        refine c_drawB (by assumption) (by decide) (lim_small (by decide)) (fun r2 G4 H4 hr0 hr1 S _ => ?_)
        walk_at "st"
        refine c_ite (fun _ => ?_) (fun _ => ?_)
        · walk_at "st"
          refine c_plusX (a := l) (b := [32]) (sz_n (by show l.length + 1 ≤ _; omega)) ?_
          walk_at "st"
          refine c_callB S .nil ⟨rfl, rfl⟩ (fun d x G5 H5 ⟨u, e, hu⟩ S _ hx => ?_)
          subst e
          cases hx
          have hu1 := hu.1
          refine c_plusX (sz_n (by rw [List.length_append]; show l.length + 1 + u.length ≤ _; omega)) ?_
          walk_at "st"
          refine hJ _ _ ⟨G5, 32 :: u, .inr ⟨u, rfl, hu⟩, ?_⟩
          have e : l ++ 32 :: u = l ++ [32] ++ u := by rw [List.append_assoc]; rfl
          rw [e]
          exact ST.le (by assumption) (by walk_at "le")
        · walk_at "st"
          refine hJ _ _ ⟨G4, [], .inl rfl, ?_⟩
          rw [List.append_nil]
          exact ST.le (by assumption) (by walk_at "le")
      case rest =>
        rintro σ2 H2 ⟨G2, m, hm, S⟩
        have hml : m.length ≤ 90 := by
          rcases hm with rfl | ⟨u, rfl, hu⟩
          · exact Nat.zero_le _
          · have := hu.1
            show u.length + 1 ≤ _; omega
        walk_at "st"
        refine c_plusX (a := l ++ m) (b := [10]) (sz_n (by rw [List.length_append]; show l.length + m.length + 1 ≤ _; omega)) ?_
        walk_at "st"
        refine ⟨_, l ++ m ++ [10], ?_, ST.le (by assumption) (by walk_at "le")⟩
        rcases hm with rfl | ⟨u, rfl, hu⟩
        · rw [List.append_nil]; exact lines_empty hl
        · have e : l ++ 32 :: u = l ++ [32] ++ u := by rw [List.append_assoc]; rfl
          rw [e]
          exact lines_blank hl hu
    · rintro G' σ' H' ⟨l, hl, S⟩
      walk_at "st"
      exact ret_B S ⟨l, rfl, hl⟩ (.str _) ret
theorem ok_l_lines (T : Tx K mg) (c : He.SaysD fas fns K) (h_l_next : OkF P w K mg base CX0 ("_law_next", none) ["state", "limit"] 1 (spB R_next)) (h_l_line : OkF P w K mg base CX0 ("_law_line", none) ["state"] 2 (spB R_line)) : OkF P w K mg base CX0 ("_law_lines", none) ["state", "count"] 3 (spB R_lines) := by
  obtain ⟨fd, F⟩ := c.def_ 6 (d := d_l_lines) rfl
  exact ⟨fd, fo_l_lines T F h_l_next h_l_line, F.kp, F.bindsN fun _ _ _ _ _ _ us hl => match us, hl with | [_, _], _ => rfl⟩
end
/-! ### what the law expects is what the chunks are -/
def eD (q : Nat × List Nat) : PyData := .tuple [natD q.1, .str (tX q.2)]
def places : Nat → List (Nat × List Nat) → Prop
  | _, [] => True
  | n, (p, c) :: r => p = n ∧ places (n + c.length) r
def glue (es : List (Nat × List Nat)) : List Nat := (es.map (·.2)).flatten
theorem glue_snoc (es : List (Nat × List Nat)) (p : Nat) (c : List Nat) : glue (es ++ [(p, c)]) = glue es ++ c := by
  unfold glue
  rw [List.map_append, List.flatten_append]
  simp
theorem places_snoc : ∀ (es : List (Nat × List Nat)) (n : Nat) (c : List Nat), places n es → places n (es ++ [(n + (glue es).length, c)])
  | [], n, c, _ => ⟨by show n + 0 = n; omega, True.intro⟩
  | (p, d) :: r, n, c, ⟨h1, h2⟩ => by
    refine ⟨h1, ?_⟩
    have := places_snoc r (n + d.length) c h2
    have e : n + (glue ((p, d) :: r)).length = n + d.length + (glue r).length := by
      show n + (d ++ glue r).length = _
      rw [List.length_append]; omega
    rw [e]
    exact this
theorem cut_mid (pre c r : List Nat) : ((pre ++ (c ++ r)).take (pre.length + c.length)).drop pre.length = c := by
  rw [← List.append_assoc, ← List.length_append, List.take_left, List.drop_left]
theorem cuts_eq : ∀ (es : List (Nat × List Nat)) (pre : List Nat), places pre.length es →
    ((es.map (·.1)).zip ((es.map (·.1)).drop 1 ++ [(pre ++ glue es).length])).map (chD (pre ++ glue es)) = es.map eD
  | [], _, _ => rfl
  | [(p, c)], pre, ⟨h1, _⟩ => by
    subst h1
    have e : glue [(pre.length, c)] = c ++ [] := by show c ++ [] = _; rfl
    rw [e]
    show [chD (pre ++ (c ++ [])) (pre.length, (pre ++ (c ++ [])).length)] = [eD (pre.length, c)]
    have e2 : (pre ++ (c ++ [])).length = pre.length + c.length := by rw [List.append_nil, List.length_append]
    unfold chD
    rw [e2]
    show [PyData.tuple [natD pre.length, .str (tX (((pre ++ (c ++ [])).take (pre.length + c.length)).drop pre.length))]] = _
    rw [cut_mid]
    rfl
  | (p, c) :: (p2, c2) :: r, pre, ⟨h1, h2⟩ => by
    subst h1
    obtain ⟨h3, h4⟩ := h2
    have ih := cuts_eq ((p2, c2) :: r) (pre ++ c) (by rw [List.length_append]; exact ⟨h3, h4⟩)
    have e : pre ++ c ++ glue ((p2, c2) :: r) = pre ++ glue ((pre.length, c) :: (p2, c2) :: r) := by
      rw [List.append_assoc]; rfl
    rw [e] at ih
    generalize hT : pre ++ glue ((pre.length, c) :: (p2, c2) :: r) = T at ih
    show chD T (pre.length, p2) :: (((p2, c2) :: r).map (·.1) |>.zip ((((p2, c2) :: r).map (·.1)).drop 1 ++ [T.length])).map (chD T) = eD (pre.length, c) :: ((p2, c2) :: r).map eD
    rw [ih]
    congr 1
    show PyData.tuple [natD pre.length, .str (tX ((T.take p2).drop pre.length))] = _
    have e2 : T = pre ++ (c ++ glue ((p2, c2) :: r)) := hT.symm
    rw [e2, h3, cut_mid]
    rfl
/-- a chunk: a first sign that is no blank, no start behind it -/
def ChOk (c : List Nat) : Prop := ∃ x r, c = x :: r ∧ x ≠ 32 ∧ x ≠ 10 ∧ ns false r
theorem st_chunk {c : List Nat} (h : ChOk c) (p : Nat) : st true p c = [p] := by
  obtain ⟨x, r, rfl, h1, h2, h3⟩ := h
  have e : (x == 10) = false := by rw [beq_eq_false_iff_ne]; exact h2
  show (if true = true ∧ x ≠ 32 ∧ x ≠ 10 then [p] else []) ++ st (x == 10) (p + 1) r = [p]
  rw [if_pos ⟨rfl, h1, h2⟩, e, st_ns r _ _ h3]
  rfl
theorem chunk_ok {x : Nat} {l m : List Nat} {n : Nat} (h1 : x ≠ 32) (h2 : x ≠ 10) (hl : LineOk l) (hm : LinesOk n m) : ChOk ([x] ++ l ++ [10] ++ m) ∧ ln true ([x] ++ l ++ [10] ++ m) = true := by
  obtain ⟨a, b⟩ := ns_line l hl.2
  refine ⟨⟨x, l ++ [10] ++ m, by simp, h1, h2, ?_⟩, ?_⟩
  · refine ns_app _ _ _ (ns_app _ _ _ a ?_) ?_
    · rw [b]; exact ⟨(fun z => nomatch z), True.intro⟩
    · rw [ln_app, b]; exact hm.2.1
  · rw [ln_app, ln_app]; exact hm.2.2
theorem chunk_cut {c : List Nat} (h : ChOk c) (hl : 1 < c.length) : ChOk (c.take (c.length - 1)) := by
  obtain ⟨x, r, rfl, h1, h2, h3⟩ := h
  have e : (x :: r).length - 1 = (r.length - 1) + 1 := by
    have : 1 < r.length + 1 := hl
    show r.length + 1 - 1 = _; omega
  rw [e]
  exact ⟨x, r.take (r.length - 1), rfl, h1, h2, ns_take r _ _ h3⟩
/-- all that is known of the text made so far -/
structure Made (B T : List Nat) (es : List (Nat × List Nat)) : Prop where
  t : T = B ++ glue es
  p : places B.length es
  s : st true 0 T = es.map (·.1)
theorem Made.more {B T c : List Nat} {es : List (Nat × List Nat)} (h : Made B T es) (hn : ln true T = true) (hc : ChOk c) : Made B (T ++ c) (es ++ [(T.length, c)]) := by
  refine ⟨by rw [glue_snoc, h.t, List.append_assoc], ?_, ?_⟩
  · have e : T.length = B.length + (glue es).length := by rw [h.t, List.length_append]
    rw [e]
    exact places_snoc _ _ _ h.p
  · rw [st_app, hn, st_chunk hc, h.s, List.map_append, Nat.zero_add]
    rfl
theorem Made.cuts {B T : List Nat} {es : List (Nat × List Nat)} (h : Made B T es) : (cutsOf T).map (chD T) = es.map eD := by
  unfold cutsOf
  rw [h.s, h.t]
  exact cuts_eq es B h.p
theorem fits_es {n : Nat} (es : List (Nat × List Nat)) (h : es.length < 2 ^ 60) : fits (n + 2) (.list (es.map eD)) :=
  ⟨by rw [List.length_map]; exact h, fun d hd => by
    obtain ⟨q, _, rfl⟩ := List.mem_map.mp hd
    exact ⟨by show 2 < 2 ^ 60; decide, fun x hx => by
      rcases List.mem_cons.mp hx with rfl | hx
      · exact fits_int
      · rw [List.mem_singleton.mp hx]; exact fits_str⟩⟩
def sp_law (K : PySem.W.Frag) : Sp := fun vs H Q _ => ∃ (a : Addr) (ns : List Int), vs = [.ref a] ∧ SqL K H a (ns.map V.int) ∧ ns.length ≤ 63 ∧ (∀ z ∈ ns, Builtin.Int.intBits z ≤ 1048576) ∧ ∀ H', Q (.bl true) H'
section
variable {P : Program} {w : World} {K : PySem.W.Frag} {mg : Str → Option Value} {base : Heap}
theorem fo_law (T : Tx K mg) {fd : FuncData} (F : FunD K "law" "law" (defArgs s_law) (defBody s_law) (defScope s_law) [] [] (He.fAd K ("law", none)) fd) (h_l_lines : OkF P w K mg base CX0 ("_law_lines", none) ["state", "count"] 3 (spB R_lines)) (h_l_next : OkF P w K mg base CX0 ("_law_next", none) ["state", "limit"] 1 (spB R_next)) (h_l_char : OkF P w K mg base CX0 ("_law_char", none) ["index"] 1 (spP R_char)) (h_l_line : OkF P w K mg base CX0 ("_law_line", none) ["state"] 2 (spB R_line)) (h_chunks : OkF P w K mg base CX0 ("chunks", none) ["text"] 2 (spL R_chunks)) (h_l_same : OkF P w K mg base CX0 ("_law_same", none) ["actual", "expected"] 8 (sp_same 8))  : FnOk P w K mg base CX0 9 (He.fAd K ("law", none)) fd ["script"] (sp_law K) := by
  obtain ⟨fd_l_lines, G_l_lines, kp_l_lines, b_l_lines⟩ := h_l_lines
  obtain ⟨fd_l_next, G_l_next, kp_l_next, b_l_next⟩ := h_l_next
  obtain ⟨fd_l_char, G_l_char, kp_l_char, b_l_char⟩ := h_l_char
  obtain ⟨fd_l_line, G_l_line, kp_l_line, b_l_line⟩ := h_l_line
  obtain ⟨fd_chunks, G_chunks, kp_chunks, b_chunks⟩ := h_chunks
  obtain ⟨fd_l_same, G_l_same, kp_l_same, b_l_same⟩ := h_l_same
  refine F.ok sc_law (fun vs H Q E h => ?len) (fun cdv A outer s H vs Q E hr h => ?read)
  case len =>
    obtain ⟨a, ns, rfl, _⟩ := h
    rfl
  case read =>
    refine ⟨_, PSs.nox (pss_cons (ps_set (i := 1) sc_law.nd rfl (by first | exact Or.inl rfl | exact Or.inr rfl) (pe_lst (pa_cons (pe_callTy cl_list (by rfl) T.f_list (by decide +kernel) (pa_cons (pv 0) pa_nil)) (pa_cons pe_int (pa_cons pe_int (pa_cons pe_int pa_nil))))))
      (pss_cons (ps_set (i := 2) sc_law.nd rfl (by first | exact Or.inl rfl | exact Or.inr rfl) (pe_call G_l_lines (hr.mono (by decide)) (by rfl) T.g_l_lines kp_l_lines b_l_lines .nil pass0 (pa_cons (pv 1) (pa_cons (pe_call G_l_next (hr.mono (by decide)) (by rfl) T.g_l_next kp_l_next b_l_next .nil pass0 (pa_cons (pv 1) (pa_cons pe_int pa_nil))) pa_nil))))
      (pss_cons (ps_set (i := 3) sc_law.nd rfl (by first | exact Or.inl rfl | exact Or.inr rfl) (pe_lst pa_nil))
      (pss_cons (ps_set (i := 4) sc_law.nd rfl (by first | exact Or.inl rfl | exact Or.inr rfl) (pv 2))
      (pss_cons (ps_set (i := 5) sc_law.nd rfl (by first | exact Or.inl rfl | exact Or.inr rfl) (pe_call G_l_next (hr.mono (by decide)) (by rfl) T.g_l_next kp_l_next b_l_next .nil pass0 (pa_cons (pv 1) (pa_cons pe_int pa_nil))))
      (pss_cons (ps_if (pt_cmpR (op_same hr.units) (pe_call G_l_next (hr.mono (by decide)) (by rfl) T.g_l_next kp_l_next b_l_next .nil pass0 (pa_cons (pv 1) (pa_cons pe_int pa_nil))) pe_int (nomark _)) (pss_one (ps_set (i := 5) sc_law.nd rfl (by first | exact Or.inl rfl | exact Or.inr rfl) (pe_op op_plus pe_int (pe_call G_l_next (hr.mono (by decide)) (by rfl) T.g_l_next kp_l_next b_l_next .nil pass0 (pa_cons (pv 1) (pa_cons pe_int pa_nil)))))) pss_nil)
      (pss_cons (ps_for PassesOwn.never rfl (pi_range1 (by rfl) T.f_range (pa_cons (pv 5) pa_nil)) (pg_name (i := 6) sc_law.nd rfl (by first | exact Or.inl rfl | exact Or.inr rfl))
      (pss_cons (ps_set (i := 7) sc_law.nd rfl (by first | exact Or.inl rfl | exact Or.inr rfl) (pe_op op_plus (pe_op op_plus (pe_op op_plus (pe_call G_l_char (hr.mono (by decide)) (by rfl) T.g_l_char kp_l_char b_l_char .nil pass0 (pa_cons (pe_op op_plus pe_int (pe_call G_l_next (hr.mono (by decide)) (by rfl) T.g_l_next kp_l_next b_l_next .nil pass0 (pa_cons (pv 1) (pa_cons pe_int pa_nil)))) pa_nil)) (pe_call G_l_line (hr.mono (by decide)) (by rfl) T.g_l_line kp_l_line b_l_line .nil pass0 (pa_cons (pv 1) pa_nil))) pe_str) (pe_call G_l_lines (hr.mono (by decide)) (by rfl) T.g_l_lines kp_l_lines b_l_lines .nil pass0 (pa_cons (pv 1) (pa_cons (pe_call G_l_next (hr.mono (by decide)) (by rfl) T.g_l_next kp_l_next b_l_next .nil pass0 (pa_cons (pv 1) (pa_cons (pe_ix ix_seq (pe_lst (pa_cons pe_int (pa_cons pe_int pa_nil))) (pe_call G_l_next (hr.mono (by decide)) (by rfl) T.g_l_next kp_l_next b_l_next .nil pass0 (pa_cons (pv 1) (pa_cons pe_int pa_nil))) (fun _ _ => rfl)) pa_nil))) pa_nil)))))
      (pss_cons (ps_if (PW.pt (pw_and (pt_cmpR (op_same hr.units) (pv 6) (pe_op op_minus (pv 5) pe_int) (nomark _)) (pw_and1 (pt_cmpR (op_same hr.units) (pe_call G_l_next (hr.mono (by decide)) (by rfl) T.g_l_next kp_l_next b_l_next .nil pass0 (pa_cons (pv 1) (pa_cons pe_int pa_nil))) pe_int (nomark _))))) (pss_one (ps_set (i := 7) sc_law.nd rfl (by first | exact Or.inl rfl | exact Or.inr rfl) (pe_slice sl_any (pv 7) po_none (po_some (pe_op op_minus (pe_callB cl_len (by rfl) T.f_len (by decide +kernel) (pa_cons (pv 7) pa_nil)) pe_int))))) pss_nil)
      (pss_cons (ps_expr (pe_bm PySem.F.plainAttrs_list PySem.F.slot_list_append PySem.F.type_list_append mt_append (pv 3) (pa_cons (pe_tup (pa_cons (pe_callB cl_len (by rfl) T.f_len (by decide +kernel) (pa_cons (pv 2) pa_nil)) (pa_cons (pv 7) pa_nil))) pa_nil)))
      (pss_one (ps_set (i := 2) sc_law.nd rfl (by first | exact Or.inl rfl | exact Or.inr rfl) (pe_op op_plus (pv 2) (pv 7))))))))
      (pss_cons (ps_set (i := 8) sc_law.nd rfl (by first | exact Or.inl rfl | exact Or.inr rfl) (pe_call G_chunks (hr.mono (by decide)) (by rfl) T.g_chunks kp_chunks b_chunks .nil pass0 (pa_cons (pv 2) pa_nil)))
      (pss_cons (ps_if (pt_not (pt_val (pe_call G_l_same (hr.mono (by decide)) (by rfl) T.g_l_same kp_l_same b_l_same .nil pass0 (pa_cons (pv 8) (pa_cons (pv 3) pa_nil))))) (pss_one (ps_ret pe_bl)) pss_nil)
      (pss_one (ps_ret (pe_cmpR (op_same hr.units) (pe_op op_plus (pv 4) (pe_join pe_str (pe_lc (own := [("position", 9), ("chunk", 7)]) (g := gTup K 2 (gCons (gName 9) (gCons (gName 7) gNil))) (tt := tYes) rfl sc_law.nd (pi_list (pv 8)) (blkOk_by (own := [("position", 9), ("chunk", 7)]) (N := n_law) (sc := defScope s_law) (by decide +kernel)) (fun _ _ _ _ _ => (pg_tup rfl (pgs_cons (pg_name (i := 9) sc_law.nd rfl (by first | exact Or.inl rfl | exact Or.inr rfl)) (pgs_cons (pg_name (i := 7) sc_law.nd rfl (by first | exact Or.inl rfl | exact Or.inr rfl)) pgs_nil)))) (fun _ _ _ _ _ => pts_nil) (fun _ _ _ _ _ => (pv 7))))) (pv 2) (nomark _))))))))))))), ?_⟩
    obtain ⟨a, ns, rfl, hq, hl, _, ret⟩ := h
    have S : ST (fun _ => none) H NoL [] [.val (.ref a), .any, .any, .any, .any, .any, .any, .any, .any, .any] [] (fun _ => none) (L2.start n_law [.ref a]) H := ST.startV (N := n_law) (vs := [.ref a]) (ρ := [.val (.ref a)]) (fun _ _ h => nomatch h) ⟨rfl, True.intro⟩
    walk_at "st"
    refine c_listQ (ds := ns.map .int) S hq (da_of_ints ns) (fun v1 G1 H1 S _ hv1 => ?_)
    walk_at "st"
    refine c_newL S (.cons hv1 (.cons (.int 0) (.cons (.int 0) (.cons (.int 1) .nil)))) (by show 4 ≤ sizeLine; decide) (fun st0 H2 S st00 _ => ?_)
    have S : ST (fun _ => none) H NoL [] _ [DrB st0] G1 _ H2 := S.step (Gx.rfl' S.same) ⟨ns, 0, 0, 1, ⟨hl, by decide, by decide, by decide, by decide⟩, S.head⟩ fun b hb => ⟨.inl hb, (S.hfp hb).1, (S.hfp hb).2.1⟩
    refine c_set S (fun σ2 S => ?_)
    walk_at "st"
    refine c_drawB (by assumption) (by decide) (lim_small (by decide)) (fun r1 G3 H3 h10 h11 S _ => ?_)
    walk_at "st"
    refine c_callB S (.cons (.int _) .nil) ⟨r1, rfl, h10, by omega, rfl⟩ (fun d x G4 H4 ⟨B, e, hB⟩ S _ hx => ?_)
    subst e
    cases hx
    have hB1 : B.length ≤ 300 := by
      have := hB.1
      omega
    walk_at "st"
    refine c_newL (by assumption) .nil (Nat.zero_le _) (fun q H5 S q0 _ => ?_)
    refine c_set S (fun σ3 S => ?_)
    walk_at "st"
    refine c_drawB (ST.swap (by assumption)) (by decide) (lim_small (by decide)) (fun r2 G6 H6 h20 h21 S _ => ?_)
    walk_at "sj"
    refine c_seqJ (fun σ' H' => ∃ G' n, 0 ≤ n ∧ n < 150 ∧ ST (fun _ => none) H NoL [] [.any, .val (.ref st0), .val (.str (tX B)), .val (.ref q), .val (.str (tX B)), .val (.int n), .any, .any, .any, .any] [DrB st0, As.lst q []] G' σ' H') ?rest ?first
    case first =>
      intro J hJ
      walk_at "st"
      refine c_drawB (by assumption) (by decide) (lim_small (by decide)) (fun r3 G7 H7 h30 h31 S _ => ?_)
      walk_at "st"
      refine c_ite (fun _ => ?_) (fun _ => ?_)
      · walk_at "st"
        refine c_drawB (by assumption) (by decide) (lim_small (by decide)) (fun r4 G8 H8 h40 h41 S _ => ?_)
        walk_at "st"
        exact hJ _ _ ⟨G8, 60 + r4, by omega, by omega, ST.le (by assumption) (by walk_at "le")⟩
      · walk_at "st"
        exact hJ _ _ ⟨G7, r2, by omega, by omega, ST.le (by assumption) (by walk_at "le")⟩
    case rest =>
      rintro σ4 H8 ⟨G8, n, hn0, hn1, S⟩
      walk_at "st"
      refine c_r1 (by omega) (by omega) ?_
      refine c_forR (fun i G' σ' H' => ∃ T es, ST (fun _ => none) H NoL [] [.any, .val (.ref st0), .val (.str (tX T)), .val (.ref q), .val (.str (tX B)), .val (.int n), .any, .any, .any, .any] [DrB st0, As.lst q (es.map eD)] G' σ' H' ∧
          Made B T es ∧ T.length ≤ 300 + 1000 * i ∧ es.length = i ∧ (i < n → ln true T = true))
        ⟨B, [], S.le (by walk_at "le"), ⟨by show B = B ++ []; rw [List.append_nil], True.intro, st_ns B _ _ hB.2.1⟩, by omega, rfl, fun _ => hB.2.2⟩ ?_ ?_
      · rintro i G' σ' H' hi ⟨T, es, S, hM, hT, he, hln⟩
        have hi : (i : Int) < n := by omega
        have hln := hln hi
        walk_at "st"
        refine c_drawB (by assumption) (by decide) (lim_small (by decide)) (fun r1 G1 H1 h10 h11 S _ => ?_)
        walk_at "st"
        refine c_callP S (by walk_at "da") ⟨1 + r1, rfl, by omega, by omega, rfl⟩ (fun v G2 H2 S _ hv => ?_)
        cases hv
        have hx := chs_at (k := (1 + r1).toNat) (by omega)
        have hx1 := hx.1 (by omega)
        have hx2 := hx.2 (by omega)
        generalize chs.getD (1 + r1).toNat 0 = x at hx1 hx2
        walk_at "st"
        refine c_callB S .nil ⟨rfl, rfl⟩ (fun d y G3 H3 ⟨u, e, hu⟩ S _ hy => ?_)
        subst e
        cases hy
        have hu1 := hu.1
        refine c_plusX (sz_n (by show 1 + u.length ≤ _; omega)) ?_
        walk_at "st"
        refine c_plusX (a := [x] ++ u) (b := [10]) (sz_n (by show u.length + 1 + 1 ≤ _; omega)) ?_
        walk_at "st"
        refine c_mkL S (.cons (.int 4) (.cons (.int 9) .nil)) (by show 2 ≤ sizeLine; decide) (fun v4 G4 H4 S _ hv4 => ?_)
        walk_at "st"
        refine c_drawB S (by decide) (lim_small (by decide)) (fun r2 G5 H5 h20 h21 S sg => ?_)
        obtain ⟨lim, hlim, hl0, hl1⟩ := two h20 h21
        refine c_ixL (k := r2.toNat) (hv4.mono sg) S.same hlim (.inl ⟨h20, rfl⟩) (fun w hw => ?_)
        cases hw
        walk_at "st"
        refine c_drawB S hl0 (lim_small (by omega)) (fun r3 G6 H6 h30 h31 S _ => ?_)
        walk_at "st"
        refine c_callB S (.cons (.int _) .nil) ⟨r3, rfl, h30, by omega, rfl⟩ (fun d z G7 H7 ⟨m, e, hm⟩ S _ hz => ?_)
        subst e
        cases hz
        have hm1 := hm.1
        obtain ⟨hc, hcl⟩ := chunk_ok hx2 hx1 hu hm
        have hcn : ([x] ++ u ++ [10] ++ m).length ≤ 1000 := by
          simp only [List.length_append, List.length_cons, List.length_nil]; omega
        have hc2 : 1 < ([x] ++ u ++ [10] ++ m).length := by
          simp only [List.length_append, List.length_cons, List.length_nil]; omega
        refine c_plusX (a := [x] ++ u ++ [10]) (b := m) (sz_n (by simp only [List.length_append, List.length_cons, List.length_nil]; omega)) ?_
        generalize [x] ++ u ++ [10] ++ m = c at hc hcl hcn hc2
        walk_at "sj"
        refine c_seqJ (fun σ' H' => ∃ G' c, ChOk c ∧ c.length ≤ 1000 ∧ ((i : Int) + 1 < n → ln true c = true) ∧ ST (fun _ => none) H NoL [] [.any, .val (.ref st0), .val (.str (tX T)), .val (.ref q), .val (.str (tX B)), .val (.int n), .any, .val (.str (tX c)), .any, .any] [DrB st0, As.lst q (es.map eD)] G' σ' H') ?rest2 ?first2
        case first2 =>
          intro J hJ
          walk_at "st"
          refine c_ite (fun hk => ?_) (fun hk => ?_)
          · walk_at "st"
            refine c_drawB (by assumption) (by decide) (lim_small (by decide)) (fun r4 G8 H8 h40 h41 S _ => ?_)
            walk_at "st"
            refine c_ite (fun _ => ?_) (fun _ => ?_)
            · walk_at "st"
              refine c_lenX (sz_n (by omega)) ?_
              walk_at "st"
              have e : (c.length : Int) - 1 = ((c.length - 1 : Nat) : Int) := by omega
              rw [e]
              refine c_slXto (sz_n (by omega)) (by omega) ?_
              walk_at "st"
              exact hJ _ _ ⟨G8, _, chunk_cut hc hc2, by rw [List.length_take]; omega, fun z => by omega, ST.le (by assumption) (by walk_at "le")⟩
            · walk_at "st"
              exact hJ _ _ ⟨G8, c, hc, hcn, fun _ => hcl, ST.le (by assumption) (by walk_at "le")⟩
          · refine iteF ?_
            walk_at "st"
            exact hJ _ _ ⟨G7, c, hc, hcn, fun _ => hcl, ST.le (by assumption) (by walk_at "le")⟩
        case rest2 =>
          rintro σ5 H9 ⟨G9, c, hc, hcn, hcl, S⟩
          walk_at "st"
          refine ⟨c_tyM S.swap, ?_⟩
          walk_at "st"
          refine c_lenX (sz_n (by omega)) ?_
          walk_at "st"
          refine c_mkT S (.cons (.int _) (.cons (.str _) .nil)) (by show 2 ≤ sizeLine; decide) (fun v5 G5 H5 S _ hv5 => ?_)
          walk_at "st"
          refine c_append S.swap hv5 (by rw [List.length_map]; exact sz_lt (by omega)) (fun H6 S => ?_)
          walk_at "st"
          refine c_plusX (sz_n (by omega)) ?_
          walk_at "st"
          refine ⟨G5, T ++ c, es ++ [(T.length, c)], ?_, hM.more hln hc, by rw [List.length_append]; omega, by rw [List.length_append, he]; rfl, fun z => ?_⟩
          · rw [List.map_append]
            exact (ST.swap (by assumption)).le (by walk_at "le")
          · rw [ln_app, hln]
            exact hcl (by omega)
      · rintro G' σ' H' ⟨T, es, S, hM, hT, he, _⟩
        have hT : T.length ≤ 200000 := by omega
        have hes : es.length ≤ 1000 := by omega
        walk_at "st"
        refine c_callLf S (by walk_at "da") ⟨T, rfl, by omega, rfl⟩ (fun v1 G1 H1 S _ hv1 => ?_)
        rw [hM.cuts] at hv1
        refine c_setD S hv1 (fun σ1 S => ?_)
        obtain ⟨G2, S, hf, sG⟩ := S.swap.freeze q0
        walk_at "st"
        rename_i w1 hw1
        refine c_callP S (.cons hw1 (.cons hf .nil)) ⟨7, _, rfl, rfl, fits_es es (by omega), rfl⟩ (fun v G3 H3 S _ hv => ?_)
        cases hv
        walk_at "st"
        refine iteF ?_
        walk_at "st"
        refine c_join ?_
        walk_at "st"
        refine c_joinT ?_
        walk_at "st"
        rename_i w2 hw2
        refine c_iL hw2 S.same (fun aa ea => ?_)
        subst ea
        intro D hD
        refine c_compL (fun i acc => acc = (es.take i).map fun q => .str (tX q.2)) S hw2 hD rfl ?_ ?_
        · rintro i d y acc G' H' hd hy rfl S
          rw [List.getElem?_map] at hd
          obtain ⟨⟨p1, c1⟩, hq1, rfl⟩ := Option.map_eq_some_iff.mp hd
          refine c_gtup2 hy S.same (fun x1 x2 h1 h2 => ?_)
          cases h1
          cases h2
          refine c_gcons (c_setc S (fun S => ?_))
          refine c_gcons (c_setc S (fun S => ?_))
          refine c_gnil ?_
          refine ⟨by walk_at "wp", ?_⟩
          walk_at "st"
          refine iteT ?_
          walk_at "st"
          refine c_lcItem S (.str _) (by rw [List.length_map, List.length_take]; exact sz_lt (by omega)) (fun H6 S => ?_)
          refine ⟨G', _, ?_, (S.wipe' (by walk_at "wp")).le (by walk_at "le")⟩
          rw [List.take_add_one, hq1, List.map_append]
          rfl
        · rintro G' H' acc sg rfl S p0
          obtain ⟨G4, S, hf4, _⟩ := S.freeze p0
          rw [List.length_map, List.take_length] at hf4
          have e4 : (es.map fun q => PyData.str (tX q.2)) = (es.map (·.2)).map fun l => .str (tX l) := by rw [List.map_map]; rfl
          rw [e4] at hf4
          have hgl : glue es = (es.map (·.2)).flatten := rfl
          have hTl : T.length = B.length + (glue es).length := by rw [hM.t, List.length_append]
          refine c_joinL hf4 S.same (by rw [← hgl]; omega) ?_
          rw [← hgl]
          refine c_plusX (sz_n (by omega)) ?_
          rw [← hM.t]
          walk_at "st"
          rw [decide_eq_true rfl]
          exact ret _
theorem ok_law (T : Tx K mg) (c : He.SaysD fas fns K) (h_l_lines : OkF P w K mg base CX0 ("_law_lines", none) ["state", "count"] 3 (spB R_lines)) (h_l_next : OkF P w K mg base CX0 ("_law_next", none) ["state", "limit"] 1 (spB R_next)) (h_l_char : OkF P w K mg base CX0 ("_law_char", none) ["index"] 1 (spP R_char)) (h_l_line : OkF P w K mg base CX0 ("_law_line", none) ["state"] 2 (spB R_line)) (h_chunks : OkF P w K mg base CX0 ("chunks", none) ["text"] 2 (spL R_chunks)) (h_l_same : OkF P w K mg base CX0 ("_law_same", none) ["actual", "expected"] 8 (sp_same 8)) : OkF P w K mg base CX0 ("law", none) ["script"] 9 (sp_law K) := by
  obtain ⟨fd, F⟩ := c.def_ 7 (d := d_law) rfl
  exact ⟨fd, fo_law T F h_l_lines h_l_next h_l_char h_l_line h_chunks h_l_same, F.kp, F.bindsN fun _ _ _ _ _ _ us hl => match us, hl with | [_], _ => rfl⟩
end
theorem facts {P : Program} {w : World} {K : PySem.W.Frag} {h : Heap} {mg : Str → Option Value} {f : Addr} (X : K.In h) (G : h.Ns mainGlobals mg) (hfa : mg ("law" : Str) = some (.ref f)) (c : He.SaysD fas fns K) :
    ∃ fd : FuncData, (∀ (s : Shared) (v : Value), BindsTo s fd ⟨[v], []⟩ [("script", v)]) ∧ ∀ base : Heap, K.In base → base.Ns mainGlobals mg → FnOk P w K mg base CX0 9 f fd ["script"] (sp_law K) := by
  have T := tx X G c
  obtain ⟨fd, F⟩ := c.def_ 7 (d := d_law) rfl
  have e := hfa.symm.trans T.g_law
  cases e
  have b := FunD.bindsA (ps := ["script"]) F fun _ _ _ _ _ _ us hl => match us, hl with | [_], _ => rfl
  refine ⟨fd, fun s v => b s [v] rfl, fun base _ _ => ?_⟩
  have o_line_starts := ok_line_starts (P := P) (w := w) (base := base) T c 
  have o_chunks := ok_chunks (P := P) (w := w) (base := base) T c o_line_starts
  have o_l_next := ok_l_next (P := P) (w := w) (base := base) T c 
  have o_l_same := ok_l_same (P := P) (w := w) (base := base) T c  8
  have o_l_char := ok_l_char (P := P) (w := w) (base := base) T c 
  have o_l_line := ok_l_line (P := P) (w := w) (base := base) T c o_l_next o_l_char
  have o_l_lines := ok_l_lines (P := P) (w := w) (base := base) T c o_l_next o_l_line
  exact fo_law T F o_l_lines o_l_next o_l_char o_l_line o_chunks o_l_same
abbrev R : PySem.W.OpenRow := PySem.W.OpenLaw.row PySem.Challenge.rw_heapwhole_k09_chunks_of_a_text
abbrev hk : PySem.W.Hook := He.hookD 5 fas fns
def ob (s : PySem.W.SharedT) : He.AlD := He.obsDG 5 fas fns (HandSHeadRun.getT s)
theorem ob_eq (s : PySem.W.SharedT) : ob s = hk.obs s.abs := He.obsDG_eq (HandSHeadRun.getT_eq s)
theorem run (w : World) : HandSHeadRun.RunEq R (PySem.W.view R.prog [9]) hk ob 3000 ["__name__", "line_starts", "chunks", "_law_next", "_law_same", "_law_char", "_law_line", "_law_lines"] w := by
  intro os
  kernel_rfl
end K09
open PySem PySem.W PySem.Calls PyProof.Rows
set_option maxRecDepth 100000 in
set_option maxHeartbeats 0 in
theorem PySem.Challenge.cw_heapwhole_k09_chunks_of_a_text_holds : PySem.Challenge.rw_heapwhole_k09_chunks_of_a_text.Holds := by
  w_on; o_law
  refine HandSHeadRun.head_any (r := OpenLaw.row PySem.Challenge.rw_heapwhole_k09_chunks_of_a_text) (q := view (OpenLaw.row PySem.Challenge.rw_heapwhole_k09_chunks_of_a_text).prog [9]) (H := K09.hk) (ob := K09.ob) (M := 3000) (loose := ["__name__", "line_starts", "chunks", "_law_next", "_law_same", "_law_char", "_law_line", "_law_lines"]) (d := HandSHeadRun.topDef (OpenLaw.row PySem.Challenge.rw_heapwhole_k09_chunks_of_a_text).prog 9) (kwd := []) K09.ob_eq
    (by kernel_rfl) (fun s => by kernel_rfl) K09.run (by kernel_rfl) (by kernel_rfl) (by kernel_rfl) (by rfl) (by first | assumption | decide +kernel) (by decide +kernel) ⟨rfl, rfl, rfl, rfl, rfl, by decide +kernel⟩ ?hw ?hc
  case hw => w_witness2
  case hc =>
    refine Hw.walk_bits (l := PySem.Challenge.rw_heapwhole_k09_chunks_of_a_text) (n := 63) (k := 9) (x := "script") (CX := L2.CX0) rfl (by decide) (by kernel_rfl) ⟨rfl, by decide, by decide⟩ ?F (fun _ _ _ _ z => z)
    intro w mg fa h Y G hmg0
    obtain ⟨K, KX, c⟩ := Y
    have hmg : mg ("law" : PySem.Str) = some (.ref fa) := by
      have e : (HandSHeadRun.topDef (OpenLaw.row PySem.Challenge.rw_heapwhole_k09_chunks_of_a_text).prog 9).name = ("law" : PySem.Str) := by kernel_rfl
      rw [← e]
      exact hmg0
    obtain ⟨fd, hb, hF⟩ := K09.facts (P := (PySem.Challenge.rw_heapwhole_k09_chunks_of_a_text).prog) (w := w) KX G hmg c
    exact ⟨K, fd, (K09.sp_law K), KX, hb, fun H a ns hl hb hO hS => ⟨a, ns, rfl, hS, hl, hb, fun _ => rfl⟩, hF⟩
#print axioms PySem.Challenge.cw_heapwhole_k09_chunks_of_a_text_holds
