import PyProof.Rows.All
import Wide.All
import OpenK.AllK
import Wide.FinOn
import HandS.ForMost
import HandS.Walk
import HandS.Wide
import HandS.Flow
import HandS.Style
import HandS.IsInst
import HandS.Deep
import HandS.TupAny
import HandS.More
import HandS.Head0
import HandS.Head1
import HandS.Head2
import HandS.HeadHook1
import HandS.HeadHook2
import HandS.Defaults
import HandS.EndBits
import HandS.NoneIn
import HandS.Codes
import HandS.Text
import HandS.Iter
import HandS.Exc
import HandS.ExcOwn
import HandS.TryOnly
import PySem.Challenge.RW_heapwhole_k11_records
set_option Elab.async false
set_option linter.all false
set_option maxRecDepth 100000
set_option maxHeartbeats 8000000
/-! Hw: a layer over HandS: two heaps, G (what is frozen and known) and H (what is); data by PyData; heaplets (As) for what is changed; the state ST. -/
namespace Hw
open PySem L2

/-! ### growth -/
structure Gx (L : Addr → Prop) (G H G' H' : Hp) : Prop where
  g : Same G G'
  h : ∀ b o, H b = some o → ¬ L b → H' b = some o
  s : Same G' H'
  ap : ∀ b, H b ≠ none → G b = none → G' b = none
  dom : ∀ b, H b ≠ none → H' b ≠ none
abbrev NoL : Addr → Prop := fun _ => False
abbrev Gr := Gx NoL
theorem Gx.rfl' {L : Addr → Prop} {G H : Hp} (s : Same G H) : Gx L G H G H :=
  ⟨Same.refl G, fun _ _ h _ => h, s, fun _ _ h => h, fun _ h => h⟩
theorem Gx.trans {L : Addr → Prop} {G H G1 H1 G2 H2 : Hp} (a : Gx L G H G1 H1) (b : Gx L G1 H1 G2 H2) : Gx L G H G2 H2 :=
  ⟨a.g.trans b.g, fun c o e n => b.h c o (a.h c o e n) n, b.s, fun c e n => b.ap c (a.dom c e) (a.ap c e n), fun c e => b.dom c (a.dom c e)⟩
theorem Gx.weak {L L' : Addr → Prop} {G H G' H' : Hp} (a : Gx L G H G' H') (w : ∀ b, L b → L' b) : Gx L' G H G' H' :=
  ⟨a.g, fun c o e n => a.h c o e fun z => n (w c z), a.s, a.ap, a.dom⟩
/-- a step that changes places which are new since the entry (or L's) -/
theorem Gx.then {L M : Addr → Prop} {G H G1 H1 G2 H2 : Hp} (a : Gx L G H G1 H1) (b : Gx M G1 H1 G2 H2) (w : ∀ c, M c → L c ∨ H c = none) : Gx L G H G2 H2 :=
  ⟨a.g.trans b.g, fun c o e n => b.h c o (a.h c o e n) (fun z => (w c z).elim n (fun q => absurd (e.symm.trans q) (fun y => nomatch y))), b.s,
    fun c e n => b.ap c (a.dom c e) (a.ap c e n), fun c e => b.dom c (a.dom c e)⟩
theorem Gx.clean {L : Addr → Prop} {G H G' H' : Hp} (a : Gx L G H G' H') (w : ∀ b, L b → H b = none) : Gr G H G' H' :=
  ⟨a.g, fun c o e _ => a.h c o e (fun z => absurd (e.symm.trans (w c z)) (fun y => nomatch y)), a.s, a.ap, a.dom⟩
theorem Gx.same {G H G' H' : Hp} (a : Gr G H G' H') : Same H H' := fun b o e => a.h b o e fun z => z
theorem Gx.gnone {L : Addr → Prop} {G H G' H' : Hp} (a : Gx L G H G' H') {b : Addr} (h : H b ≠ none) (g : G b = none) : G' b = none := a.ap b h g
theorem none_of_same {G H : Hp} (s : Same G H) {b : Addr} (h : H b = none) : G b = none := s.free h
/-- a new frozen object -/
theorem Gx.frz {L : Addr → Prop} {G H : Hp} (s : Same G H) {p : Addr} {o : HO} (hp : H p = none) : Gx L G H (upd G p o) (upd H p o) := by
  have gp : G p = none := none_of_same s hp
  refine ⟨fun b u e => ?_, fun b u e _ => ?_, fun b u e => ?_, fun b e n => ?_, fun b e => ?_⟩
  · rw [upd_ne (ne_of_none e gp)]; exact e
  · rw [upd_ne (ne_of_none e hp)]; exact e
  · by_cases hb : b = p
    · subst hb; rw [upd_same] at e ⊢; exact e
    · rw [upd_ne hb] at e ⊢; exact s b u e
  · have hb : b ≠ p := fun q => e (by rw [q]; exact hp)
    rw [upd_ne hb]; exact n
  · by_cases hb : b = p
    · subst hb; rw [upd_same]; exact fun z => by cases z
    · rw [upd_ne hb]; exact e
/-- a new object that stays changeable -/
theorem Gx.new {L : Addr → Prop} {G H : Hp} (s : Same G H) {p : Addr} {o : HO} (hp : H p = none) : Gx L G H G (upd H p o) := by
  refine ⟨Same.refl G, fun b u e _ => ?_, fun b u e => ?_, fun b _ n => n, fun b e => ?_⟩
  · rw [upd_ne (ne_of_none e hp)]; exact e
  · rw [upd_ne (ne_of_none (s b u e) hp)]; exact s b u e
  · by_cases hb : b = p
    · subst hb; rw [upd_same]; exact fun z => by cases z
    · rw [upd_ne hb]; exact e
/-- a changeable object is written -/
theorem Gx.put {G H : Hp} (s : Same G H) {p : Addr} {o : HO} (gp : G p = none) : Gx (fun b => b = p) G H G (upd H p o) := by
  refine ⟨Same.refl G, fun b u e n => ?_, fun b u e => ?_, fun b _ n => n, fun b e => ?_⟩
  · rw [upd_ne n]; exact e
  · rw [upd_ne (ne_of_none e gp)]; exact s b u e
  · by_cases hb : b = p
    · subst hb; rw [upd_same]; exact fun z => by cases z
    · rw [upd_ne hb]; exact e

/-! ### data -/
mutual
/-- the value v is the data d, by what G holds -/
inductive Da (G : Hp) : V → PyData → Prop
  | non : Da G .non .none
  | bl (b : Bool) : Da G (.bl b) (.bool b)
  | int (i : Int) : Da G (.int i) (.int i)
  | str (x : Str) : Da G (.str x) (.str x)
  | lst {a : Addr} {xs : List V} {ds : List PyData} : G a = some (.lst xs) → DaAll G xs ds → Da G (.ref a) (.list ds)
  | tup {a : Addr} {xs : List V} {ds : List PyData} : G a = some (.tup xs) → DaAll G xs ds → Da G (.ref a) (.tuple ds)
inductive DaAll (G : Hp) : List V → List PyData → Prop
  | nil : DaAll G [] []
  | cons {v : V} {vs : List V} {d : PyData} {ds : List PyData} : Da G v d → DaAll G vs ds → DaAll G (v :: vs) (d :: ds)
end
mutual
theorem da_mono {G G' : Hp} (s : ∀ b o, G b = some o → G' b = some o) : ∀ (d : PyData) (v : V), Da G v d → Da G' v d
  | .none, _, h => by cases h; exact .non
  | .bool b, _, h => by cases h; exact .bl b
  | .int i, _, h => by cases h; exact .int i
  | .str x, _, h => by cases h; exact .str x
  | .list ds, _, h => by
    cases h with
    | lst hs ha => exact .lst (s _ _ hs) (daAll_mono s ds _ ha)
  | .tuple ds, _, h => by
    cases h with
    | tup hs ha => exact .tup (s _ _ hs) (daAll_mono s ds _ ha)
  | .dict _, _, h => by cases h
theorem daAll_mono {G G' : Hp} (s : ∀ b o, G b = some o → G' b = some o) : ∀ (ds : List PyData) (vs : List V), DaAll G vs ds → DaAll G' vs ds
  | [], _, h => by cases h; exact .nil
  | d :: ds, _, h => by
    cases h with
    | cons h1 h2 => exact .cons (da_mono s d _ h1) (daAll_mono s ds _ h2)
end
theorem Da.mono {G G' : Hp} {v : V} {d : PyData} (h : Da G v d) (s : Same G G') : Da G' v d := da_mono s d v h
theorem DaAll.mono {G G' : Hp} {vs : List V} {ds : List PyData} (h : DaAll G vs ds) (s : Same G G') : DaAll G' vs ds := daAll_mono s ds vs h
mutual
theorem da_dp {K : PySem.W.Frag} {G : Hp} : ∀ (d : PyData) (v : V), Da G v d → Dp K G v d
  | .none, _, h => by cases h; exact .non
  | .bool b, _, h => by cases h; exact .bl b
  | .int i, _, h => by cases h; exact .int i
  | .str x, _, h => by cases h; exact .str x
  | .list ds, _, h => by
    cases h with
    | lst hs ha => exact .lst (SqL.of hs) (daAll_dp ds _ ha)
  | .tuple ds, _, h => by
    cases h with
    | tup hs ha => exact .tup (SqT.of hs) (daAll_dp ds _ ha)
  | .dict _, _, h => by cases h
theorem daAll_dp {K : PySem.W.Frag} {G : Hp} : ∀ (ds : List PyData) (vs : List V), DaAll G vs ds → DpAll K G vs ds
  | [], _, h => by cases h; exact .nil
  | d :: ds, _, h => by
    cases h with
    | cons h1 h2 => exact .cons (da_dp d _ h1) (daAll_dp ds _ h2)
end
theorem Da.dp {K : PySem.W.Frag} {G H : Hp} {v : V} {d : PyData} (h : Da G v d) (s : Same G H) : Dp K H v d := da_dp d v (h.mono s)
section
variable {G H : Hp}
theorem da_int {v : V} {i : Int} (h : Da G v (.int i)) : v = .int i := by cases h; rfl
theorem da_str {v : V} {x : Str} (h : Da G v (.str x)) : v = .str x := by cases h; rfl
theorem da_bl {v : V} {b : Bool} (h : Da G v (.bool b)) : v = .bl b := by cases h; rfl
theorem da_non {v : V} (h : Da G v .none) : v = .non := by cases h; rfl
theorem da_lst {v : V} {ds : List PyData} (h : Da G v (.list ds)) : ∃ a xs, v = .ref a ∧ G a = some (.lst xs) ∧ DaAll G xs ds := by cases h with | lst a b => exact ⟨_, _, rfl, a, b⟩
theorem da_tup {v : V} {ds : List PyData} (h : Da G v (.tuple ds)) : ∃ a xs, v = .ref a ∧ G a = some (.tup xs) ∧ DaAll G xs ds := by cases h with | tup a b => exact ⟨_, _, rfl, a, b⟩
theorem da_len : ∀ {xs : List V} {ds : List PyData}, DaAll G xs ds → xs.length = ds.length
  | _, _, .nil => rfl
  | _, _, .cons _ h => congrArg Nat.succ (da_len h)
theorem da_get : ∀ {xs : List V} {ds : List PyData} {i : Nat} {d : PyData}, DaAll G xs ds → ds[i]? = some d → ∃ v, xs[i]? = some v ∧ Da G v d
  | _, _, _, _, .nil, e => by simp at e
  | _, _, 0, _, .cons h _, e => by simp at e; subst e; exact ⟨_, rfl, h⟩
  | _, _, i + 1, _, .cons _ h, e => by
    obtain ⟨v, h1, h2⟩ := da_get (i := i) h (by simpa using e)
    exact ⟨v, by simpa using h1, h2⟩
theorem da_getV {xs : List V} {ds : List PyData} {i : Nat} {v : V} (h : DaAll G xs ds) (e : xs[i]? = some v) : ∃ d, ds[i]? = some d ∧ Da G v d := by
  have hl := da_len h
  have hi : i < xs.length := (List.getElem?_eq_some_iff.mp e).1
  obtain ⟨w, h1, h2⟩ := da_get (i := i) (d := ds[i]'(by omega)) h (by simp [show i < ds.length by omega])
  rw [e] at h1; cases h1
  exact ⟨_, by simp [show i < ds.length by omega], h2⟩
theorem da_app : ∀ {xs ys : List V} {ds es : List PyData}, DaAll G xs ds → DaAll G ys es → DaAll G (xs ++ ys) (ds ++ es)
  | _, _, _, _, .nil, h => h
  | _, _, _, _, .cons a b, h => .cons a (da_app b h)
theorem da_take : ∀ {xs : List V} {ds : List PyData} (n : Nat), DaAll G xs ds → DaAll G (xs.take n) (ds.take n)
  | _, _, 0, _ => .nil
  | _, _, _ + 1, .nil => .nil
  | _, _, n + 1, .cons a b => .cons a (da_take n b)
theorem da_drop : ∀ {xs : List V} {ds : List PyData} (n : Nat), DaAll G xs ds → DaAll G (xs.drop n) (ds.drop n)
  | _, _, 0, h => h
  | _, _, _ + 1, .nil => .nil
  | _, _, n + 1, .cons a b => da_drop n b
theorem da_set : ∀ {xs : List V} {ds : List PyData} {v : V} {d : PyData} (n : Nat), DaAll G xs ds → Da G v d → DaAll G (xs.set n v) (ds.set n d)
  | _, _, _, _, _, .nil, _ => .nil
  | _, _, _, _, 0, .cons _ b, h => .cons h b
  | _, _, _, _, n + 1, .cons a b, h => .cons a (da_set n b h)
theorem da_snoc {xs : List V} {ds : List PyData} {v : V} {d : PyData} (h : DaAll G xs ds) (q : Da G v d) : DaAll G (xs ++ [v]) (ds ++ [d]) := da_app h (.cons q .nil)
theorem da_rev : ∀ {xs : List V} {ds : List PyData}, DaAll G xs ds → DaAll G xs.reverse ds.reverse
  | _, _, .nil => .nil
  | _, _, .cons a b => by
    rw [List.reverse_cons, List.reverse_cons]
    exact da_snoc (da_rev b) a
theorem da_ints : ∀ {xs : List V} {ns : List Int}, DaAll G xs (ns.map .int) → xs = ns.map .int
  | _, [], h => by cases h; rfl
  | _, n :: ns, h => by
    cases h with
    | cons a b => rw [da_int a, da_ints b]; rfl
theorem da_of_ints : ∀ (ns : List Int), DaAll G (ns.map .int) (ns.map .int)
  | [] => .nil
  | n :: ns => .cons (.int n) (da_of_ints ns)
theorem da_strs : ∀ {xs : List V} {ns : List Str}, DaAll G xs (ns.map .str) → xs = ns.map .str
  | _, [], h => by cases h; rfl
  | _, n :: ns, h => by
    cases h with
    | cons a b => rw [da_str a, da_strs b]; rfl
theorem da_bls : ∀ {xs : List V} {ns : List Bool}, DaAll G xs (ns.map .bool) → xs = ns.map .bl
  | _, [], h => by cases h; rfl
  | _, n :: ns, h => by
    cases h with
    | cons a b => rw [da_bl a, da_bls b]; rfl
theorem da_nil {xs : List V} (h : DaAll G xs []) : xs = [] := by cases h; rfl
theorem da_cons {xs : List V} {d : PyData} {ds : List PyData} (h : DaAll G xs (d :: ds)) : ∃ v vs, xs = v :: vs ∧ Da G v d ∧ DaAll G vs ds := by
  cases h with | cons a b => exact ⟨_, _, rfl, a, b⟩
end

/-! ### slots -/
inductive Sl where
  | any | dat (d : PyData) | val (v : V)
def SlOk (G : Hp) (o : Option V) : Sl → Prop
  | .any => True
  | .dat d => ∃ v, o = some v ∧ Da G v d
  | .val v => o = some v
def EnvOk (G : Hp) : St → List Sl → Prop
  | [], [] => True
  | o :: σ, r :: ρ => SlOk G o r ∧ EnvOk G σ ρ
  | _, _ => False
section
variable {G G' H : Hp}
theorem SlOk.mono (s : Same G G') {o : Option V} : ∀ {r : Sl}, SlOk G o r → SlOk G' o r
  | .any, _ => True.intro
  | .dat _, ⟨v, e, h⟩ => ⟨v, e, h.mono s⟩
  | .val _, h => h
theorem EnvOk.mono (s : Same G G') : ∀ {σ : St} {ρ : List Sl}, EnvOk G σ ρ → EnvOk G' σ ρ
  | [], [], _ => True.intro
  | _ :: _, _ :: _, ⟨a, b⟩ => ⟨a.mono s, EnvOk.mono s b⟩
  | [], _ :: _, h => h.elim
  | _ :: _, [], h => h.elim
theorem EnvOk.getS : ∀ {σ : St} {ρ : List Sl} {i : Nat} {r : Sl}, EnvOk G σ ρ → ρ[i]? = some r → ∃ o, σ[i]? = some o ∧ SlOk G o r
  | [], [], _, _, _, e => by simp at e
  | o :: _, r :: _, 0, _, ⟨a, _⟩, e => by simp at e; subst e; exact ⟨o, rfl, a⟩
  | _ :: σ, _ :: ρ, i + 1, _, ⟨_, b⟩, e => by
    obtain ⟨o, h1, h2⟩ := EnvOk.getS (i := i) b (by simpa using e)
    exact ⟨o, by simpa using h1, h2⟩
  | [], _ :: _, _, _, h, _ => h.elim
  | _ :: _, [], _, _, h, _ => h.elim
theorem EnvOk.setS : ∀ {σ : St} {ρ : List Sl} (i : Nat) {o : Option V} {r : Sl}, EnvOk G σ ρ → SlOk G o r → EnvOk G (σ.set i o) (ρ.set i r)
  | [], [], _, _, _, _, _ => True.intro
  | _ :: _, _ :: _, 0, _, _, ⟨_, b⟩, h => ⟨h, b⟩
  | _ :: _, _ :: _, i + 1, _, _, ⟨a, b⟩, h => ⟨a, EnvOk.setS i b h⟩
  | [], _ :: _, _, _, _, h, _ => h.elim
  | _ :: _, [], _, _, _, h, _ => h.elim
/-- weaker slots, one by one -/
def SlLe (G : Hp) (r r' : Sl) : Prop := ∀ o, SlOk G o r → SlOk G o r'
def SlsLe (G : Hp) : List Sl → List Sl → Prop
  | [], [] => True
  | r :: ρ, r' :: ρ' => SlLe G r r' ∧ SlsLe G ρ ρ'
  | _, _ => False
theorem EnvOk.le : ∀ {σ : St} {ρ ρ' : List Sl}, EnvOk G σ ρ → SlsLe G ρ ρ' → EnvOk G σ ρ'
  | [], [], [], _, _ => True.intro
  | _ :: _, _ :: _, _ :: _, ⟨a, b⟩, ⟨c, d⟩ => ⟨c _ a, EnvOk.le b d⟩
  | [], _ :: _, _, h, _ => h.elim
  | _ :: _, [], _, h, _ => h.elim
  | _, [], _ :: _, _, h => h.elim
  | _, _ :: _, [], _, h => h.elim
theorem SlLe.rfl' {r : Sl} : SlLe G r r := fun _ h => h
theorem SlLe.any' {r : Sl} : SlLe G r .any := fun _ _ => True.intro
theorem SlLe.frz {v : V} {d : PyData} (h : Da G v d) : SlLe G (.val v) (.dat d) := fun _ e => ⟨v, e, h⟩
theorem SlLe.int' {i : Int} : SlLe G (.dat (.int i)) (.val (.int i)) := fun o ⟨v, e, h⟩ => by rw [da_int h] at e; exact e
theorem SlLe.str' {i : Str} : SlLe G (.dat (.str i)) (.val (.str i)) := fun o ⟨v, e, h⟩ => by rw [da_str h] at e; exact e
theorem SlLe.bl' {i : Bool} : SlLe G (.dat (.bool i)) (.val (.bl i)) := fun o ⟨v, e, h⟩ => by rw [da_bl h] at e; exact e
theorem SlLe.non' : SlLe G (.dat .none) (.val .non) := fun o ⟨v, e, h⟩ => by rw [da_non h] at e; exact e
theorem SlLe.int'' {i : Int} : SlLe G (.val (.int i)) (.dat (.int i)) := fun o e => ⟨_, e, .int i⟩
/-- a def's entry -/
def ent (n : Nat) (ρ : List Sl) : List Sl := ρ ++ List.replicate (n - ρ.length) .any
theorem env_none (G : Hp) : ∀ n, EnvOk G (List.replicate n none) (List.replicate n .any)
  | 0 => True.intro
  | n + 1 => ⟨True.intro, env_none G n⟩
theorem env_app : ∀ {σ τ : St} {ρ θ : List Sl}, EnvOk G σ ρ → EnvOk G τ θ → EnvOk G (σ ++ τ) (ρ ++ θ)
  | [], _, [], _, _, h => h
  | _ :: _, _, _ :: _, _, ⟨a, b⟩, h => ⟨a, env_app b h⟩
  | [], _, _ :: _, _, h, _ => h.elim
  | _ :: _, _, [], _, h, _ => h.elim
theorem env_dat : ∀ {vs : List V} {ds : List PyData}, DaAll G vs ds → EnvOk G (vs.map some) (ds.map .dat)
  | _, _, .nil => True.intro
  | _, _, .cons a b => ⟨⟨_, rfl, a⟩, env_dat b⟩
theorem EnvOk.len : ∀ {σ : St} {ρ : List Sl}, EnvOk G σ ρ → σ.length = ρ.length
  | [], [], _ => rfl
  | _ :: _, _ :: _, ⟨_, b⟩ => congrArg Nat.succ (EnvOk.len b)
  | [], _ :: _, h => h.elim
  | _ :: _, [], h => h.elim
theorem env_start {N : List Str} {vs : List V} {ρ : List Sl} (h : EnvOk G (vs.map some) ρ) : EnvOk G (start N vs) (ρ ++ List.replicate (N.length - vs.length) .any) :=
  env_app h (env_none G _)
end

/-! ### what is changed: heaplets -/
structure As where
  fp : Addr → Prop
  ok : Hp → Hp → Prop
  stays : ∀ {G H G' H' : Hp}, Same G G' → (∀ b o, fp b → H b = some o → H' b = some o) → ok G H → ok G' H'
theorem As.gx (a : As) {G H G' H' : Hp} {L : Addr → Prop} (g : Gx L G H G' H') (n : ∀ b, a.fp b → ¬ L b) (k : a.ok G H) : a.ok G' H' := a.stays g.g (fun b o q e => g.h b o e (n b q)) k
/-- a list of data -/
def As.lst (l : Addr) (ds : List PyData) : As where
  fp := fun b => b = l
  ok := fun G H => ∃ vs, H l = some (.lst vs) ∧ DaAll G vs ds
  stays := fun g k ⟨vs, e, h⟩ => ⟨vs, k _ _ rfl e, h.mono g⟩
/-- any object, as it is -/
def As.raw (l : Addr) (o : HO) : As where
  fp := fun b => b = l
  ok := fun _ H => H l = some o
  stays := fun _ k e => k _ _ rfl e

/-- a fact about what is frozen -/
structure Pin where
  ok : Hp → Prop
  mono : ∀ {G G' : Hp}, Same G G' → ok G → ok G'
/-- v is d -/
def pD (v : V) (d : PyData) : Pin := ⟨fun G => Da G v d, fun s h => h.mono s⟩
/-- what was known is known -/
def pS (G0 : Hp) : Pin := ⟨fun G => Same G0 G, fun s h => h.trans s⟩
/-- slots elsewhere -/
def pE (σ : St) (ρ : List Sl) : Pin := ⟨fun G => EnvOk G σ ρ, fun s h => h.mono s⟩
/-- the state within a def: G0 H0 the entry, L what of the entry may change; π pinned values; ρ the slots; μ the heaplets -/
structure ST (G0 H0 : Hp) (L : Addr → Prop) (π : List Pin) (ρ : List Sl) (μ : List As) (G : Hp) (σ : St) (H : Hp) : Prop where
  gx : Gx L G0 H0 G H
  env : EnvOk G σ ρ
  pin : ∀ p ∈ π, p.ok G
  ok : ∀ a ∈ μ, a.ok G H
  fp : ∀ a ∈ μ, ∀ b, a.fp b → G b = none ∧ H b ≠ none ∧ (L b ∨ H0 b = none)
  dj : μ.Pairwise fun a c => ∀ b, a.fp b → ¬ c.fp b
section
variable {G0 H0 : Hp} {L : Addr → Prop} {π : List Pin} {ρ : List Sl} {μ : List As} {G H G' H' : Hp} {σ σ' : St}
theorem ST.same (S : ST G0 H0 L π ρ μ G σ H) : Same G H := S.gx.s
/-- growth alone -/
theorem ST.grow (S : ST G0 H0 L π ρ μ G σ H) (g : Gr G H G' H') : ST G0 H0 L π ρ μ G' σ H' where
  gx := S.gx.then g fun _ z => z.elim
  env := S.env.mono g.g
  pin := fun p hp => p.mono g.g (S.pin p hp)
  ok := fun a ha => a.gx g (fun _ _ z => z) (S.ok a ha)
  fp := fun a ha b hb => ⟨g.ap b (S.fp a ha b hb).2.1 (S.fp a ha b hb).1, g.dom b (S.fp a ha b hb).2.1, (S.fp a ha b hb).2.2⟩
  dj := S.dj
theorem ST.new0 (S : ST G0 H0 L π ρ μ G σ H) {b : Addr} (h : H b = none) : H0 b = none := by
  cases e : H0 b with
  | none => rfl
  | some o => exact absurd h (S.gx.dom b (by rw [e]; exact fun z => by cases z))
/-- the slots -/
theorem ST.slot (S : ST G0 H0 L π ρ μ G σ H) (e : EnvOk G σ' ρ') : ST G0 H0 L π ρ' μ G σ' H := ⟨S.gx, e, S.pin, S.ok, S.fp, S.dj⟩
theorem ST.set (S : ST G0 H0 L π ρ μ G σ H) (i : Nat) {v : V} : ST G0 H0 L π (ρ.set i (.val v)) μ G (σ.set i (some v)) H := S.slot (S.env.setS i rfl)
theorem ST.setD (S : ST G0 H0 L π ρ μ G σ H) (i : Nat) {v : V} {d : PyData} (h : Da G v d) : ST G0 H0 L π (ρ.set i (.dat d)) μ G (σ.set i (some v)) H := S.slot (S.env.setS i ⟨v, rfl, h⟩)
theorem ST.le (S : ST G0 H0 L π ρ μ G σ H) {ρ' : List Sl} (h : SlsLe G ρ ρ') : ST G0 H0 L π ρ' μ G σ H := S.slot (S.env.le h)
/-- pins -/
theorem ST.pinP (S : ST G0 H0 L π ρ μ G σ H) {p : Pin} (h : p.ok G) : ST G0 H0 L (p :: π) ρ μ G σ H :=
  ⟨S.gx, S.env, fun q hq => (List.mem_cons.mp hq).elim (fun e => by rw [e]; exact h) (S.pin q), S.ok, S.fp, S.dj⟩
theorem ST.pinned (S : ST G0 H0 L π ρ μ G σ H) {v : V} {d : PyData} (h : Da G v d) : ST G0 H0 L (pD v d :: π) ρ μ G σ H := S.pinP (p := pD v d) h
theorem ST.unpin {q : Pin} (S : ST G0 H0 L (q :: π) ρ μ G σ H) : ST G0 H0 L π ρ μ G σ H :=
  ⟨S.gx, S.env, fun p hp => S.pin p (List.mem_cons_of_mem _ hp), S.ok, S.fp, S.dj⟩
theorem ST.pin0 {v : V} {d : PyData} (S : ST G0 H0 L (pD v d :: π) ρ μ G σ H) : Da G v d := S.pin (pD v d) (List.mem_cons_self ..)
theorem ST.pin1 {q : Pin} {v : V} {d : PyData} (S : ST G0 H0 L (q :: pD v d :: π) ρ μ G σ H) : Da G v d := S.pin (pD v d) (List.mem_cons_of_mem _ (List.mem_cons_self ..))
theorem ST.pin2 {q r : Pin} {v : V} {d : PyData} (S : ST G0 H0 L (q :: r :: pD v d :: π) ρ μ G σ H) : Da G v d := S.pin (pD v d) (List.mem_cons_of_mem _ (List.mem_cons_of_mem _ (List.mem_cons_self ..)))
theorem ST.pin3 {q r t : Pin} {v : V} {d : PyData} (S : ST G0 H0 L (q :: r :: t :: pD v d :: π) ρ μ G σ H) : Da G v d := S.pin (pD v d) (List.mem_cons_of_mem _ (List.mem_cons_of_mem _ (List.mem_cons_of_mem _ (List.mem_cons_self ..))))
/-- the slots are kept beside, and are taken again -/
theorem ST.save (S : ST G0 H0 L π ρ μ G σ H) : ST G0 H0 L (pE σ ρ :: π) ρ μ G σ H := S.pinP (p := pE σ ρ) S.env
theorem ST.back {σ' : St} {ρ' : List Sl} (S : ST G0 H0 L (pE σ ρ :: π) ρ' μ G σ' H) : ST G0 H0 L π ρ μ G σ H :=
  ⟨S.gx, S.pin (pE σ ρ) (List.mem_cons_self ..), fun p hp => S.pin p (List.mem_cons_of_mem _ hp), S.ok, S.fp, S.dj⟩
/-- a heaplet is new -/
theorem ST.add (S : ST G0 H0 L π ρ μ G σ H) (g : Gr G H G' H') {A : As} (ok : A.ok G' H') (fp : ∀ b, A.fp b → H b = none ∧ G' b = none ∧ H' b ≠ none) : ST G0 H0 L π ρ (A :: μ) G' σ H' := by
  have S' := S.grow g
  refine ⟨S'.gx, S'.env, S'.pin, fun a ha => ?_, fun a ha b hb => ?_, List.pairwise_cons.mpr ⟨fun a ha b hb z => (S.fp a ha b z).2.1 (fp b hb).1, S.dj⟩⟩
  · rcases List.mem_cons.mp ha with e | ha
    · subst e; exact ok
    · exact S'.ok a ha
  · rcases List.mem_cons.mp ha with e | ha
    · subst e; exact ⟨(fp b hb).2.1, (fp b hb).2.2, .inr (S.new0 (fp b hb).1)⟩
    · exact S'.fp a ha b hb
theorem ST.drop {A : As} (S : ST G0 H0 L π ρ (A :: μ) G σ H) : ST G0 H0 L π ρ μ G σ H :=
  ⟨S.gx, S.env, S.pin, fun a ha => S.ok a (List.mem_cons_of_mem _ ha), fun a ha => S.fp a (List.mem_cons_of_mem _ ha), (List.pairwise_cons.mp S.dj).2⟩
/-- the heaplet ahead changes -/
theorem ST.step {A A' : As} (S : ST G0 H0 L π ρ (A :: μ) G σ H) (g : Gx A.fp G H G' H') (ok : A'.ok G' H') (fp : ∀ b, A'.fp b → (A.fp b ∨ H b = none) ∧ G' b = none ∧ H' b ≠ none) : ST G0 H0 L π ρ (A' :: μ) G' σ H' := by
  have dj := List.pairwise_cons.mp S.dj
  have mA : A ∈ A :: μ := List.mem_cons_self ..
  refine ⟨S.gx.then g fun c z => (S.fp A mA c z).2.2, S.env.mono g.g, fun p hp => p.mono g.g (S.pin p hp), fun a ha => ?_, fun a ha b hb => ?_, List.pairwise_cons.mpr ⟨fun a ha b hb z => ?_, dj.2⟩⟩
  · rcases List.mem_cons.mp ha with e | ha
    · subst e; exact ok
    · exact a.gx g (fun b hb z => dj.1 a ha b z hb) (S.ok a (List.mem_cons_of_mem _ ha))
  · rcases List.mem_cons.mp ha with e | ha
    · subst e
      obtain ⟨h1, h2, h3⟩ := fp b hb
      refine ⟨h2, h3, ?_⟩
      rcases h1 with h1 | h1
      · exact (S.fp A mA b h1).2.2
      · exact .inr (S.new0 h1)
    · obtain ⟨h1, h2, h3⟩ := S.fp a (List.mem_cons_of_mem _ ha) b hb
      exact ⟨g.ap b h2 h1, g.dom b h2, h3⟩
  · rcases (fp b hb).1 with h1 | h1
    · exact dj.1 a ha b h1 z
    · exact (S.fp a (List.mem_cons_of_mem _ ha) b z).2.1 h1
/-- heaplets in another order -/
theorem ST.perm {μ' : List As} (S : ST G0 H0 L π ρ μ G σ H) (p : μ.Perm μ') : ST G0 H0 L π ρ μ' G σ H :=
  ⟨S.gx, S.env, S.pin, fun a ha => S.ok a (p.mem_iff.mpr ha), fun a ha => S.fp a (p.mem_iff.mpr ha), (p.pairwise_iff (fun h b h1 h2 => h b h2 h1)).mp S.dj⟩
theorem ST.swap {A B : As} (S : ST G0 H0 L π ρ (A :: B :: μ) G σ H) : ST G0 H0 L π ρ (B :: A :: μ) G σ H := S.perm (List.Perm.swap B A μ)
theorem ST.swap1 {A B C : As} (S : ST G0 H0 L π ρ (A :: B :: C :: μ) G σ H) : ST G0 H0 L π ρ (A :: C :: B :: μ) G σ H := S.perm ((List.Perm.swap C B μ).cons A)
theorem ST.swap2 {A B C D : As} (S : ST G0 H0 L π ρ (A :: B :: C :: D :: μ) G σ H) : ST G0 H0 L π ρ (A :: B :: D :: C :: μ) G σ H := S.perm (((List.Perm.swap D C μ).cons B).cons A)
theorem ST.rot {A B C : As} (S : ST G0 H0 L π ρ (A :: B :: C :: μ) G σ H) : ST G0 H0 L π ρ (C :: A :: B :: μ) G σ H := by
  refine S.perm ?_
  exact ((List.Perm.swap C B μ).cons A).trans (List.Perm.swap C A (B :: μ))
theorem ST.head {A : As} (S : ST G0 H0 L π ρ (A :: μ) G σ H) : A.ok G H := S.ok A (List.mem_cons_self ..)
theorem ST.hfp {A : As} (S : ST G0 H0 L π ρ (A :: μ) G σ H) {b : Addr} (h : A.fp b) : G b = none ∧ H b ≠ none ∧ (L b ∨ H0 b = none) := S.fp A (List.mem_cons_self ..) b h
/-- a list is frozen -/
theorem ST.freeze {l : Addr} {ds : List PyData} (S : ST G0 H0 L π ρ (As.lst l ds :: μ) G σ H) (h0 : H0 l = none) : ∃ G', ST G0 H0 L π ρ μ G' σ H ∧ Da G' (.ref l) (.list ds) ∧ Same G G' := by
  obtain ⟨vs, e, ha⟩ := S.head
  obtain ⟨gl, _, _⟩ := S.hfp (b := l) rfl
  have sg : Same G (upd G l (.lst vs)) := fun b o q => by rw [upd_ne (ne_of_none q gl)]; exact q
  have dj := List.pairwise_cons.mp S.dj
  refine ⟨upd G l (.lst vs), ⟨⟨S.gx.g.trans sg, S.gx.h, fun b o q => ?_, fun b q n => ?_, S.gx.dom⟩, S.env.mono sg, fun p hp => p.mono sg (S.pin p hp), fun a ha' => ?_, fun a ha' b hb => ?_, dj.2⟩, .lst upd_same (ha.mono sg), sg⟩
  · by_cases hb : b = l
    · subst hb; rw [upd_same] at q; cases q; exact e
    · rw [upd_ne hb] at q; exact S.gx.s b o q
  · have hb : b ≠ l := fun z => q (by rw [z]; exact h0)
    rw [upd_ne hb]; exact S.gx.ap b q n
  · exact a.stays sg (fun _ _ _ q => q) (S.ok a (List.mem_cons_of_mem _ ha'))
  · obtain ⟨h1, h2, h3⟩ := S.fp a (List.mem_cons_of_mem _ ha') b hb
    have hb' : b ≠ l := fun z => dj.1 a ha' l rfl (by rw [← z]; exact hb)
    exact ⟨by rw [upd_ne hb']; exact h1, h2, h3⟩
end
end Hw

/-! Hw, part B: rules that serve several kinds of values, and steps over readings. -/
namespace Hw
open PySem L2

/-! ### operations for any kind of value -/
section
variable {X : Cx}
def rStrCat : R2 := fun x y H Q => ∃ i j, x = .str i ∧ y = .str j ∧ i.length + j.length ≤ sizeLine ∧ Q (.str (i ++ j)) H
def rPlus (K : PySem.W.Frag) : R2 := fun x y H Q => (rI0 (fun i j => .int (i + j)) x y H Q ∨ rStrCat x y H Q) ∨ (rCat x y H Q ∨ rCatA K x y H Q)
theorem op_plus : OpR X (binaryOp .Add) (rPlus X.K) := (op_add.or op_add_str).or (op_cat.or op_catA)
def rTimes : R2 := fun x y H Q => rI CMul (fun i j => .int (i * j)) x y H Q ∨ rRep x y H Q
theorem op_times : OpR X (binaryOp .Mult) rTimes := op_mul.or op_rep
theorem u65 {k : Nat} {A : Around} (r : Room k A) : A.units + 65 < cLine := by have := r.un; omega
def rAmong (K : PySem.W.Frag) : R2 := fun x y H Q => rIn K false x y H Q ∨ rInD K x y H Q
theorem op_among (hu : X.A.units + 65 < cLine) : OpR X (compareOp .In) (rAmong X.K) := op_in_seq.or (op_inD hu)
def rNotAmong (K : PySem.W.Frag) : R2 := fun x y H Q => rIn K true x y H Q ∨ rNotInD K x y H Q
theorem op_notAmong (hu : X.A.units + 65 < cLine) : OpR X (compareOp .NotIn) (rNotAmong X.K) := op_notIn_seq.or (op_notInD hu)
/-- xs[i], read in xs[i] += e -/
def rGetL (K : PySem.W.Frag) : V → V → Hp → VK → Prop := fun x y H Q => ∃ p xs i w, x = .ref p ∧ y = .int i ∧ SqL K H p xs ∧ 0 ≤ i ∧ i < 2 ^ 63 ∧ xs[i.toNat]? = some w ∧ Q w H
theorem get_list : PGet X (rGetL X.K) := by
  intro pins s σ H x y v u Q I rx ry h
  obtain ⟨p, xs, i, w, rfl, rfl, hq, h0, h1, hw, q⟩ := h
  cases rx
  obtain ⟨t, rfl⟩ := ry
  obtain ⟨its, r, pl, hz⟩ := I.list hq
  obtain ⟨z, ez, rz⟩ := r.get hw
  exact wpAny_getItem_list pl.isList h0 h1 (x := z) (by simpa using ez) ⟨w, H, I, rz, q⟩
def rMinus : R2 := rI0 fun i j => .int (i - j)
theorem op_minus : OpR X (binaryOp .Sub) rMinus := op_sub
def rDiv : R2 := rI CDivW fun i j => .int (i / j)
theorem op_div : OpR X (binaryOp .FloorDiv) rDiv := op_fdivW
def rMod : R2 := rI (fun _ j => 0 < j) fun i j => .int (i % j)
theorem op_rem : OpR X (binaryOp .Mod) rMod := op_mod
def rPow : R2 := rI CPow fun i j => .int (i ^ j.toNat)
theorem op_power : OpR X (binaryOp .Pow) rPow := op_pow
def rSame (K : PySem.W.Frag) : R2 := fun x y H Q => rEq x y H Q ∨ rEqD K x y H Q
def rDiff (K : PySem.W.Frag) : R2 := fun x y H Q => rNe x y H Q ∨ rNeD K x y H Q
theorem op_same (hu : X.A.units + 64 < cLine) : OpR X (compareOp .Eq) (rSame X.K) := op_eq.or (op_eqD hu)
theorem op_diff (hu : X.A.units + 64 < cLine) : OpR X (compareOp .NotEq) (rDiff X.K) := op_ne.or (op_neD hu)
def rLess (K : PySem.W.Frag) : R2 := fun x y H Q => rI0 (fun i j => .bl (decide (i < j))) x y H Q ∨ rLtT K x y H Q
theorem op_less (hu : X.A.units < cLine) : OpR X (compareOp .Lt) (rLess X.K) := op_lt.or (op_ltT hu)
def rLe : R2 := rI0 fun i j => .bl (decide (i ≤ j))
theorem op_leI : OpR X (compareOp .LtE) rLe := op_le
def rGt : R2 := rI0 fun i j => .bl (decide (j < i))
theorem op_gtI : OpR X (compareOp .Gt) rGt := op_gt
def rGe : R2 := rI0 fun i j => .bl (decide (j ≤ i))
theorem op_geI : OpR X (compareOp .GtE) rGe := op_ge
def rIsNone : R2 := fun x y H Q => y = .non ∧ Q (.bl (decide (x = .non))) H
theorem op_isNone : OpR X (compareOp .Is) rIsNone := op_isN
def rNotNone : R2 := fun x y H Q => y = .non ∧ Q (.bl (!decide (x = .non))) H
theorem op_notNone : OpR X (compareOp .IsNot) rNotNone := op_notN
def rInsert : V → List V → Hp → VK → Prop := fun x vs H Q => ∃ (l : Addr) (xs : List V) (i : Int) (y : V), x = .ref l ∧ vs = [.int i, y] ∧ H l = some (.lst xs) ∧ xs.length < sizeLine ∧ 0 ≤ i ∧ i < 2 ^ 63 ∧
    Q .non (upd H l (.lst (xs.take i.toNat ++ [y] ++ xs.drop i.toNat)))
theorem mt_ins : MtR X "list.insert" rInsert := mt_insert
/-- built-in calls -/
def rLen (K : PySem.W.Frag) : List V → Hp → VK → Prop := fun xs H Q => ∃ x n, xs = [x] ∧ LenV K x H n ∧ Q (.int n) H
theorem cl_len : CallR X (.builtin "len") (rLen X.K) := call_len
def rInt : List V → Hp → VK → Prop := fun xs H Q => (∃ i, xs = [.int i] ∧ Q (.int i) H) ∨ ∃ k, xs = [.bl k] ∧ Q (.int (if k then 1 else 0)) H
theorem cl_int : CallR X (.type "int") rInt := call_int1
def rMin2 : List V → Hp → VK → Prop := fun xs H Q => ∃ i j, xs = [.int i, .int j] ∧ Q (.int (if j < i then j else i)) H
theorem cl_min2 (hc : X.calm = true) : CallR X (.builtin "min") rMin2 := call_min2 hc
def rMax2 : List V → Hp → VK → Prop := fun xs H Q => ∃ i j, xs = [.int i, .int j] ∧ Q (.int (if j > i then j else i)) H
theorem cl_max2 (hc : X.calm = true) : CallR X (.builtin "max") rMax2 := call_max2 hc
def rList (K : PySem.W.Frag) : List V → Hp → VK → Prop := fun xs H Q => ∃ p ys, xs = [.ref p] ∧ (SqL K H p ys ∨ SqT K H p ys) ∧ ∀ l, H l = none → Q (.ref l) (upd H l (.lst ys))
theorem cl_list : CallR X (.type "list") (rList X.K) := call_list_of
def rTuple (K : PySem.W.Frag) : List V → Hp → VK → Prop := fun xs H Q => ∃ p ys, xs = [.ref p] ∧ ((SqL K H p ys ∧ ∀ l, H l = none → Q (.ref l) (upd H l (.tup ys))) ∨ (SqT K H p ys ∧ Q (.ref p) H))
theorem cl_tuple : CallR X (.type "tuple") (rTuple X.K) := call_tuple_of
def rIsi (K : PySem.W.Frag) : List V → Hp → VK → Prop := fun xs H Q => L2.rIsi K xs H Q ∨ L2.rIsiT K xs H Q
theorem cl_isi : CallR X (.builtin "isinstance") (rIsi X.K) := by
  intro pins s σ H xs us Q I r h
  rcases h with h | h
  · exact call_isi pins s σ H xs us Q I r h
  · exact call_isiT pins s σ H xs us Q I r h
/-- a slice of a list, a text, a tuple -/
def rSlice (K : PySem.W.Frag) : V → Option Int → Option Int → Hp → VK → Prop := fun x lo hi H Q => rSlL K x lo hi H Q ∨ rSlS x lo hi H Q ∨ rSlA K x lo hi H Q
theorem sl_any : SlR X (rSlice X.K) := by
  exact sl_list.or (sl_str.or sl_tupA)
end

section
variable {K : PySem.W.Frag} {G0 H0 : Hp} {L : Addr → Prop} {π : List Pin} {ρ : List Sl} {μ : List As} {G H : Hp} {σ : St}

/-! ### steps: structure -/
variable {Q : VK} {D : Ends} {t u : TS} {te ta tb tc : TE} {tt tw : TT} {x y v w : V}
theorem c_seq (h : t { D with nx := u D } σ H) : tSeq t u D σ H := h
/-- a statement whose ways meet behind it: Φ is what is known there -/
theorem c_seqJ (Φ : St → Hp → Prop) (rest : ∀ σ' H', Φ σ' H' → u D σ' H') (first : ∀ J : St → Hp → Prop, (∀ σ' H', Φ σ' H' → J σ' H') → t { D with nx := J } σ H) : tSeq t u D σ H := first (u D) rest
theorem c_asg {g : TG} (h : te σ H fun x H1 => g x σ H1 D.nx) : tAsg te g D σ H := h
theorem c_drop (h : te σ H fun _ H1 => D.nx σ H1) : tDrop te D σ H := h
theorem c_ret (h : te σ H D.rt) : tRet te D σ H := h
theorem c_if {c : TT} (h : c σ H fun b H1 => if b = true then t D σ H1 else u D σ H1) : tIfS c t u D σ H := h
theorem c_next (h : D.nx σ H) : tNext D σ H := h
def isB (Q : Bool → Hp → Prop) (x : V) (H : Hp) : Prop := ∃ k, x = .bl k ∧ Q k H
def isI (Q : Option Int → Hp → Prop) (x : V) (H : Hp) : Prop := ∃ i, x = .int i ∧ Q (some i) H
theorem c_test {Q : Bool → Hp → Prop} (h : te σ H (isB Q)) : tTest te σ H Q := h
theorem c_B {Q : Bool → Hp → Prop} (h : te σ H (isB Q)) : tB te σ H Q := h
theorem c_isB {b : Bool} {Q : Bool → Hp → Prop} (h : Q b H) : isB Q (.bl b) H := ⟨b, rfl, h⟩
theorem c_not {Q : Bool → Hp → Prop} (h : tt σ H fun c H1 => Q (!c) H1) : tNot tt σ H Q := h
theorem c_and {Q : Bool → Hp → Prop} (h : tt σ H fun c H1 => if c = true then tw σ H1 Q else Q false H1) : tAnd tt tw σ H Q := h
theorem c_or {Q : Bool → Hp → Prop} (h : tt σ H fun c H1 => if c = true then Q true H1 else tw σ H1 Q) : tOr tt tw σ H Q := h
theorem c_andV (h : ta σ H (isB fun c H1 => if c = true then tb σ H1 Q else Q (.bl false) H1)) : tAndV ta tb σ H Q := h
theorem c_orV (h : ta σ H (isB fun c H1 => if c = true then Q (.bl true) H1 else tb σ H1 Q)) : tOrV ta tb σ H Q := h
theorem c_notV (h : ta σ H (isB fun c H1 => Q (.bl (!c)) H1)) : tNotV ta σ H Q := h
theorem c_ifE (h : tt σ H fun c H1 => if c = true then ta σ H1 Q else tb σ H1 Q) : tIf tt ta tb σ H Q := h
theorem c_cons {r : TA} {Q : List V → Hp → Prop} (h : te σ H fun x H1 => r σ H1 fun xs H2 => Q (x :: xs) H2) : tCons te r σ H Q := h
theorem c_nil {Q : List V → Hp → Prop} (h : Q [] H) : tNil σ H Q := h
theorem c_op {r : R2} (h : ta σ H fun x H1 => tb σ H1 fun y H2 => r x y H2 Q) : tOp r ta tb σ H Q := h
theorem c_un {r : V → Hp → VK → Prop} (h : ta σ H fun x H1 => r x H1 Q) : tUn r ta σ H Q := h
theorem c_cb {r : List V → Hp → VK → Prop} {a : TA} (h : a σ H fun vs H1 => r vs H1 Q) : tCB r a σ H Q := h
theorem c_call {sp : Sp} {E : XK} {a : TA} (h : a σ H fun vs H1 => sp vs H1 Q E) : tCall sp [] E a σ H Q := by
  show a σ H fun vs H1 => sp (vs ++ []) H1 Q E
  have e : (fun (vs : List V) (H1 : Hp) => sp (vs ++ []) H1 Q E) = fun vs H1 => sp vs H1 Q E := by
    funext vs H1
    rw [List.append_nil]
  rw [e]
  exact h
theorem c_C (h : Q v H) : tC v σ H Q := h
theorem c_sl {r : V → Option Int → Option Int → Hp → VK → Prop} {tl th : TO} (h : te σ H fun x H1 => tl σ H1 fun l H2 => th σ H2 fun u H3 => r x l u H3 Q) : tSl r te tl th σ H Q := h
theorem c_noPart {Q : Option Int → Hp → Prop} (h : Q none H) : tNoPart σ H Q := h
theorem c_part {Q : Option Int → Hp → Prop} (h : te σ H (isI Q)) : tPart te σ H Q := h
theorem c_isI {i : Int} {Q : Option Int → Hp → Prop} (h : Q (some i) H) : isI Q (.int i) H := ⟨i, rfl, h⟩
/-- a new tuple, a new list is made of xs -/
def mkTup (Q : VK) (xs : List V) (H : Hp) : Prop := xs.length ≤ sizeLine ∧ ∀ p, H p = none → Q (.ref p) (upd H p (.tup xs))
def mkLst (Q : VK) (xs : List V) (H : Hp) : Prop := xs.length ≤ sizeLine ∧ ∀ p, H p = none → Q (.ref p) (upd H p (.lst xs))
theorem c_tup {a : TA} (h : a σ H (mkTup Q)) : tTup a σ H Q := h
theorem c_lst {a : TA} (h : a σ H (mkLst Q)) : tLst a σ H Q := h
theorem c_bm {T : String} {r : V → List V → Hp → VK → Prop} {a : TA} (h : te σ H fun x H1 => tyV K T x H1 ∧ a σ H1 fun xs H2 => r x xs H2 Q) : tBM K T r te a σ H Q := h
theorem c_bm0 {T : String} {r : V → List V → Hp → VK → Prop} (h : te σ H fun x H1 => tyV K T x H1 ∧ r x [] H1 Q) : tBM0 K T r te σ H Q := h
theorem c_gtup {n : Nat} {gs : TGs} {Q : St → Hp → Prop} (h : ∃ a xs, v = .ref a ∧ SqT K H a xs ∧ xs.length = n ∧ gs xs σ H Q) : gTup K n gs v σ H Q := h
theorem c_gcons {g : TG} {gs : TGs} {vs : List V} {Q : St → Hp → Prop} (h : g v σ H fun σ' H' => gs vs σ' H' Q) : gCons g gs (v :: vs) σ H Q := ⟨v, vs, rfl, h⟩
theorem c_gnil {Q : St → Hp → Prop} (h : Q σ H) : gNil [] σ H Q := ⟨rfl, h⟩
theorem c_ite {P A B : Prop} {inst : Decidable P} (h1 : P → A) (h2 : ¬ P → B) : if decide P = true then A else B := by
  by_cases h : P
  · rw [decide_eq_true h]; exact h1 h
  · rw [decide_eq_false h]; exact h2 h
theorem c_iteN {P A B : Prop} {inst : Decidable P} (h1 : ¬ P → A) (h2 : P → B) : if (!decide P) = true then A else B := by
  by_cases h : P
  · rw [decide_eq_true h]; exact h2 h
  · rw [decide_eq_false h]; exact h1 h
theorem c_iteB {b : Bool} {A B : Prop} (h1 : b = true → A) (h2 : b = false → B) : if b = true then A else B := by
  cases b
  · exact h2 rfl
  · exact h1 rfl

/-! ### steps: names -/
theorem c_var {i : Nat} (S : ST G0 H0 L π ρ μ G σ H) (hi : ρ[i]? = some (.val v)) (h : Q v H) : tVar i σ H Q := by
  obtain ⟨o, e, k⟩ := S.env.getS hi
  exact ⟨v, by rw [e]; exact congrArg some k, h⟩
theorem c_varD {i : Nat} {d : PyData} (S : ST G0 H0 L π ρ μ G σ H) (hi : ρ[i]? = some (.dat d)) (h : ∀ v, Da G v d → Q v H) : tVar i σ H Q := by
  obtain ⟨o, e, w, k, hw⟩ := S.env.getS hi
  exact ⟨w, by rw [e, k], h w hw⟩
theorem c_set {i : Nat} {Q : St → Hp → Prop} (S : ST G0 H0 L π ρ μ G σ H) (h : ∀ σ', ST G0 H0 L π (ρ.set i (.val v)) μ G σ' H → Q σ' H) : gName i v σ H Q := h _ (S.set i)
theorem c_setI {i : Nat} {n : Int} {Q : St → Hp → Prop} (S : ST G0 H0 L π ρ μ G σ H) (h : ∀ σ', ST G0 H0 L π (ρ.set i (.val (.int n))) μ G σ' H → Q σ' H) : gName i (.int n) σ H Q := h _ (S.set i)
theorem c_setS {i : Nat} {z : Str} {Q : St → Hp → Prop} (S : ST G0 H0 L π ρ μ G σ H) (h : ∀ σ', ST G0 H0 L π (ρ.set i (.val (.str z))) μ G σ' H → Q σ' H) : gName i (.str z) σ H Q := h _ (S.set i)
theorem c_setB {i : Nat} {b : Bool} {Q : St → Hp → Prop} (S : ST G0 H0 L π ρ μ G σ H) (h : ∀ σ', ST G0 H0 L π (ρ.set i (.val (.bl b))) μ G σ' H → Q σ' H) : gName i (.bl b) σ H Q := h _ (S.set i)
theorem c_setN {i : Nat} {Q : St → Hp → Prop} (S : ST G0 H0 L π ρ μ G σ H) (h : ∀ σ', ST G0 H0 L π (ρ.set i (.val .non)) μ G σ' H → Q σ' H) : gName i .non σ H Q := h _ (S.set i)
theorem c_setD {i : Nat} {d : PyData} {Q : St → Hp → Prop} (S : ST G0 H0 L π ρ μ G σ H) (hv : Da G v d) (h : ∀ σ', ST G0 H0 L π (ρ.set i (.dat d)) μ G σ' H → Q σ' H) : gName i v σ H Q := h _ (S.setD i hv)
theorem c_aug {i : Nat} {ti : TIp} (S : ST G0 H0 L π ρ μ G σ H) (hi : ρ[i]? = some (.val v)) (h : te σ H fun y H1 => ti v y H1 fun z H2 => gName i z σ H2 D.nx) : tAug i te ti D σ H := by
  obtain ⟨o, e, k⟩ := S.env.getS hi
  exact ⟨v, by rw [e]; exact congrArg some k, h⟩
theorem c_ip {f : Int → Int → Int} {a b : Int} (h : Q (.int (f a b)) H) : ipI f (.int a) (.int b) H Q := ⟨a, b, rfl, rfl, h⟩

/-! ### steps: ints, texts, bools -/
theorem c_I0 {g : Int → Int → V} {i j : Int} (h : Q (g i j) H) : rI0 g (.int i) (.int j) H Q := ⟨i, j, rfl, rfl, h⟩
theorem c_I {C : Int → Int → Prop} {g : Int → Int → V} {i j : Int} (hc : C i j) (h : Q (g i j) H) : rI C g (.int i) (.int j) H Q := ⟨i, j, rfl, rfl, hc, h⟩
theorem c_plusI {i j : Int} (h : Q (.int (i + j)) H) : rPlus K (.int i) (.int j) H Q := .inl (.inl (c_I0 h))
theorem c_plusS {i j : Str} (hl : i.length + j.length ≤ sizeLine) (h : Q (.str (i ++ j)) H) : rPlus K (.str i) (.str j) H Q := .inl (.inr ⟨i, j, rfl, rfl, hl, h⟩)
theorem c_minus {i j : Int} (h : Q (.int (i - j)) H) : rMinus (.int i) (.int j) H Q := c_I0 h
theorem c_times {i j : Int} (hc : CMul i j) (h : Q (.int (i * j)) H) : rTimes (.int i) (.int j) H Q := .inl (c_I hc h)
theorem c_div {i j : Int} (hc : CDivW i j) (h : Q (.int (i / j)) H) : rDiv (.int i) (.int j) H Q := c_I hc h
theorem c_rem {i j : Int} (hc : 0 < j) (h : Q (.int (i % j)) H) : rMod (.int i) (.int j) H Q := c_I hc h
theorem c_pow {i j : Int} (hc : CPow i j) (h : Q (.int (i ^ j.toNat)) H) : rPow (.int i) (.int j) H Q := c_I hc h
theorem c_less {i j : Int} (h : Q (.bl (decide (i < j))) H) : rLess K (.int i) (.int j) H Q := .inl (c_I0 h)
theorem c_le {i j : Int} (h : Q (.bl (decide (i ≤ j))) H) : rLe (.int i) (.int j) H Q := c_I0 h
theorem c_gt {i j : Int} (h : Q (.bl (decide (j < i))) H) : rGt (.int i) (.int j) H Q := c_I0 h
theorem c_ge {i j : Int} (h : Q (.bl (decide (j ≤ i))) H) : rGe (.int i) (.int j) H Q := c_I0 h
theorem dec_i {i j : Int} : decide (V.int i = V.int j) = decide (i = j) := by simp
theorem dec_s {i j : Str} : decide (V.str i = V.str j) = decide (i = j) := by simp
theorem dec_b {i j : Bool} : decide (V.bl i = V.bl j) = decide (i = j) := by simp
theorem c_sameI {i j : Int} (h : Q (.bl (decide (i = j))) H) : rSame K (.int i) (.int j) H Q := .inl ⟨rfl, by rw [dec_i]; exact h⟩
theorem c_sameS {i j : Str} (h : Q (.bl (decide (i = j))) H) : rSame K (.str i) (.str j) H Q := .inl ⟨rfl, by rw [dec_s]; exact h⟩
theorem c_sameB {i j : Bool} (h : Q (.bl (decide (i = j))) H) : rSame K (.bl i) (.bl j) H Q := .inl ⟨rfl, by rw [dec_b]; exact h⟩
theorem c_sameNI {j : Int} (h : Q (.bl false) H) : rSame K .non (.int j) H Q := .inl ⟨rfl, h⟩
theorem c_diffI {i j : Int} (h : Q (.bl (!decide (i = j))) H) : rDiff K (.int i) (.int j) H Q := .inl ⟨rfl, by rw [dec_i]; exact h⟩
theorem c_diffS {i j : Str} (h : Q (.bl (!decide (i = j))) H) : rDiff K (.str i) (.str j) H Q := .inl ⟨rfl, by rw [dec_s]; exact h⟩
theorem c_diffB {i j : Bool} (h : Q (.bl (!decide (i = j))) H) : rDiff K (.bl i) (.bl j) H Q := .inl ⟨rfl, by rw [dec_b]; exact h⟩
theorem c_sameD {d e : PyData} (hx : Da G x d) (hy : Da G y e) (s : Same G H) (sd : SeqAt.shaped d = true) (se : SeqAt.shaped e = true) (h : Q (.bl (PyData.eqv d e)) H) : rSame K x y H Q := .inr ⟨d, e, hx.dp s, hy.dp s, sd, se, h⟩
theorem c_diffD {d e : PyData} (hx : Da G x d) (hy : Da G y e) (s : Same G H) (sd : SeqAt.shaped d = true) (se : SeqAt.shaped e = true) (h : Q (.bl (!PyData.eqv d e)) H) : rDiff K x y H Q := .inr ⟨d, e, hx.dp s, hy.dp s, sd, se, h⟩
theorem c_sameEq {G1 : Hp} {d : PyData} (hx : Da G1 x d) (hy : Da G1 y d) (s : Same G1 H) (sd : SeqAt.shaped d = true) (h : Q (.bl true) H) : rSame K x y H Q := .inr ⟨d, d, hx.dp s, hy.dp s, sd, sd, by rw [SeqAt.eqv_refl]; (exact h); (exact SeqAt.canLay_of_shaped sd)⟩
theorem c_diffEq {G1 : Hp} {d : PyData} (hx : Da G1 x d) (hy : Da G1 y d) (s : Same G1 H) (sd : SeqAt.shaped d = true) (h : Q (.bl false) H) : rDiff K x y H Q := .inr ⟨d, d, hx.dp s, hy.dp s, sd, sd, by rw [SeqAt.eqv_refl]; (exact h); (exact SeqAt.canLay_of_shaped sd)⟩
theorem c_isNone (h : Q (.bl (decide (x = .non))) H) : rIsNone x .non H Q := ⟨rfl, h⟩
theorem c_notNone (h : Q (.bl (!decide (x = .non))) H) : rNotNone x .non H Q := ⟨rfl, h⟩
theorem c_int {i : Int} (h : Q (.int i) H) : rInt [.int i] H Q := .inl ⟨i, rfl, h⟩
theorem c_intB {b : Bool} (h : Q (.int (if b then 1 else 0)) H) : rInt [.bl b] H Q := .inr ⟨b, rfl, h⟩
theorem c_min2 {i j : Int} (h : Q (.int (if j < i then j else i)) H) : rMin2 [.int i, .int j] H Q := ⟨i, j, rfl, h⟩
theorem c_max2 {i j : Int} (h : Q (.int (if j > i then j else i)) H) : rMax2 [.int i, .int j] H Q := ⟨i, j, rfl, h⟩
theorem c_lenS {z : Str} (hl : z.length ≤ sizeLine) (h : Q (.int z.length) H) : rLen K [.str z] H Q := ⟨_, _, rfl, ⟨hl, rfl⟩, h⟩

/-! ### steps: lists and tuples that are frozen -/
theorem c_lenL {ds : List PyData} (hv : Da G v (.list ds)) (s : Same G H) (h : Q (.int ds.length) H) : rLen K [v] H Q := by
  obtain ⟨a, xs, rfl, e, ha⟩ := da_lst hv
  exact ⟨_, _, rfl, .inl ⟨xs, SqL.of (s _ _ e), rfl⟩, by rw [da_len ha]; exact h⟩
theorem c_lenT {ds : List PyData} (hv : Da G v (.tuple ds)) (s : Same G H) (h : Q (.int ds.length) H) : rLen K [v] H Q := by
  obtain ⟨a, xs, rfl, e, ha⟩ := da_tup hv
  exact ⟨_, _, rfl, .inr ⟨xs, SqT.of (s _ _ e), rfl⟩, by rw [da_len ha]; exact h⟩
theorem c_lenM {a : Addr} {xs : List V} (e : H a = some (.lst xs)) (h : Q (.int xs.length) H) : rLen K [.ref a] H Q := ⟨_, _, rfl, .inl ⟨xs, SqL.of e, rfl⟩, h⟩
/-- of a list that is told by SqL (the script) -/
theorem c_lenQ {a : Addr} {xs : List V} (e : SqL K H a xs) (h : Q (.int xs.length) H) : rLen K [.ref a] H Q := ⟨_, _, rfl, .inl ⟨xs, e, rfl⟩, h⟩
/-- an item -/
theorem at_i {α : Type} {xs : List α} {i : Int} {k : Nat} {v : α} (hk : xs[k]? = some v) (h : (0 ≤ i ∧ i.toNat = k) ∨ (i < 0 ∧ (i + xs.length).toNat = k ∧ 0 ≤ i + xs.length)) : atI xs i = some v := by
  have hl : k < xs.length := (List.getElem?_eq_some_iff.mp hk).1
  unfold atI ixN
  rcases h with ⟨h1, h2⟩ | ⟨h1, h2, h3⟩
  · rw [if_pos h1, if_pos (by omega)]
    show xs[i.toNat]? = some v
    rw [h2]; exact hk
  · rw [if_neg (by omega), if_pos (by omega)]
    show xs[(i + xs.length).toNat]? = some v
    rw [h2]; exact hk
theorem c_ixL {ds : List PyData} {i : Int} {k : Nat} {d : PyData} (hv : Da G v (.list ds)) (s : Same G H) (hk : ds[k]? = some d) (hi : (0 ≤ i ∧ i.toNat = k) ∨ (i < 0 ∧ (i + ds.length).toNat = k ∧ 0 ≤ i + ds.length)) (h : ∀ w, Da G w d → Q w H) : rIx K v (.int i) H Q := by
  obtain ⟨a, xs, rfl, e, ha⟩ := da_lst hv
  obtain ⟨w, hw, hd⟩ := da_get ha hk
  exact .inl ⟨a, xs, i, w, rfl, rfl, SqL.of (s _ _ e), at_i hw (by rw [da_len ha]; exact hi), h w hd⟩
theorem c_ixT {ds : List PyData} {i : Int} {k : Nat} {d : PyData} (hv : Da G v (.tuple ds)) (s : Same G H) (hk : ds[k]? = some d) (hi : (0 ≤ i ∧ i.toNat = k) ∨ (i < 0 ∧ (i + ds.length).toNat = k ∧ 0 ≤ i + ds.length)) (h : ∀ w, Da G w d → Q w H) : rIx K v (.int i) H Q := by
  obtain ⟨a, xs, rfl, e, ha⟩ := da_tup hv
  obtain ⟨w, hw, hd⟩ := da_get ha hk
  exact .inr (.inl ⟨a, xs, i, w, rfl, rfl, SqT.of (s _ _ e), at_i hw (by rw [da_len ha]; exact hi), h w hd⟩)
theorem c_ixQ {a : Addr} {xs : List V} {i : Int} {k : Nat} (e : SqL K H a xs) (hk : xs[k]? = some w) (hi : (0 ≤ i ∧ i.toNat = k) ∨ (i < 0 ∧ (i + xs.length).toNat = k ∧ 0 ≤ i + xs.length)) (h : Q w H) : rIx K (.ref a) (.int i) H Q :=
  .inl ⟨a, xs, i, w, rfl, rfl, e, at_i hk hi, h⟩
/-- an item of a list that may change -/
theorem c_ixM {a : Addr} {xs : List V} {i : Int} {k : Nat} (e : H a = some (.lst xs)) (hk : xs[k]? = some w) (hi : (0 ≤ i ∧ i.toNat = k) ∨ (i < 0 ∧ (i + xs.length).toNat = k ∧ 0 ≤ i + xs.length)) (h : Q w H) : rIx K (.ref a) (.int i) H Q :=
  .inl ⟨a, xs, i, w, rfl, rfl, SqL.of e, at_i hk hi, h⟩
theorem c_ixS {z : Str} {i : Int} {k c : Nat} (hl : z.length ≤ sizeLine) (hk : z.cps.toList[k]? = some c) (hi : (0 ≤ i ∧ i.toNat = k) ∨ (i < 0 ∧ (i + z.cps.toList.length).toNat = k ∧ 0 ≤ i + z.cps.toList.length)) (h : Q (.str ⟨#[c]⟩) H) : rIx K (.str z) (.int i) H Q :=
  .inr (.inr ⟨z, i, c, rfl, rfl, hl, at_i hk hi, h⟩)
/-- a, b, .. = a tuple -/
theorem c_gtupD {ds : List PyData} {n : Nat} {gs : TGs} {Q : St → Hp → Prop} (hv : Da G v (.tuple ds)) (s : Same G H) (hn : ds.length = n) (h : ∀ xs, DaAll G xs ds → gs xs σ H Q) : gTup K n gs v σ H Q := by
  obtain ⟨a, xs, rfl, e, ha⟩ := da_tup hv
  exact ⟨a, xs, rfl, SqT.of (s _ _ e), by rw [da_len ha]; exact hn, h xs ha⟩

/-! ### steps: new objects -/
theorem c_mkT {xs : List V} {ds : List PyData} (S : ST G0 H0 L π ρ μ G σ H) (hd : DaAll G xs ds) (hl : xs.length ≤ sizeLine) (k : ∀ v G' H', ST G0 H0 L π ρ μ G' σ H' → Gr G H G' H' → Da G' v (.tuple ds) → Q v H') : mkTup Q xs H := by
  refine ⟨hl, fun p hp => ?_⟩
  have g : Gr G H (upd G p (.tup xs)) (upd H p (.tup xs)) := Gx.frz S.same hp
  exact k _ _ _ (S.grow g) g (.tup upd_same (hd.mono g.g))
theorem c_mkL {xs : List V} {ds : List PyData} (S : ST G0 H0 L π ρ μ G σ H) (hd : DaAll G xs ds) (hl : xs.length ≤ sizeLine) (k : ∀ v G' H', ST G0 H0 L π ρ μ G' σ H' → Gr G H G' H' → Da G' v (.list ds) → Q v H') : mkLst Q xs H := by
  refine ⟨hl, fun p hp => ?_⟩
  have g : Gr G H (upd G p (.lst xs)) (upd H p (.lst xs)) := Gx.frz S.same hp
  exact k _ _ _ (S.grow g) g (.lst upd_same (hd.mono g.g))
/-- a new list that will change -/
theorem c_newL {xs : List V} {ds : List PyData} (S : ST G0 H0 L π ρ μ G σ H) (hd : DaAll G xs ds) (hl : xs.length ≤ sizeLine) (k : ∀ p H', ST G0 H0 L π ρ (As.lst p ds :: μ) G σ H' → H0 p = none → Gr G H G H' → Q (.ref p) H') : mkLst Q xs H := by
  refine ⟨hl, fun p hp => ?_⟩
  have g : Gr G H G (upd H p (.lst xs)) := Gx.new S.same hp
  exact k p _ (S.add g ⟨xs, upd_same, hd⟩ fun b e => by cases e; exact ⟨hp, none_of_same S.same hp, by rw [upd_same]; exact fun z => by cases z⟩) (S.new0 hp) g
/-- the same in the place of a rule's last wish -/
theorem c_newL' {xs : List V} {ds : List PyData} (S : ST G0 H0 L π ρ μ G σ H) (hd : DaAll G xs ds) (k : ∀ p H', ST G0 H0 L π ρ (As.lst p ds :: μ) G σ H' → H0 p = none → Gr G H G H' → Q (.ref p) H') :
    ∀ p, H p = none → Q (.ref p) (upd H p (.lst xs)) := by
  intro p hp
  have g : Gr G H G (upd H p (.lst xs)) := Gx.new S.same hp
  exact k p _ (S.add g ⟨xs, upd_same, hd⟩ fun b e => by cases e; exact ⟨hp, none_of_same S.same hp, by rw [upd_same]; exact fun z => by cases z⟩) (S.new0 hp) g
theorem c_mkL' {xs : List V} {ds : List PyData} (S : ST G0 H0 L π ρ μ G σ H) (hd : DaAll G xs ds) (k : ∀ v G' H', ST G0 H0 L π ρ μ G' σ H' → Gr G H G' H' → Da G' v (.list ds) → Q v H') :
    ∀ p, H p = none → Q (.ref p) (upd H p (.lst xs)) := by
  intro p hp
  have g : Gr G H (upd G p (.lst xs)) (upd H p (.lst xs)) := Gx.frz S.same hp
  exact k _ _ _ (S.grow g) g (.lst upd_same (hd.mono g.g))

/-! ### steps: a list that changes -/
theorem c_tyL {a : Addr} {xs : List V} (e : H a = some (.lst xs)) : tyV K "list" (.ref a) H := Or.inl ⟨rfl, xs, SqL.of e⟩
theorem c_tyM {l : Addr} {ds : List PyData} (S : ST G0 H0 L π ρ (As.lst l ds :: μ) G σ H) : tyV K "list" (.ref l) H := by
  obtain ⟨vs, e, _⟩ := S.head
  exact c_tyL e
theorem ST.put {l : Addr} {ds es : List PyData} {vs : List V} (S : ST G0 H0 L π ρ (As.lst l ds :: μ) G σ H) (h : DaAll G vs es) : ST G0 H0 L π ρ (As.lst l es :: μ) G σ (upd H l (.lst vs)) := by
  obtain ⟨gl, _, _⟩ := S.hfp (b := l) rfl
  have g := Gx.put (o := .lst vs) S.same gl
  exact S.step g ⟨vs, upd_same, h⟩ fun b e => by cases e; exact ⟨.inl rfl, gl, by rw [upd_same]; exact fun z => by cases z⟩
theorem c_append {l : Addr} {ds : List PyData} {d : PyData} (S : ST G0 H0 L π ρ (As.lst l ds :: μ) G σ H) (hv : Da G v d) (hl : ds.length < sizeLine) (k : ∀ H', ST G0 H0 L π ρ (As.lst l (ds ++ [d]) :: μ) G σ H' → Q .non H') : rAppend (.ref l) [v] H Q := by
  obtain ⟨vs, e, ha⟩ := S.head
  exact ⟨l, vs, v, rfl, rfl, e, by rw [da_len ha]; exact hl, k _ (S.put (da_snoc ha hv))⟩
theorem c_insert {l : Addr} {ds : List PyData} {d : PyData} {i : Int} (S : ST G0 H0 L π ρ (As.lst l ds :: μ) G σ H) (hv : Da G v d) (hl : ds.length < sizeLine) (h0 : 0 ≤ i) (h1 : i < 2 ^ 63) (k : ∀ H', ST G0 H0 L π ρ (As.lst l (ds.take i.toNat ++ [d] ++ ds.drop i.toNat) :: μ) G σ H' → Q .non H') : rInsert (.ref l) [.int i, v] H Q := by
  obtain ⟨vs, e, ha⟩ := S.head
  exact ⟨l, vs, i, v, rfl, rfl, e, by rw [da_len ha]; exact hl, h0, h1, k _ (S.put (da_app (da_app (da_take _ ha) (.cons hv .nil)) (da_drop _ ha)))⟩
theorem c_extend {l : Addr} {ds es : List PyData} (S : ST G0 H0 L π ρ (As.lst l ds :: μ) G σ H) (hv : Da G v (.list es)) (hl : ds.length + es.length ≤ sizeLine) (k : ∀ H', ST G0 H0 L π ρ (As.lst l (ds ++ es) :: μ) G σ H' → Q .non H') : rExtend (.ref l) [v] H Q := by
  obtain ⟨vs, e, ha⟩ := S.head
  obtain ⟨b, xs, rfl, eb, hb⟩ := da_lst hv
  exact ⟨l, b, vs, xs, rfl, rfl, e, S.same _ _ eb, by rw [da_len ha, da_len hb]; exact hl, k _ (S.put (da_app ha hb))⟩

/-! ### steps: sums and slices of lists and tuples -/
theorem c_plusL {ds es : List PyData} (hv : Da G v (.list ds)) (hw : Da G w (.list es)) (S : ST G0 H0 L π ρ μ G σ H) (hl : ds.length + es.length ≤ sizeLine) (k : ∀ v G' H', ST G0 H0 L π ρ μ G' σ H' → Gr G H G' H' → Da G' v (.list (ds ++ es)) → Q v H') : rPlus K v w H Q := by
  obtain ⟨a, xs, rfl, ea, ha⟩ := da_lst hv
  obtain ⟨b, ys, rfl, eb, hb⟩ := da_lst hw
  exact .inr (.inl ⟨a, b, xs, ys, rfl, rfl, S.same _ _ ea, S.same _ _ eb, by rw [da_len ha, da_len hb]; exact hl, c_mkL' S (da_app ha hb) k⟩)
theorem c_plusLm {ds es : List PyData} (hv : Da G v (.list ds)) (hw : Da G w (.list es)) (S : ST G0 H0 L π ρ μ G σ H) (hl : ds.length + es.length ≤ sizeLine) (k : ∀ p H', ST G0 H0 L π ρ (As.lst p (ds ++ es) :: μ) G σ H' → H0 p = none → Gr G H G H' → Q (.ref p) H') : rPlus K v w H Q := by
  obtain ⟨a, xs, rfl, ea, ha⟩ := da_lst hv
  obtain ⟨b, ys, rfl, eb, hb⟩ := da_lst hw
  exact .inr (.inl ⟨a, b, xs, ys, rfl, rfl, S.same _ _ ea, S.same _ _ eb, by rw [da_len ha, da_len hb]; exact hl, c_newL' S (da_app ha hb) k⟩)
theorem c_plusT {ds es : List PyData} (hv : Da G v (.tuple ds)) (hw : Da G w (.tuple es)) (S : ST G0 H0 L π ρ μ G σ H) (hl : ds.length + es.length ≤ sizeLine) (k : ∀ v G' H', ST G0 H0 L π ρ μ G' σ H' → Gr G H G' H' → Da G' v (.tuple (ds ++ es)) → Q v H') : rPlus K v w H Q := by
  obtain ⟨a, xs, rfl, ea, ha⟩ := da_tup hv
  obtain ⟨b, ys, rfl, eb, hb⟩ := da_tup hw
  refine .inr (.inr ⟨a, b, xs, ys, rfl, rfl, SqT.of (S.same _ _ ea), SqT.of (S.same _ _ eb), by rw [da_len ha, da_len hb]; exact hl, fun e => ?_, fun _ e => ?_, fun _ _ p hp => ?_⟩)
  · subst e
    have := da_len ha
    have e2 : ds = [] := by cases ds with
      | nil => rfl
      | cons _ _ => cases this
    subst e2
    exact k _ _ _ S (Gx.rfl' S.same) hw
  · subst e
    have := da_len hb
    have e2 : es = [] := by cases es with
      | nil => rfl
      | cons _ _ => cases this
    subst e2
    rw [List.append_nil] at k
    exact k _ _ _ S (Gx.rfl' S.same) hv
  · have g : Gr G H (upd G p (.tup (xs ++ ys))) (upd H p (.tup (xs ++ ys))) := Gx.frz S.same hp
    exact k _ _ _ (S.grow g) g (.tup upd_same ((da_app ha hb).mono g.g))
def cutD (ds : List PyData) (lo hi : Option Int) : List PyData := (ds.drop (HT.sIx ds.length 0 lo)).take (HT.sIx ds.length ds.length hi - HT.sIx ds.length 0 lo)
theorem da_cut {xs : List V} {ds : List PyData} (h : DaAll G xs ds) (lo hi : Option Int) : DaAll G (cutV xs lo hi) (cutD ds lo hi) := by
  unfold cutV cutD
  rw [da_len h]
  exact da_take _ (da_drop _ h)
theorem c_slL {ds : List PyData} {lo hi : Option Int} (hv : Da G v (.list ds)) (S : ST G0 H0 L π ρ μ G σ H) (k : ∀ v G' H', ST G0 H0 L π ρ μ G' σ H' → Gr G H G' H' → Da G' v (.list (cutD ds lo hi)) → Q v H') : rSlice K v lo hi H Q := by
  obtain ⟨a, xs, rfl, ea, ha⟩ := da_lst hv
  exact .inl ⟨a, xs, rfl, SqL.of (S.same _ _ ea), c_mkL' S (da_cut ha lo hi) k⟩
theorem c_slLm {ds : List PyData} {lo hi : Option Int} (hv : Da G v (.list ds)) (S : ST G0 H0 L π ρ μ G σ H) (k : ∀ p H', ST G0 H0 L π ρ (As.lst p (cutD ds lo hi) :: μ) G σ H' → H0 p = none → Gr G H G H' → Q (.ref p) H') : rSlice K v lo hi H Q := by
  obtain ⟨a, xs, rfl, ea, ha⟩ := da_lst hv
  exact .inl ⟨a, xs, rfl, SqL.of (S.same _ _ ea), c_newL' S (da_cut ha lo hi) k⟩
/-- of a list that may change -/
theorem c_slM {a : Addr} {xs : List V} {ds : List PyData} {lo hi : Option Int} (e : H a = some (.lst xs)) (ha : DaAll G xs ds) (S : ST G0 H0 L π ρ μ G σ H) (k : ∀ v G' H', ST G0 H0 L π ρ μ G' σ H' → Gr G H G' H' → Da G' v (.list (cutD ds lo hi)) → Q v H') : rSlice K (.ref a) lo hi H Q :=
  .inl ⟨a, xs, rfl, SqL.of e, c_mkL' S (da_cut ha lo hi) k⟩
theorem c_slMm {a : Addr} {xs : List V} {ds : List PyData} {lo hi : Option Int} (e : H a = some (.lst xs)) (ha : DaAll G xs ds) (S : ST G0 H0 L π ρ μ G σ H) (k : ∀ p H', ST G0 H0 L π ρ (As.lst p (cutD ds lo hi) :: μ) G σ H' → H0 p = none → Gr G H G H' → Q (.ref p) H') : rSlice K (.ref a) lo hi H Q :=
  .inl ⟨a, xs, rfl, SqL.of e, c_newL' S (da_cut ha lo hi) k⟩
theorem c_slS {z : Str} {lo hi : Option Int} (hl : z.length ≤ sizeLine) (h : Q (.str (cutS z lo hi)) H) : rSlice K (.str z) lo hi H Q := .inr (.inl ⟨z, rfl, hl, h⟩)
theorem c_listL {ds : List PyData} (hv : Da G v (.list ds)) (S : ST G0 H0 L π ρ μ G σ H) (k : ∀ p H', ST G0 H0 L π ρ (As.lst p ds :: μ) G σ H' → H0 p = none → Gr G H G H' → Q (.ref p) H') : rList K [v] H Q := by
  obtain ⟨a, xs, rfl, ea, ha⟩ := da_lst hv
  exact ⟨a, xs, rfl, .inl (SqL.of (S.same _ _ ea)), c_newL' S ha k⟩
theorem c_listLf {ds : List PyData} (hv : Da G v (.list ds)) (S : ST G0 H0 L π ρ μ G σ H) (k : ∀ v G' H', ST G0 H0 L π ρ μ G' σ H' → Gr G H G' H' → Da G' v (.list ds) → Q v H') : rList K [v] H Q := by
  obtain ⟨a, xs, rfl, ea, ha⟩ := da_lst hv
  exact ⟨a, xs, rfl, .inl (SqL.of (S.same _ _ ea)), c_mkL' S ha k⟩
theorem c_listT {ds : List PyData} (hv : Da G v (.tuple ds)) (S : ST G0 H0 L π ρ μ G σ H) (k : ∀ p H', ST G0 H0 L π ρ (As.lst p ds :: μ) G σ H' → H0 p = none → Gr G H G H' → Q (.ref p) H') : rList K [v] H Q := by
  obtain ⟨a, xs, rfl, ea, ha⟩ := da_tup hv
  exact ⟨a, xs, rfl, .inr (SqT.of (S.same _ _ ea)), c_newL' S ha k⟩
theorem c_tupleL {ds : List PyData} (hv : Da G v (.list ds)) (S : ST G0 H0 L π ρ μ G σ H) (k : ∀ v G' H', ST G0 H0 L π ρ μ G' σ H' → Gr G H G' H' → Da G' v (.tuple ds) → Q v H') : rTuple K [v] H Q := by
  obtain ⟨a, xs, rfl, ea, ha⟩ := da_lst hv
  refine ⟨a, xs, rfl, .inl ⟨SqL.of (S.same _ _ ea), fun p hp => ?_⟩⟩
  have g : Gr G H (upd G p (.tup xs)) (upd H p (.tup xs)) := Gx.frz S.same hp
  exact k _ _ _ (S.grow g) g (.tup upd_same (ha.mono g.g))

/-! ### steps: loops -/
def forW (J : It) (g : TG) (tb : TS) (D : Ends) (σ : St) (H : Hp) : Prop := ∃ W : Nat → Nat → St → Hp → Prop, (∃ m, W 0 m σ H) ∧ ∀ i m σ H, W i m σ H →
    (J.stop i H ∧ D.nx σ H) ∨ (J.go i H ∧ ∃ N : St → Hp → Prop, (∀ σ' H', N σ' H' → ∃ m', m' < m ∧ W (i + 1) m' σ' H') ∧ ∀ x H', J.yld i H x H' → g x σ H' fun σ2 H2 => tb { D with nx := N, ct := N, bk := D.nx } σ2 H2)
theorem c_for {wi : TI} {g : TG} {tb : TS} (h : wi σ H fun J H1 => forW J g tb D σ H1) : tFor wi g tb D σ H := h
def lW (K : PySem.W.Frag) (R : It → Hp → Prop) (x : V) (H : Hp) : Prop := ∃ a, x = .ref a ∧ (∃ xs, SqL K H a xs) ∧ R (Itl K a) H
def rW1 (R : It → Hp → Prop) (vs : List V) (H : Hp) : Prop := ∃ j : Int, vs = [.int j] ∧ -(2 ^ 62) ≤ j ∧ j < 2 ^ 62 ∧ R (Itr 0 j.toNat) H
def rW2 (R : It → Hp → Prop) (vs : List V) (H : Hp) : Prop := ∃ i j : Int, vs = [.int i, .int j] ∧ (-(2 ^ 62) ≤ i ∧ i < 2 ^ 62 ∧ -(2 ^ 62) ≤ j ∧ j < 2 ^ 62) ∧ R (Itr i (j - i).toNat) H
def rW3 (R : It → Hp → Prop) (vs : List V) (H : Hp) : Prop := ∃ (i j c : Int) (n : Nat), vs = [.int i, .int j, .int c] ∧ RgC i j c n ∧ R (Itc i c n) H
theorem c_iList {tl : TE} {R : It → Hp → Prop} (h : tl σ H (lW K R)) : iList K tl σ H R := h
theorem c_iR1 {ta : TA} {R : It → Hp → Prop} (h : ta σ H (rW1 R)) : iRng1 ta σ H R := h
theorem c_iR2 {ta : TA} {R : It → Hp → Prop} (h : ta σ H (rW2 R)) : iRng2 ta σ H R := h
theorem c_iR3 {ta : TA} {R : It → Hp → Prop} (h : ta σ H (rW3 R)) : iRng3 ta σ H R := h
theorem c_r1 {j : Int} {R : It → Hp → Prop} (h1 : -(2 ^ 62) ≤ j) (h2 : j < 2 ^ 62) (h : R (Itr 0 j.toNat) H) : rW1 R [.int j] H := ⟨j, rfl, h1, h2, h⟩
theorem c_r2 {a b : Int} {R : It → Hp → Prop} (h1 : -(2 ^ 62) ≤ a ∧ a < 2 ^ 62 ∧ -(2 ^ 62) ≤ b ∧ b < 2 ^ 62) (h : R (Itr a (b - a).toNat) H) : rW2 R [.int a, .int b] H := ⟨a, b, rfl, h1, h⟩
theorem c_rDown {a b : Int} {R : It → Hp → Prop} (h1 : -(2 ^ 62) ≤ a ∧ a < 2 ^ 62 ∧ -(2 ^ 62) ≤ b ∧ b < 2 ^ 62) (h : R (Itc a (-1) (a - b).toNat) H) : rW3 R [.int a, .int b, .int (-1)] H :=
  ⟨a, b, -1, _, rfl, RgC.neg h1.1 h1.2.1 h1.2.2.1 h1.2.2.2, h⟩
/-- over a frozen list: Pv by the turn, G, the slots, H -/
theorem c_forL {g : TG} {tb : TS} {ds : List PyData} (Pv : Nat → Hp → St → Hp → Prop) (hv : Da G v (.list ds)) (h0 : Pv 0 G σ H) (hp : ∀ i G σ H, Pv i G σ H → Da G v (.list ds) ∧ Same G H)
    (turn : ∀ i d y G' σ' H', ds[i]? = some d → Da G' y d → Pv i G' σ' H' → g y σ' H' fun σ2 H2 => tb { D with nx := fun σ3 H3 => ∃ G3, Pv (i + 1) G3 σ3 H3, ct := fun σ3 H3 => ∃ G3, Pv (i + 1) G3 σ3 H3, bk := D.nx } σ2 H2)
    (done : ∀ G' σ' H', Pv ds.length G' σ' H' → D.nx σ' H') :
    lW K (fun J H1 => forW J g tb D σ H1) v H := by
  obtain ⟨a, xs, rfl, ea, ha⟩ := da_lst hv
  refine ⟨a, rfl, ⟨xs, SqL.of ((hp 0 _ _ _ h0).2 _ _ ea)⟩, fun i m σ H => m = ds.length - i ∧ i ≤ ds.length ∧ ∃ G, Pv i G σ H, ⟨_, rfl, Nat.zero_le _, G, h0⟩, ?_⟩
  rintro i m σ' H' ⟨rfl, hi, G', p⟩
  obtain ⟨h1, h2⟩ := hp i G' σ' H' p
  obtain ⟨b, ys, e, eb, hb⟩ := da_lst h1
  cases e
  have el := da_len hb
  have q : SqL K H' a ys := SqL.of (h2 _ _ eb)
  by_cases hlt : i < ds.length
  · refine .inr ⟨⟨ys, ys[i]'(by omega), q, by simp [show i < ys.length by omega]⟩, fun σ3 H3 => ∃ G3, Pv (i + 1) G3 σ3 H3, fun σ3 H3 p3 => ⟨ds.length - (i + 1), by omega, rfl, hlt, p3⟩, fun x H2 y => ?_⟩
    obtain ⟨e, y⟩ := y
    subst e
    obtain ⟨d, hd, hx⟩ := da_getV hb (y ys q)
    exact turn i d x G' σ' _ hd hx p
  · have e : i = ds.length := by omega
    subst e
    exact .inl ⟨⟨ys, q, by omega⟩, done G' σ' H' p⟩
/-- over a range upwards -/
theorem c_forR {lo : Int} {n : Nat} {g : TG} {tb : TS} (Pv : Nat → Hp → St → Hp → Prop) (h0 : Pv 0 G σ H)
    (turn : ∀ i G' σ' H', i < n → Pv i G' σ' H' → g (.int (lo + i)) σ' H' fun σ2 H2 => tb { D with nx := fun σ3 H3 => ∃ G3, Pv (i + 1) G3 σ3 H3, ct := fun σ3 H3 => ∃ G3, Pv (i + 1) G3 σ3 H3, bk := D.nx } σ2 H2)
    (done : ∀ G' σ' H', Pv n G' σ' H' → D.nx σ' H') :
    forW (Itr lo n) g tb D σ H :=
  for_it walk_range (fun i σ H => ∃ G, Pv i G σ H) ⟨G, h0⟩ (fun _ _ _ _ _ => True.intro) (fun i x σ' H1 H2 hi ⟨G', p⟩ y => by
    obtain ⟨rfl, rfl⟩ := y
    exact turn i G' σ' _ hi p) fun σ' H' ⟨G', p⟩ => done G' σ' H' p
theorem c_forC {lo c : Int} {n : Nat} {g : TG} {tb : TS} (Pv : Nat → Hp → St → Hp → Prop) (h0 : Pv 0 G σ H)
    (turn : ∀ i G' σ' H', i < n → Pv i G' σ' H' → g (.int (lo + (i : Nat) * c)) σ' H' fun σ2 H2 => tb { D with nx := fun σ3 H3 => ∃ G3, Pv (i + 1) G3 σ3 H3, ct := fun σ3 H3 => ∃ G3, Pv (i + 1) G3 σ3 H3, bk := D.nx } σ2 H2)
    (done : ∀ G' σ' H', Pv n G' σ' H' → D.nx σ' H') :
    forW (Itc lo c n) g tb D σ H :=
  for_it walk_rangeC (fun i σ H => ∃ G, Pv i G σ H) ⟨G, h0⟩ (fun _ _ _ _ _ => True.intro) (fun i x σ' H1 H2 hi ⟨G', p⟩ y => by
    obtain ⟨rfl, rfl⟩ := y
    exact turn i G' σ' _ hi p) fun σ' H' ⟨G', p⟩ => done G' σ' H' p

/-! ### steps: comprehensions -/
def LcW (J : It) (g : TG) (tt : TT) (te : TE) (vs : List Nat) (σ : St) (H1 : Hp) (D : Addr) (Qd : Hp → Prop) : Prop :=
  ∃ W : Nat → Nat → Hp → Prop, (∃ m, W 0 m (upd H1 D (.lst []))) ∧ ∀ i m H, W i m H →
      (J.stop i H ∧ Qd H) ∨ (J.go i H ∧ ∃ Nx : Hp → Prop, (∀ H', Nx H' → ∃ m', m' < m ∧ W (i + 1) m' H') ∧ ∀ x H', J.yld i H x H' → g x (wipe σ vs) H' fun σ2 H2 => wipe σ2 vs = wipe σ vs ∧ tt σ2 H2 fun b H3 =>
        if b = true then te σ2 H3 fun y H4 => ∃ acc, H4 D = some (.lst acc) ∧ acc.length < sizeLine ∧ Nx (upd H4 D (.lst (acc ++ [y]))) else Nx H3)
theorem c_lc {wi : TI} {g : TG} {vs : List Nat} (h : wi σ H fun J H1 => ∀ D, H1 D = none → LcW J g tt te vs σ H1 D (Q (.ref D))) : tLc wi g tt te vs σ H Q := h
/-- the slots in a comprehension's block: its own are forgotten -/
def wipeR (ρ : List Sl) : List Nat → List Sl
  | [] => ρ
  | v :: vs => (wipeR ρ vs).set v .any
theorem env_wipe (e : EnvOk G σ ρ) : ∀ vs, EnvOk G (wipe σ vs) (wipeR ρ vs)
  | [] => e
  | v :: vs => (env_wipe e vs).setS v True.intro
theorem ST.wipe (S : ST G0 H0 L π ρ μ G σ H) (vs : List Nat) : ST G0 H0 L π (wipeR ρ vs) μ G (L2.wipe σ vs) H := S.slot (env_wipe S.env vs)
/-- behind a turn: the slots of the block again -/
theorem ST.wipe' {σ2 σ : St} {vs : List Nat} {ρ2 : List Sl} (S : ST G0 H0 L π ρ2 μ G σ2 H) (e : L2.wipe σ2 vs = L2.wipe σ vs) : ST G0 H0 L π (wipeR ρ2 vs) μ G (L2.wipe σ vs) H := by
  rw [← e]
  exact S.wipe vs
/-- a comprehension's new list -/
theorem ST.newD (S : ST G0 H0 L π ρ μ G σ H) {p : Addr} (hp : H p = none) : ST G0 H0 L π ρ (As.lst p [] :: μ) G σ (upd H p (.lst [])) ∧ H0 p = none :=
  ⟨S.add (Gx.new S.same hp) ⟨[], upd_same, .nil⟩ fun b e => by cases e; exact ⟨hp, none_of_same S.same hp, by rw [upd_same]; exact fun z => by cases z⟩, S.new0 hp⟩
def lcItem (p : Addr) (Nx : Hp → Prop) (y : V) (H : Hp) : Prop := ∃ acc, H p = some (.lst acc) ∧ acc.length < sizeLine ∧ Nx (upd H p (.lst (acc ++ [y])))
/-- a turn's end: the item goes to the new list -/
theorem c_lcItem {p : Addr} {ds : List PyData} {d : PyData} {Nx : Hp → Prop} (S : ST G0 H0 L π ρ (As.lst p ds :: μ) G σ H) (hv : Da G v d) (hl : ds.length < sizeLine) (k : ∀ H', ST G0 H0 L π ρ (As.lst p (ds ++ [d]) :: μ) G σ H' → Nx H') : lcItem p Nx v H := by
  obtain ⟨vs, e, ha⟩ := S.head
  exact ⟨vs, e, by rw [da_len ha]; exact hl, k _ (S.put (da_snoc ha hv))⟩
theorem wipe_set {σ : St} {i : Nat} {x : Option V} : ∀ vs : List Nat, (i ∈ vs → L2.wipe (σ.set i x) vs = L2.wipe σ vs) ∧ L2.wipe (σ.set i x) vs = (if i ∈ vs then L2.wipe σ vs else (L2.wipe σ vs).set i x)
  | [] => ⟨(fun h => nomatch h), rfl⟩
  | v :: vs => by
    obtain ⟨h1, h2⟩ := wipe_set (σ := σ) (i := i) (x := x) vs
    have key : i ∈ v :: vs → L2.wipe (σ.set i x) (v :: vs) = L2.wipe σ (v :: vs) := fun h => by
      show (L2.wipe (σ.set i x) vs).set v none = (L2.wipe σ vs).set v none
      by_cases hi : i ∈ vs
      · rw [h1 hi]
      · have hv : i = v := by rcases List.mem_cons.mp h with e | e; exact e; exact absurd e hi
        rw [h2, if_neg hi, hv, List.set_set]
    refine ⟨key, ?_⟩
    by_cases hi : i ∈ v :: vs
    · rw [if_pos hi]; exact key hi
    · rw [if_neg hi]
      have hv : i ≠ v := fun e => hi (by rw [e]; exact List.mem_cons_self ..)
      have hvs : i ∉ vs := fun e => hi (List.mem_cons_of_mem _ e)
      show (L2.wipe (σ.set i x) vs).set v none = ((L2.wipe σ vs).set v none).set i x
      rw [h2, if_neg hvs, List.set_comm _ _ hv]
theorem wipe_in {σ : St} {i : Nat} {x : Option V} {vs : List Nat} (h : i ∈ vs) : L2.wipe (σ.set i x) vs = L2.wipe σ vs := (wipe_set vs).1 h
theorem wipe_wipe (σ : St) : ∀ vs : List Nat, L2.wipe (L2.wipe σ vs) vs = L2.wipe σ vs
  | [] => rfl
  | v :: vs => by
    show (L2.wipe ((L2.wipe σ vs).set v none) vs).set v none = (L2.wipe σ vs).set v none
    have e := (wipe_set (σ := L2.wipe σ vs) (i := v) (x := none) vs).2
    rw [e]
    split
    · rw [wipe_wipe σ vs]
    · rw [wipe_wipe σ vs, List.set_set]
theorem c_setc {i : Nat} {Q : St → Hp → Prop} (S : ST G0 H0 L π ρ μ G σ H) (h : ST G0 H0 L π (ρ.set i (.val v)) μ G (σ.set i (some v)) H → Q (σ.set i (some v)) H) : gName i v σ H Q := h (S.set i)
theorem c_setcD {i : Nat} {d : PyData} {Q : St → Hp → Prop} (S : ST G0 H0 L π ρ μ G σ H) (hv : Da G v d) (h : ST G0 H0 L π (ρ.set i (.dat d)) μ G (σ.set i (some v)) H → Q (σ.set i (some v)) H) : gName i v σ H Q := h (S.setD i hv)
theorem c_lcR {lo : Int} {n : Nat} {g : TG} {vs : List Nat} {p : Addr} {Qd : Hp → Prop} (Pv : Nat → Hp → Hp → Prop) (h0 : Pv 0 G (upd H p (.lst [])))
    (turn : ∀ i G' H', i < n → Pv i G' H' → g (.int (lo + i)) (wipe σ vs) H' fun σ2 H2 => wipe σ2 vs = wipe σ vs ∧ tt σ2 H2 fun b H3 =>
      if b = true then te σ2 H3 fun y H4 => ∃ acc, H4 p = some (.lst acc) ∧ acc.length < sizeLine ∧ ∃ G4, Pv (i + 1) G4 (upd H4 p (.lst (acc ++ [y]))) else ∃ G4, Pv (i + 1) G4 H3) (done : ∀ G' H', Pv n G' H' → Qd H') : LcW (Itr lo n) g tt te vs σ H p Qd :=
  lc_range (fun i H => ∃ G, Pv i G H) ⟨G, h0⟩ (fun i H' hi ⟨G', q⟩ => turn i G' H' hi q) fun H' ⟨G', q⟩ => done G' H' q
theorem c_iL {ds : List PyData} {R : It → Hp → Prop} (hv : Da G v (.list ds)) (s : Same G H) (k : ∀ a, v = .ref a → R (Itl K a) H) : lW K R v H := by
  obtain ⟨a, xs, rfl, e, ha⟩ := da_lst hv
  exact ⟨a, rfl, ⟨xs, SqL.of (s _ _ e)⟩, k a rfl⟩
theorem c_iM {a : Addr} {xs : List V} {R : It → Hp → Prop} (e : H a = some (.lst xs)) (k : R (Itl K a) H) : lW K R (.ref a) H := ⟨a, rfl, ⟨xs, SqL.of e⟩, k⟩
theorem c_lcL {a : Addr} {ds : List PyData} {g : TG} {vs : List Nat} {p : Addr} {Qd : Hp → Prop} (Pv : Nat → Hp → Hp → Prop) (h0 : Pv 0 G (upd H p (.lst []))) (hp : ∀ i G' H', Pv i G' H' → Da G' (.ref a) (.list ds) ∧ Same G' H')
    (turn : ∀ i d y G' H', ds[i]? = some d → Da G' y d → Pv i G' H' → g y (wipe σ vs) H' fun σ2 H2 => wipe σ2 vs = wipe σ vs ∧ tt σ2 H2 fun b H3 =>
      if b = true then te σ2 H3 fun y H4 => ∃ acc, H4 p = some (.lst acc) ∧ acc.length < sizeLine ∧ ∃ G4, Pv (i + 1) G4 (upd H4 p (.lst (acc ++ [y]))) else ∃ G4, Pv (i + 1) G4 H3) (done : ∀ G' H', Pv ds.length G' H' → Qd H') : LcW (Itl K a) g tt te vs σ H p Qd := by
  refine ⟨fun i m H => m = ds.length - i ∧ i ≤ ds.length ∧ ∃ G, Pv i G H, ⟨_, rfl, Nat.zero_le _, G, h0⟩, ?_⟩
  rintro i m H' ⟨rfl, hi, G', q⟩
  obtain ⟨h1, h2⟩ := hp i G' H' q
  obtain ⟨b, ys, e, eb, hb⟩ := da_lst h1
  cases e
  have el := da_len hb
  have hq : SqL K H' a ys := SqL.of (h2 _ _ eb)
  by_cases hlt : i < ds.length
  · refine .inr ⟨⟨ys, ys[i]'(by omega), hq, by simp [show i < ys.length by omega]⟩, fun H3 => ∃ G3, Pv (i + 1) G3 H3, fun H3 p3 => ⟨ds.length - (i + 1), by omega, rfl, hlt, p3⟩, fun x H2 y => ?_⟩
    obtain ⟨e, y⟩ := y
    subst e
    obtain ⟨d, hd, hx⟩ := da_getV hb (y ys hq)
    exact turn i d x G' _ hd hx q
  · have e : i = ds.length := by omega
    subst e
    exact .inl ⟨⟨ys, hq, by omega⟩, done G' H' q⟩
/-- a comprehension over a frozen list: I tells what is made behind i turns -/
theorem c_compL {a : Addr} {ds : List PyData} {g : TG} {vs : List Nat} {p : Addr} {Qd : Hp → Prop} (I : Nat → List PyData → Prop) (S : ST G0 H0 L π ρ μ G σ H) (hv : Da G (.ref a) (.list ds)) (hp : H p = none) (h0 : I 0 [])
    (turn : ∀ i d y acc G' H', ds[i]? = some d → Da G' y d → I i acc → ST G0 H0 L (pE σ ρ :: pD (.ref a) (.list ds) :: pS G :: π) (wipeR ρ vs) (As.lst p acc :: μ) G' (wipe σ vs) H' →
      g y (wipe σ vs) H' fun σ2 H2 => wipe σ2 vs = wipe σ vs ∧ tt σ2 H2 fun b H3 =>
      if b = true then te σ2 H3 (lcItem p fun H4 => ∃ G4 acc', I (i + 1) acc' ∧ ST G0 H0 L (pE σ ρ :: pD (.ref a) (.list ds) :: pS G :: π) (wipeR ρ vs) (As.lst p acc' :: μ) G4 (wipe σ vs) H4)
      else ∃ G4 acc', I (i + 1) acc' ∧ ST G0 H0 L (pE σ ρ :: pD (.ref a) (.list ds) :: pS G :: π) (wipeR ρ vs) (As.lst p acc' :: μ) G4 (wipe σ vs) H3)
    (done : ∀ G' H' acc, Same G G' → I ds.length acc → ST G0 H0 L π ρ (As.lst p acc :: μ) G' σ H' → H0 p = none → Qd H') : LcW (Itl K a) g tt te vs σ H p Qd := by
  refine c_lcL (G := G) (fun i G' H' => ∃ acc, I i acc ∧ ST G0 H0 L (pE σ ρ :: pD (.ref a) (.list ds) :: pS G :: π) (wipeR ρ vs) (As.lst p acc :: μ) G' (wipe σ vs) H') ⟨[], h0, (((((S.pinP (p := pS G) (Same.refl G)).pinned hv).pinP (p := pE σ ρ) S.env).wipe vs).newD hp).1⟩ (fun i G' H' ⟨acc, _, S⟩ => ⟨S.pin1, S.same⟩) ?_ ?_
  · rintro i d y G' H' hd hy ⟨acc, hI, S⟩
    exact turn i d y acc G' H' hd hy hI S
  · rintro G' H' ⟨acc, hI, S'⟩
    exact done G' H' acc (S'.pin (pS G) (List.mem_cons_of_mem _ (List.mem_cons_of_mem _ (List.mem_cons_self ..)))) hI S'.back.unpin.unpin (S.new0 hp)
/-- .. over a range -/
theorem c_compR {lo : Int} {n : Nat} {g : TG} {vs : List Nat} {p : Addr} {Qd : Hp → Prop} (I : Nat → List PyData → Prop) (S : ST G0 H0 L π ρ μ G σ H) (hp : H p = none) (h0 : I 0 [])
    (turn : ∀ i acc G' H', i < n → I i acc → ST G0 H0 L (pE σ ρ :: pS G :: π) (wipeR ρ vs) (As.lst p acc :: μ) G' (wipe σ vs) H' →
      g (.int (lo + i)) (wipe σ vs) H' fun σ2 H2 => wipe σ2 vs = wipe σ vs ∧ tt σ2 H2 fun b H3 =>
      if b = true then te σ2 H3 (lcItem p fun H4 => ∃ G4 acc', I (i + 1) acc' ∧ ST G0 H0 L (pE σ ρ :: pS G :: π) (wipeR ρ vs) (As.lst p acc' :: μ) G4 (wipe σ vs) H4)
      else ∃ G4 acc', I (i + 1) acc' ∧ ST G0 H0 L (pE σ ρ :: pS G :: π) (wipeR ρ vs) (As.lst p acc' :: μ) G4 (wipe σ vs) H3)
    (done : ∀ G' H' acc, Same G G' → I n acc → ST G0 H0 L π ρ (As.lst p acc :: μ) G' σ H' → H0 p = none → Qd H') : LcW (Itr lo n) g tt te vs σ H p Qd := by
  refine c_lcR (G := G) (fun i G' H' => ∃ acc, I i acc ∧ ST G0 H0 L (pE σ ρ :: pS G :: π) (wipeR ρ vs) (As.lst p acc :: μ) G' (wipe σ vs) H') ⟨[], h0, ((((S.pinP (p := pS G) (Same.refl G)).save).wipe vs).newD hp).1⟩ ?_ ?_
  · rintro i G' H' hi ⟨acc, hI, S⟩
    exact turn i acc G' H' hi hI S
  · rintro G' H' ⟨acc, hI, S'⟩
    exact done G' H' acc (S'.pin (pS G) (List.mem_cons_of_mem _ (List.mem_cons_self ..))) hI S'.back.unpin (S.new0 hp)
/-- a value that a part of the reading comes to, whatever is wanted -/
theorem c_cut {te : TE} (h : ∀ Q' : VK, Q' v H → te σ H Q') (k : Q v H) : te σ H Q := h Q k
theorem c_yes {Q : Bool → Hp → Prop} (h : Q true H) : tYes σ H Q := h
end
end Hw

/-! Hw, part C: promises, defs, ends. -/
namespace Hw
open PySem L2
/-- a def that stands at a place and keeps a promise -/
def OkF (P : Program) (w : World) (K : PySem.W.Frag) (mg : Str → Option Value) (base : Heap) (CX : CXT) (p : Str × Option Str) (ps : List Str) (k : Nat) (sp : Sp) : Prop :=
  ∃ fd : FuncData, FnOk P w K mg base CX k (He.fAd K p) fd ps sp ∧ PySem.W.keepIn K (.ref (He.fAd K p)) = true ∧ Binds K fd ps []

/-- data in, data out; nothing that stood is changed -/
def spP (R : List PyData → PyData → Prop) : Sp := fun vs H Q _ => ∃ G ds d, Same G H ∧ DaAll G vs ds ∧ R ds d ∧ ∀ v G' H', Gr G H G' H' → Da G' v d → Q v H'
/-- data in, a new list out (it may be changed by who called) -/
def spL (R : List PyData → List PyData → Prop) : Sp := fun vs H Q _ => ∃ G ds es, Same G H ∧ DaAll G vs ds ∧ R ds es ∧
  ∀ p ws G' H', Gr G H G' H' → H p = none → G' p = none → H' p = some (.lst ws) → DaAll G' ws es → Q (.ref p) H'
def slotOf : PyData → Sl
  | .none => .val .non
  | .bool b => .val (.bl b)
  | .int i => .val (.int i)
  | .str x => .val (.str x)
  | d => .dat d
theorem slotOf_ok {G : Hp} {v : V} : ∀ {d : PyData}, Da G v d → SlOk G (some v) (slotOf d)
  | .none, h => by cases h; rfl
  | .bool _, h => by cases h; rfl
  | .int _, h => by cases h; rfl
  | .str _, h => by cases h; rfl
  | .list _, h => ⟨v, rfl, h⟩
  | .tuple _, h => ⟨v, rfl, h⟩
  | .dict _, h => by cases h
theorem env_args {G : Hp} : ∀ {vs : List V} {ds : List PyData}, DaAll G vs ds → EnvOk G (vs.map some) (ds.map slotOf)
  | _, _, .nil => True.intro
  | _, _, .cons a b => ⟨slotOf_ok a, env_args b⟩
section
variable {G0 H0 : Hp} {L : Addr → Prop} {π : List Pin} {ρ : List Sl} {μ : List As} {G H : Hp} {σ : St} {Q : VK} {E : XK}
theorem ST.start {N : List Str} {vs : List V} {ds : List PyData} (s : Same G H) (hd : DaAll G vs ds) : ST G H NoL [] (ds.map slotOf ++ List.replicate (N.length - ds.length) .any) [] G (L2.start N vs) H :=
  ⟨Gx.rfl' s, by rw [← da_len hd]; exact env_app (env_args hd) (env_none G _), (fun _ h => nomatch h), (fun _ h => nomatch h), (fun _ h => nomatch h), List.Pairwise.nil⟩
/-- .. with slots told by hand -/
theorem ST.startV {N : List Str} {vs : List V} {ρ : List Sl} (s : Same G H) (he : EnvOk G (vs.map some) ρ) : ST G H NoL [] (ρ ++ List.replicate (N.length - ρ.length) .any) [] G (L2.start N vs) H := by
  have e : vs.length = ρ.length := by have := he.len; rw [List.length_map] at this; exact this
  exact ⟨Gx.rfl' s, by rw [← e]; exact env_app he (env_none G _), (fun _ h => nomatch h), (fun _ h => nomatch h), (fun _ h => nomatch h), List.Pairwise.nil⟩
/-- .. with heaplets that are passed -/
theorem ST.startM {N : List Str} {vs : List V} {ρ : List Sl} {L : Addr → Prop} (s : Same G H) (he : EnvOk G (vs.map some) ρ) (ok : ∀ a ∈ μ, a.ok G H) (fp : ∀ a ∈ μ, ∀ b, a.fp b → G b = none ∧ H b ≠ none ∧ L b) (dj : μ.Pairwise fun a c => ∀ b, a.fp b → ¬ c.fp b) :
    ST G H L [] (ρ ++ List.replicate (N.length - ρ.length) .any) μ G (L2.start N vs) H := by
  have e : vs.length = ρ.length := by have := he.len; rw [List.length_map] at this; exact this
  exact ⟨Gx.rfl' s, by rw [← e]; exact env_app he (env_none G _), (fun _ h => nomatch h), ok, fun a ha b hb => ⟨(fp a ha b hb).1, (fp a ha b hb).2.1, .inl (fp a ha b hb).2.2⟩, dj⟩
theorem c_callP {R : List PyData → PyData → Prop} {vs : List V} {ds : List PyData} {d : PyData} (S : ST G0 H0 L π ρ μ G σ H) (hd : DaAll G vs ds) (hR : R ds d) (k : ∀ v G' H', ST G0 H0 L π ρ μ G' σ H' → Gr G H G' H' → Da G' v d → Q v H') : spP R vs H Q E :=
  ⟨G, ds, d, S.same, hd, hR, fun v G' H' g hv => k v G' H' (S.grow g) g hv⟩
theorem c_callL {R : List PyData → List PyData → Prop} {vs : List V} {ds es : List PyData} (S : ST G0 H0 L π ρ μ G σ H) (hd : DaAll G vs ds) (hR : R ds es) (k : ∀ p G' H', ST G0 H0 L π ρ (As.lst p es :: μ) G' σ H' → H0 p = none → Gr G H G' H' → Q (.ref p) H') : spL R vs H Q E :=
  ⟨G, ds, es, S.same, hd, hR, fun p ws G' H' g hp gp e hw => k p G' H' (S.add g ⟨ws, e, hw⟩ fun b q => by cases q; exact ⟨hp, gp, by rw [e]; exact fun z => by cases z⟩) (S.new0 hp) g⟩
theorem Gr.frzL {G H G' H' : Hp} {p : Addr} {ws : List V} (g : Gr G H G' H') (hp : H p = none) (e : H' p = some (.lst ws)) (gp : G' p = none) : Gr G H (upd G' p (.lst ws)) H' := by
  refine ⟨fun b o q => ?_, g.h, fun b o q => ?_, fun b q n => ?_, g.dom⟩
  · have := g.g b o q
    rw [upd_ne (ne_of_none this gp)]; exact this
  · by_cases hb : b = p
    · subst hb; rw [upd_same] at q; cases q; exact e
    · rw [upd_ne hb] at q; exact g.s b o q
  · have hb : b ≠ p := fun z => q (by rw [z]; exact hp)
    rw [upd_ne hb]; exact g.ap b q n
theorem c_callLf {R : List PyData → List PyData → Prop} {vs : List V} {ds es : List PyData} (S : ST G0 H0 L π ρ μ G σ H) (hd : DaAll G vs ds) (hR : R ds es) (k : ∀ v G' H', ST G0 H0 L π ρ μ G' σ H' → Gr G H G' H' → Da G' v (.list es) → Q v H') : spL R vs H Q E :=
  ⟨G, ds, es, S.same, hd, hR, fun p ws G' H' g hp gp e hw => by
    have g2 := g.frzL hp e gp
    have sg : Same G' (upd G' p (.lst ws)) := fun b o q => by rw [upd_ne (ne_of_none q gp)]; exact q
    exact k _ _ _ (S.grow g2) g2 (.lst upd_same (hw.mono sg))⟩
/-- a new list of ints out, whatever G the arguments are told by (lists that may change are told as they stand) -/
theorem c_callLi {R : List PyData → List PyData → Prop} {vs : List V} {ds : List PyData} {ns : List Int} {G1 : Hp} (S : ST G0 H0 L π ρ μ G σ H) (s1 : Same G1 H) (hd : DaAll G1 vs ds) (hR : R ds (ns.map .int)) (k : ∀ p H', ST G0 H0 L π ρ (As.lst p (ns.map .int) :: μ) G σ H' → H0 p = none → Gr G H G H' → Q (.ref p) H') : spL R vs H Q E :=
  ⟨G1, ds, _, s1, hd, hR, fun p ws G' H' g hp gp e hw => by
    have ew := da_ints hw
    subst ew
    have g2 : Gr G H G H' := ⟨Same.refl G, g.h, S.same.trans g.same, fun _ _ n => n, g.dom⟩
    exact k p H' (S.add g2 ⟨_, e, da_of_ints ns⟩ fun b q => by cases q; exact ⟨hp, none_of_same S.same hp, by rw [e]; exact fun z => by cases z⟩) (S.new0 hp) g2⟩
/-- a list that may change, as it stands -/
theorem lend {l : Addr} {vs : List V} {ds : List PyData} (s : Same G H) (gl : G l = none) (e : H l = some (.lst vs)) (h : DaAll G vs ds) : Same (upd G l (.lst vs)) H ∧ Da (upd G l (.lst vs)) (.ref l) (.list ds) ∧ Same G (upd G l (.lst vs)) := by
  have sg : Same G (upd G l (.lst vs)) := fun b o q => by rw [upd_ne (ne_of_none q gl)]; exact q
  refine ⟨fun b o q => ?_, .lst upd_same (h.mono sg), sg⟩
  by_cases hb : b = l
  · subst hb; rw [upd_same] at q; cases q; exact e
  · rw [upd_ne hb] at q; exact s b o q
/-- a def's end: data -/
theorem ret_P {d : PyData} {v : V} (S : ST G0 H0 NoL π ρ μ G σ H) (hv : Da G v d) (k : ∀ v G' H', Gr G0 H0 G' H' → Da G' v d → Q v H') : Q v H := k v G H S.gx hv
theorem ret_L {es : List PyData} {p : Addr} (S : ST G0 H0 NoL π ρ (As.lst p es :: μ) G σ H) (h0 : H0 p = none) (k : ∀ p ws G' H', Gr G0 H0 G' H' → H0 p = none → G' p = none → H' p = some (.lst ws) → DaAll G' ws es → Q (.ref p) H') : Q (.ref p) H := by
  obtain ⟨vs, e, ha⟩ := S.head
  exact k p vs G H S.gx h0 (S.hfp rfl).1 e ha
/-- a list out that is frozen for the caller -/
theorem ret_Lf {es : List PyData} {p : Addr} (S : ST G0 H0 NoL π ρ (As.lst p es :: μ) G σ H) (h0 : H0 p = none) (k : ∀ v G' H', Gr G0 H0 G' H' → Da G' v (.list es) → Q v H') : Q (.ref p) H := by
  obtain ⟨G', S', hd, _⟩ := S.freeze h0
  exact k _ G' H S'.gx hd
end
/-- a promise that nobody can ask -/
theorem fn_never {P : Program} {w : World} {K : PySem.W.Frag} {mg : Str → Option Value} {base : Heap} {CX : CXT} {k : Nat} {f : Addr} {fd : FuncData} {ps : List Str} {sp : Sp} (h : ∀ vs H Q E, ¬ sp vs H Q E) : FnOk P w K mg base CX k f fd ps sp :=
  ⟨fun vs H Q E q => (h vs H Q E q).elim, fun A outer s H args us vs Q E _ _ _ _ q => (h vs H Q E q).elim⟩
/-! ### isinstance of data -/
def tyName : PyData → String
  | .none => "NoneType"
  | .bool _ => "bool"
  | .int _ => "int"
  | .str _ => "str"
  | .list _ => "list"
  | .tuple _ => "tuple"
  | .dict _ => "dict"
theorem da_tyx {K : PySem.W.Frag} {G H : Hp} {v : V} (s : Same G H) : ∀ {d : PyData}, Da G v d → TyX K H v (.type (tyName d))
  | .none, h => by cases h; exact .base .non
  | .bool _, h => by cases h; exact .base (.bl _)
  | .int _, h => by cases h; exact .base (.int _)
  | .str _, h => by cases h; exact .base (.str _)
  | .list _, h => by cases h with | lst e _ => exact .base (.lst (s _ _ e))
  | .tuple _, h => by cases h with | tup e _ => exact .base (.tup (s _ _ e))
  | .dict _, h => by cases h
section
variable {K : PySem.W.Frag} {G0 H0 : Hp} {L : Addr → Prop} {π : List Pin} {ρ : List Sl} {μ : List As} {G H : Hp} {σ : St} {Q : VK} {v : V} {d : PyData}
theorem c_isi {T : String} {b : Bool} (hv : Da G v d) (s : Same G H) (h : kitB (tyName d) T = some b) (k : Q (.bl b) H) : rIsi K [v, .ty T] H Q :=
  .inl ⟨v, .ty T, _, _, b, rfl, .ty T, da_tyx s hv, kit_ty h, k⟩
theorem c_mkRaw {xs : List V} (S : ST G0 H0 L π ρ μ G σ H) (hl : xs.length ≤ sizeLine) (k : ∀ p H', ST G0 H0 L π ρ μ G σ H' → Gr G H G H' → H' p = some (.tup xs) → Q (.ref p) H') : mkTup Q xs H :=
  ⟨hl, fun p hp => k p _ (S.grow (Gx.new S.same hp)) (Gx.new S.same hp) upd_same⟩
theorem kit2 {t c1 c2 : Value} {b1 b2 : Bool} (h1 : PySem.W.kitOne K t c1 = some b1) (h2 : PySem.W.kitOne K t c2 = some b2) : PySem.W.kitAny K t [c1, c2] = some (b1 || b2) :=
  kitAny_cons h1 (fun e => by subst e; exact kitAny_cons h2 (fun e => by subst e; rfl) fun e => by subst e; rfl) fun e => by subst e; rfl
theorem c_isi2 {T1 T2 : String} {b1 b2 : Bool} {p : Addr} (hv : Da G v d) (s : Same G H) (e : H p = some (.tup [.ty T1, .ty T2])) (h1 : kitB (tyName d) T1 = some b1) (h2 : kitB (tyName d) T2 = some b2) (k : Q (.bl (b1 || b2)) H) : rIsi K [v, .ref p] H Q :=
  .inr ⟨v, p, _, _, [.type T1, .type T2], _, rfl, e, .cons (.ty T1) (.cons (.ty T2) .nil), da_tyx s hv, kit2 (kit_ty h1) (kit_ty h2), k⟩
end
/-! ### depth and width of data -/
/-- at most n lists or tuples in one another, each not too long -/
def fits : Nat → PyData → Prop
  | _, .none => True
  | _, .bool _ => True
  | _, .int _ => True
  | _, .str _ => True
  | n + 1, .list ds => ds.length < 2 ^ 60 ∧ ∀ d ∈ ds, fits n d
  | n + 1, .tuple ds => ds.length < 2 ^ 60 ∧ ∀ d ∈ ds, fits n d
  | _, _ => False
theorem fits_int {n : Nat} {i : Int} : fits n (.int i) := by cases n <;> exact True.intro
theorem fits_str {n : Nat} {i : Str} : fits n (.str i) := by cases n <;> exact True.intro
theorem fits_bl {n : Nat} {i : Bool} : fits n (.bool i) := by cases n <;> exact True.intro
theorem fits_non {n : Nat} : fits n .none := by cases n <;> exact True.intro
theorem fits_ints {n : Nat} {ns : List Int} (h : ns.length < 2 ^ 60) : fits (n + 1) (.list (ns.map .int)) := ⟨by rw [List.length_map]; exact h, fun d hd => by
  obtain ⟨i, _, rfl⟩ := List.mem_map.mp hd
  exact fits_int⟩
/-- the end of a law, over a head by facts, with the script's bits -/
theorem walk_bits {l : PySem.W.OpenLaw} {n k : Nat} {q : Program} {loose : List Str} {XP : (Str → Option Value) → Heap → Prop} {YP : World → Heap → Prop} {d : DefRec} {CX : CXT} {x : Str}
    (h1 : l.most = some n) (h2 : n ≤ sizeLine) (h3 : d.params.defaults = []) (h4 : Room k callerA)
    (F : ∀ (w : World) (mg : Str → Option Value) (fa : Addr) (h : Heap), YP w h → h.Ns mainGlobals mg → mg d.name = some (.ref fa) →
      ∃ (K : PySem.W.Frag) (fd : FuncData) (sp : Sp), K.In h ∧ (∀ (s : Shared) (u : Value), BindsTo s fd ⟨[u], []⟩ [(x, u)]) ∧
        (∀ (H : Hp) (a : Addr) (ns : List Int), ns.length ≤ n → (∀ z ∈ ns, Builtin.Int.intBits z ≤ 1048576) → Only H → SqL K H a (ns.map V.int) → sp [.ref a] H (fun v _ => v = .bl true) fun _ _ _ => False) ∧
        (∀ base : Heap, K.In base → base.Ns mainGlobals mg → FnOk l.prog w K mg base CX k fa fd [x] sp))
    (h5 : ∀ (H : Hp) (s : Shared) (e : Value) (s' : Shared), CX [] H s (fun _ _ _ => False) e s' → False) :
    PySem.W.WalkO q loose XP YP l.row.toRowW d [] (fun f vs => PySem.call f vs) := by
  refine Att.attach_callB h1 h3 fun w s₀ s₁ mg mb fa o pm cd doc a vs ns G Y ho hd hcd hmg hobj hints hlen hbits hg => ?_
  obtain ⟨K, fd, sp, KX, hb, hsp, hF⟩ := F w mg fa _ Y G.T.g hmg
  exact law_call KX G.T.g G.T.b G.T.builtins G.T.nolimit hg hobj hints (Nat.le_trans hlen h2) h4 hF hb (fun H hO hS => hsp H a ns hlen hbits hO hS) fun H e s' => h5 H s₁ e s'
end Hw

/-! Hw, part D: cut lists, fields of objects, items that are stored. -/
namespace Hw
open PySem L2
theorem cutD_to (ds : List PyData) (n : Nat) : cutD ds none (some (n : Int)) = ds.take n := by
  unfold cutD
  rw [HT.sIx_nat, HT.sIx_none, Nat.sub_zero, List.drop_zero]
  by_cases h : n ≤ ds.length
  · rw [Nat.min_eq_left h]
  · rw [Nat.min_eq_right (by omega), List.take_of_length_le (Nat.le_refl _), List.take_of_length_le (by omega)]
theorem cutD_from (ds : List PyData) (n : Nat) : cutD ds (some (n : Int)) none = ds.drop n := by
  unfold cutD
  rw [HT.sIx_nat, HT.sIx_none]
  by_cases h : n ≤ ds.length
  · rw [Nat.min_eq_left h, List.take_of_length_le (by rw [List.length_drop]; omega)]
  · rw [Nat.min_eq_right (by omega), List.drop_of_length_le (Nat.le_refl _), List.drop_of_length_le (by omega), List.take_nil]
theorem cutD_mid (ds : List PyData) (n m : Nat) : cutD ds (some (n : Int)) (some (m : Int)) = (ds.take m).drop n := by
  unfold cutD
  rw [HT.sIx_nat, HT.sIx_nat, List.drop_take]
  by_cases h : m ≤ ds.length
  · rw [Nat.min_eq_left h]
    by_cases h2 : n ≤ ds.length
    · rw [Nat.min_eq_left h2]
    · rw [Nat.min_eq_right (by omega), List.drop_of_length_le (Nat.le_refl _), List.drop_of_length_le (by omega), List.take_nil, List.take_nil]
  · rw [Nat.min_eq_right (by omega)]
    by_cases h2 : n ≤ ds.length
    · rw [Nat.min_eq_left h2, List.take_of_length_le (by rw [List.length_drop]; omega), List.take_of_length_le (by rw [List.length_drop]; omega)]
    · rw [Nat.min_eq_right (by omega), List.drop_of_length_le (Nat.le_refl _), List.drop_of_length_le (by omega), List.take_nil, List.take_nil]
theorem ixN_nat {n : Nat} {i : Int} {k : Nat} (h : i = (k : Int)) (hk : k < n) : ixN n i = some k := by
  subst h
  unfold ixN
  rw [if_pos (by omega), if_pos (by omega), Int.toNat_natCast]

theorem canLay_ints : ∀ ns : List Int, PyData.canLayAll0 (ns.map .int) = true
  | [] => rfl
  | n :: ns => by
    show (PyData.canLay0 (.int n) && PyData.canLayAll0 (ns.map .int)) = true
    rw [canLay_ints ns]
    rfl
theorem depth_ints : ∀ ns : List Int, PyData.depthAll (ns.map .int) = 0
  | [] => rfl
  | n :: ns => by
    show max (PyData.depth (.int n)) (PyData.depthAll (ns.map .int)) = 0
    rw [depth_ints ns]
    rfl
theorem shaped_ints (ns : List Int) : SeqAt.shaped (.list (ns.map .int)) = true := by
  have h1 : PyData.canLay0 (.list (ns.map .int)) = true := canLay_ints ns
  have h2 : PyData.depth (.list (ns.map .int)) ≤ 64 := by
    show PyData.depthAll (ns.map .int) + 1 ≤ 64
    rw [depth_ints]
    decide
  unfold SeqAt.shaped
  rw [h1, decide_eq_true h2]
  rfl
/-! ### fields -/
section
variable {a b m : Str} {x y z : V}
def f1 (a : Str) (x : V) : List (Str × V) := putF a x []
def f2 (a b : Str) (x y : V) : List (Str × V) := putF b y (putF a x [])
theorem f1_1 : (f1 a x).lookup a = some x := by unfold f1; rw [lookup_putF, if_pos rfl]
theorem f1_no (h : ¬ m = a) : (f1 a x).lookup m = none := by unfold f1; rw [lookup_putF, if_neg h]; rfl
theorem f1_put : putF a z (f1 a x) = f1 a z := by
  show (if a = a then [(a, z)] else _) = [(a, z)]
  rw [if_pos rfl]
theorem f2_1 (h : ¬ a = b) : (f2 a b x y).lookup a = some x := by unfold f2; rw [lookup_putF, if_neg h, lookup_putF, if_pos rfl]
theorem f2_2 : (f2 a b x y).lookup b = some y := by unfold f2; rw [lookup_putF, if_pos rfl]
theorem f2_no (h1 : ¬ m = a) (h2 : ¬ m = b) : (f2 a b x y).lookup m = none := by
  unfold f2; rw [lookup_putF, if_neg h2, lookup_putF, if_neg h1]; rfl
theorem f2_eq (h : ¬ a = b) : f2 a b x y = [(a, x), (b, y)] := by
  show (if a = b then [(a, y)] else (a, x) :: putF b y []) = [(a, x), (b, y)]
  rw [if_neg h]; rfl
theorem f2_put1 (h : ¬ a = b) : putF a z (f2 a b x y) = f2 a b z y := by
  rw [f2_eq h, f2_eq h]
  show (if a = a then (a, z) :: [(b, y)] else _) = [(a, z), (b, y)]
  rw [if_pos rfl]
theorem f2_put2 (h : ¬ a = b) : putF b z (f2 a b x y) = f2 a b x z := by
  rw [f2_eq h, f2_eq h]
  show (if a = b then _ else (a, x) :: (if b = b then [(b, z)] else _)) = [(a, x), (b, z)]
  rw [if_neg h, if_pos rfl]
theorem f2_len (h : ¬ a = b) : (f2 a b x y).length = 2 := by rw [f2_eq h]; rfl
end
section
variable {K : PySem.W.Frag} {G0 H0 : Hp} {L : Addr → Prop} {π : List Pin} {ρ : List Sl} {μ : List As} {G H : Hp} {σ : St} {Q : VK} {D : Ends} {te ta tv : TE} {v w : V}
/-- o.f where o is at p -/
def fldW (K : PySem.W.Frag) (f : Str) (Q : VK) (x : V) (H : Hp) : Prop := ∃ a C dx fs v, x = .ref a ∧ H a = some (.ins C dx fs) ∧ Cls K C ∧ NoAttr K C f ∧ fs.lookup f = some v ∧ Q v H
theorem c_fld {f : Str} (h : ta σ H (fldW K f Q)) : tFld K ta f σ H Q := h
theorem c_fldAt {f : Str} {p C dx : Addr} {fs : List (Str × V)} (e : H p = some (.ins C dx fs)) (c : Cls K C) (n : NoAttr K C f) (l : fs.lookup f = some w) (h : Q w H) : fldW K f Q (.ref p) H := ⟨p, C, dx, fs, w, rfl, e, c, n, l, h⟩
/-- o.f = e -/
def setW (K : PySem.W.Frag) (f : Str) (D : Ends) (σ : St) (y : V) (x : V) (H : Hp) : Prop := ∃ a C dx fs, x = .ref a ∧ H a = some (.ins C dx fs) ∧ Cls K C ∧ NoAttr K C f ∧ fs.length < 1000 ∧ D.nx σ (upd H a (.ins C dx (putF f y fs)))
theorem c_sfld {f : Str} (h : tv σ H fun y H1 => ta σ H1 (setW K f D σ y)) : sFld K ta tv f D σ H := h
theorem c_setAt {f : Str} {p C dx : Addr} {fs : List (Str × V)} (S : ST G0 H0 L π ρ (As.raw p (.ins C dx fs) :: μ) G σ H) (c : Cls K C) (n : NoAttr K C f) (l : fs.length < 1000) (k : ∀ H', ST G0 H0 L π ρ (As.raw p (.ins C dx (putF f v fs)) :: μ) G σ H' → D.nx σ H') : setW K f D σ v (.ref p) H := by
  have e : H p = some (.ins C dx fs) := S.head
  obtain ⟨gp, _, _⟩ := S.hfp (b := p) rfl
  refine ⟨p, C, dx, fs, rfl, e, c, n, l, k _ ?_⟩
  exact S.step (Gx.put S.same gp) upd_same fun b q => by cases q; exact ⟨.inl rfl, gp, by rw [upd_same]; exact fun z => nomatch z⟩
/-- o.f += e -/
def augW (K : PySem.W.Frag) (f : Str) (rd : V → V → Hp → VK → Prop) (tv : TE) (D : Ends) (σ : St) (x : V) (H : Hp) : Prop := ∃ a C dx fs v, x = .ref a ∧ H a = some (.ins C dx fs) ∧ Cls K C ∧ NoAttr K C f ∧ fs.lookup f = some v ∧
  tv σ H fun y H2 => rd v y H2 fun z H3 => ∃ dx' fs', H3 a = some (.ins C dx' fs') ∧ fs'.length < 1000 ∧ D.nx σ (upd H3 a (.ins C dx' (putF f z fs')))
/-- o.m(..) -/
def methW (C : Addr) (m : Str) (sp : Sp) (E : XK) (t : TA) (σ : St) (Q : VK) (x : V) (H : Hp) : Prop := ∃ a dx fs, x = .ref a ∧ H a = some (.ins C dx fs) ∧ fs.lookup m = none ∧ t σ H fun vs H2 => sp (x :: vs) H2 Q E
theorem c_meth {C : Addr} {m : Str} {sp : Sp} {E : XK} {t : TA} (h : ta σ H (methW C m sp E t σ Q)) : tMeth C m sp [] E ta t σ H Q := by
  have e : (fun (x : V) (H1 : Hp) => ∃ a dx fs, x = .ref a ∧ H1 a = some (.ins C dx fs) ∧ fs.lookup m = none ∧ t σ H1 fun vs H2 => sp (x :: (vs ++ [])) H2 Q E) = methW C m sp E t σ Q := by
    funext x H1
    unfold methW
    simp only [List.append_nil]
  show ta σ H (fun x H1 => ∃ a dx fs, x = .ref a ∧ H1 a = some (.ins C dx fs) ∧ fs.lookup m = none ∧ t σ H1 fun vs H2 => sp (x :: (vs ++ [])) H2 Q E)
  rw [e]
  exact h
theorem c_methAt {C p dx : Addr} {fs : List (Str × V)} {m : Str} {sp : Sp} {E : XK} {t : TA} (e : H p = some (.ins C dx fs)) (l : fs.lookup m = none) (h : t σ H fun vs H2 => sp (.ref p :: vs) H2 Q E) : methW C m sp E t σ Q (.ref p) H := ⟨p, dx, fs, rfl, e, l, h⟩
/-- C(..) -/
def makeW (C : Addr) (sp : Sp) (E : XK) (Q : VK) (vs : List V) (H : Hp) : Prop := ∀ x dx, H x = none → H dx = none → dx ≠ x → sp (.ref x :: vs) (upd (upd H dx (.own x)) x (.ins C dx [])) (fun v H2 => v = .non ∧ Q (.ref x) H2) E
theorem c_make {C : Addr} {sp : Sp} {E : XK} {t : TA} (h : t σ H (makeW C sp E Q)) : tMake C sp [] E t σ H Q := by
  have e : (fun (vs : List V) (H1 : Hp) => ∀ x dx, H1 x = none → H1 dx = none → dx ≠ x → sp (.ref x :: (vs ++ [])) (upd (upd H1 dx (.own x)) x (.ins C dx [])) (fun v H2 => v = .non ∧ Q (.ref x) H2) E) = makeW C sp E Q := by
    funext vs H1
    unfold makeW
    simp only [List.append_nil]
  show t σ H (fun vs H1 => ∀ x dx, H1 x = none → H1 dx = none → dx ≠ x → sp (.ref x :: (vs ++ [])) (upd (upd H1 dx (.own x)) x (.ins C dx [])) (fun v H2 => v = .non ∧ Q (.ref x) H2) E)
  rw [e]
  exact h
/-- a new object without fields -/
theorem ST.newO (S : ST G0 H0 L π ρ μ G σ H) {C x dx : Addr} (hx : H x = none) (hd : H dx = none) (ne : dx ≠ x) :
    ST G0 H0 L π ρ (As.raw x (.ins C dx []) :: μ) G σ (upd (upd H dx (.own x)) x (.ins C dx [])) ∧ H0 x = none := by
  have g1 : Gr G H G (upd H dx (.own x)) := Gx.new S.same hd
  have S1 := S.grow g1
  have hx1 : (upd H dx (.own x)) x = none := by rw [upd_ne ne.symm]; exact hx
  exact ⟨S1.add (Gx.new S1.same hx1) upd_same fun b e => by cases e; exact ⟨hx1, none_of_same S1.same hx1, by rw [upd_same]; exact fun z => nomatch z⟩, S.new0 hx⟩

/-! ### items that are stored -/
theorem c_augS {o i : TE} {tget : V → V → Hp → VK → Prop} {tip : TIp} {tset : TSet} (h : o σ H fun o H1 => i σ H1 fun i H2 => tget o i H2 fun x H3 => te σ H3 fun y H4 => tip x y H4 fun z H5 => tset o i z H5 fun H6 => D.nx σ H6) : tAugS o i te tget tip tset D σ H := h
theorem c_getL {l : Addr} {xs : List V} {i : Int} {k : Nat} (e : H l = some (.lst xs)) (hi : i = (k : Int)) (hk : xs[k]? = some w) (hs : k < 2 ^ 62) (h : Q w H) : rGetL K (.ref l) (.int i) H Q := by
  subst hi
  exact ⟨l, xs, k, w, rfl, rfl, SqL.of e, by omega, by omega, by rw [Int.toNat_natCast]; exact hk, h⟩
theorem c_setL {l : Addr} {ds : List PyData} {d : PyData} {i : Int} {k : Nat} {Q : Hp → Prop} (S : ST G0 H0 L π ρ (As.lst l ds :: μ) G σ H) (hv : Da G v d) (hi : i = (k : Int)) (hk : k < ds.length) (h : ∀ H', ST G0 H0 L π ρ (As.lst l (ds.set k d) :: μ) G σ H' → Q H') : rSetL (.ref l) (.int i) v H Q := by
  obtain ⟨vs, e, ha⟩ := S.head
  exact ⟨l, vs, i, k, rfl, rfl, e, by rw [da_len ha]; exact ixN_nat hi hk, h _ (S.put (da_set _ ha hv))⟩
theorem c_gsub {o i : TE} {t : TSet} {Q : St → Hp → Prop} (h : o σ H fun o H1 => i σ H1 fun i H2 => t o i v H2 fun H3 => Q σ H3) : gSub o i t v σ H Q := h
/-- unpacking a tuple of two, of three -/
theorem c_gtup2 {d1 d2 : PyData} {gs : TGs} {Q : St → Hp → Prop} (hv : Da G v (.tuple [d1, d2])) (s : Same G H) (k : ∀ v1 v2, Da G v1 d1 → Da G v2 d2 → gs [v1, v2] σ H Q) : gTup K 2 gs v σ H Q :=
  c_gtupD hv s rfl fun xs h => by
    obtain ⟨v1, r, rfl, h1, h⟩ := da_cons h
    obtain ⟨v2, r, rfl, h2, h⟩ := da_cons h
    cases da_nil h
    exact k v1 v2 h1 h2
theorem c_gtup3 {d1 d2 d3 : PyData} {gs : TGs} {Q : St → Hp → Prop} (hv : Da G v (.tuple [d1, d2, d3])) (s : Same G H) (k : ∀ v1 v2 v3, Da G v1 d1 → Da G v2 d2 → Da G v3 d3 → gs [v1, v2, v3] σ H Q) : gTup K 3 gs v σ H Q :=
  c_gtupD hv s rfl fun xs h => by
    obtain ⟨v1, r, rfl, h1, h⟩ := da_cons h
    obtain ⟨v2, r, rfl, h2, h⟩ := da_cons h
    obtain ⟨v3, r, rfl, h3, h⟩ := da_cons h
    cases da_nil h
    exact k v1 v2 v3 h1 h2 h3
theorem c_gtup4 {d1 d2 d3 d4 : PyData} {gs : TGs} {Q : St → Hp → Prop} (hv : Da G v (.tuple [d1, d2, d3, d4])) (s : Same G H) (k : ∀ v1 v2 v3 v4, Da G v1 d1 → Da G v2 d2 → Da G v3 d3 → Da G v4 d4 → gs [v1, v2, v3, v4] σ H Q) : gTup K 4 gs v σ H Q :=
  c_gtupD hv s rfl fun xs h => by
    obtain ⟨v1, r, rfl, h1, h⟩ := da_cons h
    obtain ⟨v2, r, rfl, h2, h⟩ := da_cons h
    obtain ⟨v3, r, rfl, h3, h⟩ := da_cons h
    obtain ⟨v4, r, rfl, h4, h⟩ := da_cons h
    cases da_nil h
    exact k v1 v2 v3 v4 h1 h2 h3 h4

theorem c_gunlD {ds : List PyData} {n : Nat} {gs : TGs} {Q : St → Hp → Prop} (hv : Da G v (.list ds)) (s : Same G H) (hn : ds.length = n) (h : ∀ xs, DaAll G xs ds → gs xs σ H Q) : gUnl K n gs v σ H Q := by
  obtain ⟨a, xs, rfl, e, ha⟩ := da_lst hv
  exact ⟨a, xs, rfl, SqL.of (s _ _ e), by rw [da_len ha]; exact hn, h xs ha⟩
theorem c_gunl2 {d1 d2 : PyData} {gs : TGs} {Q : St → Hp → Prop} (hv : Da G v (.list [d1, d2])) (s : Same G H) (k : ∀ v1 v2, Da G v1 d1 → Da G v2 d2 → gs [v1, v2] σ H Q) : gUnl K 2 gs v σ H Q :=
  c_gunlD hv s rfl fun xs h => by
    obtain ⟨v1, r, rfl, h1, h⟩ := da_cons h
    obtain ⟨v2, r, rfl, h2, h⟩ := da_cons h
    cases da_nil h
    exact k v1 v2 h1 h2
theorem c_gunl3 {d1 d2 d3 : PyData} {gs : TGs} {Q : St → Hp → Prop} (hv : Da G v (.list [d1, d2, d3])) (s : Same G H) (k : ∀ v1 v2 v3, Da G v1 d1 → Da G v2 d2 → Da G v3 d3 → gs [v1, v2, v3] σ H Q) : gUnl K 3 gs v σ H Q :=
  c_gunlD hv s rfl fun xs h => by
    obtain ⟨v1, r, rfl, h1, h⟩ := da_cons h
    obtain ⟨v2, r, rfl, h2, h⟩ := da_cons h
    obtain ⟨v3, r, rfl, h3, h⟩ := da_cons h
    cases da_nil h
    exact k v1 v2 v3 h1 h2 h3
/-! ### what is passed and changed -/
/-- a heaplet that stands -/
def As.at (A : As) (G H : Hp) : Prop := A.ok G H ∧ ∀ b, A.fp b → G b = none ∧ H b ≠ none
theorem ST.at {A : As} (S : ST G0 H0 L π ρ (A :: μ) G σ H) : A.at G H := ⟨S.head, fun b hb => ⟨(S.hfp hb).1, (S.hfp hb).2.1⟩⟩
/-- a call has changed the heaplet ahead -/
theorem ST.called {A A' : As} {G' H' : Hp} (S : ST G0 H0 L π ρ (A :: μ) G σ H) (g : Gx A.fp G H G' H') (h : A'.at G' H') (f : ∀ b, A'.fp b → A.fp b ∨ H b = none) : ST G0 H0 L π ρ (A' :: μ) G' σ H' :=
  S.step g h.1 fun b hb => ⟨f b hb, h.2 b hb⟩
/-- .. two heaplets -/
theorem ST.called2 {A B A' B' : As} {G' H' : Hp} (S : ST G0 H0 L π ρ (A :: B :: μ) G σ H) (g : Gx (fun b => A.fp b ∨ B.fp b) G H G' H') (ha : A'.at G' H') (hb : B'.at G' H') (fa : ∀ b, A'.fp b → (A.fp b ∨ B.fp b) ∨ H b = none) (fb : ∀ b, B'.fp b → (A.fp b ∨ B.fp b) ∨ H b = none) (d : ∀ b, A'.fp b → ¬ B'.fp b) : ST G0 H0 L π ρ (A' :: B' :: μ) G' σ H' := by
  have d1 := List.pairwise_cons.mp S.dj
  have d2 := List.pairwise_cons.mp d1.2
  have old : ∀ c, A.fp c ∨ B.fp c → L c ∨ H0 c = none := fun c z => z.elim (fun z => (S.hfp z).2.2) fun z => (S.fp B (List.mem_cons_of_mem _ (List.mem_cons_self ..)) c z).2.2
  have apart : ∀ a ∈ μ, ∀ c, (A.fp c ∨ B.fp c) ∨ H c = none → ¬ a.fp c := fun a ha c z q => by
    rcases z with (z | z) | z
    · exact d1.1 a (List.mem_cons_of_mem _ ha) c z q
    · exact d2.1 a ha c z q
    · exact (S.fp a (List.mem_cons_of_mem _ (List.mem_cons_of_mem _ ha)) c q).2.1 z
  have new : ∀ c, (A.fp c ∨ B.fp c) ∨ H c = none → L c ∨ H0 c = none := fun c z => z.elim (old c) fun z => .inr (S.new0 z)
  refine ⟨S.gx.then g old, S.env.mono g.g, fun p hp => p.mono g.g (S.pin p hp), fun a h => ?_, fun a h b hb' => ?_, List.pairwise_cons.mpr ⟨fun a h b hb' z => ?_, List.pairwise_cons.mpr ⟨fun a h b hb' z => apart a h b (fb b hb') z, d2.2⟩⟩⟩
  · rcases List.mem_cons.mp h with e | h
    · rw [e]; exact ha.1
    · rcases List.mem_cons.mp h with e | h
      · rw [e]; exact hb.1
      · exact a.gx g (fun b q z => apart a h b (.inl z) q) (S.ok a (List.mem_cons_of_mem _ (List.mem_cons_of_mem _ h)))
  · rcases List.mem_cons.mp h with e | h
    · rw [e] at hb'; exact ⟨(ha.2 b hb').1, (ha.2 b hb').2, new b (fa b hb')⟩
    · rcases List.mem_cons.mp h with e | h
      · rw [e] at hb'; exact ⟨(hb.2 b hb').1, (hb.2 b hb').2, new b (fb b hb')⟩
      · obtain ⟨h1, h2, h3⟩ := S.fp a (List.mem_cons_of_mem _ (List.mem_cons_of_mem _ h)) b hb'
        exact ⟨g.ap b h2 h1, g.dom b h2, h3⟩
  · rcases List.mem_cons.mp h with e | h
    · rw [e] at z; exact d b hb' z
    · exact apart a h b (fa b hb') z
/-- a def's entry where one heaplet is passed -/
theorem ST.start1 {N : List Str} {vs : List V} {ρ : List Sl} {A : As} (s : Same G H) (he : EnvOk G (vs.map some) ρ) (h : A.at G H) : ST G H A.fp [] (ρ ++ List.replicate (N.length - ρ.length) .any) [A] G (L2.start N vs) H :=
  ST.startM s he (fun a ha => by rw [List.mem_singleton.mp ha]; exact h.1) (fun a ha b hb => by
    rw [List.mem_singleton.mp ha] at hb
    exact ⟨(h.2 b hb).1, (h.2 b hb).2, hb⟩) (List.pairwise_singleton _ _)
end

/-! ### draws that change a state -/
def Drawn (ms : List Int) : Prop := ms.length ≤ 3780 ∧ ∀ m ∈ ms, 0 ≤ m ∧ m < 9973
/-- the list of the draws and the place -/
def DrA (s : Addr) : As where
  fp := fun b => b = s
  ok := fun G H => ∃ ms idx, Drawn ms ∧ 0 ≤ idx ∧ (As.lst s [.list (ms.map .int), .int idx]).ok G H
  stays := fun g k ⟨ms, idx, h1, h2, h3⟩ => ⟨ms, idx, h1, h2, (As.lst s _).stays g k h3⟩
def sp_next : Sp := fun vs H Q _ => ∃ (G : Hp) (s : Addr) (lim : Int), vs = [.ref s, .int lim] ∧ 0 < lim ∧ Same G H ∧ (DrA s).at G H ∧
  ∀ r G' H', 0 ≤ r → r < lim → Gx (DrA s).fp G H G' H' → (DrA s).at G' H' → Q (.int r) H'
theorem c_draw {G0 H0 : Hp} {L : Addr → Prop} {π : List Pin} {ρ : List Sl} {μ : List As} {G H : Hp} {σ : St} {Q : VK} {E : XK} {s : Addr} {lim : Int} (S : ST G0 H0 L π ρ (DrA s :: μ) G σ H) (hl : 0 < lim)
    (k : ∀ r G' H', 0 ≤ r → r < lim → ST G0 H0 L π ρ (DrA s :: μ) G' σ H' → Same G G' → Q (.int r) H') : sp_next [.ref s, .int lim] H Q E :=
  ⟨G, s, lim, rfl, hl, S.same, S.at, fun r G' H' h0 h1 g h => k r G' H' h0 h1 (S.called g h fun b hb => .inl hb) g.g⟩
end Hw

/-! Hw, part E: texts as lists of signs; zip; draws from a state of four. -/
namespace Hw
open PySem L2

/-! ### rules within a block: K is told -/
section
variable {X : Cx} {K : PySem.W.Frag}
theorem op_plusK (h : X.K = K) : OpR X (binaryOp .Add) (rPlus K) := by subst h; exact op_plus
theorem op_sameK (h : X.K = K) (hu : X.A.units + 64 < cLine) : OpR X (compareOp .Eq) (rSame K) := by subst h; exact op_same hu
theorem op_diffK (h : X.K = K) (hu : X.A.units + 64 < cLine) : OpR X (compareOp .NotEq) (rDiff K) := by subst h; exact op_diff hu
theorem op_lessK (h : X.K = K) (hu : X.A.units < cLine) : OpR X (compareOp .Lt) (rLess K) := by subst h; exact op_less hu
theorem op_amongK (h : X.K = K) (hu : X.A.units + 65 < cLine) : OpR X (compareOp .In) (rAmong K) := by subst h; exact op_among hu
theorem op_notAmongK (h : X.K = K) (hu : X.A.units + 65 < cLine) : OpR X (compareOp .NotIn) (rNotAmong K) := by subst h; exact op_notAmong hu
theorem sl_anyK (h : X.K = K) : SlR X (rSlice K) := by subst h; exact sl_any
theorem ix_seqK (h : X.K = K) : IxR X (rIx K) := by subst h; exact ix_seq
theorem cl_lenK (h : X.K = K) : CallR X (.builtin "len") (rLen K) := by subst h; exact cl_len
theorem cl_isiK (h : X.K = K) : CallR X (.builtin "isinstance") (rIsi K) := by subst h; exact cl_isi
theorem cl_listK (h : X.K = K) : CallR X (.type "list") (rList K) := by subst h; exact cl_list
theorem cl_tupleK (h : X.K = K) : CallR X (.type "tuple") (rTuple K) := by subst h; exact cl_tuple
end

/-! ### texts -/
abbrev tX (l : List Nat) : Str := SX.S l
theorem tx_app (a b : List Nat) : tX a ++ tX b = tX (a ++ b) := SX.S_cat a b
theorem tx_len (a : List Nat) : (tX a).length = a.length := SX.S_len a
theorem tx_cps (a : List Nat) : (tX a).cps.toList = a := rfl
theorem tx_of (x : Str) : x = tX x.cps.toList := (SX.S_tl x).symm
theorem tx_inj {a b : List Nat} (h : tX a = tX b) : a = b := SX.S_inj h
theorem sIx_to (n k : Nat) (h : k ≤ n) (d : Nat) : HT.sIx n d (some (k : Int)) = k := by rw [HT.sIx_nat, Nat.min_eq_left h]
theorem cutS_mid {l : List Nat} {i j : Nat} (hi : i ≤ l.length) (hj : j ≤ l.length) : cutS (tX l) (some (i : Int)) (some (j : Int)) = tX ((l.take j).drop i) := by
  unfold cutS
  rw [tx_len, sIx_to _ _ hi, sIx_to _ _ hj, tx_cps, List.drop_take]
theorem cutS_to {l : List Nat} {j : Nat} (hj : j ≤ l.length) : cutS (tX l) none (some (j : Int)) = tX (l.take j) := by
  unfold cutS
  rw [tx_len, HT.sIx_none, sIx_to _ _ hj, tx_cps, List.drop_zero, Nat.sub_zero]
theorem cutS_from {l : List Nat} {i : Nat} (hi : i ≤ l.length) : cutS (tX l) (some (i : Int)) none = tX (l.drop i) := by
  unfold cutS
  rw [tx_len, HT.sIx_none, sIx_to _ _ hi, tx_cps, List.take_of_length_le]
  rw [List.length_drop]
  exact Nat.le_refl _
/-- one sign among some -/
theorem inV_signs (c : Nat) : ∀ cs : List Nat, inV (.str (tX [c])) (cs.map fun d => V.str (tX [d])) = decide (c ∈ cs)
  | [] => by simp [inV]
  | d :: cs => by
    have ih := inV_signs c cs
    have e1 : eqV (.str (tX [d])) (.str (tX [c])) = decide (d = c) := by
      show (tX [d] == tX [c]) = _
      rw [SX.S_beq_eq]
      by_cases h : d = c
      · rw [h]; simp
      · rw [decide_eq_false h, decide_eq_false]
        intro z; cases z; exact h rfl
    show (eqV (.str (tX [d])) (.str (tX [c])) || inV (.str (tX [c])) (cs.map fun d => V.str (tX [d]))) = _
    rw [ih, e1]
    by_cases h : d = c
    · rw [h]; simp
    · by_cases h2 : c ∈ cs
      · simp [h2]
      · rw [decide_eq_false h, decide_eq_false h2, decide_eq_false]
        · rfl
        · intro z
          rcases List.mem_cons.mp z with z | z
          · exact h z.symm
          · exact h2 z
theorem all_signs : ∀ cs : List Nat, (cs.map fun d => V.str (tX [d])).all flatV = true
  | [] => rfl
  | _ :: cs => all_signs cs
section
variable {K : PySem.W.Frag} {G0 H0 : Hp} {L : Addr → Prop} {π : List Pin} {ρ : List Sl} {μ : List As} {G H : Hp} {σ : St} {Q : VK} {D : Ends} {te ta tb to : TE} {v w : V}
theorem c_notAmong {c : Nat} {cs : List Nat} {p : Addr} (e : H p = some (.tup (cs.map fun d => V.str (tX [d])))) (h : Q (.bl (!decide (c ∈ cs))) H) : rNotAmong K (.str (tX [c])) (.ref p) H Q :=
  .inl ⟨p, _, rfl, .inr (SqT.of e), rfl, all_signs cs, by
    show Q (.bl (!inV _ _)) H
    rw [inV_signs]; exact h⟩
theorem c_plusX {a b : List Nat} (hl : a.length + b.length ≤ sizeLine) (h : Q (.str (tX (a ++ b))) H) : rPlus K (.str (tX a)) (.str (tX b)) H Q := by
  refine c_plusS (by rw [tx_len, tx_len]; exact hl) ?_
  rw [tx_app]; exact h
theorem c_lenX {a : List Nat} (hl : a.length ≤ sizeLine) (h : Q (.int a.length) H) : rLen K [.str (tX a)] H Q := by
  refine c_lenS (by rw [tx_len]; exact hl) ?_
  rw [tx_len]; exact h
theorem c_ixX {l : List Nat} {i : Int} {k c : Nat} (hl : l.length ≤ sizeLine) (hk : l[k]? = some c) (hi : (0 ≤ i ∧ i.toNat = k) ∨ (i < 0 ∧ (i + l.length).toNat = k ∧ 0 ≤ i + l.length)) (h : Q (.str (tX [c])) H) : rIx K (.str (tX l)) (.int i) H Q :=
  c_ixS (by rw [tx_len]; exact hl) hk hi h
theorem c_slX {l : List Nat} {i j : Nat} (hl : l.length ≤ sizeLine) (hi : i ≤ l.length) (hj : j ≤ l.length) (h : Q (.str (tX ((l.take j).drop i))) H) : rSlice K (.str (tX l)) (some (i : Int)) (some (j : Int)) H Q := by
  refine c_slS (by rw [tx_len]; exact hl) ?_
  rw [cutS_mid hi hj]; exact h
theorem c_slXto {l : List Nat} {j : Nat} (hl : l.length ≤ sizeLine) (hj : j ≤ l.length) (h : Q (.str (tX (l.take j))) H) : rSlice K (.str (tX l)) none (some (j : Int)) H Q := by
  refine c_slS (by rw [tx_len]; exact hl) ?_
  rw [cutS_to hj]; exact h
theorem c_slXfrom {l : List Nat} {i : Nat} (hl : l.length ≤ sizeLine) (hi : i ≤ l.length) (h : Q (.str (tX (l.drop i))) H) : rSlice K (.str (tX l)) (some (i : Int)) none H Q := by
  refine c_slS (by rw [tx_len]; exact hl) ?_
  rw [cutS_from hi]; exact h
/-- sep.join(e) -/
def joinR (K : PySem.W.Frag) : V → List V → Hp → VK → Prop := fun x xs H Q => ∃ a p, ∃ ys : List Str, x = .str a ∧ xs = [.ref p] ∧ (SqL K H p (ys.map V.str) ∨ SqT K H p (ys.map V.str)) ∧
      (ys.map (·.length)).sum + ys.length * a.length ≤ 16777216 ∧ Q (.str (Txt.join a ys)) H
def joinT (K : PySem.W.Frag) (te : TE) (σ : St) (Q : VK) (x : V) (H : Hp) : Prop := (∃ a, x = .str a) ∧ te σ H fun y H2 => joinR K x [y] H2 Q
theorem c_join (h : to σ H (joinT K te σ Q)) : tM1 (fun x xs H Q => ∃ a p, ∃ ys : List Str, x = .str a ∧ xs = [.ref p] ∧ (SqL K H p (ys.map V.str) ∨ SqT K H p (ys.map V.str)) ∧
      (ys.map (·.length)).sum + ys.length * a.length ≤ 16777216 ∧ Q (.str (Txt.join a ys)) H) to te σ H Q := h
theorem c_joinT {a : Str} (h : te σ H fun y H2 => joinR K (.str a) [y] H2 Q) : joinT K te σ Q (.str a) H := ⟨⟨a, rfl⟩, h⟩
theorem joinL_nil : ∀ ls : List (List Nat), TL.joinL [] ls = ls.flatten
  | [] => rfl
  | [p] => by show p = _; simp
  | p :: q :: r => by
    show p ++ ([] ++ TL.joinL [] (q :: r)) = _
    rw [joinL_nil (q :: r), List.nil_append]
    rfl
theorem c_joinL {ls : List (List Nat)} (hv : Da G v (.list (ls.map fun l => .str (tX l)))) (s : Same G H) (hl : ls.flatten.length ≤ 16777216) (h : Q (.str (tX ls.flatten)) H) : joinR K (.str (tX [])) [v] H Q := by
  obtain ⟨a, xs, rfl, e, ha⟩ := da_lst hv
  have e2 : xs = (ls.map tX).map V.str := by
    refine da_strs (G := G) ?_
    rw [List.map_map]
    exact ha
  subst e2
  refine ⟨_, a, ls.map tX, rfl, rfl, .inl (SqL.of (s _ _ e)), ?_, ?_⟩
  · rw [tx_len]
    have : ((ls.map tX).map (·.length)).sum = ls.flatten.length := by
      rw [SX.lens, List.length_flatten]
    rw [this]
    simpa using hl
  · rw [show Txt.join (tX []) (ls.map tX) = tX ls.flatten by rw [SX.join_S, joinL_nil]]
    exact h

/-! ### the script -/
theorem c_listQ {a : Addr} {xs : List V} {ds : List PyData} (S : ST G0 H0 L π ρ μ G σ H) (hq : SqL K H a xs) (hd : DaAll G xs ds) (k : ∀ v G' H', ST G0 H0 L π ρ μ G' σ H' → Gr G H G' H' → Da G' v (.list ds) → Q v H') : rList K [.ref a] H Q :=
  ⟨a, xs, rfl, .inl hq, c_mkL' S hd k⟩

/-! ### zip of two frozen lists -/
def zW (K : PySem.W.Frag) (R : It → Hp → Prop) (vs : List V) (H : Hp) : Prop := ∃ a b xs ys, vs = [.ref a, .ref b] ∧ SqL K H a xs ∧ SqL K H b ys ∧ R (Itz K a b) H
theorem c_iZip {ta : TA} {R : It → Hp → Prop} (h : ta σ H (zW K R)) : iZip K ta σ H R := h
theorem c_iZ {ds es : List PyData} {R : It → Hp → Prop} (hv : Da G v (.list ds)) (hw : Da G w (.list es)) (s : Same G H) (k : ∀ a b, v = .ref a → w = .ref b → R (Itz K a b) H) : zW K R [v, w] H := by
  obtain ⟨a, xs, rfl, e, ha⟩ := da_lst hv
  obtain ⟨b, ys, rfl, e2, hb⟩ := da_lst hw
  exact ⟨a, b, xs, ys, rfl, SqL.of (s _ _ e), SqL.of (s _ _ e2), k a b rfl rfl⟩
theorem c_compZ {a b : Addr} {ds es : List PyData} {g : TG} {tt : TT} {vs : List Nat} {p : Addr} {Qd : Hp → Prop} (I : Nat → List PyData → Prop) (S : ST G0 H0 L π ρ μ G σ H) (hv : Da G (.ref a) (.list ds)) (hw : Da G (.ref b) (.list es)) (hp : H p = none) (h0 : I 0 [])
    (turn : ∀ i d e y acc G' H', ds[i]? = some d → es[i]? = some e → Da G' y (.tuple [d, e]) → I i acc → ST G0 H0 L (pE σ ρ :: pS G :: π) (wipeR ρ vs) (As.lst p acc :: μ) G' (wipe σ vs) H' →
      g y (wipe σ vs) H' fun σ2 H2 => wipe σ2 vs = wipe σ vs ∧ tt σ2 H2 fun b H3 =>
      if b = true then te σ2 H3 (lcItem p fun H4 => ∃ G4 acc', I (i + 1) acc' ∧ ST G0 H0 L (pE σ ρ :: pS G :: π) (wipeR ρ vs) (As.lst p acc' :: μ) G4 (wipe σ vs) H4)
      else ∃ G4 acc', I (i + 1) acc' ∧ ST G0 H0 L (pE σ ρ :: pS G :: π) (wipeR ρ vs) (As.lst p acc' :: μ) G4 (wipe σ vs) H3)
    (done : ∀ G' H' acc, Same G G' → I (min ds.length es.length) acc → ST G0 H0 L π ρ (As.lst p acc :: μ) G' σ H' → H0 p = none → Qd H') : LcW (Itz K a b) g tt te vs σ H p Qd := by
  obtain ⟨_, xs, e1, ea, ha⟩ := da_lst hv
  cases e1
  obtain ⟨_, ys, e1, eb, hb⟩ := da_lst hw
  cases e1
  have la := da_len ha
  have lb := da_len hb
  refine lc_it (walk_zip (n := min ds.length es.length) (xs := xs) (ys := ys) (by rw [la, lb]))
    (fun i H' => ∃ G' acc, I i acc ∧ ST G0 H0 L (pE σ ρ :: pS G :: π) (wipeR ρ vs) (As.lst p acc :: μ) G' (wipe σ vs) H')
    ⟨G, [], h0, ((((S.pinP (p := pS G) (Same.refl G)).save).wipe vs).newD hp).1⟩ (fun i H' _ ⟨G', acc, _, S'⟩ => ?_) (fun i x H1 H2 hi ⟨G', acc, hI, S'⟩ y => ?_) (fun H' ⟨G', acc, hI, S'⟩ => ?_)
  · have sg : Same G G' := S'.pin (pS G) (List.mem_cons_of_mem _ (List.mem_cons_self ..))
    exact ⟨SqL.of (S'.same _ _ (sg _ _ ea)), SqL.of (S'.same _ _ (sg _ _ eb))⟩
  · obtain ⟨T, x1, y1, rfl, hT, rfl, hx, hy⟩ := y
    have sg : Same G G' := S'.pin (pS G) (List.mem_cons_of_mem _ (List.mem_cons_self ..))
    obtain ⟨d, hd, hdx⟩ := da_getV ha hx
    obtain ⟨e, he, hey⟩ := da_getV hb hy
    have g2 : Gr G' H1 (upd G' T (.tup [x1, y1])) (upd H1 T (.tup [x1, y1])) := Gx.frz S'.same hT
    exact turn i d e _ acc _ _ hd he (.tup upd_same (.cons ((hdx.mono sg).mono g2.g) (.cons ((hey.mono sg).mono g2.g) .nil))) hI (S'.grow g2)
  · exact done G' H' acc (S'.pin (pS G) (List.mem_cons_of_mem _ (List.mem_cons_self ..))) hI S'.back.unpin (S.new0 hp)

/-! ### draws from a state of four -/
/-- the script's numbers, the next one's place, what is left of a great one, the seed -/
def stD (ns : List Int) (i c k : Int) : List PyData := [.list (ns.map .int), .int i, .int c, .int k]
def StOk (ns : List Int) (i c k : Int) : Prop := ns.length ≤ 63 ∧ 0 ≤ i ∧ 0 ≤ c ∧ 0 ≤ k ∧ k < 2147483647
def DrB (s : Addr) : As where
  fp := fun b => b = s
  ok := fun G H => ∃ (ns : List Int) (i c k : Int), StOk ns i c k ∧ (As.lst s (stD ns i c k)).ok G H
  stays := fun g h ⟨ns, i, c, k, h1, h2⟩ => ⟨ns, i, c, k, h1, (As.lst s _).stays g h h2⟩
theorem stD_head {s : Addr} {ns : List Int} {i c k : Int} (S : ST G0 H0 L π ρ (As.lst s (stD ns i c k) :: μ) G σ H) : ∃ v, H s = some (.lst [v, .int i, .int c, .int k]) ∧ Da G v (.list (ns.map .int)) := by
  obtain ⟨xs, e, hx⟩ := S.head
  obtain ⟨v1, r, rfl, h1, hx⟩ := da_cons hx
  obtain ⟨v2, r, rfl, h2, hx⟩ := da_cons hx
  obtain ⟨v3, r, rfl, h3, hx⟩ := da_cons hx
  obtain ⟨v4, r, rfl, h4, hx⟩ := da_cons hx
  cases da_nil hx
  cases h2
  cases h3
  cases h4
  exact ⟨v1, e, h1⟩
/-- a def that draws: R tells what is asked of the further arguments, and what can come out -/
def spB (R : List PyData → (PyData → Prop) → Prop) : Sp := fun vs H Q _ => ∃ (G : Hp) (s : Addr) (rest : List V) (ds : List PyData) (D : PyData → Prop), vs = .ref s :: rest ∧ Same G H ∧ (DrB s).at G H ∧ DaAll G rest ds ∧ R ds D ∧
  ∀ d x G' H', D d → Gx (DrB s).fp G H G' H' → (DrB s).at G' H' → Da G' x d → Q x H'
theorem c_callB {R : List PyData → (PyData → Prop) → Prop} {s : Addr} {rest : List V} {ds : List PyData} {D : PyData → Prop} {E : XK} (S : ST G0 H0 L π ρ (DrB s :: μ) G σ H) (hd : DaAll G rest ds) (hR : R ds D)
    (k : ∀ d x G' H', D d → ST G0 H0 L π ρ (DrB s :: μ) G' σ H' → Same G G' → Da G' x d → Q x H') : spB R (.ref s :: rest) H Q E :=
  ⟨G, s, rest, ds, D, rfl, S.same, S.at, hd, hR, fun d x G' H' hD g h hx => k d x G' H' hD (S.called g h fun b hb => .inl hb) g.g hx⟩
theorem ret_B {s : Addr} {d : PyData} {Dd : PyData → Prop} (S : ST G0 H0 (DrB s).fp π ρ [DrB s] G σ H) (hd : Dd d) (hv : Da G v d) (k : ∀ d x G' H', Dd d → Gx (DrB s).fp G0 H0 G' H' → (DrB s).at G' H' → Da G' x d → Q x H') : Q v H :=
  k d v G H hd S.gx S.at hv
/-- the next draw below a limit -/
def R_next (ds : List PyData) (D : PyData → Prop) : Prop := ∃ lim : Int, ds = [.int lim] ∧ 0 < lim ∧ lim < 2 ^ 8000 ∧ D = fun d => ∃ r, d = .int r ∧ 0 ≤ r ∧ r < lim
theorem c_drawB {s : Addr} {lim : Int} {E : XK} (S : ST G0 H0 L π ρ (DrB s :: μ) G σ H) (h0 : 0 < lim) (h1 : lim < 2 ^ 8000)
    (k : ∀ r G' H', 0 ≤ r → r < lim → ST G0 H0 L π ρ (DrB s :: μ) G' σ H' → Same G G' → Q (.int r) H') : spB R_next [.ref s, .int lim] H Q E :=
  c_callB S (.cons (.int lim) .nil) ⟨lim, rfl, h0, h1, rfl⟩ fun d x G' H' ⟨r, e, h2, h3⟩ S sg hx => by
    subst e
    cases hx
    exact k r G' H' h2 h3 S sg
theorem lim_small {lim : Int} (h : lim < 2 ^ 64) : lim < 2 ^ 8000 := Int.lt_of_lt_of_le h (by decide +kernel)
end
end Hw

/-! Hw, part F: exceptions of own classes; while. -/
namespace Hw
open PySem L2
theorem takesF {X : Cx} : Takes X (fun _ _ _ _ => False) := fun _ _ x => by
  obtain ⟨_, _, _, _, _, _, _, _, _, _, _, _, _, _, _, _, z⟩ := x
  exact z.elim
/-- what the head tells of an exception's class over ValueError -/
def ExcFacts (K : PySem.W.Frag) (C : Addr) : Prop := PySem.W.excIn K C He.veBase "ValueError.__new__" = true ∧ PySem.W.keepIn K (.ref C) = true ∧ PySem.W.subIn K (.ref C) (.type "BaseException") = some true ∧ PySem.W.typeIn K (.ref C) = some (.type "type")
/-- raise C('m') -/
def tRaise (W : WX) (C : Addr) : TS := fun _ σ H => W (.ref C) none σ H
section
variable {X : Cx} {W : WX} {C : Addr} {x m : Str} {j k : Nat} {p p2 pos pos' apos : Pos} {e o : Expr} {es : List Expr} {ta : TE} {t : TA} {CX : CXT} {f : Addr} {fd : FuncData} {ps : List Str} {sp : Sp} {E : St → XK}
theorem ps_raiseC (hc : X.calm = true) (tk : Takes X W) (q : ExcFacts X.K C) (gC : X.mg x = some (.ref C)) (hg : Gl X x) (hdb : (x == ("__debug__" : Str)) = false := by decide) :
    PS X (.Raise (some (.Call (.Name x p) [.Constant (.str m) j p2] [] pos)) none pos') (tRaise W C) :=
  ps_raise hc tk (pmk_own PySem.F.excBase_ValueError q.1 gC q.2.1 (raises_own q.2.2.1 q.2.2.2) hg hdb)
/-- o.m(..) that may raise: what is wanted of an exception is told by the slots -/
def tMethE (C : Addr) (m : Str) (sp : Sp) (E : St → XK) (ta : TE) (t : TA) : TE := fun σ H Q => ta σ H (methW C m sp (E σ) t σ Q)
theorem pe_methE0 {pl : Sem Bool} (he : PE X o ta) (c : Cls X.K C) (hm : Meth X.K C m f) (F : FnOk X.prog X.w X.K X.mg X.base CX k f fd ps sp) (hr : Room k X.A) (hb : Binds X.K fd ps []) (hx : ∀ σ, PassesAt CX X σ (E σ))
    (ht : eval (.Call (.Attribute o m apos) [] [] pos) X.env = (do
      let ov ← eval o X.env
      standAt apos.atName
      let (f, first) ← holding [ov] (getMethod ov m pl)
      callWith pos f first (backTo pos (starEach [] X.env)) (backToKw pos (keywordEach [] X.env))) := by rfl) :
    PE X (.Call (.Attribute o m apos) [] [] pos) (tMethE C m sp E ta tNil) := by
  refine ⟨fun pins s σ H Q I h => ?_⟩
  refine PySem.W.methodCall_KW (pl := pl) (thn (he.run pins s σ H _ I h) fun u s1 ⟨x, H1, I1, rx, a, dx, fs, ex, ea, l, q⟩ => ?_) ht
  subst ex
  obtain rfl : u = Value.ref a := rx
  refine getmeth_ok I1 ea c hm l ?_
  exact PySem.W.callWith_K0 (first := [.ref a]) I1.kIn hm.kp (run_fnS (us := [.ref a]) (vs := [.ref a]) F hr hb (hx σ) I1 (.cons rfl .nil) q)
theorem pe_methE {pl : Sem Bool} (he : PE X o ta) (c : Cls X.K C) (hm : Meth X.K C m f) (F : FnOk X.prog X.w X.K X.mg X.base CX k f fd ps sp) (hr : Room k X.A) (hb : Binds X.K fd ps []) (hx : ∀ σ, PassesAt CX X σ (E σ)) (ha : PA X (e :: es) t)
    (hst : starEach (e :: es) X.env = (false, eval e X.env) :: starEach es X.env := by rfl) (hpl : (backTo pos (starEach es X.env)).any (·.1) = false := by rfl)
    (ht : eval (.Call (.Attribute o m apos) (e :: es) [] pos) X.env = (do
      let ov ← eval o X.env
      standAt apos.atName
      let (f, first) ← holding [ov] (getMethod ov m pl)
      callWith pos f first (backTo pos (starEach (e :: es) X.env)) (backToKw pos (keywordEach [] X.env))) := by rfl) :
    PE X (.Call (.Attribute o m apos) (e :: es) [] pos) (tMethE C m sp E ta t) := by
  refine ⟨fun pins s σ H Q I h => ?_⟩
  refine PySem.W.methodCall_KW (pl := pl) (thn (he.run pins s σ H _ I h) fun u s1 ⟨x, H1, I1, rx, a, dx, fs, ex, ea, l, q⟩ => ?_) ht
  subst ex
  obtain rfl : u = Value.ref a := rx
  refine getmeth_ok I1 ea c hm l ?_
  refine PySem.W.callWith_K (first := [.ref a]) (h₀ := X.base) I.ok.mod.kin hm.kp (thn (ha.run pos pins s1 σ H1 _ I1 q) fun us s2 ⟨vs, H2, I2, r, q2⟩ => ⟨I2.kIn, ?_⟩) hst hpl
  exact run_fnS (us := .ref a :: us) (vs := .ref a :: vs) F hr hb (hx σ) I2 (.cons rfl r) q2
/-- try: .. except X: .. -/
def tTryO (K : PySem.W.Frag) (c : Value) (ts : TS) (tb : WX → TS) : TS := fun D σ H => tb (wOnly K c (fun _ _ _ => ts) (fun _ _ _ _ => False) D) D σ H
theorem ps_tryO {c : Value} {body suite : List Stmt} {b₀ : Stmt} {np : Pos} {tb : WX → TS} {ts : TS} (hs : X.stack = X.env :: X.outer) (hf : X.env.frame = some X.env.locals) (hc : Names X x c)
    (hb : ∀ (W : WX) (pn : List (Addr × Obj)) (xe : Value → Shared → Prop), Takes (X.tr pn xe) W → PassesOwn (model X.prog X.w) X.A X.env xe → PSs (X.tr pn xe) body (tb W))
    (hsu : ∀ (a : Addr) (oe : Obj) (cls : Value) (d : Option Addr) (pn : List (Addr × Obj)), Zc cls d oe → (∃ vs, oe.data = .fields vs) → PSs (X.suite a ((a, oe) :: pn)) (b₀ :: suite) ts) :
    PS X (.Try body [.ExceptHandler (some (.Name x np)) none (b₀ :: suite) pos'] [] [] pos) (tTryO X.K c ts tb) := ps_try_only hs hf hc takesF hb hsu
end
section
variable {K : PySem.W.Frag} {G0 H0 : Hp} {L : Addr → Prop} {π : List Pin} {ρ : List Sl} {μ : List As} {G H : Hp} {σ : St} {Q : VK} {D : Ends} {te ta tb to : TE} {v w : V}
theorem c_raise {W : WX} {C : Addr} (h : W (.ref C) none σ H) : tRaise W C D σ H := h
theorem c_methE {C : Addr} {m : Str} {sp : Sp} {E : St → XK} {t : TA} (h : ta σ H (methW C m sp (E σ) t σ Q)) : tMethE C m sp E ta t σ H Q := h
theorem c_callS {sp : Sp} {E : St → XK} {t : TA} (h : t σ H fun vs H1 => sp vs H1 Q (E σ)) : tCallS sp E t σ H Q := h
theorem c_tryO {c : Value} {ts : TS} {tb : WX → TS} (h : tb (wOnly K c (fun _ _ _ => ts) (fun _ _ _ _ => False) D) D σ H) : tTryO K c ts tb D σ H := h
/-- the exception is of the clause's class -/
theorem c_caught {cls c : Value} {d : Option Addr} {ts : TS} {Wo : WX} (e : PySem.W.exmOne K cls c = some true) (h : ts D σ H) : wOnly K c (fun _ _ _ => ts) Wo D cls d σ H := ⟨true, e, fun _ _ _ => h, fun z => nomatch z⟩
/-- while: m grows less -/
theorem c_while {c : TT} {ts : TS} (Pv : Nat → Hp → St → Hp → Prop) (m0 : Nat) (h0 : Pv m0 G σ H)
    (turn : ∀ m G' σ' H', Pv m G' σ' H' → c σ' H' fun b H1 => if b = true then ∃ N : St → Hp → Prop, (∀ σ3 H3, N σ3 H3 → ∃ m', m' < m ∧ ∃ G3, Pv m' G3 σ3 H3) ∧ ts { D with nx := N, ct := N, bk := D.nx } σ' H1 else D.nx σ' H1) : tWhile c ts D σ H := by
  refine ⟨fun m σ H => ∃ G, Pv m G σ H, ⟨m0, G, h0⟩, ?_⟩
  rintro m σ' H' ⟨G', p⟩
  exact turn m G' σ' H' p
/-- a turn of a while -/
theorem c_turn {ts : TS} {m : Nat} {Pv : Nat → St → Hp → Prop} (h : ts { D with nx := fun σ3 H3 => ∃ m', m' < m ∧ Pv m' σ3 H3, ct := fun σ3 H3 => ∃ m', m' < m ∧ Pv m' σ3 H3, bk := D.nx } σ H) :
    ∃ N : St → Hp → Prop, (∀ σ3 H3, N σ3 H3 → ∃ m', m' < m ∧ Pv m' σ3 H3) ∧ ts { D with nx := N, ct := N, bk := D.nx } σ H := ⟨_, fun _ _ z => z, h⟩
theorem c_fldaug {f : Str} {rd : V → V → Hp → VK → Prop} (h : ta σ H (augW K f rd tb D σ)) : sFldAug K ta tb rd f D σ H := h
theorem da_rep {xs : List V} {ds : List PyData} (h : DaAll G xs ds) : ∀ n : Nat, DaAll G (List.replicate n xs).flatten (List.replicate n ds).flatten
  | 0 => .nil
  | n + 1 => by
    rw [List.replicate_succ, List.replicate_succ]
    exact da_app h (da_rep h n)
/-- [..] * k -/
theorem c_repL {ds : List PyData} {k : Int} (hv : Da G v (.list ds)) (S : ST G0 H0 L π ρ μ G σ H) (h1 : 0 ≤ k) (h2 : k < 2 ^ 62) (hz : ds.length * k.toNat ≤ sizeLine)
    (q : ∀ v G' H', ST G0 H0 L π ρ μ G' σ H' → Gr G H G' H' → Da G' v (.list (List.replicate k.toNat ds).flatten) → Q v H') : rTimes v (.int k) H Q := by
  obtain ⟨a, xs, rfl, e, ha⟩ := da_lst hv
  exact .inr ⟨a, k, xs, rfl, rfl, S.same _ _ e, by omega, by omega, by rw [da_len ha]; exact hz, c_mkL' S (da_rep ha _) q⟩
theorem c_break (h : D.bk σ H) : tBreak D σ H := h
end
end Hw

namespace K11
open PySem L2 Hw
def top (i : Nat) : Stmt := PySem.Challenge.pw_heapwhole_k11_records.main.body.getD i (.Pass ⟨0, 0, 0, 0⟩)
abbrev s_Reader_init : Stmt := inClass (top 6) 0
abbrev n_Reader_init : List Str := ["self", "data"]
theorem sc_Reader_init : FnScope n_Reader_init ["self", "data"] (defScope s_Reader_init) := ⟨rfl, rfl, rfl, by decide +kernel, rfl, by decide +kernel, by decide +kernel⟩
def d_Reader_init : He.DefD := ⟨("Reader", some "__init__"), "__init__", "Reader.__init__", defArgs s_Reader_init, defBody s_Reader_init, defScope s_Reader_init, [], []⟩
abbrev s_Reader_read_byte : Stmt := inClass (top 6) 1
abbrev n_Reader_read_byte : List Str := ["self"]
theorem sc_Reader_read_byte : FnScope n_Reader_read_byte ["self"] (defScope s_Reader_read_byte) := ⟨rfl, rfl, rfl, by decide +kernel, rfl, by decide +kernel, by decide +kernel⟩
def d_Reader_read_byte : He.DefD := ⟨("Reader", some "read_byte"), "read_byte", "Reader.read_byte", defArgs s_Reader_read_byte, defBody s_Reader_read_byte, defScope s_Reader_read_byte, [], []⟩
abbrev s_Reader_read_number : Stmt := inClass (top 6) 4
abbrev n_Reader_read_number : List Str := ["self", "total", "factor", "index", "byte"]
theorem sc_Reader_read_number : FnScope n_Reader_read_number ["self"] (defScope s_Reader_read_number) := ⟨rfl, rfl, rfl, by decide +kernel, rfl, by decide +kernel, by decide +kernel⟩
def d_Reader_read_number : He.DefD := ⟨("Reader", some "read_number"), "read_number", "Reader.read_number", defArgs s_Reader_read_number, defBody s_Reader_read_number, defScope s_Reader_read_number, [], []⟩
abbrev s_write_number : Stmt := top 8
abbrev n_write_number : List Str := ["number", "data"]
theorem sc_write_number : FnScope n_write_number ["number"] (defScope s_write_number) := ⟨rfl, rfl, rfl, by decide +kernel, rfl, by decide +kernel, by decide +kernel⟩
def d_write_number : He.DefD := ⟨("write_number", none), "write_number", "write_number", defArgs s_write_number, defBody s_write_number, defScope s_write_number, [], []⟩
abbrev s_checksum : Stmt := top 11
abbrev n_checksum : List Str := ["data", "total", "byte"]
theorem sc_checksum : FnScope n_checksum ["data"] (defScope s_checksum) := ⟨rfl, rfl, rfl, by decide +kernel, rfl, by decide +kernel, by decide +kernel⟩
def d_checksum : He.DefD := ⟨("checksum", none), "checksum", "checksum", defArgs s_checksum, defBody s_checksum, defScope s_checksum, [], []⟩
abbrev s_write_record : Stmt := top 12
abbrev n_write_record : List Str := ["data", "total", "tail"]
theorem sc_write_record : FnScope n_write_record ["data"] (defScope s_write_record) := ⟨rfl, rfl, rfl, by decide +kernel, rfl, by decide +kernel, by decide +kernel⟩
def d_write_record : He.DefD := ⟨("write_record", none), "write_record", "write_record", defArgs s_write_record, defBody s_write_record, defScope s_write_record, [], []⟩
abbrev s_read_size : Stmt := top 13
abbrev n_read_size : List Str := ["data", "start", "reader", "size"]
theorem sc_read_size : FnScope n_read_size ["data", "start"] (defScope s_read_size) := ⟨rfl, rfl, rfl, by decide +kernel, rfl, by decide +kernel, by decide +kernel⟩
def d_read_size : He.DefD := ⟨("_read_size", none), "_read_size", "_read_size", defArgs s_read_size, defBody s_read_size, defScope s_read_size, [], []⟩
abbrev s_read_records : Stmt := top 14
abbrev n_read_records : List Str := ["data", "records", "start", "found", "begin", "size", "record", "end"]
theorem sc_read_records : FnScope n_read_records ["data"] (defScope s_read_records) := ⟨rfl, rfl, rfl, by decide +kernel, rfl, by decide +kernel, by decide +kernel⟩
def d_read_records : He.DefD := ⟨("read_records", none), "read_records", "read_records", defArgs s_read_records, defBody s_read_records, defScope s_read_records, [], []⟩
abbrev s_l_mix : Stmt := top 16
abbrev n_l_mix : List Str := ["cell", "k", "value"]
theorem sc_l_mix : FnScope n_l_mix ["cell", "k"] (defScope s_l_mix) := ⟨rfl, rfl, rfl, by decide +kernel, rfl, by decide +kernel, by decide +kernel⟩
def d_l_mix : He.DefD := ⟨("_law_mix", none), "_law_mix", "_law_mix", defArgs s_l_mix, defBody s_l_mix, defScope s_l_mix, [], []⟩
abbrev s_l_draws : Stmt := top 17
abbrev n_l_draws : List Str := ["script", "draws", "k", "cell", "place"]
theorem sc_l_draws : FnScope n_l_draws ["script"] (defScope s_l_draws) := ⟨rfl, rfl, rfl, by decide +kernel, rfl, by decide +kernel, by decide +kernel⟩
def d_l_draws : He.DefD := ⟨("_law_draws", none), "_law_draws", "_law_draws", defArgs s_l_draws, defBody s_l_draws, defScope s_l_draws, [], []⟩
abbrev s_l_at : Stmt := top 18
abbrev n_l_at : List Str := ["draws", "index"]
theorem sc_l_at : FnScope n_l_at ["draws", "index"] (defScope s_l_at) := ⟨rfl, rfl, rfl, by decide +kernel, rfl, by decide +kernel, by decide +kernel⟩
def d_l_at : He.DefD := ⟨("_law_at", none), "_law_at", "_law_at", defArgs s_l_at, defBody s_l_at, defScope s_l_at, [], []⟩
abbrev s_l_is_integer : Stmt := top 19
abbrev n_l_is_integer : List Str := ["actual"]
theorem sc_l_is_integer : FnScope n_l_is_integer ["actual"] (defScope s_l_is_integer) := ⟨rfl, rfl, rfl, by decide +kernel, rfl, by decide +kernel, by decide +kernel⟩
def d_l_is_integer : He.DefD := ⟨("_law_is_integer", none), "_law_is_integer", "_law_is_integer", defArgs s_l_is_integer, defBody s_l_is_integer, defScope s_l_is_integer, [], []⟩
abbrev s_l_same : Stmt := top 20
abbrev n_l_same : List Str := ["actual", "expected", "k"]
theorem sc_l_same : FnScope n_l_same ["actual", "expected"] (defScope s_l_same) := ⟨rfl, rfl, rfl, by decide +kernel, rfl, by decide +kernel, by decide +kernel⟩
def d_l_same : He.DefD := ⟨("_law_same", none), "_law_same", "_law_same", defArgs s_l_same, defBody s_l_same, defScope s_l_same, [], []⟩
abbrev s_l_next : Stmt := top 21
abbrev n_l_next : List Str := ["state", "limit"]
theorem sc_l_next : FnScope n_l_next ["state", "limit"] (defScope s_l_next) := ⟨rfl, rfl, rfl, by decide +kernel, rfl, by decide +kernel, by decide +kernel⟩
def d_l_next : He.DefD := ⟨("_law_next", none), "_law_next", "_law_next", defArgs s_l_next, defBody s_l_next, defScope s_l_next, [], []⟩
abbrev s_l_number : Stmt := top 22
abbrev n_l_number : List Str := ["number", "data"]
theorem sc_l_number : FnScope n_l_number ["number"] (defScope s_l_number) := ⟨rfl, rfl, rfl, by decide +kernel, rfl, by decide +kernel, by decide +kernel⟩
def d_l_number : He.DefD := ⟨("_law_number", none), "_law_number", "_law_number", defArgs s_l_number, defBody s_l_number, defScope s_l_number, [], []⟩
abbrev s_l_checksum : Stmt := top 23
abbrev n_l_checksum : List Str := ["data", "total", "byte"]
theorem sc_l_checksum : FnScope n_l_checksum ["data"] (defScope s_l_checksum) := ⟨rfl, rfl, rfl, by decide +kernel, rfl, by decide +kernel, by decide +kernel⟩
def d_l_checksum : He.DefD := ⟨("_law_checksum", none), "_law_checksum", "_law_checksum", defArgs s_l_checksum, defBody s_l_checksum, defScope s_l_checksum, [], []⟩
abbrev s_l_record : Stmt := top 24
abbrev n_l_record : List Str := ["data", "total"]
theorem sc_l_record : FnScope n_l_record ["data"] (defScope s_l_record) := ⟨rfl, rfl, rfl, by decide +kernel, rfl, by decide +kernel, by decide +kernel⟩
def d_l_record : He.DefD := ⟨("_law_record", none), "_law_record", "_law_record", defArgs s_l_record, defBody s_l_record, defScope s_l_record, [], []⟩
abbrev s_l_bytes : Stmt := top 25
abbrev n_l_bytes : List Str := ["state", "count", "pick", "start", "k"]
theorem sc_l_bytes : FnScope n_l_bytes ["state"] (defScope s_l_bytes) := ⟨rfl, rfl, rfl, by decide +kernel, rfl, by decide +kernel, by decide +kernel⟩
def d_l_bytes : He.DefD := ⟨("_law_bytes", none), "_law_bytes", "_law_bytes", defArgs s_l_bytes, defBody s_l_bytes, defScope s_l_bytes, [], []⟩
abbrev s_l_behind : Stmt := top 26
abbrev n_l_behind : List Str := ["state", "data", "record", "further", "pick", "at", "size", "needless"]
theorem sc_l_behind : FnScope n_l_behind ["state"] (defScope s_l_behind) := ⟨rfl, rfl, rfl, by decide +kernel, rfl, by decide +kernel, by decide +kernel⟩
def d_l_behind : He.DefD := ⟨("_law_behind", none), "_law_behind", "_law_behind", defArgs s_l_behind, defBody s_l_behind, defScope s_l_behind, [], []⟩
abbrev s_law : Stmt := top 27
abbrev n_law : List Str := ["script", "state", "records", "k", "data", "sizes", "record", "passed", "whole", "end", "count", "size"]
theorem sc_law : FnScope n_law ["script"] (defScope s_law) := ⟨rfl, rfl, rfl, by decide +kernel, rfl, by decide +kernel, by decide +kernel⟩
def d_law : He.DefD := ⟨("law", none), "law", "law", defArgs s_law, defBody s_law, defScope s_law, [], []⟩
def fns : List He.DefD := [d_Reader_init, d_Reader_read_byte, d_Reader_read_number, d_write_number, d_checksum, d_write_record, d_read_size, d_read_records, d_l_mix, d_l_draws, d_l_at, d_l_is_integer, d_l_same, d_l_next, d_l_number, d_l_checksum, d_l_record, d_l_bytes, d_l_behind, d_law]
def fas : List He.Fa := [.meth "Reader" "read_byte", .meth "Reader" "read_number", .glo "write_number", .glo "checksum", .glo "write_record", .glo "_read_size", .glo "read_records", .glo "_law_mix", .glo "_law_draws", .glo "_law_at", .glo "_law_is_integer", .glo "_law_same", .glo "_law_next", .glo "_law_number", .glo "_law_checksum", .glo "_law_record", .glo "_law_bytes", .glo "_law_behind", .glo "law", .glo "Reader", .cls "Reader", .mkr "Reader", .noat "Reader" "at", .noat "Reader" "data", .free "bool", .free "int", .free "isinstance", .free "len", .free "list", .free "min", .free "range", .free "str", .free "tuple", .int "CHECKSUM_LIMIT" 4294967296, .int "NUMBER_BYTES" 60, .glo "DamagedPacket", .exc "DamagedPacket", .exm "DamagedPacket" "DamagedPacket" true]
structure Tx (K : PySem.W.Frag) (mg : Str → Option Value) : Prop where
  m_Reader_read_byte : Meth K (He.ga K "Reader") "read_byte" (He.fAd K ("Reader", some "read_byte"))
  m_Reader_read_number : Meth K (He.ga K "Reader") "read_number" (He.fAd K ("Reader", some "read_number"))
  g_write_number : mg "write_number" = some (.ref (He.fAd K ("write_number", none)))
  g_checksum : mg "checksum" = some (.ref (He.fAd K ("checksum", none)))
  g_write_record : mg "write_record" = some (.ref (He.fAd K ("write_record", none)))
  g_read_size : mg "_read_size" = some (.ref (He.fAd K ("_read_size", none)))
  g_read_records : mg "read_records" = some (.ref (He.fAd K ("read_records", none)))
  g_l_mix : mg "_law_mix" = some (.ref (He.fAd K ("_law_mix", none)))
  g_l_draws : mg "_law_draws" = some (.ref (He.fAd K ("_law_draws", none)))
  g_l_at : mg "_law_at" = some (.ref (He.fAd K ("_law_at", none)))
  g_l_is_integer : mg "_law_is_integer" = some (.ref (He.fAd K ("_law_is_integer", none)))
  g_l_same : mg "_law_same" = some (.ref (He.fAd K ("_law_same", none)))
  g_l_next : mg "_law_next" = some (.ref (He.fAd K ("_law_next", none)))
  g_l_number : mg "_law_number" = some (.ref (He.fAd K ("_law_number", none)))
  g_l_checksum : mg "_law_checksum" = some (.ref (He.fAd K ("_law_checksum", none)))
  g_l_record : mg "_law_record" = some (.ref (He.fAd K ("_law_record", none)))
  g_l_bytes : mg "_law_bytes" = some (.ref (He.fAd K ("_law_bytes", none)))
  g_l_behind : mg "_law_behind" = some (.ref (He.fAd K ("_law_behind", none)))
  g_law : mg "law" = some (.ref (He.fAd K ("law", none)))
  g_Reader : mg "Reader" = some (.ref (He.ga K "Reader"))
  c_Reader : Cls K (He.ga K "Reader")
  k_Reader : Mk K (He.ga K "Reader") (He.fAd K ("Reader", some "__init__"))
  na_Reader_at : NoAttr K (He.ga K "Reader") "at"
  na_Reader_data : NoAttr K (He.ga K "Reader") "data"
  f_bool : mg "bool" = none
  f_int : mg "int" = none
  f_isinstance : mg "isinstance" = none
  f_len : mg "len" = none
  f_list : mg "list" = none
  f_min : mg "min" = none
  f_range : mg "range" = none
  f_str : mg "str" = none
  f_tuple : mg "tuple" = none
  k_CHECKSUM_LIMIT : ∃ t, mg "CHECKSUM_LIMIT" = some (.int 4294967296 t)
  k_NUMBER_BYTES : ∃ t, mg "NUMBER_BYTES" = some (.int 60 t)
  g_DamagedPacket : mg "DamagedPacket" = some (.ref (He.ga K "DamagedPacket"))
  x_DamagedPacket : ExcFacts K (He.ga K "DamagedPacket")
  e_DamagedPacket : PySem.W.exmOne K (.ref (He.ga K "DamagedPacket")) (.ref (He.ga K "DamagedPacket")) = some true
theorem tx {K : PySem.W.Frag} {h : Heap} {mg : Str → Option Value} (X : K.In h) (G : h.Ns mainGlobals mg) (c : He.SaysD fas fns K) : Tx K mg :=
  ⟨He.meth_ok (c.fact 0), He.meth_ok (c.fact 1), He.glo_ok X G (c.fact 2), He.glo_ok X G (c.fact 3), He.glo_ok X G (c.fact 4), He.glo_ok X G (c.fact 5), He.glo_ok X G (c.fact 6), He.glo_ok X G (c.fact 7), He.glo_ok X G (c.fact 8), He.glo_ok X G (c.fact 9), He.glo_ok X G (c.fact 10), He.glo_ok X G (c.fact 11), He.glo_ok X G (c.fact 12), He.glo_ok X G (c.fact 13), He.glo_ok X G (c.fact 14), He.glo_ok X G (c.fact 15), He.glo_ok X G (c.fact 16), He.glo_ok X G (c.fact 17), He.glo_ok X G (c.fact 18), He.glo_ok X G (c.fact 19), He.cls_ok (c.fact 20), He.mkr_ok (c.fact 21), He.noat_ok (c.fact 22), He.noat_ok (c.fact 23), He.free_ok X G (c.fact 24), He.free_ok X G (c.fact 25), He.free_ok X G (c.fact 26), He.free_ok X G (c.fact 27), He.free_ok X G (c.fact 28), He.free_ok X G (c.fact 29), He.free_ok X G (c.fact 30), He.free_ok X G (c.fact 31), He.free_ok X G (c.fact 32), He.int_ok X G (c.fact 33), He.int_ok X G (c.fact 34), He.glo_ok X G (c.fact 35), He.exc_ok (c.fact 36), He.exm_ok (c.fact 37)⟩
end K11
namespace K11
open PySem L2 Hw
local macro_rules | `(tactic| walk_at "s1") => `(tactic| (first
  | with_reducible refine c_seq ?_ | with_reducible refine c_asg ?_ | with_reducible refine c_drop ?_ | with_reducible refine c_ret ?_ | with_reducible refine c_if ?_ | with_reducible refine c_next ?_
  | with_reducible refine c_test ?_ | with_reducible refine c_B ?_ | with_reducible refine c_isB ?_ | with_reducible refine c_not ?_ | with_reducible refine c_and ?_ | with_reducible refine c_or ?_
  | with_reducible refine c_andV ?_ | with_reducible refine c_orV ?_ | with_reducible refine c_notV ?_ | with_reducible refine c_ifE ?_
  | with_reducible refine c_cons ?_ | with_reducible refine c_nil ?_ | with_reducible refine c_op ?_ | with_reducible refine c_un ?_ | with_reducible refine c_cb ?_ | with_reducible refine c_call ?_
  | with_reducible refine c_C ?_ | with_reducible refine c_sl ?_ | with_reducible refine c_noPart ?_ | with_reducible refine c_part ?_ | with_reducible refine c_isI ?_
  | with_reducible refine c_for ?_ | with_reducible refine c_iR1 ?_ | with_reducible refine c_iR2 ?_ | with_reducible refine c_iR3 ?_ | with_reducible refine c_iList ?_ | with_reducible refine c_gcons ?_ | with_reducible refine c_gnil ?_
  | with_reducible refine c_lc ?_ | with_reducible refine c_yes ?_ | with_reducible refine c_fld ?_ | with_reducible refine c_sfld ?_ | with_reducible refine c_meth ?_ | with_reducible refine c_make ?_ | with_reducible refine c_augS ?_ | with_reducible refine c_gsub ?_ | with_reducible refine c_raise ?_ | with_reducible refine c_methE ?_ | with_reducible refine c_callS ?_ | with_reducible refine c_tryO ?_ | with_reducible refine c_fldaug ?_ | with_reducible refine c_break ?_ | with_reducible refine c_ip ?_
  | ((with_reducible refine' c_aug ?S ?h ?_); (case S => assumption); (case h => exact rfl))
  | with_reducible refine c_tup ?_ | with_reducible refine c_lst ?_ | with_reducible refine c_bm ?_ | with_reducible refine c_bm0 ?_
  | ((with_reducible refine' c_var ?S ?h ?_); (case S => assumption); (case h => exact rfl)) | ((with_reducible refine' c_varD ?S ?h (fun v hv => ?_)); (case S => assumption); (case h => exact rfl))
  | ((with_reducible refine' c_setI ?S (fun σ' S => ?_)); (case S => assumption)) | ((with_reducible refine' c_setS ?S (fun σ' S => ?_)); (case S => assumption)) | ((with_reducible refine' c_setB ?S (fun σ' S => ?_)); (case S => assumption)) | ((with_reducible refine' c_setN ?S (fun σ' S => ?_)); (case S => assumption))
  | with_reducible refine c_plusI ?_ | with_reducible refine c_minus ?_ | with_reducible refine c_less ?_ | with_reducible refine c_le ?_ | with_reducible refine c_gt ?_ | with_reducible refine c_ge ?_
  | with_reducible refine c_sameI ?_ | with_reducible refine c_sameS ?_ | with_reducible refine c_sameB ?_ | with_reducible refine c_diffI ?_ | with_reducible refine c_diffS ?_ | with_reducible refine c_diffB ?_
  | with_reducible refine c_isNone ?_ | with_reducible refine c_notNone ?_
  | with_reducible refine c_int ?_ | with_reducible refine c_intB ?_ | with_reducible refine c_min2 ?_ | with_reducible refine c_max2 ?_
  | ((with_reducible refine' c_lenL ?h ?s ?_); (case h => assumption); (case s => exact ST.same (by assumption)))
  | ((with_reducible refine' c_lenT ?h ?s ?_); (case h => assumption); (case s => exact ST.same (by assumption)))
  | ((with_reducible refine c_rem ?h ?_); (case h => decide)) | ((with_reducible refine c_div ?h ?_); (case h => exact ⟨by decide, by decide⟩)) | ((with_reducible refine c_times ?h ?_); (case h => exact .inr ⟨by decide, by decide⟩))))
local macro_rules | `(tactic| walk_at "st") => `(tactic| repeat walk_at "s1")
local macro_rules | `(tactic| walk_at "le") => `(tactic| repeat' (first | exact True.intro | exact SlLe.rfl' | exact SlLe.any' | exact SlLe.int' | exact SlLe.str' | exact SlLe.bl' | exact SlLe.non' | (refine And.intro ?_ ?_)))
local macro_rules | `(tactic| walk_at "da") => `(tactic| repeat' (first | assumption | exact DaAll.nil | exact Da.int _ | exact Da.str _ | exact Da.bl _ | exact Da.non | (with_reducible apply DaAll.cons)))
local macro_rules | `(tactic| walk_at "wp") => `(tactic| repeat (first | (rw [wipe_in (by decide)]) | exact wipe_wipe _ _))
local macro_rules | `(tactic| walk_at "sj") => `(tactic| ((repeat ((fail_if_success (with_reducible show tSeq (tIfS _ _ _) _ _ _ _)); walk_at "s1")); (try (with_reducible show tSeq (tIfS _ _ _) _ _ _ _))))
/-! ### the reader -/
def BytesOk (ds : List Int) : Prop := ds.length ≤ 1000000 ∧ ∀ b ∈ ds, 0 ≤ b ∧ b < 256
theorem BytesOk.at {ds : List Int} (h : BytesOk ds) {i : Nat} (hi : i < ds.length) : 0 ≤ ds[i] ∧ ds[i] < 256 := h.2 _ (List.getElem_mem hi)
theorem int_at {ds : List Int} {i : Nat} (hi : i < ds.length) : (ds.map PyData.int)[i]? = some (.int ds[i]) := by simp [hi]
/-- a reader of ds that stands at at -/
def RdA (C p : Addr) (ds : List Int) (at_ : Nat) : As where
  fp := fun b => b = p
  ok := fun G H => ∃ dx v, H p = some (.ins C dx (f2 "data" "at" v (.int at_))) ∧ Da G v (.list (ds.map .int)) ∧ BytesOk ds ∧ at_ ≤ ds.length
  stays := fun g k ⟨dx, v, e, h, b⟩ => ⟨dx, v, k _ _ rfl e, h.mono g, b⟩
def spRdInit (C : Addr) : Sp := fun vs H Q _ => ∃ (G : Hp) (p dx : Addr) (v : V) (ds : List Int), vs = [.ref p, v] ∧ Same G H ∧ (As.raw p (.ins C dx [])).at G H ∧ Da G v (.list (ds.map .int)) ∧ BytesOk ds ∧
  ∀ G' H', Gx (fun b => b = p) G H G' H' → (RdA C p ds 0).at G' H' → Q .non H'
/-- a method that reads: f tells what, and where it stands then; none: the error CD -/
def spRd (C CD : Addr) (n : Nat) (f : List PyData → List Int → Nat → Option (PyData × Nat)) : Sp := fun vs H Q E => ∃ (G : Hp) (p : Addr) (rest : List V) (as : List PyData) (ds : List Int) (at_ : Nat),
  vs = .ref p :: rest ∧ Same G H ∧ (RdA C p ds at_).at G H ∧ DaAll G rest as ∧ rest.length = n ∧
  (∀ d at' x G' H', f as ds at_ = some (d, at') → Gx (fun b => b = p) G H G' H' → (RdA C p ds at').at G' H' → Da G' x d → Q x H') ∧
  (∀ at' G' H', f as ds at_ = none → Gx (fun b => b = p) G H G' H' → (RdA C p ds at').at G' H' → E (.ref CD) none H')
section
variable {K : PySem.W.Frag} {G0 H0 : Hp} {L : Addr → Prop} {π : List Pin} {ρ : List Sl} {μ : List As} {G H : Hp} {σ : St} {C CD p : Addr} {ds : List Int} {at_ : Nat} {Q : VK} {E : XK} {D : Ends} {v : V}
theorem ST.bytes (S : ST G0 H0 L π ρ (RdA C p ds at_ :: μ) G σ H) : BytesOk ds ∧ at_ ≤ ds.length := by
  obtain ⟨_, _, _, _, h⟩ := S.head
  exact h
theorem c_rdAt (c : Cls K C) (n : NoAttr K C "at") (S : ST G0 H0 L π ρ (RdA C p ds at_ :: μ) G σ H) (k : Q (.int at_) H) : fldW K "at" Q (.ref p) H := by
  obtain ⟨dx, v, e, _⟩ := S.head
  exact c_fldAt e c n f2_2 k
theorem c_rdData (c : Cls K C) (n : NoAttr K C "data") (S : ST G0 H0 L π ρ (RdA C p ds at_ :: μ) G σ H) (k : ∀ v, Da G v (.list (ds.map .int)) → Q v H) : fldW K "data" Q (.ref p) H := by
  obtain ⟨dx, v, e, h, _⟩ := S.head
  exact c_fldAt e c n (f2_1 (by decide)) (k v h)
theorem c_rdMeth {m : Str} {sp : Sp} {t : TA} (S : ST G0 H0 L π ρ (RdA C p ds at_ :: μ) G σ H) (h1 : ¬ m = "data") (h2 : ¬ m = "at") (h : t σ H fun vs H2 => sp (.ref p :: vs) H2 Q E) : methW C m sp E t σ Q (.ref p) H := by
  obtain ⟨dx, v, e, _⟩ := S.head
  exact c_methAt e (f2_no h1 h2) h
theorem c_addAt (c : Cls K C) (n : NoAttr K C "at") (S : ST G0 H0 L π ρ (RdA C p ds at_ :: μ) G σ H) (hl : at_ < ds.length) (k : ∀ H', ST G0 H0 L π ρ (RdA C p ds (at_ + 1) :: μ) G σ H' → D.nx σ H') : augW K "at" L2.rAdd (tC (.int 1)) D σ (.ref p) H := by
  obtain ⟨dx, v, e, h, hb, _⟩ := S.head
  obtain ⟨gp, _, _⟩ := S.hfp (b := p) rfl
  refine ⟨p, C, dx, _, _, rfl, e, c, n, f2_2, ?_⟩
  refine ⟨_, _, rfl, rfl, dx, _, e, (by rw [f2_len (by decide)]; decide), ?_⟩
  rw [f2_put2 (by decide)]
  refine k _ (S.step (Gx.put S.same gp) ⟨dx, v, upd_same, h, hb, hl⟩ fun b q => by cases q; exact ⟨.inl rfl, gp, by rw [upd_same]; exact fun z => nomatch z⟩)
theorem c_newRd (S : ST G0 H0 L π ρ μ G σ H) (hv : Da G v (.list (ds.map .int))) (hb : BytesOk ds) (k : ∀ p G' H', ST G0 H0 L π ρ (RdA C p ds 0 :: μ) G' σ H' → Same G G' → Q (.ref p) H') : makeW C (spRdInit C) E Q [v] H := by
  intro x dx hx hd ne
  obtain ⟨S1, _⟩ := S.newO (C := C) hx hd ne
  exact ⟨G, x, dx, v, ds, rfl, S1.same, S1.at, hv, hb, fun G' H' g hA => ⟨rfl, k x G' H' (S1.called g hA fun b hb => .inl hb) g.g⟩⟩
theorem c_callR {n : Nat} {f : List PyData → List Int → Nat → Option (PyData × Nat)} {rest : List V} {as : List PyData} (S : ST G0 H0 L π ρ (RdA C p ds at_ :: μ) G σ H) (hd : DaAll G rest as) (hl : rest.length = n)
    (yes : ∀ d at' x G' H', f as ds at_ = some (d, at') → ST G0 H0 L π ρ (RdA C p ds at' :: μ) G' σ H' → Same G G' → Da G' x d → Q x H')
    (no : ∀ at' G' H', f as ds at_ = none → ST G0 H0 L π ρ (RdA C p ds at' :: μ) G' σ H' → Same G G' → E (.ref CD) none H') : spRd C CD n f (.ref p :: rest) H Q E :=
  ⟨G, p, rest, as, ds, at_, rfl, S.same, S.at, hd, hl, fun d at' x G' H' e g h hx => yes d at' x G' H' e (S.called g h fun b hb => .inl hb) g.g hx,
    fun at' G' H' e g h => no at' G' H' e (S.called g h fun b hb => .inl hb) g.g⟩
end
section
variable {P : Program} {w : World} {K : PySem.W.Frag} {mg : Str → Option Value} {base : Heap}
theorem fo_Reader_init (T : Tx K mg) {fd : FuncData} (F : FunD K "__init__" "Reader.__init__" (defArgs s_Reader_init) (defBody s_Reader_init) (defScope s_Reader_init) [] [] (He.fAd K ("Reader", some "__init__")) fd)   : FnOk P w K mg base CX0 1 (He.fAd K ("Reader", some "__init__")) fd ["self", "data"] (spRdInit (He.ga K "Reader")) := by
  refine F.ok sc_Reader_init (fun vs H Q E h => ?len) (fun cdv A outer s H vs Q E hr h => ?read)
  case len =>
    obtain ⟨G, p, dx, v, ds, rfl, _⟩ := h
    rfl
  case read =>
    refine ⟨_, PSs.nox (pss_cons (ps_fld (pv 0) (pe_callTy cl_list (by rfl) T.f_list (by decide +kernel) (pa_cons (pv 1) pa_nil)) rfl)
      (pss_one (ps_fld (pv 0) pe_int rfl))), ?_⟩
    obtain ⟨G, p, dx, v, ds, rfl, s0, hA, hv, hb, ret⟩ := h
    have S : ST G H (fun b => b = p) [] [.val (.ref p), .dat (.list (ds.map .int))] [As.raw p (.ins (He.ga K "Reader") dx [])] G (L2.start n_Reader_init [.ref p, v]) H :=
      ST.start1 (N := n_Reader_init) (ρ := [.val (.ref p), .dat (.list (ds.map .int))]) (A := As.raw p (.ins (He.ga K "Reader") dx [])) s0 ⟨rfl, ⟨v, rfl, hv⟩, True.intro⟩ hA
    walk_at "st"
    refine c_listLf (by assumption) S (fun v2 G1 H1 S _ hv2 => ?_)
    walk_at "st"
    refine c_setAt S T.c_Reader T.na_Reader_data (by show 0 < 1000; decide) (fun H2 S => ?_)
    walk_at "st"
    refine c_setAt S T.c_Reader T.na_Reader_at (by show 1 < 1000; decide) (fun H3 S => ?_)
    walk_at "st"
    have e : H3 p = some (.ins (He.ga K "Reader") dx (f2 "data" "at" v2 (.int 0))) := S.head
    exact ret G1 H3 S.gx ⟨⟨dx, v2, e, hv2, hb, Nat.zero_le _⟩, fun b hb => ⟨(S.hfp hb).1, (S.hfp hb).2.1⟩⟩
theorem ok_Reader_init (T : Tx K mg) (c : He.SaysD fas fns K)  : OkF P w K mg base CX0 ("Reader", some "__init__") ["self", "data"] 1 (spRdInit (He.ga K "Reader")) := by
  obtain ⟨fd, F⟩ := c.def_ 0 (d := d_Reader_init) rfl
  exact ⟨fd, fo_Reader_init T F , F.kp, F.bindsN fun _ _ _ _ _ _ us hl => match us, hl with | [_, _], _ => rfl⟩
end
def rdByte (_ : List PyData) (ds : List Int) (at_ : Nat) : Option (PyData × Nat) := (ds[at_]?).map fun b => (.int b, at_ + 1)
section
variable {P : Program} {w : World} {K : PySem.W.Frag} {mg : Str → Option Value} {base : Heap}
theorem fo_Reader_read_byte (T : Tx K mg) {fd : FuncData} (F : FunD K "read_byte" "Reader.read_byte" (defArgs s_Reader_read_byte) (defBody s_Reader_read_byte) (defScope s_Reader_read_byte) [] [] (He.fAd K ("Reader", some "read_byte")) fd)   : FnOk P w K mg base (L2.CX P w) 1 (He.fAd K ("Reader", some "read_byte")) fd ["self"] (spRd (He.ga K "Reader") (He.ga K "DamagedPacket") 0 rdByte) := by
  refine F.ok sc_Reader_read_byte (fun vs H Q E h => ?len) (fun cdv A outer s H vs Q E hr h => ?read)
  case len =>
    obtain ⟨G, p, rest, as, ds, at_, rfl, _, _, _, hl, _⟩ := h
    show rest.length + 1 = 1
    rw [hl]
  case read =>
    refine ⟨_, (pss_cons (ps_if (pt_cmpR op_geI (pe_fld (pv 0) rfl) (pe_callB cl_len (by rfl) T.f_len (by decide +kernel) (pa_cons (pe_fld (pv 0) rfl) pa_nil)) (nomark _)) (pss_one (ps_raiseC rfl (takes_of rfl rfl rfl rfl) T.x_DamagedPacket T.g_DamagedPacket (by rfl))) pss_nil)
      (pss_cons (ps_fldaug (pv 0) pe_int in_add)
      (pss_one (ps_ret (pe_ix ix_seq (pe_fld (pv 0) rfl) (pe_op op_minus (pe_fld (pv 0) rfl) pe_int) (fun _ _ => rfl)))))), ?_⟩
    obtain ⟨G, p, rest, as, ds, at_, rfl, s0, hA, hd, hl, yes, no⟩ := h
    obtain rfl : rest = [] := List.length_eq_zero_iff.mp hl
    have S : ST G H (fun b => b = p) [] [.val (.ref p)] [RdA (He.ga K "Reader") p ds at_] G (L2.start n_Reader_read_byte [.ref p]) H :=
      ST.start1 (N := n_Reader_read_byte) (ρ := [.val (.ref p)]) (A := RdA (He.ga K "Reader") p ds at_) s0 ⟨rfl, True.intro⟩ hA
    obtain ⟨hb, hat⟩ := ST.bytes S
    walk_at "st"
    refine c_rdAt T.c_Reader T.na_Reader_at S ?_
    walk_at "st"
    refine c_rdData T.c_Reader T.na_Reader_data S (fun v hv => ?_)
    walk_at "st"
    rw [List.length_map]
    refine c_ite (fun h => ?_) (fun h => ?_)
    · walk_at "st"
      exact no at_ G H (by unfold rdByte; rw [List.getElem?_eq_none (by omega)]; rfl) S.gx S.at
    · have hlt : at_ < ds.length := by omega
      walk_at "st"
      refine c_addAt T.c_Reader T.na_Reader_at S hlt (fun H1 S => ?_)
      walk_at "st"
      refine c_rdData T.c_Reader T.na_Reader_data S (fun v hv => ?_)
      walk_at "st"
      refine c_rdAt T.c_Reader T.na_Reader_at S ?_
      walk_at "st"
      refine c_ixL (k := at_) hv S.same (int_at hlt) (.inl ⟨by omega, by omega⟩) (fun w hw => ?_)
      exact yes _ _ w G H1 (by unfold rdByte; rw [List.getElem?_eq_getElem hlt]; rfl) S.gx S.at hw
theorem ok_Reader_read_byte (T : Tx K mg) (c : He.SaysD fas fns K)  : OkF P w K mg base (L2.CX P w) ("Reader", some "read_byte") ["self"] 1 (spRd (He.ga K "Reader") (He.ga K "DamagedPacket") 0 rdByte) := by
  obtain ⟨fd, F⟩ := c.def_ 1 (d := d_Reader_read_byte) rfl
  exact ⟨fd, fo_Reader_read_byte T F , F.kp, F.bindsN fun _ _ _ _ _ _ us hl => match us, hl with | [_], _ => rfl⟩
end
/-- a number: at most n bytes; the last one is below 128, and is 0 only where it is the first -/
def numR : Nat → Bool → List Int → Option (Int × Nat)
  | 0, _, _ => none
  | _ + 1, _, [] => none
  | n + 1, f, b :: r => if b < 128 then (if b = 0 ∧ f = false then none else some (b, 1)) else (numR n false r).map fun q => (b % 128 + 128 * q.1, q.2 + 1)
def rdNumber (_ : List PyData) (ds : List Int) (at_ : Nat) : Option (PyData × Nat) := (numR 60 true (ds.drop at_)).map fun q => (.int q.1, at_ + q.2)
section
variable {P : Program} {w : World} {K : PySem.W.Frag} {mg : Str → Option Value} {base : Heap}
theorem fo_Reader_read_number (T : Tx K mg) {fd : FuncData} (F : FunD K "read_number" "Reader.read_number" (defArgs s_Reader_read_number) (defBody s_Reader_read_number) (defScope s_Reader_read_number) [] [] (He.fAd K ("Reader", some "read_number")) fd) (h_Reader_read_byte : OkF P w K mg base (L2.CX P w) ("Reader", some "read_byte") ["self"] 1 (spRd (He.ga K "Reader") (He.ga K "DamagedPacket") 0 rdByte))  : FnOk P w K mg base (L2.CX P w) 2 (He.fAd K ("Reader", some "read_number")) fd ["self"] (spRd (He.ga K "Reader") (He.ga K "DamagedPacket") 0 rdNumber) := by
  obtain ⟨fd_Reader_read_byte, G_Reader_read_byte, kp_Reader_read_byte, b_Reader_read_byte⟩ := h_Reader_read_byte
  refine F.ok sc_Reader_read_number (fun vs H Q E h => ?len) (fun cdv A outer s H vs Q E hr h => ?read)
  case len =>
    obtain ⟨G, p, rest, as, ds, at_, rfl, _, _, _, hl, _⟩ := h
    show rest.length + 1 = 1
    rw [hl]
  case read =>
    refine ⟨_, (pss_cons (ps_set (i := 1) sc_Reader_read_number.nd rfl (by first | exact Or.inl rfl | exact Or.inr rfl) pe_int)
      (pss_cons (ps_set (i := 2) sc_Reader_read_number.nd rfl (by first | exact Or.inl rfl | exact Or.inr rfl) pe_int)
      (pss_cons (ps_for (passes_of rfl) rfl (pi_range1 (by rfl) T.f_range (pa_cons (pe_glob (v := .int 60) (by rfl) T.k_NUMBER_BYTES.choose_spec ⟨_, rfl⟩) pa_nil)) (pg_name (i := 3) sc_Reader_read_number.nd rfl (by first | exact Or.inl rfl | exact Or.inr rfl))
      (pss_cons (ps_set (i := 4) sc_Reader_read_number.nd rfl (by first | exact Or.inl rfl | exact Or.inr rfl) (pe_methE0 (pv 0) T.c_Reader T.m_Reader_read_byte G_Reader_read_byte (hr.mono (by decide)) b_Reader_read_byte (fun σ => passAt (takes_of rfl rfl rfl rfl) σ)))
      (pss_cons (ps_aug (i := 1) sc_Reader_read_number.nd rfl (by first | exact Or.inl rfl | exact Or.inr rfl) (pe_op op_times (pe_op op_rem (pv 4) pe_int) (pv 2)) ip_add)
      (pss_cons (ps_if (pt_cmpR (op_less hr.units0) (pv 4) pe_int (nomark _)) (pss_cons (ps_if (PW.pt (pw_and (pt_cmpR (op_same hr.units) (pv 4) pe_int (nomark _)) (pw_and1 (pt_cmpR op_gtI (pv 3) pe_int (nomark _))))) (pss_one (ps_raiseC rfl (takes_of rfl rfl rfl rfl) T.x_DamagedPacket T.g_DamagedPacket (by rfl))) pss_nil)
      (pss_one (ps_ret (pv 1)))) pss_nil)
      (pss_one (ps_set (i := 2) sc_Reader_read_number.nd rfl (by first | exact Or.inl rfl | exact Or.inr rfl) (pe_op op_times (pv 2) pe_int)))))))
      (pss_one (ps_raiseC rfl (takes_of rfl rfl rfl rfl) T.x_DamagedPacket T.g_DamagedPacket (by rfl)))))), ?_⟩
    obtain ⟨G, p, rest, as, ds, at_, rfl, s0, hA, hd, hl, yes, no⟩ := h
    obtain rfl : rest = [] := List.length_eq_zero_iff.mp hl
    have S : ST G H (fun b => b = p) [] [.val (.ref p), .any, .any, .any, .any] [RdA (He.ga K "Reader") p ds at_] G (L2.start n_Reader_read_number [.ref p]) H :=
      ST.start1 (N := n_Reader_read_number) (ρ := [.val (.ref p)]) (A := RdA (He.ga K "Reader") p ds at_) s0 ⟨rfl, True.intro⟩ hA
    walk_at "st"
    refine c_r1 (by decide) (by decide) ?_
    refine c_forR (fun i G' σ' H' => ∃ tot fac : Int, ST G H (fun b => b = p) [] [.val (.ref p), .val (.int tot), .val (.int fac), .any, .any] [RdA (He.ga K "Reader") p ds (at_ + i)] G' σ' H' ∧
        numR 60 true (ds.drop at_) = (numR (60 - i) (decide (i = 0)) (ds.drop (at_ + i))).map fun q => (tot + fac * q.1, i + q.2))
      ⟨0, 1, ST.le (by assumption) (by walk_at "le"), by
        show _ = (numR 60 true (ds.drop at_)).map _
        cases numR 60 true (ds.drop at_) with
        | none => rfl
        | some q => show some q = some (0 + 1 * q.1, 0 + q.2); rw [Int.one_mul, Int.zero_add, Nat.zero_add]⟩ ?_ ?_
    · rintro i G' σ' H' hi ⟨tot, fac, S, hn⟩
      have hi : i < 60 := hi
      have e60 : 60 - i = (60 - (i + 1)) + 1 := by omega
      rw [e60] at hn
      walk_at "st"
      refine c_rdMeth (by assumption) (by decide) (by decide) ?_
      walk_at "st"
      refine c_callR (by assumption) .nil rfl (fun d at' x G1 H1 e S _ hx => ?_) (fun at' G1 H1 e S _ => ?_)
      · unfold rdByte at e
        obtain ⟨b, hb, e⟩ := Option.map_eq_some_iff.mp e
        cases e
        cases hx
        have hlt : at_ + i < ds.length := (List.getElem?_eq_some_iff.mp hb).1
        have eb : ds[at_ + i] = b := (List.getElem?_eq_some_iff.mp hb).2
        have hbb := (ST.bytes S).1.at hlt
        rw [eb] at hbb
        have ed : ds.drop (at_ + i) = b :: ds.drop (at_ + i + 1) := by rw [List.drop_eq_getElem_cons hlt, eb]
        rw [ed] at hn
        walk_at "st"
        refine c_times (.inl ⟨by omega, by omega⟩) ?_
        walk_at "st"
        refine c_ite (fun h128 => ?_) (fun h128 => ?_)
        · have hn2 : numR (60 - (i + 1) + 1) (decide (i = 0)) (b :: ds.drop (at_ + i + 1)) = if b = 0 ∧ decide (i = 0) = false then none else some (b, 1) := by
            show (if b < 128 then _ else _) = _
            rw [if_pos h128]
          rw [hn2] at hn
          have fin : ¬ (b = 0 ∧ decide (i = 0) = false) → numR 60 true (ds.drop at_) = some (tot + b % 128 * fac, i + 1) := fun h => by
            rw [hn, if_neg h, Int.emod_eq_of_lt hbb.1 h128, Int.mul_comm b fac]
            rfl
          walk_at "st"
          refine c_ite (fun h0 => ?_) (fun h0 => ?_)
          · walk_at "st"
            refine c_ite (fun h1 => ?_) (fun h1 => ?_)
            · walk_at "st"
              have hi0 : ¬ i = 0 := by omega
              exact no _ G1 H1 (by unfold rdNumber; rw [hn, if_pos ⟨h0, decide_eq_false hi0⟩]; rfl) (ST.gx (by assumption)) (ST.at (by assumption))
            · walk_at "st"
              have hi0 : i = 0 := by omega
              refine yes _ _ _ G1 H1 (by unfold rdNumber; rw [fin (by rw [decide_eq_true hi0]; rintro ⟨_, z⟩; cases z)]; rfl) (ST.gx (by assumption)) ?_ (.int _)
              rw [← Nat.add_assoc]
              exact ST.at (by assumption)
          · refine iteF ?_
            walk_at "st"
            refine yes _ _ _ G1 H1 (by unfold rdNumber; rw [fin (fun z => h0 z.1)]; rfl) (ST.gx (by assumption)) ?_ (.int _)
            rw [← Nat.add_assoc]
            exact ST.at (by assumption)
        · have hn2 : numR (60 - (i + 1) + 1) (decide (i = 0)) (b :: ds.drop (at_ + i + 1)) = (numR (60 - (i + 1)) false (ds.drop (at_ + i + 1))).map fun q => (b % 128 + 128 * q.1, q.2 + 1) := by
            show (if b < 128 then _ else _) = _
            rw [if_neg h128]
          rw [hn2, Option.map_map] at hn
          walk_at "st"
          refine ⟨_, tot + b % 128 * fac, fac * 128, ST.le (by assumption) (by walk_at "le"), ?_⟩
          rw [hn, decide_eq_false (Nat.succ_ne_zero i)]
          show _ = (numR (60 - (i + 1)) false (ds.drop (at_ + i + 1))).map _
          congr 1
          funext q
          show (tot + fac * (b % 128 + 128 * q.1), i + (q.2 + 1)) = (tot + b % 128 * fac + fac * 128 * q.1, i + 1 + q.2)
          rw [Int.mul_add, Int.mul_comm (b % 128) fac, Int.mul_assoc, ← Int.add_assoc, show i + (q.2 + 1) = i + 1 + q.2 by omega]
      · unfold rdByte at e
        have hge : ds.length ≤ at_ + i := by
          have := Option.map_eq_none_iff.mp e
          exact List.getElem?_eq_none_iff.mp this
        rw [List.drop_of_length_le hge] at hn
        exact no _ G1 H1 (by unfold rdNumber; rw [hn]; rfl) S.gx S.at
    · rintro G' σ' H' ⟨tot, fac, S, hn⟩
      walk_at "st"
      exact no _ G' H' (by unfold rdNumber; rw [hn]; rfl) S.gx S.at
theorem ok_Reader_read_number (T : Tx K mg) (c : He.SaysD fas fns K) (h_Reader_read_byte : OkF P w K mg base (L2.CX P w) ("Reader", some "read_byte") ["self"] 1 (spRd (He.ga K "Reader") (He.ga K "DamagedPacket") 0 rdByte)) : OkF P w K mg base (L2.CX P w) ("Reader", some "read_number") ["self"] 2 (spRd (He.ga K "Reader") (He.ga K "DamagedPacket") 0 rdNumber) := by
  obtain ⟨fd, F⟩ := c.def_ 2 (d := d_Reader_read_number) rfl
  exact ⟨fd, fo_Reader_read_number T F h_Reader_read_byte, F.kp, F.bindsN fun _ _ _ _ _ _ us hl => match us, hl with | [_], _ => rfl⟩
end
/-! ### numbers written -/
def wNum (n : Nat) : List Int := if n < 128 then [(n : Int)] else ((n % 128 + 128 : Nat) : Int) :: wNum (n / 128)
termination_by n
decreasing_by omega
theorem wNum_lo {n : Nat} (h : n < 128) : wNum n = [(n : Int)] := by rw [wNum, if_pos h]
theorem wNum_hi {n : Nat} (h : ¬ n < 128) : wNum n = ((n % 128 + 128 : Nat) : Int) :: wNum (n / 128) := by rw [wNum, if_neg h]
theorem wNum_len : ∀ (k n : Nat), n < 128 ^ (k + 1) → (wNum n).length ≤ k + 1
  | k, n, h => by
    by_cases hn : n < 128
    · rw [wNum_lo hn]; show 1 ≤ _; omega
    · rw [wNum_hi hn]
      cases k with
      | zero => exact absurd h (by simpa using hn)
      | succ k =>
        have := wNum_len k (n / 128) (by rw [Nat.pow_succ] at h; omega)
        show (wNum (n / 128)).length + 1 ≤ _
        omega
theorem wNum_ne (n : Nat) : wNum n ≠ [] := by
  by_cases hn : n < 128
  · rw [wNum_lo hn]; exact List.cons_ne_nil _ _
  · rw [wNum_hi hn]; exact List.cons_ne_nil _ _
theorem wNum_bytes : ∀ (n : Nat), ∀ b ∈ wNum n, 0 ≤ b ∧ b < 256
  | n, b, hb => by
    by_cases hn : n < 128
    · rw [wNum_lo hn] at hb
      rw [List.mem_singleton.mp hb]; omega
    · rw [wNum_hi hn] at hb
      rcases List.mem_cons.mp hb with e | hb
      · rw [e]; omega
      · exact wNum_bytes (n / 128) b hb
termination_by n => n
decreasing_by omega
def R_wnum (ds es : List PyData) : Prop := ∃ n : Nat, ds = [.int (n : Int)] ∧ (wNum n).length ≤ 1000000 ∧ es = (wNum n).map .int
theorem le_sz {n : Nat} (h : n ≤ 1000000) : n ≤ sizeLine := Nat.le_of_lt (Nat.lt_of_le_of_lt h (by decide))
theorem lt_sz {n : Nat} (h : n ≤ 1000000) : n < sizeLine := Nat.lt_of_le_of_lt h (by decide)
section
variable {P : Program} {w : World} {K : PySem.W.Frag} {mg : Str → Option Value} {base : Heap}
theorem fo_write_number (T : Tx K mg) {fd : FuncData} (F : FunD K "write_number" "write_number" (defArgs s_write_number) (defBody s_write_number) (defScope s_write_number) [] [] (He.fAd K ("write_number", none)) fd)   : FnOk P w K mg base CX0 1 (He.fAd K ("write_number", none)) fd ["number"] (spL R_wnum) := by
  refine F.ok sc_write_number (fun vs H Q E h => ?len) (fun cdv A outer s H vs Q E hr h => ?read)
  case len =>
    obtain ⟨G, ds, d, _, hd, ⟨n, rfl, _⟩, _⟩ := h
    exact da_len hd
  case read =>
    refine ⟨_, PSs.nox (pss_cons (ps_set (i := 1) sc_write_number.nd rfl (by first | exact Or.inl rfl | exact Or.inr rfl) (pe_lst pa_nil))
      (pss_cons (ps_while PassesOwn.never (pt_cmpR op_geI (pv 0) pe_int (nomark _))
      (pss_cons (ps_expr (pe_bm PySem.F.plainAttrs_list PySem.F.slot_list_append PySem.F.type_list_append mt_append (pv 1) (pa_cons (pe_op op_plus (pe_op op_rem (pv 0) pe_int) pe_int) pa_nil)))
      (pss_one (ps_set (i := 0) sc_write_number.nd rfl (by first | exact Or.inl rfl | exact Or.inr rfl) (pe_op op_div (pv 0) pe_int)))))
      (pss_one (ps_ret (pe_op op_plus (pv 1) (pe_lst (pa_cons (pv 0) pa_nil))))))), ?_⟩
    obtain ⟨G, ds, d, s0, hd, ⟨n, rfl, hl, rfl⟩, ret⟩ := h
    have S : ST G H NoL [] [.val (.int (n : Int)), .any] [] G (L2.start n_write_number vs) H := ST.start (N := n_write_number) s0 hd
    walk_at "st"
    refine c_newL S .nil (Nat.zero_le _) (fun p H1 S p0 _ => ?_)
    refine c_set S (fun σ1 S => ?_)
    walk_at "st"
    refine c_while (fun m G' σ' H' => ∃ pre, wNum n = pre ++ wNum m ∧ ST G H NoL [] [.val (.int (m : Int)), .val (.ref p)] [As.lst p (pre.map .int)] G' σ' H') n ⟨[], rfl, S.le (by walk_at "le")⟩ ?_
    rintro m G' σ' H' ⟨pre, hp, S⟩
    have hpl : pre.length ≤ 1000000 := by
      rw [hp, List.length_append] at hl; omega
    walk_at "st"
    refine c_ite (fun hm => ?_) (fun hm => ?_)
    · have hm : ¬ m < 128 := by omega
      refine c_turn ?_
      walk_at "st"
      refine ⟨c_tyM S, ?_⟩
      walk_at "st"
      refine c_append S (.int _) (by rw [List.length_map]; exact lt_sz hpl) (fun H2 S => ?_)
      walk_at "st"
      refine ⟨m / 128, by omega, G', pre ++ [((m % 128 + 128 : Nat) : Int)], by rw [hp, wNum_hi hm, List.append_assoc]; rfl, ?_⟩
      rw [List.map_append]
      have S := ‹ST G H NoL [] _ (As.lst p (pre.map .int ++ [.int ((m : Int) % 128 + 128)]) :: []) G' _ H2›
      exact S.le (by walk_at "le")
    · have hm : m < 128 := by omega
      rw [wNum_lo hm] at hp
      obtain ⟨G2, S, hf, _⟩ := S.freeze p0
      walk_at "st"
      refine c_mkL (by assumption) (.cons (.int (m : Int)) .nil) (by show 1 ≤ sizeLine; decide) (fun v G3 H3 S g3 hv => ?_)
      refine c_plusLm (hf.mono g3.g) hv S (by rw [List.length_map]; show pre.length + 1 ≤ _; exact lt_sz hpl) (fun q H4 S q0 _ => ?_)
      rw [hp, List.map_append] at ret
      exact ret_L S q0 ret
theorem ok_write_number (T : Tx K mg) (c : He.SaysD fas fns K)  : OkF P w K mg base CX0 ("write_number", none) ["number"] 1 (spL R_wnum) := by
  obtain ⟨fd, F⟩ := c.def_ 3 (d := d_write_number) rfl
  exact ⟨fd, fo_write_number T F , F.kp, F.bindsN fun _ _ _ _ _ _ us hl => match us, hl with | [_], _ => rfl⟩
end
/-! ### checksums, records -/
def ck1 (t b : Int) : Int := (31 * t + b + 1) % 4294967296
def ck (bs : List Int) : Int := bs.foldl ck1 7
theorem ck_ok : ∀ (bs : List Int) (t : Int), 0 ≤ t ∧ t < 4294967296 → 0 ≤ bs.foldl ck1 t ∧ bs.foldl ck1 t < 4294967296
  | [], _, h => h
  | b :: bs, t, _ => ck_ok bs (ck1 t b) ⟨Int.emod_nonneg _ (by decide), Int.emod_lt_of_pos _ (by decide)⟩
theorem ck_take {bs : List Int} {i : Nat} {b : Int} (h : bs[i]? = some b) : ck (bs.take (i + 1)) = ck1 (ck (bs.take i)) b := by
  unfold ck
  rw [List.take_add_one, h, List.foldl_append]
  rfl
def R_ck (ds : List PyData) (d : PyData) : Prop := ∃ bs : List Int, ds = [.list (bs.map .int)] ∧ d = .int (ck bs)
section
variable {P : Program} {w : World} {K : PySem.W.Frag} {mg : Str → Option Value} {base : Heap}
theorem fo_checksum (T : Tx K mg) {fd : FuncData} (F : FunD K "checksum" "checksum" (defArgs s_checksum) (defBody s_checksum) (defScope s_checksum) [] [] (He.fAd K ("checksum", none)) fd)   : FnOk P w K mg base CX0 1 (He.fAd K ("checksum", none)) fd ["data"] (spP R_ck) := by
  refine F.ok sc_checksum (fun vs H Q E h => ?len) (fun cdv A outer s H vs Q E hr h => ?read)
  case len =>
    obtain ⟨G, ds, d, _, hd, ⟨bs, rfl, _⟩, _⟩ := h
    exact da_len hd
  case read =>
    refine ⟨_, PSs.nox (pss_cons (ps_set (i := 1) sc_checksum.nd rfl (by first | exact Or.inl rfl | exact Or.inr rfl) pe_int)
      (pss_cons (ps_for PassesOwn.never rfl (pi_list (pv 0)) (pg_name (i := 2) sc_checksum.nd rfl (by first | exact Or.inl rfl | exact Or.inr rfl))
      (pss_one (ps_set (i := 1) sc_checksum.nd rfl (by first | exact Or.inl rfl | exact Or.inr rfl) (pe_op op_rem (pe_op op_plus (pe_op op_plus (pe_op op_times pe_int (pv 1)) (pv 2)) pe_int) (pe_glob (v := .int 4294967296) (by rfl) T.k_CHECKSUM_LIMIT.choose_spec ⟨_, rfl⟩)))))
      (pss_one (ps_ret (pv 1))))), ?_⟩
    obtain ⟨G, ds, d, s0, hd, ⟨bs, rfl, rfl⟩, ret⟩ := h
    have S : ST G H NoL [] [.dat (.list (bs.map .int)), .any, .any] [] G (L2.start n_checksum vs) H := ST.start (N := n_checksum) s0 hd
    walk_at "st"
    rename_i S u hu
    refine c_forL (fun i G' σ' H' => ST G H NoL [pD u (.list (bs.map .int))] [.any, .val (.int (ck (bs.take i))), .any] [] G' σ' H') hu
      ((S.pinned hu).le (by walk_at "le")) (fun i G' σ' H' S => ⟨S.pin0, S.same⟩) ?_ ?_
    · rintro i d y G' σ' H' hd hy S
      rw [List.getElem?_map] at hd
      obtain ⟨b, hb, rfl⟩ := Option.map_eq_some_iff.mp hd
      cases hy
      walk_at "st"
      refine c_times (.inl ⟨by decide, by decide⟩) ?_
      walk_at "st"
      refine ⟨G', ?_⟩
      rw [ck_take hb]
      exact ST.le (by assumption) (by walk_at "le")
    · rintro G' σ' H' S
      rw [List.length_map, List.take_length] at S
      walk_at "st"
      exact ret_P S (.int _) ret
theorem ok_checksum (T : Tx K mg) (c : He.SaysD fas fns K)  : OkF P w K mg base CX0 ("checksum", none) ["data"] 1 (spP R_ck) := by
  obtain ⟨fd, F⟩ := c.def_ 4 (d := d_checksum) rfl
  exact ⟨fd, fo_checksum T F , F.kp, F.bindsN fun _ _ _ _ _ _ us hl => match us, hl with | [_], _ => rfl⟩
end
section
variable {P : Program} {w : World} {K : PySem.W.Frag} {mg : Str → Option Value} {base : Heap}
theorem fo_l_checksum (T : Tx K mg) {fd : FuncData} (F : FunD K "_law_checksum" "_law_checksum" (defArgs s_l_checksum) (defBody s_l_checksum) (defScope s_l_checksum) [] [] (He.fAd K ("_law_checksum", none)) fd)   : FnOk P w K mg base CX0 1 (He.fAd K ("_law_checksum", none)) fd ["data"] (spP R_ck) := by
  refine F.ok sc_l_checksum (fun vs H Q E h => ?len) (fun cdv A outer s H vs Q E hr h => ?read)
  case len =>
    obtain ⟨G, ds, d, _, hd, ⟨bs, rfl, _⟩, _⟩ := h
    exact da_len hd
  case read =>
    refine ⟨_, PSs.nox (pss_cons (ps_set (i := 1) sc_l_checksum.nd rfl (by first | exact Or.inl rfl | exact Or.inr rfl) pe_int)
      (pss_cons (ps_for PassesOwn.never rfl (pi_list (pv 0)) (pg_name (i := 2) sc_l_checksum.nd rfl (by first | exact Or.inl rfl | exact Or.inr rfl))
      (pss_one (ps_set (i := 1) sc_l_checksum.nd rfl (by first | exact Or.inl rfl | exact Or.inr rfl) (pe_op op_rem (pe_op op_plus (pe_op op_plus (pe_op op_times pe_int (pv 1)) (pv 2)) pe_int) pe_int))))
      (pss_one (ps_ret (pv 1))))), ?_⟩
    obtain ⟨G, ds, d, s0, hd, ⟨bs, rfl, rfl⟩, ret⟩ := h
    have S : ST G H NoL [] [.dat (.list (bs.map .int)), .any, .any] [] G (L2.start n_l_checksum vs) H := ST.start (N := n_l_checksum) s0 hd
    walk_at "st"
    rename_i S u hu
    refine c_forL (fun i G' σ' H' => ST G H NoL [pD u (.list (bs.map .int))] [.any, .val (.int (ck (bs.take i))), .any] [] G' σ' H') hu
      ((S.pinned hu).le (by walk_at "le")) (fun i G' σ' H' S => ⟨S.pin0, S.same⟩) ?_ ?_
    · rintro i d y G' σ' H' hd hy S
      rw [List.getElem?_map] at hd
      obtain ⟨b, hb, rfl⟩ := Option.map_eq_some_iff.mp hd
      cases hy
      walk_at "st"
      refine c_times (.inl ⟨by decide, by decide⟩) ?_
      walk_at "st"
      refine ⟨G', ?_⟩
      rw [ck_take hb]
      exact ST.le (by assumption) (by walk_at "le")
    · rintro G' σ' H' S
      rw [List.length_map, List.take_length] at S
      walk_at "st"
      exact ret_P S (.int _) ret
theorem ok_l_checksum (T : Tx K mg) (c : He.SaysD fas fns K)  : OkF P w K mg base CX0 ("_law_checksum", none) ["data"] 1 (spP R_ck) := by
  obtain ⟨fd, F⟩ := c.def_ 15 (d := d_l_checksum) rfl
  exact ⟨fd, fo_l_checksum T F , F.kp, F.bindsN fun _ _ _ _ _ _ us hl => match us, hl with | [_], _ => rfl⟩
end
def tail4 (t : Int) : List Int := [t / 16777216, t / 65536 % 256, t / 256 % 256, t % 256]
def recD (bs : List Int) : List Int := wNum bs.length ++ bs ++ tail4 (ck bs)
theorem num_small {n : Nat} (h : n ≤ 1000000) : (wNum n).length ≤ 3 := wNum_len 2 n (by omega)
theorem recD_len {bs : List Int} (h : bs.length ≤ 900000) : (recD bs).length ≤ bs.length + 7 ∧ bs.length + 5 ≤ (recD bs).length := by
  have h1 := num_small (show bs.length ≤ 1000000 by omega)
  have h2 : 1 ≤ (wNum bs.length).length := List.length_pos_iff.mpr (wNum_ne _)
  have h3 : (tail4 (ck bs)).length = 4 := rfl
  unfold recD
  rw [List.length_append, List.length_append, h3]
  omega
def R_rec (ds es : List PyData) : Prop := ∃ bs : List Int, ds = [.list (bs.map .int)] ∧ bs.length ≤ 900000 ∧ es = (recD bs).map .int
section
variable {P : Program} {w : World} {K : PySem.W.Frag} {mg : Str → Option Value} {base : Heap}
theorem fo_write_record (T : Tx K mg) {fd : FuncData} (F : FunD K "write_record" "write_record" (defArgs s_write_record) (defBody s_write_record) (defScope s_write_record) [] [] (He.fAd K ("write_record", none)) fd) (h_checksum : OkF P w K mg base CX0 ("checksum", none) ["data"] 1 (spP R_ck)) (h_write_number : OkF P w K mg base CX0 ("write_number", none) ["number"] 1 (spL R_wnum))  : FnOk P w K mg base CX0 2 (He.fAd K ("write_record", none)) fd ["data"] (spL R_rec) := by
  obtain ⟨fd_checksum, G_checksum, kp_checksum, b_checksum⟩ := h_checksum
  obtain ⟨fd_write_number, G_write_number, kp_write_number, b_write_number⟩ := h_write_number
  refine F.ok sc_write_record (fun vs H Q E h => ?len) (fun cdv A outer s H vs Q E hr h => ?read)
  case len =>
    obtain ⟨G, ds, d, _, hd, ⟨bs, rfl, _⟩, _⟩ := h
    exact da_len hd
  case read =>
    refine ⟨_, PSs.nox (pss_cons (ps_set (i := 1) sc_write_record.nd rfl (by first | exact Or.inl rfl | exact Or.inr rfl) (pe_call G_checksum (hr.mono (by decide)) (by rfl) T.g_checksum kp_checksum b_checksum .nil pass0 (pa_cons (pv 0) pa_nil)))
      (pss_cons (ps_set (i := 2) sc_write_record.nd rfl (by first | exact Or.inl rfl | exact Or.inr rfl) (pe_lst (pa_cons (pe_op op_div (pv 1) pe_int) (pa_cons (pe_op op_rem (pe_op op_div (pv 1) pe_int) pe_int) (pa_cons (pe_op op_rem (pe_op op_div (pv 1) pe_int) pe_int) (pa_cons (pe_op op_rem (pv 1) pe_int) pa_nil))))))
      (pss_one (ps_ret (pe_op op_plus (pe_op op_plus (pe_call G_write_number (hr.mono (by decide)) (by rfl) T.g_write_number kp_write_number b_write_number .nil pass0 (pa_cons (pe_callB cl_len (by rfl) T.f_len (by decide +kernel) (pa_cons (pv 0) pa_nil)) pa_nil)) (pe_callTy cl_list (by rfl) T.f_list (by decide +kernel) (pa_cons (pv 0) pa_nil))) (pv 2)))))), ?_⟩
    obtain ⟨G, ds, d, s0, hd, ⟨bs, rfl, hl, rfl⟩, ret⟩ := h
    have S : ST G H NoL [] [.dat (.list (bs.map .int)), .any, .any] [] G (L2.start n_write_record vs) H := ST.start (N := n_write_record) s0 hd
    have hnl := num_small (show bs.length ≤ 1000000 by omega)
    walk_at "st"
    refine c_callP S (by walk_at "da") ⟨bs, rfl, rfl⟩ (fun v G1 H1 S _ hv => ?_)
    cases hv
    walk_at "st"
    rename_i S
    refine c_mkL S (ds := (tail4 (ck bs)).map .int) (.cons (.int _) (.cons (.int _) (.cons (.int _) (.cons (.int _) .nil)))) (by show 4 ≤ sizeLine; decide) (fun v2 G2 H2 S _ hv2 => ?_)
    refine c_setD S hv2 (fun σ2 S => ?_)
    walk_at "st"
    rw [List.length_map]
    refine c_callLf S (by walk_at "da") ⟨bs.length, rfl, by omega, rfl⟩ (fun v3 G3 H3 S _ hv3 => ?_)
    walk_at "st"
    rename_i u hu
    refine c_listLf hu S (fun v4 G4 H4 S g4 hv4 => ?_)
    refine c_plusL (hv3.mono g4.g) hv4 S (by rw [List.length_map, List.length_map]; exact le_sz (by omega)) (fun v5 G5 H5 S _ hv5 => ?_)
    walk_at "st"
    rename_i u2 hu2
    refine c_plusLm hv5 hu2 S (by rw [List.length_append, List.length_map, List.length_map, List.length_map]; exact le_sz (by show _ + _ + 4 ≤ _; omega)) (fun q H6 S q0 _ => ?_)
    unfold recD at ret
    rw [List.map_append, List.map_append] at ret
    exact ret_L S q0 ret
theorem ok_write_record (T : Tx K mg) (c : He.SaysD fas fns K) (h_checksum : OkF P w K mg base CX0 ("checksum", none) ["data"] 1 (spP R_ck)) (h_write_number : OkF P w K mg base CX0 ("write_number", none) ["number"] 1 (spL R_wnum)) : OkF P w K mg base CX0 ("write_record", none) ["data"] 2 (spL R_rec) := by
  obtain ⟨fd, F⟩ := c.def_ 5 (d := d_write_record) rfl
  exact ⟨fd, fo_write_record T F h_checksum h_write_number, F.kp, F.bindsN fun _ _ _ _ _ _ us hl => match us, hl with | [_], _ => rfl⟩
end
section
variable {P : Program} {w : World} {K : PySem.W.Frag} {mg : Str → Option Value} {base : Heap}
theorem fo_l_number (T : Tx K mg) {fd : FuncData} (F : FunD K "_law_number" "_law_number" (defArgs s_l_number) (defBody s_l_number) (defScope s_l_number) [] [] (He.fAd K ("_law_number", none)) fd)   : FnOk P w K mg base CX0 1 (He.fAd K ("_law_number", none)) fd ["number"] (spL R_wnum) := by
  refine F.ok sc_l_number (fun vs H Q E h => ?len) (fun cdv A outer s H vs Q E hr h => ?read)
  case len =>
    obtain ⟨G, ds, d, _, hd, ⟨n, rfl, _⟩, _⟩ := h
    exact da_len hd
  case read =>
    refine ⟨_, PSs.nox (pss_cons (ps_set (i := 1) sc_l_number.nd rfl (by first | exact Or.inl rfl | exact Or.inr rfl) (pe_lst pa_nil))
      (pss_cons (ps_while PassesOwn.never (pt_cmpR op_gtI (pv 0) pe_int (nomark _))
      (pss_cons (ps_expr (pe_bm PySem.F.plainAttrs_list PySem.F.slot_list_append PySem.F.type_list_append mt_append (pv 1) (pa_cons (pe_op op_plus pe_int (pe_op op_rem (pv 0) pe_int)) pa_nil)))
      (pss_one (ps_set (i := 0) sc_l_number.nd rfl (by first | exact Or.inl rfl | exact Or.inr rfl) (pe_op op_div (pv 0) pe_int)))))
      (pss_one (ps_ret (pe_op op_plus (pv 1) (pe_lst (pa_cons (pv 0) pa_nil))))))), ?_⟩
    obtain ⟨G, ds, d, s0, hd, ⟨n, rfl, hl, rfl⟩, ret⟩ := h
    have S : ST G H NoL [] [.val (.int (n : Int)), .any] [] G (L2.start n_l_number vs) H := ST.start (N := n_l_number) s0 hd
    walk_at "st"
    refine c_newL S .nil (Nat.zero_le _) (fun p H1 S p0 _ => ?_)
    refine c_set S (fun σ1 S => ?_)
    walk_at "st"
    refine c_while (fun m G' σ' H' => ∃ pre, wNum n = pre ++ wNum m ∧ ST G H NoL [] [.val (.int (m : Int)), .val (.ref p)] [As.lst p (pre.map .int)] G' σ' H') n ⟨[], rfl, S.le (by walk_at "le")⟩ ?_
    rintro m G' σ' H' ⟨pre, hp, S⟩
    have hpl : pre.length ≤ 1000000 := by
      rw [hp, List.length_append] at hl; omega
    walk_at "st"
    refine c_ite (fun hm => ?_) (fun hm => ?_)
    · have hm : ¬ m < 128 := by omega
      refine c_turn ?_
      walk_at "st"
      refine ⟨c_tyM S, ?_⟩
      walk_at "st"
      refine c_append S (.int _) (by rw [List.length_map]; exact lt_sz hpl) (fun H2 S => ?_)
      walk_at "st"
      refine ⟨m / 128, by omega, G', pre ++ [((m % 128 + 128 : Nat) : Int)], by rw [hp, wNum_hi hm, List.append_assoc]; rfl, ?_⟩
      rw [List.map_append]
      have S := ‹ST G H NoL [] _ (As.lst p (pre.map .int ++ [.int (128 + (m : Int) % 128)]) :: []) G' _ H2›
      have e : (128 : Int) + (m : Int) % 128 = ((m % 128 + 128 : Nat) : Int) := by omega
      rw [e] at S
      exact S.le (by walk_at "le")
    · have hm : m < 128 := by omega
      rw [wNum_lo hm] at hp
      obtain ⟨G2, S, hf, _⟩ := S.freeze p0
      walk_at "st"
      refine c_mkL (by assumption) (.cons (.int (m : Int)) .nil) (by show 1 ≤ sizeLine; decide) (fun v G3 H3 S g3 hv => ?_)
      refine c_plusLm (hf.mono g3.g) hv S (by rw [List.length_map]; show pre.length + 1 ≤ _; exact lt_sz hpl) (fun q H4 S q0 _ => ?_)
      rw [hp, List.map_append] at ret
      exact ret_L S q0 ret
theorem ok_l_number (T : Tx K mg) (c : He.SaysD fas fns K)  : OkF P w K mg base CX0 ("_law_number", none) ["number"] 1 (spL R_wnum) := by
  obtain ⟨fd, F⟩ := c.def_ 14 (d := d_l_number) rfl
  exact ⟨fd, fo_l_number T F , F.kp, F.bindsN fun _ _ _ _ _ _ us hl => match us, hl with | [_], _ => rfl⟩
end
section
variable {P : Program} {w : World} {K : PySem.W.Frag} {mg : Str → Option Value} {base : Heap}
theorem fo_l_record (T : Tx K mg) {fd : FuncData} (F : FunD K "_law_record" "_law_record" (defArgs s_l_record) (defBody s_l_record) (defScope s_l_record) [] [] (He.fAd K ("_law_record", none)) fd) (h_l_checksum : OkF P w K mg base CX0 ("_law_checksum", none) ["data"] 1 (spP R_ck)) (h_l_number : OkF P w K mg base CX0 ("_law_number", none) ["number"] 1 (spL R_wnum))  : FnOk P w K mg base CX0 2 (He.fAd K ("_law_record", none)) fd ["data"] (spL R_rec) := by
  obtain ⟨fd_l_checksum, G_l_checksum, kp_l_checksum, b_l_checksum⟩ := h_l_checksum
  obtain ⟨fd_l_number, G_l_number, kp_l_number, b_l_number⟩ := h_l_number
  refine F.ok sc_l_record (fun vs H Q E h => ?len) (fun cdv A outer s H vs Q E hr h => ?read)
  case len =>
    obtain ⟨G, ds, d, _, hd, ⟨bs, rfl, _⟩, _⟩ := h
    exact da_len hd
  case read =>
    refine ⟨_, PSs.nox (pss_cons (ps_set (i := 1) sc_l_record.nd rfl (by first | exact Or.inl rfl | exact Or.inr rfl) (pe_call G_l_checksum (hr.mono (by decide)) (by rfl) T.g_l_checksum kp_l_checksum b_l_checksum .nil pass0 (pa_cons (pv 0) pa_nil)))
      (pss_one (ps_ret (pe_op op_plus (pe_op op_plus (pe_call G_l_number (hr.mono (by decide)) (by rfl) T.g_l_number kp_l_number b_l_number .nil pass0 (pa_cons (pe_callB cl_len (by rfl) T.f_len (by decide +kernel) (pa_cons (pv 0) pa_nil)) pa_nil)) (pv 0)) (pe_lst (pa_cons (pe_op op_div (pv 1) pe_int) (pa_cons (pe_op op_rem (pe_op op_div (pv 1) pe_int) pe_int) (pa_cons (pe_op op_rem (pe_op op_div (pv 1) pe_int) pe_int) (pa_cons (pe_op op_rem (pv 1) pe_int) pa_nil))))))))), ?_⟩
    obtain ⟨G, ds, d, s0, hd, ⟨bs, rfl, hl, rfl⟩, ret⟩ := h
    have S : ST G H NoL [] [.dat (.list (bs.map .int)), .any] [] G (L2.start n_l_record vs) H := ST.start (N := n_l_record) s0 hd
    have hnl := num_small (show bs.length ≤ 1000000 by omega)
    walk_at "st"
    refine c_callP S (by walk_at "da") ⟨bs, rfl, rfl⟩ (fun v G1 H1 S _ hv => ?_)
    cases hv
    walk_at "st"
    rw [List.length_map]
    refine c_callLf (by assumption) (by walk_at "da") ⟨bs.length, rfl, by omega, rfl⟩ (fun v3 G3 H3 S _ hv3 => ?_)
    walk_at "st"
    rename_i u hu
    refine c_plusL hv3 hu S (by rw [List.length_map, List.length_map]; exact le_sz (by omega)) (fun v5 G5 H5 S _ hv5 => ?_)
    walk_at "st"
    refine c_mkL S (ds := (tail4 (ck bs)).map .int) (.cons (.int _) (.cons (.int _) (.cons (.int _) (.cons (.int _) .nil)))) (by show 4 ≤ sizeLine; decide) (fun v2 G2 H2 S g2 hv2 => ?_)
    refine c_plusLm (hv5.mono g2.g) hv2 S (by rw [List.length_append, List.length_map, List.length_map, List.length_map]; exact le_sz (by show _ + _ + 4 ≤ _; omega)) (fun q H6 S q0 _ => ?_)
    unfold recD at ret
    rw [List.map_append, List.map_append] at ret
    exact ret_L S q0 ret
theorem ok_l_record (T : Tx K mg) (c : He.SaysD fas fns K) (h_l_checksum : OkF P w K mg base CX0 ("_law_checksum", none) ["data"] 1 (spP R_ck)) (h_l_number : OkF P w K mg base CX0 ("_law_number", none) ["number"] 1 (spL R_wnum)) : OkF P w K mg base CX0 ("_law_record", none) ["data"] 2 (spL R_rec) := by
  obtain ⟨fd, F⟩ := c.def_ 16 (d := d_l_record) rfl
  exact ⟨fd, fo_l_record T F h_l_checksum h_l_number, F.kp, F.bindsN fun _ _ _ _ _ _ us hl => match us, hl with | [_], _ => rfl⟩
end
/-! ### records read -/
theorem eqv_ints : ∀ as bs : List Int, PyData.eqvAll (as.map .int) (bs.map .int) = decide (as = bs)
  | [], [] => rfl
  | [], _ :: _ => rfl
  | _ :: _, [] => rfl
  | a :: as, b :: bs => by
    show ((a == b) && PyData.eqvAll (as.map .int) (bs.map .int)) = _
    rw [eqv_ints as bs]
    by_cases h : a = b
    · subst h
      by_cases h2 : as = bs
      · subst h2; simp
      · simp [h2]
    · simp [h]
theorem numR_ok : ∀ (n : Nat) (f : Bool) (r : List Int), (∀ b ∈ r, 0 ≤ b ∧ b < 256) → ∀ q, numR n f r = some q → 0 ≤ q.1 ∧ 1 ≤ q.2 ∧ q.2 ≤ r.length
  | 0, _, _, _, _, h => nomatch h
  | _ + 1, _, [], _, _, h => nomatch h
  | n + 1, f, b :: r, hb, q, h => by
    have h : (if b < 128 then (if b = 0 ∧ f = false then none else some (b, 1)) else (numR n false r).map fun q => (b % 128 + 128 * q.1, q.2 + 1)) = some q := h
    have h0 := hb b (List.mem_cons_self ..)
    split at h
    · split at h
      · cases h
      · cases h
        exact ⟨h0.1, Nat.le_refl _, by show 1 ≤ r.length + 1; omega⟩
    · obtain ⟨p, hp, rfl⟩ := Option.map_eq_some_iff.mp h
      have := numR_ok n false r (fun c hc => hb c (List.mem_cons_of_mem _ hc)) p hp
      have h2 := Int.emod_nonneg b (show (128 : Int) ≠ 0 by decide)
      refine ⟨?_, ?_, ?_⟩
      · show 0 ≤ b % 128 + 128 * p.1; omega
      · show 1 ≤ p.2 + 1; omega
      · show p.2 + 1 ≤ r.length + 1; omega
/-- the number of a record at s: where its bytes begin, how many -/
def sizeAt (bs : List Int) (s : Nat) : Option (Nat × Nat) := (numR 60 true ((bs.drop s).take 60)).map fun q => (s + q.2, q.1.toNat)
def szD (bs : List Int) (s : Nat) : PyData := match sizeAt bs s with
  | none => .none
  | some q => .tuple [.int q.1, .int q.2]
theorem BytesOk.sub {bs cs : List Int} (h : BytesOk bs) (hl : cs.length ≤ bs.length) (hm : ∀ b ∈ cs, b ∈ bs) : BytesOk cs := ⟨Nat.le_trans hl h.1, fun b hb => h.2 b (hm b hb)⟩
theorem BytesOk.part {bs : List Int} (h : BytesOk bs) (s n : Nat) : BytesOk ((bs.drop s).take n) := h.sub (by rw [List.length_take, List.length_drop]; omega) fun b hb => List.mem_of_mem_drop (List.mem_of_mem_take hb)
theorem sizeAt_ok {bs : List Int} (h : BytesOk bs) {s : Nat} {q : Nat × Nat} (e : sizeAt bs s = some q) : s < q.1 ∧ q.1 ≤ bs.length := by
  obtain ⟨p, hp, rfl⟩ := Option.map_eq_some_iff.mp e
  have := numR_ok _ _ _ (h.part s 60).2 p hp
  rw [List.length_take, List.length_drop] at this
  show s < s + p.2 ∧ s + p.2 ≤ _
  omega
def R_size (ds : List PyData) (d : PyData) : Prop := ∃ (bs : List Int) (s : Nat), ds = [.list (bs.map .int), .int s] ∧ BytesOk bs ∧ d = szD bs s
section
variable {P : Program} {w : World} {K : PySem.W.Frag} {mg : Str → Option Value} {base : Heap}
theorem fo_read_size (T : Tx K mg) {fd : FuncData} (F : FunD K "_read_size" "_read_size" (defArgs s_read_size) (defBody s_read_size) (defScope s_read_size) [] [] (He.fAd K ("_read_size", none)) fd) (h_Reader_init : OkF P w K mg base CX0 ("Reader", some "__init__") ["self", "data"] 1 (spRdInit (He.ga K "Reader"))) (h_Reader_read_number : OkF P w K mg base (L2.CX P w) ("Reader", some "read_number") ["self"] 2 (spRd (He.ga K "Reader") (He.ga K "DamagedPacket") 0 rdNumber))  : FnOk P w K mg base CX0 3 (He.fAd K ("_read_size", none)) fd ["data", "start"] (spP R_size) := by
  obtain ⟨fd_Reader_init, G_Reader_init, kp_Reader_init, b_Reader_init⟩ := h_Reader_init
  obtain ⟨fd_Reader_read_number, G_Reader_read_number, kp_Reader_read_number, b_Reader_read_number⟩ := h_Reader_read_number
  refine F.ok sc_read_size (fun vs H Q E h => ?len) (fun cdv A outer s H vs Q E hr h => ?read)
  case len =>
    obtain ⟨G, ds, d, _, hd, ⟨bs, s, rfl, _⟩, _⟩ := h
    exact da_len hd
  case read =>
    refine ⟨_, PSs.nox (pss_cons (ps_set (i := 2) sc_read_size.nd rfl (by first | exact Or.inl rfl | exact Or.inr rfl) (pe_make T.k_Reader G_Reader_init (hr.mono (by decide)) (by rfl) T.g_Reader b_Reader_init .nil pass0 (pa_cons (pe_slice sl_any (pv 0) (po_some (pv 1)) (po_some (pe_op op_plus (pv 1) pe_int))) pa_nil)))
      (pss_cons (ps_tryO rfl rfl ⟨rfl, by decide, Or.inl T.g_DamagedPacket⟩ (fun W pn xe tk po =>
      (pss_one (ps_set (i := 3) sc_read_size.nd rfl (by first | exact Or.inl rfl | exact Or.inr rfl) (pe_methE0 (pv 2) T.c_Reader T.m_Reader_read_number G_Reader_read_number (hr.mono (by decide)) b_Reader_read_number (fun σ => passAt tk σ))))) (fun _ _ _ _ _ _ _ => (pss_one (ps_ret pe_non))))
      (pss_one (ps_ret (pe_tup (pa_cons (pe_op op_plus (pv 1) (pe_fld (pv 2) rfl)) (pa_cons (pv 3) pa_nil))))))), ?_⟩
    obtain ⟨G, ds, d, s0, hd, ⟨bs, s, rfl, hb, rfl⟩, ret⟩ := h
    have S : ST G H NoL [] [.dat (.list (bs.map .int)), .val (.int s), .any, .any] [] G (L2.start n_read_size vs) H := ST.start (N := n_read_size) s0 hd
    walk_at "st"
    rename_i u hu
    have e60 : (s : Int) + 60 = ((s + 60 : Nat) : Int) := by omega
    rw [e60]
    refine c_slL (lo := some ((s : Nat) : Int)) (hi := some ((s + 60 : Nat) : Int)) hu S (fun v G1 H1 S _ hv => ?_)
    rw [cutD_mid, List.drop_take, show s + 60 - s = 60 by omega, ← List.map_drop, ← List.map_take] at hv
    walk_at "st"
    refine c_newRd S hv (hb.part s 60) (fun p G2 H2 S _ => ?_)
    refine c_set S (fun σ2 S => ?_)
    walk_at "st"
    refine c_rdMeth (by assumption) (by decide) (by decide) ?_
    walk_at "st"
    refine c_callR (by assumption) .nil rfl (fun d at' x G3 H3 e S _ hx => ?_) (fun at' G3 H3 e S _ => ?_)
    · obtain ⟨q, hq, e⟩ := Option.map_eq_some_iff.mp e
      cases e
      cases hx
      have hq : numR 60 true ((bs.drop s).take 60) = some q := hq
      have hok := numR_ok _ _ _ (hb.part s 60).2 q hq
      have hz : szD bs s = .tuple [.int (s + q.2 : Nat), .int q.1] := by
        unfold szD sizeAt
        rw [hq]
        show PyData.tuple [.int (s + q.2 : Nat), .int (q.1.toNat : Nat)] = _
        rw [Int.toNat_of_nonneg hok.1]
      rw [hz] at ret
      walk_at "st"
      refine c_rdAt T.c_Reader T.na_Reader_at (by assumption) ?_
      walk_at "st"
      refine c_mkT (by assumption) (.cons (.int _) (.cons (.int _) .nil)) (by show 2 ≤ sizeLine; decide) (fun v2 G4 H4 S _ hv2 => ?_)
      have e2 : (s : Int) + ((0 + q.2 : Nat) : Int) = ((s + q.2 : Nat) : Int) := by omega
      rw [e2] at hv2
      exact ret_P S hv2 ret
    · have hq : numR 60 true ((bs.drop s).take 60) = none := Option.map_eq_none_iff.mp e
      have hz : szD bs s = .none := by
        unfold szD sizeAt
        rw [hq]
        rfl
      rw [hz] at ret
      refine c_caught T.e_DamagedPacket ?_
      walk_at "st"
      exact ret_P S .non ret
theorem ok_read_size (T : Tx K mg) (c : He.SaysD fas fns K) (h_Reader_init : OkF P w K mg base CX0 ("Reader", some "__init__") ["self", "data"] 1 (spRdInit (He.ga K "Reader"))) (h_Reader_read_number : OkF P w K mg base (L2.CX P w) ("Reader", some "read_number") ["self"] 2 (spRd (He.ga K "Reader") (He.ga K "DamagedPacket") 0 rdNumber)) : OkF P w K mg base CX0 ("_read_size", none) ["data", "start"] 3 (spP R_size) := by
  obtain ⟨fd, F⟩ := c.def_ 6 (d := d_read_size) rfl
  exact ⟨fd, fo_read_size T F h_Reader_init h_Reader_read_number, F.kp, F.bindsN fun _ _ _ _ _ _ us hl => match us, hl with | [_, _], _ => rfl⟩
end
def readAll : Nat → List Int → Nat → List (List Int) → List (List Int) × Nat
  | 0, _, s, acc => (acc, s)
  | n + 1, bs, s, acc => match sizeAt bs s with
    | none => (acc, s)
    | some q =>
      if q.1 + q.2 + 4 ≤ bs.length ∧ tail4 (ck ((bs.take (q.1 + q.2)).drop q.1)) = (bs.take (q.1 + q.2 + 4)).drop (q.1 + q.2) then readAll n bs (q.1 + q.2 + 4) (acc ++ [(bs.take (q.1 + q.2)).drop q.1]) else (acc, s)
def rlD (r : List Int) : PyData := .list (r.map .int)
def rrD (q : List (List Int) × Nat) : PyData := .tuple [.list (q.1.map rlD), .int q.2]
def reads (bs : List Int) : List (List Int) × Nat := readAll (bs.length + 1) bs 0 []
def R_read (ds : List PyData) (d : PyData) : Prop := ∃ bs : List Int, ds = [.list (bs.map .int)] ∧ BytesOk bs ∧ bs.length ≤ 900000 ∧ d = rrD (reads bs)
theorem cutD_last {xs t : List PyData} (h : t.length = 4) : cutD (xs ++ t) (some (-4)) none = t := by
  unfold cutD
  have e : HT.sIx (xs ++ t).length 0 (some (-4)) = xs.length := by
    show (if (-4 : Int) < 0 then ((-4 : Int) + ((xs ++ t).length : Int)).toNat else min (-4 : Int).toNat (xs ++ t).length) = _
    rw [if_pos (by decide), List.length_append]
    omega
  rw [e, HT.sIx_none, List.drop_left, List.length_append, Nat.add_sub_cancel_left, List.take_length]
theorem c_rU {f : Int → V} {i : Int} {Q : VK} {H : Hp} (h : Q (f i) H) : rU f (.int i) H Q := ⟨i, rfl, h⟩
section
variable {P : Program} {w : World} {K : PySem.W.Frag} {mg : Str → Option Value} {base : Heap}
theorem fo_read_records (T : Tx K mg) {fd : FuncData} (F : FunD K "read_records" "read_records" (defArgs s_read_records) (defBody s_read_records) (defScope s_read_records) [] [] (He.fAd K ("read_records", none)) fd) (h_read_size : OkF P w K mg base CX0 ("_read_size", none) ["data", "start"] 3 (spP R_size)) (h_write_record : OkF P w K mg base CX0 ("write_record", none) ["data"] 2 (spL R_rec))  : FnOk P w K mg base CX0 4 (He.fAd K ("read_records", none)) fd ["data"] (spP R_read) := by
  obtain ⟨fd_read_size, G_read_size, kp_read_size, b_read_size⟩ := h_read_size
  obtain ⟨fd_write_record, G_write_record, kp_write_record, b_write_record⟩ := h_write_record
  refine F.ok sc_read_records (fun vs H Q E h => ?len) (fun cdv A outer s H vs Q E hr h => ?read)
  case len =>
    obtain ⟨G, ds, d, _, hd, ⟨bs, rfl, _⟩, _⟩ := h
    exact da_len hd
  case read =>
    refine ⟨_, PSs.nox (pss_cons (ps_set (i := 1) sc_read_records.nd rfl (by first | exact Or.inl rfl | exact Or.inr rfl) (pe_lst pa_nil))
      (pss_cons (ps_set (i := 2) sc_read_records.nd rfl (by first | exact Or.inl rfl | exact Or.inr rfl) pe_int)
      (pss_cons (ps_set (i := 3) sc_read_records.nd rfl (by first | exact Or.inl rfl | exact Or.inr rfl) (pe_call G_read_size (hr.mono (by decide)) (by rfl) T.g_read_size kp_read_size b_read_size .nil pass0 (pa_cons (pv 0) (pa_cons (pv 2) pa_nil))))
      (pss_cons (ps_while PassesOwn.never (pt_cmpR op_notNone (pv 3) pe_non (nomark _))
      (pss_cons (ps_asg (pv 3) (pg_tup rfl (pgs_cons (pg_name (i := 4) sc_read_records.nd rfl (by first | exact Or.inl rfl | exact Or.inr rfl)) (pgs_cons (pg_name (i := 5) sc_read_records.nd rfl (by first | exact Or.inl rfl | exact Or.inr rfl)) pgs_nil))))
      (pss_cons (ps_set (i := 6) sc_read_records.nd rfl (by first | exact Or.inl rfl | exact Or.inr rfl) (pe_slice sl_any (pv 0) (po_some (pv 4)) (po_some (pe_op op_plus (pv 4) (pv 5)))))
      (pss_cons (ps_set (i := 7) sc_read_records.nd rfl (by first | exact Or.inl rfl | exact Or.inr rfl) (pe_op op_plus (pe_op op_plus (pv 4) (pv 5)) pe_int))
      (pss_cons (ps_if (PW.pt (pw_or (pt_cmpR op_gtI (pv 7) (pe_callB cl_len (by rfl) T.f_len (by decide +kernel) (pa_cons (pv 0) pa_nil)) (nomark _)) (pw_or1 (pt_cmpR (op_diff hr.units) (pe_slice sl_any (pe_call G_write_record (hr.mono (by decide)) (by rfl) T.g_write_record kp_write_record b_write_record .nil pass0 (pa_cons (pv 6) pa_nil)) (po_some (pe_un un_neg pe_int)) po_none) (pe_slice sl_any (pv 0) (po_some (pe_op op_minus (pv 7) pe_int)) (po_some (pv 7))) (nomark _))))) (pss_one ps_break) pss_nil)
      (pss_cons (ps_expr (pe_bm PySem.F.plainAttrs_list PySem.F.slot_list_append PySem.F.type_list_append mt_append (pv 1) (pa_cons (pv 6) pa_nil)))
      (pss_cons (ps_set (i := 2) sc_read_records.nd rfl (by first | exact Or.inl rfl | exact Or.inr rfl) (pv 7))
      (pss_one (ps_set (i := 3) sc_read_records.nd rfl (by first | exact Or.inl rfl | exact Or.inr rfl) (pe_call G_read_size (hr.mono (by decide)) (by rfl) T.g_read_size kp_read_size b_read_size .nil pass0 (pa_cons (pv 0) (pa_cons (pv 2) pa_nil))))))))))))
      (pss_one (ps_ret (pe_tup (pa_cons (pv 1) (pa_cons (pv 2) pa_nil))))))))), ?_⟩
    obtain ⟨G, ds, d, s0, hd, ⟨bs, rfl, hb, hbl, rfl⟩, ret⟩ := h
    have S : ST G H NoL [] [.dat (.list (bs.map .int)), .any, .any, .any, .any, .any, .any, .any] [] G (L2.start n_read_records vs) H := ST.start (N := n_read_records) s0 hd
    walk_at "st"
    refine c_newL S .nil (Nat.zero_le _) (fun p H1 S p0 _ => ?_)
    refine c_set S (fun σ1 S => ?_)
    walk_at "st"
    refine c_callP (by assumption) (.cons (by assumption) (.cons (.int 0) .nil)) ⟨bs, 0, rfl, hb, rfl⟩ (fun v G2 H2 S _ hv => ?_)
    refine c_setD S hv (fun σ2 S => ?_)
    show tSeq (tWhile _ _) _ _ _ _
    refine c_seqJ (fun σ' H' => ∃ G' acc s, (acc, s) = reads bs ∧ acc.length ≤ s ∧ s ≤ bs.length ∧ ST G H NoL [] [.any, .val (.ref p), .val (.int (s : Nat)), .any, .any, .any, .any, .any] [As.lst p (acc.map rlD)] G' σ' H') ?rest ?first
    case rest =>
      rintro σ3 H3 ⟨G3, acc, s, hr, _, _, S⟩
      obtain ⟨G4, S, hf, _⟩ := S.freeze p0
      walk_at "st"
      refine c_mkT S (.cons hf (.cons (.int _) .nil)) (by show 2 ≤ sizeLine; decide) (fun v2 G4 H4 S _ hv2 => ?_)
      rw [← hr] at ret
      exact ret_P S hv2 ret
    case first =>
      intro J hJ
      refine c_while (fun m G' σ' H' => ∃ acc s, ST G H NoL [] [.dat (.list (bs.map .int)), .val (.ref p), .val (.int (s : Nat)), .dat (szD bs s), .any, .any, .any, .any] [As.lst p (acc.map rlD)] G' σ' H' ∧
          reads bs = readAll m bs s acc ∧ bs.length + 1 ≤ m + s ∧ s ≤ bs.length ∧ acc.length ≤ s) (bs.length + 1)
        ⟨[], 0, S.le (by walk_at "le"), rfl, Nat.le_refl _, Nat.zero_le _, Nat.le_refl _⟩ ?_
      rintro m G' σ' H' ⟨acc, s, S, hr, hm, hs, ha⟩
      obtain ⟨m, rfl⟩ : ∃ k, m = k + 1 := ⟨m - 1, by omega⟩
      have hstep : reads bs = match sizeAt bs s with
        | none => (acc, s)
        | some q => if q.1 + q.2 + 4 ≤ bs.length ∧ tail4 (ck ((bs.take (q.1 + q.2)).drop q.1)) = (bs.take (q.1 + q.2 + 4)).drop (q.1 + q.2) then readAll m bs (q.1 + q.2 + 4) (acc ++ [(bs.take (q.1 + q.2)).drop q.1]) else (acc, s) := hr
      cases e : sizeAt bs s with
      | none =>
        have hD : szD bs s = .none := by unfold szD; rw [e]
        rw [e] at hstep
        rw [hD] at S
        walk_at "st"
        rename_i u hu
        cases hu
        walk_at "st"
        refine c_iteN (fun h => absurd rfl h) (fun _ => ?_)
        exact hJ _ _ ⟨G', acc, s, hstep.symm, ha, hs, S.le (by walk_at "le")⟩
      | some q =>
        obtain ⟨b, z⟩ := q
        have hD : szD bs s = .tuple [.int b, .int z] := by unfold szD; rw [e]
        have hok := sizeAt_ok hb e
        have hok1 : s < b := hok.1
        have hok2 : b ≤ bs.length := hok.2
        rw [e] at hstep
        have hstep : reads bs = if b + z + 4 ≤ bs.length ∧ tail4 (ck ((bs.take (b + z)).drop b)) = (bs.take (b + z + 4)).drop (b + z) then readAll m bs (b + z + 4) (acc ++ [(bs.take (b + z)).drop b]) else (acc, s) := hstep
        rw [hD] at S
        walk_at "st"
        rename_i u hu
        obtain ⟨a, xs, ea, _⟩ := da_tup hu
        refine c_iteN (fun _ => ?_) (fun h => by rw [ea] at h; cases h)
        refine c_turn ?_
        walk_at "st"
        rename_i u2 hu2
        refine c_gtup2 hu2 S.same (fun v1 v2 h1 h2 => ?_)
        cases h1
        cases h2
        walk_at "st"
        rename_i S u3 hu3
        have e1 : (b : Int) + z = ((b + z : Nat) : Int) := by omega
        rw [e1]
        refine c_slL (lo := some ((b : Nat) : Int)) (hi := some ((b + z : Nat) : Int)) hu3 S (fun v3 G3 H3 S _ hv3 => ?_)
        rw [cutD_mid, ← List.map_take, ← List.map_drop] at hv3
        refine c_setD S hv3 (fun σ3 S => ?_)
        walk_at "st"
        have e4 : (b : Int) + z + 4 = ((b + z + 4 : Nat) : Int) := by omega
        rw [List.length_map]
        refine c_ite (fun hend => ?_) (fun hend => ?_)
        · refine iteT ?_
          walk_at "st"
          have hn : ¬ (b + z + 4 ≤ bs.length ∧ tail4 (ck ((bs.take (b + z)).drop b)) = (bs.take (b + z + 4)).drop (b + z)) := fun h => by
            have := h.1
            omega
          rw [if_neg hn] at hstep
          exact hJ _ _ ⟨_, acc, s, hstep.symm, ha, hs, ST.le (by assumption) (by walk_at "le")⟩
        · have hend : b + z + 4 ≤ bs.length := by omega
          have hrl : ((bs.take (b + z)).drop b).length = z := by rw [List.length_drop, List.length_take]; omega
          walk_at "st"
          refine c_callLf (by assumption) (.cons (by assumption) .nil) ⟨_, rfl, by rw [hrl]; omega, rfl⟩ (fun v4 G4 H4 S _ hv4 => ?_)
          walk_at "st"
          refine c_rU ?_
          walk_at "st"
          refine c_slL (lo := some (-4)) (hi := none) hv4 S (fun v5 G5 H5 S _ hv5 => ?_)
          unfold recD at hv5
          rw [List.map_append, cutD_last rfl] at hv5
          walk_at "st"
          rename_i u4 hu4
          have e5 : (b : Int) + z + 4 - 4 = ((b + z : Nat) : Int) := by omega
          rw [e5, e4]
          refine c_slL (lo := some ((b + z : Nat) : Int)) (hi := some ((b + z + 4 : Nat) : Int)) hu4 S (fun v6 G6 H6 S g6 hv6 => ?_)
          rw [cutD_mid, ← List.map_take, ← List.map_drop] at hv6
          refine c_diffD (hv5.mono g6.g) hv6 S.same (shaped_ints _) (shaped_ints _) ?_
          show isB _ (.bl (!PyData.eqvAll _ _)) _
          rw [eqv_ints]
          walk_at "st"
          refine c_iteN (fun hne => ?_) (fun heq => ?_)
          · walk_at "st"
            rw [if_neg (fun h => hne h.2)] at hstep
            exact hJ _ _ ⟨_, acc, s, hstep.symm, ha, hs, ST.le (by assumption) (by walk_at "le")⟩
          · rw [if_pos ⟨hend, heq⟩] at hstep
            walk_at "st"
            refine ⟨c_tyM (by assumption), ?_⟩
            walk_at "st"
            rename_i u5 hu5
            refine c_append S hu5 (by rw [List.length_map]; exact lt_sz (by omega)) (fun H7 S => ?_)
            walk_at "st"
            refine c_callP (by assumption) (.cons (by assumption) (.cons (.int _) .nil)) ⟨bs, b + z + 4, by rw [e4], hb, rfl⟩ (fun v7 G8 H8 S _ hv7 => ?_)
            refine c_setD S hv7 (fun σ8 S => ?_)
            refine ⟨m, by omega, G8, acc ++ [(bs.take (b + z)).drop b], b + z + 4, ?_, hstep, by omega, hend, by rw [List.length_append]; show _ + 1 ≤ _; omega⟩
            rw [List.map_append]
            rw [e4] at S
            exact S.le (by walk_at "le")
theorem ok_read_records (T : Tx K mg) (c : He.SaysD fas fns K) (h_read_size : OkF P w K mg base CX0 ("_read_size", none) ["data", "start"] 3 (spP R_size)) (h_write_record : OkF P w K mg base CX0 ("write_record", none) ["data"] 2 (spL R_rec)) : OkF P w K mg base CX0 ("read_records", none) ["data"] 4 (spP R_read) := by
  obtain ⟨fd, F⟩ := c.def_ 7 (d := d_read_records) rfl
  exact ⟨fd, fo_read_records T F h_read_size h_write_record, F.kp, F.bindsN fun _ _ _ _ _ _ us hl => match us, hl with | [_], _ => rfl⟩
end
/-! ### what reading finds -/
theorem numR_wNum : ∀ (v k : Nat) (f : Bool) (rest : List Int), (wNum v).length ≤ k → (f = true ∨ 0 < v) → numR k f (wNum v ++ rest) = some ((v : Int), (wNum v).length)
  | v, k, f, rest, hk, hf => by
    by_cases hv : v < 128
    · rw [wNum_lo hv] at hk ⊢
      cases k with
      | zero => exact absurd hk (by simp)
      | succ k =>
        show (if (v : Int) < 128 then (if (v : Int) = 0 ∧ f = false then none else some ((v : Int), 1)) else _) = _
        rw [if_pos (by omega), if_neg]
        · rfl
        · rintro ⟨h0, h1⟩
          rcases hf with h | h
          · rw [h] at h1; cases h1
          · omega
    · rw [wNum_hi hv] at hk ⊢
      cases k with
      | zero => exact absurd hk (by simp)
      | succ k =>
        have ih := numR_wNum (v / 128) k false rest (by simpa using hk) (.inr (by omega))
        show (if ((v % 128 + 128 : Nat) : Int) < 128 then _ else (numR k false (wNum (v / 128) ++ rest)).map fun q => (((v % 128 + 128 : Nat) : Int) % 128 + 128 * q.1, q.2 + 1)) = _
        rw [if_neg (by omega), ih]
        show some _ = some _
        congr 1
        refine Prod.ext ?_ rfl
        show ((v % 128 + 128 : Nat) : Int) % 128 + 128 * ((v / 128 : Nat) : Int) = (v : Int)
        omega
termination_by v => v
decreasing_by omega
theorem numR_cut : ∀ (v k : Nat) (f : Bool) (j : Nat), j < (wNum v).length → numR k f ((wNum v).take j) = none
  | v, 0, f, j, _ => rfl
  | v, k + 1, f, 0, _ => by rw [List.take_zero]; rfl
  | v, k + 1, f, j + 1, hj => by
    by_cases hv : v < 128
    · rw [wNum_lo hv] at hj; exact absurd hj (by simp)
    · rw [wNum_hi hv] at hj ⊢
      have ih := numR_cut (v / 128) k false j (by simpa using hj)
      show (if ((v % 128 + 128 : Nat) : Int) < 128 then _ else (numR k false ((wNum (v / 128)).take j)).map _) = _
      rw [if_neg (by omega), ih]
      rfl
theorem numR_zero : ∀ (l r : List Int) (n : Nat) (f : Bool), (∀ b ∈ l, 128 ≤ b) → (l ≠ [] ∨ f = false) → numR n f (l ++ 0 :: r) = none
  | _, _, 0, _, _, _ => rfl
  | [], r, n + 1, f, _, h => by
    have hf : f = false := h.elim (fun z => absurd rfl z) id
    show (if (0 : Int) < 128 then (if (0 : Int) = 0 ∧ f = false then none else some (0, 1)) else _) = _
    rw [if_pos (by decide), if_pos ⟨rfl, hf⟩]
  | b :: l, r, n + 1, f, hl, _ => by
    have ih := numR_zero l r n false (fun c hc => hl c (List.mem_cons_of_mem _ hc)) (.inr rfl)
    have hb := hl b (List.mem_cons_self ..)
    show (if b < 128 then _ else (numR n false (l ++ 0 :: r)).map _) = _
    rw [if_neg (by omega), ih]
    rfl
theorem drop_pre (pre l : List Int) : (pre ++ l).drop pre.length = l := List.drop_left
theorem sizeAt_num {pre rest : List Int} {v : Nat} (h : v ≤ 1000000) : sizeAt (pre ++ (wNum v ++ rest)) pre.length = some (pre.length + (wNum v).length, v) := by
  unfold sizeAt
  have h1 := num_small h
  rw [drop_pre, List.take_append, List.take_of_length_le (show (wNum v).length ≤ 60 by omega), numR_wNum v 60 true _ (by omega) (.inl rfl)]
  rfl
/-- nothing more is read from here on -/
def Stop (rest : List Int) : Prop := ∀ (pre : List Int) (m : Nat) (acc : List (List Int)), readAll m (pre ++ rest) pre.length acc = (acc, pre.length)
theorem stop_none {rest : List Int} (h : numR 60 true (rest.take 60) = none) : Stop rest := fun pre m acc => by
  cases m with
  | zero => rfl
  | succ m =>
    have e : sizeAt (pre ++ rest) pre.length = none := by
      unfold sizeAt
      rw [drop_pre, h]
      rfl
    unfold readAll
    rw [e]
theorem mid_of (pre n r t : List Int) : ((pre ++ (n ++ (r ++ t))).take (pre.length + n.length + r.length)).drop (pre.length + n.length) = r := by
  rw [← List.append_assoc, ← List.length_append, ← List.append_assoc, ← List.length_append, List.take_left, List.drop_left]
theorem end_of (pre n r t u : List Int) (h : t.length = 4) : ((pre ++ (n ++ (r ++ (t ++ u)))).take (pre.length + n.length + r.length + 4)).drop (pre.length + n.length + r.length) = t := by
  rw [← h, ← List.append_assoc, ← List.length_append, ← List.append_assoc, ← List.length_append, ← List.append_assoc, ← List.length_append, List.take_left, List.drop_left]
/-- one step of reading behind pre: n the number, r the bytes -/
theorem read1 {pre r t u : List Int} {m : Nat} {acc : List (List Int)} (hr : r.length ≤ 900000) (ht : t.length = 4) :
    readAll (m + 1) (pre ++ (wNum r.length ++ (r ++ (t ++ u)))) pre.length acc =
      if tail4 (ck r) = t then readAll m (pre ++ (wNum r.length ++ (r ++ (t ++ u)))) (pre.length + (wNum r.length).length + r.length + 4) (acc ++ [r]) else (acc, pre.length) := by
  have e : sizeAt (pre ++ (wNum r.length ++ (r ++ (t ++ u)))) pre.length = some (pre.length + (wNum r.length).length, r.length) := sizeAt_num (by omega)
  conv => lhs; unfold readAll
  rw [e]
  show (if pre.length + (wNum r.length).length + r.length + 4 ≤ _ ∧ tail4 (ck (((pre ++ (wNum r.length ++ (r ++ (t ++ u)))).take (pre.length + (wNum r.length).length + r.length)).drop (pre.length + (wNum r.length).length))) =
    ((pre ++ (wNum r.length ++ (r ++ (t ++ u)))).take (pre.length + (wNum r.length).length + r.length + 4)).drop (pre.length + (wNum r.length).length + r.length) then _ else _) = _
  rw [mid_of, end_of _ _ _ _ _ ht]
  have hl : pre.length + (wNum r.length).length + r.length + 4 ≤ (pre ++ (wNum r.length ++ (r ++ (t ++ u)))).length := by
    simp only [List.length_append, ht]; omega
  by_cases h : tail4 (ck r) = t
  · rw [if_pos ⟨hl, h⟩, if_pos h]
  · rw [if_neg (fun z => h z.2), if_neg h]
theorem stop_tail {r t u : List Int} (hr : r.length ≤ 900000) (ht : t.length = 4) (h : ¬ tail4 (ck r) = t) : Stop (wNum r.length ++ (r ++ (t ++ u))) := fun pre m acc => by
  cases m with
  | zero => rfl
  | succ m => rw [read1 hr ht, if_neg h]
theorem recD_eq (r u : List Int) : recD r ++ u = wNum r.length ++ (r ++ (tail4 (ck r) ++ u)) := by
  unfold recD
  rw [List.append_assoc, List.append_assoc]
theorem stop_cut {r : List Int} (hr : r.length ≤ 900000) {k : Nat} (hk : k < (recD r).length) : Stop ((recD r).take k) := by
  have hn := num_small (show r.length ≤ 1000000 by omega)
  by_cases h : k < (wNum r.length).length
  · have e : (recD r).take k = (wNum r.length).take k := by
      unfold recD
      rw [List.append_assoc, List.take_append_of_le_length (by omega)]
    rw [e]
    refine stop_none ?_
    rw [List.take_of_length_le (by rw [List.length_take]; omega)]
    exact numR_cut _ _ _ _ h
  · intro pre m acc
    cases m with
    | zero => rfl
    | succ m =>
      have e : (recD r).take k = wNum r.length ++ (r ++ tail4 (ck r)).take (k - (wNum r.length).length) := by
        unfold recD
        rw [List.append_assoc, List.take_append, List.take_of_length_le (by omega)]
      have e2 : sizeAt (pre ++ (recD r).take k) pre.length = some (pre.length + (wNum r.length).length, r.length) := by
        rw [e]; exact sizeAt_num (by omega)
      unfold readAll
      rw [e2]
      show (if pre.length + (wNum r.length).length + r.length + 4 ≤ _ ∧ _ then _ else _) = _
      rw [if_neg]
      rintro ⟨z, _⟩
      rw [List.length_append, List.length_take] at z
      unfold recD at hk z
      rw [List.length_append, List.length_append] at hk z
      have h4 : (tail4 (ck r)).length = 4 := rfl
      omega
def flat (rs : List (List Int)) : List Int := (rs.map recD).flatten
theorem flat_cons (r : List Int) (rs : List (List Int)) : flat (r :: rs) = recD r ++ flat rs := rfl
theorem flat_snoc (rs : List (List Int)) (r : List Int) : flat (rs ++ [r]) = flat rs ++ recD r := by
  unfold flat
  rw [List.map_append, List.flatten_append]
  simp
theorem recD_length (r : List Int) : (recD r).length = (wNum r.length).length + r.length + 4 := by
  unfold recD
  rw [List.length_append, List.length_append]
  rfl
theorem flat_len : ∀ rs : List (List Int), rs.length ≤ (flat rs).length
  | [] => Nat.le_refl _
  | r :: rs => by
    have := flat_len rs
    rw [flat_cons, List.length_append, recD_length]
    show rs.length + 1 ≤ _
    omega
theorem read_flat : ∀ (rs : List (List Int)) (pre rest : List Int) (m : Nat) (acc : List (List Int)), (∀ r ∈ rs, r.length ≤ 900000) → Stop rest → rs.length ≤ m → readAll m (pre ++ (flat rs ++ rest)) pre.length acc = (acc ++ rs, pre.length + (flat rs).length)
  | [], pre, rest, m, acc, _, h, _ => by
    show readAll m (pre ++ rest) pre.length acc = _
    rw [h, List.append_nil]
    rfl
  | r :: rs, pre, rest, m, acc, hr, h, hm => by
    cases m with
    | zero => exact absurd hm (by simp)
    | succ m =>
      have h1 := hr r (List.mem_cons_self ..)
      have e : pre ++ (flat (r :: rs) ++ rest) = pre ++ (wNum r.length ++ (r ++ (tail4 (ck r) ++ (flat rs ++ rest)))) := by
        rw [flat_cons, List.append_assoc, recD_eq]
      have e2 : pre ++ (wNum r.length ++ (r ++ (tail4 (ck r) ++ (flat rs ++ rest)))) = (pre ++ recD r) ++ (flat rs ++ rest) := by
        rw [List.append_assoc, recD_eq]
      have e3 : pre.length + (wNum r.length).length + r.length + 4 = (pre ++ recD r).length := by
        rw [List.length_append, recD_length]; omega
      rw [e, read1 h1 rfl, if_pos rfl, e2, e3, read_flat rs (pre ++ recD r) rest m (acc ++ [r]) (fun x hx => hr x (List.mem_cons_of_mem _ hx)) h (by simpa using hm)]
      rw [flat_cons, List.append_assoc, List.length_append, List.length_append]
      show (acc ++ ([r] ++ rs), _) = _
      rw [Nat.add_assoc]
      rfl
theorem reads_flat {rs : List (List Int)} {rest : List Int} (hr : ∀ r ∈ rs, r.length ≤ 900000) (h : Stop rest) : reads (flat rs ++ rest) = (rs, (flat rs).length) := by
  have := read_flat rs [] rest ((flat rs ++ rest).length + 1) [] hr h (by
    have := flat_len rs
    rw [List.length_append]
    omega)
  rw [List.nil_append] at this
  unfold reads
  rw [show ([] : List Int).length = 0 from rfl, Nat.zero_add] at this
  exact this
theorem stop_nil : Stop [] := stop_none rfl
/-! ### where a cut lies -/
def szs : Nat → List (List Int) → List Nat
  | n, [] => [n]
  | n, r :: rs => n :: szs (n + (recD r).length) rs
theorem szs_ge : ∀ (rs : List (List Int)) (n : Nat), ∀ x ∈ szs n rs, n ≤ x
  | [], n, x, h => by rw [List.mem_singleton.mp h]; exact Nat.le_refl _
  | r :: rs, n, x, h => by
    rcases List.mem_cons.mp h with h | h
    · omega
    · have := szs_ge rs _ x h; omega
theorem szs_snoc : ∀ (rs : List (List Int)) (n : Nat) (r : List Int), szs n (rs ++ [r]) = szs n rs ++ [n + (flat rs).length + (recD r).length]
  | [], n, r => rfl
  | a :: rs, n, r => by
    show n :: szs (n + (recD a).length) (rs ++ [r]) = n :: (szs (n + (recD a).length) rs ++ [_])
    rw [szs_snoc rs, flat_cons, List.length_append]
    congr 3
    omega
theorem szs_len : ∀ (rs : List (List Int)) (n : Nat), (szs n rs).length = rs.length + 1
  | [], _ => rfl
  | _ :: rs, n => congrArg Nat.succ (szs_len rs _)
theorem cut_ok : ∀ (rs : List (List Int)) (n e : Nat), (∀ r ∈ rs, r.length ≤ 900000) → n ≤ e → e ≤ n + (flat rs).length →
    ∃ c part, ((szs n rs).filter fun x => decide (x ≤ e)).length = c + 1 ∧ c ≤ rs.length ∧ (szs n rs)[c]? = some (n + (flat (rs.take c)).length) ∧ (flat rs).take (e - n) = flat (rs.take c) ++ part ∧ Stop part
  | [], n, e, _, h1, h2 => ⟨0, [], by
      show ([n].filter _).length = _
      rw [List.filter_cons_of_pos (by simpa using h1)]; rfl, Nat.le_refl _, by show some n = some (n + 0); rfl, by show ([] : List Int).take _ = [] ++ []; rw [List.take_nil]; rfl, stop_nil⟩
  | r :: rs, n, e, hr, h1, h2 => by
    have hrl := hr r (List.mem_cons_self ..)
    have ef : ((szs n (r :: rs)).filter fun x => decide (x ≤ e)) = n :: ((szs (n + (recD r).length) rs).filter fun x => decide (x ≤ e)) := by
      show ((n :: szs (n + (recD r).length) rs).filter _) = _
      rw [List.filter_cons_of_pos (by simpa using h1)]
    rw [ef]
    by_cases h : e < n + (recD r).length
    · refine ⟨0, (recD r).take (e - n), ?_, Nat.zero_le _, by show some n = some (n + 0); rfl, ?_, stop_cut hrl (by omega)⟩
      · rw [List.filter_eq_nil_iff.mpr]
        · rfl
        · intro x hx
          have := szs_ge rs _ x hx
          simp; omega
      · rw [flat_cons, List.take_append_of_le_length (by omega)]
        rfl
    · obtain ⟨c, part, a1, a2, a3, a4, a5⟩ := cut_ok rs (n + (recD r).length) e (fun x hx => hr x (List.mem_cons_of_mem _ hx)) (by omega) (by rw [flat_cons, List.length_append] at h2; omega)
      refine ⟨c + 1, part, by show _ + 1 = _; rw [a1], by show c + 1 ≤ rs.length + 1; omega, ?_, ?_, a5⟩
      · show (szs (n + (recD r).length) rs)[c]? = _
        rw [a3]
        show some _ = some (n + (flat (r :: rs.take c)).length)
        rw [flat_cons, List.length_append, Nat.add_assoc]
      · show (flat (r :: rs)).take _ = flat (r :: rs.take c) ++ part
        rw [flat_cons, flat_cons, List.take_append, List.take_of_length_le (by omega), List.append_assoc, ← a4]
        congr 2
        omega
/-! ### bytes that are spoilt -/
theorem ck1_inj {t t' b : Int} (h : 0 ≤ t ∧ t < 4294967296) (h' : 0 ≤ t' ∧ t' < 4294967296) (e : ck1 t b = ck1 t' b) : t = t' := by
  unfold ck1 at e
  omega
theorem ck_inj : ∀ (l : List Int) (t t' : Int), 0 ≤ t ∧ t < 4294967296 → 0 ≤ t' ∧ t' < 4294967296 → l.foldl ck1 t = l.foldl ck1 t' → t = t'
  | [], _, _, _, _, e => e
  | b :: l, t, t', h, h', e => ck1_inj h h' (ck_inj l (ck1 t b) (ck1 t' b) ⟨Int.emod_nonneg _ (by decide), Int.emod_lt_of_pos _ (by decide)⟩ ⟨Int.emod_nonneg _ (by decide), Int.emod_lt_of_pos _ (by decide)⟩ e)
theorem ck_range (l : List Int) : 0 ≤ ck l ∧ ck l < 4294967296 := ck_ok l 7 (by decide)
theorem ck_changed {a c : List Int} {x y : Int} (hx : 0 ≤ x ∧ x < 256) (hy : 0 ≤ y ∧ y < 256) (h : x ≠ y) : ck (a ++ x :: c) ≠ ck (a ++ y :: c) := by
  intro e
  unfold ck at e
  rw [List.foldl_append, List.foldl_append] at e
  have e2 : ck1 (ck a) x = ck1 (ck a) y := ck_inj c _ _ ⟨Int.emod_nonneg _ (by decide), Int.emod_lt_of_pos _ (by decide)⟩ ⟨Int.emod_nonneg _ (by decide), Int.emod_lt_of_pos _ (by decide)⟩ e
  unfold ck1 at e2
  omega
theorem tail4_inj {t t' : Int} (h : 0 ≤ t ∧ t < 4294967296) (h' : 0 ≤ t' ∧ t' < 4294967296) (e : tail4 t = tail4 t') : t = t' := by
  unfold tail4 at e
  injection e with e1 e
  injection e with e2 e
  injection e with e3 e
  injection e with e4 e
  omega
theorem tail4_bytes (t : Int) (h : 0 ≤ t ∧ t < 4294967296) : ∀ b ∈ tail4 t, 0 ≤ b ∧ b < 256 := fun b hb => by
  unfold tail4 at hb
  simp only [List.mem_cons, List.not_mem_nil, or_false] at hb
  rcases hb with e | e | e | e <;> rw [e] <;> omega
theorem set_split {l : List Int} {i : Nat} {x : Int} (h : i < l.length) : l.take i ++ [x] ++ l.drop (i + 1) = l.set i x := by
  rw [List.set_eq_take_append_cons_drop, if_pos h, List.append_assoc]
  rfl
theorem get_split {l : List Int} {i : Nat} (h : i < l.length) : l = l.take i ++ l[i] :: l.drop (i + 1) := by
  rw [List.getElem_cons_drop, List.take_append_drop]
/-- one byte of the checksum is another one -/
theorem stop_sum {r u : List Int} {i : Nat} {x : Int} (hr : r.length ≤ 900000) (h1 : (recD r).length ≤ i + 4) (h2 : i < (recD r).length) (hx : x ≠ (recD r)[i]) : Stop ((recD r).set i x ++ u) := by
  have hl := recD_length r
  have e : recD r = wNum r.length ++ (r ++ tail4 (ck r)) := by unfold recD; rw [List.append_assoc]
  obtain ⟨j, rfl⟩ : ∃ j, i = (wNum r.length).length + (r.length + j) := ⟨i - (wNum r.length).length - r.length, by omega⟩
  have hj : j < 4 := by omega
  have hx2 : x ≠ (tail4 (ck r))[j]'hj := by
    intro z
    refine hx ?_
    rw [z]
    have : (recD r)[(wNum r.length).length + (r.length + j)]? = some ((tail4 (ck r))[j]'hj) := by
      rw [e, List.getElem?_append_right (by omega), List.getElem?_append_right (by omega)]
      rw [show (wNum r.length).length + (r.length + j) - (wNum r.length).length - r.length = j by omega]
      exact List.getElem?_eq_getElem hj
    have q := List.getElem?_eq_getElem h2
    rw [this] at q
    exact Option.some.inj q
  have e2 : (recD r).set ((wNum r.length).length + (r.length + j)) x = wNum r.length ++ (r ++ (tail4 (ck r)).set j x) := by
    rw [e, List.set_append_right _ _ (by omega), Nat.add_sub_cancel_left, List.set_append_right _ _ (by omega), Nat.add_sub_cancel_left]
  rw [e2, List.append_assoc, List.append_assoc]
  refine stop_tail hr (by rw [List.length_set]; rfl) (fun z => hx2 ?_)
  have q : (tail4 (ck r))[j]? = ((tail4 (ck r)).set j x)[j]? := by rw [← z]
  rw [List.getElem?_set_self (by exact hj), List.getElem?_eq_getElem (by exact hj)] at q
  exact (Option.some.inj q).symm
/-- one byte of the data is another one -/
theorem stop_data {r u : List Int} {i : Nat} {x : Int} (hb : ∀ b ∈ r, 0 ≤ b ∧ b < 256) (hr : r.length ≤ 900000) (h1 : (wNum r.length).length ≤ i) (h2 : i < (wNum r.length).length + r.length) (h3 : i < (recD r).length) (hx0 : 0 ≤ x ∧ x < 256) (hx : x ≠ (recD r)[i]) : Stop ((recD r).set i x ++ u) := by
  have e : recD r = wNum r.length ++ (r ++ tail4 (ck r)) := by unfold recD; rw [List.append_assoc]
  obtain ⟨j, rfl⟩ : ∃ j, i = (wNum r.length).length + j := ⟨i - (wNum r.length).length, by omega⟩
  have hj : j < r.length := by omega
  have hx2 : x ≠ r[j] := by
    intro z
    refine hx ?_
    rw [z]
    have : (recD r)[(wNum r.length).length + j]? = some r[j] := by
      rw [e, List.getElem?_append_right (by omega), Nat.add_sub_cancel_left, List.getElem?_append_left hj]
      exact List.getElem?_eq_getElem hj
    have q := List.getElem?_eq_getElem h3
    rw [this] at q
    exact Option.some.inj q
  have e2 : (recD r).set ((wNum r.length).length + j) x = wNum (r.set j x).length ++ (r.set j x ++ tail4 (ck r)) := by
    rw [e, List.set_append_right _ _ (by omega), Nat.add_sub_cancel_left, List.set_append_left _ _ hj, List.length_set]
  rw [e2, List.append_assoc, List.append_assoc]
  refine stop_tail (by rw [List.length_set]; exact hr) rfl (fun z => ?_)
  have z2 := tail4_inj (ck_range _) (ck_range _) z
  rw [← set_split hj, List.append_assoc] at z2
  have z3 : ck (r.take j ++ x :: r.drop (j + 1)) = ck (r.take j ++ r[j] :: r.drop (j + 1)) := by
    rw [← get_split hj]; exact z2
  exact ck_changed hx0 (hb _ (List.getElem_mem hj)) hx2 z3
/-- a needless byte in the number -/
theorem wNum_split : ∀ v : Nat, ∃ init last, wNum v = init ++ [last] ∧ (∀ b ∈ init, 128 ≤ b) ∧ 0 ≤ last ∧ last < 128
  | v => by
    by_cases hv : v < 128
    · exact ⟨[], v, wNum_lo hv, (fun _ h => nomatch h), by omega, by omega⟩
    · obtain ⟨i, l, e, h1, h2⟩ := wNum_split (v / 128)
      refine ⟨_ :: i, l, by rw [wNum_hi hv, e]; rfl, fun b hb => ?_, h2⟩
      rcases List.mem_cons.mp hb with z | z
      · rw [z]; omega
      · exact h1 b z
termination_by v => v
decreasing_by omega
theorem stop_needless {l u : List Int} (h : ∀ b ∈ l, 128 ≤ b) (hl : l ≠ []) (hn : l.length < 60) : Stop (l ++ [0] ++ u) := by
  refine stop_none ?_
  obtain ⟨k, hk⟩ : ∃ k, 60 = l.length + (k + 1) := ⟨60 - l.length - 1, by omega⟩
  have e : (l ++ [0] ++ u).take 60 = l ++ 0 :: u.take k := by
    rw [hk, List.append_assoc, List.take_append, List.take_of_length_le (by omega), Nat.add_sub_cancel_left]
    rfl
  rw [e]
  exact numR_zero l _ _ _ h (.inl hl)
/-! ### the draws -/
def mixI (cell k : Int) : Int :=
  ((cell * 48271 + k * 69621 + 12345) % 2147483647 * ((cell * 48271 + k * 69621 + 12345) % 2147483647) + k * 40692 + 1) % 2147483399 / 5 % 9973
theorem mixI_lo (c k : Int) : 0 ≤ mixI c k := Int.emod_nonneg _ (by decide)
theorem mixI_hi (c k : Int) : mixI c k < 9973 := Int.emod_lt_of_pos _ (by decide)
def R_mix (ds : List PyData) (d : PyData) : Prop := ∃ cell k : Int, ds = [.int cell, .int k] ∧ d = .int (mixI cell k)
section
variable {P : Program} {w : World} {K : PySem.W.Frag} {mg : Str → Option Value} {base : Heap}
theorem fo_l_mix (T : Tx K mg) {fd : FuncData} (F : FunD K "_law_mix" "_law_mix" (defArgs s_l_mix) (defBody s_l_mix) (defScope s_l_mix) [] [] (He.fAd K ("_law_mix", none)) fd)   : FnOk P w K mg base CX0 1 (He.fAd K ("_law_mix", none)) fd ["cell", "k"] (spP R_mix) := by
  refine F.ok sc_l_mix (fun vs H Q E h => ?len) (fun cdv A outer s H vs Q E hr h => ?read)
  case len =>
    obtain ⟨G, ds, d, _, hd, ⟨cell, k, rfl, _⟩, _⟩ := h
    exact da_len hd
  case read =>
    refine ⟨_, PSs.nox (pss_cons (ps_set (i := 2) sc_l_mix.nd rfl (by first | exact Or.inl rfl | exact Or.inr rfl) (pe_op op_rem (pe_callTy cl_int (by rfl) T.f_int (by decide +kernel) (pa_cons (pe_op op_plus (pe_op op_plus (pe_op op_times (pe_callTy cl_int (by rfl) T.f_int (by decide +kernel) (pa_cons (pv 0) pa_nil)) pe_int) (pe_op op_times (pv 1) pe_int)) pe_int) pa_nil)) pe_int))
      (pss_cons (ps_set (i := 2) sc_l_mix.nd rfl (by first | exact Or.inl rfl | exact Or.inr rfl) (pe_op op_rem (pe_callTy cl_int (by rfl) T.f_int (by decide +kernel) (pa_cons (pe_op op_plus (pe_op op_plus (pe_op op_times (pv 2) (pv 2)) (pe_op op_times (pv 1) pe_int)) pe_int) pa_nil)) pe_int))
      (pss_one (ps_ret (pe_op op_rem (pe_op op_div (pv 2) pe_int) pe_int))))), ?_⟩
    obtain ⟨G, ds, d, s0, hd, ⟨cell, k, rfl, rfl⟩, ret⟩ := h
    have S : ST G H NoL [] [.val (.int cell), .val (.int k), .any] [] G (L2.start n_l_mix vs) H := ST.start (N := n_l_mix) s0 hd
    walk_at "st"
    have h1 : (cell * 48271 + k * 69621 + 12345) % 2147483647 < 2147483647 := Int.emod_lt_of_pos _ (by decide)
    have h2 : 0 ≤ (cell * 48271 + k * 69621 + 12345) % 2147483647 := Int.emod_nonneg _ (by decide)
    refine c_times (.inl ⟨by omega, by omega⟩) ?_
    walk_at "st"
    exact ret_P (by assumption) (.int _) ret
  
  /-- the law's own draws: from the script -/
  def sp_draws (K : PySem.W.Frag) : Sp := fun vs H Q _ => ∃ (G : Hp) (a : Addr) (ns : List Int), vs = [.ref a] ∧ Same G H ∧ SqL K H a (ns.map V.int) ∧ ns.length ≤ 63 ∧
    ∀ v G' H' ms, Gr G H G' H' → Da G' v (.list (ms.map .int)) → Drawn ms → Q v H'
theorem ok_l_mix (T : Tx K mg) (c : He.SaysD fas fns K)  : OkF P w K mg base CX0 ("_law_mix", none) ["cell", "k"] 1 (spP R_mix) := by
  obtain ⟨fd, F⟩ := c.def_ 8 (d := d_l_mix) rfl
  exact ⟨fd, fo_l_mix T F , F.kp, F.bindsN fun _ _ _ _ _ _ us hl => match us, hl with | [_, _], _ => rfl⟩
end
section
variable {P : Program} {w : World} {K : PySem.W.Frag} {mg : Str → Option Value} {base : Heap}
theorem fo_l_draws (T : Tx K mg) {fd : FuncData} (F : FunD K "_law_draws" "_law_draws" (defArgs s_l_draws) (defBody s_l_draws) (defScope s_l_draws) [] [] (He.fAd K ("_law_draws", none)) fd) (h_l_mix : OkF P w K mg base CX0 ("_law_mix", none) ["cell", "k"] 1 (spP R_mix))  : FnOk P w K mg base CX0 2 (He.fAd K ("_law_draws", none)) fd ["script"] (sp_draws K) := by
  obtain ⟨fd_l_mix, G_l_mix, kp_l_mix, b_l_mix⟩ := h_l_mix
  refine F.ok sc_l_draws (fun vs H Q E h => ?len) (fun cdv A outer s H vs Q E hr h => ?read)
  case len =>
    obtain ⟨G, a, ns, rfl, _⟩ := h
    rfl
  case read =>
    refine ⟨_, PSs.nox (pss_cons (ps_set (i := 1) sc_l_draws.nd rfl (by first | exact Or.inl rfl | exact Or.inr rfl) (pe_lst pa_nil))
      (pss_cons (ps_for PassesOwn.never rfl (pi_range1 (by rfl) T.f_range (pa_cons (pe_callB (cl_min2 rfl) (by rfl) T.f_min (by decide +kernel) (pa_cons pe_int (pa_cons (pe_callB cl_len (by rfl) T.f_len (by decide +kernel) (pa_cons (pv 0) pa_nil)) pa_nil))) pa_nil)) (pg_name (i := 2) sc_l_draws.nd rfl (by first | exact Or.inl rfl | exact Or.inr rfl))
      (pss_cons (ps_set (i := 3) sc_l_draws.nd rfl (by first | exact Or.inl rfl | exact Or.inr rfl) (pe_callTy cl_int (by rfl) T.f_int (by decide +kernel) (pa_cons (pe_ix ix_seq (pv 0) (pv 2) (fun _ _ => rfl)) pa_nil)))
      (pss_one (ps_if (pt_cmpR (op_less hr.units0) (pv 3) (pe_op op_power pe_int pe_int) (nomark _)) (pss_one (ps_expr (pe_bm PySem.F.plainAttrs_list PySem.F.slot_list_append PySem.F.type_list_append mt_append (pv 1) (pa_cons (pe_call G_l_mix (hr.mono (by decide)) (by rfl) T.g_l_mix kp_l_mix b_l_mix .nil pass0 (pa_cons (pv 3) (pa_cons (pv 2) pa_nil))) pa_nil)))) (pss_one (ps_for PassesOwn.never rfl (pi_range1 (by rfl) T.f_range (pa_cons pe_int pa_nil)) (pg_name (i := 4) sc_l_draws.nd rfl (by first | exact Or.inl rfl | exact Or.inr rfl))
      (pss_one (ps_if (pt_cmpR op_gtI (pv 3) pe_int (nomark _)) (pss_cons (ps_expr (pe_bm PySem.F.plainAttrs_list PySem.F.slot_list_append PySem.F.type_list_append mt_append (pv 1) (pa_cons (pe_op op_rem (pe_callTy cl_int (by rfl) T.f_int (by decide +kernel) (pa_cons (pv 3) pa_nil)) pe_int) pa_nil)))
      (pss_one (ps_set (i := 3) sc_l_draws.nd rfl (by first | exact Or.inl rfl | exact Or.inr rfl) (pe_op op_div (pv 3) pe_int)))) pss_nil))))))))
      (pss_one (ps_ret (pv 1))))), ?_⟩
    obtain ⟨G, a, ns, rfl, s0, hq, hl, ret⟩ := h
    have S : ST G H NoL [] [.val (.ref a), .any, .any, .any, .any] [] G (L2.start n_l_draws [.ref a]) H := ST.startV (N := n_l_draws) (ρ := [.val (.ref a)]) s0 ⟨rfl, True.intro⟩
    walk_at "st"
    refine c_newL S .nil (Nat.zero_le _) (fun p H1 S p0 g => ?_)
    refine c_set S (fun σ1 S => ?_)
    walk_at "st"
    refine c_lenQ (S.gx.same.seq hq) ?_
    rw [List.length_map]
    walk_at "st"
    refine c_r1 (by split <;> omega) (by split <;> omega) ?_
    refine c_forR (fun i G' σ' H' => ∃ ms : List Int, ST G H NoL [] [.val (.ref a), .val (.ref p), .any, .any, .any] [As.lst p (ms.map .int)] G' σ' H' ∧ ms.length ≤ 60 * i ∧ ∀ m ∈ ms, 0 ≤ m ∧ m < 9973)
      ⟨[], S.le (by walk_at "le"), Nat.zero_le _, fun _ h => nomatch h⟩ ?_ ?_
    · rintro i G' σ' H' hi ⟨ms, S, hml, hm⟩
      have hi2 : i < ns.length := by split at hi <;> omega
      walk_at "st"
      refine c_ixQ (k := i) (w := .int ns[i]) (S.gx.same.seq hq) (by simp [hi2]) (.inl ⟨by omega, by omega⟩) ?_
      walk_at "st"
      refine c_pow ⟨by decide, by decide, by decide⟩ ?_
      walk_at "st"
      refine c_ite (fun _ => ?_) (fun _ => ?_)
      · walk_at "st"
        refine ⟨c_tyM S, ?_⟩
        walk_at "st"
        refine c_callP (by assumption) (by walk_at "da") ⟨_, _, rfl, rfl⟩ (fun v G2 H2 S _ hv => ?_)
        walk_at "st"
        refine c_append S hv (by rw [List.length_map]; exact Nat.lt_of_le_of_lt (show ms.length ≤ 10000 by omega) (by decide)) (fun H3 S => ?_)
        refine ⟨G2, ms ++ [mixI ns[i] (0 + i)], ?_, by rw [List.length_append]; simp; omega, fun m h => ?_⟩
        · rw [List.map_append]
          exact S.le (by walk_at "le")
        · rcases List.mem_append.mp h with h | h
          · exact hm m h
          · rw [List.mem_singleton.mp h]
            exact ⟨mixI_lo _ _, mixI_hi _ _⟩
      · walk_at "st"
        refine c_r1 (by decide) (by decide) ?_
        refine c_forR (fun j G' σ' H' => ∃ (ms : List Int) (z : Int), ST G H NoL [] [.val (.ref a), .val (.ref p), .any, .val (.int z), .any] [As.lst p (ms.map .int)] G' σ' H' ∧ ms.length ≤ 60 * i + j ∧ ∀ m ∈ ms, 0 ≤ m ∧ m < 9973)
          ⟨ms, _, ST.le (by assumption) (by walk_at "le"), hml, hm⟩ ?_ ?_
        · rintro j G' σ' H' hj ⟨ms, z, S, hml, hm⟩
          have hj : j < 60 := hj
          walk_at "st"
          refine c_ite (fun _ => ?_) (fun _ => ?_)
          · walk_at "st"
            refine ⟨c_tyM S, ?_⟩
            walk_at "st"
            refine c_append (by assumption) (.int _) (by rw [List.length_map]; exact Nat.lt_of_le_of_lt (show ms.length ≤ 10000 by omega) (by decide)) (fun H3 S => ?_)
            walk_at "st"
            refine ⟨G', ms ++ [z % 9973], z / 9973, ?_, by rw [List.length_append]; simp; omega, fun m h => ?_⟩
            · rw [List.map_append]
              exact ST.le (by assumption) (by walk_at "le")
            · rcases List.mem_append.mp h with h | h
              · exact hm m h
              · rw [List.mem_singleton.mp h]
                exact ⟨Int.emod_nonneg _ (by decide), Int.emod_lt_of_pos _ (by decide)⟩
          · walk_at "st"
            exact ⟨_, ms, z, ST.le (by assumption) (by walk_at "le"), by omega, hm⟩
        · rintro G' σ' H' ⟨ms, z, S, hml, hm⟩
          have e : (60 : Int).toNat = 60 := rfl
          rw [e] at hml
          exact ⟨_, ms, S.le (by walk_at "le"), by omega, hm⟩
    · rintro G' σ' H' ⟨ms, S, hml, hm⟩
      walk_at "st"
      refine ret_Lf S p0 (fun v G2 H2 g hv => ret v G2 H2 ms g hv ⟨?_, hm⟩)
      refine Nat.le_trans hml ?_
      split <;> omega
  def at_ (ms : List Int) (i : Int) : Int := if i < ms.length then ms.getD i.toNat 0 else if ms.length = 0 then mixI i 77 else mixI (ms.getD (i % ms.length).toNat 0 + i * 131) i
  theorem getD_ok {ms : List Int} (h : ∀ m ∈ ms, 0 ≤ m ∧ m < 9973) {k : Nat} (hk : k < ms.length) : 0 ≤ ms.getD k 0 ∧ ms.getD k 0 < 9973 := by
    have e : ms.getD k 0 = ms[k] := by simp [List.getD, hk]
    rw [e]
    exact h _ (List.getElem_mem hk)
  theorem at_ok {ms : List Int} (h : Drawn ms) {i : Int} (h0 : 0 ≤ i) : 0 ≤ at_ ms i ∧ at_ ms i < 9973 := by
    unfold at_
    split
    · exact getD_ok h.2 (by omega)
    · split
      · exact ⟨mixI_lo _ _, mixI_hi _ _⟩
      · exact ⟨mixI_lo _ _, mixI_hi _ _⟩
  theorem getI {ms : List Int} {k : Nat} (hk : k < ms.length) : (ms.map PyData.int)[k]? = some (.int (ms.getD k 0)) := by
    simp [List.getD, hk]
  def R_at (ds : List PyData) (d : PyData) : Prop := ∃ (ms : List Int) (i : Int), ds = [.list (ms.map .int), .int i] ∧ Drawn ms ∧ 0 ≤ i ∧ d = .int (at_ ms i)
theorem ok_l_draws (T : Tx K mg) (c : He.SaysD fas fns K) (h_l_mix : OkF P w K mg base CX0 ("_law_mix", none) ["cell", "k"] 1 (spP R_mix)) : OkF P w K mg base CX0 ("_law_draws", none) ["script"] 2 (sp_draws K) := by
  obtain ⟨fd, F⟩ := c.def_ 9 (d := d_l_draws) rfl
  exact ⟨fd, fo_l_draws T F h_l_mix, F.kp, F.bindsN fun _ _ _ _ _ _ us hl => match us, hl with | [_], _ => rfl⟩
end
section
variable {P : Program} {w : World} {K : PySem.W.Frag} {mg : Str → Option Value} {base : Heap}
theorem fo_l_at (T : Tx K mg) {fd : FuncData} (F : FunD K "_law_at" "_law_at" (defArgs s_l_at) (defBody s_l_at) (defScope s_l_at) [] [] (He.fAd K ("_law_at", none)) fd) (h_l_mix : OkF P w K mg base CX0 ("_law_mix", none) ["cell", "k"] 1 (spP R_mix))  : FnOk P w K mg base CX0 2 (He.fAd K ("_law_at", none)) fd ["draws", "index"] (spP R_at) := by
  obtain ⟨fd_l_mix, G_l_mix, kp_l_mix, b_l_mix⟩ := h_l_mix
  refine F.ok sc_l_at (fun vs H Q E h => ?len) (fun cdv A outer s H vs Q E hr h => ?read)
  case len =>
    obtain ⟨G, ds, d, _, hd, ⟨ms, i, rfl, _⟩, _⟩ := h
    exact da_len hd
  case read =>
    refine ⟨_, PSs.nox (pss_cons (ps_if (pt_cmpR (op_less hr.units0) (pv 1) (pe_callB cl_len (by rfl) T.f_len (by decide +kernel) (pa_cons (pv 0) pa_nil)) (nomark _)) (pss_one (ps_ret (pe_ix ix_seq (pv 0) (pv 1) (fun _ _ => rfl)))) pss_nil)
      (pss_cons (ps_if (pt_cmpR (op_same hr.units) (pe_callB cl_len (by rfl) T.f_len (by decide +kernel) (pa_cons (pv 0) pa_nil)) pe_int (nomark _)) (pss_one (ps_ret (pe_call G_l_mix (hr.mono (by decide)) (by rfl) T.g_l_mix kp_l_mix b_l_mix .nil pass0 (pa_cons (pv 1) (pa_cons pe_int pa_nil))))) pss_nil)
      (pss_one (ps_ret (pe_call G_l_mix (hr.mono (by decide)) (by rfl) T.g_l_mix kp_l_mix b_l_mix .nil pass0 (pa_cons (pe_op op_plus (pe_ix ix_seq (pv 0) (pe_op op_rem (pe_callTy cl_int (by rfl) T.f_int (by decide +kernel) (pa_cons (pv 1) pa_nil)) (pe_callB cl_len (by rfl) T.f_len (by decide +kernel) (pa_cons (pv 0) pa_nil))) (fun _ _ => rfl)) (pe_op op_times (pv 1) pe_int)) (pa_cons (pv 1) pa_nil))))))), ?_⟩
    obtain ⟨G, ds, d, s0, hd, ⟨ms, i, rfl, hm, h0, rfl⟩, ret⟩ := h
    have S : ST G H NoL [] [.dat (.list (ms.map .int)), .val (.int i)] [] G (L2.start n_l_at vs) H := ST.start (N := n_l_at) s0 hd
    unfold at_ at ret
    walk_at "st"
    rw [List.length_map]
    walk_at "st"
    refine c_ite (fun h1 => ?_) (fun h1 => ?_)
    · rw [if_pos h1] at ret
      walk_at "st"
      refine c_ixL (k := i.toNat) (by assumption) S.same (getI (by omega)) (.inl ⟨h0, rfl⟩) (fun w hw => ?_)
      exact ret_P S hw ret
    · rw [if_neg h1] at ret
      walk_at "st"
      rw [List.length_map]
      refine c_ite (fun h2 => ?_) (fun h2 => ?_)
      · rw [if_pos (by omega)] at ret
        walk_at "st"
        refine c_callP S (by walk_at "da") ⟨_, _, rfl, rfl⟩ (fun v G2 H2 S _ hv => ?_)
        exact ret_P S hv ret
      · rw [if_neg (by omega)] at ret
        walk_at "st"
        rw [List.length_map]
        have hl : 0 < (ms.length : Int) := by omega
        refine c_rem hl ?_
        have h3 := Int.emod_lt_of_pos i hl
        have h4 := Int.emod_nonneg i (show (ms.length : Int) ≠ 0 by omega)
        refine c_ixL (k := (i % ms.length).toNat) (by assumption) S.same (getI (by omega)) (.inl ⟨h4, rfl⟩) (fun w hw => ?_)
        cases hw
        walk_at "st"
        refine c_callP S (by walk_at "da") ⟨_, _, rfl, rfl⟩ (fun v G2 H2 S _ hv => ?_)
        exact ret_P S hv ret
theorem ok_l_at (T : Tx K mg) (c : He.SaysD fas fns K) (h_l_mix : OkF P w K mg base CX0 ("_law_mix", none) ["cell", "k"] 1 (spP R_mix)) : OkF P w K mg base CX0 ("_law_at", none) ["draws", "index"] 2 (spP R_at) := by
  obtain ⟨fd, F⟩ := c.def_ 10 (d := d_l_at) rfl
  exact ⟨fd, fo_l_at T F h_l_mix, F.kp, F.bindsN fun _ _ _ _ _ _ us hl => match us, hl with | [_, _], _ => rfl⟩
end
/-! ### the law's own comparison -/
def R_isint (ds : List PyData) (d : PyData) : Prop := ∃ i, ds = [.int i] ∧ d = .bool true
section
variable {P : Program} {w : World} {K : PySem.W.Frag} {mg : Str → Option Value} {base : Heap}
theorem fo_l_is_integer (T : Tx K mg) {fd : FuncData} (F : FunD K "_law_is_integer" "_law_is_integer" (defArgs s_l_is_integer) (defBody s_l_is_integer) (defScope s_l_is_integer) [] [] (He.fAd K ("_law_is_integer", none)) fd)   : FnOk P w K mg base CX0 1 (He.fAd K ("_law_is_integer", none)) fd ["actual"] (spP R_isint) := by
  refine F.ok sc_l_is_integer (fun vs H Q E h => ?len) (fun cdv A outer s H vs Q E hr h => ?read)
  case len =>
    obtain ⟨G, ds, d, _, hd, ⟨i, rfl, _⟩, _⟩ := h
    exact da_len hd
  case read =>
    refine ⟨_, PSs.nox (pss_one (ps_ret (pe_and (pe_callB cl_isi (by rfl) T.f_isinstance (by decide +kernel) (pa_cons (pv 0) (pa_cons (pe_bltn (v := .ty "int") (by rfl) T.f_int (by decide +kernel) rfl) pa_nil))) (pe_one (pe_not (pe_callB cl_isi (by rfl) T.f_isinstance (by decide +kernel) (pa_cons (pv 0) (pa_cons (pe_bltn (v := .ty "bool") (by rfl) T.f_bool (by decide +kernel) rfl) pa_nil)))))))), ?_⟩
    obtain ⟨G, ds, d, s0, hd, ⟨i, rfl, rfl⟩, ret⟩ := h
    have S : ST G H NoL [] [.val (.int i)] [] G (L2.start n_l_is_integer vs) H := ST.start (N := n_l_is_integer) s0 hd
    walk_at "st"
    refine c_isi (d := .int i) (.int i) S.same (b := true) (by show kitB "int" "int" = _; decide +kernel) ?_
    walk_at "st"
    refine iteT ?_
    walk_at "st"
    refine c_isi (d := .int i) (.int i) S.same (b := false) (by show kitB "int" "bool" = _; decide +kernel) ?_
    walk_at "st"
    exact ret_P S (.bl _) ret
theorem ok_l_is_integer (T : Tx K mg) (c : He.SaysD fas fns K)  : OkF P w K mg base CX0 ("_law_is_integer", none) ["actual"] 1 (spP R_isint) := by
  obtain ⟨fd, F⟩ := c.def_ 11 (d := d_l_is_integer) rfl
  exact ⟨fd, fo_l_is_integer T F , F.kp, F.bindsN fun _ _ _ _ _ _ us hl => match us, hl with | [_], _ => rfl⟩
end
def R_same (n : Nat) (ds : List PyData) (d : PyData) : Prop := ∃ m x, n = m + 1 ∧ ds = [x, x] ∧ fits m x ∧ d = .bool true
abbrev sp_same (n : Nat) : Sp := spP (R_same n)
section
variable {P : Program} {w : World} {K : PySem.W.Frag} {mg : Str → Option Value} {base : Heap}
theorem fo_l_same (T : Tx K mg) {fd : FuncData} (F : FunD K "_law_same" "_law_same" (defArgs s_l_same) (defBody s_l_same) (defScope s_l_same) [] [] (He.fAd K ("_law_same", none)) fd) (h_l_is_integer : OkF P w K mg base CX0 ("_law_is_integer", none) ["actual"] 1 (spP R_isint)) {lv n : Nat} (hb : 1 ≤ lv) (h_l_same : OkF P w K mg base CX0 ("_law_same", none) ["actual", "expected"] lv (sp_same n)) : FnOk P w K mg base CX0 (lv + 1) (He.fAd K ("_law_same", none)) fd ["actual", "expected"] (sp_same (n + 1)) := by
  obtain ⟨fd_l_same, G_l_same, kp_l_same, b_l_same⟩ := h_l_same
  obtain ⟨fd_l_is_integer, G_l_is_integer, kp_l_is_integer, b_l_is_integer⟩ := h_l_is_integer
  refine F.ok sc_l_same (fun vs H Q E h => ?len) (fun cdv A outer s H vs Q E hr h => ?read)
  case len =>
    obtain ⟨G, ds, d, _, hd, ⟨m, x, _, rfl, _⟩, _⟩ := h
    exact da_len hd
  case read =>
    refine ⟨_, PSs.nox (pss_cons (ps_if (pt_val (pe_callB cl_isi (by rfl) T.f_isinstance (by decide +kernel) (pa_cons (pv 1) (pa_cons (pe_tup (pa_cons (pe_bltn (v := .ty "list") (by rfl) T.f_list (by decide +kernel) rfl) (pa_cons (pe_bltn (v := .ty "tuple") (by rfl) T.f_tuple (by decide +kernel) rfl) pa_nil))) pa_nil)))) (pss_cons (ps_if (PW.pt (pw_or (pt_cmpR (op_diff hr.units) (pe_callB cl_isi (by rfl) T.f_isinstance (by decide +kernel) (pa_cons (pv 1) (pa_cons (pe_bltn (v := .ty "list") (by rfl) T.f_list (by decide +kernel) rfl) pa_nil))) (pe_callB cl_isi (by rfl) T.f_isinstance (by decide +kernel) (pa_cons (pv 0) (pa_cons (pe_bltn (v := .ty "list") (by rfl) T.f_list (by decide +kernel) rfl) pa_nil))) (nomark _)) (pw_or1 (pt_cmpR (op_diff hr.units) (pe_callB cl_isi (by rfl) T.f_isinstance (by decide +kernel) (pa_cons (pv 1) (pa_cons (pe_bltn (v := .ty "tuple") (by rfl) T.f_tuple (by decide +kernel) rfl) pa_nil))) (pe_callB cl_isi (by rfl) T.f_isinstance (by decide +kernel) (pa_cons (pv 0) (pa_cons (pe_bltn (v := .ty "tuple") (by rfl) T.f_tuple (by decide +kernel) rfl) pa_nil))) (nomark _))))) (pss_one (ps_ret pe_bl)) pss_nil)
      (pss_cons (ps_if (pt_cmpR (op_diff hr.units) (pe_callB cl_len (by rfl) T.f_len (by decide +kernel) (pa_cons (pv 0) pa_nil)) (pe_callB cl_len (by rfl) T.f_len (by decide +kernel) (pa_cons (pv 1) pa_nil)) (nomark _)) (pss_one (ps_ret pe_bl)) pss_nil)
      (pss_cons (ps_for PassesOwn.never rfl (pi_range1 (by rfl) T.f_range (pa_cons (pe_callB cl_len (by rfl) T.f_len (by decide +kernel) (pa_cons (pv 1) pa_nil)) pa_nil)) (pg_name (i := 2) sc_l_same.nd rfl (by first | exact Or.inl rfl | exact Or.inr rfl))
      (pss_one (ps_if (pt_not (pt_val (pe_call G_l_same (hr.mono (by omega)) (by rfl) T.g_l_same kp_l_same b_l_same .nil pass0 (pa_cons (pe_ix ix_seq (pv 0) (pv 2) (fun _ _ => rfl)) (pa_cons (pe_ix ix_seq (pv 1) (pv 2) (fun _ _ => rfl)) pa_nil))))) (pss_one (ps_ret pe_bl)) pss_nil)))
      (pss_one (ps_ret pe_bl))))) pss_nil)
      (pss_cons (ps_if (pt_cmpR op_isNone (pv 1) pe_non (nomark _)) (pss_one (ps_ret (pe_cmpR op_isNone (pv 0) pe_non (nomark _)))) pss_nil)
      (pss_cons (ps_if (pt_val (pe_callB cl_isi (by rfl) T.f_isinstance (by decide +kernel) (pa_cons (pv 1) (pa_cons (pe_bltn (v := .ty "bool") (by rfl) T.f_bool (by decide +kernel) rfl) pa_nil)))) (pss_one (ps_ret (pe_and (pe_callB cl_isi (by rfl) T.f_isinstance (by decide +kernel) (pa_cons (pv 0) (pa_cons (pe_bltn (v := .ty "bool") (by rfl) T.f_bool (by decide +kernel) rfl) pa_nil))) (pe_one (pe_cmpR (op_same hr.units) (pv 0) (pv 1) (nomark _)))))) pss_nil)
      (pss_cons (ps_if (pt_val (pe_callB cl_isi (by rfl) T.f_isinstance (by decide +kernel) (pa_cons (pv 1) (pa_cons (pe_bltn (v := .ty "int") (by rfl) T.f_int (by decide +kernel) rfl) pa_nil)))) (pss_one (ps_ret (pe_and (pe_call G_l_is_integer (hr.mono (by omega)) (by rfl) T.g_l_is_integer kp_l_is_integer b_l_is_integer .nil pass0 (pa_cons (pv 0) pa_nil)) (pe_one (pe_cmpR (op_same hr.units) (pv 0) (pv 1) (nomark _)))))) pss_nil)
      (pss_one (ps_ret (pe_and (pe_callB cl_isi (by rfl) T.f_isinstance (by decide +kernel) (pa_cons (pv 0) (pa_cons (pe_bltn (v := .ty "str") (by rfl) T.f_str (by decide +kernel) rfl) pa_nil))) (pe_one (pe_cmpR (op_same hr.units) (pv 0) (pv 1) (nomark _)))))))))), ?_⟩
    obtain ⟨G, ds, d, s0, hd, ⟨m, x, hn, rfl, hf, rfl⟩, ret⟩ := h
    obtain rfl : n = m := by omega
    cases x with
    | dict kvs => cases n <;> exact hf.elim
    | none =>
      have S : ST G H NoL [] [.val .non, .val .non, .any] [] G (L2.start n_l_same vs) H := ST.start (N := n_l_same) s0 hd
      walk_at "st"
      refine c_mkRaw S (by decide) (fun p H1 S g e => ?_)
      walk_at "st"
      refine c_isi2 (d := .none) .non S.same e (b1 := false) (b2 := false) (by decide +kernel) (by decide +kernel) ?_
      walk_at "st"
      refine iteF ?_
      walk_at "st"
      refine c_ite (fun _ => ?_) (fun h => absurd rfl h)
      walk_at "st"
      exact ret_P S (.bl true) ret
    | bool b =>
      have S : ST G H NoL [] [.val (.bl b), .val (.bl b), .any] [] G (L2.start n_l_same vs) H := ST.start (N := n_l_same) s0 hd
      walk_at "st"
      refine c_mkRaw S (by decide) (fun p H1 S g e => ?_)
      walk_at "st"
      refine c_isi2 (d := .bool b) (.bl b) S.same e (b1 := false) (b2 := false) (by show kitB "bool" "list" = _; decide +kernel) (by show kitB "bool" "tuple" = _; decide +kernel) ?_
      walk_at "st"
      refine iteF ?_
      walk_at "st"
      refine c_ite (fun h => nomatch h) (fun _ => ?_)
      walk_at "st"
      refine c_isi (d := .bool b) (.bl b) S.same (b := true) (by show kitB "bool" "bool" = _; decide +kernel) ?_
      walk_at "st"
      refine iteT ?_
      walk_at "st"
      refine c_isi (d := .bool b) (.bl b) S.same (b := true) (by show kitB "bool" "bool" = _; decide +kernel) ?_
      walk_at "st"
      refine iteT ?_
      walk_at "st"
      rw [decide_eq_true rfl]
      exact ret_P S (.bl true) ret
    | int i =>
      have S : ST G H NoL [] [.val (.int i), .val (.int i), .any] [] G (L2.start n_l_same vs) H := ST.start (N := n_l_same) s0 hd
      walk_at "st"
      refine c_mkRaw S (by decide) (fun p H1 S g e => ?_)
      walk_at "st"
      refine c_isi2 (d := .int i) (.int i) S.same e (b1 := false) (b2 := false) (by show kitB "int" "list" = _; decide +kernel) (by show kitB "int" "tuple" = _; decide +kernel) ?_
      walk_at "st"
      refine iteF ?_
      walk_at "st"
      refine c_ite (fun h => nomatch h) (fun _ => ?_)
      walk_at "st"
      refine c_isi (d := .int i) (.int i) S.same (b := false) (by show kitB "int" "bool" = _; decide +kernel) ?_
      walk_at "st"
      refine iteF ?_
      walk_at "st"
      refine c_isi (d := .int i) (.int i) S.same (b := true) (by show kitB "int" "int" = _; decide +kernel) ?_
      walk_at "st"
      refine iteT ?_
      walk_at "st"
      refine c_callP S (by walk_at "da") ⟨_, rfl, rfl⟩ (fun v G2 H2 S _ hv => ?_)
      cases hv
      walk_at "st"
      refine iteT ?_
      walk_at "st"
      rw [decide_eq_true rfl]
      exact ret_P S (.bl true) ret
    | str z =>
      have S : ST G H NoL [] [.val (.str z), .val (.str z), .any] [] G (L2.start n_l_same vs) H := ST.start (N := n_l_same) s0 hd
      walk_at "st"
      refine c_mkRaw S (by decide) (fun p H1 S g e => ?_)
      walk_at "st"
      refine c_isi2 (d := .str z) (.str z) S.same e (b1 := false) (b2 := false) (by show kitB "str" "list" = _; decide +kernel) (by show kitB "str" "tuple" = _; decide +kernel) ?_
      walk_at "st"
      refine iteF ?_
      walk_at "st"
      refine c_ite (fun h => nomatch h) (fun _ => ?_)
      walk_at "st"
      refine c_isi (d := .str z) (.str z) S.same (b := false) (by show kitB "str" "bool" = _; decide +kernel) ?_
      walk_at "st"
      refine iteF ?_
      walk_at "st"
      refine c_isi (d := .str z) (.str z) S.same (b := false) (by show kitB "str" "int" = _; decide +kernel) ?_
      walk_at "st"
      refine iteF ?_
      walk_at "st"
      refine c_isi (d := .str z) (.str z) S.same (b := true) (by show kitB "str" "str" = _; decide +kernel) ?_
      walk_at "st"
      refine iteT ?_
      walk_at "st"
      rw [decide_eq_true rfl]
      exact ret_P S (.bl true) ret
    | list xs =>
      have S : ST G H NoL [] [.dat (.list xs), .dat (.list xs), .any] [] G (L2.start n_l_same vs) H := ST.start (N := n_l_same) s0 hd
      walk_at "st"
      refine c_mkRaw S (by decide) (fun p H1 S g e => ?_)
      walk_at "st"
      refine c_isi2 (d := .list xs) (by assumption) S.same e (b1 := true) (b2 := false) (by show kitB "list" "list" = _; decide +kernel) (by show kitB "list" "tuple" = _; decide +kernel) ?_
      walk_at "st"
      refine iteT ?_
      walk_at "st"
      refine c_isi (d := .list xs) (by assumption) S.same (b := true) (by show kitB "list" "list" = _; decide +kernel) ?_
      walk_at "st"
      refine c_isi (d := .list xs) (by assumption) S.same (b := true) (by show kitB "list" "list" = _; decide +kernel) ?_
      walk_at "st"
      refine c_iteN (fun h => absurd rfl h) (fun _ => ?_)
      walk_at "st"
      refine c_isi (d := .list xs) (by assumption) S.same (b := false) (by show kitB "list" "tuple" = _; decide +kernel) ?_
      walk_at "st"
      refine c_isi (d := .list xs) (by assumption) S.same (b := false) (by show kitB "list" "tuple" = _; decide +kernel) ?_
      walk_at "st"
      refine c_iteN (fun h => absurd rfl h) (fun _ => ?_)
      walk_at "st"
      refine c_iteN (fun h => absurd rfl h) (fun _ => ?_)
      walk_at "st"
      cases n with
      | zero => exact hf.elim
      | succ n =>
      have hl : xs.length < 2 ^ 60 := hf.1
      refine c_r1 (by omega) (by omega) ?_
      refine c_forR (fun i G' σ' H' => ST G H NoL [] [.dat (.list xs), .dat (.list xs), .any] [] G' σ' H') S ?_ ?_
      · rintro i G' σ' H' hi S
        have hi : i < xs.length := by omega
        walk_at "st"
        refine c_ixL (k := i) (by assumption) (ST.same (by assumption)) (show xs[i]? = some xs[i] by simp [hi]) (.inl ⟨by omega, by omega⟩) (fun u hu => ?_)
        walk_at "st"
        refine c_ixL (k := i) (by assumption) (ST.same (by assumption)) (show xs[i]? = some xs[i] by simp [hi]) (.inl ⟨by omega, by omega⟩) (fun u2 hu2 => ?_)
        walk_at "st"
        refine c_callP (by assumption) (by walk_at "da") ⟨n, _, rfl, rfl, hf.2 _ (List.getElem_mem hi), rfl⟩ (fun v G2 H2 S _ hv => ?_)
        cases hv
        walk_at "st"
        refine iteF ?_
        walk_at "st"
        exact ⟨_, S.le (by walk_at "le")⟩
      · intro G' σ' H' S
        walk_at "st"
        exact ret_P S (.bl true) ret
    | tuple xs =>
      have S : ST G H NoL [] [.dat (.tuple xs), .dat (.tuple xs), .any] [] G (L2.start n_l_same vs) H := ST.start (N := n_l_same) s0 hd
      walk_at "st"
      refine c_mkRaw S (by decide) (fun p H1 S g e => ?_)
      walk_at "st"
      refine c_isi2 (d := .tuple xs) (by assumption) S.same e (b1 := false) (b2 := true) (by show kitB "tuple" "list" = _; decide +kernel) (by show kitB "tuple" "tuple" = _; decide +kernel) ?_
      walk_at "st"
      refine iteT ?_
      walk_at "st"
      refine c_isi (d := .tuple xs) (by assumption) S.same (b := false) (by show kitB "tuple" "list" = _; decide +kernel) ?_
      walk_at "st"
      refine c_isi (d := .tuple xs) (by assumption) S.same (b := false) (by show kitB "tuple" "list" = _; decide +kernel) ?_
      walk_at "st"
      refine c_iteN (fun h => absurd rfl h) (fun _ => ?_)
      walk_at "st"
      refine c_isi (d := .tuple xs) (by assumption) S.same (b := true) (by show kitB "tuple" "tuple" = _; decide +kernel) ?_
      walk_at "st"
      refine c_isi (d := .tuple xs) (by assumption) S.same (b := true) (by show kitB "tuple" "tuple" = _; decide +kernel) ?_
      walk_at "st"
      refine c_iteN (fun h => absurd rfl h) (fun _ => ?_)
      walk_at "st"
      refine c_iteN (fun h => absurd rfl h) (fun _ => ?_)
      walk_at "st"
      cases n with
      | zero => exact hf.elim
      | succ n =>
      have hl : xs.length < 2 ^ 60 := hf.1
      refine c_r1 (by omega) (by omega) ?_
      refine c_forR (fun i G' σ' H' => ST G H NoL [] [.dat (.tuple xs), .dat (.tuple xs), .any] [] G' σ' H') S ?_ ?_
      · rintro i G' σ' H' hi S
        have hi : i < xs.length := by omega
        walk_at "st"
        refine c_ixT (k := i) (by assumption) (ST.same (by assumption)) (show xs[i]? = some xs[i] by simp [hi]) (.inl ⟨by omega, by omega⟩) (fun u hu => ?_)
        walk_at "st"
        refine c_ixT (k := i) (by assumption) (ST.same (by assumption)) (show xs[i]? = some xs[i] by simp [hi]) (.inl ⟨by omega, by omega⟩) (fun u2 hu2 => ?_)
        walk_at "st"
        refine c_callP (by assumption) (by walk_at "da") ⟨n, _, rfl, rfl, hf.2 _ (List.getElem_mem hi), rfl⟩ (fun v G2 H2 S _ hv => ?_)
        cases hv
        walk_at "st"
        refine iteF ?_
        walk_at "st"
        exact ⟨_, S.le (by walk_at "le")⟩
      · intro G' σ' H' S
        walk_at "st"
        exact ret_P S (.bl true) ret
theorem ok_l_same (T : Tx K mg) (c : He.SaysD fas fns K) (h_l_is_integer : OkF P w K mg base CX0 ("_law_is_integer", none) ["actual"] 1 (spP R_isint)) : ∀ n : Nat, OkF P w K mg base CX0 ("_law_same", none) ["actual", "expected"] (1 + n) (sp_same n)
  | 0 => by
    obtain ⟨fd, F⟩ := c.def_ 12 (d := d_l_same) rfl
    exact ⟨fd, fn_never (by intro vs H Q E ⟨_, _, _, _, _, ⟨_, _, e, _⟩, _⟩; cases e), F.kp, F.bindsN fun _ _ _ _ _ _ us hl => match us, hl with | [_, _], _ => rfl⟩
  | n + 1 => by
    obtain ⟨fd, F⟩ := c.def_ 12 (d := d_l_same) rfl
    exact ⟨fd, fo_l_same T F h_l_is_integer (Nat.le_add_right _ _) (ok_l_same T c h_l_is_integer n), F.kp, F.bindsN fun _ _ _ _ _ _ us hl => match us, hl with | [_, _], _ => rfl⟩
end
section
variable {P : Program} {w : World} {K : PySem.W.Frag} {mg : Str → Option Value} {base : Heap}
theorem fo_l_next (T : Tx K mg) {fd : FuncData} (F : FunD K "_law_next" "_law_next" (defArgs s_l_next) (defBody s_l_next) (defScope s_l_next) [] [] (He.fAd K ("_law_next", none)) fd) (h_l_at : OkF P w K mg base CX0 ("_law_at", none) ["draws", "index"] 2 (spP R_at))  : FnOk P w K mg base CX0 3 (He.fAd K ("_law_next", none)) fd ["state", "limit"] sp_next := by
  obtain ⟨fd_l_at, G_l_at, kp_l_at, b_l_at⟩ := h_l_at
  refine F.ok sc_l_next (fun vs H Q E h => ?len) (fun cdv A outer s H vs Q E hr h => ?read)
  case len =>
    obtain ⟨G, s, lim, rfl, _⟩ := h
    rfl
  case read =>
    refine ⟨_, PSs.nox (pss_cons (ps_augS (pv 0) pe_int get_list pe_int ip_add set_list)
      (pss_one (ps_ret (pe_op op_rem (pe_call G_l_at (hr.mono (by decide)) (by rfl) T.g_l_at kp_l_at b_l_at .nil pass0 (pa_cons (pe_ix ix_seq (pv 0) pe_int (fun _ _ => rfl)) (pa_cons (pe_ix ix_seq (pv 0) pe_int (fun _ _ => rfl)) pa_nil))) (pv 1))))), ?_⟩
    obtain ⟨G, s, lim, rfl, hl, s0, hA, ret⟩ := h
    obtain ⟨⟨ms, idx, hm, h0, hs⟩, hf⟩ := hA
    have S : ST G H (DrA s).fp [] [.val (.ref s), .val (.int lim)] [As.lst s [.list (ms.map .int), .int idx]] G (L2.start n_l_next [.ref s, .int lim]) H :=
      ST.start1 (N := n_l_next) (ρ := [.val (.ref s), .val (.int lim)]) (A := As.lst s [.list (ms.map .int), .int idx]) s0 ⟨rfl, rfl, True.intro⟩ ⟨hs, hf⟩
    obtain ⟨xs, e, hx⟩ := S.head
    obtain ⟨v1, r, rfl, h1, hx⟩ := da_cons hx
    obtain ⟨v2, r, rfl, h2, hx⟩ := da_cons hx
    cases da_nil hx
    cases h2
    walk_at "st"
    refine c_getL (k := 1) e rfl rfl (by decide) ?_
    walk_at "st"
    refine c_setL (k := 1) S (.int _) rfl (Nat.lt_succ_self 1) (fun H1 S => ?_)
    obtain ⟨xs, e, hx⟩ := S.head
    obtain ⟨v1, r, rfl, h1, hx⟩ := da_cons hx
    obtain ⟨v2, r, rfl, h2, hx⟩ := da_cons hx
    cases da_nil hx
    cases h2
    walk_at "st"
    refine c_ixM (k := 0) e rfl (.inl ⟨by decide, rfl⟩) ?_
    walk_at "st"
    refine c_ixM (k := 1) e rfl (.inl ⟨by decide, rfl⟩) ?_
    walk_at "st"
    refine c_callP S (by walk_at "da") ⟨ms, _, rfl, hm, by omega, rfl⟩ (fun v G2 H2 S _ hv => ?_)
    cases hv
    walk_at "st"
    refine c_rem hl ?_
    refine ret _ _ _ (Int.emod_nonneg _ (by omega)) (Int.emod_lt_of_pos _ hl) S.gx ⟨⟨ms, idx + 1, hm, by omega, S.head⟩, fun b hb => ⟨(S.hfp hb).1, (S.hfp hb).2.1⟩⟩
theorem ok_l_next (T : Tx K mg) (c : He.SaysD fas fns K) (h_l_at : OkF P w K mg base CX0 ("_law_at", none) ["draws", "index"] 2 (spP R_at)) : OkF P w K mg base CX0 ("_law_next", none) ["state", "limit"] 3 sp_next := by
  obtain ⟨fd, F⟩ := c.def_ 13 (d := d_l_next) rfl
  exact ⟨fd, fo_l_next T F h_l_at, F.kp, F.bindsN fun _ _ _ _ _ _ us hl => match us, hl with | [_, _], _ => rfl⟩
end
/-- a def that draws from the list of draws: R tells what is asked of the further arguments, and what can come out -/
def spA (R : List PyData → (PyData → Prop) → Prop) : Sp := fun vs H Q _ => ∃ (G : Hp) (s : Addr) (rest : List V) (ds : List PyData) (D : PyData → Prop), vs = .ref s :: rest ∧ Same G H ∧ (DrA s).at G H ∧ DaAll G rest ds ∧ R ds D ∧
  ∀ d x G' H', D d → Gx (DrA s).fp G H G' H' → (DrA s).at G' H' → Da G' x d → Q x H'
section
variable {G0 H0 : Hp} {L : Addr → Prop} {π : List Pin} {ρ : List Sl} {μ : List As} {G H : Hp} {σ : St} {Q : VK} {E : XK} {v : V}
theorem c_callA {R : List PyData → (PyData → Prop) → Prop} {s : Addr} {rest : List V} {ds : List PyData} {D : PyData → Prop} (S : ST G0 H0 L π ρ (DrA s :: μ) G σ H) (hd : DaAll G rest ds) (hR : R ds D)
    (k : ∀ d x G' H', D d → ST G0 H0 L π ρ (DrA s :: μ) G' σ H' → Same G G' → Da G' x d → Q x H') : spA R (.ref s :: rest) H Q E :=
  ⟨G, s, rest, ds, D, rfl, S.same, S.at, hd, hR, fun d x G' H' hD g h hx => k d x G' H' hD (S.called g h fun b hb => .inl hb) g.g hx⟩
theorem ret_A {s : Addr} {d : PyData} {Dd : PyData → Prop} (S : ST G0 H0 (DrA s).fp π ρ [DrA s] G σ H) (hd : Dd d) (hv : Da G v d) (k : ∀ d x G' H', Dd d → Gx (DrA s).fp G0 H0 G' H' → (DrA s).at G' H' → Da G' x d → Q x H') : Q v H :=
  k d v G H hd S.gx S.at hv
end
def R_bytes (ds : List PyData) (D : PyData → Prop) : Prop := ds = [] ∧ D = fun d => ∃ bs : List Int, d = .list (bs.map .int) ∧ bs.length ≤ 2000 ∧ ∀ b ∈ bs, 0 ≤ b ∧ b < 256
section
variable {P : Program} {w : World} {K : PySem.W.Frag} {mg : Str → Option Value} {base : Heap}
theorem fo_l_bytes (T : Tx K mg) {fd : FuncData} (F : FunD K "_law_bytes" "_law_bytes" (defArgs s_l_bytes) (defBody s_l_bytes) (defScope s_l_bytes) [] [] (He.fAd K ("_law_bytes", none)) fd) (h_l_next : OkF P w K mg base CX0 ("_law_next", none) ["state", "limit"] 3 sp_next)  : FnOk P w K mg base CX0 4 (He.fAd K ("_law_bytes", none)) fd ["state"] (spA R_bytes) := by
  obtain ⟨fd_l_next, G_l_next, kp_l_next, b_l_next⟩ := h_l_next
  refine F.ok sc_l_bytes (fun vs H Q E h => ?len) (fun cdv A outer s H vs Q E hr h => ?read)
  case len =>
    obtain ⟨G, s, rest, ds, D, rfl, _, _, hd, ⟨rfl, _⟩, _⟩ := h
    show rest.length + 1 = 1
    rw [da_len hd]; rfl
  case read =>
    refine ⟨_, PSs.nox (pss_cons (ps_set (i := 1) sc_l_bytes.nd rfl (by first | exact Or.inl rfl | exact Or.inr rfl) (pe_call G_l_next (hr.mono (by decide)) (by rfl) T.g_l_next kp_l_next b_l_next .nil pass0 (pa_cons (pv 0) (pa_cons pe_int pa_nil))))
      (pss_cons (ps_set (i := 2) sc_l_bytes.nd rfl (by first | exact Or.inl rfl | exact Or.inr rfl) (pe_call G_l_next (hr.mono (by decide)) (by rfl) T.g_l_next kp_l_next b_l_next .nil pass0 (pa_cons (pv 0) (pa_cons pe_int pa_nil))))
      (pss_cons (ps_if (pt_cmpR (op_less hr.units0) (pv 2) pe_int (nomark _)) (pss_one (ps_set (i := 1) sc_l_bytes.nd rfl (by first | exact Or.inl rfl | exact Or.inr rfl) (pe_op op_plus pe_int (pe_call G_l_next (hr.mono (by decide)) (by rfl) T.g_l_next kp_l_next b_l_next .nil pass0 (pa_cons (pv 0) (pa_cons pe_int pa_nil)))))) (pss_one (ps_if (pt_cmpR (op_less hr.units0) (pv 2) pe_int (nomark _)) (pss_one (ps_set (i := 1) sc_l_bytes.nd rfl (by first | exact Or.inl rfl | exact Or.inr rfl) (pe_op op_plus pe_int (pe_call G_l_next (hr.mono (by decide)) (by rfl) T.g_l_next kp_l_next b_l_next .nil pass0 (pa_cons (pv 0) (pa_cons pe_int pa_nil)))))) (pss_one (ps_if (pt_cmpR (op_same hr.units) (pv 2) pe_int (nomark _)) (pss_one (ps_set (i := 1) sc_l_bytes.nd rfl (by first | exact Or.inl rfl | exact Or.inr rfl) (pe_op op_plus pe_int (pe_call G_l_next (hr.mono (by decide)) (by rfl) T.g_l_next kp_l_next b_l_next .nil pass0 (pa_cons (pv 0) (pa_cons pe_int pa_nil)))))) pss_nil)))))
      (pss_cons (ps_set (i := 3) sc_l_bytes.nd rfl (by first | exact Or.inl rfl | exact Or.inr rfl) (pe_call G_l_next (hr.mono (by decide)) (by rfl) T.g_l_next kp_l_next b_l_next .nil pass0 (pa_cons (pv 0) (pa_cons pe_int pa_nil))))
      (pss_one (ps_ret (pe_lc (own := [("k", 4)]) (g := gName 4) (tt := tYes) rfl sc_l_bytes.nd (pi_range1 (by rfl) T.f_range (pa_cons (pv 1) pa_nil)) (blkOk_by (own := [("k", 4)]) (N := n_l_bytes) (sc := defScope s_l_bytes) (by decide +kernel)) (fun _ _ _ _ _ => (pg_name (i := 4) sc_l_bytes.nd rfl (by first | exact Or.inl rfl | exact Or.inr rfl))) (fun _ _ _ _ _ => pts_nil) (fun _ _ _ _ _ => (pe_op op_rem (pe_op (op_plusK (K := K) rfl) (pv 3) (pe_op op_times (pe_op op_times pe_int (pv 4)) (pv 4))) pe_int))))))))), ?_⟩
    obtain ⟨G, s, rest, ds, D, rfl, s0, hA, hd, ⟨rfl, rfl⟩, ret⟩ := h
    cases da_nil hd
    have S : ST G H (DrA s).fp [] [.val (.ref s), .any, .any, .any, .any] [DrA s] G (L2.start n_l_bytes [.ref s]) H :=
      ST.start1 (N := n_l_bytes) (ρ := [.val (.ref s)]) (A := DrA s) s0 ⟨rfl, True.intro⟩ hA
    walk_at "st"
    refine c_draw (by assumption) (by decide) (fun r1 G1 H1 h10 h11 S _ => ?_)
    walk_at "st"
    refine c_draw (by assumption) (by decide) (fun r2 G2 H2 h20 h21 S _ => ?_)
    walk_at "sj"
    refine c_seqJ (fun σ' H' => ∃ G' n, 0 ≤ n ∧ n ≤ 2000 ∧ ST G H (DrA s).fp [] [.val (.ref s), .val (.int n), .any, .any, .any] [DrA s] G' σ' H') ?rest ?first
    case first =>
      intro J hJ
      walk_at "st"
      refine c_ite (fun _ => ?_) (fun _ => ?_)
      · walk_at "st"
        refine c_draw (by assumption) (by decide) (fun r3 G3 H3 h30 h31 S _ => ?_)
        walk_at "st"
        exact hJ _ _ ⟨G3, 120 + r3, by omega, by omega, ST.le (by assumption) (by walk_at "le")⟩
      · walk_at "st"
        refine c_ite (fun _ => ?_) (fun _ => ?_)
        · walk_at "st"
          refine c_draw (by assumption) (by decide) (fun r3 G3 H3 h30 h31 S _ => ?_)
          walk_at "st"
          exact hJ _ _ ⟨G3, 6 + r3, by omega, by omega, ST.le (by assumption) (by walk_at "le")⟩
        · walk_at "st"
          refine c_ite (fun _ => ?_) (fun _ => ?_)
          · walk_at "st"
            refine c_draw (by assumption) (by decide) (fun r3 G3 H3 h30 h31 S _ => ?_)
            walk_at "st"
            exact hJ _ _ ⟨G3, 301 + r3, by omega, by omega, ST.le (by assumption) (by walk_at "le")⟩
          · walk_at "st"
            exact hJ _ _ ⟨G2, r1, h10, by omega, ST.le (by assumption) (by walk_at "le")⟩
    case rest =>
      rintro σ3 H3 ⟨G3, n, hn0, hn1, S⟩
      walk_at "st"
      refine c_draw (by assumption) (by decide) (fun r4 G4 H4 h40 h41 S _ => ?_)
      walk_at "st"
      refine c_r1 (by omega) (by omega) ?_
      intro D hD
      refine c_compR (fun i acc => ∃ bs : List Int, bs.length = i ∧ (∀ b ∈ bs, 0 ≤ b ∧ b < 256) ∧ acc = bs.map .int) (by assumption) hD ⟨[], rfl, (fun _ h => nomatch h), rfl⟩ ?_ ?_
      · rintro i acc G' H' hi ⟨bs, hbl, hbb, rfl⟩ S
        have hi : i < 2000 := by omega
        refine c_setc S (fun S => ?_)
        refine ⟨by walk_at "wp", ?_⟩
        walk_at "st"
        refine iteT ?_
        walk_at "st"
        refine c_times (.inl ⟨by decide, by decide⟩) ?_
        walk_at "st"
        refine c_times (.inr ⟨by omega, by omega⟩) ?_
        walk_at "st"
        refine c_lcItem S (.int _) (by rw [List.length_map]; exact lt_sz (by omega)) (fun H6 S => ?_)
        refine ⟨G', _, ⟨bs ++ [(r4 + 41 * (0 + (i : Int)) * (0 + i)) % 256], by rw [List.length_append, hbl]; rfl, fun b hb => ?_, by rw [List.map_append]; rfl⟩, (S.wipe' (by walk_at "wp")).le (by walk_at "le")⟩
        rcases List.mem_append.mp hb with hb | hb
        · exact hbb b hb
        · rw [List.mem_singleton.mp hb]
          exact ⟨Int.emod_nonneg _ (by decide), Int.emod_lt_of_pos _ (by decide)⟩
      · rintro G' H' acc _ ⟨bs, hbl, hbb, rfl⟩ S q0
        obtain ⟨G5, S, hf, _⟩ := S.freeze q0
        exact ret_A S ⟨bs, rfl, by omega, hbb⟩ hf ret
theorem ok_l_bytes (T : Tx K mg) (c : He.SaysD fas fns K) (h_l_next : OkF P w K mg base CX0 ("_law_next", none) ["state", "limit"] 3 sp_next) : OkF P w K mg base CX0 ("_law_bytes", none) ["state"] 4 (spA R_bytes) := by
  obtain ⟨fd, F⟩ := c.def_ 17 (d := d_l_bytes) rfl
  exact ⟨fd, fo_l_bytes T F h_l_next, F.kp, F.bindsN fun _ _ _ _ _ _ us hl => match us, hl with | [_], _ => rfl⟩
end
def Byt (l : List Int) : Prop := ∀ b ∈ l, 0 ≤ b ∧ b < 256
theorem Byt.app {a b : List Int} (h : Byt a) (k : Byt b) : Byt (a ++ b) := fun x hx => (List.mem_append.mp hx).elim (h x) (k x)
theorem Byt.sub {a b : List Int} (h : Byt a) (k : ∀ x ∈ b, x ∈ a) : Byt b := fun x hx => h x (k x hx)
theorem recD_byt {r : List Int} (h : Byt r) : Byt (recD r) := by
  unfold recD
  exact ((show Byt _ from wNum_bytes _).app h).app (tail4_bytes _ (ck_range _))
theorem set_byt {l : List Int} {i : Nat} {x : Int} (h : Byt l) (hx : 0 ≤ x ∧ x < 256) : Byt (l.set i x) := fun b hb => by
  rcases List.mem_or_eq_of_mem_set hb with z | z
  · exact h b z
  · rw [z]; exact hx
def Behind (l : List Int) : Prop := Byt l ∧ l.length ≤ 5000 ∧ Stop l
def R_behind (ds : List PyData) (D : PyData → Prop) : Prop := ds = [] ∧ D = fun d => ∃ l : List Int, d = .list (l.map .int) ∧ Behind l
theorem other {o r : Int} (h0 : 0 ≤ o) (h1 : o < 256) (hr : 0 ≤ r) (hr2 : r < 255) : (0 ≤ (o + 1 + r) % 256 ∧ (o + 1 + r) % 256 < 256) ∧ (o + 1 + r) % 256 ≠ o := by omega
theorem byte_in {l : List Int} {i : Nat} (h : i < l.length) : (l.map PyData.int)[i]? = some (.int l[i]) := by simp [h]
theorem set_map {l : List Int} {i : Nat} {x : Int} (h : i < l.length) : (l.map PyData.int).take i ++ [.int x] ++ (l.map PyData.int).drop (i + 1) = (l.set i x).map .int := by
  rw [← set_split h, List.map_append, List.map_append, List.map_take, List.map_drop]
  rfl
theorem needless_ok {r u init : List Int} {last : Int} {n : Nat} (e : wNum r.length = init ++ [last]) (h : ∀ b ∈ init, 128 ≤ b) (h0 : 0 ≤ last) (hn : n ≤ 3) (hi : init.length ≤ 3) : Stop (init ++ ([last + 128] ++ List.replicate n 128 ++ [0]) ++ u) := by
  have e2 : init ++ ([last + 128] ++ List.replicate n 128 ++ [0]) ++ u = (init ++ ([last + 128] ++ List.replicate n 128)) ++ [0] ++ u := by simp
  rw [e2]
  refine stop_needless (fun b hb => ?_) (by simp) (by simp only [List.length_append, List.length_cons, List.length_nil, List.length_replicate]; omega)
  rcases List.mem_append.mp hb with z | z
  · exact h b z
  · rcases List.mem_append.mp z with z | z
    · rw [List.mem_singleton.mp z]; omega
    · rw [(List.mem_replicate.mp z).2]; omega
theorem recD_small {l : List Int} (h : l.length ≤ 2000) : (recD l).length ≤ 2010 := by
  have := (recD_len (bs := l) (by omega)).1
  omega
theorem rep_flat (n : Nat) : (List.replicate n [PyData.int 128]).flatten = (List.replicate n (128 : Int)).map .int := by
  induction n with
  | zero => rfl
  | succ n ih => rw [List.replicate_succ, List.replicate_succ, List.flatten_cons, ih]; rfl
section
variable {P : Program} {w : World} {K : PySem.W.Frag} {mg : Str → Option Value} {base : Heap}
theorem fo_l_behind (T : Tx K mg) {fd : FuncData} (F : FunD K "_law_behind" "_law_behind" (defArgs s_l_behind) (defBody s_l_behind) (defScope s_l_behind) [] [] (He.fAd K ("_law_behind", none)) fd) (h_l_bytes : OkF P w K mg base CX0 ("_law_bytes", none) ["state"] 4 (spA R_bytes)) (h_l_record : OkF P w K mg base CX0 ("_law_record", none) ["data"] 2 (spL R_rec)) (h_l_next : OkF P w K mg base CX0 ("_law_next", none) ["state", "limit"] 3 sp_next) (h_l_number : OkF P w K mg base CX0 ("_law_number", none) ["number"] 1 (spL R_wnum))  : FnOk P w K mg base CX0 5 (He.fAd K ("_law_behind", none)) fd ["state"] (spA R_behind) := by
  obtain ⟨fd_l_bytes, G_l_bytes, kp_l_bytes, b_l_bytes⟩ := h_l_bytes
  obtain ⟨fd_l_record, G_l_record, kp_l_record, b_l_record⟩ := h_l_record
  obtain ⟨fd_l_next, G_l_next, kp_l_next, b_l_next⟩ := h_l_next
  obtain ⟨fd_l_number, G_l_number, kp_l_number, b_l_number⟩ := h_l_number
  refine F.ok sc_l_behind (fun vs H Q E h => ?len) (fun cdv A outer s H vs Q E hr h => ?read)
  case len =>
    obtain ⟨G, s, rest, ds, D, rfl, _, _, hd, ⟨rfl, _⟩, _⟩ := h
    show rest.length + 1 = 1
    rw [da_len hd]; rfl
  case read =>
    refine ⟨_, PSs.nox (pss_cons (ps_set (i := 1) sc_l_behind.nd rfl (by first | exact Or.inl rfl | exact Or.inr rfl) (pe_call G_l_bytes (hr.mono (by decide)) (by rfl) T.g_l_bytes kp_l_bytes b_l_bytes .nil pass0 (pa_cons (pv 0) pa_nil)))
      (pss_cons (ps_set (i := 2) sc_l_behind.nd rfl (by first | exact Or.inl rfl | exact Or.inr rfl) (pe_call G_l_record (hr.mono (by decide)) (by rfl) T.g_l_record kp_l_record b_l_record .nil pass0 (pa_cons (pv 1) pa_nil)))
      (pss_cons (ps_set (i := 3) sc_l_behind.nd rfl (by first | exact Or.inl rfl | exact Or.inr rfl) (pe_ix ix_seq (pe_lst (pa_cons (pe_lst pa_nil) (pa_cons (pe_op op_plus (pe_call G_l_record (hr.mono (by decide)) (by rfl) T.g_l_record kp_l_record b_l_record .nil pass0 (pa_cons (pe_lst (pa_cons pe_int (pa_cons pe_int (pa_cons pe_int pa_nil)))) pa_nil)) (pe_call G_l_record (hr.mono (by decide)) (by rfl) T.g_l_record kp_l_record b_l_record .nil pass0 (pa_cons (pe_lst pa_nil) pa_nil))) pa_nil))) (pe_call G_l_next (hr.mono (by decide)) (by rfl) T.g_l_next kp_l_next b_l_next .nil pass0 (pa_cons (pv 0) (pa_cons pe_int pa_nil))) (fun _ _ => rfl)))
      (pss_cons (ps_set (i := 4) sc_l_behind.nd rfl (by first | exact Or.inl rfl | exact Or.inr rfl) (pe_call G_l_next (hr.mono (by decide)) (by rfl) T.g_l_next kp_l_next b_l_next .nil pass0 (pa_cons (pv 0) (pa_cons pe_int pa_nil))))
      (pss_cons (ps_if (pt_cmpR (op_same hr.units) (pv 4) pe_int (nomark _)) (pss_one (ps_ret (pe_lst pa_nil))) pss_nil)
      (pss_cons (ps_if (pt_cmpR (op_same hr.units) (pv 4) pe_int (nomark _)) (pss_one (ps_ret (pe_slice sl_any (pv 2) po_none (po_some (pe_call G_l_next (hr.mono (by decide)) (by rfl) T.g_l_next kp_l_next b_l_next .nil pass0 (pa_cons (pv 0) (pa_cons (pe_callB cl_len (by rfl) T.f_len (by decide +kernel) (pa_cons (pv 2) pa_nil)) pa_nil))))))) pss_nil)
      (pss_cons (ps_if (pt_cmpR (op_same hr.units) (pv 4) pe_int (nomark _)) (pss_cons (ps_set (i := 5) sc_l_behind.nd rfl (by first | exact Or.inl rfl | exact Or.inr rfl) (pe_op op_minus (pe_op op_minus (pe_callB cl_len (by rfl) T.f_len (by decide +kernel) (pa_cons (pv 2) pa_nil)) pe_int) (pe_call G_l_next (hr.mono (by decide)) (by rfl) T.g_l_next kp_l_next b_l_next .nil pass0 (pa_cons (pv 0) (pa_cons pe_int pa_nil)))))
      (pss_one (ps_ret (pe_op op_plus (pe_op op_plus (pe_op op_plus (pe_slice sl_any (pv 2) po_none (po_some (pv 5))) (pe_lst (pa_cons (pe_op op_rem (pe_op op_plus (pe_op op_plus (pe_ix ix_seq (pv 2) (pv 5) (fun _ _ => rfl)) pe_int) (pe_call G_l_next (hr.mono (by decide)) (by rfl) T.g_l_next kp_l_next b_l_next .nil pass0 (pa_cons (pv 0) (pa_cons pe_int pa_nil)))) pe_int) pa_nil))) (pe_slice sl_any (pv 2) (po_some (pe_op op_plus (pv 5) pe_int)) po_none)) (pv 3))))) pss_nil)
      (pss_cons (ps_if (PW.pt (pw_and (pt_cmpR (op_same hr.units) (pv 4) pe_int (nomark _)) (pw_and1 (pt_cmpR op_gtI (pe_callB cl_len (by rfl) T.f_len (by decide +kernel) (pa_cons (pv 1) pa_nil)) pe_int (nomark _))))) (pss_cons (ps_set (i := 5) sc_l_behind.nd rfl (by first | exact Or.inl rfl | exact Or.inr rfl) (pe_op op_minus (pe_op op_minus (pe_callB cl_len (by rfl) T.f_len (by decide +kernel) (pa_cons (pv 2) pa_nil)) pe_int) (pe_call G_l_next (hr.mono (by decide)) (by rfl) T.g_l_next kp_l_next b_l_next .nil pass0 (pa_cons (pv 0) (pa_cons (pe_callB cl_len (by rfl) T.f_len (by decide +kernel) (pa_cons (pv 1) pa_nil)) pa_nil)))))
      (pss_one (ps_ret (pe_op op_plus (pe_op op_plus (pe_op op_plus (pe_slice sl_any (pv 2) po_none (po_some (pv 5))) (pe_lst (pa_cons (pe_op op_rem (pe_op op_plus (pe_op op_plus (pe_ix ix_seq (pv 2) (pv 5) (fun _ _ => rfl)) pe_int) (pe_call G_l_next (hr.mono (by decide)) (by rfl) T.g_l_next kp_l_next b_l_next .nil pass0 (pa_cons (pv 0) (pa_cons pe_int pa_nil)))) pe_int) pa_nil))) (pe_slice sl_any (pv 2) (po_some (pe_op op_plus (pv 5) pe_int)) po_none)) (pv 3))))) pss_nil)
      (pss_cons (ps_set (i := 6) sc_l_behind.nd rfl (by first | exact Or.inl rfl | exact Or.inr rfl) (pe_call G_l_number (hr.mono (by decide)) (by rfl) T.g_l_number kp_l_number b_l_number .nil pass0 (pa_cons (pe_callB cl_len (by rfl) T.f_len (by decide +kernel) (pa_cons (pv 1) pa_nil)) pa_nil)))
      (pss_cons (ps_set (i := 7) sc_l_behind.nd rfl (by first | exact Or.inl rfl | exact Or.inr rfl) (pe_op op_plus (pe_op op_plus (pe_lst (pa_cons (pe_op op_plus (pe_ix ix_seq (pv 6) (pe_op op_minus (pe_callB cl_len (by rfl) T.f_len (by decide +kernel) (pa_cons (pv 6) pa_nil)) pe_int) (fun _ _ => rfl)) pe_int) pa_nil)) (pe_op op_times (pe_lst (pa_cons pe_int pa_nil)) (pe_call G_l_next (hr.mono (by decide)) (by rfl) T.g_l_next kp_l_next b_l_next .nil pass0 (pa_cons (pv 0) (pa_cons pe_int pa_nil))))) (pe_lst (pa_cons pe_int pa_nil))))
      (pss_one (ps_ret (pe_op op_plus (pe_op op_plus (pe_op op_plus (pe_slice sl_any (pv 6) po_none (po_some (pe_op op_minus (pe_callB cl_len (by rfl) T.f_len (by decide +kernel) (pa_cons (pv 6) pa_nil)) pe_int))) (pv 7)) (pe_slice sl_any (pv 2) (po_some (pe_callB cl_len (by rfl) T.f_len (by decide +kernel) (pa_cons (pv 6) pa_nil))) po_none)) (pv 3)))))))))))))), ?_⟩
    obtain ⟨G, s, rest, ds, D, rfl, s0, hA, hd, ⟨rfl, rfl⟩, ret⟩ := h
    cases da_nil hd
    have S : ST G H (DrA s).fp [] [.val (.ref s), .any, .any, .any, .any, .any, .any, .any] [DrA s] G (L2.start n_l_behind [.ref s]) H :=
      ST.start1 (N := n_l_behind) (ρ := [.val (.ref s)]) (A := DrA s) s0 ⟨rfl, True.intro⟩ hA
    walk_at "st"
    refine c_callA S .nil ⟨rfl, rfl⟩ (fun d x G1 H1 ⟨r, e, hr, hb⟩ S _ hx => ?_)
    subst e
    have hb : Byt r := hb
    refine c_setD S hx (fun σ1 S => ?_)
    walk_at "st"
    refine c_callLf S (by walk_at "da") ⟨r, rfl, by omega, rfl⟩ (fun v2 G2 H2 S _ hv2 => ?_)
    have hrl := recD_small hr
    have hrl5 := (recD_len (bs := r) (by omega)).2
    have hrb := recD_byt hb
    have hrlen := recD_length r
    refine c_setD S hv2 (fun σ2 S => ?_)
    walk_at "st"
    refine c_mkL S .nil (by decide) (fun v3 G3 H3 S _ hv3 => ?_)
    walk_at "st"
    refine c_mkL S (ds := ([1, 2, 3] : List Int).map .int) (da_of_ints [1, 2, 3]) (by show 3 ≤ sizeLine; decide) (fun v4 G4 H4 S g4 hv4 => ?_)
    walk_at "st"
    refine c_callLf S (.cons hv4 .nil) ⟨[1, 2, 3], rfl, by decide, rfl⟩ (fun v5 G5 H5 S g5 hv5 => ?_)
    walk_at "st"
    refine c_mkL S .nil (by decide) (fun v6 G6 H6 S g6 hv6 => ?_)
    walk_at "st"
    refine c_callLf S (.cons hv6 .nil) ⟨[], rfl, by decide, rfl⟩ (fun v7 G7 H7 S g7 hv7 => ?_)
    have fl : (recD [1, 2, 3] ++ recD []).length ≤ 4020 := by
      have h1 := recD_small (l := [1, 2, 3]) (by decide)
      have h2 := recD_small (l := []) (by decide)
      rw [List.length_append]; omega
    refine c_plusL ((hv5.mono g6.g).mono g7.g) hv7 S (by rw [← List.length_append, ← List.map_append, List.length_map]; exact le_sz (by omega)) (fun v8 G8 H8 S g8 hv8 => ?_)
    rw [← List.map_append] at hv8
    walk_at "st"
    refine c_mkL S (.cons (((((hv3.mono g4.g).mono g5.g).mono g6.g).mono g7.g).mono g8.g) (.cons hv8 .nil)) (by show 2 ≤ sizeLine; decide) (fun v9 G9 H9 S _ hv9 => ?_)
    walk_at "st"
    refine c_draw S (by decide) (fun r1 G10 H10 h10 h11 S sg => ?_)
    have hfu : ∃ fs : List Int, ([.list [], .list ((recD [1, 2, 3] ++ recD []).map .int)] : List PyData)[r1.toNat]? = some (.list (fs.map .int)) ∧ Byt fs ∧ fs.length ≤ 2000 := by
      have h1 : r1 = 0 ∨ r1 = 1 := by omega
      rcases h1 with rfl | rfl
      · exact ⟨[], rfl, (fun _ h => nomatch h), by decide⟩
      · refine ⟨_, rfl, (recD_byt ?_).app (recD_byt fun _ h => nomatch h), by decide +kernel⟩
        intro b hb
        simp only [List.mem_cons, List.not_mem_nil, or_false] at hb
        rcases hb with e | e | e <;> rw [e] <;> decide
    obtain ⟨fs, hfs, hfb, hfl⟩ := hfu
    refine c_ixL (k := r1.toNat) (hv9.mono sg) S.same hfs (.inl ⟨h10, rfl⟩) (fun w hw => ?_)
    refine c_setD S hw (fun σ3 S => ?_)
    walk_at "st"
    refine c_draw S (by decide) (fun pk G11 H11 hp0 hp1 S _ => ?_)
    -- one byte is another one
    walk_at "st"
    refine c_ite (fun _ => ?_) (fun _ => ?_)
    · walk_at "st"
      refine c_mkL (by assumption) .nil (by decide) (fun v12 G12 H12 S _ hv12 => ?_)
      exact ret_A S ⟨[], rfl, (fun _ h => nomatch h), by decide, stop_nil⟩ hv12 ret
    walk_at "st"
    refine c_ite (fun _ => ?_) (fun _ => ?_)
    · walk_at "st"
      rename_i ua hua ub hub
      rw [List.length_map]
      refine c_draw (by assumption) (by omega) (fun r2 G12 H12 h20 h21 S sg => ?_)
      walk_at "st"
      have e2 : r2 = ((r2.toNat : Nat) : Int) := by omega
      rw [e2]
      refine c_slL (lo := none) (hi := some ((r2.toNat : Nat) : Int)) (hua.mono sg) S (fun v13 G13 H13 S _ hv13 => ?_)
      rw [cutD_to, ← List.map_take] at hv13
      exact ret_A S ⟨_, rfl, hrb.sub fun _ h => List.mem_of_mem_take h, by rw [List.length_take]; omega, stop_cut (by omega) (by omega)⟩ hv13 ret
    walk_at "st"
    refine c_ite (fun _ => ?_) (fun _ => ?_)
    · walk_at "st"
      rename_i ua hua
      rw [List.length_map]
      walk_at "st"
      refine c_draw (by assumption) (by decide) (fun r2 G12 H12 h20 h21 S sg => ?_)
      walk_at "st"
      rename_i S ub hub
      obtain ⟨k, hk⟩ : ∃ k : Nat, ((recD r).length : Int) - 1 - r2 = (k : Int) := ⟨(((recD r).length : Int) - 1 - r2).toNat, by omega⟩
      have hkl : k < (recD r).length := by omega
      have hk4 : (recD r).length ≤ k + 4 := by omega
      rw [hk] at S ⊢
      refine c_slL (lo := none) (hi := some (k : Int)) hub S (fun v13 G13 H13 S _ hv13 => ?_)
      rw [cutD_to] at hv13
      walk_at "st"
      rename_i uc huc
      refine c_ixL (k := k) huc S.same (byte_in hkl) (.inl ⟨by omega, by omega⟩) (fun wb hwb => ?_)
      cases hwb
      walk_at "st"
      refine c_draw S (by decide) (fun r3 G14 H14 h30 h31 S sg14 => ?_)
      have hob := hrb _ (List.getElem_mem hkl)
      obtain ⟨hx, hne⟩ := other hob.1 hob.2 h30 h31
      walk_at "st"
      refine c_mkL S (.cons (.int (((recD r)[k] + 1 + r3) % 256)) .nil) (by show 1 ≤ sizeLine; decide) (fun v15 G15 H15 S g15 hv15 => ?_)
      refine c_plusL ((hv13.mono sg14).mono g15.g) hv15 S (by rw [List.length_take, List.length_map]; exact le_sz (by show _ + 1 ≤ _; omega)) (fun v16 G16 H16 S _ hv16 => ?_)
      walk_at "st"
      rename_i ud hud
      have ek : (k : Int) + 1 = ((k + 1 : Nat) : Int) := by omega
      rw [ek]
      refine c_slL (lo := some ((k + 1 : Nat) : Int)) (hi := none) hud S (fun v17 G17 H17 S g17 hv17 => ?_)
      rw [cutD_from] at hv17
      refine c_plusL (hv16.mono g17.g) hv17 S (by rw [List.length_append, List.length_take, List.length_drop, List.length_map]; exact le_sz (by show _ + 1 + _ ≤ _; omega)) (fun v18 G18 H18 S _ hv18 => ?_)
      rw [set_map hkl] at hv18
      walk_at "st"
      rename_i ue hue
      refine c_plusL hv18 hue S (by rw [List.length_map, List.length_set, List.length_map]; exact le_sz (by omega)) (fun v19 G19 H19 S _ hv19 => ?_)
      rw [← List.map_append] at hv19
      exact ret_A S ⟨_, rfl, (set_byt hrb hx).app hfb, by rw [List.length_append, List.length_set]; omega, stop_sum (by omega) hk4 hkl hne⟩ hv19 ret
    -- the data
    walk_at "sj"
    refine c_seqJ (fun σ' H' => ∃ G', ST G H (DrA s).fp [] [.val (.ref s), .dat (.list (r.map .int)), .dat (.list ((recD r).map .int)), .dat (.list (fs.map .int)), .any, .any, .any, .any] [DrA s] G' σ' H') ?rest ?first
    case first =>
      intro J hJ
      walk_at "st"
      refine c_ite (fun _ => ?_) (fun _ => ?_)
      · walk_at "st"
        rw [List.length_map]
        refine c_ite (fun hpos => ?_) (fun _ => ?_)
        · walk_at "st"
          rw [List.length_map]
          walk_at "st"
          rw [List.length_map]
          refine c_draw (by assumption) (by omega) (fun r2 G12 H12 h20 h21 S sg => ?_)
          walk_at "st"
          rename_i S ub hub
          obtain ⟨k, hk⟩ : ∃ k : Nat, ((recD r).length : Int) - 5 - r2 = (k : Int) := ⟨(((recD r).length : Int) - 5 - r2).toNat, by omega⟩
          have hkl : k < (recD r).length := by omega
          have hk4 : (wNum r.length).length ≤ k := by omega
          have hk5 : k < (wNum r.length).length + r.length := by omega
          rw [hk] at S ⊢
          refine c_slL (lo := none) (hi := some (k : Int)) hub S (fun v13 G13 H13 S _ hv13 => ?_)
          rw [cutD_to] at hv13
          walk_at "st"
          rename_i uc huc
          refine c_ixL (k := k) huc S.same (byte_in hkl) (.inl ⟨by omega, by omega⟩) (fun wb hwb => ?_)
          cases hwb
          walk_at "st"
          refine c_draw S (by decide) (fun r3 G14 H14 h30 h31 S sg14 => ?_)
          have hob := hrb _ (List.getElem_mem hkl)
          obtain ⟨hx, hne⟩ := other hob.1 hob.2 h30 h31
          walk_at "st"
          refine c_mkL S (.cons (.int (((recD r)[k] + 1 + r3) % 256)) .nil) (by show 1 ≤ sizeLine; decide) (fun v15 G15 H15 S g15 hv15 => ?_)
          refine c_plusL ((hv13.mono sg14).mono g15.g) hv15 S (by rw [List.length_take, List.length_map]; exact le_sz (by show _ + 1 ≤ _; omega)) (fun v16 G16 H16 S _ hv16 => ?_)
          walk_at "st"
          rename_i ud hud
          have ek : (k : Int) + 1 = ((k + 1 : Nat) : Int) := by omega
          rw [ek]
          refine c_slL (lo := some ((k + 1 : Nat) : Int)) (hi := none) hud S (fun v17 G17 H17 S g17 hv17 => ?_)
          rw [cutD_from] at hv17
          refine c_plusL (hv16.mono g17.g) hv17 S (by rw [List.length_append, List.length_take, List.length_drop, List.length_map]; exact le_sz (by show _ + 1 + _ ≤ _; omega)) (fun v18 G18 H18 S _ hv18 => ?_)
          rw [set_map hkl] at hv18
          walk_at "st"
          rename_i ue hue
          refine c_plusL hv18 hue S (by rw [List.length_map, List.length_set, List.length_map]; exact le_sz (by omega)) (fun v19 G19 H19 S _ hv19 => ?_)
          rw [← List.map_append] at hv19
          exact ret_A S ⟨_, rfl, (set_byt hrb hx).app hfb, by rw [List.length_append, List.length_set]; omega, stop_data hb (by omega) hk4 hk5 hkl hx hne⟩ hv19 ret
        · walk_at "st"
          exact hJ _ _ ⟨_, ST.le (by assumption) (by walk_at "le")⟩
      · refine iteF ?_
        walk_at "st"
        exact hJ _ _ ⟨_, ST.le (by assumption) (by walk_at "le")⟩
    case rest =>
      rintro σ12 H12 ⟨G12, S⟩
      obtain ⟨init, last, hw, hi128, hl0, hl1⟩ := wNum_split r.length
      have hn := num_small (show r.length ≤ 1000000 by omega)
      have hinit : (wNum r.length).length = init.length + 1 := by rw [hw, List.length_append]; rfl
      walk_at "st"
      rw [List.length_map]
      refine c_callLf S (.cons (.int _) .nil) ⟨r.length, rfl, by omega, rfl⟩ (fun v13 G13 H13 S _ hv13 => ?_)
      refine c_setD S hv13 (fun σ13 S => ?_)
      walk_at "st"
      rw [List.length_map]
      have el : ((wNum r.length).length : Int) - 1 = (init.length : Int) := by omega
      rename_i ua hua ub hub
      rw [el]
      refine c_ixL (k := init.length) (d := .int last) hua S.same (by rw [hw, List.getElem?_map, List.getElem?_append_right (Nat.le_refl _), Nat.sub_self]; rfl) (.inl ⟨by omega, by omega⟩) (fun wl hwl => ?_)
      cases hwl
      walk_at "st"
      refine c_mkL S (.cons (.int (last + 128)) .nil) (by show 1 ≤ sizeLine; decide) (fun v14 G14 H14 S _ hv14 => ?_)
      walk_at "st"
      refine c_mkL S (.cons (.int 128) .nil) (by show 1 ≤ sizeLine; decide) (fun v15 G15 H15 S g15 hv15 => ?_)
      walk_at "st"
      refine c_draw S (by decide) (fun r3 G16 H16 h30 h31 S sg16 => ?_)
      refine c_repL (hv15.mono sg16) S h30 (by omega) (by show 1 * _ ≤ sizeLine; exact le_sz (by omega)) (fun v17 G17 H17 S g17 hv17 => ?_)
      rw [rep_flat] at hv17
      refine c_plusL (((hv14.mono g15.g).mono sg16).mono g17.g) hv17 S (by rw [List.length_map, List.length_replicate]; exact le_sz (by show 1 + _ ≤ _; omega)) (fun v18 G18 H18 S _ hv18 => ?_)
      walk_at "st"
      refine c_mkL S (.cons (.int 0) .nil) (by show 1 ≤ sizeLine; decide) (fun v19 G19 H19 S g19 hv19 => ?_)
      refine c_plusL (hv18.mono g19.g) hv19 S (by rw [List.length_append, List.length_map, List.length_replicate]; exact le_sz (by show 1 + _ + 1 ≤ _; omega)) (fun v20 G20 H20 S _ hv20 => ?_)
      have e20 : [PyData.int (last + 128)] ++ (List.replicate r3.toNat (128 : Int)).map .int ++ [.int 0] = ([last + 128] ++ List.replicate r3.toNat 128 ++ [0]).map .int := by
        rw [List.map_append, List.map_append]; rfl
      rw [e20] at hv20
      refine c_setD S hv20 (fun σ20 S => ?_)
      walk_at "st"
      rw [List.length_map, el]
      rename_i uc huc ud hud
      refine c_slL (lo := none) (hi := some ((init.length : Nat) : Int)) huc S (fun v21 G21 H21 S g21 hv21 => ?_)
      rw [cutD_to, hw, ← List.map_take, List.take_left] at hv21
      walk_at "st"
      rename_i ue hue
      have hnl : ([last + 128] ++ List.replicate r3.toNat 128 ++ [0] : List Int).length ≤ 10 := by
        simp only [List.length_append, List.length_cons, List.length_nil, List.length_replicate]; omega
      refine c_plusL hv21 hue S (by rw [List.length_map, List.length_map]; exact le_sz (by omega)) (fun v22 G22 H22 S _ hv22 => ?_)
      rw [← List.map_append] at hv22
      walk_at "st"
      rename_i uf huf ug hug
      rw [List.length_map]
      refine c_slL (lo := some (((wNum r.length).length : Nat) : Int)) (hi := none) huf S (fun v23 G23 H23 S g23 hv23 => ?_)
      rw [cutD_from, ← List.map_drop] at hv23
      refine c_plusL (hv22.mono g23.g) hv23 S (by rw [List.length_map, List.length_map, List.length_append, List.length_drop]; exact le_sz (by omega)) (fun v24 G24 H24 S _ hv24 => ?_)
      rw [← List.map_append] at hv24
      walk_at "st"
      rename_i uh huh
      refine c_plusL hv24 huh S (by rw [List.length_map, List.length_map, List.length_append, List.length_append, List.length_drop]; exact le_sz (by omega)) (fun v25 G25 H25 S _ hv25 => ?_)
      rw [← List.map_append] at hv25
      have hib : Byt init := (show Byt (wNum r.length) from wNum_bytes _).sub fun x hx => by rw [hw]; exact List.mem_append_left _ hx
      refine ret_A S ⟨_, rfl, ((hib.app (Byt.app (Byt.app (fun b hb => ?_) (fun b hb => ?_)) (fun b hb => ?_))).app (hrb.sub fun _ h => List.mem_of_mem_drop h)).app hfb, ?_, ?_⟩ hv25 ret
      · rw [List.mem_singleton.mp hb]; omega
      · rw [(List.mem_replicate.mp hb).2]; decide
      · rw [List.mem_singleton.mp hb]; decide
      · rw [List.length_append, List.length_append, List.length_append, List.length_drop]; omega
      · rw [List.append_assoc]
        exact needless_ok hw hi128 hl0 (by omega) (by omega)
theorem ok_l_behind (T : Tx K mg) (c : He.SaysD fas fns K) (h_l_bytes : OkF P w K mg base CX0 ("_law_bytes", none) ["state"] 4 (spA R_bytes)) (h_l_record : OkF P w K mg base CX0 ("_law_record", none) ["data"] 2 (spL R_rec)) (h_l_next : OkF P w K mg base CX0 ("_law_next", none) ["state", "limit"] 3 sp_next) (h_l_number : OkF P w K mg base CX0 ("_law_number", none) ["number"] 1 (spL R_wnum)) : OkF P w K mg base CX0 ("_law_behind", none) ["state"] 5 (spA R_behind) := by
  obtain ⟨fd, F⟩ := c.def_ 18 (d := d_l_behind) rfl
  exact ⟨fd, fo_l_behind T F h_l_bytes h_l_record h_l_next h_l_number, F.kp, F.bindsN fun _ _ _ _ _ _ us hl => match us, hl with | [_], _ => rfl⟩
end
def RecsOk (rs : List (List Int)) : Prop := ∀ r ∈ rs, r.length ≤ 2000 ∧ Byt r
theorem RecsOk.small {rs : List (List Int)} (h : RecsOk rs) : ∀ r ∈ rs, r.length ≤ 900000 := fun r hr => by have := (h r hr).1; omega
theorem RecsOk.take {rs : List (List Int)} (h : RecsOk rs) (n : Nat) : RecsOk (rs.take n) := fun r hr => h r (List.mem_of_mem_take hr)
theorem flat_le : ∀ {rs : List (List Int)}, RecsOk rs → (flat rs).length ≤ 2010 * rs.length
  | [], _ => Nat.le_refl _
  | r :: rs, h => by
    have h1 := recD_small (h r (List.mem_cons_self ..)).1
    have h2 := flat_le (rs := rs) fun x hx => h x (List.mem_cons_of_mem _ hx)
    rw [flat_cons, List.length_append, List.length_cons]
    omega
theorem flat_byt : ∀ {rs : List (List Int)}, RecsOk rs → Byt (flat rs)
  | [], _ => fun _ h => nomatch h
  | r :: rs, h => by
    rw [flat_cons]
    exact (recD_byt (h r (List.mem_cons_self ..)).2).app (flat_byt fun x hx => h x (List.mem_cons_of_mem _ hx))
def natI (n : Nat) : PyData := .int (n : Int)
theorem fits_rr {n : Nat} {rs : List (List Int)} {k : Nat} (h : RecsOk rs) (hl : rs.length ≤ 1000) : fits (n + 3) (rrD (rs, k)) := by
  refine ⟨by show 2 < 2 ^ 60; decide, fun d hd => ?_⟩
  rcases List.mem_cons.mp hd with rfl | hd
  · refine ⟨by rw [List.length_map]; exact Nat.lt_of_le_of_lt hl (by decide), fun x hx => ?_⟩
    obtain ⟨r, hr, rfl⟩ := List.mem_map.mp hx
    exact fits_ints (Nat.lt_of_le_of_lt (h r hr).1 (by decide))
  · rw [List.mem_singleton.mp hd]; exact fits_int
theorem recD_nil : recD [] = [0, 0, 0, 0, 7] := by
  unfold recD
  rw [show ([] : List Int).length = 0 from rfl, wNum_lo (by decide)]
  rfl
theorem reads_nil : reads [] = ([], 0) := reads_flat (rs := []) (rest := []) (fun _ h => nomatch h) stop_nil
def sp_law (K : PySem.W.Frag) : Sp := fun vs H Q _ => ∃ (a : Addr) (ns : List Int), vs = [.ref a] ∧ SqL K H a (ns.map V.int) ∧ ns.length ≤ 63 ∧ (∀ z ∈ ns, Builtin.Int.intBits z ≤ 1048576) ∧ ∀ H', Q (.bl true) H'
section
variable {P : Program} {w : World} {K : PySem.W.Frag} {mg : Str → Option Value} {base : Heap}
theorem fo_law (T : Tx K mg) {fd : FuncData} (F : FunD K "law" "law" (defArgs s_law) (defBody s_law) (defScope s_law) [] [] (He.fAd K ("law", none)) fd) (h_l_draws : OkF P w K mg base CX0 ("_law_draws", none) ["script"] 2 (sp_draws K)) (h_l_next : OkF P w K mg base CX0 ("_law_next", none) ["state", "limit"] 3 sp_next) (h_l_bytes : OkF P w K mg base CX0 ("_law_bytes", none) ["state"] 4 (spA R_bytes)) (h_l_same : OkF P w K mg base CX0 ("_law_same", none) ["actual", "expected"] 9 (sp_same 8)) (h_l_record : OkF P w K mg base CX0 ("_law_record", none) ["data"] 2 (spL R_rec)) (h_write_record : OkF P w K mg base CX0 ("write_record", none) ["data"] 2 (spL R_rec)) (h_l_checksum : OkF P w K mg base CX0 ("_law_checksum", none) ["data"] 1 (spP R_ck)) (h_checksum : OkF P w K mg base CX0 ("checksum", none) ["data"] 1 (spP R_ck)) (h_l_behind : OkF P w K mg base CX0 ("_law_behind", none) ["state"] 5 (spA R_behind)) (h_read_records : OkF P w K mg base CX0 ("read_records", none) ["data"] 4 (spP R_read))  : FnOk P w K mg base CX0 10 (He.fAd K ("law", none)) fd ["script"] (sp_law K) := by
  obtain ⟨fd_l_draws, G_l_draws, kp_l_draws, b_l_draws⟩ := h_l_draws
  obtain ⟨fd_l_next, G_l_next, kp_l_next, b_l_next⟩ := h_l_next
  obtain ⟨fd_l_bytes, G_l_bytes, kp_l_bytes, b_l_bytes⟩ := h_l_bytes
  obtain ⟨fd_l_same, G_l_same, kp_l_same, b_l_same⟩ := h_l_same
  obtain ⟨fd_l_record, G_l_record, kp_l_record, b_l_record⟩ := h_l_record
  obtain ⟨fd_write_record, G_write_record, kp_write_record, b_write_record⟩ := h_write_record
  obtain ⟨fd_l_checksum, G_l_checksum, kp_l_checksum, b_l_checksum⟩ := h_l_checksum
  obtain ⟨fd_checksum, G_checksum, kp_checksum, b_checksum⟩ := h_checksum
  obtain ⟨fd_l_behind, G_l_behind, kp_l_behind, b_l_behind⟩ := h_l_behind
  obtain ⟨fd_read_records, G_read_records, kp_read_records, b_read_records⟩ := h_read_records
  refine F.ok sc_law (fun vs H Q E h => ?len) (fun cdv A outer s H vs Q E hr h => ?read)
  case len =>
    obtain ⟨a, ns, rfl, _⟩ := h
    rfl
  case read =>
    refine ⟨_, PSs.nox (pss_cons (ps_set (i := 1) sc_law.nd rfl (by first | exact Or.inl rfl | exact Or.inr rfl) (pe_lst (pa_cons (pe_call G_l_draws (hr.mono (by decide)) (by rfl) T.g_l_draws kp_l_draws b_l_draws .nil pass0 (pa_cons (pv 0) pa_nil)) (pa_cons pe_int pa_nil))))
      (pss_cons (ps_setLc (i := 2) (own := [("k", 3)]) (g := gName 3) (tt := tYes) rfl sc_law.nd rfl rfl (sw_true rfl rfl rfl (by decide +kernel)) (pi_range1 (by rfl) T.f_range (pa_cons (pe_call G_l_next (hr.mono (by decide)) (by rfl) T.g_l_next kp_l_next b_l_next .nil pass0 (pa_cons (pv 1) (pa_cons pe_int pa_nil))) pa_nil)) (blkOk_by (own := [("k", 3)]) (N := n_law) (sc := defScope s_law) (by decide +kernel)) (fun _ _ _ _ _ => (pg_name (i := 3) sc_law.nd rfl (by first | exact Or.inl rfl | exact Or.inr rfl))) (fun _ _ _ _ _ => pts_nil) (fun _ _ _ _ _ => (pe_call G_l_bytes (hr.mono (by decide)) (by rfl) T.g_l_bytes kp_l_bytes b_l_bytes .nil pass0 (pa_cons (pv 1) pa_nil))))
      (pss_cons (ps_set (i := 4) sc_law.nd rfl (by first | exact Or.inl rfl | exact Or.inr rfl) (pe_lst pa_nil))
      (pss_cons (ps_set (i := 5) sc_law.nd rfl (by first | exact Or.inl rfl | exact Or.inr rfl) (pe_lst (pa_cons pe_int pa_nil)))
      (pss_cons (ps_for PassesOwn.never rfl (pi_list (pv 2)) (pg_name (i := 6) sc_law.nd rfl (by first | exact Or.inl rfl | exact Or.inr rfl))
      (pss_cons (ps_set (i := 7) sc_law.nd rfl (by first | exact Or.inl rfl | exact Or.inr rfl) (pe_callTy cl_list (by rfl) T.f_list (by decide +kernel) (pa_cons (pv 6) pa_nil)))
      (pss_cons (ps_if (PW.pt (pw_or (pt_not (pt_val (pe_call G_l_same (hr.mono (by decide)) (by rfl) T.g_l_same kp_l_same b_l_same .nil pass0 (pa_cons (pe_call G_checksum (hr.mono (by decide)) (by rfl) T.g_checksum kp_checksum b_checksum .nil pass0 (pa_cons (pv 7) pa_nil)) (pa_cons (pe_call G_l_checksum (hr.mono (by decide)) (by rfl) T.g_l_checksum kp_l_checksum b_l_checksum .nil pass0 (pa_cons (pv 6) pa_nil)) pa_nil))))) (pw_or1 (pt_not (pt_val (pe_call G_l_same (hr.mono (by decide)) (by rfl) T.g_l_same kp_l_same b_l_same .nil pass0 (pa_cons (pe_call G_write_record (hr.mono (by decide)) (by rfl) T.g_write_record kp_write_record b_write_record .nil pass0 (pa_cons (pv 7) pa_nil)) (pa_cons (pe_call G_l_record (hr.mono (by decide)) (by rfl) T.g_l_record kp_l_record b_l_record .nil pass0 (pa_cons (pv 6) pa_nil)) pa_nil)))))))) (pss_one (ps_ret pe_bl)) pss_nil)
      (pss_cons (ps_if (pt_cmpR (op_diff hr.units) (pv 7) (pv 6) (nomark _)) (pss_one (ps_ret pe_bl)) pss_nil)
      (pss_cons (ps_set (i := 4) sc_law.nd rfl (by first | exact Or.inl rfl | exact Or.inr rfl) (pe_op op_plus (pv 4) (pe_call G_l_record (hr.mono (by decide)) (by rfl) T.g_l_record kp_l_record b_l_record .nil pass0 (pa_cons (pv 6) pa_nil))))
      (pss_one (ps_expr (pe_bm PySem.F.plainAttrs_list PySem.F.slot_list_append PySem.F.type_list_append mt_append (pv 5) (pa_cons (pe_callB cl_len (by rfl) T.f_len (by decide +kernel) (pa_cons (pv 4) pa_nil)) pa_nil)))))))))
      (pss_cons (ps_set (i := 8) sc_law.nd rfl (by first | exact Or.inl rfl | exact Or.inr rfl) (pe_op op_plus (pv 4) (pe_call G_l_behind (hr.mono (by decide)) (by rfl) T.g_l_behind kp_l_behind b_l_behind .nil pass0 (pa_cons (pv 1) pa_nil))))
      (pss_cons (ps_set (i := 7) sc_law.nd rfl (by first | exact Or.inl rfl | exact Or.inr rfl) (pe_callTy cl_list (by rfl) T.f_list (by decide +kernel) (pa_cons (pv 8) pa_nil)))
      (pss_cons (ps_if (PW.pt (pw_or (pt_not (pt_val (pe_call G_l_same (hr.mono (by decide)) (by rfl) T.g_l_same kp_l_same b_l_same .nil pass0 (pa_cons (pe_call G_read_records (hr.mono (by decide)) (by rfl) T.g_read_records kp_read_records b_read_records .nil pass0 (pa_cons (pv 7) pa_nil)) (pa_cons (pe_tup (pa_cons (pv 2) (pa_cons (pe_callB cl_len (by rfl) T.f_len (by decide +kernel) (pa_cons (pv 4) pa_nil)) pa_nil))) pa_nil))))) (pw_or1 (pt_cmpR (op_diff hr.units) (pv 7) (pv 8) (nomark _))))) (pss_one (ps_ret pe_bl)) pss_nil)
      (pss_cons (ps_for PassesOwn.never rfl (pi_range1 (by rfl) T.f_range (pa_cons pe_int pa_nil)) (pg_name (i := 3) sc_law.nd rfl (by first | exact Or.inl rfl | exact Or.inr rfl))
      (pss_cons (ps_set (i := 9) sc_law.nd rfl (by first | exact Or.inl rfl | exact Or.inr rfl) (pe_call G_l_next (hr.mono (by decide)) (by rfl) T.g_l_next kp_l_next b_l_next .nil pass0 (pa_cons (pv 1) (pa_cons (pe_op op_plus (pe_callB cl_len (by rfl) T.f_len (by decide +kernel) (pa_cons (pv 4) pa_nil)) pe_int) pa_nil))))
      (pss_cons (ps_set (i := 10) sc_law.nd rfl (by first | exact Or.inl rfl | exact Or.inr rfl) (pe_op op_minus (pe_callB cl_len (by rfl) T.f_len (by decide +kernel) (pa_cons (pe_lc (own := [("size", 11)]) (g := gName 11) rfl sc_law.nd (pi_list (pv 5)) (blkOk_by (own := [("size", 11)]) (N := n_law) (sc := defScope s_law) (by decide +kernel)) (fun _ _ _ _ _ => (pg_name (i := 11) sc_law.nd rfl (by first | exact Or.inl rfl | exact Or.inr rfl))) (fun _ _ _ _ _ => pts_one (pt_cmpR op_leI (pv 11) (pv 9) (nomark _))) (fun _ _ _ _ _ => (pv 11))) pa_nil)) pe_int))
      (pss_cons (ps_set (i := 7) sc_law.nd rfl (by first | exact Or.inl rfl | exact Or.inr rfl) (pe_slice sl_any (pv 4) po_none (po_some (pv 9))))
      (pss_one (ps_if (PW.pt (pw_or (pt_not (pt_val (pe_call G_l_same (hr.mono (by decide)) (by rfl) T.g_l_same kp_l_same b_l_same .nil pass0 (pa_cons (pe_call G_read_records (hr.mono (by decide)) (by rfl) T.g_read_records kp_read_records b_read_records .nil pass0 (pa_cons (pv 7) pa_nil)) (pa_cons (pe_tup (pa_cons (pe_slice sl_any (pv 2) po_none (po_some (pv 10))) (pa_cons (pe_ix ix_seq (pv 5) (pv 10) (fun _ _ => rfl)) pa_nil))) pa_nil))))) (pw_or1 (pt_cmpR (op_diff hr.units) (pv 7) (pe_slice sl_any (pv 4) po_none (po_some (pv 9))) (nomark _))))) (pss_one (ps_ret pe_bl)) pss_nil))))))
      (pss_one (ps_ret (pe_and (pe_call G_l_same (hr.mono (by decide)) (by rfl) T.g_l_same kp_l_same b_l_same .nil pass0 (pa_cons (pe_call G_read_records (hr.mono (by decide)) (by rfl) T.g_read_records kp_read_records b_read_records .nil pass0 (pa_cons (pe_lst pa_nil) pa_nil)) (pa_cons (pe_tup (pa_cons (pe_lst pa_nil) (pa_cons pe_int pa_nil))) pa_nil))) (pe_one (pe_call G_l_same (hr.mono (by decide)) (by rfl) T.g_l_same kp_l_same b_l_same .nil pass0 (pa_cons (pe_call G_write_record (hr.mono (by decide)) (by rfl) T.g_write_record kp_write_record b_write_record .nil pass0 (pa_cons (pe_lst pa_nil) pa_nil)) (pa_cons (pe_lst (pa_cons pe_int (pa_cons pe_int (pa_cons pe_int (pa_cons pe_int (pa_cons pe_int pa_nil)))))) pa_nil)))))))))))))))), ?_⟩
    obtain ⟨a, ns, rfl, hq, hl, _, ret⟩ := h
    have S : ST (fun _ => none) H NoL [] [.val (.ref a), .any, .any, .any, .any, .any, .any, .any, .any, .any, .any, .any] [] (fun _ => none) (L2.start n_law [.ref a]) H := ST.startV (N := n_law) (vs := [.ref a]) (ρ := [.val (.ref a)]) (fun _ _ h => nomatch h) ⟨rfl, True.intro⟩
    walk_at "st"
    refine ⟨_, a, ns, rfl, S.same, hq, hl, fun v G1 H1 ms g hv hm => ?_⟩
    have S := S.grow g
    walk_at "st"
    refine c_newL S (.cons hv (.cons (.int 20) .nil)) (by show 2 ≤ sizeLine; decide) (fun st H2 S st0 _ => ?_)
    have S : ST (fun _ => none) H NoL [] _ [DrA st] G1 _ H2 := S.step (Gx.rfl' S.same) ⟨ms, 20, hm, by decide, S.head⟩ fun b hb => ⟨.inl hb, (S.hfp hb).1, (S.hfp hb).2.1⟩
    refine c_set S (fun σ2 S => ?_)
    walk_at "st"
    refine c_draw S (by decide) (fun r0 G3 H3 h00 h01 S _ => ?_)
    walk_at "st"
    refine c_r1 (by omega) (by omega) ?_
    intro D hD
    refine c_compR (fun i acc => ∃ rs : List (List Int), rs.length = i ∧ RecsOk rs ∧ acc = rs.map rlD) S hD ⟨[], rfl, (fun _ h => nomatch h), rfl⟩ ?_ ?_
    · rintro i acc G' H' hi ⟨rs, hrl, hrs, rfl⟩ S
      have hi : i < 11 := by omega
      refine c_setc S (fun S => ?_)
      refine ⟨by walk_at "wp", ?_⟩
      walk_at "st"
      refine iteT ?_
      walk_at "st"
      refine c_callA S.swap .nil ⟨rfl, rfl⟩ (fun d x G4 H4 ⟨r, e, hr, hb⟩ S _ hx => ?_)
      subst e
      refine c_lcItem S.swap hx (by rw [List.length_map]; exact lt_sz (by omega)) (fun H6 S => ?_)
      refine ⟨G4, _, ⟨rs ++ [r], by rw [List.length_append, hrl]; rfl, fun x hx => ?_, by rw [List.map_append]; rfl⟩, (S.wipe' (by walk_at "wp")).le (by walk_at "le")⟩
      rcases List.mem_append.mp hx with h | h
      · exact hrs x h
      · rw [List.mem_singleton.mp h]; exact ⟨hr, hb⟩
    rintro G4 H4 acc _ ⟨rs, hrl, hrs, rfl⟩ S q0
    have hrl : rs.length ≤ 10 := by omega
    obtain ⟨G5, S, hf, _⟩ := S.freeze q0
    refine c_setD S hf (fun σ3 S => ?_)
    walk_at "st"
    refine c_mkL S .nil (by decide) (fun v6 G6 H6 S _ hv6 => ?_)
    refine c_setD S hv6 (fun σ4 S => ?_)
    walk_at "st"
    refine c_newL S (.cons (.int 0) .nil) (by show 1 ≤ sizeLine; decide) (fun q H7 S q0 _ => ?_)
    refine c_set S (fun σ5 S => ?_)
    walk_at "st"
    rename_i u hu
    refine c_forL (fun i G' σ' H' => ST (fun _ => none) H NoL [pD u (.list (rs.map rlD))] [.any, .val (.ref st), .dat (.list (rs.map rlD)), .any, .dat (.list ((flat (rs.take i)).map .int)), .val (.ref q), .any, .any, .any, .any, .any, .any]
        [As.lst q ((szs 0 (rs.take i)).map natI), DrA st] G' σ' H') hu ((S.pinned hu).le (by walk_at "le")) (fun i G' σ' H' S => ⟨S.pin0, S.same⟩) ?_ ?_
    · rintro i d y G' σ' H' hd hy S
      rw [List.getElem?_map] at hd
      obtain ⟨r, hr, rfl⟩ := Option.map_eq_some_iff.mp hd
      have hi : i < rs.length := (List.getElem?_eq_some_iff.mp hr).1
      have hmem : r ∈ rs := List.mem_of_getElem? hr
      obtain ⟨hr2, hrb⟩ := hrs r hmem
      have hy : Da G' y (.list (r.map .int)) := hy
      have ht : rs.take (i + 1) = rs.take i ++ [r] := by rw [List.take_add_one, hr]; rfl
      have hfl := flat_le (hrs.take (i + 1))
      rw [List.length_take] at hfl
      have hrec := recD_small hr2
      refine c_setD S hy (fun σ6 S => ?_)
      walk_at "st"
      rename_i ua hua
      refine c_listLf hua S (fun v8 G8 H8 S _ hv8 => ?_)
      refine c_setD S hv8 (fun σ7 S => ?_)
      walk_at "st"
      refine c_callP S (.cons (by assumption) .nil) ⟨r, rfl, rfl⟩ (fun v9 G9 H9 S _ hv9 => ?_)
      cases hv9
      walk_at "st"
      refine c_callP S (.cons (by assumption) .nil) ⟨r, rfl, rfl⟩ (fun v10 G10 H10 S _ hv10 => ?_)
      cases hv10
      walk_at "st"
      refine c_callP S (.cons (.int _) (.cons (.int _) .nil)) ⟨7, _, rfl, rfl, fits_int, rfl⟩ (fun v11 G11 H11 S _ hv11 => ?_)
      cases hv11
      walk_at "st"
      refine iteF ?_
      walk_at "st"
      refine c_callLf S (.cons (by assumption) .nil) ⟨r, rfl, by omega, rfl⟩ (fun v12 G12 H12 S _ hv12 => ?_)
      walk_at "st"
      rename_i ub hub
      refine c_callLf S (.cons hub .nil) ⟨r, rfl, by omega, rfl⟩ (fun v13 G13 H13 S g13 hv13 => ?_)
      walk_at "st"
      refine c_callP S (.cons (hv12.mono g13.g) (.cons hv13 .nil)) ⟨7, _, rfl, rfl, fits_ints (Nat.lt_of_le_of_lt hrec (by decide)), rfl⟩ (fun v14 G14 H14 S _ hv14 => ?_)
      cases hv14
      walk_at "st"
      refine iteF ?_
      walk_at "st"
      rename_i uc huc ud hud
      refine c_diffEq huc hud S.same (shaped_ints _) ?_
      walk_at "st"
      refine iteF ?_
      walk_at "st"
      rename_i ue hue uf huf
      refine c_callLf S (.cons huf .nil) ⟨r, rfl, by omega, rfl⟩ (fun v15 G15 H15 S g15 hv15 => ?_)
      rw [ht, flat_snoc, List.length_append] at hfl
      refine c_plusL (hue.mono g15.g) hv15 S (by rw [List.length_map, List.length_map]; exact le_sz (by omega)) (fun v16 G16 H16 S _ hv16 => ?_)
      rw [← List.map_append, ← flat_snoc, ← ht] at hv16
      refine c_setD S hv16 (fun σ8 S => ?_)
      walk_at "st"
      refine ⟨c_tyM S, ?_⟩
      walk_at "st"
      rw [List.length_map]
      refine c_append S (.int _) (by rw [List.length_map, szs_len, List.length_take]; exact lt_sz (by omega)) (fun H17 S => ?_)
      refine ⟨G16, ?_⟩
      have e2 : (szs 0 (rs.take (i + 1))).map natI = (szs 0 (rs.take i)).map natI ++ [.int (flat (rs.take (i + 1))).length] := by
        rw [ht, szs_snoc, List.map_append, flat_snoc, List.length_append, Nat.zero_add]
        rfl
      rw [e2]
      exact S.le (by walk_at "le")
    · rintro G8 σ8 H8 S
      rw [List.length_map, List.take_length] at S
      have S := S.unpin.swap
      have hfl := flat_le hrs
      have hfb := flat_byt hrs
      walk_at "st"
      rename_i ua hua
      refine c_callA S .nil ⟨rfl, rfl⟩ (fun d x G9 H9 ⟨bh, e, hbh⟩ S sg hx => ?_)
      subst e
      obtain ⟨hbb, hbl, hst⟩ := hbh
      refine c_plusL (hua.mono sg) hx S (by rw [List.length_map, List.length_map]; exact le_sz (by omega)) (fun v10 G10 H10 S _ hv10 => ?_)
      rw [← List.map_append] at hv10
      refine c_setD S hv10 (fun σ9 S => ?_)
      walk_at "st"
      rename_i ub hub
      refine c_listLf hub S (fun v11 G11 H11 S _ hv11 => ?_)
      refine c_setD S hv11 (fun σ10 S => ?_)
      walk_at "st"
      rename_i uc huc
      refine c_callP S (.cons huc .nil) ⟨_, rfl, ⟨by rw [List.length_append]; omega, hfb.app hbb⟩, by rw [List.length_append]; omega, rfl⟩ (fun v12 G12 H12 S _ hv12 => ?_)
      rw [reads_flat hrs.small hst] at hv12
      walk_at "st"
      rename_i ud hud ue hue
      rw [List.length_map]
      refine c_mkT S (.cons hud (.cons (.int _) .nil)) (by show 2 ≤ sizeLine; decide) (fun v13 G13 H13 S g13 hv13 => ?_)
      walk_at "st"
      refine c_callP S (.cons (hv12.mono g13.g) (.cons hv13 .nil)) ⟨7, _, rfl, rfl, fits_rr hrs (by omega), rfl⟩ (fun v14 G14 H14 S _ hv14 => ?_)
      cases hv14
      walk_at "st"
      refine iteF ?_
      walk_at "st"
      rename_i uf huf ug hug
      refine c_diffEq huf hug S.same (shaped_ints _) ?_
      walk_at "st"
      refine iteF ?_
      obtain ⟨G15, S, hsz, _⟩ := S.swap.freeze q0
      have S := S.pinned hsz
      walk_at "st"
      refine c_r1 (by decide) (by decide) ?_
      refine c_forR (fun i G' σ' H' => ST (fun _ => none) H NoL [pD (.ref q) (.list ((szs 0 rs).map natI))] [.any, .val (.ref st), .dat (.list (rs.map rlD)), .any, .dat (.list ((flat rs).map .int)), .val (.ref q), .any, .any, .any, .any, .any, .any]
        [DrA st] G' σ' H') (S.le (by walk_at "le")) ?_ ?_
      · rintro i G' σ' H' hi S
        walk_at "st"
        rename_i S ua hua
        rw [List.length_map]
        refine c_draw S (by omega) (fun e G16 H16 he0 he1 S _ => ?_)
        obtain ⟨c, part, k1, k2, k3, k4, k5⟩ := cut_ok rs 0 e.toNat hrs.small (Nat.zero_le _) (by omega)
        have ee : e = ((e.toNat : Nat) : Int) := by omega
        walk_at "st"
        refine c_iL (ds := (szs 0 rs).map natI) (ST.pin0 (by assumption)) (ST.same (by assumption)) (fun aq eq => ?_)
        cases eq
        intro D2 hD2
        refine c_compL (fun i acc => acc = (((szs 0 rs).take i).filter fun x => decide (x ≤ e.toNat)).map natI) (by assumption) (ST.pin0 (by assumption)) hD2 rfl ?_ ?_
        · rintro i d y acc G' H' hd hy rfl S
          rw [List.getElem?_map] at hd
          obtain ⟨z, hz, rfl⟩ := Option.map_eq_some_iff.mp hd
          cases hy
          refine c_setc S (fun S => ?_)
          refine ⟨by walk_at "wp", ?_⟩
          walk_at "st"
          refine c_ite (fun hle => ?_) (fun hle => ?_)
          · walk_at "st"
            refine c_lcItem S (.int _) (by rw [List.length_map]; exact lt_sz (Nat.le_trans (List.length_filter_le _ _) (by rw [List.length_take, szs_len]; omega))) (fun H6 S => ?_)
            refine ⟨G', _, ?_, (S.wipe' (by walk_at "wp")).le (by walk_at "le")⟩
            rw [List.take_add_one, hz, List.filter_append, List.map_append]
            show _ = _ ++ ([z].filter _).map natI
            rw [List.filter_cons_of_pos (by simp; omega)]
            rfl
          · refine ⟨G', _, ?_, (S.wipe' (by walk_at "wp")).le (by walk_at "le")⟩
            rw [List.take_add_one, hz, List.filter_append]
            show _ = (_ ++ [z].filter _).map natI
            rw [List.filter_cons_of_neg (by simp; omega)]
            show _ = (_ ++ []).map natI
            rw [List.append_nil]
        · rintro G17 H17 acc _ hacc S q1
          rw [List.length_map, List.take_length] at hacc
          subst hacc
          obtain ⟨G18, S, hf2, _⟩ := S.freeze q1
          walk_at "st"
          have ec : ((c + 1 : Nat) : Int) - 1 = (c : Int) := by omega
          rename_i S ub hub
          rw [List.length_map, k1, ec] at S
          rw [ee]
          have k4 : (flat rs).take e.toNat = flat (rs.take c) ++ part := k4
          refine c_slL (lo := none) (hi := some ((e.toNat : Nat) : Int)) hub S (fun v19 G19 H19 S _ hv19 => ?_)
          rw [cutD_to, ← List.map_take, k4] at hv19
          refine c_setD S hv19 (fun σ19 S => ?_)
          walk_at "st"
          rename_i uc huc
          have hpl : (flat (rs.take c) ++ part).length ≤ 900000 := by rw [← k4, List.length_take]; omega
          refine c_callP S (.cons huc .nil) ⟨_, rfl, ⟨by omega, by rw [← k4]; exact hfb.sub fun _ h => List.mem_of_mem_take h⟩, hpl, rfl⟩ (fun v20 G20 H20 S _ hv20 => ?_)
          rw [reads_flat (hrs.take c).small k5] at hv20
          walk_at "st"
          rename_i ud hud
          refine c_slL (lo := none) (hi := some ((c : Nat) : Int)) hud S (fun v21 G21 H21 S g21 hv21 => ?_)
          rw [cutD_to, ← List.map_take] at hv21
          walk_at "st"
          rw [Nat.zero_add] at k3
          refine c_ixL (k := c) (d := natI (flat (rs.take c)).length) S.pin0 S.same (by rw [List.getElem?_map, k3]; rfl) (.inl ⟨by omega, by omega⟩) (fun w hw => ?_)
          cases hw
          walk_at "st"
          refine c_mkT S (.cons hv21 (.cons (.int _) .nil)) (by show 2 ≤ sizeLine; decide) (fun v22 G22 H22 S g22 hv22 => ?_)
          walk_at "st"
          refine c_callP S (.cons ((hv20.mono g21.g).mono g22.g) (.cons hv22 .nil)) ⟨7, _, rfl, rfl, fits_rr (hrs.take c) (by rw [List.length_take]; omega), rfl⟩ (fun v23 G23 H23 S _ hv23 => ?_)
          cases hv23
          walk_at "st"
          refine iteF ?_
          walk_at "st"
          rename_i ue hue uf huf
          rw [ee]
          refine c_slL (lo := none) (hi := some ((e.toNat : Nat) : Int)) huf S (fun v24 G24 H24 S g24 hv24 => ?_)
          rw [cutD_to, ← List.map_take, k4] at hv24
          refine c_diffEq (hue.mono g24.g) hv24 S.same (shaped_ints _) ?_
          walk_at "st"
          refine iteF ?_
          walk_at "st"
          exact ⟨_, S.le (by walk_at "le")⟩
      · rintro G' σ' H' S
        walk_at "st"
        refine c_mkL S .nil (by decide) (fun v1 G1 H1 S _ hv1 => ?_)
        walk_at "st"
        refine c_callP S (.cons hv1 .nil) ⟨[], rfl, ⟨by decide, fun _ h => nomatch h⟩, by decide, rfl⟩ (fun v2 G2 H2 S _ hv2 => ?_)
        rw [reads_nil] at hv2
        walk_at "st"
        refine c_mkL S .nil (by decide) (fun v3 G3 H3 S g3 hv3 => ?_)
        walk_at "st"
        refine c_mkT S (.cons hv3 (.cons (.int 0) .nil)) (by show 2 ≤ sizeLine; decide) (fun v4 G4 H4 S g4 hv4 => ?_)
        walk_at "st"
        refine c_callP S (.cons ((hv2.mono g3.g).mono g4.g) (.cons hv4 .nil)) ⟨7, _, rfl, rfl, fits_rr (rs := []) (k := 0) (fun _ h => nomatch h) (by decide), rfl⟩ (fun v5 G5 H5 S _ hv5 => ?_)
        cases hv5
        walk_at "st"
        refine iteT ?_
        walk_at "st"
        refine c_mkL S .nil (by decide) (fun v6 G6 H6 S _ hv6 => ?_)
        walk_at "st"
        refine c_callLf S (.cons hv6 .nil) ⟨[], rfl, by decide, rfl⟩ (fun v7 G7 H7 S _ hv7 => ?_)
        rw [recD_nil] at hv7
        walk_at "st"
        refine c_mkL S (ds := ([0, 0, 0, 0, 7] : List Int).map .int) (da_of_ints [0, 0, 0, 0, 7]) (by show 5 ≤ sizeLine; decide) (fun v8 G8 H8 S g8 hv8 => ?_)
        walk_at "st"
        refine c_callP S (.cons (hv7.mono g8.g) (.cons hv8 .nil)) ⟨7, _, rfl, rfl, fits_ints (by show 5 < 2 ^ 60; decide), rfl⟩ (fun v9 G9 H9 S _ hv9 => ?_)
        cases hv9
        exact ret _
theorem ok_law (T : Tx K mg) (c : He.SaysD fas fns K) (h_l_draws : OkF P w K mg base CX0 ("_law_draws", none) ["script"] 2 (sp_draws K)) (h_l_next : OkF P w K mg base CX0 ("_law_next", none) ["state", "limit"] 3 sp_next) (h_l_bytes : OkF P w K mg base CX0 ("_law_bytes", none) ["state"] 4 (spA R_bytes)) (h_l_same : OkF P w K mg base CX0 ("_law_same", none) ["actual", "expected"] 9 (sp_same 8)) (h_l_record : OkF P w K mg base CX0 ("_law_record", none) ["data"] 2 (spL R_rec)) (h_write_record : OkF P w K mg base CX0 ("write_record", none) ["data"] 2 (spL R_rec)) (h_l_checksum : OkF P w K mg base CX0 ("_law_checksum", none) ["data"] 1 (spP R_ck)) (h_checksum : OkF P w K mg base CX0 ("checksum", none) ["data"] 1 (spP R_ck)) (h_l_behind : OkF P w K mg base CX0 ("_law_behind", none) ["state"] 5 (spA R_behind)) (h_read_records : OkF P w K mg base CX0 ("read_records", none) ["data"] 4 (spP R_read)) : OkF P w K mg base CX0 ("law", none) ["script"] 10 (sp_law K) := by
  obtain ⟨fd, F⟩ := c.def_ 19 (d := d_law) rfl
  exact ⟨fd, fo_law T F h_l_draws h_l_next h_l_bytes h_l_same h_l_record h_write_record h_l_checksum h_checksum h_l_behind h_read_records, F.kp, F.bindsN fun _ _ _ _ _ _ us hl => match us, hl with | [_], _ => rfl⟩
end
theorem facts {P : Program} {w : World} {K : PySem.W.Frag} {h : Heap} {mg : Str → Option Value} {f : Addr} (X : K.In h) (G : h.Ns mainGlobals mg) (hfa : mg ("law" : Str) = some (.ref f)) (c : He.SaysD fas fns K) :
    ∃ fd : FuncData, (∀ (s : Shared) (v : Value), BindsTo s fd ⟨[v], []⟩ [("script", v)]) ∧ ∀ base : Heap, K.In base → base.Ns mainGlobals mg → FnOk P w K mg base CX0 10 f fd ["script"] (sp_law K) := by
  have T := tx X G c
  obtain ⟨fd, F⟩ := c.def_ 19 (d := d_law) rfl
  have e := hfa.symm.trans T.g_law
  cases e
  have b := FunD.bindsA (ps := ["script"]) F fun _ _ _ _ _ _ us hl => match us, hl with | [_], _ => rfl
  refine ⟨fd, fun s v => b s [v] rfl, fun base _ _ => ?_⟩
  have o_Reader_init := ok_Reader_init (P := P) (w := w) (base := base) T c 
  have o_Reader_read_byte := ok_Reader_read_byte (P := P) (w := w) (base := base) T c 
  have o_Reader_read_number := ok_Reader_read_number (P := P) (w := w) (base := base) T c o_Reader_read_byte
  have o_write_number := ok_write_number (P := P) (w := w) (base := base) T c 
  have o_checksum := ok_checksum (P := P) (w := w) (base := base) T c 
  have o_write_record := ok_write_record (P := P) (w := w) (base := base) T c o_checksum o_write_number
  have o_read_size := ok_read_size (P := P) (w := w) (base := base) T c o_Reader_init o_Reader_read_number
  have o_read_records := ok_read_records (P := P) (w := w) (base := base) T c o_read_size o_write_record
  have o_l_mix := ok_l_mix (P := P) (w := w) (base := base) T c 
  have o_l_draws := ok_l_draws (P := P) (w := w) (base := base) T c o_l_mix
  have o_l_at := ok_l_at (P := P) (w := w) (base := base) T c o_l_mix
  have o_l_is_integer := ok_l_is_integer (P := P) (w := w) (base := base) T c 
  have o_l_same := ok_l_same (P := P) (w := w) (base := base) T c o_l_is_integer 8
  have o_l_next := ok_l_next (P := P) (w := w) (base := base) T c o_l_at
  have o_l_number := ok_l_number (P := P) (w := w) (base := base) T c 
  have o_l_checksum := ok_l_checksum (P := P) (w := w) (base := base) T c 
  have o_l_record := ok_l_record (P := P) (w := w) (base := base) T c o_l_checksum o_l_number
  have o_l_bytes := ok_l_bytes (P := P) (w := w) (base := base) T c o_l_next
  have o_l_behind := ok_l_behind (P := P) (w := w) (base := base) T c o_l_bytes o_l_record o_l_next o_l_number
  exact fo_law T F o_l_draws o_l_next o_l_bytes o_l_same o_l_record o_write_record o_l_checksum o_checksum o_l_behind o_read_records
abbrev R : PySem.W.OpenRow := PySem.W.OpenLaw.row PySem.Challenge.rw_heapwhole_k11_records
abbrev hk : PySem.W.Hook := He.hookD 5 fas fns
def ob (s : PySem.W.SharedT) : He.AlD := He.obsDG 5 fas fns (HandSHeadRun.getT s)
theorem ob_eq (s : PySem.W.SharedT) : ob s = hk.obs s.abs := He.obsDG_eq (HandSHeadRun.getT_eq s)
theorem run (w : World) : HandSHeadRun.RunEq R (PySem.W.view R.prog [27]) hk ob 6000 ["_wall", "__name__", "HeapwholeError", "DamagedPacket", "NUMBER_BYTES", "Reader", "write_number", "CHECKSUM_LIMIT", "checksum", "write_record", "_read_size", "read_records", "_law_mix", "_law_draws", "_law_at", "_law_is_integer", "_law_same", "_law_next", "_law_number", "_law_checksum", "_law_record", "_law_bytes", "_law_behind"] w := by
  intro os
  kernel_rfl
end K11
open PySem PySem.W PySem.Calls PyProof.Rows
set_option maxRecDepth 100000 in
set_option maxHeartbeats 0 in
theorem PySem.Challenge.cw_heapwhole_k11_records_holds : PySem.Challenge.rw_heapwhole_k11_records.Holds := by
  w_on; o_law
  refine HandSHeadRun.head_any (r := OpenLaw.row PySem.Challenge.rw_heapwhole_k11_records) (q := view (OpenLaw.row PySem.Challenge.rw_heapwhole_k11_records).prog [27]) (H := K11.hk) (ob := K11.ob) (M := 6000) (loose := ["_wall", "__name__", "HeapwholeError", "DamagedPacket", "NUMBER_BYTES", "Reader", "write_number", "CHECKSUM_LIMIT", "checksum", "write_record", "_read_size", "read_records", "_law_mix", "_law_draws", "_law_at", "_law_is_integer", "_law_same", "_law_next", "_law_number", "_law_checksum", "_law_record", "_law_bytes", "_law_behind"]) (d := HandSHeadRun.topDef (OpenLaw.row PySem.Challenge.rw_heapwhole_k11_records).prog 27) (kwd := []) K11.ob_eq
    (by kernel_rfl) (fun s => by kernel_rfl) K11.run (by kernel_rfl) (by kernel_rfl) (by kernel_rfl) (by rfl) (by first | assumption | decide +kernel) (by decide +kernel) ⟨rfl, rfl, rfl, rfl, rfl, by decide +kernel⟩ ?hw ?hc
  case hw => w_witness2
  case hc =>
    refine Hw.walk_bits (l := PySem.Challenge.rw_heapwhole_k11_records) (n := 63) (k := 10) (x := "script") (CX := L2.CX0) rfl (by decide) (by kernel_rfl) ⟨rfl, by decide, by decide⟩ ?F (fun _ _ _ _ z => z)
    intro w mg fa h Y G hmg0
    obtain ⟨K, KX, c⟩ := Y
    have hmg : mg ("law" : PySem.Str) = some (.ref fa) := by
      have e : (HandSHeadRun.topDef (OpenLaw.row PySem.Challenge.rw_heapwhole_k11_records).prog 27).name = ("law" : PySem.Str) := by kernel_rfl
      rw [← e]
      exact hmg0
    obtain ⟨fd, hb, hF⟩ := K11.facts (P := (PySem.Challenge.rw_heapwhole_k11_records).prog) (w := w) KX G hmg c
    exact ⟨K, fd, (K11.sp_law K), KX, hb, fun H a ns hl hb hO hS => ⟨a, ns, rfl, hS, hl, hb, fun _ => rfl⟩, hF⟩
#print axioms PySem.Challenge.cw_heapwhole_k11_records_holds
