import PyProof.Rows.All
import Wide.All
import OpenK.AllK
import Wide.FinOn
import HandS.ForMost
import HandS.Exc
import HandS.Lambda
import HandS.ExcOwn
import HandS.Defaults
import HandS.WordsExc
import HandS.TupAny
import HandS.TupMul
import HandS.Conv
import HandS.Flow
import HandS.IsInst
import HandS.Wide
import HandS.RaiseMore
import HandS.Deep
import HandS.Style
import HandS.TupLe
import HandS.Iter
import HandS.Zip
import HandS.Walk
import HandS.Comp
import HandS.Dict
import HandS.BoundList
import HandS.ExcInit
import HandS.TryMany
import HandS.ExcField
import HandS.EndBits
import HandS.EndTab
import HandS.Head0
import HandS.Head1
import HandS.Head2
import HandS.HeadEnd
import HandS.HeadHook1
import HandS.HeadHook2
import KE.GoesZip
import KE.GoesMore
import PyProof.ReprBulk
import PyProof.FitsInt
import KE.DataCmp
import PySem.Challenge.RW_believedruns_k39_whole_layers_judged
set_option Elab.async false
set_option linter.all false
set_option maxRecDepth 100000
set_option maxHeartbeats 2000000
/-! Vi1: data (D), owned things (O), how they stand in the abstract heap, steps of the heap. -/
namespace Vi
open PySem PySem.Spec L2

/-- data -/
inductive D where
  | non | bl (b : Bool) | int (i : Int) | str (s : Str)
  | tup (xs : List D) | lst (xs : List D)
  | dic (kvs : List (Key × D)) | dit (kvs : List (List Key × D))
  | obj (c : Nat) (fs : List (Str × D))
  | fn (f : Nat)
/-- where the module's defs and classes stand -/
structure Gt where
  fn : Nat → Addr
  cls : Nat → Addr
  /-- the tables of code objects of defs that make lambdas, and the lambdas' names -/
  tab : List (Addr × Str) := []

section
variable (G : Gt) (K : PySem.W.Frag) (F : Hp)
mutual
inductive Rep : V → D → Prop
  | non : Rep .non .non
  | bl (b : Bool) : Rep (.bl b) (.bl b)
  | int (i : Int) : Rep (.int i) (.int i)
  | str (s : Str) : Rep (.str s) (.str s)
  | tup {a : Addr} {vs : List V} {ds : List D} : SqT K F a vs → Reps vs ds → Rep (.ref a) (.tup ds)
  | lst {a : Addr} {vs : List V} {ds : List D} : Rd F a (.lst vs) → Reps vs ds → Rep (.ref a) (.lst ds)
  | dic {a : Addr} {ks : List (Key × V)} {ds : List (Key × D)} : F a = some (.dK ks) → RepK ks ds → Rep (.ref a) (.dic ds)
  | dit {a : Addr} {ks : List (List Key × V)} {ds : List (List Key × D)} : F a = some (.dT ks) → RepT ks ds → Rep (.ref a) (.dit ds)
  | obj {a dx : Addr} {c : Nat} {fs : List (Str × V)} {ds : List (Str × D)} : F a = some (.ins (G.cls c) dx fs) → RepF fs ds → Rep (.ref a) (.obj c ds)
  | fn (f : Nat) : Rep (.ref (G.fn f)) (.fn f)
inductive Reps : List V → List D → Prop
  | nil : Reps [] []
  | cons {v : V} {vs : List V} {d : D} {ds : List D} : Rep v d → Reps vs ds → Reps (v :: vs) (d :: ds)
inductive RepK : List (Key × V) → List (Key × D) → Prop
  | nil : RepK [] []
  | cons {k : Key} {v : V} {vs : List (Key × V)} {d : D} {ds : List (Key × D)} : Rep v d → RepK vs ds → RepK ((k, v) :: vs) ((k, d) :: ds)
inductive RepT : List (List Key × V) → List (List Key × D) → Prop
  | nil : RepT [] []
  | cons {k : List Key} {v : V} {vs : List (List Key × V)} {d : D} {ds : List (List Key × D)} : Rep v d → RepT vs ds → RepT ((k, v) :: vs) ((k, d) :: ds)
inductive RepF : List (Str × V) → List (Str × D) → Prop
  | nil : RepF [] []
  | cons {k : Str} {v : V} {vs : List (Str × V)} {d : D} {ds : List (Str × D)} : Rep v d → RepF vs ds → RepF ((k, v) :: vs) ((k, d) :: ds)
end
end

/-- a heap goes on: what stood stands -/
def Ex (H H' : Hp) : Prop := ∀ a o, H a = some o → H' a = some o
theorem Ex.refl (H : Hp) : Ex H H := fun _ _ h => h
theorem Ex.trans {H H1 H2 : Hp} (a : Ex H H1) (b : Ex H1 H2) : Ex H H2 := fun x o h => b x o (a x o h)
theorem Ex.rd {H H' : Hp} {a : Addr} {u : HO} (e : Ex H H') (h : Rd H a u) : Rd H' a u := by
  rcases h with h | ⟨o, h⟩
  · exact Or.inl (e a _ h)
  · exact Or.inr ⟨o, e a _ h⟩
theorem Ex.l {K : PySem.W.Frag} {H H' : Hp} {a : Addr} {xs : List V} (e : Ex H H') (h : SqL K H a xs) : SqL K H' a xs := by
  rcases h with h | h
  · exact Or.inl (e.rd h)
  · exact Or.inr h
theorem Ex.t {K : PySem.W.Frag} {H H' : Hp} {a : Addr} {xs : List V} (e : Ex H H') (h : SqT K H a xs) : SqT K H' a xs := by
  rcases h with h | h
  · exact Or.inl (e.rd h)
  · exact Or.inr h
theorem Ex.back {H H' : Hp} {p : Addr} (e : Ex H H') (h : H' p = none) : H p = none := by
  cases h1 : H p with
  | none => rfl
  | some o =>
    rw [e p o h1] at h
    cases h
theorem Ex.new {H : Hp} {p : Addr} {o : HO} (h : H p = none) : Ex H (upd H p o) := fun a u e => by
  rw [upd_ne (ne_of_none e h)]
  exact e

section
variable {G : Gt} {K : PySem.W.Frag} {F F' H : Hp}
mutual
theorem Rep.mono (e : Ex F F') : ∀ {v : V} {d : D}, Rep G K F v d → Rep G K F' v d
  | _, _, .non => .non
  | _, _, .bl b => .bl b
  | _, _, .int i => .int i
  | _, _, .str s => .str s
  | _, _, .tup h r => .tup (e.t h) (Reps.mono e r)
  | _, _, .lst h r => .lst (e.rd h) (Reps.mono e r)
  | _, _, .dic h r => .dic (e _ _ h) (RepK.mono e r)
  | _, _, .dit h r => .dit (e _ _ h) (RepT.mono e r)
  | _, _, .obj h r => .obj (e _ _ h) (RepF.mono e r)
  | _, _, .fn f => .fn f
theorem Reps.mono (e : Ex F F') : ∀ {v : List V} {d : List D}, Reps G K F v d → Reps G K F' v d
  | _, _, .nil => .nil
  | _, _, .cons h r => .cons (Rep.mono e h) (Reps.mono e r)
theorem RepK.mono (e : Ex F F') : ∀ {v : List (Key × V)} {d : List (Key × D)}, RepK G K F v d → RepK G K F' v d
  | _, _, .nil => .nil
  | _, _, .cons h r => .cons (Rep.mono e h) (RepK.mono e r)
theorem RepT.mono (e : Ex F F') : ∀ {v : List (List Key × V)} {d : List (List Key × D)}, RepT G K F v d → RepT G K F' v d
  | _, _, .nil => .nil
  | _, _, .cons h r => .cons (Rep.mono e h) (RepT.mono e r)
theorem RepF.mono (e : Ex F F') : ∀ {v : List (Str × V)} {d : List (Str × D)}, RepF G K F v d → RepF G K F' v d
  | _, _, .nil => .nil
  | _, _, .cons h r => .cons (Rep.mono e h) (RepF.mono e r)
end
theorem Reps.len : ∀ {vs : List V} {ds : List D}, Reps G K F vs ds → vs.length = ds.length
  | _, _, .nil => rfl
  | _, _, .cons _ r => congrArg Nat.succ r.len
theorem RepK.len : ∀ {vs : List (Key × V)} {ds : List (Key × D)}, RepK G K F vs ds → vs.length = ds.length
  | _, _, .nil => rfl
  | _, _, .cons _ r => congrArg Nat.succ r.len
theorem RepF.len : ∀ {vs : List (Str × V)} {ds : List (Str × D)}, RepF G K F vs ds → vs.length = ds.length
  | _, _, .nil => rfl
  | _, _, .cons _ r => congrArg Nat.succ r.len
theorem Reps.app : ∀ {vs ws : List V} {ds es : List D}, Reps G K F vs ds → Reps G K F ws es → Reps G K F (vs ++ ws) (ds ++ es)
  | _, _, _, _, .nil, q => q
  | _, _, _, _, .cons h r, q => .cons h (r.app q)
theorem Reps.get : ∀ {vs : List V} {ds : List D} {i : Nat} {d : D}, Reps G K F vs ds → ds[i]? = some d → ∃ v, vs[i]? = some v ∧ Rep G K F v d
  | _, _, _, _, .nil, e => by simp at e
  | _, _, 0, _, .cons h _, e => by
    simp at e
    subst e
    exact ⟨_, rfl, h⟩
  | _, _, i + 1, d, .cons _ r, e => by
    obtain ⟨v, h1, h2⟩ := Reps.get (i := i) (d := d) r (by simpa using e)
    exact ⟨v, by simpa using h1, h2⟩
theorem Reps.getV : ∀ {vs : List V} {ds : List D} {i : Nat} {v : V}, Reps G K F vs ds → vs[i]? = some v → ∃ d, ds[i]? = some d ∧ Rep G K F v d
  | _, _, _, _, .nil, e => by simp at e
  | _, _, 0, _, .cons h _, e => by
    simp at e
    subst e
    exact ⟨_, rfl, h⟩
  | _, _, i + 1, d, .cons _ r, e => by
    obtain ⟨v, h1, h2⟩ := Reps.getV (i := i) (v := d) r (by simpa using e)
    exact ⟨v, by simpa using h1, h2⟩
theorem Reps.set {v : V} {d : D} (h : Rep G K F v d) : ∀ {vs : List V} {ds : List D} (i : Nat), Reps G K F vs ds → Reps G K F (vs.set i v) (ds.set i d)
  | _, _, _, .nil => .nil
  | _, _, 0, .cons _ r => .cons h r
  | _, _, i + 1, .cons q r => .cons q (Reps.set h i r)
theorem Reps.take : ∀ {vs : List V} {ds : List D} (n : Nat), Reps G K F vs ds → Reps G K F (vs.take n) (ds.take n)
  | _, _, 0, _ => .nil
  | _, _, _ + 1, .nil => .nil
  | _, _, n + 1, .cons h r => .cons h (Reps.take n r)
theorem Reps.drop : ∀ {vs : List V} {ds : List D} (n : Nat), Reps G K F vs ds → Reps G K F (vs.drop n) (ds.drop n)
  | _, _, 0, r => r
  | _, _, _ + 1, .nil => .nil
  | _, _, n + 1, .cons _ r => Reps.drop n r
theorem Reps.rev : ∀ {vs : List V} {ds : List D}, Reps G K F vs ds → Reps G K F vs.reverse ds.reverse
  | _, _, .nil => .nil
  | _, _, .cons h r => by
    rw [List.reverse_cons, List.reverse_cons]
    exact (r.rev).app (.cons h .nil)
theorem Reps.erase : ∀ {vs : List V} {ds : List D} (i : Nat), Reps G K F vs ds → Reps G K F (vs.eraseIdx i) (ds.eraseIdx i)
  | _, _, _, .nil => .nil
  | _, _, 0, .cons _ r => r
  | _, _, i + 1, .cons q r => .cons q (Reps.erase i r)
theorem Reps.dropLast {vs : List V} {ds : List D} (r : Reps G K F vs ds) : Reps G K F vs.dropLast ds.dropLast := by
  rw [List.dropLast_eq_take, List.dropLast_eq_take, r.len]
  exact r.take _
theorem Reps.ints : ∀ {vs : List V} {ns : List Int}, Reps G K F vs (ns.map D.int) → vs = ns.map V.int
  | _, [], h => by
    cases h
    rfl
  | _, n :: ns, h => by
    cases h with
    | cons h r =>
      cases h
      rw [Reps.ints r]
      rfl
theorem Reps.ofInts : ∀ (ns : List Int), Reps G K F (ns.map V.int) (ns.map D.int)
  | [] => .nil
  | n :: ns => .cons (.int n) (Reps.ofInts ns)
theorem RepF.lookup : ∀ {fs : List (Str × V)} {ds : List (Str × D)} {f : Str} {d : D}, RepF G K F fs ds → ds.lookup f = some d → ∃ v, fs.lookup f = some v ∧ Rep G K F v d
  | _, _, _, _, .nil, e => by simp at e
  | (k, v) :: vs, _ :: ds, f, d, .cons h r, e => by
    rw [List.lookup_cons] at e ⊢
    cases hb : f == k with
    | true =>
      rw [hb] at e
      simp only [Option.some.injEq] at e
      subst e
      exact ⟨v, rfl, h⟩
    | false =>
      rw [hb] at e
      exact r.lookup e
theorem RepF.noLookup : ∀ {fs : List (Str × V)} {ds : List (Str × D)} {f : Str}, RepF G K F fs ds → ds.lookup f = none → fs.lookup f = none
  | _, _, _, .nil, _ => rfl
  | (k, v) :: vs, _ :: ds, f, .cons h r, e => by
    rw [List.lookup_cons] at e ⊢
    cases hb : f == k with
    | true =>
      rw [hb] at e
      cases e
    | false =>
      rw [hb] at e
      exact r.noLookup e
theorem RepK.val : ∀ {ks : List (Key × V)} {ds : List (Key × D)} (k : Key), RepK G K F ks ds →
    (∃ v d, valV ks k = some v ∧ (ds.find? fun kv => decide (kv.1 = k)).map (·.2) = some d ∧ Rep G K F v d) ∨ (valV ks k = none ∧ (ds.find? fun kv => decide (kv.1 = k)).map (·.2) = none)
  | _, _, _, .nil => .inr ⟨rfl, rfl⟩
  | (j, v) :: vs, (_, d) :: ds, k, .cons h r => by
    unfold valV
    rw [List.find?_cons, List.find?_cons]
    by_cases e : j = k
    · subst e
      simp only [decide_true, Option.map_some]
      exact .inl ⟨v, d, rfl, rfl, h⟩
    · simp only [e, decide_false]
      exact r.val k
end
end Vi

set_option Elab.async false
set_option linter.all false
set_option maxRecDepth 100000
set_option maxHeartbeats 2000000
/-! Vi2: owned things, environments, steps of the heap. -/
namespace Vi
open PySem PySem.Spec L2

/-- a value that is owned by the one who holds it (a new list, dict, object), or data -/
inductive O where
  | v (d : D)
  | l (xs : List D)
  | d (kvs : List (Key × D))
  | t (kvs : List (List Key × D))
  | o (c : Nat) (fs : List (Str × O))
mutual
/-- as data: it is shared from now on -/
def O.fz : O → D
  | .v d => d
  | .l xs => .lst xs
  | .d kvs => .dic kvs
  | .t kvs => .dit kvs
  | .o c fs => .obj c (fzs fs)
def fzs : List (Str × O) → List (Str × D)
  | [] => []
  | (k, o) :: r => (k, o.fz) :: fzs r
end

section
variable (G : Gt) (K : PySem.W.Frag) (F H : Hp)
mutual
inductive RepO : V → O → List Addr → Prop
  | v {v : V} {d : D} : Rep G K F v d → RepO v (.v d) []
  | l {a : Addr} {vs : List V} {ds : List D} : H a = some (.lst vs) → F a = none → Reps G K F vs ds → RepO (.ref a) (.l ds) [a]
  | d {a : Addr} {ks : List (Key × V)} {ds : List (Key × D)} : H a = some (.dK ks) → F a = none → RepK G K F ks ds → RepO (.ref a) (.d ds) [a]
  | t {a : Addr} {ks : List (List Key × V)} {ds : List (List Key × D)} : H a = some (.dT ks) → F a = none → RepT G K F ks ds → RepO (.ref a) (.t ds) [a]
  | o {a dx : Addr} {c : Nat} {fs : List (Str × V)} {os : List (Str × O)} {as : List Addr} : H a = some (.ins (G.cls c) dx fs) → F a = none → RepOs fs os as → a ∉ as → RepO (.ref a) (.o c os) (a :: as)
inductive RepOs : List (Str × V) → List (Str × O) → List Addr → Prop
  | nil : RepOs [] [] []
  | cons {k : Str} {v : V} {o : O} {vs : List (Str × V)} {os : List (Str × O)} {as bs : List Addr} : RepO v o as → RepOs vs os bs → (∀ a ∈ as, a ∉ bs) → RepOs ((k, v) :: vs) ((k, o) :: os) (as ++ bs)
end
end

section
variable {G : Gt} {K : PySem.W.Frag} {F F' H H' : Hp}
mutual
theorem RepO.off : ∀ {v : V} {o : O} {as : List Addr}, RepO G K F H v o as → ∀ a ∈ as, F a = none ∧ ∃ u, H a = some u
  | _, _, _, .v _, a, h => by simp at h
  | _, _, _, .l h1 h2 _, a, h => by
    simp at h
    subst h
    exact ⟨h2, _, h1⟩
  | _, _, _, .d h1 h2 _, a, h => by
    simp at h
    subst h
    exact ⟨h2, _, h1⟩
  | _, _, _, .t h1 h2 _, a, h => by
    simp at h
    subst h
    exact ⟨h2, _, h1⟩
  | _, _, _, .o h1 h2 r _, a, h => by
    rcases List.mem_cons.mp h with h | h
    · subst h
      exact ⟨h2, _, h1⟩
    · exact RepOs.off r a h
theorem RepOs.off : ∀ {v : List (Str × V)} {o : List (Str × O)} {as : List Addr}, RepOs G K F H v o as → ∀ a ∈ as, F a = none ∧ ∃ u, H a = some u
  | _, _, _, .nil, a, h => by simp at h
  | _, _, _, .cons r q _, a, h => by
    rcases List.mem_append.mp h with h | h
    · exact RepO.off r a h
    · exact RepOs.off q a h
end
/- it stays where its own objects stay -/
mutual
theorem RepO.frame (e : Ex F F') : ∀ {v : V} {o : O} {as : List Addr}, RepO G K F H v o as → (∀ a ∈ as, ∀ u, H a = some u → H' a = some u) → (∀ a ∈ as, F' a = none) → RepO G K F' H' v o as
  | _, _, _, .v r, _, _ => .v (r.mono e)
  | _, _, _, .l h1 h2 r, k, n => .l (k _ (by simp) _ h1) (n _ (by simp)) (r.mono e)
  | _, _, _, .d h1 h2 r, k, n => .d (k _ (by simp) _ h1) (n _ (by simp)) (r.mono e)
  | _, _, _, .t h1 h2 r, k, n => .t (k _ (by simp) _ h1) (n _ (by simp)) (r.mono e)
  | _, _, _, .o h1 h2 r m, k, n => .o (k _ List.mem_cons_self _ h1) (n _ List.mem_cons_self) (RepOs.frame e r (fun a h => k a (List.mem_cons_of_mem _ h)) fun a h => n a (List.mem_cons_of_mem _ h)) m
theorem RepOs.frame (e : Ex F F') : ∀ {v : List (Str × V)} {o : List (Str × O)} {as : List Addr}, RepOs G K F H v o as → (∀ a ∈ as, ∀ u, H a = some u → H' a = some u) → (∀ a ∈ as, F' a = none) → RepOs G K F' H' v o as
  | _, _, _, .nil, _, _ => .nil
  | _, _, _, .cons r q d, k, n => .cons (RepO.frame e r (fun a h => k a (List.mem_append_left _ h)) fun a h => n a (List.mem_append_left _ h)) (RepOs.frame e q (fun a h => k a (List.mem_append_right _ h)) fun a h => n a (List.mem_append_right _ h)) d
end
/- frozen: W knows all of it -/
mutual
theorem RepO.froz {W : Hp} (e : Ex F W) : ∀ {v : V} {o : O} {as : List Addr}, RepO G K F H v o as → (∀ a ∈ as, ∀ u, H a = some u → W a = some u) → Rep G K W v o.fz
  | _, _, _, .v r, _ => by
    unfold O.fz
    exact r.mono e
  | _, _, _, .l h1 h2 r, k => by
    unfold O.fz
    exact .lst (.inl (k _ (by simp) _ h1)) (r.mono e)
  | _, _, _, .d h1 h2 r, k => by
    unfold O.fz
    exact .dic (k _ (by simp) _ h1) (r.mono e)
  | _, _, _, .t h1 h2 r, k => by
    unfold O.fz
    exact .dit (k _ (by simp) _ h1) (r.mono e)
  | _, _, _, .o h1 h2 r m, k => by
    unfold O.fz
    exact .obj (k _ List.mem_cons_self _ h1) (RepOs.froz e r fun a h => k a (List.mem_cons_of_mem _ h))
theorem RepOs.froz {W : Hp} (e : Ex F W) : ∀ {v : List (Str × V)} {o : List (Str × O)} {as : List Addr}, RepOs G K F H v o as → (∀ a ∈ as, ∀ u, H a = some u → W a = some u) → RepF G K W v (fzs o)
  | _, _, _, .nil, _ => by
    unfold fzs
    exact .nil
  | _, _, _, .cons r q d, k => by
    unfold fzs
    exact .cons (RepO.froz e r fun a h => k a (List.mem_append_left _ h)) (RepOs.froz e q fun a h => k a (List.mem_append_right _ h))
end

/-- from F, H with the owned as to F', H' with the owned bs -/
structure Step (F H : Hp) (as : List Addr) (F' H' : Hp) (bs : List Addr) : Prop where
  ex : Ex F F'
  sub : Ex F' H'
  keep : ∀ b u, H b = some u → b ∉ as → H' b = some u
  own : ∀ b ∈ bs, b ∈ as ∨ H b = none
  fr : ∀ b u, F' b = some u → F b = some u ∨ b ∈ as ∨ H b = none
theorem Step.refl {as : List Addr} (e : Ex F H) : Step F H as F H as := ⟨Ex.refl F, e, fun _ _ h _ => h, fun _ h => .inl h, fun _ _ h => .inl h⟩
theorem Step.trans {F1 H1 F2 H2 : Hp} {as bs cs : List Addr} (a : Step F H as F1 H1 bs) (b : Step F1 H1 bs F2 H2 cs) : Step F H as F2 H2 cs where
  ex := a.ex.trans b.ex
  sub := b.sub
  keep := fun x u h n => by
    refine b.keep x u (a.keep x u h n) fun hb => ?_
    rcases a.own x hb with q | q
    · exact n q
    · rw [h] at q
      cases q
  own := fun x hx => by
    rcases b.own x hx with q | q
    · exact a.own x q
    · cases h : H x with
      | none => exact .inr rfl
      | some u =>
        by_cases n : x ∈ as
        · exact .inl n
        · rw [a.keep x u h n] at q
          cases q
  fr := fun x u hx => by
    rcases b.fr x u hx with q | q | q
    · exact a.fr x u q
    · rcases a.own x q with q | q
      · exact .inr (.inl q)
      · exact .inr (.inr q)
    · cases h : H x with
      | none => exact .inr (.inr rfl)
      | some u =>
        by_cases n : x ∈ as
        · exact .inr (.inl n)
        · rw [a.keep x u h n] at q
          cases q
/-- fewer are owned behind -/
theorem Step.less {as bs cs : List Addr} (a : Step F H as F' H' bs) (h : ∀ b ∈ cs, b ∈ bs) : Step F H as F' H' cs := ⟨a.ex, a.sub, a.keep, fun b hb => a.own b (h b hb), a.fr⟩
theorem Step.more {as bs cs : List Addr} (a : Step F H as F' H' bs) (h : ∀ b ∈ as, b ∈ cs) : Step F H cs F' H' bs := ⟨a.ex, a.sub, fun b u e n => a.keep b u e fun q => n (h b q), fun b hb => (a.own b hb).imp (h b) id, fun b u e => (a.fr b u e).imp id fun z => z.imp (h b) id⟩
/-- what is owned by another stays -/
theorem Step.frameO {as bs cs : List Addr} {v : V} {o : O} (a : Step F H as F' H' bs) (r : RepO G K F H v o cs) (d : ∀ x ∈ cs, x ∉ as) : RepO G K F' H' v o cs :=
  r.frame a.ex (fun x hx u hu => a.keep x u hu (d x hx)) fun x hx => by
    obtain ⟨n, u, hu⟩ := r.off x hx
    cases h : F' x with
    | none => rfl
    | some u' =>
      rcases a.fr x u' h with q | q | q
      · rw [n] at q
        cases q
      · exact absurd q (d x hx)
      · rw [hu] at q
        cases q
/-- and it is apart from what is owned behind -/
theorem Step.apart {as bs cs : List Addr} {v : V} {o : O} (a : Step F H as F' H' bs) (r : RepO G K F H v o cs) (d : ∀ x ∈ cs, x ∉ as) : ∀ x ∈ cs, x ∉ bs := fun x hx hb => by
  obtain ⟨n, u, hu⟩ := r.off x hx
  rcases a.own x hb with q | q
  · exact d x hx q
  · rw [hu] at q
    cases q
/-- all of as is frozen -/
def froze (F H : Hp) (as : List Addr) : Hp := fun b => if b ∈ as then H b else F b
theorem froze_ex {as : List Addr} (n : ∀ a ∈ as, F a = none) : Ex F (froze F H as) := fun b u h => by
  unfold froze
  by_cases m : b ∈ as
  · rw [n b m] at h
    cases h
  · rw [if_neg m]
    exact h
theorem froze_sub {as : List Addr} (e : Ex F H) : Ex (froze F H as) H := fun b u h => by
  unfold froze at h
  by_cases m : b ∈ as
  · rw [if_pos m] at h
    exact h
  · rw [if_neg m] at h
    exact e b u h
theorem froze_at {as : List Addr} : ∀ a ∈ as, ∀ u, H a = some u → froze F H as a = some u := fun a m u h => by
  unfold froze
  rw [if_pos m]
  exact h
theorem froze_off {as : List Addr} {b : Addr} (m : b ∉ as) : froze F H as b = F b := by
  unfold froze
  rw [if_neg m]
theorem Step.freeze {as bs : List Addr} (e : Ex F H) (n : ∀ a ∈ as, F a = none) (h : ∀ b ∈ bs, b ∈ as) {cs : List Addr} (hc : ∀ b ∈ cs, b ∈ as) : Step F H as (froze F H cs) H bs where
  ex := froze_ex fun a m => n a (hc a m)
  sub := froze_sub e
  keep := fun _ _ h _ => h
  own := fun b hb => .inl (h b hb)
  fr := fun b u hb => by
    by_cases m : b ∈ cs
    · exact .inr (.inl (hc b m))
    · rw [froze_off m] at hb
      exact .inl hb
/-- a new object is laid, and frozen at once -/
theorem Step.newF {as : List Addr} {p : Addr} {u : HO} (e : Ex F H) (hp : H p = none) : Step F H as (upd F p u) (upd H p u) as where
  ex := Ex.new (e.back hp)
  sub := fun b w h => by
    unfold upd at h ⊢
    by_cases m : b = p
    · rw [if_pos m] at h ⊢
      exact h
    · rw [if_neg m] at h ⊢
      exact e b w h
  keep := fun b w h _ => by
    rw [upd_ne (ne_of_none h hp)]
    exact h
  own := fun b hb => .inl hb
  fr := fun b w h => by
    by_cases m : b = p
    · subst m
      exact .inr (.inr hp)
    · rw [upd_ne m] at h
      exact .inl h
/-- a new object is laid, and owned -/
theorem Step.newO {as : List Addr} {p : Addr} {u : HO} (e : Ex F H) (hp : H p = none) : Step F H as F (upd H p u) (p :: as) where
  ex := Ex.refl F
  sub := e.trans (Ex.new hp)
  keep := fun b w h _ => by
    rw [upd_ne (ne_of_none h hp)]
    exact h
  own := fun b hb => by
    rcases List.mem_cons.mp hb with q | q
    · subst q
      exact .inr hp
    · exact .inl q
  fr := fun b w h => .inl h
/-- an owned object is written -/
theorem Step.write {as : List Addr} {p : Addr} {u : HO} (e : Ex F H) (hp : F p = none) (hm : p ∈ as) : Step F H as F (upd H p u) as where
  ex := Ex.refl F
  sub := fun b w h => by
    rw [upd_ne (ne_of_none h hp)]
    exact e b w h
  keep := fun b w h n => by
    have z : b ≠ p := fun q => n (by rw [q]; exact hm)
    rw [upd_ne z]
    exact h
  own := fun b hb => .inl hb
  fr := fun b w h => .inl h
end

/-- a slot: pinned (a parameter that lends), what stands in it -/
structure Sl where
  pin : Bool
  val : Option O
abbrev Vn := List Sl
/-- the tables, each with its code objects that F knows -/
inductive TabR (F H : Hp) : List (Addr × Str) → List Addr → Prop
  | nil : TabR F H [] []
  | cons {P : Addr} {q : Str} {ps : Array Value} {T : List (Addr × Str)} {as : List Addr} : H P = some (.tbl ps) → F P = none → TriplesOk ps.toList → (∀ (pos : Pos) (cv : Value), codeAmong pos ps.toList = some cv → ∃ c, cv = .ref c ∧ F c = some (LamX.CodeO c q)) → TabR F H T as → P ∉ as → TabR F H ((P, q) :: T) (P :: as)
theorem TabR.off {F H : Hp} : ∀ {T : List (Addr × Str)} {as : List Addr}, TabR F H T as → ∀ a ∈ as, F a = none ∧ ∃ u, H a = some u
  | _, _, .nil, a, h => by simp at h
  | _, _, .cons h1 h2 _ _ r _, a, h => by
    rcases List.mem_cons.mp h with z | z
    · subst z
      exact ⟨h2, _, h1⟩
    · exact r.off a z
theorem TabR.frame {F F' H H' : Hp} (e : Ex F F') : ∀ {T : List (Addr × Str)} {as : List Addr}, TabR F H T as → (∀ a ∈ as, ∀ u, H a = some u → H' a = some u) → (∀ a ∈ as, F' a = none) → TabR F' H' T as
  | _, _, .nil, _, _ => .nil
  | _, _, .cons h1 h2 h3 h4 r m, k, n => .cons (k _ List.mem_cons_self _ h1) (n _ List.mem_cons_self) h3 (fun pos cv z => let ⟨c, z1, z2⟩ := h4 pos cv z; ⟨c, z1, e _ _ z2⟩) (r.frame e (fun a h => k a (List.mem_cons_of_mem _ h)) fun a h => n a (List.mem_cons_of_mem _ h)) m
/-- what stands behind the slots: the tables (b), or nothing -/
def TabZ (G : Gt) (F H : Hp) : Bool → List Addr → Prop
  | true, as => TabR F H G.tab as
  | false, as => as = []
theorem TabZ.off {G : Gt} {F H : Hp} : ∀ {b : Bool} {as : List Addr}, TabZ G F H b as → ∀ a ∈ as, F a = none ∧ ∃ u, H a = some u
  | true, _, h => TabR.off h
  | false, as, h => fun a m => by
    have : as = [] := h
    subst this
    simp at m
theorem TabZ.frame {G : Gt} {F F' H H' : Hp} (e : Ex F F') : ∀ {b : Bool} {as : List Addr}, TabZ G F H b as → (∀ a ∈ as, ∀ u, H a = some u → H' a = some u) → (∀ a ∈ as, F' a = none) → TabZ G F' H' b as
  | true, _, h, k, n => TabR.frame e h k n
  | false, _, h, _, _ => h
section
variable (G : Gt) (K : PySem.W.Frag) (F H : Hp)
inductive EnvB (b : Bool) : St → St → Vn → List Addr → Prop
  | nil {as : List Addr} : TabZ G F H b as → EnvB b [] [] [] as
  | no {s0 s : Option V} {σ0 σ : St} {p : Bool} {env : Vn} {as : List Addr} : (p = true → s = s0) → EnvB b σ0 σ env as → EnvB b (s0 :: σ0) (s :: σ) (⟨p, none⟩ :: env) as
  | yes {s0 : Option V} {v : V} {o : O} {σ0 σ : St} {p : Bool} {env : Vn} {as bs : List Addr} : (p = true → some v = s0) → RepO G K F H v o as → EnvB b σ0 σ env bs → (∀ a ∈ as, a ∉ bs) → EnvB b (s0 :: σ0) (some v :: σ) (⟨p, some o⟩ :: env) (as ++ bs)
abbrev EnvR := EnvB G K F H true
end
section
variable {G : Gt} {K : PySem.W.Frag} {F F' H H' : Hp} {b : Bool}
theorem EnvB.off : ∀ {σ0 σ : St} {env : Vn} {as : List Addr}, EnvB G K F H b σ0 σ env as → ∀ a ∈ as, F a = none ∧ ∃ u, H a = some u
  | _, _, _, _, .nil z, a, h => z.off a h
  | _, _, _, _, .no _ q, a, h => q.off a h
  | _, _, _, _, .yes _ r q _, a, h => by
    rcases List.mem_append.mp h with h | h
    · exact r.off a h
    · exact q.off a h
theorem EnvB.len : ∀ {σ0 σ : St} {env : Vn} {as : List Addr}, EnvB G K F H b σ0 σ env as → σ.length = env.length ∧ σ0.length = env.length
  | _, _, _, _, .nil _ => ⟨rfl, rfl⟩
  | _, _, _, _, .no _ q => ⟨congrArg Nat.succ q.len.1, congrArg Nat.succ q.len.2⟩
  | _, _, _, _, .yes _ _ q _ => ⟨congrArg Nat.succ q.len.1, congrArg Nat.succ q.len.2⟩
theorem EnvB.frame (e : Ex F F') : ∀ {σ0 σ : St} {env : Vn} {as : List Addr}, EnvB G K F H b σ0 σ env as → (∀ a ∈ as, ∀ u, H a = some u → H' a = some u) → (∀ a ∈ as, F' a = none) → EnvB G K F' H' b σ0 σ env as
  | _, _, _, _, .nil z, k, n => .nil (z.frame e k n)
  | _, _, _, _, .no p q, k, n => .no p (q.frame e k n)
  | _, _, _, _, .yes p r q d, k, n => .yes p (r.frame e (fun a h => k a (List.mem_append_left _ h)) fun a h => n a (List.mem_append_left _ h)) (q.frame e (fun a h => k a (List.mem_append_right _ h)) fun a h => n a (List.mem_append_right _ h)) d
theorem Step.frameE {as bs cs : List Addr} {σ0 σ : St} {env : Vn} (a : Step F H as F' H' bs) (r : EnvB G K F H b σ0 σ env cs) (d : ∀ x ∈ cs, x ∉ as) : EnvB G K F' H' b σ0 σ env cs :=
  r.frame a.ex (fun x hx u hu => a.keep x u hu (d x hx)) fun x hx => by
    obtain ⟨n, u, hu⟩ := r.off x hx
    cases h : F' x with
    | none => rfl
    | some u' =>
      rcases a.fr x u' h with q | q | q
      · rw [n] at q
        cases q
      · exact absurd q (d x hx)
      · rw [hu] at q
        cases q
theorem Step.apartE {as bs cs : List Addr} {σ0 σ : St} {env : Vn} (a : Step F H as F' H' bs) (r : EnvB G K F H b σ0 σ env cs) (d : ∀ x ∈ cs, x ∉ as) : ∀ x ∈ cs, x ∉ bs := fun x hx hb => by
  obtain ⟨n, u, hu⟩ := r.off x hx
  rcases a.own x hb with q | q
  · exact d x hx q
  · rw [hu] at q
    cases q
/-- a slot that holds something, and what comes if its content changes in place -/
theorem EnvB.at : ∀ {σ0 σ : St} {env : Vn} {as : List Addr} {i : Nat} {p : Bool} {o : O}, EnvR G K F H σ0 σ env as → env[i]? = some ⟨p, some o⟩ →
    ∃ v a1, σ[i]? = some (some v) ∧ RepO G K F H v o a1 ∧ (∀ a ∈ a1, a ∈ as) ∧ ∃ rest : List Addr, (∀ a ∈ rest, a ∈ as ∧ a ∉ a1) ∧ (∀ a ∈ as, a ∈ a1 ∨ a ∈ rest) ∧
      (∀ {F' H' : Hp} {o' : Option O} {b1 : List Addr}, Ex F F' → (∀ b ∈ rest, ∀ u, H b = some u → H' b = some u) → (∀ b ∈ rest, F' b = none) → (∀ x, o' = some x → RepO G K F' H' v x b1) → (∀ a ∈ b1, a ∉ rest) →
        ∃ as', EnvR G K F' H' σ0 σ (env.set i ⟨p, o'⟩) as' ∧ ∀ a ∈ as', a ∈ b1 ∨ a ∈ rest)
  | _, _, _, _, _, _, _, .nil _, e => by simp at e
  | _, _, _, _, 0, _, _, .no _ _, e => by simp at e
  | _, _, _, _, 0, p, o, .yes (v := v) (as := a1) (bs := bs) pn r q d, e => by
    simp at e
    obtain ⟨e1, e2⟩ := e
    subst e1 e2
    refine ⟨v, a1, rfl, r, fun a h => List.mem_append_left _ h, bs, fun a h => ⟨List.mem_append_right _ h, fun z => d a z h⟩, fun a h => List.mem_append.mp h, fun {F' H' o' b1} ex k n ho dj => ?_⟩
    have q' := q.frame (F' := F') (H' := H') ex k n
    cases o' with
    | none => exact ⟨bs, .no (fun z => by rw [← pn z]) q', fun a h => .inr h⟩
    | some x => exact ⟨b1 ++ bs, .yes pn (ho x rfl) q' dj, fun a h => List.mem_append.mp h⟩
  | _, _, _, _, i + 1, p, o, .no pn q, e => by
    obtain ⟨v, a1, h1, h2, h3, rest, h4, h5, h6⟩ := q.at (i := i) (p := p) (o := o) (by simpa using e)
    refine ⟨v, a1, by simpa using h1, h2, h3, rest, h4, h5, fun {F' H' o' b1} ex k n ho dj => ?_⟩
    obtain ⟨as', h7, h8⟩ := h6 ex k n ho dj
    exact ⟨as', .no pn h7, h8⟩
  | _, _, _, _, i + 1, p, o, .yes (as := c1) (bs := bs) pn r q d, e => by
    obtain ⟨v, a1, h1, h2, h3, rest, h4, h5, h6⟩ := q.at (i := i) (p := p) (o := o) (by simpa using e)
    refine ⟨v, a1, by simpa using h1, h2, fun a h => List.mem_append_right _ (h3 a h), c1 ++ rest, fun a h => ?_, fun a h => ?_, fun {F' H' o' b1} ex k n ho dj => ?_⟩
    · rcases List.mem_append.mp h with h | h
      · exact ⟨List.mem_append_left _ h, fun z => d a h (h3 a z)⟩
      · exact ⟨List.mem_append_right _ (h4 a h).1, (h4 a h).2⟩
    · rcases List.mem_append.mp h with h | h
      · exact .inr (List.mem_append_left _ h)
      · exact (h5 a h).imp id fun z => List.mem_append_right _ z
    · obtain ⟨as', h7, h8⟩ := h6 ex (fun b h => k b (List.mem_append_right _ h)) (fun b h => n b (List.mem_append_right _ h)) ho fun a h z => dj a h (List.mem_append_right _ z)
      refine ⟨c1 ++ as', .yes pn (r.frame ex (fun a h => k a (List.mem_append_left _ h)) fun a h => n a (List.mem_append_left _ h)) h7 fun a h z => ?_, fun a h => ?_⟩
      · rcases h8 a z with z | z
        · exact dj a z (List.mem_append_left _ h)
        · exact d a h (h4 a z).1
      · rcases List.mem_append.mp h with h | h
        · exact .inr (List.mem_append_left _ h)
        · exact (h8 a h).imp id fun z => List.mem_append_right _ z
/-- a slot that is not pinned gets a new thing -/
theorem EnvB.put {v : V} {o : O} {a1 : List Addr} (r : RepO G K F H v o a1) : ∀ {σ0 σ : St} {env : Vn} {as : List Addr} {i : Nat} {x : Option O}, EnvR G K F H σ0 σ env as → env[i]? = some ⟨false, x⟩ → (∀ a ∈ a1, a ∉ as) →
    ∃ as', EnvR G K F H σ0 (σ.set i (some v)) (env.set i ⟨false, some o⟩) as' ∧ ∀ a ∈ as', a ∈ a1 ∨ a ∈ as
  | _, _, _, _, _, _, .nil _, e, _ => by simp at e
  | _, _, _, _, 0, _, .no (as := as) pn q, e, d => by
    simp at e
    obtain ⟨e1, e2⟩ := e
    subst e1
    exact ⟨a1 ++ as, .yes (fun z => by cases z) r q d, fun a h => List.mem_append.mp h⟩
  | _, _, _, _, 0, _, .yes (as := c1) (bs := bs) pn r1 q d1, e, d => by
    simp at e
    obtain ⟨e1, e2⟩ := e
    subst e1
    exact ⟨a1 ++ bs, .yes (fun z => by cases z) r q (fun a h z => d a h (List.mem_append_right _ z)), fun a h => (List.mem_append.mp h).imp id fun z => List.mem_append_right _ z⟩
  | _, _, _, _, i + 1, x, .no pn q, e, d => by
    obtain ⟨as', h1, h2⟩ := q.put r (i := i) (x := x) (by simpa using e) d
    exact ⟨as', .no pn h1, h2⟩
  | _, _, _, _, i + 1, x, .yes (as := c1) (bs := bs) pn r1 q d1, e, d => by
    obtain ⟨as', h1, h2⟩ := q.put r (i := i) (x := x) (by simpa using e) fun a h z => d a h (List.mem_append_right _ z)
    refine ⟨c1 ++ as', .yes pn r1 h1 fun a h z => ?_, fun a h => ?_⟩
    · rcases h2 a z with z | z
      · exact d a z (List.mem_append_left _ h)
      · exact d1 a h z
    · rcases List.mem_append.mp h with h | h
      · exact .inr (List.mem_append_left _ h)
      · exact (h2 a h).imp id fun z => List.mem_append_right _ z
/-- the tables are parted from the slots -/
theorem EnvB.split : ∀ {σ0 σ : St} {env : Vn} {as : List Addr}, EnvB G K F H true σ0 σ env as → ∃ a1 ta, EnvB G K F H false σ0 σ env a1 ∧ TabR F H G.tab ta ∧ (∀ a ∈ ta, a ∉ a1) ∧ (∀ a ∈ a1, a ∈ as) ∧ ∀ a ∈ ta, a ∈ as
  | _, _, _, as, .nil z => ⟨[], as, .nil rfl, z, fun a _ h => by simp at h, fun a h => by simp at h, fun a h => h⟩
  | _, _, _, _, .no p q => by
    obtain ⟨a1, ta, h1, h2, h3, h4, h5⟩ := q.split
    exact ⟨a1, ta, .no p h1, h2, h3, h4, h5⟩
  | _, _, _, _, .yes (as := c1) p r q d => by
    obtain ⟨a1, ta, h1, h2, h3, h4, h5⟩ := q.split
    refine ⟨c1 ++ a1, ta, .yes p r h1 fun a m z => d a m (h4 a z), h2, fun a m z => ?_, fun a m => ?_, fun a m => List.mem_append_right _ (h5 a m)⟩
    · rcases List.mem_append.mp z with z | z
      · exact d a z (h5 a m)
      · exact h3 a m z
    · exact (List.mem_append.mp m).elim (List.mem_append_left _) fun z => List.mem_append_right _ (h4 a z)
/-- .. and come back -/
theorem EnvB.join {ta : List Addr} (t : TabR F H G.tab ta) : ∀ {σ0 σ : St} {env : Vn} {as : List Addr}, EnvB G K F H false σ0 σ env as → (∀ a ∈ ta, a ∉ as) → ∃ as', EnvB G K F H true σ0 σ env as' ∧ ∀ a ∈ as', a ∈ ta ∨ a ∈ as
  | _, _, _, _, .nil z, _ => ⟨ta, .nil t, fun a h => .inl h⟩
  | _, _, _, _, .no p q, d => by
    obtain ⟨as', h1, h2⟩ := q.join t d
    exact ⟨as', .no p h1, h2⟩
  | _, _, _, _, .yes (as := c1) p r q d, dj => by
    obtain ⟨as', h1, h2⟩ := q.join t fun a m z => dj a m (List.mem_append_right _ z)
    refine ⟨c1 ++ as', .yes p r h1 fun a m z => ?_, fun a m => ?_⟩
    · rcases h2 a z with z | z
      · exact dj a z (List.mem_append_left _ m)
      · exact d a m z
    · rcases List.mem_append.mp m with m | m
      · exact .inr (List.mem_append_left _ m)
      · exact (h2 a m).imp id (List.mem_append_right _)
end
end Vi

set_option Elab.async false
set_option linter.all false
set_option maxRecDepth 100000
set_option maxHeartbeats 2000000
/-! Vi3: results, what readings tell of them (RdE, RdA, RdT, RdS), operands. -/
namespace Vi
open PySem PySem.Spec L2

/-- a result: something, or an exception of the class c with its fields -/
inductive R (α : Type) where
  | ok (a : α)
  | ex (c : Nat) (fs : List (Str × D))
/-- none: not served -/
abbrev M (α : Type) := Option (R α)
def M.ret {α : Type} (a : α) : M α := some (.ok a)
def M.bind {α β : Type} (x : M α) (k : α → M β) : M β := match x with
  | none => none
  | some (.ex c fs) => some (.ex c fs)
  | some (.ok a) => k a
def M.of {α : Type} (x : Option α) : M α := match x with
  | none => none
  | some a => some (.ok a)
@[simp] theorem M.bind_ok {α β : Type} (a : α) (k : α → M β) : M.bind (some (.ok a)) k = k a := rfl
@[simp] theorem M.bind_ret {α β : Type} (a : α) (k : α → M β) : M.bind (M.ret a) k = k a := rfl
@[simp] theorem M.bind_none {α β : Type} (k : α → M β) : M.bind (none : M α) k = none := rfl
@[simp] theorem M.bind_ex {α β : Type} (c : Nat) (fs : List (Str × D)) (k : α → M β) : M.bind (some (.ex c fs) : M α) k = some (.ex c fs) := rfl
@[simp] theorem M.of_some {α : Type} (a : α) : M.of (some a) = some (.ok a) := rfl
@[simp] theorem M.of_none {α : Type} : M.of (none : Option α) = none := rfl
theorem M.bind_some {α β : Type} {x : M α} {k : α → M β} {r : R β} (h : M.bind x k = some r) : (∃ c fs, x = some (.ex c fs) ∧ r = .ex c fs) ∨ ∃ a, x = some (.ok a) ∧ k a = some r := by
  cases x with
  | none => cases h
  | some q =>
    cases q with
    | ex c fs => exact .inl ⟨c, fs, rfl, (Option.some.inj h).symm⟩
    | ok a => exact .inr ⟨a, rfl, h⟩

/-- an operand: a thing (held by nobody else), or what the slot i holds when the operation is done -/
inductive Lr where
  | t (o : O)
  | s (i : Nat)
/-- what an operand is -/
def Lr.view (env : Vn) : Lr → Option D
  | .t o => some o.fz
  | .s i => match env[i]? with
    | some ⟨_, some o⟩ => some o.fz
    | _ => none
def views (env : Vn) : List Lr → Option (List D)
  | [] => some []
  | l :: r => match l.view env, views env r with
    | some d, some ds => some (d :: ds)
    | _, _ => none

section
variable (G : Gt) (K : PySem.W.Frag)
/-- an exception's end -/
def PoX (W : WX) (F H : Hp) (as : List Addr) (σ : L2.St) (c : Nat) (fs : List (Str × D)) : Prop :=
  ∀ (d : Addr) (F' H' : Hp) (fv : List (Str × V)) (ts : List Addr), Step F H as F' H' ts → TabR F' H' G.tab ts → H' d = some (.xd fv) → RepF G K F' fv fs → W (.ref (G.cls c)) (some d) σ H'
def PoE (W : WX) (F H : Hp) (as : List Addr) (σ0 σ : L2.St) (Q : VK) : R (O × Vn) → Prop
  | .ok (o, env') => ∀ (v : V) (F' H' : Hp) (bs as' : List Addr), Step F H as F' H' (bs ++ as') → EnvR G K F' H' σ0 σ env' as' → RepO G K F' H' v o bs → (∀ a ∈ bs, a ∉ as') → Q v H'
  | .ex c fs => PoX G K W F H as σ c fs
def RdE (W : WX) (t : TE) (f : Vn → M (O × Vn)) : Prop :=
  ∀ (σ0 σ : L2.St) (F H : Hp) (env : Vn) (as : List Addr) (r : R (O × Vn)) (Q : VK), Ex F H → EnvR G K F H σ0 σ env as → f env = some r → PoE G K W F H as σ0 σ Q r → t σ H Q
/-- the operands as they stand at the end -/
inductive LRs (F H : Hp) (σ : L2.St) : List V → List Lr → List Addr → Prop
  | nil : LRs F H σ [] [] []
  | t {v : V} {o : O} {vs : List V} {rs : List Lr} {as bs : List Addr} : RepO G K F H v o as → LRs F H σ vs rs bs → (∀ a ∈ as, a ∉ bs) → LRs F H σ (v :: vs) (.t o :: rs) (as ++ bs)
  | s {v : V} {i : Nat} {vs : List V} {rs : List Lr} {bs : List Addr} : σ[i]? = some (some v) → LRs F H σ vs rs bs → LRs F H σ (v :: vs) (.s i :: rs) bs
def PoA (W : WX) (F H : Hp) (as : List Addr) (σ0 σ : L2.St) (Q : List V → Hp → Prop) : R (List Lr × Vn) → Prop
  | .ok (rs, env') => ∀ (vs : List V) (F' H' : Hp) (bs as' : List Addr), Step F H as F' H' (bs ++ as') → EnvR G K F' H' σ0 σ env' as' → LRs G K F' H' σ vs rs bs → (∀ a ∈ bs, a ∉ as') → Q vs H'
  | .ex c fs => PoX G K W F H as σ c fs
def RdA (W : WX) (t : TA) (f : Vn → M (List Lr × Vn)) : Prop :=
  ∀ (σ0 σ : L2.St) (F H : Hp) (env : Vn) (as : List Addr) (r : R (List Lr × Vn)) (Q : List V → Hp → Prop), Ex F H → EnvR G K F H σ0 σ env as → f env = some r → PoA G K W F H as σ0 σ Q r → t σ H Q
def PoT (W : WX) (F H : Hp) (as : List Addr) (σ0 σ : L2.St) (Q : Bool → Hp → Prop) : R (Bool × Vn) → Prop
  | .ok (b, env') => ∀ (F' H' : Hp) (as' : List Addr), Step F H as F' H' as' → EnvR G K F' H' σ0 σ env' as' → Q b H'
  | .ex c fs => PoX G K W F H as σ c fs
def RdT (W : WX) (t : TT) (f : Vn → M (Bool × Vn)) : Prop :=
  ∀ (σ0 σ : L2.St) (F H : Hp) (env : Vn) (as : List Addr) (r : R (Bool × Vn)) (Q : Bool → Hp → Prop), Ex F H → EnvR G K F H σ0 σ env as → f env = some r → PoT G K W F H as σ0 σ Q r → t σ H Q
end
/-- a statement's end -/
inductive Fl where
  | nx | bk | ct
  | rt (o : O)
section
variable (G : Gt) (K : PySem.W.Frag)
def PoS (W : WX) (F H : Hp) (as : List Addr) (σ0 : L2.St) (D : Ends) : R (Fl × Vn) → Prop
  | .ok (.nx, env') => ∀ (σ' : L2.St) (F' H' : Hp) (as' : List Addr), Step F H as F' H' as' → EnvR G K F' H' σ0 σ' env' as' → D.nx σ' H'
  | .ok (.bk, env') => ∀ (σ' : L2.St) (F' H' : Hp) (as' : List Addr), Step F H as F' H' as' → EnvR G K F' H' σ0 σ' env' as' → D.bk σ' H'
  | .ok (.ct, env') => ∀ (σ' : L2.St) (F' H' : Hp) (as' : List Addr), Step F H as F' H' as' → EnvR G K F' H' σ0 σ' env' as' → D.ct σ' H'
  | .ok (.rt o, env') => ∀ (v : V) (σ' : L2.St) (F' H' : Hp) (bs as' : List Addr), Step F H as F' H' (bs ++ as') → EnvR G K F' H' σ0 σ' env' as' → RepO G K F' H' v o bs → (∀ a ∈ bs, a ∉ as') → D.rt v H'
  | .ex c fs => ∀ (σ' : L2.St), PoX G K W F H as σ' c fs
def RdS (W : WX) (t : TS) (f : Vn → M (Fl × Vn)) : Prop :=
  ∀ (σ0 σ : L2.St) (F H : Hp) (env : Vn) (as : List Addr) (r : R (Fl × Vn)) (D : Ends), Ex F H → EnvR G K F H σ0 σ env as → f env = some r → PoS G K W F H as σ0 D r → t D σ H
end

section
variable {G : Gt} {K : PySem.W.Frag} {W : WX}
theorem PoX.step {F H F1 H1 : Hp} {as as1 : List Addr} {σ : L2.St} {c : Nat} {fs : List (Str × D)} (h : PoX G K W F H as σ c fs) (s : Step F H as F1 H1 as1) : PoX G K W F1 H1 as1 σ c fs :=
  fun d F' H' fv ts s' tb hd r => h d F' H' fv ts (s.trans s') tb hd r
theorem PoX.more {F H : Hp} {as bs : List Addr} {σ : L2.St} {c : Nat} {fs : List (Str × D)} (h : PoX G K W F H as σ c fs) (m : ∀ b ∈ bs, b ∈ as) : PoX G K W F H bs σ c fs :=
  fun d F' H' fv ts s' tb hd r => h d F' H' fv ts (s'.more m) tb hd r
theorem LRs.frame {F H F' H' : Hp} {σ : L2.St} {as bs : List Addr} (s : Step F H as F' H' bs) : ∀ {vs : List V} {rs : List Lr} {cs : List Addr}, LRs G K F H σ vs rs cs → (∀ a ∈ cs, a ∉ as) → LRs G K F' H' σ vs rs cs
  | _, _, _, .nil, _ => .nil
  | _, _, _, .t r q d, h => .t (s.frameO r fun a m => h a (List.mem_append_left _ m)) (q.frame s fun a m => h a (List.mem_append_right _ m)) d
  | _, _, _, .s e q, h => .s e (q.frame s h)
theorem LRs.off {F H : Hp} {σ : L2.St} : ∀ {vs : List V} {rs : List Lr} {cs : List Addr}, LRs G K F H σ vs rs cs → ∀ a ∈ cs, F a = none ∧ ∃ u, H a = some u
  | _, _, _, .nil, a, h => by simp at h
  | _, _, _, .t r q d, a, h => by
    rcases List.mem_append.mp h with h | h
    · exact r.off a h
    · exact q.off a h
  | _, _, _, .s e q, a, h => q.off a h
/-- a value as data -/
def Vw (G : Gt) (K : PySem.W.Frag) (F H : Hp) (v : V) (d : D) : Prop := ∃ o as, RepO G K F H v o as ∧ o.fz = d
inductive Vws (G : Gt) (K : PySem.W.Frag) (F H : Hp) : List V → List D → Prop
  | nil : Vws G K F H [] []
  | cons {v : V} {d : D} {vs : List V} {ds : List D} : Vw G K F H v d → Vws G K F H vs ds → Vws G K F H (v :: vs) (d :: ds)
theorem LRs.views {F H : Hp} {σ0 σ : L2.St} {env : Vn} {as : List Addr} (e : EnvR G K F H σ0 σ env as) : ∀ {vs : List V} {rs : List Lr} {cs : List Addr} {ds : List D}, LRs G K F H σ vs rs cs → Vi.views env rs = some ds → Vws G K F H vs ds
  | _, _, _, _, .nil, h => by
    cases h
    exact .nil
  | _, _, _, ds, .t (o := o) (rs := rs) r q d, h => by
    unfold Vi.views at h
    have e1 : (Lr.t o).view env = some o.fz := rfl
    rw [e1] at h
    cases hq : Vi.views env rs with
    | none =>
      rw [hq] at h
      cases h
    | some es =>
      rw [hq] at h
      cases h
      exact .cons ⟨_, _, r, rfl⟩ (q.views e hq)
  | _, _, _, ds, .s (i := i) (rs := rs) hs q, h => by
    unfold Vi.views at h
    cases hv : (Lr.s i).view env with
    | none =>
      rw [hv] at h
      cases h
    | some d1 =>
      rw [hv] at h
      cases hq : Vi.views env rs with
      | none =>
        rw [hq] at h
        cases h
      | some es =>
        rw [hq] at h
        cases h
        dsimp only [Lr.view] at hv
        cases hx : env[i]? with
        | none =>
          rw [hx] at hv
          cases hv
        | some sl =>
          obtain ⟨p, x⟩ := sl
          rw [hx] at hv
          cases x with
          | none => cases hv
          | some o =>
            cases hv
            obtain ⟨v', a1, h1, h2, _⟩ := e.at hx
            rw [h1] at hs
            cases hs
            exact .cons ⟨_, _, h2, rfl⟩ (q.views e hq)
/-! ### what a view says -/
theorem Vw.int {F H : Hp} {v : V} {n : Int} (h : Vw G K F H v (.int n)) : v = .int n := by
  obtain ⟨o, as, r, e⟩ := h
  cases o with
  | v d =>
    cases r with
    | v r =>
      unfold O.fz at e
      subst e
      cases r
      rfl
  | l _ => cases e
  | d _ => cases e
  | t _ => cases e
  | o _ _ => cases e
theorem Vw.bl {F H : Hp} {v : V} {n : Bool} (h : Vw G K F H v (.bl n)) : v = .bl n := by
  obtain ⟨o, as, r, e⟩ := h
  cases o with
  | v d =>
    cases r with
    | v r =>
      unfold O.fz at e
      subst e
      cases r
      rfl
  | l _ => cases e
  | d _ => cases e
  | t _ => cases e
  | o _ _ => cases e
theorem Vw.str {F H : Hp} {v : V} {n : Str} (h : Vw G K F H v (.str n)) : v = .str n := by
  obtain ⟨o, as, r, e⟩ := h
  cases o with
  | v d =>
    cases r with
    | v r =>
      unfold O.fz at e
      subst e
      cases r
      rfl
  | l _ => cases e
  | d _ => cases e
  | t _ => cases e
  | o _ _ => cases e
theorem Vw.non {F H : Hp} {v : V} (h : Vw G K F H v .non) : v = .non := by
  obtain ⟨o, as, r, e⟩ := h
  cases o with
  | v d =>
    cases r with
    | v r =>
      unfold O.fz at e
      subst e
      cases r
      rfl
  | l _ => cases e
  | d _ => cases e
  | t _ => cases e
  | o _ _ => cases e
theorem Vw.lst {F H : Hp} {v : V} {ds : List D} (ex : Ex F H) (h : Vw G K F H v (.lst ds)) : ∃ a vs, v = .ref a ∧ Rd H a (.lst vs) ∧ Reps G K F vs ds := by
  obtain ⟨o, as, r, e⟩ := h
  cases o with
  | v d =>
    cases r with
    | v r =>
      unfold O.fz at e
      subst e
      cases r with
      | lst h r => exact ⟨_, _, rfl, ex.rd h, r⟩
  | l _ =>
    cases e
    cases r with
    | l h1 h2 r => exact ⟨_, _, rfl, .inl h1, r⟩
  | d _ => cases e
  | t _ => cases e
  | o _ _ => cases e
theorem Vw.tup {F H : Hp} {v : V} {ds : List D} (ex : Ex F H) (h : Vw G K F H v (.tup ds)) : ∃ a vs, v = .ref a ∧ SqT K H a vs ∧ Reps G K F vs ds ∧ SqT K F a vs := by
  obtain ⟨o, as, r, e⟩ := h
  cases o with
  | v d =>
    cases r with
    | v r =>
      unfold O.fz at e
      subst e
      cases r with
      | tup h r => exact ⟨_, _, rfl, ex.t h, r, h⟩
  | l _ => cases e
  | d _ => cases e
  | t _ => cases e
  | o _ _ => cases e
theorem Vw.dic {F H : Hp} {v : V} {ds : List (Key × D)} (ex : Ex F H) (h : Vw G K F H v (.dic ds)) : ∃ a ks, v = .ref a ∧ H a = some (.dK ks) ∧ RepK G K F ks ds := by
  obtain ⟨o, as, r, e⟩ := h
  cases o with
  | v d =>
    cases r with
    | v r =>
      unfold O.fz at e
      subst e
      cases r with
      | dic h r => exact ⟨_, _, rfl, ex _ _ h, r⟩
  | l _ => cases e
  | d _ =>
    cases e
    cases r with
    | d h1 h2 r => exact ⟨_, _, rfl, h1, r⟩
  | t _ => cases e
  | o _ _ => cases e
theorem Vw.dit {F H : Hp} {v : V} {ds : List (List Key × D)} (ex : Ex F H) (h : Vw G K F H v (.dit ds)) : ∃ a ks, v = .ref a ∧ H a = some (.dT ks) ∧ RepT G K F ks ds := by
  obtain ⟨o, as, r, e⟩ := h
  cases o with
  | v d =>
    cases r with
    | v r =>
      unfold O.fz at e
      subst e
      cases r with
      | dit h r => exact ⟨_, _, rfl, ex _ _ h, r⟩
  | l _ => cases e
  | t _ =>
    cases e
    cases r with
    | t h1 h2 r => exact ⟨_, _, rfl, h1, r⟩
  | d _ => cases e
  | o _ _ => cases e
theorem Vw.obj {F H : Hp} {v : V} {c : Nat} {ds : List (Str × D)} (ex : Ex F H) (h : Vw G K F H v (.obj c ds)) : ∃ a dx fs, v = .ref a ∧ H a = some (.ins (G.cls c) dx fs) := by
  obtain ⟨o, as, r, e⟩ := h
  cases o with
  | v d =>
    cases r with
    | v r =>
      unfold O.fz at e
      subst e
      cases r with
      | obj h r => exact ⟨_, _, _, rfl, ex _ _ h⟩
  | l _ => cases e
  | d _ => cases e
  | t _ => cases e
  | o _ _ =>
    cases e
    cases r with
    | o h1 h2 r m => exact ⟨_, _, _, rfl, h1⟩
theorem Vw.fn {F H : Hp} {v : V} {f : Nat} (h : Vw G K F H v (.fn f)) : v = .ref (G.fn f) := by
  obtain ⟨o, as, r, e⟩ := h
  cases o with
  | v d =>
    cases r with
    | v r =>
      unfold O.fz at e
      subst e
      cases r
      rfl
  | l _ => cases e
  | d _ => cases e
  | t _ => cases e
  | o _ _ => cases e
end
end Vi

set_option Elab.async false
set_option linter.all false
set_option maxRecDepth 100000
set_option maxHeartbeats 2000000
/-! Vi4: names, constants, freezing, operand lists, operations on views. -/
namespace Vi
open PySem PySem.Spec L2

/-! ### what evaluates how -/
/-- a constant -/
def vLit (d : D) : Vn → M (O × Vn) := fun env => some (.ok (.v d, env))
/-- a name, its content shared from now on -/
def vRd (i : Nat) : Vn → M (O × Vn) := fun env => match env[i]? with
  | some ⟨p, some o⟩ => some (.ok (.v o.fz, env.set i ⟨p, some (.v o.fz)⟩))
  | _ => none
/-- a name whose content goes -/
def vMv (i : Nat) : Vn → M (O × Vn) := fun env => match env[i]? with
  | some ⟨false, some o⟩ => some (.ok (o, env.set i ⟨false, none⟩))
  | _ => none
/-- shared from now on -/
def vFz (f : Vn → M (O × Vn)) : Vn → M (O × Vn) := fun env => M.bind (f env) fun (o, e) => M.ret (.v o.fz, e)
/-- operands -/
def vNil : Vn → M (List Lr × Vn) := fun env => some (.ok ([], env))
def vEx (f : Vn → M (O × Vn)) (g : Vn → M (List Lr × Vn)) : Vn → M (List Lr × Vn) := fun env => M.bind (f env) fun (o, e) => M.bind (g e) fun (rs, e2) => M.ret (.t o :: rs, e2)
def vSl (i : Nat) (g : Vn → M (List Lr × Vn)) : Vn → M (List Lr × Vn) := fun env => match env[i]? with
  | some ⟨_, some _⟩ => M.bind (g env) fun (rs, e2) => M.ret (.s i :: rs, e2)
  | _ => none
/-- an operation on what operands are -/
def vOp (run : List D → Option O) (g : Vn → M (List Lr × Vn)) : Vn → M (O × Vn) := fun env => M.bind (g env) fun (rs, e) => match views e rs with
  | some ds => match run ds with
    | some o => M.ret (o, e)
    | none => none
  | none => none

section
variable {G : Gt} {K : PySem.W.Frag} {W : WX} {X : Cx}
/-- what an operation on values asks, by what they are -/
def OpOk (G : Gt) (K : PySem.W.Frag) (r : List V → Hp → VK → Prop) (run : List D → Option O) : Prop :=
  ∀ (F H : Hp) (vs : List V) (ds : List D) (o : O) (Q : VK), Ex F H → Vws G K F H vs ds → run ds = some o →
    (∀ (v : V) (F' H' : Hp) (bs : List Addr), Step F H [] F' H' bs → RepO G K F' H' v o bs → Q v H') → r vs H Q

theorem rd_lit {v : V} {d : D} (h : ∀ F, Rep G K F v d) : RdE G K W (tC v) (vLit d) := by
  intro σ0 σ F H env as r Q ex er he po
  cases he
  exact po v F H [] as (Step.refl ex) er (.v (h F)) (fun a z => by simp at z)
theorem fz_step {F H : Hp} {v : V} {o : O} {a1 as : List Addr} (ex : Ex F H) (r : RepO G K F H v o a1) (m : ∀ a ∈ a1, a ∈ as) {bs : List Addr} (hb : ∀ b ∈ bs, b ∈ as) : Step F H as (froze F H a1) H bs ∧ Rep G K (froze F H a1) v o.fz := by
  have n : ∀ a ∈ a1, F a = none := fun a h => (r.off a h).1
  exact ⟨⟨froze_ex n, froze_sub ex, fun _ _ h _ => h, fun b h => .inl (hb b h), fun b u h => by
    by_cases q : b ∈ a1
    · exact .inr (.inl (m b q))
    · rw [froze_off q] at h
      exact .inl h⟩, r.froz (froze_ex n) froze_at⟩
theorem rd_rd {i : Nat} : RdE G K W (tVar i) (vRd i) := by
  intro σ0 σ F H env as r Q ex er he po
  unfold vRd at he
  cases hx : env[i]? with
  | none =>
    rw [hx] at he
    cases he
  | some sl =>
    obtain ⟨p, x⟩ := sl
    rw [hx] at he
    cases x with
    | none => cases he
    | some o =>
      cases he
      obtain ⟨v, a1, h1, h2, h3, rest, h4, h5, h6⟩ := er.at hx
      obtain ⟨st, rp⟩ := fz_step ex h2 h3 (bs := as) fun b h => h
      have fr : ∀ b ∈ rest, froze F H a1 b = none := fun b h => by
        rw [froze_off (h4 b h).2]
        exact (er.off b (h4 b h).1).1
      obtain ⟨as', e1, e2⟩ := h6 (F' := froze F H a1) (H' := H) (o' := some (.v o.fz)) (b1 := []) st.ex (fun _ _ _ h => h) fr (fun x e => by
        cases e
        exact .v rp) (fun a z => by simp at z)
      refine ⟨v, h1, po v (froze F H a1) H [] as' (st.less fun b h => ?_) e1 (.v rp) (fun a z => by simp at z)⟩
      rcases e2 b (by simpa using h) with z | z
      · simp at z
      · exact (h4 b z).1
theorem rd_mv {i : Nat} : RdE G K W (tVar i) (vMv i) := by
  intro σ0 σ F H env as r Q ex er he po
  unfold vMv at he
  cases hx : env[i]? with
  | none =>
    rw [hx] at he
    cases he
  | some sl =>
    obtain ⟨p, x⟩ := sl
    rw [hx] at he
    cases x with
    | none => cases p <;> cases he
    | some o =>
      cases p with
      | true => cases he
      | false =>
        cases he
        obtain ⟨v, a1, h1, h2, h3, rest, h4, h5, h6⟩ := er.at hx
        have fr : ∀ b ∈ rest, F b = none := fun b h => (er.off b (h4 b h).1).1
        obtain ⟨as', e1, e2⟩ := h6 (F' := F) (H' := H) (o' := none) (b1 := []) (Ex.refl F) (fun _ _ _ h => h) fr (fun x e => by cases e) (fun a z => by simp at z)
        refine ⟨v, h1, po v F H a1 as' ((Step.refl ex).less fun b h => ?_) e1 h2 fun a h z => ?_⟩
        · rcases List.mem_append.mp h with h | h
          · exact h3 b h
          · rcases e2 b h with z | z
            · simp at z
            · exact (h4 b z).1
        · rcases e2 a z with z | z
          · simp at z
          · exact (h4 a z).2 h
theorem rd_fz {t : TE} {f : Vn → M (O × Vn)} (h : RdE G K W t f) : RdE G K W t (vFz f) := by
  intro σ0 σ F H env as r Q ex er he po
  unfold vFz at he
  rcases M.bind_some he with ⟨c, fs, e, rfl⟩ | ⟨⟨o, e1⟩, e, q⟩
  · exact h σ0 σ F H env as _ Q ex er e po
  · cases q
    refine h σ0 σ F H env as _ Q ex er e fun v F' H' bs as' st er' r' d => ?_
    obtain ⟨st2, rp⟩ := fz_step st.sub r' (as := bs ++ as') (fun a m => List.mem_append_left _ m) (bs := as') fun b h => List.mem_append_right _ h
    refine po v (froze F' H' bs) H' [] as' (st.trans st2) (er'.frame st2.ex (fun _ _ _ h => h) fun a m => ?_) (.v rp) fun a z => by simp at z
    rw [froze_off fun z => d a z m]
    exact (er'.off a m).1
theorem rd_nil : RdA G K W tNil vNil := by
  intro σ0 σ F H env as r Q ex er he po
  cases he
  exact po [] F H [] as (Step.refl ex) er .nil fun a z => by simp at z
theorem rd_ex {t : TE} {u : TA} {f : Vn → M (O × Vn)} {g : Vn → M (List Lr × Vn)} (h : RdE G K W t f) (k : RdA G K W u g) : RdA G K W (tCons t u) (vEx f g) := by
  intro σ0 σ F H env as r Q ex er he po
  unfold vEx at he
  rcases M.bind_some he with ⟨c, fs, e, rfl⟩ | ⟨⟨o, e1⟩, e, q⟩
  · exact h σ0 σ F H env as _ _ ex er e po
  · refine h σ0 σ F H env as _ _ ex er e fun v F1 H1 bs as1 st er1 r1 d => ?_
    rcases M.bind_some q with ⟨c, fs, e2, rfl⟩ | ⟨⟨rs, e3⟩, e2, q2⟩
    · exact k σ0 σ F1 H1 e1 as1 _ _ st.sub er1 e2 (PoX.more (PoX.step po st) fun b m => List.mem_append_right _ m)
    · cases q2
      refine k σ0 σ F1 H1 e1 as1 _ _ st.sub er1 e2 fun vs F2 H2 cs as2 st2 er2 r2 d2 => ?_
      have a1 : ∀ x ∈ bs, x ∉ cs ++ as2 := st2.apart r1 d
      refine po (v :: vs) F2 H2 (bs ++ cs) as2 ⟨st.ex.trans st2.ex, st2.sub, fun b u hb n => ?_, fun b hb => ?_, fun b u hb => ?_⟩ er2 (.t (st2.frameO r1 d) r2 fun a m z => a1 a m (List.mem_append_left _ z)) fun a m z => ?_
      · have z := (st.trans (st2.more (cs := bs ++ as1) fun b m => List.mem_append_right _ m)).keep b u hb n
        exact z
      · rcases List.mem_append.mp hb with hb | hb
        · rcases List.mem_append.mp hb with hb | hb
          · exact st.own b (List.mem_append_left _ hb)
          · exact (st.trans (st2.more (cs := bs ++ as1) fun b m => List.mem_append_right _ m)).own b (List.mem_append_left _ hb)
        · exact (st.trans (st2.more (cs := bs ++ as1) fun b m => List.mem_append_right _ m)).own b (List.mem_append_right _ hb)
      · exact (st.trans (st2.more (cs := bs ++ as1) fun b m => List.mem_append_right _ m)).fr b u hb
      · rcases List.mem_append.mp m with m | m
        · exact a1 a m (List.mem_append_right _ z)
        · exact d2 a m z
theorem rd_sl {i : Nat} {u : TA} {g : Vn → M (List Lr × Vn)} (k : RdA G K W u g) : RdA G K W (tCons (tVar i) u) (vSl i g) := by
  intro σ0 σ F H env as r Q ex er he po
  unfold vSl at he
  cases hx : env[i]? with
  | none =>
    rw [hx] at he
    cases he
  | some sl =>
    obtain ⟨p, x⟩ := sl
    rw [hx] at he
    cases x with
    | none => cases he
    | some o =>
      dsimp only at he
      obtain ⟨v, a1, h1, _⟩ := er.at hx
      refine ⟨v, h1, ?_⟩
      rcases M.bind_some he with ⟨c, fs, e2, rfl⟩ | ⟨⟨rs, e3⟩, e2, q2⟩
      · exact k σ0 σ F H env as _ _ ex er e2 po
      · cases q2
        exact k σ0 σ F H env as _ _ ex er e2 fun vs F2 H2 cs as2 st2 er2 r2 d2 => po (v :: vs) F2 H2 cs as2 st2 er2 (.s h1 r2) d2
theorem Step.beside {F H F' H' : Hp} {cs : List Addr} (a : Step F H [] F' H' cs) (as : List Addr) : Step F H as F' H' (cs ++ as) where
  ex := a.ex
  sub := a.sub
  keep := fun b u h _ => a.keep b u h (by simp)
  own := fun b hb => by
    rcases List.mem_append.mp hb with q | q
    · rcases a.own b q with z | z
      · simp at z
      · exact .inr z
    · exact .inl q
  fr := fun b u h => by
    rcases a.fr b u h with z | z | z
    · exact .inl z
    · simp at z
    · exact .inr (.inr z)
/-- an operation behind its operands -/
theorem rd_op {t : TA} {r0 : List V → Hp → VK → Prop} {run : List D → Option O} {g : Vn → M (List Lr × Vn)} (h : RdA G K W t g) (ok : OpOk G K r0 run) : RdE G K W (fun σ H Q => t σ H fun vs H1 => r0 vs H1 Q) (vOp run g) := by
  intro σ0 σ F H env as r Q ex er he po
  unfold vOp at he
  rcases M.bind_some he with ⟨c, fs, e, rfl⟩ | ⟨⟨rs, e1⟩, e, q⟩
  · exact h σ0 σ F H env as _ _ ex er e po
  · refine h σ0 σ F H env as _ _ ex er e fun vs F1 H1 bs as1 st er1 r1 d => ?_
    dsimp only at q
    cases hv : views e1 rs with
    | none =>
      rw [hv] at q
      cases q
    | some ds =>
      rw [hv] at q
      dsimp only at q
      cases hr : run ds with
      | none =>
        rw [hr] at q
        cases q
      | some o =>
        rw [hr] at q
        cases q
        refine ok F1 H1 vs ds o Q st.sub (r1.views er1 hv) hr fun v F2 H2 cs st2 r2 => ?_
        refine po v F2 H2 cs as1 ((st.less fun b m => List.mem_append_right _ m).trans (st2.beside as1)) (st2.frameE er1 fun x _ z => by simp at z) r2 fun a m z => ?_
        obtain ⟨_, u, hu⟩ := er1.off a z
        rcases st2.own a m with y | y
        · simp at y
        · rw [hu] at y
          cases y
end
end Vi

set_option Elab.async false
set_option linter.all false
set_option maxRecDepth 100000
set_option maxHeartbeats 2000000
/-! Vi5: defs that are run where no display is being written (FnG), their calls, binding. -/
namespace Vi
open PySem PySem.Spec L2
open PyProof.Rows hiding St

/-! ### plain binding -/
theorem look_zip {x : Str} : ∀ {ps : List Str} {us : List Value}, x ∈ ps → us.length = ps.length → ∃ u, (ps.zip us).lookup x = some u
  | [], _, h, _ => by simp at h
  | p :: ps, [], _, hl => by simp at hl
  | p :: ps, u :: us, h, hl => by
    rw [List.zip_cons_cons, List.lookup_cons]
    cases hb : x == p with
    | true => exact ⟨u, rfl⟩
    | false =>
      rcases List.mem_cons.mp h with e | h
      · subst e
        simp at hb
      · exact look_zip h (by simpa using hl)
theorem zip_map {ps : List Str} {us : List Value} : ∀ (qs : List Str) (ws : List Value) (pre : List (Str × Value)), ps.Nodup → us.length = ps.length → (∀ x ∈ qs, pre.lookup x = none) → qs.Nodup → ws.length = qs.length →
    qs.filterMap (fun n => ((pre ++ qs.zip ws).lookup n).map (n, ·)) = qs.zip ws
  | [], _, _, _, _, _, _, _ => rfl
  | q :: qs, [], _, _, _, _, _, hl => by simp at hl
  | q :: qs, w :: ws, pre, hn, hu, hp, nd, hl => by
    have h0 : (pre ++ (q :: qs).zip (w :: ws)).lookup q = some w := by
      rw [List.lookup_append, hp q List.mem_cons_self]
      simp [List.lookup_cons]
    rw [List.filterMap_cons, h0]
    simp only [Option.map_some]
    rw [List.zip_cons_cons]
    have e : pre ++ (q, w) :: qs.zip ws = (pre ++ [(q, w)]) ++ qs.zip ws := by simp
    rw [e]
    congr 1
    refine zip_map qs ws _ hn hu (fun x hx => ?_) (List.nodup_cons.mp nd).2 (by simpa using hl)
    rw [List.lookup_append, hp x (List.mem_cons_of_mem _ hx)]
    have ne : (x == q) = false := by
      cases hb : x == q with
      | false => rfl
      | true =>
        have : x = q := by simpa using hb
        subst this
        exact absurd hx (List.nodup_cons.mp nd).1
    simp [List.lookup_cons, ne]
theorem bind_plain {fd : FuncData} {ps : List Str} (h1 : fd.params.posonlyargs = []) (h2 : fd.params.args.map (·.arg) = ps) (h3 : fd.params.vararg = none) (h4 : fd.params.kwonlyargs = []) (h5 : fd.params.kwarg = none) (h6 : fd.defaults = .none) (nd : ps.Nodup)
    (us : List Value) (hl : us.length = ps.length) : bindArgs fd ⟨us, []⟩ = pure (ps.zip us) := by
  have e1 : seqItems? Value.none = (pure none : Sem (Option (Array Value))) := rfl
  have m1 : ¬ (us.length > ps.length) := by omega
  have m2 : (ps.filter fun n => ((ps.zip us).lookup n).isNone) = [] := by
    rw [List.filter_eq_nil_iff]
    intro x hx
    obtain ⟨u, hu⟩ := look_zip hx hl
    simp [hu]
  have m3 : ps.filterMap (fun n => ((ps.zip us).lookup n).map (n, ·)) = ps.zip us := zip_map (ps := ps) (us := us) ps us [] nd hl (fun _ _ => rfl) nd hl
  simp [bindArgs, h1, h2, h3, h4, h5, h6, e1, m1, m2, m3]

section
variable {P : Program} {w : World} {K : PySem.W.Frag} {mg : Str → Option Value} {base : Heap}
/-- a def's promise, where no display is being written -/
structure FnG (P : Program) (w : World) (K : PySem.W.Frag) (mg : Str → Option Value) (base : Heap) (k : Nat) (f : Addr) (fd : FuncData) (ps : List Str) (sp : Sp) : Prop where
  len : ∀ vs H Q E, sp vs H Q E → vs.length = ps.length
  run : ∀ (A : Around) (outer : List PySem.Env) (s : Shared) (H : Hp) (args : Args) (us : List Value) (vs : List V) (Q : VK) (E : XK), Room k A → A.guards = some [] → Env0 P w K mg base A outer s H → BindsTo s fd args (ps.zip us) → Vals vs us → sp vs H Q E →
    codeAny (model P w) A (.call (.ref f) args) (CR (L2.CX P w) outer P w H s Q E) s
theorem FnG.imp {k : Nat} {f : Addr} {fd : FuncData} {ps : List Str} {sp sp' : Sp} (F : FnG P w K mg base k f fd ps sp) (h : ∀ vs H Q E, sp' vs H Q E → sp vs H Q E) : FnG P w K mg base k f fd ps sp' :=
  ⟨fun vs H Q E q => F.len vs H Q E (h _ _ _ _ q), fun A outer s H args us vs Q E hr hg he hb hv hs => F.run A outer s H args us vs Q E hr hg he hb hv (h _ _ _ _ hs)⟩
/-- a def of the text, by its body -/
theorem fg_ofC {x qual : Str} {params : Arguments} {body : List Stmt} {scope : Scope} {f : Addr} {fd : FuncData} {N ps : List Str} {k : Nat} {sp : Sp} (F : FunD K x qual params body scope [] [] f fd) (S : FnScope N ps scope)
    (len : ∀ vs H Q E, sp vs H Q E → vs.length = ps.length)
    (hbody : ∀ (A : Around) (outer : List PySem.Env) (s : Shared) (H : Hp) (vs : List V) (Q : VK) (E : XK), Room k (A.deeper (envOfC qual scope s.heap.objs.size f fd.code)) → A.guards = some [] → sp vs H Q E →
      ∃ t, PSs (cxOf (L2.CX P w) P w K mg base N qual scope f fd.code A outer s H E) body t ∧ t { nx := fun _ H' => Q .non H', rt := Q } (start N vs) H) : FnG P w K mg base (k + 1) f fd ps sp := by
  obtain ⟨oc, od, dV, kV, doc, pm, an, cdv, ct, osl, rfl, lk, hcd, _, _⟩ := F.ex
  refine ⟨len, fun A outer s H args us vs Q E hr hg e0 hb rv hsp => ?_⟩
  have KX : K.In s.heap := e0.mod.kin.keeps fun b o e => (e0.bs b o e).1
  have lim : s.heap.NoLimit := e0.mod.nolimit.keeps fun b o e => (e0.bs b o e).1
  have known : ∀ y ∈ ps.zip us, scope.names.lookup y.1 = some .local ∨ (scope.names.lookup y.1 = some .cell ∧ ((cellsFrom (s.heap.objs.size + 1) scope.names []).lookup y.1).isSome = true) := by
    rintro ⟨n, v⟩ hy
    rcases S.par n (List.of_mem_zip hy).1 with q | q
    · exact .inl q
    · exact .inr ⟨q, PySem.W.cellsFrom_some _ _ _ (.inl q)⟩
  refine codeAny_call_function hr.depth (KX _ _ lk) rfl S.co S.gen rfl
    (PySem.W.codeRec_of KX hcd) (hb _ _ _ _ ?_)
  refine wpAny_newFunctionEnv_cells S.kind known
    fun env he s1 xc => ?_
  subst he
  refine ⟨lim.keeps xc.toInCall.keep, codeAny_func ?_⟩
  obtain ⟨t, ht, hq⟩ := hbody A outer s H vs Q E (hr.deeper _) hg hsp
  have I0 : L2.Inv (cxOf (L2.CX P w) P w K mg base N qual scope f cdv A outer s H E) [] (start N vs) H s1 :=
    inv_start S hr.hd e0 (len _ _ _ _ hsp) rv xc
  refine wpAny_mono (ht.run [] s1 (start N vs) H _ I0 hq) (fun fl s' hs => ?_) fun e s' hs => hs
  have done : ∀ {τ : L2.St} {H' : Hp} {v : V} {u : Value}, L2.Inv (cxOf (L2.CX P w) P w K mg base N qual scope f cdv A outer s H E) [] τ H' s' → RelV v u → Q v H' → CE outer P w H s Q u s' := by
    intro τ H' v u J r q
    exact ⟨v, H', J.os, J.bare, J.base, J.hok, r, q⟩
  cases fl with
  | ret u =>
    obtain ⟨v, τ, H', J, r, q⟩ := hs
    exact done J r q
  | next =>
    obtain ⟨τ, H', J, q⟩ := hs
    exact done (v := V.non) (u := Value.none) J rfl q
  | brk =>
    obtain ⟨_, _, _, q⟩ := hs
    exact q.elim
  | cont =>
    obtain ⟨_, _, _, q⟩ := hs
    exact q.elim
theorem fg_of {x qual : Str} {params : Arguments} {body : List Stmt} {scope : Scope} {f : Addr} {fd : FuncData} {N ps : List Str} {k : Nat} {sp : Sp} (F : FunD K x qual params body scope [] [] f fd) (S : FnScope N ps scope)
    (len : ∀ vs H Q E, sp vs H Q E → vs.length = ps.length)
    (hbody : ∀ (cdv : Value) (A : Around) (outer : List PySem.Env) (s : Shared) (H : Hp) (vs : List V) (Q : VK) (E : XK), Room k (A.deeper (envOfC qual scope s.heap.objs.size f cdv)) → A.guards = some [] → sp vs H Q E →
      ∃ t, PSs (cxOf (L2.CX P w) P w K mg base N qual scope f cdv A outer s H E) body t ∧ t { nx := fun _ H' => Q .non H', rt := Q } (start N vs) H) : FnG P w K mg base (k + 1) f fd ps sp := fg_ofC F S len (hbody _)
end

section
variable {X : Cx} {k : Nat} {f C : Addr} {fd : FuncData} {ps : List Str} {sp : Sp} {W : WX} {x m : Str} {p pos apos : Pos} {e o : Expr} {es : List Expr} {ta : TE} {t : TA}
/-- a callee runs -/
theorem run_g {pins : List (Addr × Obj)} {σ : L2.St} {H : Hp} {s : Shared} {Q : VK} {us : List Value} {vs : List V} (F : FnG X.prog X.w X.K X.mg X.base k f fd ps sp) (hr : Room k X.A) (hg : X.A.guards = some []) (hb : Binds X.K fd ps []) (tk : Takes X W)
    (I : L2.Inv X pins σ H s) (rv : Vals vs us) (h : sp vs H Q (WE W σ)) : wpAny (model X.prog X.w) X.A (call (.ref f) us) (EP X pins σ Q) X.xe s := by
  have hl : us.length = ps.length := by
    rw [← rv.length]
    exact F.len _ _ _ _ h
  have b := hb s us I.kIn (by rw [List.append_nil]; exact hl)
  rw [List.append_nil] at b
  refine wpAny_call (codeAny_mono (F.run X.A X.stack s H ⟨us, []⟩ us vs Q (WE W σ) hr hg I.env0 b rv h) fun r s' hq => ?_)
  cases r with
  | error e => exact passAt tk σ pins H s e s' I hq
  | ok fl =>
    cases fl with
    | ret u => exact I.after hq
    | next => exact False.elim hq
    | brk => exact False.elim hq
    | cont => exact False.elim hq
/-- what a call asks: its promise at the arguments -/
def tCallG (sp : Sp) (W : WX) (t : TA) : TE := fun σ H Q => t σ H fun vs H1 => sp vs H1 Q (WE W σ)
theorem pe_callG (F : FnG X.prog X.w X.K X.mg X.base k f fd ps sp) (hr : Room k X.A) (hgd : X.A.guards = some []) (hg : Gl X x) (hm : X.mg x = some (.ref f)) (hk : PySem.W.keepIn X.K (.ref f) = true) (hb : Binds X.K fd ps []) (tk : Takes X W)
    (ha : PA X (e :: es) t) (hdb : (x == ("__debug__" : Str)) = false) (he : starEach (e :: es) X.env = (false, eval e X.env) :: starEach es X.env) (hpl : (backTo pos (starEach es X.env)).any (·.1) = false) :
    PE X (.Call (.Name x p) (e :: es) [] pos) (tCallG sp W t) := by
  refine ⟨fun pins s σ H Q I h => ?_⟩
  refine wpAny_Call_Name_kw (ld_glob I hg hm ?_ hdb)
  refine PySem.W.callWith_K (h₀ := X.base) I.ok.mod.kin hk
    (thn (ha.run pos pins s σ H _ I h) fun us s1 ⟨vs, H1, I1, r, q⟩ => ⟨I1.kIn, ?_⟩) he hpl
  exact run_g F hr hgd hb tk I1 r q
theorem pe_callG0 (F : FnG X.prog X.w X.K X.mg X.base k f fd ps sp) (hr : Room k X.A) (hgd : X.A.guards = some []) (hg : Gl X x) (hm : X.mg x = some (.ref f)) (hk : PySem.W.keepIn X.K (.ref f) = true) (hb : Binds X.K fd ps []) (tk : Takes X W)
    (hdb : (x == ("__debug__" : Str)) = false) : PE X (.Call (.Name x p) [] [] pos) (tCallG sp W tNil) := by
  refine ⟨fun pins s σ H Q I h => ?_⟩
  refine wpAny_Call_Name_kw (ld_glob I hg hm ?_ hdb)
  exact PySem.W.callWith_K0 I.kIn hk (run_g (us := []) F hr hgd hb tk I .nil h)
end
end Vi

set_option Elab.async false
set_option linter.all false
set_option maxRecDepth 100000
set_option maxHeartbeats 2000000
/-! Vi6: operations by what their operands are. -/
namespace Vi
open PySem PySem.Spec L2

def L2r (r : R2) : List V → Hp → VK → Prop := fun vs H Q => match vs with
  | [x, y] => r x y H Q
  | _ => False
def L1r (r : V → Hp → VK → Prop) : List V → Hp → VK → Prop := fun vs H Q => match vs with
  | [x] => r x H Q
  | _ => False
def orR (r q : R2) : R2 := fun x y H Q => r x y H Q ∨ q x y H Q
theorem OpR.or {X : Cx} {f : Value → Value → Sem Value} {r q : R2} (a : OpR X f r) (b : OpR X f q) : OpR X f (orR r q) := by
  intro pins s σ H x y v u Q I rx ry h
  rcases h with h | h
  · exact a pins s σ H x y v u Q I rx ry h
  · exact b pins s σ H x y v u Q I rx ry h
def orC (r q : List V → Hp → VK → Prop) : List V → Hp → VK → Prop := fun vs H Q => r vs H Q ∨ q vs H Q
theorem CallR.or {X : Cx} {f : Value} {r q : List V → Hp → VK → Prop} (a : CallR X f r) (b : CallR X f q) : CallR X f (orC r q) := by
  intro pins s σ H xs us Q I rv h
  rcases h with h | h
  · exact a pins s σ H xs us Q I rv h
  · exact b pins s σ H xs us Q I rv h

section
variable {G : Gt} {K : PySem.W.Frag} {X : Cx}
theorem Vws.two {F H : Hp} {vs : List V} {a b : D} (h : Vws G K F H vs [a, b]) : ∃ x y, vs = [x, y] ∧ Vw G K F H x a ∧ Vw G K F H y b := by
  cases h with
  | cons h1 h2 =>
    cases h2 with
    | cons h2 h3 =>
      cases h3
      exact ⟨_, _, rfl, h1, h2⟩
theorem Vws.one {F H : Hp} {vs : List V} {a : D} (h : Vws G K F H vs [a]) : ∃ x, vs = [x] ∧ Vw G K F H x a := by
  cases h with
  | cons h1 h2 =>
    cases h2
    exact ⟨_, rfl, h1⟩
theorem Vws.three {F H : Hp} {vs : List V} {a b c : D} (h : Vws G K F H vs [a, b, c]) : ∃ x y z, vs = [x, y, z] ∧ Vw G K F H x a ∧ Vw G K F H y b ∧ Vw G K F H z c := by
  cases h with
  | cons h1 h2 =>
    cases h2 with
    | cons h2 h3 =>
      cases h3 with
      | cons h3 h4 =>
        cases h4
        exact ⟨_, _, _, rfl, h1, h2, h3⟩
/-- a result that is data already -/
theorem toV {F H : Hp} {Q : VK} {v : V} {d : D} (ex : Ex F H) (k : ∀ (v : V) (F' H' : Hp) (bs : List Addr), Step F H [] F' H' bs → RepO G K F' H' v (.v d) bs → Q v H') (r : Rep G K F v d) : Q v H :=
  k v F H [] (Step.refl ex) (.v r)
/-- a new tuple -/
theorem toT {F H : Hp} {Q : VK} {p : Addr} {vs : List V} {ds : List D} (ex : Ex F H) (k : ∀ (v : V) (F' H' : Hp) (bs : List Addr), Step F H [] F' H' bs → RepO G K F' H' v (.v (.tup ds)) bs → Q v H') (r : Reps G K F vs ds) (hp : H p = none) :
    Q (.ref p) (upd H p (.tup vs)) :=
  k _ (upd F p (.tup vs)) _ [] (Step.newF ex hp) (.v (.tup (.inl (.inl upd_same)) (r.mono (Ex.new (ex.back hp)))))
/-- a new list -/
theorem toL {F H : Hp} {Q : VK} {p : Addr} {vs : List V} {ds : List D} (ex : Ex F H) (k : ∀ (v : V) (F' H' : Hp) (bs : List Addr), Step F H [] F' H' bs → RepO G K F' H' v (.l ds) bs → Q v H') (r : Reps G K F vs ds) (hp : H p = none) :
    Q (.ref p) (upd H p (.lst vs)) :=
  k _ F _ [p] (Step.newO ex hp) (.l upd_same (ex.back hp) r)

/-! ### + -/
theorem lstR {pins : List (Addr × Obj)} {σ : L2.St} {H : Hp} {s : Shared} {l : Addr} {xs : List V} (I : L2.Inv X pins σ H s) (h : Rd H l (.lst xs)) : xs.length ≤ sizeLine ∧ ∃ (its : List Value) (n : Nat), Vals xs its ∧ IsL s.heap l its.toArray n := by
  have o := h.ok I.hok
  obtain ⟨z, its, n, r, e⟩ := o
  exact ⟨z, its, n, r, e⟩
def rCatR : R2 := fun x y H Q => ∃ l b xs zs, x = .ref l ∧ y = .ref b ∧ Rd H l (.lst xs) ∧ Rd H b (.lst zs) ∧ xs.length + zs.length ≤ sizeLine ∧ ∀ p, H p = none → Q (.ref p) (upd H p (.lst (xs ++ zs)))
theorem op_catR : OpR X (binaryOp .Add) rCatR := by
  intro pins s σ H x y v u Q I rx ry h
  obtain ⟨l, b, xs, zs, rfl, rfl, h1, h2, hz, q⟩ := h
  cases rx
  cases ry
  obtain ⟨_, its, n, r, e⟩ := lstR I h1
  obtain ⟨_, its2, n2, r2, e2⟩ := lstR I h2
  have l1 := r.length
  have l2 := r2.length
  refine PySem.P.add_list e e2 ?_
    (by rw [List.size_toArray, List.size_toArray]; omega)
  have ea : its.toArray ++ its2.toArray = (its ++ its2).toArray := by simp
  rw [ea]
  exact ⟨.ref _, _, I.lnew (t' := s.toks) (r.append r2) (by rw [List.length_append]; omega), rfl, q _ I.fresh⟩
def fAdd : List D → Option O
  | [.int a, .int b] => some (.v (.int (a + b)))
  | [.str a, .str b] => if a.length + b.length ≤ sizeLine then some (.v (.str (a ++ b))) else none
  | [.lst a, .lst b] => if a.length + b.length ≤ sizeLine then some (.l (a ++ b)) else none
  | [.tup a, .tup b] => if a.length + b.length ≤ sizeLine then some (.v (.tup (a ++ b))) else none
  | _ => none
def rAddV (K : PySem.W.Frag) : R2 := orR (rI0 fun i j => .int (i + j)) (orR (fun x y H Q => ∃ i j, x = .str i ∧ y = .str j ∧ i.length + j.length ≤ sizeLine ∧ Q (.str (i ++ j)) H) (orR rCatR (rCatA K)))
theorem op_addV : OpR X (binaryOp .Add) (rAddV X.K) := op_add.or (op_add_str.or (op_catR.or op_catA))
theorem ok_add : OpOk G K (L2r (rAddV K)) fAdd := by
  intro F H vs ds o Q ex hv hr k
  unfold fAdd at hr
  split at hr
  · obtain ⟨x, y, rfl, h1, h2⟩ := hv.two
    cases hr
    cases h1.int
    cases h2.int
    exact .inl ⟨_, _, rfl, rfl, toV ex k (.int _)⟩
  · obtain ⟨x, y, rfl, h1, h2⟩ := hv.two
    split at hr
    · rename_i hz
      cases hr
      cases h1.str
      cases h2.str
      exact .inr (.inl ⟨_, _, rfl, rfl, hz, toV ex k (.str _)⟩)
    · cases hr
  · obtain ⟨x, y, rfl, h1, h2⟩ := hv.two
    split at hr
    · rename_i hz
      cases hr
      obtain ⟨l, xs, rfl, e1, r1⟩ := h1.lst ex
      obtain ⟨b, zs, rfl, e2, r2⟩ := h2.lst ex
      exact .inr (.inr (.inl ⟨_, _, _, _, rfl, rfl, e1, e2, by rw [r1.len, r2.len]; exact hz, fun p hp => toL ex k (r1.app r2) hp⟩))
    · cases hr
  · obtain ⟨x, y, rfl, h1, h2⟩ := hv.two
    split at hr
    · rename_i hz
      cases hr
      obtain ⟨l, xs, rfl, e1, r1, f1⟩ := h1.tup ex
      obtain ⟨b, zs, rfl, e2, r2, f2⟩ := h2.tup ex
      refine .inr (.inr (.inr ⟨_, _, _, _, rfl, rfl, e1, e2, by rw [r1.len, r2.len]; exact hz, fun z => ?_, fun _ z => ?_, fun _ _ p hp => toT ex k (r1.app r2) hp⟩))
      · subst z
        cases r1
        exact toV ex k (.tup f2 r2)
      · subst z
        cases r2
        exact toV ex k (.tup f1 (by simpa using r1))
    · cases hr
  · cases hr

/-! ### numbers -/
/-- two numbers -/
def fII (c : Int → Int → Bool) (g : Int → Int → Int) : List D → Option O
  | [.int a, .int b] => if c a b = true then some (.v (.int (g a b))) else none
  | _ => none
theorem ok_II {C : Int → Int → Prop} {c : Int → Int → Bool} {g : Int → Int → Int} (hc : ∀ a b, c a b = true → C a b) : OpOk G K (L2r (rI C fun i j => .int (g i j))) (fII c g) := by
  intro F H vs ds o Q ex hv hr k
  unfold fII at hr
  split at hr
  · obtain ⟨x, y, rfl, h1, h2⟩ := hv.two
    split at hr
    · rename_i hz
      cases hr
      cases h1.int
      cases h2.int
      exact ⟨_, _, rfl, rfl, hc _ _ hz, toV ex k (.int _)⟩
    · cases hr
  · cases hr
theorem ok_II0 {g : Int → Int → Int} : OpOk G K (L2r (rI0 fun i j => .int (g i j))) (fII (fun _ _ => true) g) := by
  intro F H vs ds o Q ex hv hr k
  unfold fII at hr
  split at hr
  · obtain ⟨x, y, rfl, h1, h2⟩ := hv.two
    cases hr
    cases h1.int
    cases h2.int
    exact ⟨_, _, rfl, rfl, toV ex k (.int _)⟩
  · cases hr
/-- two numbers compared -/
def fCI (g : Int → Int → Bool) : List D → Option O
  | [.int a, .int b] => some (.v (.bl (g a b)))
  | _ => none
theorem ok_CI {g : Int → Int → Bool} : OpOk G K (L2r (rI0 fun i j => .bl (g i j))) (fCI g) := by
  intro F H vs ds o Q ex hv hr k
  unfold fCI at hr
  split at hr
  · obtain ⟨x, y, rfl, h1, h2⟩ := hv.two
    cases hr
    cases h1.int
    cases h2.int
    exact ⟨_, _, rfl, rfl, toV ex k (.bl _)⟩
  · cases hr
def small64 (i : Int) : Bool := decide (-(2 ^ 64) < i ∧ i < 2 ^ 64)
def cMul (a b : Int) : Bool := small64 a || small64 b
def fSub : List D → Option O := fII (fun _ _ => true) fun a b => a - b
theorem ok_sub : OpOk G K (L2r (rI0 fun i j => .int (i - j))) fSub := ok_II0
def fMulI : List D → Option O := fII cMul fun a b => a * b
theorem ok_mulI : OpOk G K (L2r (rI CMul fun i j => .int (i * j))) fMulI := ok_II fun a b h => by
  unfold cMul small64 at h
  unfold CMul
  simpa using h
def fMod : List D → Option O := fII (fun _ b => decide (b ≠ 0)) fun a b => a.fmod b
theorem ok_mod : OpOk G K (L2r (rI (fun _ j => j ≠ 0) fun i j => .int (i.fmod j))) fMod := ok_II fun a b h => by simpa using h
def fDiv : List D → Option O := fII (fun _ b => decide (b ≠ 0 ∧ b.natAbs < 1073741824)) fun a b => a.fdiv b
theorem ok_div : OpOk G K (L2r (rI CDivN fun i j => .int (i.fdiv j))) fDiv := ok_II fun a b h => by simpa [CDivN] using h
def fPow : List D → Option O := fII (fun a b => decide (0 ≤ b ∧ b ≤ 1000000 ∧ a.natAbs < 2 ^ 64)) fun a b => a ^ b.toNat
theorem ok_pow : OpOk G K (L2r (rI CPow fun i j => .int (i ^ j.toNat))) fPow := ok_II fun a b h => by simpa [CPow] using h
def fBand : List D → Option O := fII (fun _ _ => true) Builtin.bitAnd
theorem ok_band : OpOk G K (L2r (rI0 fun i j => .int (Builtin.bitAnd i j))) fBand := ok_II0
def fShr : List D → Option O := fII (fun _ b => decide (0 ≤ b)) fun a b => a / 2 ^ b.toNat
theorem ok_shr : OpOk G K (L2r (rI (fun _ j => 0 ≤ j) fun i j => .int (i / 2 ^ j.toNat))) fShr := ok_II fun a b h => by simpa using h
/-- a list some times over -/
def rRepR : R2 := fun x y H Q => ∃ l k xs, x = .ref l ∧ y = .int k ∧ H l = some (.lst xs) ∧ -(2 ^ 63) ≤ k ∧ k < 2 ^ 63 ∧ xs.length * k.toNat ≤ sizeLine ∧ ∀ p, H p = none → Q (.ref p) (upd H p (.lst (List.replicate k.toNat xs).flatten))
theorem Reps.rep {F : Hp} {vs : List V} {ds : List D} (r : Reps G K F vs ds) : ∀ n : Nat, Reps G K F (List.replicate n vs).flatten (List.replicate n ds).flatten
  | 0 => .nil
  | n + 1 => by
    rw [List.replicate_succ, List.replicate_succ, List.flatten_cons, List.flatten_cons]
    exact r.app (r.rep n)
def fNeg : List D → Option O
  | [.int a] => some (.v (.int (-a)))
  | _ => none
theorem ok_neg : OpOk G K (L1r (rU fun i => .int (-i))) fNeg := by
  intro F H vs ds o Q ex hv hr k
  unfold fNeg at hr
  split at hr
  · obtain ⟨x, rfl, h1⟩ := hv.one
    cases hr
    cases h1.int
    exact ⟨_, rfl, toV ex k (.int _)⟩
  · cases hr

/-! ### truth -/
def D.tru : D → Option Bool
  | .non => some false
  | .bl b => some b
  | .int i => some (i != 0)
  | .str s => if s.length ≤ sizeLine then some (((s.length : Nat) : Int) != 0) else none
  | .lst xs => some (!xs.isEmpty)
  | .tup xs => some (!xs.isEmpty)
  | .dic xs => some (!xs.isEmpty)
  | _ => none
theorem reps_empty {F : Hp} {vs : List V} {ds : List D} (r : Reps G K F vs ds) : vs.isEmpty = ds.isEmpty := by cases r <;> rfl
theorem repk_empty {F : Hp} {vs : List (Key × V)} {ds : List (Key × D)} (r : RepK G K F vs ds) : vs.isEmpty = ds.isEmpty := by cases r <;> rfl
theorem Vw.tru {F H : Hp} {v : V} {d : D} {b : Bool} (ex : Ex F H) (h : Vw G K F H v d) (e : d.tru = some b) : TruV K v H b := by
  unfold D.tru at e
  split at e
  · cases e
    cases h.non
    rfl
  · cases e
    cases h.bl
    rfl
  · cases e
    cases h.int
    rfl
  · split at e
    · rename_i hz
      cases e
      cases h.str
      exact ⟨hz, rfl⟩
    · cases e
  · cases e
    obtain ⟨a, vs, rfl, h1, r⟩ := h.lst ex
    exact .inl ⟨vs, .inl h1, by rw [reps_empty r]⟩
  · cases e
    obtain ⟨a, vs, rfl, h1, r, _⟩ := h.tup ex
    exact .inr (.inl ⟨vs, h1, by rw [reps_empty r]⟩)
  · cases e
    obtain ⟨a, ks, rfl, h1, r⟩ := h.dic ex
    exact .inr (.inr ⟨ks, h1, by rw [repk_empty r]⟩)
  · cases e

/-! ### built-in functions -/
def fLen : List D → Option O
  | [.lst xs] => some (.v (.int xs.length))
  | [.tup xs] => some (.v (.int xs.length))
  | [.str s] => if s.length ≤ sizeLine then some (.v (.int s.length)) else none
  | _ => none
theorem ok_len : OpOk G K (fun xs H Q => ∃ x n, xs = [x] ∧ LenV K x H n ∧ Q (.int (n : Nat)) H) fLen := by
  intro F H vs ds o Q ex hv hr k
  unfold fLen at hr
  split at hr
  · obtain ⟨x, rfl, h1⟩ := hv.one
    cases hr
    obtain ⟨a, us, rfl, e1, r⟩ := h1.lst ex
    exact ⟨_, _, rfl, .inl ⟨us, .inl e1, rfl⟩, by rw [r.len]; exact toV ex k (.int _)⟩
  · obtain ⟨x, rfl, h1⟩ := hv.one
    cases hr
    obtain ⟨a, us, rfl, e1, r, _⟩ := h1.tup ex
    exact ⟨_, _, rfl, .inr ⟨us, e1, rfl⟩, by rw [r.len]; exact toV ex k (.int _)⟩
  · obtain ⟨x, rfl, h1⟩ := hv.one
    split at hr
    · rename_i hz
      cases hr
      cases h1.str
      exact ⟨_, _, rfl, ⟨hz, rfl⟩, toV ex k (.int _)⟩
    · cases hr
  · cases hr
def fInt : List D → Option O
  | [.int a] => some (.v (.int a))
  | [.bl b] => some (.v (.int (if b = true then 1 else 0)))
  | _ => none
theorem ok_int : OpOk G K (fun xs H Q => (∃ i, xs = [V.int i] ∧ Q (.int i) H) ∨ ∃ k, xs = [V.bl k] ∧ Q (.int (if k = true then 1 else 0)) H) fInt := by
  intro F H vs ds o Q ex hv hr k
  unfold fInt at hr
  split at hr
  · obtain ⟨x, rfl, h1⟩ := hv.one
    cases hr
    cases h1.int
    exact .inl ⟨_, rfl, toV ex k (.int _)⟩
  · obtain ⟨x, rfl, h1⟩ := hv.one
    cases hr
    cases h1.bl
    exact .inr ⟨_, rfl, toV ex k (.int _)⟩
  · cases hr
def fAbs : List D → Option O
  | [.int a] => some (.v (.int (if a < 0 then -a else a)))
  | _ => none
theorem ok_abs : OpOk G K (fun xs H Q => ∃ i, xs = [V.int i] ∧ Q (.int (if i < 0 then -i else i)) H) fAbs := by
  intro F H vs ds o Q ex hv hr k
  unfold fAbs at hr
  split at hr
  · obtain ⟨x, rfl, h1⟩ := hv.one
    cases hr
    cases h1.int
    exact ⟨_, rfl, toV ex k (.int _)⟩
  · cases hr
def fTuple : List D → Option O
  | [.lst xs] => some (.v (.tup xs))
  | [.tup xs] => some (.v (.tup xs))
  | _ => none
theorem ok_tuple : OpOk G K (fun xs H Q => ∃ p ys, xs = [V.ref p] ∧ ((SqL K H p ys ∧ ∀ l, H l = none → Q (.ref l) (upd H l (.tup ys))) ∨ (SqT K H p ys ∧ Q (.ref p) H))) fTuple := by
  intro F H vs ds o Q ex hv hr k
  unfold fTuple at hr
  split at hr
  · obtain ⟨x, rfl, h1⟩ := hv.one
    cases hr
    obtain ⟨a, us, rfl, e1, r⟩ := h1.lst ex
    exact ⟨_, _, rfl, .inl ⟨.inl e1, fun l hl => toT ex k r hl⟩⟩
  · obtain ⟨x, rfl, h1⟩ := hv.one
    cases hr
    obtain ⟨a, us, rfl, e1, r, f1⟩ := h1.tup ex
    exact ⟨_, _, rfl, .inr ⟨e1, toV ex k (.tup f1 r)⟩⟩
  · cases hr
def fList : List D → Option O
  | [.lst xs] => some (.l xs)
  | [.tup xs] => some (.l xs)
  | _ => none
theorem ok_list : OpOk G K (fun xs H Q => ∃ p ys, xs = [V.ref p] ∧ (SqL K H p ys ∨ SqT K H p ys) ∧ ∀ l, H l = none → Q (.ref l) (upd H l (.lst ys))) fList := by
  intro F H vs ds o Q ex hv hr k
  unfold fList at hr
  split at hr
  · obtain ⟨x, rfl, h1⟩ := hv.one
    cases hr
    obtain ⟨a, us, rfl, e1, r⟩ := h1.lst ex
    exact ⟨_, _, rfl, .inl (.inl e1), fun l hl => toL ex k r hl⟩
  · obtain ⟨x, rfl, h1⟩ := hv.one
    cases hr
    obtain ⟨a, us, rfl, e1, r, f1⟩ := h1.tup ex
    exact ⟨_, _, rfl, .inr e1, fun l hl => toL ex k r hl⟩
  · cases hr
/-- all of them are numbers -/
def ints? : List D → Option (List Int)
  | [] => some []
  | .int i :: r => match ints? r with
    | some is => some (i :: is)
    | none => none
  | _ :: _ => none
theorem ints_map : ∀ {ds : List D} {is : List Int}, ints? ds = some is → ds = is.map D.int
  | [], is, h => by
    cases h
    rfl
  | .int i :: r, is, h => by
    unfold ints? at h
    cases e : ints? r with
    | none =>
      rw [e] at h
      cases h
    | some js =>
      rw [e] at h
      cases h
      rw [ints_map e]
      rfl
  | .non :: _, is, h => by cases h
  | .bl _ :: _, is, h => by cases h
  | .str _ :: _, is, h => by cases h
  | .tup _ :: _, is, h => by cases h
  | .lst _ :: _, is, h => by cases h
  | .dic _ :: _, is, h => by cases h
  | .dit _ :: _, is, h => by cases h
  | .obj _ _ :: _, is, h => by cases h
  | .fn _ :: _, is, h => by cases h
@[simp] theorem ints_of (is : List Int) : ints? (is.map D.int) = some is := by
  induction is with
  | nil => rfl
  | cons i r ih => simp [ints?, ih]
def fSum : List D → Option O
  | [.lst xs] => match ints? xs with
    | some is => some (.v (.int is.sum))
    | none => none
  | _ => none
theorem ok_sum : OpOk G K (rSum K) fSum := by
  intro F H vs ds o Q ex hv hr k
  unfold fSum at hr
  split at hr
  · obtain ⟨x, rfl, h1⟩ := hv.one
    split at hr
    · rename_i is e
      cases hr
      obtain ⟨a, us, rfl, e1, r⟩ := h1.lst ex
      cases ints_map e
      cases r.ints
      exact ⟨_, _, rfl, .inl e1, toV ex k (.int _)⟩
    · cases hr
  · cases hr
end
end Vi

set_option Elab.async false
set_option linter.all false
set_option maxRecDepth 100000
set_option maxHeartbeats 2000000
/-! Vi7: comparing, showing, subscripts, slices, isinstance. -/
namespace Vi
open PySem PySem.Spec L2

/-! ### as plain data -/
mutual
def D.py : D → Option PyData
  | .non => some .none
  | .bl b => some (.bool b)
  | .int i => some (.int i)
  | .str s => some (.str s)
  | .tup xs => (pys xs).map .tuple
  | .lst xs => (pys xs).map .list
  | .dic _ => none
  | .dit _ => none
  | .obj _ _ => none
  | .fn _ => none
def pys : List D → Option (List PyData)
  | [] => some []
  | d :: r => match d.py, pys r with
    | some p, some ps => some (p :: ps)
    | _, _ => none
end

section
variable {G : Gt} {K : PySem.W.Frag} {X : Cx} {F H : Hp}
mutual
theorem Rep.dp (ex : Ex F H) : ∀ {v : V} {d : D} {p : PyData}, Rep G K F v d → d.py = some p → Dp K H v p
  | _, _, _, .non, e => by
    cases e
    exact .non
  | _, _, _, .bl b, e => by
    cases e
    exact .bl b
  | _, _, _, .int i, e => by
    cases e
    exact .int i
  | _, _, _, .str s, e => by
    cases e
    exact .str s
  | _, _, _, .tup (ds := ds) h r, e => by
    unfold D.py at e
    cases hq : pys ds with
    | none =>
      rw [hq] at e
      cases e
    | some ps =>
      rw [hq] at e
      cases e
      exact .tup (ex.t h) (Reps.dp ex r hq)
  | _, _, _, .lst (ds := ds) h r, e => by
    unfold D.py at e
    cases hq : pys ds with
    | none =>
      rw [hq] at e
      cases e
    | some ps =>
      rw [hq] at e
      cases e
      exact .lst (.inl (ex.rd h)) (Reps.dp ex r hq)
  | _, _, _, .dic h r, e => by cases e
  | _, _, _, .dit h r, e => by cases e
  | _, _, _, .obj h r, e => by cases e
  | _, _, _, .fn f, e => by cases e
theorem Reps.dp (ex : Ex F H) : ∀ {vs : List V} {ds : List D} {ps : List PyData}, Reps G K F vs ds → pys ds = some ps → DpAll K H vs ps
  | _, _, _, .nil, e => by
    cases e
    exact .nil
  | _, _, _, .cons (d := d) (ds := ds) h r, e => by
    unfold pys at e
    cases h1 : d.py with
    | none =>
      rw [h1] at e
      cases e
    | some p =>
      cases h2 : pys ds with
      | none =>
        rw [h1, h2] at e
        cases e
      | some ps =>
        rw [h1, h2] at e
        cases e
        exact .cons (Rep.dp ex h h1) (Reps.dp ex r h2)
end
theorem Vw.dp {v : V} {d : D} {p : PyData} (ex : Ex F H) (h : Vw G K F H v d) (e : d.py = some p) : Dp K H v p := by
  obtain ⟨o, as, r, q⟩ := h
  subst q
  cases o with
  | v d =>
    cases r with
    | v r => exact r.dp ex e
  | l xs =>
    cases r with
    | l h1 h2 r =>
      unfold O.fz D.py at e
      cases hq : pys xs with
      | none =>
        rw [hq] at e
        cases e
      | some ps =>
        rw [hq] at e
        cases e
        exact .lst (.inl (.inl h1)) (r.dp ex hq)
  | d _ => cases e
  | t _ => cases e
  | o _ _ => cases e

/-! ### repr -/
def rRepr (K : PySem.W.Frag) : List V → Hp → VK → Prop := fun xs H Q => ∃ a d, xs = [V.ref a] ∧ Dp K H (.ref a) d ∧ d.showable = true ∧ d.hasDict = false ∧ d.depth ≤ 64 ∧ d.shown.length ≤ sizeLine ∧ Q (.str d.shown) H
theorem cr_repr (hg : X.A.guards = some []) (hu : X.A.units + 66 < cLine) : CallR X (.builtin "repr") (rRepr X.K) := by
  intro pins s σ H xs us Q I rv h
  obtain ⟨a, d, rfl, hd, hs, hn, hp, hz, q⟩ := h
  cases rv with
  | cons r1 r2 =>
    cases r2
    cases r1
    obtain ⟨as, rd⟩ := Dp.reads I d _ _ hd rfl
    refine repr_of_reads' rd hs (fun z => by rw [hn] at z; cases z) hg (by omega) (fun _ _ e => e) (fun h' u tk hk => ⟨.str d.shown, H, I.kept hk, ⟨_, rfl⟩, q⟩) hz
/-- how data are shown -/
def D.shw (d : D) : Option Str := match d.py with
  | some p => if p.showable && (!p.hasDict && (decide (p.depth ≤ 64) && decide (p.shown.length ≤ sizeLine))) then some p.shown else none
  | none => none
def fRepr : List D → Option O
  | [.tup xs] => (D.tup xs).shw.map fun s => .v (.str s)
  | [.lst xs] => (D.lst xs).shw.map fun s => .v (.str s)
  | _ => none
theorem shw_some {d : D} {s : Str} (h : d.shw = some s) : ∃ p, d.py = some p ∧ p.showable = true ∧ p.hasDict = false ∧ p.depth ≤ 64 ∧ p.shown.length ≤ sizeLine ∧ s = p.shown := by
  unfold D.shw at h
  cases e : d.py with
  | none =>
    rw [e] at h
    cases h
  | some p =>
    rw [e] at h
    dsimp only at h
    split at h
    · rename_i hc
      cases h
      simp only [Bool.and_eq_true, Bool.not_eq_true', decide_eq_true_eq] at hc
      exact ⟨p, rfl, hc.1, hc.2.1, hc.2.2.1, hc.2.2.2, rfl⟩
    · cases h
theorem ok_repr : OpOk G K (rRepr K) fRepr := by
  intro F H vs ds o Q ex hv hr k
  unfold fRepr at hr
  split at hr
  · rename_i xs
    obtain ⟨x, rfl, h1⟩ := hv.one
    obtain ⟨s, es, e⟩ := Option.map_eq_some_iff.mp hr
    subst e
    obtain ⟨p, h2, h3, h4, h5, h6, rfl⟩ := shw_some es
    obtain ⟨a, us, rfl, _⟩ := h1.tup ex
    exact ⟨a, p, rfl, h1.dp ex h2, h3, h4, h5, h6, toV ex k (.str _)⟩
  · rename_i xs
    obtain ⟨x, rfl, h1⟩ := hv.one
    obtain ⟨s, es, e⟩ := Option.map_eq_some_iff.mp hr
    subst e
    obtain ⟨p, h2, h3, h4, h5, h6, rfl⟩ := shw_some es
    obtain ⟨a, us, rfl, _⟩ := h1.lst ex
    exact ⟨a, p, rfl, h1.dp ex h2, h3, h4, h5, h6, toV ex k (.str _)⟩
  · cases hr

/-! ### == and != -/
def D.shp (d : D) : Option PyData := match d.py with
  | some p => if SeqAt.shaped p = true then some p else none
  | none => none
theorem shp_some {d : D} {p : PyData} (h : d.shp = some p) : d.py = some p ∧ SeqAt.shaped p = true := by
  unfold D.shp at h
  cases e : d.py with
  | none =>
    rw [e] at h
    cases h
  | some p =>
    rw [e] at h
    dsimp only at h
    split at h
    · cases h
      exact ⟨rfl, by assumption⟩
    · cases h
def eq? (a b : D) : Option Bool := match a, b with
  | .int i, .int j => some (decide (i = j))
  | .str s, .str t => some (decide (s = t))
  | a, b => match a.shp, b.shp with
    | some p, some q => some (p.eqv q)
    | _, _ => none
def fEq : List D → Option O
  | [a, b] => (eq? a b).map fun r => .v (.bl r)
  | _ => none
def fNe : List D → Option O
  | [a, b] => (eq? a b).map fun r => .v (.bl (!r))
  | _ => none
theorem op_eqq (hu : X.A.units + 64 < cLine) : OpR X (compareOp .Eq) (orR rEq (rEqD X.K)) := op_eq.or (op_eqD hu)
theorem op_neq (hu : X.A.units + 64 < cLine) : OpR X (compareOp .NotEq) (orR rNe (rNeD X.K)) := op_ne.or (op_neD hu)
theorem eq_cases {a b : D} {r : Bool} (h : eq? a b = some r) : (∃ i j, a = .int i ∧ b = .int j ∧ r = decide (i = j)) ∨ (∃ i j, a = .str i ∧ b = .str j ∧ r = decide (i = j)) ∨ ∃ p q, a.shp = some p ∧ b.shp = some q ∧ r = p.eqv q := by
  unfold eq? at h
  split at h
  · cases h
    exact .inl ⟨_, _, rfl, rfl, rfl⟩
  · cases h
    exact .inr (.inl ⟨_, _, rfl, rfl, rfl⟩)
  · split at h
    · rename_i p q h1 h2
      cases h
      exact .inr (.inr ⟨p, q, h1, h2, rfl⟩)
    · cases h
theorem ok_eq : OpOk G K (L2r (orR rEq (rEqD K))) fEq := by
  intro F H vs ds o Q ex hv hr k
  unfold fEq at hr
  split at hr
  · obtain ⟨x, y, rfl, h1, h2⟩ := hv.two
    obtain ⟨r, er, e⟩ := Option.map_eq_some_iff.mp hr
    subst e
    rcases eq_cases er with ⟨i, j, rfl, rfl, rfl⟩ | ⟨i, j, rfl, rfl, rfl⟩ | ⟨p, q, e1, e2, rfl⟩
    · cases h1.int
      cases h2.int
      exact .inl ⟨rfl, toV ex k (by
        have e : decide (V.int i = V.int j) = decide (i = j) := by simp
        rw [e]
        exact .bl _)⟩
    · cases h1.str
      cases h2.str
      exact .inl ⟨rfl, toV ex k (by
        have e : decide (V.str i = V.str j) = decide (i = j) := by simp
        rw [e]
        exact .bl _)⟩
    · obtain ⟨a1, a2⟩ := shp_some e1
      obtain ⟨b1, b2⟩ := shp_some e2
      exact .inr ⟨p, q, h1.dp ex a1, h2.dp ex b1, a2, b2, toV ex k (.bl _)⟩
  · cases hr
theorem ok_ne : OpOk G K (L2r (orR rNe (rNeD K))) fNe := by
  intro F H vs ds o Q ex hv hr k
  unfold fNe at hr
  split at hr
  · obtain ⟨x, y, rfl, h1, h2⟩ := hv.two
    obtain ⟨r, er, e⟩ := Option.map_eq_some_iff.mp hr
    subst e
    rcases eq_cases er with ⟨i, j, rfl, rfl, rfl⟩ | ⟨i, j, rfl, rfl, rfl⟩ | ⟨p, q, e1, e2, rfl⟩
    · cases h1.int
      cases h2.int
      exact .inl ⟨rfl, toV ex k (by
        have e : decide (V.int i = V.int j) = decide (i = j) := by simp
        rw [e]
        exact .bl _)⟩
    · cases h1.str
      cases h2.str
      exact .inl ⟨rfl, toV ex k (by
        have e : decide (V.str i = V.str j) = decide (i = j) := by simp
        rw [e]
        exact .bl _)⟩
    · obtain ⟨a1, a2⟩ := shp_some e1
      obtain ⟨b1, b2⟩ := shp_some e2
      exact .inr ⟨p, q, h1.dp ex a1, h2.dp ex b1, a2, b2, toV ex k (.bl _)⟩
  · cases hr

/-! ### is, in -/
def D.isNon : D → Bool
  | .non => true
  | _ => false
theorem Vw.nonB {v : V} {d : D} (h : Vw G K F H v d) : decide (v = V.non) = d.isNon := by
  obtain ⟨o, as, r, q⟩ := h
  subst q
  cases r with
  | v r => cases r <;> rfl
  | l _ _ _ => rfl
  | d _ _ _ => rfl
  | t _ _ _ => rfl
  | o _ _ _ _ => rfl
/-- is: None, or two truths -/
def is? : D → D → Option Bool
  | .bl a, .bl b => some (decide (a = b))
  | d, .non => some d.isNon
  | _, _ => none
def fIs : List D → Option O
  | [a, b] => (is? a b).map fun r => .v (.bl r)
  | _ => none
def fIsNot : List D → Option O
  | [a, b] => (is? a b).map fun r => .v (.bl (!r))
  | _ => none
def rIsN : R2 := fun x y H Q => y = .non ∧ Q (.bl (decide (x = .non))) H
def rNotN : R2 := fun x y H Q => y = .non ∧ Q (.bl (!decide (x = .non))) H
theorem op_is : OpR X (compareOp .Is) (orR Vi.rIsN rIsB) := op_isN.or op_isBl
theorem op_isNot : OpR X (compareOp .IsNot) (orR Vi.rNotN rNotB) := op_notN.or op_notBl
theorem is_cases {a b : D} {r : Bool} (h : is? a b = some r) : (∃ i j, a = .bl i ∧ b = .bl j ∧ r = decide (i = j)) ∨ (b = .non ∧ r = a.isNon) := by
  unfold is? at h
  split at h
  · cases h
    exact .inl ⟨_, _, rfl, rfl, rfl⟩
  · cases h
    exact .inr ⟨rfl, rfl⟩
  · cases h
theorem ok_is : OpOk G K (L2r (orR Vi.rIsN rIsB)) fIs := by
  intro F H vs ds o Q ex hv hr k
  unfold fIs at hr
  split at hr
  · obtain ⟨x, y, rfl, h1, h2⟩ := hv.two
    obtain ⟨r, er, e⟩ := Option.map_eq_some_iff.mp hr
    subst e
    rcases is_cases er with ⟨i, j, rfl, rfl, rfl⟩ | ⟨rfl, rfl⟩
    · cases h1.bl
      cases h2.bl
      exact .inr ⟨_, _, rfl, rfl, toV ex k (.bl _)⟩
    · cases h2.non
      exact .inl ⟨rfl, by rw [h1.nonB]; exact toV ex k (.bl _)⟩
  · cases hr
theorem ok_isNot : OpOk G K (L2r (orR Vi.rNotN rNotB)) fIsNot := by
  intro F H vs ds o Q ex hv hr k
  unfold fIsNot at hr
  split at hr
  · obtain ⟨x, y, rfl, h1, h2⟩ := hv.two
    obtain ⟨r, er, e⟩ := Option.map_eq_some_iff.mp hr
    subst e
    rcases is_cases er with ⟨i, j, rfl, rfl, rfl⟩ | ⟨rfl, rfl⟩
    · cases h1.bl
      cases h2.bl
      exact .inr ⟨_, _, rfl, rfl, toV ex k (.bl _)⟩
    · cases h2.non
      exact .inl ⟨rfl, by rw [h1.nonB]; exact toV ex k (.bl _)⟩
  · cases hr
/-! in: flat things in a tuple or list of flat things -/
def D.flat : D → Option V
  | .non => some .non
  | .bl b => some (.bl b)
  | .int i => some (.int i)
  | .str s => some (.str s)
  | _ => none
theorem Rep.flat {v w : V} {d : D} (h : Rep G K F v d) (e : d.flat = some w) : v = w ∧ flatV v = true := by
  cases h <;> cases e <;> exact ⟨rfl, rfl⟩
def flats : List D → Option (List V)
  | [] => some []
  | d :: r => match d.flat, flats r with
    | some v, some vs => some (v :: vs)
    | _, _ => none
theorem Reps.flats : ∀ {vs ws : List V} {ds : List D}, Reps G K F vs ds → Vi.flats ds = some ws → vs = ws ∧ vs.all flatV = true
  | _, _, _, .nil, e => by
    cases e
    exact ⟨rfl, rfl⟩
  | _, _, _, .cons (d := d) (ds := ds) h r, e => by
    unfold Vi.flats at e
    split at e
    · rename_i v vs h1 h2
      cases e
      obtain ⟨rfl, q1⟩ := h.flat h1
      obtain ⟨rfl, q2⟩ := r.flats h2
      exact ⟨rfl, by rw [List.all_cons, q1, q2]; rfl⟩
    · cases e
theorem Vw.flat {v w : V} {d : D} (h : Vw G K F H v d) (e : d.flat = some w) : v = w ∧ flatV v = true := by
  obtain ⟨o, as, r, q⟩ := h
  subst q
  cases r with
  | v r => exact r.flat e
  | l _ _ _ => cases e
  | d _ _ _ => cases e
  | t _ _ _ => cases e
  | o _ _ _ _ => cases e
def in? (x : D) : D → Option Bool
  | .tup ys => match x.flat, flats ys with
    | some v, some vs => some (inV v vs)
    | _, _ => none
  | .lst ys => match x.flat, flats ys with
    | some v, some vs => some (inV v vs)
    | _, _ => none
  | _ => none
def fIn : List D → Option O
  | [a, b] => (in? a b).map fun r => .v (.bl r)
  | _ => none
def fNotIn : List D → Option O
  | [a, b] => (in? a b).map fun r => .v (.bl (!r))
  | _ => none
theorem in_at {x y : V} {a b : D} {r : Bool} (ex : Ex F H) (h1 : Vw G K F H x a) (h2 : Vw G K F H y b) (h : in? a b = some r) : ∃ p xs, y = .ref p ∧ (SqL K H p xs ∨ SqT K H p xs) ∧ flatV x = true ∧ xs.all flatV = true ∧ inV x xs = r := by
  unfold in? at h
  split at h
  · split at h
    · rename_i v vs e1 e2
      cases h
      obtain ⟨l, us, rfl, q1, r1, _⟩ := h2.tup ex
      obtain ⟨rfl, q2⟩ := h1.flat e1
      obtain ⟨rfl, q3⟩ := r1.flats e2
      exact ⟨l, us, rfl, .inr q1, q2, q3, rfl⟩
    · cases h
  · split at h
    · rename_i v vs e1 e2
      cases h
      obtain ⟨l, us, rfl, q1, r1⟩ := h2.lst ex
      obtain ⟨rfl, q2⟩ := h1.flat e1
      obtain ⟨rfl, q3⟩ := r1.flats e2
      exact ⟨l, us, rfl, .inl (.inl q1), q2, q3, rfl⟩
    · cases h
  · cases h
theorem ok_in : OpOk G K (L2r (rIn K false)) fIn := by
  intro F H vs ds o Q ex hv hr k
  unfold fIn at hr
  split at hr
  · obtain ⟨x, y, rfl, h1, h2⟩ := hv.two
    obtain ⟨r, er, e⟩ := Option.map_eq_some_iff.mp hr
    subst e
    obtain ⟨p, xs, rfl, q1, q2, q3, rfl⟩ := in_at ex h1 h2 er
    exact ⟨p, xs, rfl, q1, q2, q3, toV ex k (.bl _)⟩
  · cases hr
theorem ok_notIn : OpOk G K (L2r (rIn K true)) fNotIn := by
  intro F H vs ds o Q ex hv hr k
  unfold fNotIn at hr
  split at hr
  · obtain ⟨x, y, rfl, h1, h2⟩ := hv.two
    obtain ⟨r, er, e⟩ := Option.map_eq_some_iff.mp hr
    subst e
    obtain ⟨p, xs, rfl, q1, q2, q3, rfl⟩ := in_at ex h1 h2 er
    exact ⟨p, xs, rfl, q1, q2, q3, toV ex k (.bl _)⟩
  · cases hr

/-! ### subscripts -/
def rIxDk : R2 := fun x y H Q => ∃ a v, x = .ref a ∧ DGet H a y (some v) ∧ Q v H
theorem ix_dict (hu : X.A.units + 1 < cLine) : IxR X rIxDk := by
  intro value slice pins s σ H x y v u Q I rx ry h hs
  obtain ⟨a, z, rfl, g, q⟩ := h
  cases rx
  exact PyProof.Rows.tail_any (dict_typeIs I g) PySem.F.slot_dict_getitem.lookup (d_getItem hu I g ry fun w' s' I' r' => ⟨z, H, I', r', q⟩) hs
def rIxV (K : PySem.W.Frag) : R2 := fun x y H Q => rIx K x y H Q ∨ rIxDk x y H Q
theorem ix_V (hu : X.A.units + 1 < cLine) : IxR X (rIxV X.K) := ix_seq.or (ix_dict hu)
def D.key : D → Option Key
  | .int i => some (.inl i)
  | .str s => some (.inr s)
  | _ => none
theorem Vw.key {v : V} {d : D} {k : Key} (h : Vw G K F H v d) (e : d.key = some k) : v = kV k := by
  unfold D.key at e
  split at e
  · cases e
    exact h.int
  · cases e
    exact h.str
  · cases e
/-- the value at a key -/
def getK (kvs : List (Key × D)) (k : Key) : Option D := (kvs.find? fun kv => decide (kv.1 = k)).map (·.2)
def keys? : List D → Option (List Key)
  | [] => some []
  | d :: r => match d.key, keys? r with
    | some k, some ks => some (k :: ks)
    | _, _ => none
theorem Reps.keys : ∀ {vs : List V} {ds : List D} {ks : List Key}, Reps G K F vs ds → keys? ds = some ks → vs = ks.map kV
  | _, _, _, .nil, e => by
    cases e
    rfl
  | _, _, _, .cons (v := v) (d := d) (ds := ds) h r, e => by
    unfold keys? at e
    split at e
    · rename_i k ks h1 h2
      cases e
      have q1 : v = kV k := by
        unfold D.key at h1
        split at h1
        · cases h1
          cases h
          rfl
        · cases h1
          cases h
          rfl
        · cases h1
      rw [q1, r.keys h2]
      rfl
    · cases e
def fIx : List D → Option O
  | [.lst xs, .int i] => (atI xs i).map .v
  | [.tup xs, .int i] => (atI xs i).map .v
  | [.str s, .int i] => if s.length ≤ sizeLine then (atI s.cps.toList i).map fun c => .v (.str ⟨#[c]⟩) else none
  | [.dic kvs, d] => match d.key with
    | some k => (getK kvs k).map .v
    | none => none
  | _ => none
theorem atI_at {vs : List V} {ds : List D} {i : Int} {d : D} (r : Reps G K F vs ds) (e : atI ds i = some d) : ∃ v, atI vs i = some v ∧ Rep G K F v d := by
  unfold atI at e ⊢
  rw [r.len]
  cases h : ixN ds.length i with
  | none =>
    rw [h] at e
    cases e
  | some j =>
    rw [h] at e
    exact r.get (i := j) (d := d) e
theorem ok_ix : OpOk G K (L2r (rIxV K)) fIx := by
  intro F H vs ds o Q ex hv hr k
  unfold fIx at hr
  split at hr
  · obtain ⟨x, y, rfl, h1, h2⟩ := hv.two
    obtain ⟨d, ed, e⟩ := Option.map_eq_some_iff.mp hr
    subst e
    cases h2.int
    obtain ⟨a, us, rfl, e1, r⟩ := h1.lst ex
    obtain ⟨v, e2, e3⟩ := atI_at r ed
    exact .inl (.inl ⟨a, us, _, v, rfl, rfl, .inl e1, e2, toV ex k e3⟩)
  · obtain ⟨x, y, rfl, h1, h2⟩ := hv.two
    obtain ⟨d, ed, e⟩ := Option.map_eq_some_iff.mp hr
    subst e
    cases h2.int
    obtain ⟨a, us, rfl, e1, r, _⟩ := h1.tup ex
    obtain ⟨v, e2, e3⟩ := atI_at r ed
    exact .inl (.inr (.inl ⟨a, us, _, v, rfl, rfl, e1, e2, toV ex k e3⟩))
  · obtain ⟨x, y, rfl, h1, h2⟩ := hv.two
    split at hr
    · rename_i hz
      obtain ⟨c, ec, e⟩ := Option.map_eq_some_iff.mp hr
      subst e
      cases h2.int
      cases h1.str
      exact .inl (.inr (.inr ⟨_, _, c, rfl, rfl, hz, ec, toV ex k (.str _)⟩))
    · cases hr
  · obtain ⟨x, y, rfl, h1, h2⟩ := hv.two
    split at hr
    · rename_i kk ek
      obtain ⟨d, ed, e⟩ := Option.map_eq_some_iff.mp hr
      subst e
      cases h2.key ek
      obtain ⟨a, ks, rfl, e1, r⟩ := h1.dic ex
      rcases r.val kk with ⟨v, d', e2, e3, e4⟩ | ⟨_, e3⟩
      · unfold getK at ed
        rw [e3] at ed
        cases ed
        exact .inr ⟨a, v, rfl, .inl ⟨ks, kk, .inl e1, rfl, e2.symm⟩, toV ex k e4⟩
      · unfold getK at ed
        rw [e3] at ed
        cases ed
    · cases hr
  · cases hr

/-! ### slices -/
def cutD (xs : List D) (lo hi : Option Int) : List D := (xs.drop (HT.sIx xs.length 0 lo)).take (HT.sIx xs.length xs.length hi - HT.sIx xs.length 0 lo)
theorem Reps.cut {vs : List V} {ds : List D} (r : Reps G K F vs ds) (lo hi : Option Int) : Reps G K F (cutV vs lo hi) (cutD ds lo hi) := by
  unfold cutV cutD
  rw [r.len]
  exact (r.drop _).take _
def rSlV (K : PySem.W.Frag) : V → Option Int → Option Int → Hp → VK → Prop := fun x lo hi H Q => rSlL K x lo hi H Q ∨ rSlA K x lo hi H Q
theorem sl_V : SlR X (rSlV X.K) := sl_list.or sl_tupA
def slc (d : D) (lo hi : Option Int) : Option O := match d with
  | .lst xs => some (.l (cutD xs lo hi))
  | .tup xs => some (.v (.tup (cutD xs lo hi)))
  | _ => none
theorem slc_ok {v : V} {d : D} {lo hi : Option Int} {o : O} {Q : VK} (ex : Ex F H) (h : Vw G K F H v d) (e : slc d lo hi = some o) (k : ∀ (v : V) (F' H' : Hp) (bs : List Addr), Step F H [] F' H' bs → RepO G K F' H' v o bs → Q v H') : rSlV K v lo hi H Q := by
  unfold slc at e
  split at e
  · cases e
    obtain ⟨a, us, rfl, e1, r⟩ := h.lst ex
    exact .inl ⟨a, us, rfl, .inl e1, fun p hp => toL ex k (r.cut lo hi) hp⟩
  · rename_i xs
    cases e
    obtain ⟨a, us, rfl, e1, r, f1⟩ := h.tup ex
    refine .inr ⟨a, us, rfl, e1, fun hw => ?_, fun _ p hp => toT ex k (r.cut lo hi) hp⟩
    have e : cutD xs lo hi = xs := by
      unfold cutD
      rw [r.len] at hw
      rw [hw.1, hw.2]
      simp
    rw [e] at k
    exact toV ex k (.tup f1 r)
  · cases e
/-- the operands of a slice -/
def tConsI (te : TE) (tr : TA) : TA := fun σ H Q => te σ H fun x H1 => ∃ i, x = .int i ∧ tr σ H1 fun xs H2 => Q (.int i :: xs) H2
def rS00 (K : PySem.W.Frag) : List V → Hp → VK → Prop := fun vs H Q => match vs with
  | [x] => rSlV K x none none H Q
  | _ => False
def rS10 (K : PySem.W.Frag) : List V → Hp → VK → Prop := fun vs H Q => match vs with
  | [x, .int i] => rSlV K x (some i) none H Q
  | _ => False
def rS01 (K : PySem.W.Frag) : List V → Hp → VK → Prop := fun vs H Q => match vs with
  | [x, .int i] => rSlV K x none (some i) H Q
  | _ => False
def rS11 (K : PySem.W.Frag) : List V → Hp → VK → Prop := fun vs H Q => match vs with
  | [x, .int i, .int j] => rSlV K x (some i) (some j) H Q
  | _ => False
def fS00 : List D → Option O
  | [d] => slc d none none
  | _ => none
def fS10 : List D → Option O
  | [d, .int i] => slc d (some i) none
  | _ => none
def fS01 : List D → Option O
  | [d, .int i] => slc d none (some i)
  | _ => none
def fS11 : List D → Option O
  | [d, .int i, .int j] => slc d (some i) (some j)
  | _ => none
theorem ok_S00 : OpOk G K (rS00 K) fS00 := by
  intro F H vs ds o Q ex hv hr k
  unfold fS00 at hr
  split at hr
  · obtain ⟨x, rfl, h1⟩ := hv.one
    exact slc_ok ex h1 hr k
  · cases hr
theorem ok_S10 : OpOk G K (rS10 K) fS10 := by
  intro F H vs ds o Q ex hv hr k
  unfold fS10 at hr
  split at hr
  · obtain ⟨x, y, rfl, h1, h2⟩ := hv.two
    cases h2.int
    exact slc_ok ex h1 hr k
  · cases hr
theorem ok_S01 : OpOk G K (rS01 K) fS01 := by
  intro F H vs ds o Q ex hv hr k
  unfold fS01 at hr
  split at hr
  · obtain ⟨x, y, rfl, h1, h2⟩ := hv.two
    cases h2.int
    exact slc_ok ex h1 hr k
  · cases hr
theorem ok_S11 : OpOk G K (rS11 K) fS11 := by
  intro F H vs ds o Q ex hv hr k
  unfold fS11 at hr
  split at hr
  · obtain ⟨x, y, z, rfl, h1, h2, h3⟩ := hv.three
    cases h2.int
    cases h3.int
    exact slc_ok ex h1 hr k
  · cases hr
end
end Vi

set_option Elab.async false
set_option linter.all false
set_option maxRecDepth 100000
set_option maxHeartbeats 2000000
/-! Vi8: defs: lending of slots, what a def does to its parameters, calls. -/
namespace Vi
open PySem PySem.Spec L2

section
variable {G : Gt} {K : PySem.W.Frag} {F H F' H' : Hp} {b : Bool}
/-! ### environments, further -/
theorem EnvB.fill {v : V} {o : O} {a1 : List Addr} (r : RepO G K F H v o a1) : ∀ {σ0 σ : L2.St} {env : Vn} {as : List Addr} {i : Nat} {p : Bool}, EnvB G K F H b σ0 σ env as → env[i]? = some ⟨p, none⟩ → σ[i]? = some (some v) → (∀ a ∈ a1, a ∉ as) →
    ∃ as', EnvB G K F H b σ0 σ (env.set i ⟨p, some o⟩) as' ∧ ∀ a ∈ as', a ∈ a1 ∨ a ∈ as
  | _, _, _, _, _, _, .nil _, e, _, _ => by simp at e
  | _, _, _, _, 0, _, .no (as := as) pn q, e, h, d => by
    simp at e h
    subst e h
    exact ⟨a1 ++ as, .yes pn r q d, fun a h => List.mem_append.mp h⟩
  | _, _, _, _, 0, _, .yes (as := c1) (bs := bs) pn r1 q d1, e, h, d => by simp at e
  | _, _, _, _, i + 1, p, .no pn q, e, h, d => by
    obtain ⟨as', h1, h2⟩ := q.fill r (i := i) (p := p) (by simpa using e) (by simpa using h) d
    exact ⟨as', .no pn h1, h2⟩
  | _, _, _, _, i + 1, p, .yes (as := c1) (bs := bs) pn r1 q d1, e, h, d => by
    obtain ⟨as', h1, h2⟩ := q.fill r (i := i) (p := p) (by simpa using e) (by simpa using h) fun a h z => d a h (List.mem_append_right _ z)
    refine ⟨c1 ++ as', .yes pn r1 h1 fun a h z => ?_, fun a h => ?_⟩
    · rcases h2 a z with z | z
      · exact d a z (List.mem_append_left _ h)
      · exact d1 a h z
    · rcases List.mem_append.mp h with h | h
      · exact .inr (List.mem_append_left _ h)
      · exact (h2 a h).imp id fun z => List.mem_append_right _ z
theorem EnvB.pad : ∀ {σ0 σ : L2.St} {env : Vn} {as : List Addr} (m : Nat), EnvR G K F H σ0 σ env as → EnvR G K F H (σ0 ++ List.replicate m none) (σ ++ List.replicate m none) (env ++ List.replicate m ⟨false, none⟩) as
  | _, _, _, _, 0, .nil z => .nil z
  | _, _, _, _, m + 1, .nil z => .no (fun z => by cases z) (EnvB.pad m (.nil z))
  | _, _, _, _, m, .no p q => .no p (q.pad m)
  | _, _, _, _, m, .yes p r q d => .yes p r (q.pad m) d
theorem EnvB.take : ∀ {σ0 σ : L2.St} {env : Vn} {as : List Addr} (n : Nat), EnvR G K F H σ0 σ env as → ∃ as', EnvR G K F H (σ0.take n) (σ.take n) (env.take n) as' ∧ ∀ a ∈ as', a ∈ as
  | _, _, _, _, 0, er => let ⟨_, ta, _, h, _, _, m⟩ := er.split; ⟨ta, .nil h, m⟩
  | _, _, _, _, n + 1, .nil z => ⟨_, .nil z, fun a h => h⟩
  | _, _, _, _, n + 1, .no p q => by
    obtain ⟨as', h1, h2⟩ := q.take n
    exact ⟨as', .no p h1, h2⟩
  | _, _, _, _, n + 1, .yes (as := c1) p r q d => by
    obtain ⟨as', h1, h2⟩ := q.take n
    refine ⟨c1 ++ as', .yes p r h1 fun a h z => d a h (h2 a z), fun a h => ?_⟩
    rcases List.mem_append.mp h with h | h
    · exact List.mem_append_left _ h
    · exact List.mem_append_right _ (h2 a h)

/-! ### lending -/
def O.isData : O → Bool
  | .v _ => true
  | _ => false
/-- the operands as a def's parameters: what a slot owns is lent; and what is left -/
def lend (env : Vn) : List Lr → Option (Vn × Vn)
  | [] => some ([], env)
  | .t o :: r => match lend env r with
    | some (ps, e) => some (⟨false, some o⟩ :: ps, e)
    | none => none
  | .s i :: r => match env[i]? with
    | some ⟨p, some o⟩ => if o.isData then (match lend env r with
        | some (ps, e) => some (⟨false, some o⟩ :: ps, e)
        | none => none)
      else (match lend (env.set i ⟨p, none⟩) r with
        | some (ps, e) => some (⟨true, some o⟩ :: ps, e)
        | none => none)
    | _ => none
/-- what was lent comes back -/
def giveBack (env : Vn) : List Lr → Vn → Option Vn
  | [], [] => some env
  | .t _ :: r, _ :: ps => giveBack env r ps
  | .s i :: r, ⟨true, some o⟩ :: ps => match env[i]? with
    | some ⟨p, none⟩ => giveBack (env.set i ⟨p, some o⟩) r ps
    | _ => none
  | .s _ :: r, ⟨true, none⟩ :: ps => giveBack env r ps
  | .s _ :: r, ⟨false, _⟩ :: ps => giveBack env r ps
  | _, _ => none
/-- the values of the operands that are slots -/
inductive Lvs (σ : L2.St) : List V → List Lr → Prop
  | nil : Lvs σ [] []
  | t {v : V} {o : O} {vs : List V} {rs : List Lr} : Lvs σ vs rs → Lvs σ (v :: vs) (.t o :: rs)
  | s {v : V} {i : Nat} {vs : List V} {rs : List Lr} : σ[i]? = some (some v) → Lvs σ vs rs → Lvs σ (v :: vs) (.s i :: rs)
theorem LRs.lvs {σ : L2.St} : ∀ {vs : List V} {rs : List Lr} {bs : List Addr}, LRs G K F H σ vs rs bs → Lvs σ vs rs
  | _, _, _, .nil => .nil
  | _, _, _, .t _ q _ => .t q.lvs
  | _, _, _, .s e q => .s e q.lvs
theorem lend_ok {σ0 σ : L2.St} : ∀ {rs : List Lr} {vs : List V} {bs as : List Addr} {env ps e : Vn}, EnvR G K F H σ0 σ env as → LRs G K F H σ vs rs bs → (∀ a ∈ bs, a ∉ as) → lend env rs = some (ps, e) →
    ∃ as1 as2, EnvR G K F H (vs.map some) (vs.map some) ps as1 ∧ EnvB G K F H false σ0 σ e as2 ∧ (∀ a ∈ as1, a ∉ as2) ∧ (∀ a ∈ as1, a ∈ as ∨ a ∈ bs) ∧ ∀ a ∈ as2, a ∈ as
  | [], _, _, as, _, _, _, er, .nil, _, h => by
    cases h
    obtain ⟨a1, ta, h1, h2, h3, h4, h5⟩ := er.split
    exact ⟨ta, a1, .nil h2, h1, h3, fun a h => .inl (h5 a h), h4⟩
  | .t o :: r, _, _, as, env, _, _, er, .t (as := c1) (bs := c2) r1 q d, dj, h => by
    unfold lend at h
    cases hl : lend env r with
    | none =>
      rw [hl] at h
      cases h
    | some x =>
      obtain ⟨ps, e⟩ := x
      rw [hl] at h
      cases h
      obtain ⟨as1, as2, h1, h2, h3, h4, h5⟩ := lend_ok er q (fun a m => dj a (List.mem_append_right _ m)) hl
      refine ⟨c1 ++ as1, as2, .yes (fun z => by cases z) r1 h1 fun a m z => ?_, h2, fun a m z => ?_, fun a m => ?_, h5⟩
      · rcases h4 a z with z | z
        · exact dj a (List.mem_append_left _ m) z
        · exact d a m z
      · rcases List.mem_append.mp m with m | m
        · exact dj a (List.mem_append_left _ m) (h5 a z)
        · exact h3 a m z
      · rcases List.mem_append.mp m with m | m
        · exact .inr (List.mem_append_left _ m)
        · exact (h4 a m).imp id fun z => List.mem_append_right _ z
  | .s i :: r, _, _, as, env, _, _, er, .s hs q, dj, h => by
    unfold lend at h
    cases hx : env[i]? with
    | none =>
      rw [hx] at h
      cases h
    | some sl =>
      obtain ⟨p, x⟩ := sl
      rw [hx] at h
      cases x with
      | none => cases h
      | some o =>
        dsimp only at h
        obtain ⟨v, a1, e1, r1, k1, rest, k2, k3, k4⟩ := er.at hx
        rw [e1] at hs
        cases hs
        cases hd : o.isData with
        | true =>
          rw [hd, if_pos rfl] at h
          cases hl : lend env r with
          | none =>
            rw [hl] at h
            cases h
          | some x =>
            obtain ⟨ps, e⟩ := x
            rw [hl] at h
            cases h
            obtain ⟨as1, as2, h1, h2, h3, h4, h5⟩ := lend_ok er q dj hl
            cases o with
            | v d =>
              cases r1 with
              | v r1 => exact ⟨as1, as2, .yes (as := []) (fun z => by cases z) (.v r1) h1 fun a m => by simp at m, h2, h3, h4, h5⟩
            | l _ => cases hd
            | d _ => cases hd
            | t _ => cases hd
            | o _ _ => cases hd
        | false =>
          rw [hd, if_neg (by decide)] at h
          obtain ⟨as0, g1, g2⟩ := k4 (F' := F) (H' := H) (o' := none) (b1 := []) (Ex.refl F) (fun _ _ _ h => h) (fun b m => (er.off b (k2 b m).1).1) (fun x e => by cases e) (fun a z => by simp at z)
          have g3 : ∀ a ∈ as0, a ∈ rest := fun a m => (g2 a m).elim (fun z => by simp at z) id
          cases hl : lend (env.set i ⟨p, none⟩) r with
          | none =>
            rw [hl] at h
            cases h
          | some x =>
            obtain ⟨ps, e⟩ := x
            rw [hl] at h
            cases h
            obtain ⟨as1, as2, h1, h2, h3, h4, h5⟩ := lend_ok g1 q (fun a m z => dj a m (k2 a (g3 a z)).1) hl
            refine ⟨a1 ++ as1, as2, .yes (fun _ => rfl) r1 h1 fun a m z => ?_, h2, fun a m z => ?_, fun a m => ?_, fun a m => (k2 a (g3 a (h5 a m))).1⟩
            · rcases h4 a z with z | z
              · exact (k2 a (g3 a z)).2 m
              · exact dj a z (k1 a m)
            · rcases List.mem_append.mp m with m | m
              · exact (k2 a (g3 a (h5 a z))).2 m
              · exact h3 a m z
            · rcases List.mem_append.mp m with m | m
              · exact .inl (k1 a m)
              · exact (h4 a m).imp (fun z => (k2 a (g3 a z)).1) id
theorem back_ok {σ0 σ : L2.St} : ∀ {rs : List Lr} {vs : List V} {σp : L2.St} {as1 as2 : List Addr} {ps e e' : Vn}, Lvs σ vs rs → EnvR G K F H (vs.map some) σp ps as1 → EnvB G K F H false σ0 σ e as2 → (∀ a ∈ as1, a ∉ as2) → giveBack e rs ps = some e' →
    ∃ as, EnvR G K F H σ0 σ e' as ∧ ∀ a ∈ as, a ∈ as1 ∨ a ∈ as2
  | [], _, _, _, as2, _, _, _, .nil, .nil z, er, dj, h => by
    cases h
    exact er.join z dj
  | .t _ :: r, _, _, _, _, _, _, _, .t l, .no _ q, er, dj, h => back_ok l q er dj h
  | .t _ :: r, _, _, _, _, _, _, _, .t l, .yes (as := c1) _ _ q _, er, dj, h => by
    obtain ⟨as, h1, h2⟩ := back_ok l q er (fun a m => dj a (List.mem_append_right _ m)) h
    exact ⟨as, h1, fun a m => (h2 a m).imp (List.mem_append_right _) id⟩
  | .s i :: r, _, _, _, _, ⟨true, none⟩ :: _, _, _, .s hs l, .no _ q, er, dj, h => back_ok l q er dj h
  | .s i :: r, _, _, _, _, ⟨false, none⟩ :: _, _, _, .s hs l, .no _ q, er, dj, h => back_ok l q er dj h
  | .s i :: r, _, _, _, _, ⟨false, some _⟩ :: _, _, _, .s hs l, .yes (as := c1) _ _ q _, er, dj, h => by
    obtain ⟨as, h1, h2⟩ := back_ok l q er (fun a m => dj a (List.mem_append_right _ m)) h
    exact ⟨as, h1, fun a m => (h2 a m).imp (List.mem_append_right _) id⟩
  | .s i :: r, _, _, _, as2, ⟨true, some o⟩ :: ps, e, e', .s hs l, .yes (as := c1) (bs := c2) pn r1 q d, er, dj, h => by
    unfold giveBack at h
    split at h
    · rename_i p hx
      have ev := pn rfl
      cases ev
      obtain ⟨as3, g1, g2⟩ := er.fill r1 hx hs fun a m => dj a (List.mem_append_left _ m)
      obtain ⟨as, h1, h2⟩ := back_ok l q g1 (fun a m z => by
        rcases g2 a z with z | z
        · exact d a z m
        · exact dj a (List.mem_append_right _ m) z) h
      refine ⟨as, h1, fun a m => ?_⟩
      rcases h2 a m with z | z
      · exact .inl (List.mem_append_right _ z)
      · exact (g2 a z).imp (List.mem_append_left _) id
    · cases h
end

/-! ### what a def does -/
/-- n parameters, m further names -/
def vFn (n m : Nat) (b : Vn → M (Fl × Vn)) : Vn → M (O × Vn) := fun ps => if ps.length = n then M.bind (b (ps ++ List.replicate m ⟨false, none⟩)) fun (fl, e) => match fl with
  | .rt o => M.ret (o, e.take n)
  | .nx => M.ret (.v .non, e.take n)
  | _ => none else none
section
variable (G : Gt) (K : PySem.W.Frag)
def PoF (F H : Hp) (as : List Addr) (σp : L2.St) (Q : VK) (E : XK) : R (O × Vn) → Prop
  | .ok (o, env') => ∀ (v : V) (F' H' : Hp) (bs as' : List Addr) (σ' : L2.St), Step F H as F' H' (bs ++ as') → EnvR G K F' H' σp σ' env' as' → RepO G K F' H' v o bs → (∀ a ∈ bs, a ∉ as') → Q v H'
  | .ex c fs => ∀ (d : Addr) (F' H' : Hp) (fv : List (Str × V)) (ts : List Addr), Step F H as F' H' ts → TabR F' H' G.tab ts → H' d = some (.xd fv) → RepF G K F' fv fs → E (.ref (G.cls c)) (some d) H'
/-- the promise of a def that does f -/
def spF (n : Nat) (f : Vn → M (O × Vn)) : Sp := fun vs H Q E => vs.length = n ∧ ∃ (F : Hp) (ps : Vn) (as : List Addr) (r : R (O × Vn)), Ex F H ∧ EnvR G K F H (vs.map some) (vs.map some) ps as ∧ f ps = some r ∧ PoF G K F H as (vs.map some) Q E r
end
/-- a call of a def -/
def vCall (f : Vn → M (O × Vn)) (g : Vn → M (List Lr × Vn)) : Vn → M (O × Vn) := fun env => M.bind (g env) fun (rs, e) => match lend e rs with
  | none => none
  | some (ps, e1) => M.bind (f ps) fun (o, ps') => match giveBack e1 rs ps' with
    | none => none
    | some e2 => M.ret (o, e2)
section
variable {G : Gt} {K : PySem.W.Frag} {W : WX}
theorem LRs.len {F H : Hp} {σ : L2.St} : ∀ {vs : List V} {rs : List Lr} {bs : List Addr}, LRs G K F H σ vs rs bs → vs.length = rs.length
  | _, _, _, .nil => rfl
  | _, _, _, .t _ q _ => congrArg Nat.succ q.len
  | _, _, _, .s _ q => congrArg Nat.succ q.len
theorem lend_len : ∀ {rs : List Lr} {env ps e : Vn}, lend env rs = some (ps, e) → ps.length = rs.length
  | [], _, _, _, h => by
    cases h
    rfl
  | .t o :: r, env, _, _, h => by
    unfold lend at h
    split at h
    · rename_i hl
      cases h
      exact congrArg Nat.succ (lend_len hl)
    · cases h
  | .s i :: r, env, _, _, h => by
    unfold lend at h
    split at h
    · split at h
      · split at h
        · rename_i hl
          cases h
          exact congrArg Nat.succ (lend_len hl)
        · cases h
      · split at h
        · rename_i hl
          cases h
          exact congrArg Nat.succ (lend_len hl)
        · cases h
    · cases h
theorem rd_call {t : TA} {g : Vn → M (List Lr × Vn)} {f : Vn → M (O × Vn)} {n : Nat} (h : RdA G K W t g) (hn : ∀ ps r, f ps = some r → ps.length = n) : RdE G K W (tCallG (spF G K n f) W t) (vCall f g) := by
  intro σ0 σ F H env as r Q ex er he po
  unfold vCall at he
  rcases M.bind_some he with ⟨c, fs, e, rfl⟩ | ⟨⟨rs, e1⟩, e, q⟩
  · exact h σ0 σ F H env as _ _ ex er e po
  · refine h σ0 σ F H env as _ _ ex er e fun vs F1 H1 bs as1 st er1 r1 d => ?_
    dsimp only at q
    cases hl : lend e1 rs with
    | none =>
      rw [hl] at q
      cases q
    | some x =>
      obtain ⟨ps, e2⟩ := x
      rw [hl] at q
      dsimp only at q
      obtain ⟨c1, c2, h1, h2, h3, h4, h5⟩ := lend_ok er1 r1 d hl
      have hall : ∀ a ∈ c1, a ∈ bs ++ as1 := fun a m => List.mem_append.mpr ((h4 a m).symm)
      rcases M.bind_some q with ⟨c, fs, e3, rfl⟩ | ⟨⟨o, ps'⟩, e3, q2⟩
      · refine ⟨by rw [r1.len, ← lend_len hl]; exact hn _ _ e3, F1, ps, c1, _, st.sub, h1, e3, ?_⟩
        intro dd F' H' fv ts st2 tb hd rf
        exact po dd F' H' fv ts (st.trans (st2.more hall)) tb hd rf
      · refine ⟨by rw [r1.len, ← lend_len hl]; exact hn _ _ e3, F1, ps, c1, _, st.sub, h1, e3, ?_⟩
        intro v F' H' b2 a2 σ' st2 er2 r2 d2
        dsimp only at q2
        cases hb : giveBack e2 rs ps' with
        | none =>
          rw [hb] at q2
          cases q2
        | some e4 =>
          rw [hb] at q2
          cases q2
          have er3 := st2.frameE h2 fun x m z => h3 x z m
          have ap := st2.apartE h2 fun x m z => h3 x z m
          obtain ⟨as', g1, g2⟩ := back_ok r1.lvs er2 er3 (fun a m z => ap a z (List.mem_append_right _ m)) hb
          refine po v F' H' b2 as' ⟨st.ex.trans st2.ex, st2.sub, fun b u hb n => ?_, fun b hb => ?_, fun b u hb => ?_⟩ g1 r2 fun a m z => ?_
          · exact (st.trans (st2.more hall)).keep b u hb n
          · rcases List.mem_append.mp hb with hb | hb
            · exact (st.trans (st2.more hall)).own b (List.mem_append_left _ hb)
            · rcases g2 b hb with z | z
              · exact (st.trans (st2.more hall)).own b (List.mem_append_right _ z)
              · exact st.own b (List.mem_append_right _ (h5 b z))
          · exact (st.trans (st2.more hall)).fr b u hb
          · rcases g2 a z with z | z
            · exact d2 a m z
            · exact ap a z (List.mem_append_left _ m)
theorem vFn_len {n m : Nat} {b : Vn → M (Fl × Vn)} {ps : Vn} {r : R (O × Vn)} (h : vFn n m b ps = some r) : ps.length = n := by
  unfold vFn at h
  split at h
  · assumption
  · cases h
theorem take_map {n : Nat} {vs : List V} (hl : vs.length = n) (x : L2.St) : (vs.map some ++ x).take n = vs.map some := by
  rw [List.take_append_of_le_length (by simp [hl])]
  rw [List.take_of_length_le (by simp [hl])]
/-- a def keeps its promise if its body does -/
theorem body_ok {n m : Nat} {N : List Str} {b : Vn → M (Fl × Vn)} {t : TS} {vs : List V} {H : Hp} {Q : VK} {E : XK} (hN : N.length = n + m) (h : RdS G K (fun cls d _ H' => E cls d H') t b) (hs : spF G K n (vFn n m b) vs H Q E) :
    t { nx := fun _ H' => Q .non H', rt := Q } (L2.start N vs) H := by
  obtain ⟨hl, F, ps, as, r, ex, er, hf, po⟩ := hs
  unfold vFn at hf
  split at hf
  · rename_i hp
    have e1 : L2.start N vs = vs.map some ++ List.replicate m none := by
      unfold L2.start
      rw [hN, hl]
      congr 2
      omega
    rw [e1]
    have er1 := er.pad m
    rcases M.bind_some hf with ⟨c, fs, e, rfl⟩ | ⟨⟨fl, e2⟩, e, q⟩
    · exact h _ _ F H _ as _ _ ex er1 e fun σ' dd F' H' fv ts st tb hd rf => po dd F' H' fv ts st tb hd rf
    · refine h _ _ F H _ as _ _ ex er1 e ?_
      cases fl with
      | rt o =>
        cases q
        intro v σ' F' H' bs as' st er2 r2 d
        obtain ⟨as2, g1, g2⟩ := er2.take n
        rw [take_map hl] at g1
        refine po v F' H' bs as2 _ (st.less fun b hb => ?_) g1 r2 fun a m z => d a m (g2 a z)
        rcases List.mem_append.mp hb with hb | hb
        · exact List.mem_append_left _ hb
        · exact List.mem_append_right _ (g2 b hb)
      | nx =>
        cases q
        intro σ' F' H' as' st er2
        obtain ⟨as2, g1, g2⟩ := er2.take n
        rw [take_map hl] at g1
        exact po .non F' H' [] as2 _ (st.less fun b hb => g2 b (by simpa using hb)) g1 (.v .non) fun a m => by simp at m
      | bk => cases q
      | ct => cases q
  · cases hf
end
end Vi

set_option Elab.async false
set_option linter.all false
set_option maxRecDepth 100000
set_option maxHeartbeats 2000000
/-! Vi9: expressions: what they evaluate to (CE), tests (CT), operands (CO, CA). -/
namespace Vi
open PySem PySem.Spec L2

/-- what is asked of a context -/
structure Cok (X : Cx) (W : WX) : Prop where
  nd : X.N.Nodup
  gd : X.A.guards = some []
  un : X.A.units + 200 < cLine
  tk : Takes X W
def W0 : WX := fun _ _ _ _ => False
theorem Cok.blk {X : Cx} {W : WX} (c : Cok X W) {s : Shared} {H : Hp} {scope : Scope} {ce : Env} {fp : List Addr} : Cok (X.blk s H scope ce fp) W0 := ⟨c.nd, c.gd, c.un, takes0⟩

section
variable (G : Gt) (X : Cx) (W : WX)
def CE (e : Expr) (f : Vn → M (O × Vn)) : Prop := ∃ t, PE X e t ∧ RdE G X.K W t f
def CA (es : List Expr) (g : Vn → M (List Lr × Vn)) : Prop := ∃ t, PA X es t ∧ RdA G X.K W t g
def CT (e : Expr) (f : Vn → M (Bool × Vn)) : Prop := ∃ t, PT X e t ∧ RdT G X.K W t f
/-- a test by a whole truth -/
def CW (e : Expr) (f : Vn → M (Bool × Vn)) : Prop := ∃ t, PW X e t ∧ RdT G X.K W t f
def CO (e : Expr) (h : (Vn → M (List Lr × Vn)) → Vn → M (List Lr × Vn)) : Prop := ∃ te, PE X e te ∧ ∀ (u : TA) (g : Vn → M (List Lr × Vn)), RdA G X.K W u g → RdA G X.K W (tCons te u) (h g)
def CS (st : Stmt) (f : Vn → M (Fl × Vn)) : Prop := ∃ t, PS X st t ∧ RdS G X.K W t f
def CSs (st : List Stmt) (f : Vn → M (Fl × Vn)) : Prop := ∃ t, PSs X st t ∧ RdS G X.K W t f
end

theorem Cok.suite {X : Cx} {W : WX} (c : Cok X W) {a : Addr} {pn : List (Addr × Obj)} : Cok (X.suite a pn) W0 := ⟨c.nd, c.gd, c.un, takes0⟩

theorem Cok.u64 {X : Cx} {W : WX} (c : Cok X W) : X.A.units + 64 < cLine := by have := c.un; omega
theorem Cok.u66 {X : Cx} {W : WX} (c : Cok X W) : X.A.units + 66 < cLine := by have := c.un; omega

/-! ### what evaluates how -/
def vB (f : Vn → M (O × Vn)) : Vn → M (Bool × Vn) := fun env => M.bind (f env) fun (o, e) => match o with
  | .v (.bl b) => M.ret (b, e)
  | _ => none
def vTr (g : Vn → M (List Lr × Vn)) : Vn → M (Bool × Vn) := fun env => M.bind (g env) fun (rs, e) => match views e rs with
  | some [d] => match d.tru with
    | some b => M.ret (b, e)
    | none => none
  | _ => none
def vAndT (f g : Vn → M (Bool × Vn)) : Vn → M (Bool × Vn) := fun env => M.bind (f env) fun (b, e) => if b = true then g e else M.ret (false, e)
def vOrT (f g : Vn → M (Bool × Vn)) : Vn → M (Bool × Vn) := fun env => M.bind (f env) fun (b, e) => if b = true then M.ret (true, e) else g e
def vNotT (f : Vn → M (Bool × Vn)) : Vn → M (Bool × Vn) := fun env => M.bind (f env) fun (b, e) => M.ret (!b, e)
def vAnd (f g : Vn → M (O × Vn)) : Vn → M (O × Vn) := fun env => M.bind (f env) fun (o, e) => match o.fz.tru with
  | some b => if b = true then g e else M.ret (o, e)
  | none => none
def vOr (f g : Vn → M (O × Vn)) : Vn → M (O × Vn) := fun env => M.bind (f env) fun (o, e) => match o.fz.tru with
  | some b => if b = true then M.ret (o, e) else g e
  | none => none
def vNot (g : Vn → M (List Lr × Vn)) : Vn → M (O × Vn) := fun env => M.bind (vTr g env) fun (b, e) => M.ret (.v (.bl (!b)), e)
def vIf (c : Vn → M (Bool × Vn)) (f g : Vn → M (O × Vn)) : Vn → M (O × Vn) := fun env => M.bind (c env) fun (b, e) => if b = true then f e else g e
/-- a op b op' c, of numbers -/
def vChain (c1 c2 : Int → Int → Bool) (fa fb fc : Vn → M (O × Vn)) : Vn → M (O × Vn) := fun env => M.bind (fa env) fun (oa, e1) => M.bind (fb e1) fun (ob, e2) => match oa, ob with
  | .v (.int a), .v (.int b) => if c1 a b = true then M.bind (fc e2) fun (oc, e3) => match oc with
      | .v (.int c) => M.ret (.v (.bl (c2 b c)), e3)
      | _ => none else M.ret (.v (.bl false), e2)
  | _, _ => none
/-- operands that are numbers -/
def vExI (f : Vn → M (O × Vn)) (g : Vn → M (List Lr × Vn)) : Vn → M (List Lr × Vn) := fun env => M.bind (f env) fun (o, e) => match o with
  | .v (.int i) => M.bind (g e) fun (rs, e2) => M.ret (.t (.v (.int i)) :: rs, e2)
  | _ => none
/-- a new tuple of shared things -/
def fTup (ds : List D) : Option O := if ds.length ≤ sizeLine then some (.v (.tup ds)) else none
/-- all operands shared -/
def vFzs : (Vn → M (O × Vn)) → (Vn → M (List Lr × Vn)) → Vn → M (List Lr × Vn) := fun f g => vEx (vFz f) g
def allT : List Lr → Option (List D)
  | [] => some []
  | .t o :: r => match o, allT r with
    | .v d, some ds => some (d :: ds)
    | _, _ => none
  | .s _ :: _ => none
def vTup (g : Vn → M (List Lr × Vn)) : Vn → M (O × Vn) := fun env => M.bind (g env) fun (rs, e) => match allT rs with
  | some ds => if ds.length ≤ sizeLine then M.ret (.v (.tup ds), e) else none
  | none => none
def vLst (g : Vn → M (List Lr × Vn)) : Vn → M (O × Vn) := fun env => M.bind (g env) fun (rs, e) => match allT rs with
  | some ds => if ds.length ≤ sizeLine then M.ret (.l ds, e) else none
  | none => none

section
variable {G : Gt} {K : PySem.W.Frag} {W : WX}
theorem rd_vB {t : TE} {f : Vn → M (O × Vn)} (h : RdE G K W t f) : RdT G K W (tTest t) (vB f) := by
  intro σ0 σ F H env as r Q ex er he po
  unfold vB at he
  rcases M.bind_some he with ⟨c, fs, e, rfl⟩ | ⟨⟨o, e1⟩, e, q⟩
  · exact h σ0 σ F H env as _ _ ex er e po
  · refine h σ0 σ F H env as _ _ ex er e fun v F1 H1 bs as1 st er1 r1 d => ?_
    dsimp only at q
    split at q
    · rename_i b
      cases q
      cases r1 with
      | v r1 =>
        cases r1
        exact ⟨b, rfl, po F1 H1 as1 (st.less fun b m => List.mem_append_right _ m) er1⟩
    · cases q
theorem rd_vTr {te : TE} {g : Vn → M (List Lr × Vn)} (h : RdA G K W (tCons te tNil) g) : RdT G K W (fun σ H Q => te σ H fun x H' => ∃ k, TruV K x H' k ∧ Q k H') (vTr g) := by
  intro σ0 σ F H env as r Q ex er he po
  unfold vTr at he
  show tCons te tNil σ H fun vs H' => match vs with
    | [x] => ∃ k, TruV K x H' k ∧ Q k H'
    | _ => True
  rcases M.bind_some he with ⟨c, fs, e, rfl⟩ | ⟨⟨rs, e1⟩, e, q⟩
  · exact h σ0 σ F H env as _ _ ex er e po
  · refine h σ0 σ F H env as _ _ ex er e fun vs F1 H1 bs as1 st er1 r1 d => ?_
    dsimp only at q
    split at q
    · rename_i dd hv
      split at q
      · rename_i b hb
        cases q
        obtain ⟨x, rfl, hx⟩ := (r1.views er1 hv).one
        exact ⟨b, hx.tru st.sub hb, po F1 H1 as1 (st.less fun b m => List.mem_append_right _ m) er1⟩
      · cases q
    · cases q
theorem PoT.ext {F H F1 H1 : Hp} {as as1 : List Addr} {σ0 σ : L2.St} {Q : Bool → Hp → Prop} {r : R (Bool × Vn)} (po : PoT G K W F H as σ0 σ Q r) (st : Step F H as F1 H1 as1) : PoT G K W F1 H1 as1 σ0 σ Q r := by
  cases r with
  | ok p => exact fun F' H' as' s2 er => po F' H' as' (st.trans s2) er
  | ex c fs => exact PoX.step po st
theorem PoE.ext {F H F1 H1 : Hp} {as as1 : List Addr} {σ0 σ : L2.St} {Q : VK} {r : R (O × Vn)} (po : PoE G K W F H as σ0 σ Q r) (st : Step F H as F1 H1 as1) : PoE G K W F1 H1 as1 σ0 σ Q r := by
  cases r with
  | ok p => exact fun v F' H' bs as' s2 er r d => po v F' H' bs as' (st.trans s2) er r d
  | ex c fs => exact PoX.step po st
theorem PoE.more {F H : Hp} {as as1 : List Addr} {σ0 σ : L2.St} {Q : VK} {r : R (O × Vn)} (po : PoE G K W F H as σ0 σ Q r) (m : ∀ a ∈ as1, a ∈ as) : PoE G K W F H as1 σ0 σ Q r := by
  cases r with
  | ok p => exact fun v F' H' bs as' s2 er r d => po v F' H' bs as' (s2.more m) er r d
  | ex c fs => exact PoX.more po m
theorem rd_andT {t u : TT} {f g : Vn → M (Bool × Vn)} (h : RdT G K W t f) (k : RdT G K W u g) : RdT G K W (tAnd t u) (vAndT f g) := by
  intro σ0 σ F H env as r Q ex er he po
  unfold vAndT at he
  rcases M.bind_some he with ⟨c, fs, e, rfl⟩ | ⟨⟨b, e1⟩, e, q⟩
  · exact h σ0 σ F H env as _ _ ex er e po
  · refine h σ0 σ F H env as _ _ ex er e fun F1 H1 as1 st er1 => ?_
    dsimp only at q
    cases b with
    | true =>
      rw [if_pos rfl] at q ⊢
      exact k σ0 σ F1 H1 e1 as1 r Q st.sub er1 q (po.ext st)
    | false =>
      rw [if_neg (by decide)] at q ⊢
      cases q
      exact po F1 H1 as1 st er1
theorem rd_orT {t u : TT} {f g : Vn → M (Bool × Vn)} (h : RdT G K W t f) (k : RdT G K W u g) : RdT G K W (tOr t u) (vOrT f g) := by
  intro σ0 σ F H env as r Q ex er he po
  unfold vOrT at he
  rcases M.bind_some he with ⟨c, fs, e, rfl⟩ | ⟨⟨b, e1⟩, e, q⟩
  · exact h σ0 σ F H env as _ _ ex er e po
  · refine h σ0 σ F H env as _ _ ex er e fun F1 H1 as1 st er1 => ?_
    dsimp only at q
    cases b with
    | true =>
      rw [if_pos rfl] at q ⊢
      cases q
      exact po F1 H1 as1 st er1
    | false =>
      rw [if_neg (by decide)] at q ⊢
      exact k σ0 σ F1 H1 e1 as1 r Q st.sub er1 q (po.ext st)
theorem rd_notT {t : TT} {f : Vn → M (Bool × Vn)} (h : RdT G K W t f) : RdT G K W (tNot t) (vNotT f) := by
  intro σ0 σ F H env as r Q ex er he po
  unfold vNotT at he
  rcases M.bind_some he with ⟨c, fs, e, rfl⟩ | ⟨⟨b, e1⟩, e, q⟩
  · exact h σ0 σ F H env as _ _ ex er e po
  · cases q
    exact h σ0 σ F H env as _ _ ex er e fun F1 H1 as1 st er1 => po F1 H1 as1 st er1
theorem rd_and {ta tb : TE} {f g : Vn → M (O × Vn)} (h : RdE G K W ta f) (k : RdE G K W tb g) : RdE G K W (tAndT K ta tb) (vAnd f g) := by
  intro σ0 σ F H env as r Q ex er he po
  unfold vAnd at he
  rcases M.bind_some he with ⟨c, fs, e, rfl⟩ | ⟨⟨o, e1⟩, e, q⟩
  · exact h σ0 σ F H env as _ _ ex er e po
  · refine h σ0 σ F H env as _ _ ex er e fun v F1 H1 bs as1 st er1 r1 d => ?_
    dsimp only at q
    split at q
    · rename_i b hb
      refine ⟨b, (show Vw G K F1 H1 v o.fz from ⟨o, bs, r1, rfl⟩).tru st.sub hb, ?_⟩
      cases b with
      | true =>
        rw [if_pos rfl] at q ⊢
        exact k σ0 σ F1 H1 e1 as1 r Q st.sub er1 q ((po.ext st).more fun a m => List.mem_append_right _ m)
      | false =>
        rw [if_neg (by decide)] at q ⊢
        cases q
        exact po v F1 H1 bs as1 st er1 r1 d
    · cases q
theorem rd_or {ta tb : TE} {f g : Vn → M (O × Vn)} (h : RdE G K W ta f) (k : RdE G K W tb g) : RdE G K W (tOrT K ta tb) (vOr f g) := by
  intro σ0 σ F H env as r Q ex er he po
  unfold vOr at he
  rcases M.bind_some he with ⟨c, fs, e, rfl⟩ | ⟨⟨o, e1⟩, e, q⟩
  · exact h σ0 σ F H env as _ _ ex er e po
  · refine h σ0 σ F H env as _ _ ex er e fun v F1 H1 bs as1 st er1 r1 d => ?_
    dsimp only at q
    split at q
    · rename_i b hb
      refine ⟨b, (show Vw G K F1 H1 v o.fz from ⟨o, bs, r1, rfl⟩).tru st.sub hb, ?_⟩
      cases b with
      | true =>
        rw [if_pos rfl] at q ⊢
        cases q
        exact po v F1 H1 bs as1 st er1 r1 d
      | false =>
        rw [if_neg (by decide)] at q ⊢
        exact k σ0 σ F1 H1 e1 as1 r Q st.sub er1 q ((po.ext st).more fun a m => List.mem_append_right _ m)
    · cases q
theorem rd_not {te : TE} {g : Vn → M (List Lr × Vn)} (h : RdA G K W (tCons te tNil) g) : RdE G K W (tNotT K te) (vNot g) := by
  intro σ0 σ F H env as r Q ex er he po
  unfold vNot at he
  rcases M.bind_some he with ⟨c, fs, e, rfl⟩ | ⟨⟨b, e1⟩, e, q⟩
  · exact rd_vTr h σ0 σ F H env as _ (fun k H1 => Q (.bl (!k)) H1) ex er e po
  · cases q
    refine rd_vTr h σ0 σ F H env as _ (fun k H1 => Q (.bl (!k)) H1) ex er e fun F1 H1 as1 st er1 => ?_
    exact po _ F1 H1 [] as1 st er1 (.v (.bl _)) fun a m => by simp at m
theorem rd_if {t : TT} {ta tb : TE} {c : Vn → M (Bool × Vn)} {f g : Vn → M (O × Vn)} (hc : RdT G K W t c) (h : RdE G K W ta f) (k : RdE G K W tb g) : RdE G K W (tIf t ta tb) (vIf c f g) := by
  intro σ0 σ F H env as r Q ex er he po
  unfold vIf at he
  rcases M.bind_some he with ⟨c, fs, e, rfl⟩ | ⟨⟨b, e1⟩, e, q⟩
  · exact hc σ0 σ F H env as _ _ ex er e po
  · refine hc σ0 σ F H env as _ _ ex er e fun F1 H1 as1 st er1 => ?_
    dsimp only at q
    cases b with
    | true =>
      rw [if_pos rfl] at q ⊢
      exact h σ0 σ F1 H1 e1 as1 r Q st.sub er1 q (po.ext st)
    | false =>
      rw [if_neg (by decide)] at q ⊢
      exact k σ0 σ F1 H1 e1 as1 r Q st.sub er1 q (po.ext st)
theorem rd_chain {c1 c2 : Int → Int → Bool} {ta tb tc : TE} {fa fb fc : Vn → M (O × Vn)} (ha : RdE G K W ta fa) (hb : RdE G K W tb fb) (hc : RdE G K W tc fc) :
    RdE G K W (tChain (rI0 fun i j => .bl (c1 i j)) (rI0 fun i j => .bl (c2 i j)) ta tb tc) (vChain c1 c2 fa fb fc) := by
  intro σ0 σ F H env as r Q ex er he po
  unfold vChain at he
  rcases M.bind_some he with ⟨c, fs, e, rfl⟩ | ⟨⟨oa, e1⟩, e, q⟩
  · exact ha σ0 σ F H env as _ _ ex er e po
  · refine ha σ0 σ F H env as _ _ ex er e fun v F1 H1 bs as1 st er1 r1 d => ?_
    have po1 := (po.ext st).more (as1 := as1) fun a m => List.mem_append_right _ m
    rcases M.bind_some q with ⟨c, fs, e2, rfl⟩ | ⟨⟨ob, e3⟩, e2, q2⟩
    · exact hb σ0 σ F1 H1 e1 as1 _ _ st.sub er1 e2 po1
    · refine hb σ0 σ F1 H1 e1 as1 _ _ st.sub er1 e2 fun w F2 H2 cs as2 st2 er2 r2 d2 => ?_
      have po2 := (po1.ext st2).more (as1 := as2) fun a m => List.mem_append_right _ m
      dsimp only at q2
      split at q2
      · rename_i a b
        cases r1 with
        | v r1 =>
          cases r1
          cases r2 with
          | v r2 =>
            cases r2
            refine ⟨a, b, rfl, rfl, c1 a b, rfl, ?_⟩
            cases hk : c1 a b with
            | true =>
              rw [hk, if_pos rfl] at q2
              rw [if_pos rfl]
              rcases M.bind_some q2 with ⟨c, fs, e5, rfl⟩ | ⟨⟨oc, e6⟩, e5, q3⟩
              · exact hc σ0 σ F2 H2 e3 as2 _ _ st2.sub er2 e5 po2
              · refine hc σ0 σ F2 H2 e3 as2 _ _ st2.sub er2 e5 fun x F3 H3 ds as3 st3 er3 r3 d3 => ?_
                dsimp only at q3
                split at q3
                · cases q3
                  cases r3 with
                  | v r3 =>
                    cases r3
                    exact ⟨_, _, rfl, rfl, po2 _ F3 H3 [] as3 st3 er3 (.v (.bl _)) fun a m => by simp at m⟩
                · cases q3
            | false =>
              rw [hk, if_neg (by decide)] at q2
              rw [if_neg (by decide)]
              cases q2
              exact po2 _ F2 H2 [] as2 ((Step.refl st2.sub).less fun b m => by simpa using m) er2 (.v (.bl _)) fun a m => by simp at m
      · cases q2
theorem rd_exI {t : TE} {u : TA} {f : Vn → M (O × Vn)} {g : Vn → M (List Lr × Vn)} (h : RdE G K W t f) (k : RdA G K W u g) : RdA G K W (tConsI t u) (vExI f g) := by
  intro σ0 σ F H env as r Q ex er he po
  unfold vExI at he
  rcases M.bind_some he with ⟨c, fs, e, rfl⟩ | ⟨⟨o, e1⟩, e, q⟩
  · exact h σ0 σ F H env as _ _ ex er e po
  · refine h σ0 σ F H env as _ _ ex er e fun v F1 H1 bs as1 st er1 r1 d => ?_
    dsimp only at q
    split at q
    · rename_i i
      cases r1 with
      | v r1 =>
        cases r1
        refine ⟨i, rfl, ?_⟩
        rcases M.bind_some q with ⟨c, fs, e2, rfl⟩ | ⟨⟨rs, e3⟩, e2, q2⟩
        · exact k σ0 σ F1 H1 e1 as1 _ _ st.sub er1 e2 (PoX.step po st)
        · cases q2
          refine k σ0 σ F1 H1 e1 as1 _ _ st.sub er1 e2 fun vs F2 H2 cs as2 st2 er2 r2 d2 => ?_
          exact po (.int i :: vs) F2 H2 cs as2 (st.trans st2) er2 (.t (as := []) (.v (.int i)) r2 fun a m => by simp at m) d2
    · cases q
theorem allT_ok {F H : Hp} {σ : L2.St} : ∀ {vs : List V} {rs : List Lr} {bs : List Addr} {ds : List D}, LRs G K F H σ vs rs bs → allT rs = some ds → Reps G K F vs ds
  | _, _, _, _, .nil, e => by
    cases e
    exact .nil
  | _, _, _, _, .t (o := o) (rs := rs) r q d, e => by
    unfold allT at e
    split at e
    · rename_i d' ds he2
      cases e
      cases r with
      | v r => exact .cons r (allT_ok q he2)
    · cases e
  | _, _, _, _, .s hs q, e => by cases e
theorem Step.outer {F H F1 H1 F2 H2 : Hp} {as bs as1 cs : List Addr} (st : Step F H as F1 H1 (bs ++ as1)) (st2 : Step F1 H1 [] F2 H2 cs) : Step F H as F2 H2 (cs ++ as1) :=
  (st.less fun b m => List.mem_append_right _ m).trans (st2.beside as1)
theorem rd_tup {t : TA} {g : Vn → M (List Lr × Vn)} (h : RdA G K W t g) : RdE G K W (tTup t) (vTup g) := by
  intro σ0 σ F H env as r Q ex er he po
  unfold vTup at he
  rcases M.bind_some he with ⟨c, fs, e, rfl⟩ | ⟨⟨rs, e1⟩, e, q⟩
  · exact h σ0 σ F H env as _ _ ex er e po
  · refine h σ0 σ F H env as _ _ ex er e fun vs F1 H1 bs as1 st er1 r1 d => ?_
    dsimp only at q
    split at q
    · rename_i ds hd
      split at q
      · rename_i hz
        cases q
        have rp := allT_ok r1 hd
        refine ⟨by rw [rp.len]; exact hz, fun p hp => ?_⟩
        have s2 : Step F1 H1 [] (upd F1 p (.tup vs)) (upd H1 p (.tup vs)) [] := Step.newF st.sub hp
        exact po _ _ _ [] as1 (st.outer s2) (s2.frameE er1 fun x _ z => by simp at z) (.v (.tup (.inl (.inl upd_same)) (rp.mono s2.ex))) fun a m => by simp at m
      · cases q
    · cases q
theorem rd_lst {t : TA} {g : Vn → M (List Lr × Vn)} (h : RdA G K W t g) : RdE G K W (tLst t) (vLst g) := by
  intro σ0 σ F H env as r Q ex er he po
  unfold vLst at he
  rcases M.bind_some he with ⟨c, fs, e, rfl⟩ | ⟨⟨rs, e1⟩, e, q⟩
  · exact h σ0 σ F H env as _ _ ex er e po
  · refine h σ0 σ F H env as _ _ ex er e fun vs F1 H1 bs as1 st er1 r1 d => ?_
    dsimp only at q
    split at q
    · rename_i ds hd
      split at q
      · rename_i hz
        cases q
        have rp := allT_ok r1 hd
        refine ⟨by rw [rp.len]; exact hz, fun p hp => ?_⟩
        have s2 : Step F1 H1 [] F1 (upd H1 p (.lst vs)) [p] := Step.newO st.sub hp
        refine po _ _ _ [p] as1 (st.outer s2) (s2.frameE er1 fun x _ z => by simp at z) (.l upd_same (st.sub.back hp) rp) fun a m z => ?_
        simp at m
        subst m
        obtain ⟨_, u, hu⟩ := er1.off a z
        rw [hp] at hu
        cases hu
      · cases q
    · cases q
end

section
variable {G : Gt} {X : Cx} {W : WX} {a b c e : Expr} {es rest : List Expr} {pos p1 p2 p3 : Pos}
/-! ### constants, names -/
theorem ce_int {i : Int} {j} : CE G X W (.Constant (.int i) j pos) (vLit (.int i)) := ⟨_, pe_int, rd_lit fun F => .int i⟩
theorem ce_str {s : Str} {j} : CE G X W (.Constant (.str s) j pos) (vLit (.str s)) := ⟨_, pe_str, rd_lit fun F => .str s⟩
theorem ce_bl {s : Bool} {j} : CE G X W (.Constant (.bool s) j pos) (vLit (.bl s)) := ⟨_, pe_bl, rd_lit fun F => .bl s⟩
theorem ce_non {j} : CE G X W (.Constant .none j pos) (vLit .non) := ⟨_, pe_non, rd_lit fun F => .non⟩
theorem ce_rd {i : Nat} {x : Str} (hN : X.N[i]? = some x) (hv : Vis X.env.scope x) (hd : (x == ("__debug__" : Str)) = false := by decide) (hcd : (x == ("__classdict__" : Str)) = false := by decide) : CE G X W (.Name x pos) (vRd i) := ⟨_, pe_var hN hv hd hcd, rd_rd⟩
theorem ce_mv {i : Nat} {x : Str} (hN : X.N[i]? = some x) (hv : Vis X.env.scope x) (hd : (x == ("__debug__" : Str)) = false := by decide) (hcd : (x == ("__classdict__" : Str)) = false := by decide) : CE G X W (.Name x pos) (vMv i) := ⟨_, pe_var hN hv hd hcd, rd_mv⟩
theorem ce_fz {f : Vn → M (O × Vn)} (h : CE G X W e f) : CE G X W e (vFz f) := let ⟨t, p, r⟩ := h; ⟨t, p, rd_fz r⟩
theorem ce_glo {x : Str} {v : V} {u : Value} {d : D} (hg : Gl X x) (hm : X.mg x = some u) (r : RelV v u) (hd : ∀ F, Rep G X.K F v d) (hb : (x == ("__debug__" : Str)) = false := by decide) : CE G X W (.Name x pos) (vLit d) := ⟨_, pe_glob hg hm r hb, rd_lit hd⟩
/-! ### operands -/
theorem co_ex {f : Vn → M (O × Vn)} (h : CE G X W e f) : CO G X W e (vEx f) := let ⟨t, p, r⟩ := h; ⟨t, p, fun _ _ k => rd_ex r k⟩
theorem co_sl {i : Nat} {x : Str} (hN : X.N[i]? = some x) (hv : Vis X.env.scope x) (hd : (x == ("__debug__" : Str)) = false := by decide) (hcd : (x == ("__classdict__" : Str)) = false := by decide) : CO G X W (.Name x pos) (vSl i) := ⟨_, pe_var hN hv hd hcd, fun _ _ k => rd_sl k⟩
theorem ca_nil : CA G X W [] vNil := ⟨_, pa_nil, rd_nil⟩
theorem ca_cons {h : (Vn → M (List Lr × Vn)) → Vn → M (List Lr × Vn)} {g : Vn → M (List Lr × Vn)} (ho : CO G X W e h) (hr : CA G X W es g) (hs : starEach (e :: es) X.env = (false, eval e X.env) :: starEach es X.env := by rfl) : CA G X W (e :: es) (h g) := by
  obtain ⟨t, p, k⟩ := ho
  obtain ⟨u, q, r⟩ := hr
  exact ⟨_, pa_cons p q hs, k _ _ r⟩
/-! ### operators -/
theorem ce_bin {op : Operator} {r : R2} {run : List D → Option O} {ha hb : (Vn → M (List Lr × Vn)) → Vn → M (List Lr × Vn)} (o : OpR X (binaryOp op) r) (ok : OpOk G X.K (L2r r) run) (h1 : CO G X W a ha) (h2 : CO G X W b hb) : CE G X W (.BinOp a op b pos) (vOp run (ha (hb vNil))) := by
  obtain ⟨ta, p, k⟩ := h1
  obtain ⟨tb, q, l⟩ := h2
  exact ⟨_, pe_op o p q, rd_op (k _ _ (l _ _ rd_nil)) ok⟩
theorem ce_un {op : UnaryOp} {r : V → Hp → VK → Prop} {run : List D → Option O} {ha : (Vn → M (List Lr × Vn)) → Vn → M (List Lr × Vn)} (o : UnR X (unaryOp op) r) (ok : OpOk G X.K (L1r r) run) (h1 : CO G X W a ha) : CE G X W (.UnaryOp op a pos) (vOp run (ha vNil)) := by
  obtain ⟨ta, p, k⟩ := h1
  exact ⟨_, pe_un o p, rd_op (k _ _ rd_nil) ok⟩
theorem ce_cmp {op : CmpOp} {r : R2} {run : List D → Option O} {ha hb : (Vn → M (List Lr × Vn)) → Vn → M (List Lr × Vn)} (o : OpR X (compareOp op) r) (ok : OpOk G X.K (L2r r) run) (h1 : CO G X W a ha) (h2 : CO G X W b hb) (hm : behindInMarks op b = false := by with_unfolding_all rfl) :
    CE G X W (.Compare a [op] [b] pos) (vOp run (ha (hb vNil))) := by
  obtain ⟨ta, p, k⟩ := h1
  obtain ⟨tb, q, l⟩ := h2
  exact ⟨_, pe_cmpR o p q hm, rd_op (k _ _ (l _ _ rd_nil)) ok⟩
theorem ct_cmp {op : CmpOp} {r : R2} {run : List D → Option O} {ha hb : (Vn → M (List Lr × Vn)) → Vn → M (List Lr × Vn)} (o : OpR X (compareOp op) r) (ok : OpOk G X.K (L2r r) run) (h1 : CO G X W a ha) (h2 : CO G X W b hb) (hm : behindInMarks op b = false := by with_unfolding_all rfl) :
    CT G X W (.Compare a [op] [b] pos) (vB (vOp run (ha (hb vNil)))) := by
  obtain ⟨ta, p, k⟩ := h1
  obtain ⟨tb, q, l⟩ := h2
  exact ⟨_, pt_cmpR o p q hm, rd_vB (rd_op (k _ _ (l _ _ rd_nil)) ok)⟩
theorem ce_chain {op op' : CmpOp} {c1 c2 : Int → Int → Bool} {fa fb fc : Vn → M (O × Vn)} (o : OpR X (compareOp op) (rI0 fun i j => .bl (c1 i j))) (o' : OpR X (compareOp op') (rI0 fun i j => .bl (c2 i j))) (h1 : CE G X W a fa) (h2 : CE G X W b fb) (h3 : CE G X W c fc)
    (hm : lastMarks [op, op'] [b, c] = false := by with_unfolding_all rfl) : CE G X W (.Compare a [op, op'] [b, c] pos) (vChain c1 c2 fa fb fc) := by
  obtain ⟨ta, p, k⟩ := h1
  obtain ⟨tb, q, l⟩ := h2
  obtain ⟨tc, s, m⟩ := h3
  exact ⟨_, pe_chain o o' p q s hm, rd_chain k l m⟩
theorem ct_chain {op op' : CmpOp} {c1 c2 : Int → Int → Bool} {fa fb fc : Vn → M (O × Vn)} (o : OpR X (compareOp op) (rI0 fun i j => .bl (c1 i j))) (o' : OpR X (compareOp op') (rI0 fun i j => .bl (c2 i j))) (h1 : CE G X W a fa) (h2 : CE G X W b fb) (h3 : CE G X W c fc)
    (hm : lastMarks [op, op'] [b, c] = false := by with_unfolding_all rfl) : CT G X W (.Compare a [op, op'] [b, c] pos) (vB (vChain c1 c2 fa fb fc)) := by
  obtain ⟨ta, p, k⟩ := h1
  obtain ⟨tb, q, l⟩ := h2
  obtain ⟨tc, s, m⟩ := h3
  exact ⟨_, pt_chain o o' p q s hm, rd_vB (rd_chain k l m)⟩
/-! ### truths -/
theorem ct_tr {ha : (Vn → M (List Lr × Vn)) → Vn → M (List Lr × Vn)} (h : CO G X W a ha) (he : ∀ whole, isTrue a X.env whole = (do let v ← whole; standAt a.pos; holding [v] (truthy v)) := by intro _; rfl) : CT G X W a (vTr (ha vNil)) := by
  obtain ⟨ta, p, k⟩ := h
  exact ⟨_, pt_truth p he, rd_vTr (k _ _ rd_nil)⟩
theorem cw_and1 {f : Vn → M (Bool × Vn)} (h : CT G X W a f) : CW G X W (.BoolOp .And [a] pos) f := let ⟨t, p, r⟩ := h; ⟨t, pw_and1 p, r⟩
theorem cw_or1 {f : Vn → M (Bool × Vn)} (h : CT G X W a f) : CW G X W (.BoolOp .Or [a] pos) f := let ⟨t, p, r⟩ := h; ⟨t, pw_or1 p, r⟩
theorem cw_and {f g : Vn → M (Bool × Vn)} (h : CT G X W a f) (k : CW G X W (.BoolOp .And (b :: rest) pos) g) : CW G X W (.BoolOp .And (a :: b :: rest) pos) (vAndT f g) := let ⟨_, p, r⟩ := h; let ⟨_, q, s⟩ := k; ⟨_, pw_and p q, rd_andT r s⟩
theorem cw_or {f g : Vn → M (Bool × Vn)} (h : CT G X W a f) (k : CW G X W (.BoolOp .Or (b :: rest) pos) g) : CW G X W (.BoolOp .Or (a :: b :: rest) pos) (vOrT f g) := let ⟨_, p, r⟩ := h; let ⟨_, q, s⟩ := k; ⟨_, pw_or p q, rd_orT r s⟩
theorem ct_w {f : Vn → M (Bool × Vn)} (h : CW G X W a f) : CT G X W a f := let ⟨t, p, r⟩ := h; ⟨t, p.pt, r⟩
theorem ct_not {f : Vn → M (Bool × Vn)} (h : CT G X W a f) : CT G X W (.UnaryOp .Not a pos) (vNotT f) := let ⟨_, p, r⟩ := h; ⟨_, pt_not p, rd_notT r⟩
theorem ce_one {op} {f : Vn → M (O × Vn)} (h : CE G X W a f) : CE G X W (.BoolOp op [a] pos) f := let ⟨_, p, r⟩ := h; ⟨_, pe_one p, r⟩
theorem ce_and {f g : Vn → M (O × Vn)} (h : CE G X W a f) (k : CE G X W (.BoolOp .And (b :: rest) pos) g) : CE G X W (.BoolOp .And (a :: b :: rest) pos) (vAnd f g) := let ⟨_, p, r⟩ := h; let ⟨_, q, s⟩ := k; ⟨_, pe_andT p q, rd_and r s⟩
theorem ce_or {f g : Vn → M (O × Vn)} (h : CE G X W a f) (k : CE G X W (.BoolOp .Or (b :: rest) pos) g) : CE G X W (.BoolOp .Or (a :: b :: rest) pos) (vOr f g) := let ⟨_, p, r⟩ := h; let ⟨_, q, s⟩ := k; ⟨_, pe_orT p q, rd_or r s⟩
theorem ce_not {ha : (Vn → M (List Lr × Vn)) → Vn → M (List Lr × Vn)} (h : CO G X W a ha) : CE G X W (.UnaryOp .Not a pos) (vNot (ha vNil)) := let ⟨_, p, k⟩ := h; ⟨_, pe_notT p, rd_not (k _ _ rd_nil)⟩
theorem ce_if {f : Vn → M (Bool × Vn)} {g h : Vn → M (O × Vn)} (hc : CT G X W c f) (ha : CE G X W a g) (hb : CE G X W b h) : CE G X W (.IfExp c a b pos) (vIf f g h) := let ⟨_, p, r⟩ := hc; let ⟨_, q, s⟩ := ha; let ⟨_, u, v⟩ := hb; ⟨_, pe_ifExp p q u, rd_if r s v⟩
/-! ### displays -/
theorem ce_tup {g : Vn → M (List Lr × Vn)} {x1} (h : CA G X W es g) : CE G X W (.Tuple es x1 pos) (vTup g) := let ⟨_, p, r⟩ := h; ⟨_, pe_tup p, rd_tup r⟩
theorem ce_lst {g : Vn → M (List Lr × Vn)} (h : CA G X W es g) : CE G X W (.List es pos) (vLst g) := let ⟨_, p, r⟩ := h; ⟨_, pe_lst p, rd_lst r⟩
/-! ### calls -/
theorem ce_bfn {x : Str} {id : String} {r : List V → Hp → VK → Prop} {run : List D → Option O} {g : Vn → M (List Lr × Vn)} (hc : CallR X (.builtin id) r) (ok : OpOk G X.K r run) (hg : Gl X x) (hm : X.mg x = none) (hv : bootBuiltins x = some (.builtin id)) (ha : CA G X W (e :: es) g) (hn : x ≠ "__name__" := by decide) (hdb : (x == ("__debug__" : Str)) = false := by decide)
    (he : starEach (e :: es) X.env = (false, eval e X.env) :: starEach es X.env := by rfl) (hpl : (backTo pos (starEach es X.env)).any (·.1) = false := by rfl) : CE G X W (.Call (.Name x p1) (e :: es) [] pos) (vOp run g) := let ⟨_, p, k⟩ := ha; ⟨_, pe_callB hc hg hm hv p hn hdb he hpl, rd_op k ok⟩
theorem ce_bty {x : Str} {T : String} {r : List V → Hp → VK → Prop} {run : List D → Option O} {g : Vn → M (List Lr × Vn)} (hc : CallR X (.type T) r) (ok : OpOk G X.K r run) (hg : Gl X x) (hm : X.mg x = none) (hv : bootBuiltins x = some (.type T)) (ha : CA G X W (e :: es) g) (hn : x ≠ "__name__" := by decide) (hdb : (x == ("__debug__" : Str)) = false := by decide)
    (he : starEach (e :: es) X.env = (false, eval e X.env) :: starEach es X.env := by rfl) (hpl : (backTo pos (starEach es X.env)).any (·.1) = false := by rfl) : CE G X W (.Call (.Name x p1) (e :: es) [] pos) (vOp run g) := let ⟨_, p, k⟩ := ha; ⟨_, pe_callTy hc hg hm hv p hn hdb he hpl, rd_op k ok⟩
theorem ce_call {x : Str} {f : Addr} {fd : FuncData} {ps : List Str} {k n : Nat} {h : Vn → M (O × Vn)} {g : Vn → M (List Lr × Vn)} (F : FnG X.prog X.w X.K X.mg X.base k f fd ps (spF G X.K n h)) (hl : ∀ ps r, h ps = some r → ps.length = n) (hr : Room k X.A) (ck : Cok X W) (hg : Gl X x) (hm : X.mg x = some (.ref f)) (hk : PySem.W.keepIn X.K (.ref f) = true) (hb : L2.Binds X.K fd ps [])
    (ha : CA G X W (e :: es) g) (hdb : (x == ("__debug__" : Str)) = false := by decide) (he : starEach (e :: es) X.env = (false, eval e X.env) :: starEach es X.env := by rfl) (hpl : (backTo pos (starEach es X.env)).any (·.1) = false := by rfl) :
    CE G X W (.Call (.Name x p1) (e :: es) [] pos) (vCall h g) := let ⟨_, p, r⟩ := ha; ⟨_, pe_callG F hr ck.gd hg hm hk hb ck.tk p hdb he hpl, rd_call r hl⟩
theorem ce_call0 {x : Str} {f : Addr} {fd : FuncData} {ps : List Str} {k n : Nat} {h : Vn → M (O × Vn)} (F : FnG X.prog X.w X.K X.mg X.base k f fd ps (spF G X.K n h)) (hl : ∀ ps r, h ps = some r → ps.length = n) (hr : Room k X.A) (ck : Cok X W) (hg : Gl X x) (hm : X.mg x = some (.ref f)) (hk : PySem.W.keepIn X.K (.ref f) = true) (hb : L2.Binds X.K fd ps [])
    (hdb : (x == ("__debug__" : Str)) = false := by decide) : CE G X W (.Call (.Name x p1) [] [] pos) (vCall h vNil) := ⟨_, pe_callG0 F hr ck.gd hg hm hk hb ck.tk hdb, rd_call rd_nil hl⟩
/-! ### subscripts -/
theorem ce_ix {ha hb : (Vn → M (List Lr × Vn)) → Vn → M (List Lr × Vn)} (ck : Cok X W) (h1 : CO G X W a ha) (h2 : CO G X W b hb) (hs : PlainIx b := by intro _ _; rfl) : CE G X W (.Subscript a b pos) (vOp fIx (ha (hb vNil))) := by
  obtain ⟨ta, p, k⟩ := h1
  obtain ⟨tb, q, l⟩ := h2
  exact ⟨_, pe_ix (ix_V (by have := ck.un; omega)) p q hs, rd_op (k _ _ (l _ _ rd_nil)) ok_ix⟩
theorem ce_s00 {ha : (Vn → M (List Lr × Vn)) → Vn → M (List Lr × Vn)} (h1 : CO G X W a ha) : CE G X W (.Subscript a (.Slice none none none p2) pos) (vOp fS00 (ha vNil)) := by
  obtain ⟨ta, p, k⟩ := h1
  exact ⟨_, pe_slice sl_V p po_none po_none, rd_op (k _ _ rd_nil) ok_S00⟩
theorem ce_s10 {ha : (Vn → M (List Lr × Vn)) → Vn → M (List Lr × Vn)} {f : Vn → M (O × Vn)} (h1 : CO G X W a ha) (h2 : CE G X W b f) : CE G X W (.Subscript a (.Slice (some b) none none p2) pos) (vOp fS10 (ha (vExI f vNil))) := by
  obtain ⟨ta, p, k⟩ := h1
  obtain ⟨tb, q, l⟩ := h2
  exact ⟨_, pe_slice sl_V p (po_some q) po_none, rd_op (k _ _ (rd_exI l rd_nil)) ok_S10⟩
theorem ce_s01 {ha : (Vn → M (List Lr × Vn)) → Vn → M (List Lr × Vn)} {f : Vn → M (O × Vn)} (h1 : CO G X W a ha) (h2 : CE G X W b f) : CE G X W (.Subscript a (.Slice none (some b) none p2) pos) (vOp fS01 (ha (vExI f vNil))) := by
  obtain ⟨ta, p, k⟩ := h1
  obtain ⟨tb, q, l⟩ := h2
  exact ⟨_, pe_slice sl_V p po_none (po_some q), rd_op (k _ _ (rd_exI l rd_nil)) ok_S01⟩
theorem ce_s11 {ha : (Vn → M (List Lr × Vn)) → Vn → M (List Lr × Vn)} {f g : Vn → M (O × Vn)} (h1 : CO G X W a ha) (h2 : CE G X W b f) (h3 : CE G X W c g) : CE G X W (.Subscript a (.Slice (some b) (some c) none p2) pos) (vOp fS11 (ha (vExI f (vExI g vNil)))) := by
  obtain ⟨ta, p, k⟩ := h1
  obtain ⟨tb, q, l⟩ := h2
  obtain ⟨tc, s, m⟩ := h3
  exact ⟨_, pe_slice sl_V p (po_some q) (po_some s), rd_op (k _ _ (rd_exI l (rd_exI m rd_nil))) ok_S11⟩
end
end Vi

set_option Elab.async false
set_option linter.all false
set_option maxRecDepth 100000
set_option maxHeartbeats 2000000
/-! Vi10: what is iterated, targets, for, while, comprehensions. -/
namespace Vi
open PySem PySem.Spec L2

/-! ### sources: J yields the things ds, whatever comes, as long as F stays -/
structure Src (G : Gt) (K : PySem.W.Frag) (F : Hp) (J : It) (ds : List D) : Prop where
  go : ∀ (H : Hp) (i : Nat), Ex F H → i < ds.length → J.go i H
  stop : ∀ H : Hp, Ex F H → J.stop ds.length H
  yld : ∀ (F1 H : Hp) (i : Nat) (x : V) (H' : Hp), Ex F F1 → Ex F1 H → i < ds.length → J.yld i H x H' → ∃ (d : D) (F2 : Hp), ds[i]? = some d ∧ Step F1 H [] F2 H' [] ∧ Rep G K F2 x d
section
variable (G : Gt) (K : PySem.W.Frag)
def PoI (W : WX) (F H : Hp) (as : List Addr) (σ0 σ : L2.St) (Q : It → Hp → Prop) : R (List D × Vn) → Prop
  | .ok (ds, env') => ∀ (J : It) (F' H' : Hp) (as' : List Addr), Step F H as F' H' as' → EnvR G K F' H' σ0 σ env' as' → Src G K F' J ds → Q J H'
  | .ex c fs => PoX G K W F H as σ c fs
def RdI (W : WX) (t : TI) (f : Vn → M (List D × Vn)) : Prop :=
  ∀ (σ0 σ : L2.St) (F H : Hp) (env : Vn) (as : List Addr) (r : R (List D × Vn)) (Q : It → Hp → Prop), Ex F H → EnvR G K F H σ0 σ env as → f env = some r → PoI G K W F H as σ0 σ Q r → t σ H Q
end
def CI (G : Gt) (X : Cx) (W : WX) (tg e : Expr) (f : Vn → M (List D × Vn)) : Prop := ∃ t, PI X tg e t ∧ RdI G X.K W t f

/-- the items of a list, of a tuple -/
def vSeq (f : Vn → M (O × Vn)) : Vn → M (List D × Vn) := fun env => M.bind (f env) fun (o, e) => match o.fz with
  | .lst ds => M.ret (ds, e)
  | .tup ds => M.ret (ds, e)
  | _ => none
def iSeq (K : PySem.W.Frag) (tl : TE) : TI := fun σ H R => tl σ H fun x H1 => ∃ a, x = .ref a ∧ (((∃ xs, SqL K H1 a xs) ∧ R (Itl K a) H1) ∨ ((∃ xs, SqT K H1 a xs) ∧ R (Itt K a) H1))
section
variable {G : Gt} {K : PySem.W.Frag} {W : WX} {X : Cx}
theorem pi_seq {tg l : Expr} {tl : TE} (hl : PE X l tl) : PI X tg l (iSeq X.K tl) := by
  refine ⟨fun pins s σ H R I h => ?_⟩
  refine thn (hl.run pins s σ H (fun x H1 => ∃ a, x = .ref a ∧ (((∃ xs, SqL X.K H1 a xs) ∧ R (Itl X.K a) H1) ∨ ((∃ xs, SqT X.K H1 a xs) ∧ R (Itt X.K a) H1))) I h) fun v s1 h1 => ?_
  obtain ⟨x, H1, I1, r1, a, e, q⟩ := h1
  subst e
  cases r1
  have news : ∀ b ∈ [s1.heap.objs.size], FpOk X pins H1 b := fun b hb => by
    have z : b = s1.heap.objs.size := by simpa using hb
    rw [z]
    exact I1.fpOk (Nat.le_refl _) (I1.hok.fresh (Nat.le_refl _))
  rcases q with ⟨⟨xs, hq⟩, q⟩ | ⟨⟨xs, hq⟩, q⟩
  · obtain ⟨its, _, p, _⟩ := I1.list hq
    exact wpAny_pyIter_list p.isList ⟨_, _, _, _, H1, rfl, I1.kept (t' := s1.toks) fun b o z => Heap.get?_push_of_some _ z, turn_list a _, ⟨_, Heap.get?_push_size _ rfl, rfl, rfl⟩, news, q⟩
  · obtain ⟨its, _, p, _⟩ := I1.tuple hq
    exact wpAny_pyIter_tuple (show s1.heap.IsTuple a its.toArray from p) ⟨_, _, _, _, H1, rfl, I1.kept (t' := s1.toks) fun b o z => Heap.get?_push_of_some _ z, turn_tuple a _, ⟨_, Heap.get?_push_size _ rfl, rfl, rfl⟩, news, q⟩
theorem src_l {F : Hp} {a : Addr} {vs : List V} {ds : List D} (h : Rd F a (.lst vs)) (r : Reps G K F vs ds) : Src G K F (Itl K a) ds where
  go := fun H i ex hi => by
    obtain ⟨v, e, _⟩ := r.get (i := i) (d := ds[i]) (by simp [hi])
    exact ⟨vs, v, .inl (ex.rd h), e⟩
  stop := fun H ex => ⟨vs, .inl (ex.rd h), by rw [r.len]; exact Nat.le_refl _⟩
  yld := fun F1 H i x H' e1 e2 hi hy => by
    obtain ⟨rfl, hx⟩ := hy
    have := hx vs (.inl ((e1.trans e2).rd h))
    obtain ⟨d, hd, rd⟩ := r.getV this
    exact ⟨d, F1, hd, Step.refl e2, rd.mono e1⟩
theorem src_t {F : Hp} {a : Addr} {vs : List V} {ds : List D} (h : SqT K F a vs) (r : Reps G K F vs ds) : Src G K F (Itt K a) ds where
  go := fun H i ex hi => by
    obtain ⟨v, e, _⟩ := r.get (i := i) (d := ds[i]) (by simp [hi])
    exact ⟨vs, v, ex.t h, e⟩
  stop := fun H ex => ⟨vs, ex.t h, by rw [r.len]; exact Nat.le_refl _⟩
  yld := fun F1 H i x H' e1 e2 hi hy => by
    obtain ⟨rfl, hx⟩ := hy
    have := hx vs ((e1.trans e2).t h)
    obtain ⟨d, hd, rd⟩ := r.getV this
    exact ⟨d, F1, hd, Step.refl e2, rd.mono e1⟩
theorem rd_seq {t : TE} {f : Vn → M (O × Vn)} (h : RdE G K W t f) : RdI G K W (iSeq K t) (vSeq f) := by
  intro σ0 σ F H env as r Q ex er he po
  unfold vSeq at he
  rcases M.bind_some he with ⟨c, fs, e, rfl⟩ | ⟨⟨o, e1⟩, e, q⟩
  · exact h σ0 σ F H env as _ _ ex er e po
  · refine rd_fz h σ0 σ F H env as (.ok (.v o.fz, e1)) _ ex er (by unfold vFz; rw [e]; rfl) fun v F1 H1 bs as1 st er1 r1 d => ?_
    cases r1 with
    | v r1 =>
      have q : (match o.fz with
        | .lst ds => M.ret (ds, e1)
        | .tup ds => M.ret (ds, e1)
        | _ => none) = some r := q
      revert q r1
      generalize o.fz = dd
      intro r1 q
      split at q
      · cases q
        cases r1 with
        | lst h1 r1 => exact ⟨_, rfl, .inl ⟨⟨_, .inl (st.sub.rd h1)⟩, po _ F1 H1 as1 (st.less fun b m => by simpa using m) er1 (src_l h1 r1)⟩⟩
      · cases q
        cases r1 with
        | tup h1 r1 => exact ⟨_, rfl, .inr ⟨⟨_, st.sub.t h1⟩, po _ F1 H1 as1 (st.less fun b m => by simpa using m) er1 (src_t h1 r1)⟩⟩
      · cases q
theorem ci_seq {tg e : Expr} {f : Vn → M (O × Vn)} (h : CE G X W e f) : CI G X W tg e (vSeq f) := let ⟨_, p, r⟩ := h; ⟨_, pi_seq p, rd_seq r⟩

/-! ranges -/
def rng (lo : Int) (n : Nat) (c : Int) : List D := (List.range n).map fun i => D.int (lo + (i : Nat) * c)
theorem rng_len {lo c : Int} {n : Nat} : (rng lo n c).length = n := by simp [rng]
theorem rng_get {lo c : Int} {n i : Nat} (h : i < n) : (rng lo n c)[i]? = some (.int (lo + (i : Nat) * c)) := by simp [rng, h]
theorem src_r {F : Hp} {lo : Int} {n : Nat} : Src G K F (Itr lo n) (rng lo n 1) where
  go := fun H i ex hi => by rw [rng_len] at hi; exact hi
  stop := fun H ex => by rw [rng_len]; exact Nat.le_refl n
  yld := fun F1 H i x H' e1 e2 hi hy => by
    obtain ⟨rfl, rfl⟩ := hy
    rw [rng_len] at hi
    refine ⟨_, F1, rng_get hi, Step.refl e2, ?_⟩
    rw [Int.mul_one]
    exact .int _
theorem src_rc {F : Hp} {lo c : Int} {n : Nat} : Src G K F (Itc lo c n) (rng lo n c) where
  go := fun H i ex hi => by rw [rng_len] at hi; exact hi
  stop := fun H ex => by rw [rng_len]; exact Nat.le_refl n
  yld := fun F1 H i x H' e1 e2 hi hy => by
    obtain ⟨rfl, rfl⟩ := hy
    rw [rng_len] at hi
    exact ⟨_, F1, rng_get hi, Step.refl e2, .int _⟩
def in62 (i : Int) : Bool := decide (-(2 ^ 62) ≤ i ∧ i < 2 ^ 62)
/-- an iterator from operands -/
def vSrc (run : List D → Option (List D)) (g : Vn → M (List Lr × Vn)) : Vn → M (List D × Vn) := fun env => M.bind (g env) fun (rs, e) => match allT rs with
  | some ds => match run ds with
    | some xs => M.ret (xs, e)
    | none => none
  | none => none
def sR1 : List D → Option (List D)
  | [.int j] => if in62 j then some (rng 0 j.toNat 1) else none
  | _ => none
def sR2 : List D → Option (List D)
  | [.int i, .int j] => if in62 i && in62 j then some (rng i (j - i).toNat 1) else none
  | _ => none
/-- a range downwards, by -1 -/
def sR3 : List D → Option (List D)
  | [.int i, .int j, .int c] => if in62 i && in62 j && decide (c = -1) then some (rng i (i - j).toNat (-1)) else none
  | _ => none
/-- what iterators of operands ask -/
def SrcOk (G : Gt) (K : PySem.W.Frag) (r : List V → Hp → (It → Hp → Prop) → Prop) (run : List D → Option (List D)) : Prop :=
  ∀ (F H : Hp) (vs : List V) (ds xs : List D) (Q : It → Hp → Prop), Ex F H → Reps G K F vs ds → run ds = some xs → (∀ J, Src G K F J xs → Q J H) → r vs H Q
theorem rd_src {t : TA} {g : Vn → M (List Lr × Vn)} {r0 : List V → Hp → (It → Hp → Prop) → Prop} {run : List D → Option (List D)} (h : RdA G K W t g) (ok : SrcOk G K r0 run) : RdI G K W (fun σ H R => t σ H fun vs H1 => r0 vs H1 R) (vSrc run g) := by
  intro σ0 σ F H env as r Q ex er he po
  unfold vSrc at he
  rcases M.bind_some he with ⟨c, fs, e, rfl⟩ | ⟨⟨rs, e1⟩, e, q⟩
  · exact h σ0 σ F H env as _ _ ex er e po
  · refine h σ0 σ F H env as _ _ ex er e fun vs F1 H1 bs as1 st er1 r1 d => ?_
    dsimp only at q
    split at q
    · rename_i ds hd
      split at q
      · rename_i xs hx
        cases q
        exact ok F1 H1 vs ds xs Q st.sub (allT_ok r1 hd) hx fun J s => po J F1 H1 as1 (st.less fun b m => List.mem_append_right _ m) er1 s
      · cases q
    · cases q
theorem in62_ok {i : Int} (h : in62 i = true) : -(2 ^ 62) ≤ i ∧ i < 2 ^ 62 := by
  unfold in62 at h
  simpa using h
theorem so_R1 : SrcOk G K (fun vs H R => ∃ j : Int, vs = [.int j] ∧ -(2 ^ 62) ≤ j ∧ j < 2 ^ 62 ∧ R (Itr 0 j.toNat) H) sR1 := by
  intro F H vs ds xs Q ex r hr k
  unfold sR1 at hr
  split at hr
  · split at hr
    · rename_i hz
      cases hr
      cases r with
      | cons r1 r2 =>
        cases r2
        cases r1
        obtain ⟨h1, h2⟩ := in62_ok hz
        exact ⟨_, rfl, h1, h2, k _ src_r⟩
    · cases hr
  · cases hr
theorem so_R2 : SrcOk G K (fun vs H R => ∃ i j : Int, vs = [.int i, .int j] ∧ (-(2 ^ 62) ≤ i ∧ i < 2 ^ 62 ∧ -(2 ^ 62) ≤ j ∧ j < 2 ^ 62) ∧ R (Itr i (j - i).toNat) H) sR2 := by
  intro F H vs ds xs Q ex r hr k
  unfold sR2 at hr
  split at hr
  · split at hr
    · rename_i hz
      cases hr
      cases r with
      | cons r1 r2 =>
        cases r2 with
        | cons r2 r3 =>
          cases r3
          cases r1
          cases r2
          rw [Bool.and_eq_true] at hz
          obtain ⟨h1, h2⟩ := in62_ok hz.1
          obtain ⟨h3, h4⟩ := in62_ok hz.2
          exact ⟨_, _, rfl, ⟨h1, h2, h3, h4⟩, k _ src_r⟩
    · cases hr
  · cases hr
theorem so_R3 : SrcOk G K (fun vs H R => ∃ (i j c : Int) (n : Nat), vs = [.int i, .int j, .int c] ∧ RgC i j c n ∧ R (Itc i c n) H) sR3 := by
  intro F H vs ds xs Q ex r hr k
  unfold sR3 at hr
  split at hr
  · split at hr
    · rename_i hz
      cases hr
      cases r with
      | cons r1 r2 =>
        cases r2 with
        | cons r2 r3 =>
          cases r3 with
          | cons r3 r4 =>
            cases r4
            cases r1
            cases r2
            cases r3
            rw [Bool.and_eq_true, Bool.and_eq_true, decide_eq_true_eq] at hz
            obtain ⟨h1, h2⟩ := in62_ok hz.1.1
            obtain ⟨h3, h4⟩ := in62_ok hz.1.2
            cases hz.2
            exact ⟨_, _, _, _, rfl, RgC.neg h1 h2 h3 h4, k _ src_rc⟩
    · cases hr
  · cases hr
theorem ci_r1 {tg a : Expr} {p pos : Pos} {g : Vn → M (List Lr × Vn)} (hg : Gl X "range") (hm : X.mg "range" = none) (ha : CA G X W [a] g) (hs : starEach [a] X.env = [(false, eval a X.env)] := by rfl) : CI G X W tg (.Call (.Name "range" p) [a] [] pos) (vSrc sR1 g) := let ⟨_, q, r⟩ := ha; ⟨_, pi_range1 hg hm q hs, rd_src r so_R1⟩
theorem ci_r2 {tg a b : Expr} {p pos : Pos} {g : Vn → M (List Lr × Vn)} (hg : Gl X "range") (hm : X.mg "range" = none) (ha : CA G X W [a, b] g) (hs : starEach [a, b] X.env = [(false, eval a X.env), (false, eval b X.env)] := by rfl) (hs2 : starEach [b] X.env = [(false, eval b X.env)] := by rfl) :
    CI G X W tg (.Call (.Name "range" p) [a, b] [] pos) (vSrc sR2 g) := let ⟨_, q, r⟩ := ha; ⟨_, pi_range2 hg hm q hs hs2, rd_src r so_R2⟩

/-! pairs -/
theorem src_pair {F : Hp} {J : It} {xs ys : List D} {f g : Nat → Option V} {n : Nat} (hn : n = min xs.length ys.length) (Gd : Hp → Prop) (w : Walk J n Gd (YPair f g)) (hG : ∀ H, Ex F H → Gd H) (hf : ∀ i x, f i = some x → i < n → ∃ d, xs[i]? = some d ∧ Rep G K F x d) (hg : ∀ i x, g i = some x → i < n → ∃ d, ys[i]? = some d ∧ Rep G K F x d) :
    Src G K F J ((xs.zip ys).map fun p => .tup [p.1, p.2]) where
  go := fun H i ex hi => w.goes i H (by rw [hn]; simpa [Nat.lt_min] using hi) (hG H ex)
  stop := fun H ex => by
    have := w.stops H (hG H ex)
    rw [hn] at this
    simpa using this
  yld := fun F1 H i x H' e1 e2 hi hy => by
    have hi : i < n := by rw [hn]; simpa [Nat.lt_min] using hi
    obtain ⟨T, a, b, rfl, hT, rfl, ha, hb⟩ := w.yields i H x H' hi (hG H (e1.trans e2)) hy
    obtain ⟨d1, h1, r1⟩ := hf i a ha hi
    obtain ⟨d2, h2, r2⟩ := hg i b hb hi
    have s2 : Step F1 H [] (upd F1 T (.tup [a, b])) (upd H T (.tup [a, b])) [] := Step.newF e2 hT
    refine ⟨.tup [d1, d2], _, ?_, s2, .tup (.inl (.inl upd_same)) (.cons (r1.mono (e1.trans s2.ex)) (.cons (r2.mono (e1.trans s2.ex)) .nil))⟩
    rw [List.getElem?_map, List.getElem?_zip_eq_some (z := (d1, d2)) |>.mpr ⟨h1, h2⟩]
    rfl
def sZip : List D → Option (List D)
  | [.lst xs, .lst ys] => some ((xs.zip ys).map fun p => .tup [p.1, p.2])
  | [.tup xs, .tup ys] => some ((xs.zip ys).map fun p => .tup [p.1, p.2])
  | _ => none
theorem so_zip : SrcOk G K (fun vs H R => ∃ a b xs ys, vs = [.ref a, .ref b] ∧ ((SqL K H a xs ∧ SqL K H b ys ∧ R (Itz K a b) H) ∨ (SqT K H a xs ∧ SqT K H b ys ∧ R (RZ.ItzT K a b) H))) sZip := by
  intro F H vs ds xs Q ex r hr k
  unfold sZip at hr
  split at hr
  · cases hr
    cases r with
    | cons r1 r2 =>
      cases r2 with
      | cons r2 r3 =>
        cases r3
        cases r1 with
        | lst h1 r1 =>
          cases r2 with
          | lst h2 r2 =>
            refine ⟨_, _, _, _, rfl, .inl ⟨.inl (ex.rd h1), .inl (ex.rd h2), k _ (src_pair (by rw [← r1.len, ← r2.len]) _ (walk_zip rfl) (fun H e => ⟨.inl (e.rd h1), .inl (e.rd h2)⟩) (fun i x e _ => r1.getV e) fun i x e _ => r2.getV e)⟩⟩
  · cases hr
    cases r with
    | cons r1 r2 =>
      cases r2 with
      | cons r2 r3 =>
        cases r3
        cases r1 with
        | tup h1 r1 =>
          cases r2 with
          | tup h2 r2 =>
            rename_i a vs1 b vs2
            have w : Walk (RZ.ItzT K a b) (min vs1.length vs2.length) (fun H => SqT K H a vs1 ∧ SqT K H b vs2) (YPair (fun i => vs1[i]?) (fun i => vs2[i]?)) := by
              refine ⟨fun i H hi hg => ?_, fun H hg => ?_, fun i H x H' hi hg hy => ?_⟩
              · rw [Nat.lt_min] at hi
                exact ⟨vs1, vs2, vs1[i], vs2[i], hg.1, hg.2, by simp [hi.1], by simp [hi.2]⟩
              · refine ⟨vs1, vs2, hg.1, hg.2, ?_⟩
                rcases Nat.le_total vs1.length vs2.length with z | z
                · exact .inl (by rw [Nat.min_eq_left z]; exact Nat.le_refl _)
                · exact .inr (by rw [Nat.min_eq_right z]; exact Nat.le_refl _)
              · obtain ⟨T, x, y, rfl, hT, rfl, h3, h4⟩ := hy
                exact ⟨T, x, y, rfl, hT, rfl, h3 _ hg.1, h4 _ hg.2⟩
            refine ⟨_, _, _, _, rfl, .inr ⟨ex.t h1, ex.t h2, k _ (src_pair (by rw [← r1.len, ← r2.len]) _ w (fun H e => ⟨e.t h1, e.t h2⟩) (fun i x e _ => r1.getV e) fun i x e _ => r2.getV e)⟩⟩
  · cases hr
theorem ci_zip {e e2 : Expr} {p pos tpos : Pos} {elts : List Expr} {kk : Nat} {g : Vn → M (List Lr × Vn)} (hg : Gl X "zip") (hm : X.mg "zip" = none) (ha : CA G X W [e, e2] g)
    (hs : starEach [e, e2] X.env = (false, eval e X.env) :: starEach [e2] X.env := by rfl) (hpl : (backTo pos (starEach [e2] X.env)).any (·.1) = false := by rfl) :
    CI G X W (.Tuple elts kk tpos) (.Call (.Name "zip" p) [e, e2] [] pos) (vSrc sZip g) := let ⟨_, q, r⟩ := ha; ⟨_, RZ.pi_zipA hg hm q hs hpl, rd_src r so_zip⟩
def numb (n : Nat) (xs : List D) : List D := (xs.mapIdx fun i d => .tup [.int ((n + i : Nat) : Int), d])
def sEnumL : List D → Option (List D)
  | [.lst xs] => some (xs.mapIdx fun i d => .tup [.int (i : Nat), d])
  | _ => none
end

/-! ### targets -/
/-- what is stored where -/
def tgName (i : Nat) : D → Vn → Option Vn := fun d env => match env[i]? with
  | some ⟨false, _⟩ => some (env.set i ⟨false, some (.v d)⟩)
  | _ => none
def tgNil : List D → Vn → Option Vn := fun ds env => match ds with
  | [] => some env
  | _ => none
def tgCons (t : D → Vn → Option Vn) (u : List D → Vn → Option Vn) : List D → Vn → Option Vn := fun ds env => match ds with
  | d :: r => match t d env with
    | some e => u r e
    | none => none
  | [] => none
def tgTup (u : List D → Vn → Option Vn) : D → Vn → Option Vn := fun d env => match d with
  | .tup ds => u ds env
  | .lst _ => none
  | _ => none
theorem wipe_set {σ : L2.St} {i : Nat} {x : Option V} : ∀ {vs : List Nat}, i ∈ vs → wipe (σ.set i x) vs = wipe σ vs
  | [], h => by simp at h
  | v :: vs, h => by
    unfold wipe
    by_cases e : i = v
    · subst e
      by_cases m : i ∈ vs
      · rw [wipe_set m]
      · have q : ∀ {ws : List Nat}, i ∉ ws → wipe (σ.set i x) ws = (wipe σ ws).set i x := by
          intro ws
          induction ws with
          | nil => intro _; rfl
          | cons w ws ih =>
            intro n
            unfold wipe
            rw [ih fun z => n (List.mem_cons_of_mem _ z), List.set_comm _ _ fun z => n (by rw [z]; exact List.mem_cons_self)]
        rw [q m, List.set_set]
    · have m : i ∈ vs := by
        rcases List.mem_cons.mp h with z | z
        · exact absurd z e
        · exact z
      rw [wipe_set m]
section
variable (G : Gt) (K : PySem.W.Frag)
/-- ws: the slots that it sets -/
def RdG (ws : List Nat) (g : TG) (t : D → Vn → Option Vn) : Prop :=
  ∀ (σ0 σ : L2.St) (F H : Hp) (env env' : Vn) (as : List Addr) (v : V) (d : D) (Q : L2.St → Hp → Prop), Ex F H → EnvR G K F H σ0 σ env as → Rep G K F v d → t d env = some env' →
    (∀ (σ' : L2.St) (as' : List Addr), EnvR G K F H σ0 σ' env' as' → (∀ a ∈ as', a ∈ as) → (∀ vs : List Nat, (∀ i ∈ ws, i ∈ vs) → wipe σ' vs = wipe σ vs) → Q σ' H) → g v σ H Q
def RdGs (ws : List Nat) (g : TGs) (t : List D → Vn → Option Vn) : Prop :=
  ∀ (σ0 σ : L2.St) (F H : Hp) (env env' : Vn) (as : List Addr) (vs : List V) (ds : List D) (Q : L2.St → Hp → Prop), Ex F H → EnvR G K F H σ0 σ env as → Reps G K F vs ds → t ds env = some env' →
    (∀ (σ' : L2.St) (as' : List Addr), EnvR G K F H σ0 σ' env' as' → (∀ a ∈ as', a ∈ as) → (∀ vs : List Nat, (∀ i ∈ ws, i ∈ vs) → wipe σ' vs = wipe σ vs) → Q σ' H) → g vs σ H Q
end
def CG (G : Gt) (X : Cx) (ws : List Nat) (tg : Expr) (t : D → Vn → Option Vn) : Prop := ∃ g, PG X tg g ∧ RdG G X.K ws g t
def CGs (G : Gt) (X : Cx) (ws : List Nat) (tg : List Expr) (t : List D → Vn → Option Vn) : Prop := ∃ g, PGs X tg g ∧ RdGs G X.K ws g t
section
variable {G : Gt} {K : PySem.W.Frag} {W : WX} {X : Cx} {ws ws1 ws2 : List Nat}
theorem rd_gName {i : Nat} : RdG G K [i] (gName i) (tgName i) := by
  intro σ0 σ F H env env' as v d Q ex er r he k
  unfold tgName at he
  split at he
  · rename_i x hx
    cases he
    obtain ⟨as', h1, h2⟩ := er.put (.v r) hx fun a m => by simp at m
    exact k _ as' h1 (fun a m => (h2 a m).elim (fun z => by simp at z) id) fun vs h => wipe_set (h i (by simp))
  · cases he
theorem rd_gNil : RdGs G K [] gNil tgNil := by
  intro σ0 σ F H env env' as vs ds Q ex er r he k
  unfold tgNil at he
  split at he
  · cases he
    cases r
    exact ⟨rfl, k σ as er (fun a m => m) fun _ _ => rfl⟩
  · cases he
theorem rd_gCons {g : TG} {gs : TGs} {t : D → Vn → Option Vn} {u : List D → Vn → Option Vn} (h1 : RdG G K ws1 g t) (h2 : RdGs G K ws2 gs u) : RdGs G K (ws1 ++ ws2) (gCons g gs) (tgCons t u) := by
  intro σ0 σ F H env env' as vs ds Q ex er r he k
  unfold tgCons at he
  split at he
  · split at he
    · rename_i e1 he1
      cases r with
      | cons r1 r2 =>
        refine ⟨_, _, rfl, h1 σ0 σ F H env e1 as _ _ _ ex er r1 he1 fun σ' as' er1 m1 w1 => ?_⟩
        exact h2 σ0 σ' F H e1 env' as' _ _ Q ex er1 r2 he fun σ2 as2 er2 m2 w2 => k σ2 as2 er2 (fun a m => m1 a (m2 a m)) fun vs h => (w2 vs fun i m => h i (List.mem_append_right _ m)).trans (w1 vs fun i m => h i (List.mem_append_left _ m))
    · cases he
  · cases he
/-- how many a row of targets takes -/
def TakesN (u : List D → Vn → Option Vn) (n : Nat) : Prop := ∀ ds env env', u ds env = some env' → ds.length = n
theorem tn_nil : TakesN tgNil 0 := fun ds env env' h => by
  unfold tgNil at h
  split at h
  · rfl
  · cases h
theorem tn_cons {t : D → Vn → Option Vn} {u : List D → Vn → Option Vn} {n : Nat} (h : TakesN u n) : TakesN (tgCons t u) (n + 1) := fun ds env env' e => by
  unfold tgCons at e
  split at e
  · split at e
    · exact congrArg Nat.succ (h _ _ _ e)
    · cases e
  · cases e
theorem rd_gTup {gs : TGs} {u : List D → Vn → Option Vn} {n : Nat} (h : RdGs G K ws gs u) (hn : TakesN u n) : RdG G K ws (gTup K n gs) (tgTup u) := by
  intro σ0 σ F H env env' as v d Q ex er r he k
  unfold tgTup at he
  split at he
  · cases r with
    | tup h1 r1 => exact ⟨_, _, rfl, ex.t h1, by rw [r1.len]; exact hn _ _ _ he, h σ0 σ F H env env' as _ _ Q ex er r1 he k⟩
  · cases he
  · cases he
theorem cg_name {i : Nat} {x : Str} {pos : Pos} (hN : X.N.Nodup) (hi : X.N[i]? = some x) (hx : Loc X.env.scope x) (hf : X.fn x = true ∨ X.env.scope.names.lookup x = some .local := by first | exact .inl rfl | exact .inr rfl | assumption) : CG G X [i] (.Name x pos) (tgName i) := ⟨_, pg_name hN hi hx hf, rd_gName⟩
theorem cgs_nil : CGs G X [] [] tgNil := ⟨_, pgs_nil, rd_gNil⟩
theorem cgs_cons {e : Expr} {es : List Expr} {t : D → Vn → Option Vn} {u : List D → Vn → Option Vn} (h1 : CG G X ws1 e t) (h2 : CGs G X ws2 es u) (hs : (assignEach (e :: es) X.env).map (·.2) = assign e X.env :: (assignEach es X.env).map (·.2) := by rfl) : CGs G X (ws1 ++ ws2) (e :: es) (tgCons t u) := let ⟨_, p, r⟩ := h1; let ⟨_, q, s⟩ := h2; ⟨_, pgs_cons p q hs, rd_gCons r s⟩
theorem cg_tup {es : List Expr} {k : Nat} {u : List D → Vn → Option Vn} {n : Nat} {pos : Pos} (hc : X.calm = true) (h : CGs G X ws es u) (tn : TakesN u n) (hn : (assignEach es X.env).length = n := by rfl) (hst : (assignEach es X.env).findIdx? (·.1) = none := by rfl) : CG G X ws (.Tuple es k pos) (tgTup u) := let ⟨_, p, r⟩ := h; ⟨_, pg_tup hc p hn hst, rd_gTup r tn⟩
end

/-! ### loops -/
def goFor (t : D → Vn → Option Vn) (b : Vn → M (Fl × Vn)) : List D → Vn → M (Fl × Vn)
  | [], env => M.ret (.nx, env)
  | d :: ds, env => match t d env with
    | none => none
    | some e1 => M.bind (b e1) fun (fl, e2) => match fl with
      | .nx => goFor t b ds e2
      | .ct => goFor t b ds e2
      | .bk => M.ret (.nx, e2)
      | .rt o => M.ret (.rt o, e2)
def vFor (g : Vn → M (List D × Vn)) (t : D → Vn → Option Vn) (b : Vn → M (Fl × Vn)) : Vn → M (Fl × Vn) := fun env => M.bind (g env) fun (ds, e) => goFor t b ds e
def goWhile (c : Vn → M (Bool × Vn)) (b : Vn → M (Fl × Vn)) : Nat → Vn → M (Fl × Vn)
  | 0, _ => none
  | n + 1, env => M.bind (c env) fun (k, e1) => if k = true then M.bind (b e1) fun (fl, e2) => match fl with
      | .nx => goWhile c b n e2
      | .ct => goWhile c b n e2
      | .bk => M.ret (.nx, e2)
      | .rt o => M.ret (.rt o, e2)
    else M.ret (.nx, e1)
section
variable {G : Gt} {K : PySem.W.Frag} {W : WX}
theorem PoS.ext {F H F1 H1 : Hp} {as as1 : List Addr} {σ0 : L2.St} {Ds : Ends} {r : R (Fl × Vn)} (po : PoS G K W F H as σ0 Ds r) (st : Step F H as F1 H1 as1) : PoS G K W F1 H1 as1 σ0 Ds r := by
  cases r with
  | ok p =>
    obtain ⟨fl, e⟩ := p
    cases fl with
    | nx => exact fun σ' F' H' as' s2 er => po σ' F' H' as' (st.trans s2) er
    | bk => exact fun σ' F' H' as' s2 er => po σ' F' H' as' (st.trans s2) er
    | ct => exact fun σ' F' H' as' s2 er => po σ' F' H' as' (st.trans s2) er
    | rt o => exact fun v σ' F' H' bs as' s2 er r d => po v σ' F' H' bs as' (st.trans s2) er r d
  | ex c fs => exact fun σ' => PoX.step (po σ') st
theorem PoS.more {F H : Hp} {as as1 : List Addr} {σ0 : L2.St} {Ds : Ends} {r : R (Fl × Vn)} (po : PoS G K W F H as σ0 Ds r) (m : ∀ a ∈ as1, a ∈ as) : PoS G K W F H as1 σ0 Ds r := by
  cases r with
  | ok p =>
    obtain ⟨fl, e⟩ := p
    cases fl with
    | nx => exact fun σ' F' H' as' s2 er => po σ' F' H' as' (s2.more m) er
    | bk => exact fun σ' F' H' as' s2 er => po σ' F' H' as' (s2.more m) er
    | ct => exact fun σ' F' H' as' s2 er => po σ' F' H' as' (s2.more m) er
    | rt o => exact fun v σ' F' H' bs as' s2 er r d => po v σ' F' H' bs as' (s2.more m) er r d
  | ex c fs => exact fun σ' => PoX.more (po σ') m
theorem rd_for {wi : TI} {g : TG} {tb : TS} {gi : Vn → M (List D × Vn)} {t : D → Vn → Option Vn} {b : Vn → M (Fl × Vn)} {ws : List Nat} (hi : RdI G K W wi gi) (hg : RdG G K ws g t) (hb : RdS G K W tb b) : RdS G K W (tFor wi g tb) (vFor gi t b) := by
  intro σ0 σ F H env as r Ds ex er he po
  unfold vFor at he
  rcases M.bind_some he with ⟨c, fs, e, rfl⟩ | ⟨⟨ds, e1⟩, e, q⟩
  · exact hi σ0 σ F H env as _ _ ex er e (po σ)
  · refine hi σ0 σ F H env as _ _ ex er e fun J F1 H1 as1 st er1 src => ?_
    have po1 := po.ext st
    let Pv : Nat → L2.St → Hp → Prop := fun i σ' H' => ∃ (F' : Hp) (env' : Vn) (as' : List Addr), Step F1 H1 as1 F' H' as' ∧ EnvR G K F' H' σ0 σ' env' as' ∧ goFor t b (ds.drop i) env' = some r
    refine for_it (J := J) (n := ds.length) (G := fun H => Ex F1 H) (Y := fun i H x H' => J.yld i H x H') ⟨fun i H hi ex => src.go H i ex hi, fun H ex => src.stop H ex, fun i H x H' hi ex hy => hy⟩ Pv ⟨F1, e1, as1, Step.refl st.sub, er1, q⟩ (fun i σ' H' hi ⟨F', env', as', s, _, _⟩ => s.ex.trans s.sub) (fun i x σ' H' H2 hi ⟨F', env', as', s, er', hgo⟩ hy => ?_) (fun σ' H' ⟨F', env', as', s, er', hgo⟩ => ?_)
    · obtain ⟨d, F2, hd, s2, rx⟩ := src.yld F' H' i x H2 s.ex s.sub hi hy
      have hdr : ds.drop i = d :: ds.drop (i + 1) := by
        obtain ⟨hi', e⟩ := List.getElem?_eq_some_iff.mp hd
        rw [List.drop_eq_getElem_cons hi', e]
      rw [hdr] at hgo
      unfold goFor at hgo
      split at hgo
      · cases hgo
      · rename_i e2 ht
        have sA : Step F1 H1 as1 F2 H2 as' := s.trans ((s2.beside as').less fun b m => by simpa using m)
        have er2 := s2.frameE er' fun x _ z => by simp at z
        refine hg σ0 σ' F2 H2 env' e2 as' x d _ s2.sub er2 rx ht fun σ3 as3 er3 m3 _ => ?_
        have sB : Step F1 H1 as1 F2 H2 as3 := sA.less m3
        rcases M.bind_some hgo with ⟨c, fs, eb, rfl⟩ | ⟨⟨fl, e4⟩, eb, q4⟩
        · exact hb σ0 σ3 F2 H2 e2 as3 _ _ sB.sub er3 eb fun σ4 => PoX.step (po1 σ4) sB
        · refine hb σ0 σ3 F2 H2 e2 as3 _ _ sB.sub er3 eb ?_
          cases fl with
          | nx => exact fun σ4 F4 H4 as4 s4 er4 => ⟨F4, e4, as4, sB.trans s4, er4, q4⟩
          | ct => exact fun σ4 F4 H4 as4 s4 er4 => ⟨F4, e4, as4, sB.trans s4, er4, q4⟩
          | bk =>
            cases q4
            exact fun σ4 F4 H4 as4 s4 er4 => po1 σ4 F4 H4 as4 (sB.trans s4) er4
          | rt o =>
            cases q4
            exact fun v σ4 F4 H4 bs as4 s4 er4 r4 d4 => po1 v σ4 F4 H4 bs as4 (sB.trans s4) er4 r4 d4
    · rw [List.drop_length] at hgo
      cases hgo
      exact po1 σ' F' H' as' s er'
theorem rd_while {c : TT} {tb : TS} {fc : Vn → M (Bool × Vn)} {b : Vn → M (Fl × Vn)} {n : Nat} (hc : RdT G K W c fc) (hb : RdS G K W tb b) : RdS G K W (tWhile c tb) (goWhile fc b n) := by
  intro σ0 σ F H env as r Ds ex er he po
  refine ⟨fun m σ' H' => ∃ (F' : Hp) (env' : Vn) (as' : List Addr), Step F H as F' H' as' ∧ EnvR G K F' H' σ0 σ' env' as' ∧ goWhile fc b m env' = some r, ⟨n, F, env, as, Step.refl ex, er, he⟩, ?_⟩
  rintro m σ' H' ⟨F', env', as', s, er', hgo⟩
  cases m with
  | zero => cases hgo
  | succ m =>
    unfold goWhile at hgo
    rcases M.bind_some hgo with ⟨c, fs, e, rfl⟩ | ⟨⟨k, e1⟩, e, q⟩
    · exact hc σ0 σ' F' H' env' as' _ _ s.sub er' e (PoX.step (po σ') s)
    · refine hc σ0 σ' F' H' env' as' _ _ s.sub er' e fun F1 H1 as1 st er1 => ?_
      have sA := s.trans st
      dsimp only at q
      cases k with
      | true =>
        rw [if_pos rfl] at q ⊢
        refine ⟨fun σ2 H2 => ∃ (F2 : Hp) (env2 : Vn) (as2 : List Addr), Step F H as F2 H2 as2 ∧ EnvR G K F2 H2 σ0 σ2 env2 as2 ∧ goWhile fc b m env2 = some r, fun σ2 H2 h2 => ⟨m, Nat.lt_succ_self m, h2⟩, ?_⟩
        rcases M.bind_some q with ⟨c, fs, eb, rfl⟩ | ⟨⟨fl, e4⟩, eb, q4⟩
        · exact hb σ0 σ' F1 H1 e1 as1 _ _ st.sub er1 eb fun σ4 => PoX.step (po σ4) sA
        · refine hb σ0 σ' F1 H1 e1 as1 _ _ st.sub er1 eb ?_
          cases fl with
          | nx => exact fun σ4 F4 H4 as4 s4 er4 => ⟨F4, e4, as4, sA.trans s4, er4, q4⟩
          | ct => exact fun σ4 F4 H4 as4 s4 er4 => ⟨F4, e4, as4, sA.trans s4, er4, q4⟩
          | bk =>
            cases q4
            exact fun σ4 F4 H4 as4 s4 er4 => po σ4 F4 H4 as4 (sA.trans s4) er4
          | rt o =>
            cases q4
            exact fun v σ4 F4 H4 bs as4 s4 er4 r4 d4 => po v σ4 F4 H4 bs as4 (sA.trans s4) er4 r4 d4
      | false =>
        rw [if_neg (by decide)] at q ⊢
        cases q
        exact po σ' F1 H1 as1 sA er1
end
end Vi

set_option Elab.async false
set_option linter.all false
set_option maxRecDepth 100000
set_option maxHeartbeats 2000000
/-! Vi11: comprehensions; statements; what is changed in place. -/
namespace Vi
open PySem PySem.Spec L2

/-! ### the readings by what is evaluated -/
section
variable (G : Gt) (K : PySem.W.Frag) (W : WX)
def SE (f : Vn → M (O × Vn)) : TE := fun σ H Q => ∃ (σ0 : L2.St) (F : Hp) (env : Vn) (as : List Addr) (r : R (O × Vn)), Ex F H ∧ EnvR G K F H σ0 σ env as ∧ f env = some r ∧ PoE G K W F H as σ0 σ Q r
def ST (f : Vn → M (Bool × Vn)) : TT := fun σ H Q => ∃ (σ0 : L2.St) (F : Hp) (env : Vn) (as : List Addr) (r : R (Bool × Vn)), Ex F H ∧ EnvR G K F H σ0 σ env as ∧ f env = some r ∧ PoT G K W F H as σ0 σ Q r
def SG (ws : List Nat) (t : D → Vn → Option Vn) : TG := fun v σ H Q => ∃ (σ0 : L2.St) (F : Hp) (env env' : Vn) (as : List Addr) (d : D), Ex F H ∧ EnvR G K F H σ0 σ env as ∧ Rep G K F v d ∧ t d env = some env' ∧
  ∀ (σ' : L2.St) (as' : List Addr), EnvR G K F H σ0 σ' env' as' → (∀ a ∈ as', a ∈ as) → (∀ vs : List Nat, (∀ i ∈ ws, i ∈ vs) → wipe σ' vs = wipe σ vs) → Q σ' H
end
section
variable {G : Gt} {K : PySem.W.Frag} {W : WX} {X : Cx}
theorem rd_SE {f : Vn → M (O × Vn)} : RdE G K W (SE G K W f) f := fun σ0 σ F H env as r Q ex er he po => ⟨σ0, F, env, as, r, ex, er, he, po⟩
theorem rd_ST {f : Vn → M (Bool × Vn)} : RdT G K W (ST G K W f) f := fun σ0 σ F H env as r Q ex er he po => ⟨σ0, F, env, as, r, ex, er, he, po⟩
theorem rd_SG {ws : List Nat} {t : D → Vn → Option Vn} : RdG G K ws (SG G K ws t) t := fun σ0 σ F H env env' as v d Q ex er r he k => ⟨σ0, F, env, env', as, d, ex, er, r, he, k⟩
theorem ce_se {e : Expr} {f : Vn → M (O × Vn)} (h : CE G X W e f) : PE X e (SE G X.K W f) := by
  obtain ⟨t, p, r⟩ := h
  exact ⟨fun pins s σ H Q I ⟨σ0, F, env, as, r0, ex, er, he, po⟩ => p.run pins s σ H Q I (r σ0 σ F H env as r0 Q ex er he po)⟩
theorem ct_st {e : Expr} {f : Vn → M (Bool × Vn)} (h : CT G X W e f) : PT X e (ST G X.K W f) := by
  obtain ⟨t, p, r⟩ := h
  exact ⟨fun pins s σ H Q I ⟨σ0, F, env, as, r0, ex, er, he, po⟩ => p.run pins s σ H Q I (r σ0 σ F H env as r0 Q ex er he po)⟩
theorem cg_sg {ws : List Nat} {e : Expr} {t : D → Vn → Option Vn} (h : CG G X ws e t) : PG X e (SG G X.K ws t) := by
  obtain ⟨g, p, r⟩ := h
  exact ⟨fun pins s σ H v u Q I rv ⟨σ0, F, env, env', as, d, ex, er, rd, he, k⟩ => p.run pins s σ H v u Q I rv (r σ0 σ F H env env' as v d Q ex er rd he k)⟩
end
/-- the tests of a clause -/
def CTs (G : Gt) (X : Cx) (W : WX) (ifs : List Expr) (f : Vn → M (Bool × Vn)) : Prop := PTs X ifs (ST G X.K W f)
def vYes : Vn → M (Bool × Vn) := fun env => M.ret (true, env)
theorem cts_nil {G : Gt} {X : Cx} {W : WX} : CTs G X W [] vYes := ⟨fun pins s σ H Q I ⟨σ0, F, env, as, r0, ex, er, he, po⟩ => by
  cases he
  exact pts_nil.run pins s σ H Q I (po F H as (Step.refl ex) er)⟩
theorem cts_one {G : Gt} {X : Cx} {W : WX} {c : Expr} {f : Vn → M (Bool × Vn)} (h : CT G X W c f) : CTs G X W [c] f := pts_one (ct_st h)

/-! ### comprehensions -/
/-- an exception isn't served -/
def M.bindN {α β : Type} (x : M α) (k : α → M β) : M β := match x with
  | some (.ok a) => k a
  | _ => none
@[simp] theorem M.bindN_ok {α β : Type} (a : α) (k : α → M β) : M.bindN (some (.ok a)) k = k a := rfl
@[simp] theorem M.bindN_ret {α β : Type} (a : α) (k : α → M β) : M.bindN (M.ret a) k = k a := rfl
theorem M.bindN_some {α β : Type} {x : M α} {k : α → M β} {r : R β} (h : M.bindN x k = some r) : ∃ a, x = some (.ok a) ∧ k a = some r := by
  cases x with
  | none => cases h
  | some q =>
    cases q with
    | ex c fs => cases h
    | ok a => exact ⟨a, rfl, h⟩
/-- the block's own names forgotten -/
def wipeV : List Nat → Vn → Option Vn
  | [], env => some env
  | v :: vs, env => match wipeV vs env with
    | none => none
    | some e => match e[v]? with
      | some ⟨false, none⟩ => some (e.set v ⟨false, none⟩)
      | some ⟨false, some (.v _)⟩ => some (e.set v ⟨false, none⟩)
      | _ => none
/-- .. and as they stood ahead of it -/
def backV (env0 : Vn) : List Nat → Vn → Option Vn
  | [], e => some e
  | v :: vs, e => match env0[v]?, e[v]? with
    | some ⟨false, none⟩, some ⟨false, none⟩ => backV env0 vs e
    | some ⟨false, some (.v d)⟩, some ⟨false, none⟩ => backV env0 vs (e.set v ⟨false, some (.v d)⟩)
    | _, _ => none
def goLc (own : List Nat) (t : D → Vn → Option Vn) (c : Vn → M (Bool × Vn)) (f : Vn → M (O × Vn)) : List D → List D → Vn → M (List D × Vn)
  | [], acc, env => M.ret (acc, env)
  | d :: ds, acc, env => match t d env with
    | none => none
    | some e1 => M.bindN (c e1) fun (k, e2) => if k = true then M.bindN (f e2) fun (o, e3) => match o, wipeV own e3 with
        | .v d', some e4 => if acc.length < sizeLine then goLc own t c f ds (acc ++ [d']) e4 else none
        | _, _ => none
      else match wipeV own e2 with
        | some e4 => goLc own t c f ds acc e4
        | none => none
def vLc (own : List Nat) (gi : Vn → M (List D × Vn)) (t : D → Vn → Option Vn) (c : Vn → M (Bool × Vn)) (f : Vn → M (O × Vn)) : Vn → M (O × Vn) := fun env => M.bind (gi env) fun (ds, e) => match wipeV own e with
  | none => none
  | some e0 => M.bindN (goLc own t c f ds [] e0) fun (acc, e1) => match backV e own e1 with
    | some e2 => M.ret (.l acc, e2)
    | none => none
section
variable {G : Gt} {K : PySem.W.Frag} {W : WX} {X : Cx} {F H : Hp}
theorem EnvB.setAt {s : Option V} {y : Option O} : ∀ {σ0 σ : L2.St} {env : Vn} {as : List Addr} {i : Nat} {x : Option O}, EnvR G K F H σ0 σ env as → env[i]? = some ⟨false, x⟩ → (y = none ∨ ∃ v d, s = some v ∧ y = some (.v d) ∧ Rep G K F v d) →
    ∃ as', EnvR G K F H σ0 (σ.set i s) (env.set i ⟨false, y⟩) as' ∧ ∀ a ∈ as', a ∈ as
  | _, _, _, _, _, _, .nil _, e, _ => by simp at e
  | _, _, _, _, 0, _, .no (as := as) pn q, e, h => by
    simp at e
    obtain ⟨rfl, _⟩ := e
    rcases h with rfl | ⟨v, d, rfl, rfl, r⟩
    · exact ⟨as, .no (fun z => by cases z) q, fun a m => m⟩
    · exact ⟨as, .yes (as := []) (fun z => by cases z) (.v r) q fun a m => by simp at m, fun a m => m⟩
  | _, _, _, _, 0, _, .yes (as := c1) (bs := bs) pn r1 q d1, e, h => by
    simp at e
    obtain ⟨rfl, _⟩ := e
    rcases h with rfl | ⟨v, d, rfl, rfl, r⟩
    · exact ⟨bs, .no (fun z => by cases z) q, fun a m => List.mem_append_right _ m⟩
    · exact ⟨bs, .yes (as := []) (fun z => by cases z) (.v r) q fun a m => by simp at m, fun a m => List.mem_append_right _ m⟩
  | _, _, _, _, i + 1, x, .no pn q, e, h => by
    obtain ⟨as', h1, h2⟩ := q.setAt (i := i) (x := x) (by simpa using e) h
    exact ⟨as', .no pn h1, h2⟩
  | _, _, _, _, i + 1, x, .yes (as := c1) (bs := bs) pn r1 q d1, e, h => by
    obtain ⟨as', h1, h2⟩ := q.setAt (i := i) (x := x) (by simpa using e) h
    refine ⟨c1 ++ as', .yes pn r1 h1 fun a m z => d1 a m (h2 a z), fun a m => ?_⟩
    rcases List.mem_append.mp m with m | m
    · exact List.mem_append_left _ m
    · exact List.mem_append_right _ (h2 a m)
theorem wipeV_ok {σ0 σ : L2.St} {env : Vn} {as : List Addr} (er : EnvR G K F H σ0 σ env as) : ∀ {vs : List Nat} {e : Vn}, wipeV vs env = some e → ∃ as', EnvR G K F H σ0 (wipe σ vs) e as' ∧ ∀ a ∈ as', a ∈ as
  | [], _, h => by
    cases h
    exact ⟨as, er, fun a m => m⟩
  | v :: vs, _, h => by
    unfold wipeV at h
    split at h
    · cases h
    · rename_i e1 h1
      obtain ⟨a1, q1, q2⟩ := wipeV_ok er h1
      split at h
      · rename_i hx
        cases h
        obtain ⟨a2, q3, q4⟩ := q1.setAt (s := none) (y := none) hx (.inl rfl)
        exact ⟨a2, q3, fun a m => q2 a (q4 a m)⟩
      · rename_i hx
        cases h
        obtain ⟨a2, q3, q4⟩ := q1.setAt (s := none) (y := none) hx (.inl rfl)
        exact ⟨a2, q3, fun a m => q2 a (q4 a m)⟩
      · cases h
theorem wipe_at {σ : L2.St} : ∀ {vs : List Nat} {i : Nat}, i ∉ vs → (wipe σ vs)[i]? = σ[i]?
  | [], _, _ => rfl
  | v :: vs, i, h => by
    unfold wipe
    rw [List.getElem?_set_ne fun z => h (by rw [z]; exact List.mem_cons_self), wipe_at fun z => h (List.mem_cons_of_mem _ z)]
theorem set_same {σ : L2.St} {i : Nat} {s : Option V} (h : σ[i]? = some s) : σ.set i s = σ := by
  apply List.ext_getElem?
  intro j
  by_cases e : i = j
  · subst e
    rw [List.getElem?_set_self (List.getElem?_eq_some_iff.mp h).1, h]
  · rw [List.getElem?_set_ne e]
theorem EnvB.slot {σ0 σ : L2.St} {env : Vn} {as : List Addr} {F0 H0 : Hp} : EnvR G K F0 H0 σ0 σ env as → ∀ {i : Nat} {sl : Sl}, env[i]? = some sl → ∃ s, σ[i]? = some s ∧ ∀ d, sl.val = some (.v d) → ∃ v, s = some v ∧ Rep G K F0 v d
  | .nil _, _, _, e => by simp at e
  | .no (s := s) pn q, 0, _, e => by
    simp at e
    subst e
    exact ⟨s, rfl, fun d z => by cases z⟩
  | .yes (v := v) pn r q d, 0, _, e => by
    simp at e
    subst e
    refine ⟨some v, rfl, fun d z => ?_⟩
    cases z
    cases r with
    | v r => exact ⟨v, rfl, r⟩
  | .no pn q, i + 1, _, e => by
    obtain ⟨s, h1, h2⟩ := q.slot (i := i) (by simpa using e)
    exact ⟨s, by simpa using h1, h2⟩
  | .yes pn r q d, i + 1, _, e => by
    obtain ⟨s, h1, h2⟩ := q.slot (i := i) (by simpa using e)
    exact ⟨s, by simpa using h1, h2⟩
theorem backV_ok {σ0 σ : L2.St} {env0 : Vn} {as0 : List Addr} {F0 H0 : Hp} (er0 : EnvR G K F0 H0 σ0 σ env0 as0) (ex : Ex F0 F) : ∀ {vs : List Nat} {e e' : Vn} {as : List Addr}, vs.Nodup → EnvR G K F H σ0 (wipe σ vs) e as → backV env0 vs e = some e' → ∃ as', EnvR G K F H σ0 σ e' as' ∧ ∀ a ∈ as', a ∈ as
  | [], _, _, as, _, er, h => by
    cases h
    exact ⟨as, er, fun a m => m⟩
  | v :: vs, e, _, as, nd, er, h => by
    have nm := (List.nodup_cons.mp nd).1
    unfold backV at h
    split at h
    · rename_i h0 h1
      obtain ⟨s, hs, _⟩ := er0.slot h0
      obtain ⟨as1, q1, q2⟩ := er.setAt (s := s) (y := none) h1 (.inl rfl)
      have e1 : e.set v ⟨false, none⟩ = e := by
        apply List.ext_getElem?
        intro j
        by_cases z : v = j
        · subst z
          rw [List.getElem?_set_self (List.getElem?_eq_some_iff.mp h1).1, h1]
        · rw [List.getElem?_set_ne z]
      unfold wipe at q1
      rw [e1, List.set_set, set_same (by rw [wipe_at nm, hs])] at q1
      obtain ⟨as2, q3, q4⟩ := backV_ok er0 ex (List.nodup_cons.mp nd).2 q1 h
      exact ⟨as2, q3, fun a m => q2 a (q4 a m)⟩
    · rename_i d h0 h1
      obtain ⟨s, hs, hd⟩ := er0.slot h0
      obtain ⟨w, rfl, rw'⟩ := hd d rfl
      obtain ⟨as1, q1, q2⟩ := er.setAt (s := some w) (y := some (.v d)) h1 (.inr ⟨w, d, rfl, rfl, rw'.mono ex⟩)
      unfold wipe at q1
      rw [List.set_set, set_same (by rw [wipe_at nm, hs])] at q1
      obtain ⟨as2, q3, q4⟩ := backV_ok er0 ex (List.nodup_cons.mp nd).2 q1 h
      exact ⟨as2, q3, fun a m => q2 a (q4 a m)⟩
    · cases h
theorem wipe_wipe {σ : L2.St} {vs : List Nat} : ∀ {ws : List Nat}, (∀ i ∈ ws, i ∈ vs) → wipe (wipe σ ws) vs = wipe σ vs
  | [], _ => rfl
  | w :: ws, h => by
    rw [wipe, wipe_set (h w List.mem_cons_self), wipe_wipe fun i m => h i (List.mem_cons_of_mem _ m)]
/-- beside one more owned object, that stays -/
theorem Step.withO {F H F' H' : Hp} {as bs : List Addr} {p : Addr} {u : HO} (s : Step F H as F' H' bs) (hp : H p = some u) (hF : F p = none) (hn : p ∉ as) : Step F H (p :: as) F' H' (p :: bs) ∧ H' p = some u ∧ F' p = none ∧ p ∉ bs := by
  refine ⟨⟨s.ex, s.sub, fun b w h n => s.keep b w h fun m => n (List.mem_cons_of_mem _ m), fun b m => ?_, fun b w h => (s.fr b w h).imp id fun z => z.imp (List.mem_cons_of_mem _) id⟩, s.keep p u hp hn, ?_, fun m => ?_⟩
  · rcases List.mem_cons.mp m with z | z
    · exact .inl (by rw [z]; exact List.mem_cons_self)
    · exact (s.own b z).imp (List.mem_cons_of_mem _) id
  · cases h : F' p with
    | none => rfl
    | some w =>
      rcases s.fr p w h with z | z | z
      · rw [hF] at z
        cases z
      · exact absurd z hn
      · rw [hp] at z
        cases z
  · rcases s.own p m with z | z
    · exact hn z
    · rw [hp] at z
      cases z
theorem rd_lc {wi : TI} {gi : Vn → M (List D × Vn)} {t : D → Vn → Option Vn} {c : Vn → M (Bool × Vn)} {f : Vn → M (O × Vn)} {own ws : List Nat} (hi : RdI G K W wi gi) (nd : own.Nodup) (hw : ∀ i ∈ ws, i ∈ own) :
    RdE G K W (tLc wi (SG G K ws t) (ST G K W0 c) (SE G K W0 f) own) (vLc own gi t c f) := by
  intro σ0 σ F H env as r Q ex er he po
  unfold vLc at he
  rcases M.bind_some he with ⟨cc, fs, e, rfl⟩ | ⟨⟨ds, e1⟩, e, q⟩
  · exact hi σ0 σ F H env as _ _ ex er e po
  · refine hi σ0 σ F H env as _ _ ex er e fun J F1 H1 as1 st er1 src => ?_
    dsimp only at q
    split at q
    · cases q
    · rename_i e0 hw0
      obtain ⟨⟨accR, eR⟩, hgo, q2⟩ := M.bindN_some q
      dsimp only at q2
      split at q2
      · rename_i eZ hz
        cases q2
        intro Dp hDp
        obtain ⟨as0, er0, m0⟩ := wipeV_ok er1 hw0
        let Pv : Nat → Hp → Prop := fun i H' => ∃ (F' : Hp) (env' : Vn) (as' : List Addr) (vs : List V) (acc : List D), Step F1 H1 as1 F' H' (Dp :: as') ∧ EnvR G K F' H' σ0 (wipe σ own) env' as' ∧ H' Dp = some (.lst vs) ∧ F' Dp = none ∧ Dp ∉ as' ∧ Reps G K F' vs acc ∧ goLc own t c f (ds.drop i) acc env' = some (.ok (accR, eR))
        have h0 : Pv 0 (upd H1 Dp (.lst [])) := by
          have s1 : Step F1 H1 [] F1 (upd H1 Dp (.lst [])) [Dp] := Step.newO st.sub hDp
          refine ⟨F1, e0, as0, [], [], ⟨s1.ex, s1.sub, fun b u h n => s1.keep b u h (by simp), fun b m => ?_, fun b u h => .inl h⟩, s1.frameE er0 fun x _ z => by simp at z, upd_same, st.sub.back hDp, fun m => ?_, .nil, hgo⟩
          · rcases List.mem_cons.mp m with z | z
            · exact .inr (by rw [z]; exact hDp)
            · exact .inl (m0 b z)
          · obtain ⟨_, u, hu⟩ := er0.off Dp m
            rw [hDp] at hu
            cases hu
        refine lc_it (J := J) (n := ds.length) (G := fun H => Ex F1 H) (Y := fun i H x H' => J.yld i H x H') ⟨fun i H hi ex => src.go H i ex hi, fun H ex => src.stop H ex, fun i H x H' hi ex hy => hy⟩ Pv h0 (fun i H' hi ⟨F', env', as', vs, acc, s, _⟩ => s.ex.trans s.sub) (fun i x H' H2 hi ⟨F', env', as', vs, acc, s, er', hl, hF, hn, ra, hg⟩ hy => ?_) (fun H' ⟨F', env', as', vs, acc, s, er', hl, hF, hn, ra, hg⟩ => ?_)
        · obtain ⟨d, F2, hd, s2, rx⟩ := src.yld F' H' i x H2 s.ex s.sub hi hy
          have hdr : ds.drop i = d :: ds.drop (i + 1) := by
            obtain ⟨hi', e⟩ := List.getElem?_eq_some_iff.mp hd
            rw [List.drop_eq_getElem_cons hi', e]
          rw [hdr] at hg
          unfold goLc at hg
          split at hg
          · cases hg
          · rename_i e2 ht
            have sA : Step F' H' as' F2 H2 as' := (s2.beside as').less fun b m => by simpa using m
            obtain ⟨tA, lA, fA, nA⟩ := sA.withO hl hF hn
            have er2 := s2.frameE er' fun x _ z => by simp at z
            refine ⟨σ0, F2, env', e2, as', d, s2.sub, er2, rx, ht, fun σ3 as3 er3 m3 w3' => ?_⟩
            have w3 : wipe σ3 own = wipe σ own := (w3' own hw).trans (wipe_wipe fun _ m => m)
            refine ⟨w3, ?_⟩
            obtain ⟨⟨k, e3⟩, hc, hg2⟩ := M.bindN_some hg
            have n3 : Dp ∉ as3 := fun z => nA (m3 Dp z)
            refine ⟨σ0, F2, e2, as3, _, s2.sub, er3, hc, fun F3 H3 as4 s3 er4 => ?_⟩
            obtain ⟨tB, lB, fB, nB⟩ := s3.withO lA fA n3
            have tAB : Step F1 H1 as1 F3 H3 (Dp :: as4) := (s.trans (tA.less fun b m => by
              rcases List.mem_cons.mp m with z | z
              · exact List.mem_cons.mpr (.inl z)
              · exact List.mem_cons_of_mem _ (m3 b z))).trans tB
            have raB : Reps G K F3 vs acc := (ra.mono sA.ex).mono s3.ex
            dsimp only at hg2
            cases k with
            | true =>
              rw [if_pos rfl] at hg2 ⊢
              obtain ⟨⟨o, e5⟩, hf, hg3⟩ := M.bindN_some hg2
              refine ⟨σ0, F3, e3, as4, _, s3.sub, er4, hf, fun y F4 H4 bs as5 s4 er5 r5 d5 => ?_⟩
              obtain ⟨tC, lC, fC, nC⟩ := s4.withO lB fB nB
              dsimp only at hg3
              split at hg3
              · rename_i d' e6 hw6
                split at hg3
                · rename_i hz
                  cases r5 with
                  | v r5 =>
                    have raC := raB.mono s4.ex
                    refine ⟨vs, lC, by rw [raC.len]; exact hz, ?_⟩
                    obtain ⟨as6, er6, m6⟩ := wipeV_ok er5 hw6
                    rw [w3] at er6
                    have n5 : Dp ∉ as5 := fun z => nC (by simpa using z)
                    have sW : Step F4 H4 (Dp :: as5) F4 (upd H4 Dp (.lst (vs ++ [y]))) (Dp :: as5) := Step.write s4.sub fC List.mem_cons_self
                    have n6 : Dp ∉ as6 := fun z => n5 (m6 Dp z)
                    refine ⟨F4, e6, as6, vs ++ [y], acc ++ [d'], ((tAB.trans (tC.less fun b m => by simpa using m)).trans sW).less fun b m => ?_, ?_, upd_same, fC, n6, raC.app (.cons r5 .nil), hg3⟩
                    · rcases List.mem_cons.mp m with z | z
                      · exact List.mem_cons.mpr (.inl z)
                      · exact List.mem_cons_of_mem _ (m6 b z)
                    · refine er6.frame (Ex.refl F4) (fun a m u h => ?_) fun a m => (er6.off a m).1
                      rw [upd_ne (fun z => n6 (by rw [← z]; exact m))]
                      exact h
                · cases hg3
              · cases hg3
            | false =>
              rw [if_neg (by decide)] at hg2 ⊢
              split at hg2
              · rename_i e6 hw6
                obtain ⟨as6, er6, m6⟩ := wipeV_ok er4 hw6
                rw [w3] at er6
                refine ⟨F3, e6, as6, vs, acc, tAB.less fun b m => ?_, er6, lB, fB, fun z => nB (m6 Dp z), raB, hg2⟩
                rcases List.mem_cons.mp m with z | z
                · exact List.mem_cons.mpr (.inl z)
                · exact List.mem_cons_of_mem _ (m6 b z)
              · cases hg2
        · rw [List.drop_length] at hg
          cases hg
          obtain ⟨as7, er7, m7⟩ := backV_ok er1 s.ex nd er' hz
          refine po (.ref Dp) F' H' [Dp] as7 ((st.trans s).less fun b m => ?_) er7 (.l hl hF ra) fun a m z => ?_
          · rcases List.mem_append.mp m with z | z
            · exact List.mem_cons.mpr (.inl (by simpa using z))
            · exact List.mem_cons_of_mem _ (m7 b z)
          · have : a = Dp := by simpa using m
            subst this
            exact hn (m7 _ z)
      · cases q2
theorem ce_lc {elt tg iter : Expr} {ifs : List Expr} {scope : Scope} {own : List (Str × Nat)} {pos : Pos} {gi : Vn → M (List D × Vn)} {t : D → Vn → Option Vn} {c : Vn → M (Bool × Vn)} {f : Vn → M (O × Vn)} {ws : List Nat} (hc : X.calm = true) (ck : Cok X W) (hi : CI G X W tg iter gi) (ok : BlkOk X.N X.env.scope scope own)
    (nd : (own.map (·.2)).Nodup) (hw : ∀ i ∈ ws, i ∈ own.map (·.2))
    (hg : ∀ (s : Shared) (H : Hp) (C : Addr) (cl : List (Str × Addr)) (fp : List Addr), CG G (X.blk s H scope (compEnvC scope cl C X.env) fp) ws tg t) (ht : ∀ (s : Shared) (H : Hp) (C : Addr) (cl : List (Str × Addr)) (fp : List Addr), CTs G (X.blk s H scope (compEnvC scope cl C X.env) fp) W0 ifs c)
    (he : ∀ (s : Shared) (H : Hp) (C : Addr) (cl : List (Str × Addr)) (fp : List Addr), CE G (X.blk s H scope (compEnvC scope cl C X.env) fp) W0 elt f) (hs : ∀ x, foldedSetIterable iter X.env x = pure x := by intro _; rfl) :
    CE G X W (.ListComp elt [⟨tg, iter, ifs, 0⟩] scope pos) (vLc (own.map (·.2)) gi t c f) := by
  obtain ⟨wi, p, r⟩ := hi
  exact ⟨_, pe_lc (g := SG G X.K ws t) (tt := ST G X.K W0 c) (te := SE G X.K W0 f) hc ck.nd p ok (fun s H C cl fp => cg_sg (hg s H C cl fp)) (fun s H C cl fp => ht s H C cl fp) (fun s H C cl fp => ce_se (he s H C cl fp)) hs, rd_lc r nd hw⟩
end
end Vi

set_option Elab.async false
set_option linter.all false
set_option maxRecDepth 100000
set_option maxHeartbeats 2000000
/-! Vi12: statements; what is changed in place. -/
namespace Vi
open PySem PySem.Spec L2

/-! ### small statements, rows of them -/
def vNx : Vn → M (Fl × Vn) := fun env => M.ret (.nx, env)
def vBk : Vn → M (Fl × Vn) := fun env => M.ret (.bk, env)
def vCt : Vn → M (Fl × Vn) := fun env => M.ret (.ct, env)
/-- never come to -/
def vNo : Vn → M (Fl × Vn) := fun _ => none
def vThen (f g : Vn → M (Fl × Vn)) : Vn → M (Fl × Vn) := fun env => M.bind (f env) fun (fl, e) => match fl with
  | .nx => g e
  | .bk => M.ret (.bk, e)
  | .ct => M.ret (.ct, e)
  | .rt o => M.ret (.rt o, e)
def vDrop (f : Vn → M (O × Vn)) : Vn → M (Fl × Vn) := fun env => M.bind (f env) fun (_, e) => M.ret (.nx, e)
def vRt (f : Vn → M (O × Vn)) : Vn → M (Fl × Vn) := fun env => M.bind (f env) fun (o, e) => M.ret (.rt o, e)
def vRtN : Vn → M (Fl × Vn) := fun env => M.ret (.rt (.v .non), env)
def vIfS (c : Vn → M (Bool × Vn)) (f g : Vn → M (Fl × Vn)) : Vn → M (Fl × Vn) := fun env => M.bind (c env) fun (b, e) => if b = true then f e else g e
def vSet (i : Nat) (f : Vn → M (O × Vn)) : Vn → M (Fl × Vn) := fun env => M.bind (f env) fun (o, e) => match e[i]? with
  | some ⟨false, _⟩ => M.ret (.nx, e.set i ⟨false, some o⟩)
  | _ => none
/-- a target gets a shared thing -/
def vAsg (f : Vn → M (O × Vn)) (t : D → Vn → Option Vn) : Vn → M (Fl × Vn) := fun env => M.bind (f env) fun (o, e) => match o with
  | .v d => match t d e with
    | some e2 => M.ret (.nx, e2)
    | none => none
  | _ => none
def vPar (i j : Nat) (g : Vn → M (List Lr × Vn)) : Vn → M (Fl × Vn) := fun env => M.bind (g env) fun (rs, e) => match rs with
  | [.t a, .t b] => match e[i]?, e[j]? with
    | some ⟨false, _⟩, some ⟨false, _⟩ => M.ret (.nx, (e.set i ⟨false, some a⟩).set j ⟨false, some b⟩)
    | _, _ => none
  | _ => none
def vPar3 (i j l : Nat) (g : Vn → M (List Lr × Vn)) : Vn → M (Fl × Vn) := fun env => M.bind (g env) fun (rs, e) => match rs with
  | [.t a, .t b, .t c] => match e[i]?, e[j]?, e[l]? with
    | some ⟨false, _⟩, some ⟨false, _⟩, some ⟨false, _⟩ => M.ret (.nx, ((e.set i ⟨false, some a⟩).set j ⟨false, some b⟩).set l ⟨false, some c⟩)
    | _, _, _ => none
  | _ => none
/-- x op= e on shared things -/
def vAug (i : Nat) (run : List D → Option O) (f : Vn → M (O × Vn)) : Vn → M (Fl × Vn) := fun env => match env[i]? with
  | some ⟨_, some (.v d)⟩ => M.bind (f env) fun (o, e) => match o with
    | .v d2 => match run [d, d2], e[i]? with
      | some o', some ⟨false, _⟩ => M.ret (.nx, e.set i ⟨false, some o'⟩)
      | _, _ => none
    | _ => none
  | _ => none

section
variable {G : Gt} {K : PySem.W.Frag} {W : WX} {F H : Hp}
theorem rd_nx : RdS G K W tNext vNx := fun σ0 σ F H env as r Ds ex er he po => by
  cases he
  exact po σ F H as (Step.refl ex) er
theorem rd_bk : RdS G K W tBreak vBk := fun σ0 σ F H env as r Ds ex er he po => by
  cases he
  exact po σ F H as (Step.refl ex) er
theorem rd_ct : RdS G K W tCont vCt := fun σ0 σ F H env as r Ds ex er he po => by
  cases he
  exact po σ F H as (Step.refl ex) er
theorem rd_no : RdS G K W tNever vNo := fun σ0 σ F H env as r Ds ex er he po => by cases he
theorem rd_then {t u : TS} {f g : Vn → M (Fl × Vn)} (h : RdS G K W t f) (k : RdS G K W u g) : RdS G K W (tSeq t u) (vThen f g) := by
  intro σ0 σ F H env as r Ds ex er he po
  unfold vThen at he
  rcases M.bind_some he with ⟨c, fs, e, rfl⟩ | ⟨⟨fl, e1⟩, e, q⟩
  · exact h σ0 σ F H env as _ _ ex er e po
  · cases fl with
    | nx => exact h σ0 σ F H env as _ { Ds with nx := u Ds } ex er e fun σ' F' H' as' st er' => k σ0 σ' F' H' e1 as' r Ds st.sub er' q (po.ext st)
    | bk =>
      cases q
      exact h σ0 σ F H env as _ { Ds with nx := u Ds } ex er e po
    | ct =>
      cases q
      exact h σ0 σ F H env as _ { Ds with nx := u Ds } ex er e po
    | rt o =>
      cases q
      exact h σ0 σ F H env as _ { Ds with nx := u Ds } ex er e po
theorem rd_drop {t : TE} {f : Vn → M (O × Vn)} (h : RdE G K W t f) : RdS G K W (tDrop t) (vDrop f) := by
  intro σ0 σ F H env as r Ds ex er he po
  unfold vDrop at he
  rcases M.bind_some he with ⟨c, fs, e, rfl⟩ | ⟨⟨o, e1⟩, e, q⟩
  · exact h σ0 σ F H env as _ _ ex er e (po σ)
  · cases q
    exact h σ0 σ F H env as _ _ ex er e fun v F1 H1 bs as1 st er1 r1 d => po σ F1 H1 as1 (st.less fun b m => List.mem_append_right _ m) er1
theorem rd_rt {t : TE} {f : Vn → M (O × Vn)} (h : RdE G K W t f) : RdS G K W (tRet t) (vRt f) := by
  intro σ0 σ F H env as r Ds ex er he po
  unfold vRt at he
  rcases M.bind_some he with ⟨c, fs, e, rfl⟩ | ⟨⟨o, e1⟩, e, q⟩
  · exact h σ0 σ F H env as _ _ ex er e (po σ)
  · cases q
    exact h σ0 σ F H env as _ _ ex er e fun v F1 H1 bs as1 st er1 r1 d => po v σ F1 H1 bs as1 st er1 r1 d
theorem rd_rtN : RdS G K W tRetN vRtN := fun σ0 σ F H env as r Ds ex er he po => by
  cases he
  exact po .non σ F H [] as (Step.refl ex) er (.v .non) fun a m => by simp at m
theorem rd_ifS {c : TT} {t u : TS} {fc : Vn → M (Bool × Vn)} {f g : Vn → M (Fl × Vn)} (hc : RdT G K W c fc) (h : RdS G K W t f) (k : RdS G K W u g) : RdS G K W (tIfS c t u) (vIfS fc f g) := by
  intro σ0 σ F H env as r Ds ex er he po
  unfold vIfS at he
  rcases M.bind_some he with ⟨cc, fs, e, rfl⟩ | ⟨⟨b, e1⟩, e, q⟩
  · exact hc σ0 σ F H env as _ _ ex er e (po σ)
  · refine hc σ0 σ F H env as _ _ ex er e fun F1 H1 as1 st er1 => ?_
    dsimp only at q
    cases b with
    | true =>
      rw [if_pos rfl] at q ⊢
      exact h σ0 σ F1 H1 e1 as1 r Ds st.sub er1 q (po.ext st)
    | false =>
      rw [if_neg (by decide)] at q ⊢
      exact k σ0 σ F1 H1 e1 as1 r Ds st.sub er1 q (po.ext st)
theorem rd_set {i : Nat} {t : TE} {f : Vn → M (O × Vn)} (h : RdE G K W t f) : RdS G K W (tAsg t (gName i)) (vSet i f) := by
  intro σ0 σ F H env as r Ds ex er he po
  unfold vSet at he
  rcases M.bind_some he with ⟨c, fs, e, rfl⟩ | ⟨⟨o, e1⟩, e, q⟩
  · exact h σ0 σ F H env as _ _ ex er e (po σ)
  · refine h σ0 σ F H env as _ _ ex er e fun v F1 H1 bs as1 st er1 r1 d => ?_
    dsimp only at q
    split at q
    · rename_i x hx
      cases q
      obtain ⟨as2, h1, h2⟩ := er1.put r1 hx d
      exact po _ F1 H1 as2 (st.less fun b m => (h2 b m).elim (List.mem_append_left _) (List.mem_append_right _)) h1
    · cases q
theorem rd_asg {ws : List Nat} {te : TE} {g : TG} {f : Vn → M (O × Vn)} {t : D → Vn → Option Vn} (h : RdE G K W te f) (hg : RdG G K ws g t) : RdS G K W (tAsg te g) (vAsg f t) := by
  intro σ0 σ F H env as r Ds ex er he po
  unfold vAsg at he
  rcases M.bind_some he with ⟨c, fs, e, rfl⟩ | ⟨⟨o, e1⟩, e, q⟩
  · exact h σ0 σ F H env as _ _ ex er e (po σ)
  · refine h σ0 σ F H env as _ _ ex er e fun v F1 H1 bs as1 st er1 r1 d => ?_
    dsimp only at q
    split at q
    · split at q
      · rename_i e2 ht
        cases q
        cases r1 with
        | v r1 => exact hg σ0 σ F1 H1 e1 e2 as1 v _ _ st.sub er1 r1 ht fun σ' as2 er2 m2 _ => po σ' F1 H1 as2 (st.less fun b m => List.mem_append_right _ (m2 b m)) er2
      · cases q
    · cases q
theorem EnvB.put2 {v w : V} {o o' : O} {a1 b1 : List Addr} {σ0 σ : L2.St} {env : Vn} {as : List Addr} {i j : Nat} {x y : Option O} (hij : i ≠ j) (r : RepO G K F H v o a1) (r' : RepO G K F H w o' b1) (er : EnvR G K F H σ0 σ env as) (hx : env[i]? = some ⟨false, x⟩) (hy : env[j]? = some ⟨false, y⟩)
    (d1 : ∀ a ∈ a1, a ∉ as) (d2 : ∀ a ∈ b1, a ∉ as) (d3 : ∀ a ∈ a1, a ∉ b1) : ∃ as', EnvR G K F H σ0 ((σ.set i (some v)).set j (some w)) ((env.set i ⟨false, some o⟩).set j ⟨false, some o'⟩) as' ∧ ∀ a ∈ as', a ∈ a1 ∨ a ∈ b1 ∨ a ∈ as := by
  obtain ⟨as1, h1, h2⟩ := er.put r hx d1
  obtain ⟨as2, h3, h4⟩ := h1.put r' (i := j) (x := y) (by rw [List.getElem?_set_ne hij]; exact hy) fun a m z => by
    rcases h2 a z with z | z
    · exact d3 a z m
    · exact d2 a m z
  refine ⟨as2, h3, fun a m => ?_⟩
  rcases h4 a m with z | z
  · exact .inr (.inl z)
  · rcases h2 a z with z | z
    · exact .inl z
    · exact .inr (.inr z)
theorem rd_par {i j : Nat} {t : TA} {g : Vn → M (List Lr × Vn)} (hij : i ≠ j) (h : RdA G K W t g) : RdS G K W (tPar i j t) (vPar i j g) := by
  intro σ0 σ F H env as r Ds ex er he po
  unfold vPar at he
  rcases M.bind_some he with ⟨c, fs, e, rfl⟩ | ⟨⟨rs, e1⟩, e, q⟩
  · exact h σ0 σ F H env as _ _ ex er e (po σ)
  · refine h σ0 σ F H env as _ _ ex er e fun vs F1 H1 bs as1 st er1 r1 d => ?_
    dsimp only at q
    split at q
    · split at q
      · rename_i x y hx hy
        cases q
        cases r1 with
        | t ra r1 dd =>
          cases r1 with
          | t rb r1 dd2 =>
            cases r1
            obtain ⟨as2, h1, h2⟩ := er1.put2 hij ra rb hx hy (fun a m => d a (List.mem_append_left _ m)) (fun a m => d a (List.mem_append_right _ (List.mem_append_left _ m))) fun a m z => dd a m (List.mem_append_left _ z)
            refine ⟨_, _, rfl, po _ F1 H1 as2 (st.less fun b m => ?_) h1⟩
            rcases h2 b m with z | z | z
            · exact List.mem_append_left _ (List.mem_append_left _ z)
            · exact List.mem_append_left _ (List.mem_append_right _ (List.mem_append_left _ z))
            · exact List.mem_append_right _ z
      · cases q
    · cases q
theorem rd_par3 {i j l : Nat} {t : TA} {g : Vn → M (List Lr × Vn)} (hij : i ≠ j) (hil : i ≠ l) (hjl : j ≠ l) (h : RdA G K W t g) : RdS G K W (tPar3 i j l t) (vPar3 i j l g) := by
  intro σ0 σ F H env as r Ds ex er he po
  unfold vPar3 at he
  rcases M.bind_some he with ⟨c, fs, e, rfl⟩ | ⟨⟨rs, e1⟩, e, q⟩
  · exact h σ0 σ F H env as _ _ ex er e (po σ)
  · refine h σ0 σ F H env as _ _ ex er e fun vs F1 H1 bs as1 st er1 r1 d => ?_
    dsimp only at q
    split at q
    · split at q
      · rename_i x y z hx hy hz
        cases q
        cases r1 with
        | t ra r1 dd =>
          cases r1 with
          | t rb r1 dd2 =>
            cases r1 with
            | t rc r1 dd3 =>
              cases r1
              obtain ⟨as2, h1, h2⟩ := er1.put2 hij ra rb hx hy (fun a m => d a (List.mem_append_left _ m)) (fun a m => d a (List.mem_append_right _ (List.mem_append_left _ m))) fun a m z => dd a m (List.mem_append_left _ z)
              obtain ⟨as3, h3, h4⟩ := h1.put rc (i := l) (x := z) (by rw [List.getElem?_set_ne hjl, List.getElem?_set_ne hil]; exact hz) fun a m q => by
                rcases h2 a q with q | q | q
                · exact dd a q (List.mem_append_right _ (List.mem_append_left _ m))
                · exact dd2 a q (List.mem_append_left _ m)
                · exact d a (List.mem_append_right _ (List.mem_append_right _ (List.mem_append_left _ m))) q
              refine ⟨_, _, _, rfl, po _ F1 H1 as3 (st.less fun b m => ?_) h3⟩
              rcases h4 b m with q | q
              · exact List.mem_append_left _ (List.mem_append_right _ (List.mem_append_right _ (List.mem_append_left _ q)))
              · rcases h2 b q with q | q | q
                · exact List.mem_append_left _ (List.mem_append_left _ q)
                · exact List.mem_append_left _ (List.mem_append_right _ (List.mem_append_left _ q))
                · exact List.mem_append_right _ q
      · cases q
    · cases q
theorem rd_aug {i : Nat} {t : TE} {ti : TIp} {run : List D → Option O} {f : Vn → M (O × Vn)} (h : RdE G K W t f) (ok : OpOk G K (L2r ti) run) : RdS G K W (tAug i t ti) (vAug i run f) := by
  intro σ0 σ F H env as r Ds ex er he po
  unfold vAug at he
  split at he
  · rename_i p d hx
    obtain ⟨v, a1, h1, h2, _⟩ := er.at hx
    refine ⟨v, h1, ?_⟩
    rcases M.bind_some he with ⟨c, fs, e, rfl⟩ | ⟨⟨o, e1⟩, e, q⟩
    · exact h σ0 σ F H env as _ _ ex er e (po σ)
    · refine h σ0 σ F H env as _ _ ex er e fun w F1 H1 bs as1 st er1 r1 dj => ?_
      dsimp only at q
      split at q
      · rename_i d2
        split at q
        · rename_i o' x hr hy
          cases q
          cases h2 with
          | v h2 =>
            refine ok F1 H1 [v, w] [d, d2] o' _ st.sub (.cons ⟨.v d, [], .v (h2.mono st.ex), rfl⟩ (.cons ⟨.v d2, bs, r1, rfl⟩ .nil)) hr fun z F2 H2 cs st2 r2 => ?_
            have er2 := st2.frameE er1 fun x _ z => by simp at z
            have ap := st2.apartE er1 fun x _ z => by simp at z
            obtain ⟨as3, g1, g2⟩ := er2.put r2 hy fun a m z => ap a z m
            refine po _ F2 H2 as3 ((st.outer st2).less fun b m => ?_) g1
            exact (g2 b m).elim (List.mem_append_left _) (List.mem_append_right _)
        · cases q
      · cases q
  · cases he
end

section
variable {G : Gt} {X : Cx} {W : WX} {e : Expr} {st : Stmt} {rest body : List Stmt} {pos pos' : Pos}
theorem cs_pass : CS G X W (.Pass pos) vNx := ⟨_, ps_pass, rd_nx⟩
theorem cs_break : CS G X W (.Break pos) vBk := ⟨_, ps_break, rd_bk⟩
theorem cs_continue : CS G X W (.Continue pos) vCt := ⟨_, ps_continue, rd_ct⟩
theorem cs_doc {s : Str} {j} : CS G X W (.Expr (.Constant (.str s) j pos) pos') vNx := ⟨_, ps_doc, rd_nx⟩
theorem cs_never : CS G X W st vNo := ⟨_, ps_never, rd_no⟩
theorem css_never : CSs G X W rest vNo := ⟨_, pss_never, rd_no⟩
theorem css_nil : CSs G X W [] vNx := ⟨_, pss_nil, rd_nx⟩
theorem css_one {f : Vn → M (Fl × Vn)} (h : CS G X W st f) : CSs G X W [st] f := let ⟨_, p, r⟩ := h; ⟨_, pss_one p, r⟩
theorem css_cons {f g : Vn → M (Fl × Vn)} (h : CS G X W st f) (k : CSs G X W rest g) : CSs G X W (st :: rest) (vThen f g) := let ⟨_, p, r⟩ := h; let ⟨_, q, s⟩ := k; ⟨_, pss_cons p q, rd_then r s⟩
theorem cs_expr {f : Vn → M (O × Vn)} (h : CE G X W e f) (hs : swapsWith e none pos.line X.env = pure false := by rfl) : CS G X W (.Expr e pos) (vDrop f) := let ⟨_, p, r⟩ := h; ⟨_, ps_expr p hs, rd_drop r⟩
theorem cs_ret {f : Vn → M (O × Vn)} (h : CE G X W e f) : CS G X W (.Return (some e) pos) (vRt f) := let ⟨_, p, r⟩ := h; ⟨_, ps_ret p, rd_rt r⟩
theorem cs_retN : CS G X W (.Return none pos) vRtN := ⟨_, ps_retN, rd_rtN⟩
theorem cs_if {c : Expr} {a b : List Stmt} {fc : Vn → M (Bool × Vn)} {f g : Vn → M (Fl × Vn)} (hc : CT G X W c fc) (ha : CSs G X W a f) (hb : CSs G X W b g) : CS G X W (.If c a b pos) (vIfS fc f g) := let ⟨_, p, r⟩ := hc; let ⟨_, q, s⟩ := ha; let ⟨_, u, v⟩ := hb; ⟨_, ps_if p q u, rd_ifS r s v⟩
theorem cs_set {i : Nat} {x : Str} {f : Vn → M (O × Vn)} (hN : X.N.Nodup) (hi : X.N[i]? = some x) (hx : Loc X.env.scope x) (h : CE G X W e f) (hs : swapsWith e (some (.Name x pos')) pos.line X.env = pure false := by rfl) (hf : X.fn x = true ∨ X.env.scope.names.lookup x = some .local := by first | exact .inl rfl | exact .inr rfl | assumption) :
    CS G X W (.Assign [.Name x pos'] e pos) (vSet i f) := let ⟨_, p, r⟩ := h; ⟨_, ps_set hN hi hx p hs hf, rd_set r⟩
theorem cs_setLc {i : Nat} {y : Str} {py : Pos} {elt tg iter : Expr} {ifs : List Expr} {scope : Scope} {own : List (Str × Nat)} {gi : Vn → M (List D × Vn)} {t : D → Vn → Option Vn} {c : Vn → M (Bool × Vn)} {f : Vn → M (O × Vn)} {ws : List Nat} (hc : X.calm = true) (ck : Cok X W) (hy : X.N[i]? = some y) (hyl : X.env.scope.names.lookup y = some .local)
    (hsw : swapsWith (.ListComp elt [⟨tg, iter, ifs, 0⟩] scope pos) (some (.Name y py)) pos'.line X.env = pure true) (hi : CI G X W tg iter gi) (ok : BlkOk X.N X.env.scope scope own)
    (nd : (own.map (·.2)).Nodup) (hw : ∀ i ∈ ws, i ∈ own.map (·.2))
    (hg : ∀ (s : Shared) (H : Hp) (C : Addr) (cl : List (Str × Addr)) (fp : List Addr), CG G (X.blk s H scope (compEnvC scope cl C X.env) fp) ws tg t) (ht : ∀ (s : Shared) (H : Hp) (C : Addr) (cl : List (Str × Addr)) (fp : List Addr), CTs G (X.blk s H scope (compEnvC scope cl C X.env) fp) W0 ifs c)
    (he : ∀ (s : Shared) (H : Hp) (C : Addr) (cl : List (Str × Addr)) (fp : List Addr), CE G (X.blk s H scope (compEnvC scope cl C X.env) fp) W0 elt f) (hs : ∀ x, foldedSetIterable iter X.env x = pure x := by intro _; rfl) :
    CS G X W (.Assign [.Name y py] (.ListComp elt [⟨tg, iter, ifs, 0⟩] scope pos) pos') (vSet i (vLc (own.map (·.2)) gi t c f)) := by
  obtain ⟨wi, p, r⟩ := hi
  exact ⟨_, ps_setLc (g := SG G X.K ws t) (tt := ST G X.K W0 c) (te := SE G X.K W0 f) hc ck.nd hy hyl hsw p ok (fun s H C cl fp => cg_sg (hg s H C cl fp)) (fun s H C cl fp => ht s H C cl fp) (fun s H C cl fp => ce_se (he s H C cl fp)) hs, rd_set (rd_lc r nd hw)⟩
theorem cs_asg {ws : List Nat} {tg : Expr} {f : Vn → M (O × Vn)} {t : D → Vn → Option Vn} (h : CE G X W e f) (hg : CG G X ws tg t) (hs : swapsWithSole [tg] e pos.line X.env = pure false := by rfl) (hw : swappedStores [tg] e X.env = pure none := by rfl)
    (h1 : (assignEach [tg] X.env).map (·.2) = [assign tg X.env] := by rfl) : CS G X W (.Assign [tg] e pos) (vAsg f t) := let ⟨_, p, r⟩ := h; let ⟨_, q, s⟩ := hg; ⟨_, ps_asg p q hs hw h1, rd_asg r s⟩
theorem cs_par {i j : Nat} {x y : Str} {a b : Expr} {px py pt : Pos} {kt k2 pt2} {g : Vn → M (List Lr × Vn)} (hc : X.calm = true) (ck : Cok X W) (hi : X.N[i]? = some x) (hj : X.N[j]? = some y) (hij : i ≠ j) (hx : X.env.scope.names.lookup x = some .local) (hy : X.env.scope.names.lookup y = some .local) (ha : CA G X W [a, b] g)
    (hw : swappedStores [.Tuple [.Name x px, .Name y py] kt pt] (.Tuple [a, b] k2 pt2) X.env = pure (some [x, y]))
    (hs : swapsWithSole [.Tuple [.Name x px, .Name y py] kt pt] (.Tuple [a, b] k2 pt2) pos.line X.env = pure false := by rfl) :
    CS G X W (.Assign [.Tuple [.Name x px, .Name y py] kt pt] (.Tuple [a, b] k2 pt2) pos) (vPar i j g) := let ⟨_, p, r⟩ := ha; ⟨_, ps_par hc ck.nd hi hj hij hx hy p hw hs, rd_par hij r⟩
theorem cs_par3 {i j l : Nat} {x y z : Str} {a b c : Expr} {px py pz pt : Pos} {kt k2 pt2} {g : Vn → M (List Lr × Vn)} (hc : X.calm = true) (ck : Cok X W) (hi : X.N[i]? = some x) (hj : X.N[j]? = some y) (hl : X.N[l]? = some z) (hij : i ≠ j) (hil : i ≠ l) (hjl : j ≠ l)
    (hx : X.env.scope.names.lookup x = some .local) (hy : X.env.scope.names.lookup y = some .local) (hz : X.env.scope.names.lookup z = some .local) (ha : CA G X W [a, b, c] g)
    (hw : swappedStores [.Tuple [.Name x px, .Name y py, .Name z pz] kt pt] (.Tuple [a, b, c] k2 pt2) X.env = pure (some [x, y, z]))
    (hs : swapsWithSole [.Tuple [.Name x px, .Name y py, .Name z pz] kt pt] (.Tuple [a, b, c] k2 pt2) pos.line X.env = pure false := by rfl) :
    CS G X W (.Assign [.Tuple [.Name x px, .Name y py, .Name z pz] kt pt] (.Tuple [a, b, c] k2 pt2) pos) (vPar3 i j l g) := let ⟨_, p, r⟩ := ha; ⟨_, ps_par3 hc ck.nd hi hj hl hij hil hjl hx hy hz p hw hs, rd_par3 hij hil hjl r⟩
theorem cs_aug {i : Nat} {x : Str} {op : Operator} {ti : TIp} {run : List D → Option O} {f : Vn → M (O × Vn)} (hN : X.N.Nodup) (hi : X.N[i]? = some x) (hx : Loc X.env.scope x) (h : CE G X W e f) (ho : PIp X op ti) (ok : OpOk G X.K (L2r ti) run) (hf : X.fn x = true ∨ X.env.scope.names.lookup x = some .local := by first | exact .inl rfl | exact .inr rfl | assumption) :
    CS G X W (.AugAssign (.Name x pos') op e pos) (vAug i run f) := let ⟨_, p, r⟩ := h; ⟨_, ps_aug hN hi hx p ho hf, rd_aug r ok⟩
theorem cs_for {ws : List Nat} {tg iter : Expr} {gi : Vn → M (List D × Vn)} {t : D → Vn → Option Vn} {b : Vn → M (Fl × Vn)} (hp : PassesOwn (model X.prog X.w) X.A X.env X.xe) (hc : X.calm = true) (hi : CI G X W tg iter gi) (hg : CG G X ws tg t) (hb : CSs G X W body b) (hs : ∀ x, foldedSetIterable iter X.env x = pure x := by intro _; rfl) :
    CS G X W (.For tg iter body [] pos) (vFor gi t b) := let ⟨_, p, r⟩ := hi; let ⟨_, q, s⟩ := hg; let ⟨_, u, v⟩ := hb; ⟨_, ps_for hp hc p q u hs, rd_for r s v⟩
theorem cs_while {c : Expr} {fc : Vn → M (Bool × Vn)} {b : Vn → M (Fl × Vn)} (n : Nat) (hp : PassesOwn (model X.prog X.w) X.A X.env X.xe) (hc : CT G X W c fc) (hb : CSs G X W body b) : CS G X W (.While c body [] pos) (goWhile fc b n) := let ⟨_, p, r⟩ := hc; let ⟨_, q, s⟩ := hb; ⟨_, ps_while hp p q, rd_while r s⟩
end
end Vi

set_option Elab.async false
set_option linter.all false
set_option maxRecDepth 100000
set_option maxHeartbeats 2000000
/-! Vi13: lists and dicts changed in place, dict displays, isinstance, attributes. -/
namespace Vi
open PySem PySem.Spec L2

section
variable (G : Gt) (K : PySem.W.Frag) (F H : Hp)
inductive RepL : List V → List O → List Addr → Prop
  | nil : RepL [] [] []
  | cons {v : V} {o : O} {vs : List V} {os : List O} {as bs : List Addr} : RepO G K F H v o as → RepL vs os bs → (∀ a ∈ as, a ∉ bs) → RepL (v :: vs) (o :: os) (as ++ bs)
end
def allO : List Lr → Option (List O)
  | [] => some []
  | .t o :: r => match allO r with
    | some os => some (o :: os)
    | none => none
  | .s _ :: _ => none
section
variable {G : Gt} {K : PySem.W.Frag} {W : WX} {F H F' H' : Hp}
theorem allO_ok {σ : L2.St} : ∀ {vs : List V} {rs : List Lr} {bs : List Addr} {os : List O}, LRs G K F H σ vs rs bs → allO rs = some os → RepL G K F H vs os bs
  | _, _, _, _, .nil, e => by
    cases e
    exact .nil
  | _, _, _, _, .t (rs := rs) r q d, e => by
    unfold allO at e
    split at e
    · rename_i os h
      cases e
      exact .cons r (allO_ok q h) d
    · cases e
  | _, _, _, _, .s _ _, e => by cases e
/-- the slot i, its content changed in place; b2: what else is new -/
theorem EnvB.mut {σ0 σ : L2.St} {env : Vn} {as : List Addr} {i : Nat} {p : Bool} {o : O} (er : EnvR G K F H σ0 σ env as) (hx : env[i]? = some ⟨p, some o⟩) :
    ∃ v a1, σ[i]? = some (some v) ∧ RepO G K F H v o a1 ∧ (∀ a ∈ a1, a ∈ as) ∧ ∀ {a2 : List Addr} {F' H' : Hp} {o' : O} {b1 b2 : List Addr}, (∀ a ∈ a2, a ∉ as) → Step F H (a1 ++ a2) F' H' (b2 ++ b1) → RepO G K F' H' v o' b1 → (∀ a ∈ b2, a ∉ b1) →
      ∃ as', EnvR G K F' H' σ0 σ (env.set i ⟨p, some o'⟩) as' ∧ Step F H (as ++ a2) F' H' (b2 ++ as') ∧ ∀ a ∈ b2, a ∉ as' := by
  obtain ⟨v, a1, h1, h2, h3, rest, h4, h5, h6⟩ := er.at hx
  refine ⟨v, a1, h1, h2, h3, fun {a2 F' H' o' b1 b2} d2 st r' dj => ?_⟩
  have nr : ∀ b ∈ rest, b ∉ a1 ++ a2 := fun b m z => by
    rcases List.mem_append.mp z with z | z
    · exact (h4 b m).2 z
    · exact d2 b z (h4 b m).1
  have frest : ∀ b ∈ rest, F' b = none := fun b m => by
    obtain ⟨n, u, hu⟩ := er.off b (h4 b m).1
    cases h : F' b with
    | none => rfl
    | some w =>
      rcases st.fr b w h with z | z | z
      · rw [n] at z
        cases z
      · exact absurd z (nr b m)
      · rw [hu] at z
        cases z
  have rest_off : ∀ b ∈ rest, b ∉ b2 ++ b1 := fun b m z => by
    rcases st.own b z with q | q
    · exact nr b m q
    · obtain ⟨_, u, hu⟩ := er.off b (h4 b m).1
      rw [hu] at q
      cases q
  obtain ⟨as', g1, g2⟩ := h6 (F' := F') (H' := H') (o' := some o') (b1 := b1) st.ex (fun b m u e => st.keep b u e (nr b m)) frest (fun x e => by
    cases e
    exact r') fun a m z => rest_off a z (List.mem_append_right _ m)
  refine ⟨as', g1, ⟨st.ex, st.sub, fun b u e n => ?_, fun b m => ?_, fun b u e => ?_⟩, fun a m z => ?_⟩
  · refine st.keep b u e fun z => n ?_
    rcases List.mem_append.mp z with z | z
    · exact List.mem_append_left _ (h3 b z)
    · exact List.mem_append_right _ z
  · have lift : b ∈ a1 ++ a2 ∨ H b = none → b ∈ as ++ a2 ∨ H b = none := fun z => z.imp (fun z => by
      rcases List.mem_append.mp z with z | z
      · exact List.mem_append_left _ (h3 b z)
      · exact List.mem_append_right _ z) id
    rcases List.mem_append.mp m with m | m
    · exact lift (st.own b (List.mem_append_left _ m))
    · rcases g2 b m with z | z
      · exact lift (st.own b (List.mem_append_right _ z))
      · exact .inl (List.mem_append_left _ (h4 b z).1)
  · rcases st.fr b u e with z | z | z
    · exact .inl z
    · refine .inr (.inl ?_)
      rcases List.mem_append.mp z with z | z
      · exact List.mem_append_left _ (h3 b z)
      · exact List.mem_append_right _ z
    · exact .inr (.inr z)
  · rcases g2 a z with z | z
    · exact dj a m z
    · exact rest_off a z (List.mem_append_left _ m)
end
end Vi

set_option Elab.async false
set_option linter.all false
set_option maxRecDepth 100000
set_option maxHeartbeats 2000000
/-! Vi14: methods of lists, items stored, displays of dicts, isinstance. -/
namespace Vi
open PySem PySem.Spec L2

def O.isL : O → Bool
  | .l _ => true
  | _ => false
/-- a method that changes what the slot i holds -/
def vMt (i : Nat) (run : O → List O → Option (O × O)) (g : Vn → M (List Lr × Vn)) : Vn → M (O × Vn) := fun env => match env[i]? with
  | some ⟨_, some (.l _)⟩ => M.bind (g env) fun (rs, e) => match allO rs, e[i]? with
    | some os, some ⟨p, some o⟩ => match run o os with
      | some (res, o') => M.ret (res, e.set i ⟨p, some o'⟩)
      | none => none
    | _, _ => none
  | _ => none
/-- the slot i's item at k gets v -/
def vPut (i : Nat) (run : O → D → D → Option O) (fv fk : Vn → M (O × Vn)) : Vn → M (Fl × Vn) := fun env => M.bind (fv env) fun (ov, e1) => match ov with
  | .v dv => match e1[i]? with
    | some ⟨_, some _⟩ => M.bind (fk e1) fun (ok, e2) => match ok, e2[i]? with
      | .v dk, some ⟨p, some o⟩ => match run o dk dv with
        | some o' => M.ret (.nx, e2.set i ⟨p, some o'⟩)
        | none => none
      | _, _ => none
    | _ => none
  | _ => none

section
variable {G : Gt} {K : PySem.W.Frag} {W : WX} {X : Cx} {F H : Hp}
def MutOk (G : Gt) (K : PySem.W.Frag) (r : V → List V → Hp → VK → Prop) (run : O → List O → Option (O × O)) : Prop :=
  ∀ (F H : Hp) (v : V) (o : O) (a1 : List Addr) (vs : List V) (os : List O) (a2 : List Addr) (res o' : O) (Q : VK), Ex F H → RepO G K F H v o a1 → RepL G K F H vs os a2 → (∀ a ∈ a2, a ∉ a1) → run o os = some (res, o') →
    (∀ (w : V) (F' H' : Hp) (b1 b2 : List Addr), Step F H (a1 ++ a2) F' H' (b2 ++ b1) → RepO G K F' H' v o' b1 → RepO G K F' H' w res b2 → (∀ a ∈ b2, a ∉ b1) → Q w H') → r v vs H Q
theorem rd_mt {i : Nat} {t : TA} {g : Vn → M (List Lr × Vn)} {r0 : V → List V → Hp → VK → Prop} {run : O → List O → Option (O × O)} (h : RdA G K W t g) (ok : MutOk G K r0 run) : RdE G K W (tBM K "list" r0 (tVar i) t) (vMt i run g) := by
  intro σ0 σ F H env as r Q ex er he po
  unfold vMt at he
  split at he
  · rename_i p0 xs0 hx0
    obtain ⟨v, a1, h1, h2, _⟩ := er.mut hx0
    refine ⟨v, h1, ?_, ?_⟩
    · cases h2 with
      | l e1 e2 r2 => exact .inl ⟨rfl, _, .inl (.inl e1)⟩
    · rcases M.bind_some he with ⟨c, fs, e, rfl⟩ | ⟨⟨rs, e1⟩, e, q⟩
      · exact h σ0 σ F H env as _ _ ex er e po
      · refine h σ0 σ F H env as _ _ ex er e fun vs F1 H1 bs as1 st er1 r1 d => ?_
        dsimp only at q
        split at q
        · rename_i os p o ho hx
          split at q
          · rename_i res o' hr
            cases q
            obtain ⟨v', a3, g1, g2, g3, g4⟩ := er1.mut hx
            rw [h1] at g1
            cases g1
            refine ok F1 H1 v o a3 vs os bs res o' Q st.sub g2 (allO_ok r1 ho) (fun a m z => d a m (g3 a z)) hr fun w F2 H2 b1 b2 s2 r2 rw2 dd => ?_
            obtain ⟨as2, er2, s3, dj⟩ := g4 (fun a m => d a m) s2 r2 dd
            refine po w F2 H2 b2 as2 ?_ er2 rw2 dj
            have : Step F1 H1 (bs ++ as1) F2 H2 (b2 ++ as2) := s3.more fun b m => by
              rcases List.mem_append.mp m with m | m
              · exact List.mem_append_right _ m
              · exact List.mem_append_left _ m
            exact st.trans this
          · cases q
        · cases q
  · cases he
/-- xs.append(e) -/
def mAppend : O → List O → Option (O × O)
  | .l xs, [.v d] => if xs.length < sizeLine then some (.v .non, .l (xs ++ [d])) else none
  | _, _ => none
theorem RepL.one {vs : List V} {o : O} {a2 : List Addr} (h : RepL G K F H vs [o] a2) : ∃ v, vs = [v] ∧ RepO G K F H v o a2 := by
  cases h with
  | cons h1 h2 =>
    cases h2
    exact ⟨_, rfl, by simpa using h1⟩
theorem mo_append : MutOk G K rAppend mAppend := by
  intro F H v o a1 vs os a2 res o' Q ex r rl dj hr k
  unfold mAppend at hr
  split at hr
  · rename_i xs d
    split at hr
    · rename_i hz
      cases hr
      obtain ⟨w, rfl, rw1⟩ := rl.one
      cases rw1 with
      | v rw1 =>
        cases r with
        | l e1 e2 r2 =>
          rename_i a vs
          have hl : vs.length < sizeLine := by rw [r2.len]; exact hz
          refine ⟨a, vs, w, rfl, rfl, e1, hl, ?_⟩
          exact k .non F (upd H a (.lst (vs ++ [w]))) [a] [] ((Step.write ex e2 (by simp)).less fun b m => by simpa using m) (.l upd_same e2 (r2.app (.cons rw1 .nil))) (.v .non) fun a m => by simp at m
    · cases hr
  · cases hr
/-- xs.extend(new list) -/
def mExtend : O → List O → Option (O × O)
  | .l xs, [.l ys] => if xs.length + ys.length ≤ sizeLine then some (.v .non, .l (xs ++ ys)) else none
  | _, _ => none
theorem mo_extend : MutOk G K rExtend mExtend := by
  intro F H v o a1 vs os a2 res o' Q ex r rl dj hr k
  unfold mExtend at hr
  split at hr
  · rename_i xs d
    split at hr
    · rename_i hz
      cases hr
      obtain ⟨w, rfl, rw1⟩ := rl.one
      cases rw1 with
      | l f1 f2 f3 =>
        cases r with
        | l e1 e2 r2 =>
          rename_i b ws a vs
          have hl : vs.length + ws.length ≤ sizeLine := by rw [r2.len, f3.len]; exact hz
          refine ⟨a, b, vs, ws, rfl, rfl, e1, f1, hl, ?_⟩
          exact k .non F (upd H a (.lst (vs ++ ws))) [a] [] ((Step.write ex e2 (by simp)).less fun b m => by
            have : b = a := by simpa using m
            simp [this]) (.l upd_same e2 (r2.app f3)) (.v .non) fun a m => by simp at m
    · cases hr
  · cases hr
/-- xs.pop() -/
def mPop : O → List O → Option (O × O)
  | .l xs, [] => match xs[xs.length - 1]? with
    | some d => some (.v d, .l xs.dropLast)
    | none => none
  | _, _ => none
theorem mo_pop : MutOk G K rPop mPop := by
  intro F H v o a1 vs os a2 res o' Q ex r rl dj hr k
  unfold mPop at hr
  split at hr
  · rename_i xs
    split at hr
    · rename_i d hd
      cases hr
      cases rl
      cases r with
      | l e1 e2 r2 =>
        rename_i a vs
        rw [← r2.len] at hd
        obtain ⟨y, hy, ry⟩ := r2.get hd
        refine ⟨a, vs, y, rfl, rfl, e1, hy, ?_⟩
        exact k y F (upd H a (.lst vs.dropLast)) [a] [] ((Step.write ex e2 (by simp)).less fun b m => by simpa using m) (.l upd_same e2 r2.dropLast) (.v ry) fun a m => by simp at m
    · cases hr
  · cases hr
theorem ce_append {i : Nat} {x : Str} {e : Expr} {p0 apos cpos : Pos} {g : Vn → M (List Lr × Vn)} (hN : X.N[i]? = some x) (hv : Vis X.env.scope x) (ha : CA G X W [e] g) (hd : (x == ("__debug__" : Str)) = false := by decide) (hcd : (x == ("__classdict__" : Str)) = false := by decide)
    (hbase : attributeBase (.Name x p0) "append" X.env (eval (.Name x p0) X.env) = eval (.Name x p0) X.env := by rfl)
    (hfew : ((backTo cpos (starEach [e] X.env)).all (fun x => !x.1) && (backToKw cpos (keywordEach [] X.env)).all (fun x => x.1.isSome) && decide ([e].length + ([] : List Keyword).length + (if ([] : List Keyword).isEmpty then 0 else 1) < 30)) = true := by rfl)
    (hline : (apos.endLine == cpos.line) = true := by rfl) (hs : starEach [e] X.env = (false, eval e X.env) :: starEach [] X.env := by rfl) (hplain : (backTo cpos (starEach [] X.env)).any (·.1) = false := by rfl) :
    CE G X W (.Call (.Attribute (.Name x p0) "append" apos) [e] [] cpos) (vMt i mAppend g) := let ⟨_, p, r⟩ := ha; ⟨_, pe_bm PySem.F.plainAttrs_list PySem.F.slot_list_append PySem.F.type_list_append mt_append (pe_var hN hv hd hcd) p hbase hfew hline hs hplain, rd_mt r mo_append⟩
theorem ce_extend {i : Nat} {x : Str} {e : Expr} {p0 apos cpos : Pos} {g : Vn → M (List Lr × Vn)} (hN : X.N[i]? = some x) (hv : Vis X.env.scope x) (ha : CA G X W [e] g) (hd : (x == ("__debug__" : Str)) = false := by decide) (hcd : (x == ("__classdict__" : Str)) = false := by decide)
    (hbase : attributeBase (.Name x p0) "extend" X.env (eval (.Name x p0) X.env) = eval (.Name x p0) X.env := by rfl)
    (hfew : ((backTo cpos (starEach [e] X.env)).all (fun x => !x.1) && (backToKw cpos (keywordEach [] X.env)).all (fun x => x.1.isSome) && decide ([e].length + ([] : List Keyword).length + (if ([] : List Keyword).isEmpty then 0 else 1) < 30)) = true := by rfl)
    (hline : (apos.endLine == cpos.line) = true := by rfl) (hs : starEach [e] X.env = (false, eval e X.env) :: starEach [] X.env := by rfl) (hplain : (backTo cpos (starEach [] X.env)).any (·.1) = false := by rfl) :
    CE G X W (.Call (.Attribute (.Name x p0) "extend" apos) [e] [] cpos) (vMt i mExtend g) := let ⟨_, p, r⟩ := ha; ⟨_, pe_bm PySem.F.plainAttrs_list PySem.F.slot_list_extend PySem.F.type_list_extend mt_extend (pe_var hN hv hd hcd) p hbase hfew hline hs hplain, rd_mt r mo_extend⟩

/-! ### items stored -/
def SetOk (G : Gt) (K : PySem.W.Frag) (t : TSet) (run : O → D → D → Option O) : Prop :=
  ∀ (F H : Hp) (v : V) (o : O) (a1 : List Addr) (i w : V) (di dw : D) (o' : O) (Q : Hp → Prop), Ex F H → RepO G K F H v o a1 → Rep G K F i di → Rep G K F w dw → run o di dw = some o' →
    (∀ (F' H' : Hp) (b1 : List Addr), Step F H a1 F' H' b1 → RepO G K F' H' v o' b1 → Q H') → t v i w H Q
theorem rd_put {i : Nat} {tv tk : TE} {fv fk : Vn → M (O × Vn)} {t : TSet} {run : O → D → D → Option O} (h : RdE G K W tv fv) (k : RdE G K W tk fk) (ok : SetOk G K t run) : RdS G K W (tAsg tv (gSub (tVar i) tk t)) (vPut i run fv fk) := by
  intro σ0 σ F H env as r Ds ex er he po
  unfold vPut at he
  rcases M.bind_some he with ⟨c, fs, e, rfl⟩ | ⟨⟨ov, e1⟩, e, q⟩
  · exact h σ0 σ F H env as _ _ ex er e (po σ)
  · refine h σ0 σ F H env as _ _ ex er e fun w F1 H1 bs as1 st er1 r1 d => ?_
    dsimp only at q
    split at q
    · rename_i dv
      split at q
      · rename_i p0 o0 hx0
        obtain ⟨v, a1, h1, _⟩ := er1.mut hx0
        refine ⟨v, h1, ?_⟩
        have sA : Step F H as F1 H1 as1 := st.less fun b m => List.mem_append_right _ m
        rcases M.bind_some q with ⟨c, fs, e2, rfl⟩ | ⟨⟨okk, e3⟩, e2, q2⟩
        · exact k σ0 σ F1 H1 e1 as1 _ _ st.sub er1 e2 (PoX.step (po σ) sA)
        · refine k σ0 σ F1 H1 e1 as1 _ _ st.sub er1 e2 fun kv F2 H2 cs as2 st2 er2 r2 d2 => ?_
          dsimp only at q2
          split at q2
          · rename_i dk p o hx
            split at q2
            · rename_i o' hr
              cases q2
              obtain ⟨v', a3, g1, g2, g3, g4⟩ := er2.mut hx
              rw [h1] at g1
              cases g1
              cases r1 with
              | v r1 =>
                cases r2 with
                | v r2 =>
                  refine ok F2 H2 v o a3 kv w dk dv o' _ st2.sub g2 r2 (r1.mono st2.ex) hr fun F3 H3 b1 s3 r3 => ?_
                  obtain ⟨as3, er3, s4, _⟩ := g4 (a2 := []) (b2 := []) (fun a m => by simp at m) (s3.more fun b m => by simpa using m) r3 fun a m => by simp at m
                  exact po σ F3 H3 as3 ((sA.trans (st2.less fun b m => List.mem_append_right _ m)).trans (s4.more fun b m => by simpa using m)) er3
            · cases q2
          · cases q2
      · cases q
    · cases q
/-- xs[k] = v of a list, d[k] = v of a dict -/
def rSetDk : TSet := fun o i v H Q => ∃ a H', o = .ref a ∧ DPut H a i v H' ∧ Q H'
theorem set_dict (hu : X.A.units + 1 < cLine) : PSet X rSetDk := by
  intro pins s σ H o i v ov iv u Q I ro ri rv h
  obtain ⟨a, H', rfl, g, q⟩ := h
  cases ro
  exact d_setItem hu I g ri rv fun s' I' => ⟨H', I', q⟩
def rSetV : TSet := fun o i v H Q => rSetL o i v H Q ∨ rSetDk o i v H Q
theorem set_V (hu : X.A.units + 1 < cLine) : PSet X rSetV := by
  intro pins s σ H o i v ov iv u Q I ro ri rv h
  rcases h with h | h
  · exact L2.set_list pins s σ H o i v ov iv u Q I ro ri rv h
  · exact set_dict hu pins s σ H o i v ov iv u Q I ro ri rv h
def putKD (kvs : List (Key × D)) (k : Key) (v : D) : List (Key × D) := if (kvs.any fun kv => decide (kv.1 = k)) = true then kvs.map (fun kv => if kv.1 = k then (kv.1, v) else kv) else kvs ++ [(k, v)]
theorem RepK.any {ks : List (Key × V)} {ds : List (Key × D)} (k : Key) (h : RepK G K F ks ds) : (ks.any fun kv => decide (kv.1 = k)) = (ds.any fun kv => decide (kv.1 = k)) := by
  have : ∀ {ks : List (Key × V)} {ds : List (Key × D)}, RepK G K F ks ds → (ks.any fun kv => decide (kv.1 = k)) = (ds.any fun kv => decide (kv.1 = k)) := by
    intro ks
    induction ks with
    | nil =>
      intro ds h
      cases h
      rfl
    | cons p ks ih =>
      intro ds h
      cases h with
      | cons h1 h2 => rw [List.any_cons, List.any_cons, ih h2]
  exact this h
theorem RepK.app : ∀ {ks ls : List (Key × V)} {ds es : List (Key × D)}, RepK G K F ks ds → RepK G K F ls es → RepK G K F (ks ++ ls) (ds ++ es)
  | _, _, _, _, .nil, q => q
  | _, _, _, _, .cons h r, q => .cons h (r.app q)
theorem RepK.upd {v : V} {d : D} (k : Key) (r : Rep G K F v d) : ∀ {ks : List (Key × V)} {ds : List (Key × D)}, RepK G K F ks ds → RepK G K F (ks.map fun kv => if kv.1 = k then (kv.1, v) else kv) (ds.map fun kv => if kv.1 = k then (kv.1, d) else kv)
  | _, _, .nil => .nil
  | _, _, .cons (k := j) h q => by
    rw [List.map_cons, List.map_cons]
    dsimp only
    by_cases e : j = k
    · rw [if_pos e, if_pos e]
      exact .cons r (q.upd k r)
    · rw [if_neg e, if_neg e]
      exact .cons h (q.upd k r)
theorem RepK.put {v : V} {d : D} {ks : List (Key × V)} {ds : List (Key × D)} (k : Key) (r : Rep G K F v d) (h : RepK G K F ks ds) : RepK G K F (putK ks k v) (putKD ds k d) := by
  unfold putK putKD
  rw [h.any k]
  split
  · exact h.upd k r
  · exact h.app (.cons r .nil)
def sPut : O → D → D → Option O
  | .l xs, .int i, d => match ixN xs.length i with
    | some j => some (.l (xs.set j d))
    | none => none
  | .d kvs, dk, d => match dk.key with
    | some k => if kvs.length < sizeLine then some (.d (putKD kvs k d)) else none
    | none => none
  | _, _, _ => none
theorem Rep.key {v : V} {d : D} {k : Key} (h : Rep G K F v d) (e : d.key = some k) : v = kV k := by
  unfold D.key at e
  split at e
  · cases e
    cases h
    rfl
  · cases e
    cases h
    rfl
  · cases e
theorem so_put : SetOk G K rSetV sPut := by
  intro F H v o a1 i w di dw o' Q ex r ri rw1 hr k
  unfold sPut at hr
  split at hr
  · split at hr
    · rename_i xs ii j hj
      cases hr
      cases ri
      cases r with
      | l e1 e2 r2 =>
        rename_i a vs
        rw [← r2.len] at hj
        exact .inl ⟨a, vs, _, j, rfl, rfl, e1, hj, k F _ [a] (Step.write ex e2 (by simp)) (.l upd_same e2 (r2.set rw1 j))⟩
    · cases hr
  · split at hr
    · rename_i kk hk
      split at hr
      · rename_i hz
        cases hr
        cases ri.key hk
        cases r with
        | d e1 e2 r2 =>
          rename_i a ks
          exact .inr ⟨a, _, rfl, .inl ⟨ks, kk, e1, rfl, by rw [r2.len]; exact hz, rfl⟩, k F _ [a] (Step.write ex e2 (by simp)) (.d upd_same e2 (r2.put kk rw1))⟩
      · cases hr
    · cases hr
  · cases hr
theorem cs_put {i : Nat} {x : Str} {e ke : Expr} {p0 p1 pos : Pos} {fv fk : Vn → M (O × Vn)} (ck : Cok X W) (hN : X.N[i]? = some x) (hv : Vis X.env.scope x) (h : CE G X W e fv) (hk : CE G X W ke fk) (hd : (x == ("__debug__" : Str)) = false := by decide) (hcd : (x == ("__classdict__" : Str)) = false := by decide)
    (ha : ∀ v, assign (.Subscript (.Name x p0) ke p1) X.env v = (do
      let ov ← holding [v] (eval (.Name x p0) X.env)
      let iv ← holding [v, ov] (eval ke X.env)
      standAt p1
      holding [v, ov, iv] (setItem ov iv v)
      release [v, ov, iv] []) := by intro _; rfl)
    (hs : swapsWithSole [.Subscript (.Name x p0) ke p1] e pos.line X.env = pure false := by rfl) (hw : swappedStores [.Subscript (.Name x p0) ke p1] e X.env = pure none := by rfl)
    (h1 : (assignEach [.Subscript (.Name x p0) ke p1] X.env).map (·.2) = [assign (.Subscript (.Name x p0) ke p1) X.env] := by rfl) :
    CS G X W (.Assign [.Subscript (.Name x p0) ke p1] e pos) (vPut i sPut fv fk) := let ⟨_, p, r⟩ := h; let ⟨_, q, s⟩ := hk; ⟨_, ps_asg p (pg_sub (pe_var hN hv hd hcd) q (set_V (by have := ck.un; omega)) ha) hs hw h1, rd_put r s so_put⟩
end
end Vi

set_option Elab.async false
set_option linter.all false
set_option maxRecDepth 100000
set_option maxHeartbeats 2000000
/-! Vi15: displays of dicts, isinstance, own objects: made, their attributes. -/
namespace Vi
open PySem PySem.Spec L2

/-! ### displays of dicts -/
/-- the pairs, keys written texts -/
def vPairs : List (Key × (Vn → M (O × Vn))) → Vn → M (List (Key × D) × Vn)
  | [], env => M.ret ([], env)
  | (k, f) :: r, env => M.bind (f env) fun (o, e) => match o with
    | .v d => M.bind (vPairs r e) fun (kvs, e2) => M.ret ((k, d) :: kvs, e2)
    | _ => none
def putAllD (kvs more : List (Key × D)) : List (Key × D) := more.foldl (fun acc kv => putKD acc kv.1 kv.2) kvs
def vDisp (ps : List (Key × (Vn → M (O × Vn)))) : Vn → M (O × Vn) := fun env => M.bind (vPairs ps env) fun (kvs, e) => M.ret (.d (putAllD [] kvs), e)
section
variable {G : Gt} {K : PySem.W.Frag} {W : WX} {X : Cx} {F H : Hp}
theorem RepK.putAll : ∀ {more : List (Key × V)} {ms : List (Key × D)} {ks : List (Key × V)} {ds : List (Key × D)}, RepK G K F ks ds → RepK G K F more ms → RepK G K F (mergeK ks more) (putAllD ds ms)
  | _, _, _, _, h, .nil => h
  | _, _, _, _, h, .cons (k := k) r q => (RepK.putAll (h.put k r) q : RepK G K F (mergeK (putK _ k _) _) (putAllD (putKD _ k _) _))
/-- the readings of the pairs -/
inductive PrOk (G : Gt) (K : PySem.W.Frag) (W : WX) : List (TE × TE) → List (Key × (Vn → M (O × Vn))) → Prop
  | nil : PrOk G K W [] []
  | cons {k : Key} {tv : TE} {f : Vn → M (O × Vn)} {trs : List (TE × TE)} {ps : List (Key × (Vn → M (O × Vn)))} : RdE G K W tv f → PrOk G K W trs ps → PrOk G K W ((tC (kV k), tv) :: trs) ((k, f) :: ps)
theorem rd_pairs : ∀ {trs : List (TE × TE)} {ps : List (Key × (Vn → M (O × Vn)))}, PrOk G K W trs ps → ∀ (σ0 σ : L2.St) (F H : Hp) (env : Vn) (as : List Addr) (r : R (List (Key × D) × Vn)) (Q : List (V × V) → Hp → Prop), Ex F H → EnvR G K F H σ0 σ env as → vPairs ps env = some r →
    (match r with
      | .ok (kvs, env') => ∀ (vks : List (Key × V)) (F' H' : Hp) (as' : List Addr), Step F H as F' H' as' → EnvR G K F' H' σ0 σ env' as' → RepK G K F' vks kvs → Q (vks.map fun kv => (kV kv.1, kv.2)) H'
      | .ex c fs => PoX G K W F H as σ c fs) → tPairs trs σ H Q
  | _, _, .nil, σ0, σ, F, H, env, as, r, Q, ex, er, he, po => by
    cases he
    exact po [] F H as (Step.refl ex) er .nil
  | _, _, .cons (k := k) (f := f) (ps := ps) h hr, σ0, σ, F, H, env, as, r, Q, ex, er, he, po => by
    unfold vPairs at he
    show tPairs ((tC (kV k), _) :: _) σ H Q
    unfold tPairs
    rcases M.bind_some he with ⟨c, fs, e, rfl⟩ | ⟨⟨o, e1⟩, e, q⟩
    · exact h σ0 σ F H env as _ _ ex er e po
    · refine h σ0 σ F H env as _ _ ex er e fun v F1 H1 bs as1 st er1 r1 d => ?_
      have sA : Step F H as F1 H1 as1 := st.less fun b m => List.mem_append_right _ m
      dsimp only at q
      split at q
      · rename_i dd
        rcases M.bind_some q with ⟨c, fs, e2, rfl⟩ | ⟨⟨kvs, e3⟩, e2, q2⟩
        · exact rd_pairs hr σ0 σ F1 H1 e1 as1 _ _ st.sub er1 e2 (PoX.step po sA)
        · cases q2
          refine rd_pairs hr σ0 σ F1 H1 e1 as1 _ _ st.sub er1 e2 ?_
          intro vks F' H' as' s2 er2 rk
          cases r1 with
          | v r1 => exact po ((k, v) :: vks) F' H' as' (sA.trans s2) er2 (.cons (r1.mono s2.ex) rk)
      · cases q
theorem rd_disp {trs : List (TE × TE)} {ps : List (Key × (Vn → M (O × Vn)))} (h : PrOk G K W trs ps) (h15 : ps.length ≤ 15) (hl : ∀ env kvs e, vPairs ps env = some (.ok (kvs, e)) → kvs.length = ps.length) : RdE G K W (tDisp trs) (vDisp ps) := by
  intro σ0 σ F H env as r Q ex er he po
  unfold vDisp at he
  intro p hp
  have s1 : Step F H [] F (upd H p (.dK [])) [p] := Step.newO ex hp
  have er1 := s1.frameE er fun x _ z => by simp at z
  have np : p ∉ as := fun m => by
    obtain ⟨_, u, hu⟩ := er.off p m
    rw [hp] at hu
    cases hu
  have sE : Step F H as F (upd H p (.dK [])) (p :: as) := ⟨s1.ex, s1.sub, fun b u h n => s1.keep b u h (by simp), fun b m => by
    rcases List.mem_cons.mp m with z | z
    · exact .inr (by rw [z]; exact hp)
    · exact .inl z, fun b u h => .inl h⟩
  rcases M.bind_some he with ⟨c, fs, e, rfl⟩ | ⟨⟨kvs, e1⟩, e, q⟩
  · exact rd_pairs h σ0 σ F _ env as _ _ s1.sub er1 e (PoX.step po (sE.less fun b m => List.mem_cons_of_mem _ m))
  · cases q
    refine rd_pairs h σ0 σ F _ env as _ _ s1.sub er1 e ?_
    intro vks F' H' as' s2 er2 rk
    obtain ⟨t2, l2, f2, n2⟩ := s2.withO (p := p) (u := .dK []) upd_same (ex.back hp) np
    refine ⟨l2, vks, rfl, by rw [rk.len, hl _ _ _ e]; exact h15, ?_⟩
    have sW : Step F' H' (p :: as') F' (upd H' p (.dK (mergeK [] vks))) (p :: as') := Step.write s2.sub f2 List.mem_cons_self
    refine po (.ref p) F' _ [p] as' ((sE.trans (t2.trans sW)).less fun b m => ?_) ?_ (.d upd_same f2 (RepK.putAll .nil rk)) fun a m z => ?_
    · rcases List.mem_append.mp m with z | z
      · exact List.mem_cons.mpr (.inl (by simpa using z))
      · exact List.mem_cons_of_mem _ z
    · refine er2.frame (Ex.refl F') (fun a m u h => ?_) fun a m => (er2.off a m).1
      rw [upd_ne (fun z => n2 (by rw [← z]; exact m))]
      exact h
    · have : a = p := by simpa using m
      subst this
      exact n2 z
theorem vPairs_len : ∀ {ps : List (Key × (Vn → M (O × Vn)))} {env : Vn} {kvs : List (Key × D)} {e : Vn}, vPairs ps env = some (.ok (kvs, e)) → kvs.length = ps.length
  | [], _, _, _, h => by
    cases h
    rfl
  | (k, f) :: ps, env, kvs, e, h => by
    unfold vPairs at h
    rcases M.bind_some h with ⟨c, fs, e1, e2⟩ | ⟨⟨o, e1⟩, _, q⟩
    · cases e2
    · dsimp only at q
      split at q
      · rcases M.bind_some q with ⟨c, fs, e3, e4⟩ | ⟨⟨kvs', e3⟩, h3, q2⟩
        · cases e4
        · cases q2
          exact congrArg Nat.succ (vPairs_len h3)
      · cases q
/-- keys and values of a display -/
inductive CPs (G : Gt) (X : Cx) (W : WX) (pos : Pos) : List (Option Expr) → List Expr → List (Key × (Vn → M (O × Vn))) → Prop
  | nil : CPs G X W pos [] [] []
  | str {s : Str} {j} {p : Pos} {e : Expr} {ks : List (Option Expr)} {es : List Expr} {f : Vn → M (O × Vn)} {ps : List (Key × (Vn → M (O × Vn)))} : CE G X W e f → CPs G X W pos ks es ps → CPs G X W pos (some (.Constant (.str s) j p) :: ks) (e :: es) ((.inr s, f) :: ps)
theorem CPs.get {pos : Pos} {ks : List (Option Expr)} {es : List Expr} {ps : List (Key × (Vn → M (O × Vn)))} (h : CPs G X W pos ks es ps) : ∃ trs, PPs X pos ks es trs ∧ PrOk G X.K W trs ps ∧ ks.length = ps.length ∧ es.length = ps.length ∧ ks.all (·.isSome) = true := by
  induction h with
  | nil => exact ⟨[], pps_nil, .nil, rfl, rfl, rfl⟩
  | str h _ ih =>
    obtain ⟨trs, p, r, l1, l2, al⟩ := ih
    obtain ⟨t, p1, r1⟩ := h
    exact ⟨_, pps_cons pe_str p1 p, .cons (k := .inr _) r1 r, congrArg Nat.succ l1, congrArg Nat.succ l2, by rw [List.all_cons, al]; rfl⟩
theorem ce_disp {pos : Pos} {ks : List (Option Expr)} {es : List Expr} {ps : List (Key × (Vn → M (O × Vn)))} (h : CPs G X W pos ks es ps) (h0 : ks ≠ []) (h15 : ks.length ≤ 15) : CE G X W (.Dict ks es pos) (vDisp ps) := by
  obtain ⟨trs, p, r, l1, l2, al⟩ := h.get
  exact ⟨_, pe_disp p al (by rw [l1, l2]) h0 h15, rd_disp r (by rw [← l1]; exact h15) fun _ _ _ => vPairs_len⟩
theorem rd_dnew : RdE G K W tDNewK (fun env => M.ret (.d [], env)) := by
  intro σ0 σ F H env as r Q ex er he po
  cases he
  intro p hp
  have s1 : Step F H [] F (upd H p (.dK [])) [p] := Step.newO ex hp
  refine po (.ref p) F _ [p] as ((s1.beside as).less fun b m => m) (s1.frameE er fun x _ z => by simp at z) (.d upd_same (ex.back hp) .nil) fun a m z => ?_
  have : a = p := by simpa using m
  subst this
  obtain ⟨_, u, hu⟩ := er.off _ z
  rw [hp] at hu
  cases hu
theorem ce_dnew {pos : Pos} : CE G X W (.Dict [] [] pos) (fun env => M.ret (.d [], env)) := ⟨_, pe_dnewK, rd_dnew⟩

/-! ### isinstance -/
inductive Tg where
  | non | bl | int | str | tup | lst | dic
  | obj (c : Nat)
def D.tg : D → Option Tg
  | .non => some .non
  | .bl _ => some .bl
  | .int _ => some .int
  | .str _ => some .str
  | .tup _ => some .tup
  | .lst _ => some .lst
  | .dic _ => some .dic
  | .dit _ => some .dic
  | .obj c _ => some (.obj c)
  | .fn _ => none
def tgV (G : Gt) : Tg → Value
  | .non => .type "NoneType"
  | .bl => .type "bool"
  | .int => .type "int"
  | .str => .type "str"
  | .tup => .type "tuple"
  | .lst => .type "list"
  | .dic => .type "dict"
  | .obj c => .ref (G.cls c)
/-- what an own class must have for its instances to be asked for their class -/
structure OwnC (K : PySem.W.Frag) (C : Addr) : Prop where
  cl : Cls K C
  ha : PySem.W.findIn K (.ref C) "__class__" = some (some (.builtin "object.__class__"))
  hn : PySem.W.specialIn K (.builtin "object.__class__") "__get__" = some (some (.builtin "getset_descriptor.__get__"))
  htk : PySem.W.takesIn K (.builtin "object.__class__") = some true
  hm : PySem.W.mroIn K C (.type "object") = some true
theorem Vw.ty {v : V} {d : D} {t : Tg} (ex : Ex F H) (h : Vw G K F H v d) (e : d.tg = some t) (ho : ∀ c, t = .obj c → OwnC K (G.cls c)) : TyX K H v (tgV G t) := by
  have seqT : ∀ {a : Addr} {vs : List V}, SqT K H a vs → TyX K H (.ref a) (.type "tuple") := fun {a vs} q => by
    rcases q with (q | ⟨o, q⟩) | ⟨o, its, n, q, qc, _⟩
    · exact .base (.tup q)
    · exact .fTuple q
    · exact .kTuple q qc
  have seqL : ∀ {a : Addr} {vs : List V}, Rd H a (.lst vs) → TyX K H (.ref a) (.type "list") := fun {a vs} q => by
    rcases q with q | ⟨o, q⟩
    · exact .base (.lst q)
    · exact .base (.frz q)
  have insT : ∀ {a dx : Addr} {c : Nat} {fs : List (Str × V)}, t = .obj c → H a = some (.ins (G.cls c) dx fs) → TyX K H (.ref a) (.ref (G.cls c)) := fun {a dx c fs} z q => by
    have o := ho c z
    exact .base (.ins q o.cl o.ha o.hn o.htk o.hm)
  obtain ⟨ob, as, r, q⟩ := h
  subst q
  cases r with
  | v r =>
    cases r with
    | non => cases e; exact .base .non
    | bl b => cases e; exact .base (.bl b)
    | int i => cases e; exact .base (.int i)
    | str s => cases e; exact .base (.str s)
    | tup h r => cases e; exact seqT (ex.t h)
    | lst h r => cases e; exact seqL (ex.rd h)
    | dic h r => cases e; exact .base (.dK (ex _ _ h))
    | dit h r => cases e; exact .base (.dT (ex _ _ h))
    | obj h r => cases e; exact insT rfl (ex _ _ h)
    | fn f => cases e
  | l h1 h2 r => cases e; exact seqL (.inl h1)
  | d h1 h2 r => cases e; exact .base (.dK h1)
  | t h1 h2 r => cases e; exact .base (.dT h1)
  | o h1 h2 r m => cases e; exact insT rfl h1
/-- by the class that is asked for: what each kind of thing answers -/
def fIsi (tab : Tg → Option Bool) : List D → Option O
  | [d] => match d.tg with
    | some t => (tab t).map fun b => .v (.bl b)
    | none => none
  | _ => none
structure IsiOk (G : Gt) (K : PySem.W.Frag) (u : Value) (tab : Tg → Option Bool) : Prop where
  kit : ∀ t b, tab t = some b → PySem.W.kitOne K (tgV G t) u = some b
  own : ∀ c b, tab (.obj c) = some b → OwnC K (G.cls c)
theorem ok_isi {c : V} {u : Value} {tab : Tg → Option Bool} (hc : ClsV c u) (io : IsiOk G K u tab) : OpOk G K (fun vs H Q => match vs with
    | [x] => rIsi K [x, c] H Q
    | _ => False) (fIsi tab) := by
  intro F H vs ds o Q ex hv hr k
  unfold fIsi at hr
  split at hr
  · obtain ⟨x, rfl, h1⟩ := hv.one
    split at hr
    · rename_i t ht
      obtain ⟨b, hb, e⟩ := Option.map_eq_some_iff.mp hr
      subst e
      exact ⟨x, c, tgV G t, u, b, rfl, hc, h1.ty ex ht (fun n z => by subst z; exact io.own n b hb), io.kit t b hb, toV ex k (.bl b)⟩
    · cases hr
  · cases hr
theorem ce_isi {a ce : Expr} {p1 pos : Pos} {c : V} {u : Value} {tab : Tg → Option Bool} {ha : (Vn → M (List Lr × Vn)) → Vn → M (List Lr × Vn)} (io : IsiOk G X.K u tab) (hc : ClsV c u) (h1 : CO G X W a ha) (pc : PE X ce (tC c)) (hg : Gl X "isinstance") (hm : X.mg "isinstance" = none)
    (hs1 : starEach [a, ce] X.env = (false, eval a X.env) :: starEach [ce] X.env := by rfl) (hs2 : starEach [ce] X.env = (false, eval ce X.env) :: starEach [] X.env := by rfl) (hpl : (backTo pos (starEach [ce] X.env)).any (·.1) = false := by rfl) :
    CE G X W (.Call (.Name "isinstance" p1) [a, ce] [] pos) (vOp (fIsi tab) (ha vNil)) := by
  obtain ⟨ta, p, k⟩ := h1
  have r : RdE G X.K W (tCB (rIsi X.K) (tCons ta (tCons (tC c) tNil))) (vOp (fIsi tab) (ha vNil)) := rd_op (t := tCons ta tNil) (r0 := fun vs H Q => match vs with
    | [x] => rIsi X.K [x, c] H Q
    | _ => False) (k _ _ rd_nil) (ok_isi hc io)
  exact ⟨_, pe_callB call_isi hg hm (by decide +kernel) (pa_cons p (pa_cons pc pa_nil hs2) hs1) (by decide) (by decide) hs1 hpl, r⟩
end
end Vi

set_option Elab.async false
set_option linter.all false
set_option maxRecDepth 100000
set_option maxHeartbeats 2000000
/-! Vi16: own objects: made, attributes read and set. -/
namespace Vi
open PySem PySem.Spec L2

/-- of which classes which attributes may be asked -/
structure AccOk (G : Gt) (K : PySem.W.Frag) (acc : Nat → Str → Bool) : Prop where
  ok : ∀ c f, acc c f = true → Cls K (G.cls c) ∧ NoAttr K (G.cls c) f
def putO (f : Str) (o : O) : List (Str × O) → List (Str × O)
  | [] => [(f, o)]
  | (g, x) :: r => if g = f then (g, o) :: r else (g, x) :: putO f o r
/-- an attribute -/
def vAt (acc : Nat → Str → Bool) (f : Str) (g : Vn → M (List Lr × Vn)) : Vn → M (O × Vn) := fun env => M.bind (g env) fun (rs, e) => match rs with
  | [.t (.v (.obj c ds))] => if acc c f then (match ds.lookup f with
    | some d => M.ret (.v d, e)
    | none => none) else none
  | [.s i] => match e[i]? with
    | some ⟨_, some (.v (.obj c ds))⟩ => if acc c f then (match ds.lookup f with
      | some d => M.ret (.v d, e)
      | none => none) else none
    | some ⟨p, some (.o c os)⟩ => if acc c f then (match os.lookup f with
      | some o => M.ret (.v o.fz, e.set i ⟨p, some (.o c (putO f (.v o.fz) os))⟩)
      | none => none) else none
    | _ => none
  | _ => none
/-- an attribute set -/
def vFs (acc : Nat → Str → Bool) (i : Nat) (f : Str) (fv : Vn → M (O × Vn)) : Vn → M (Fl × Vn) := fun env => M.bind (fv env) fun (ov, e) => match e[i]? with
  | some ⟨p, some (.o c os)⟩ => if acc c f && decide (os.length < 1000) then M.ret (.nx, e.set i ⟨p, some (.o c (putO f ov os))⟩) else none
  | _ => none
/-- an object made -/
def vMake (c : Nat) (f : Vn → M (O × Vn)) (g : Vn → M (List Lr × Vn)) : Vn → M (O × Vn) := fun env => M.bind (g env) fun (rs, e) => match lend e rs with
  | none => none
  | some (ps, e1) => M.bind (f (⟨true, some (.o c [])⟩ :: ps)) fun (o, ps') => match o, ps' with
    | .v .non, ⟨true, some ob⟩ :: ps2 => match giveBack e1 rs ps2 with
      | none => none
      | some e2 => M.ret (ob, e2)
    | _, _ => none

section
variable {G : Gt} {K : PySem.W.Frag} {W : WX} {X : Cx} {F H : Hp}
theorem RepOs.lookup {f : Str} {o : O} : ∀ {vs : List (Str × V)} {os : List (Str × O)} {as : List Addr}, RepOs G K F H vs os as → os.lookup f = some o → ∃ v a1, vs.lookup f = some v ∧ RepO G K F H v o a1 ∧ ∀ a ∈ a1, a ∈ as
  | _, _, _, .nil, e => by simp at e
  | (k, v) :: vs, _ :: os, _, .cons (as := c1) r q d, e => by
    rw [List.lookup_cons] at e ⊢
    cases hb : f == k with
    | true =>
      rw [hb] at e
      simp only [Option.some.injEq] at e
      subst e
      exact ⟨v, c1, rfl, r, fun a m => List.mem_append_left _ m⟩
    | false =>
      rw [hb] at e
      obtain ⟨v', a1, h1, h2, h3⟩ := q.lookup e
      exact ⟨v', a1, h1, h2, fun a m => List.mem_append_right _ (h3 a m)⟩
theorem RepOs.put {f : Str} {v : V} {o : O} {b1 : List Addr} (r : RepO G K F H v o b1) : ∀ {vs : List (Str × V)} {os : List (Str × O)} {as : List Addr}, RepOs G K F H vs os as → (∀ a ∈ b1, a ∉ as) → ∃ cs, RepOs G K F H (putF f v vs) (putO f o os) cs ∧ ∀ a ∈ cs, a ∈ b1 ∨ a ∈ as
  | _, _, _, .nil, _ => ⟨b1 ++ [], .cons r .nil (fun a m z => by simp at z), fun a m => by simpa using m⟩
  | (k, w) :: vs, _ :: os, _, .cons (as := c1) (bs := c2) r1 q d, dj => by
    unfold putF putO
    by_cases e : k = f
    · rw [if_pos e, if_pos e]
      exact ⟨b1 ++ c2, .cons r q (fun a m z => dj a m (List.mem_append_right _ z)), fun a m => (List.mem_append.mp m).imp id fun z => List.mem_append_right _ z⟩
    · rw [if_neg e, if_neg e]
      obtain ⟨cs, h1, h2⟩ := q.put r fun a m z => dj a m (List.mem_append_right _ z)
      refine ⟨c1 ++ cs, .cons r1 h1 fun a m z => ?_, fun a m => ?_⟩
      · rcases h2 a z with z | z
        · exact dj a z (List.mem_append_left _ m)
        · exact d a m z
      · rcases List.mem_append.mp m with m | m
        · exact .inr (List.mem_append_left _ m)
        · exact (h2 a m).imp id fun z => List.mem_append_right _ z
theorem RepOs.len : ∀ {vs : List (Str × V)} {os : List (Str × O)} {as : List Addr}, RepOs G K F H vs os as → vs.length = os.length
  | _, _, _, .nil => rfl
  | _, _, _, .cons _ q _ => congrArg Nat.succ q.len
/-- a field frozen where it stands: the same values -/
theorem putF_same {f : Str} {v : V} : ∀ {vs : List (Str × V)}, vs.lookup f = some v → putF f v vs = vs
  | [], e => by simp at e
  | (k, w) :: vs, e => by
    rw [List.lookup_cons] at e
    unfold putF
    cases hb : f == k with
    | true =>
      rw [hb] at e
      have : f = k := by simpa using hb
      subst this
      simp only [Option.some.injEq] at e
      subst e
      rw [if_pos rfl]
    | false =>
      rw [hb] at e
      have ne : ¬ k = f := fun z => by
        subst z
        simp at hb
      rw [if_neg ne, putF_same e]
theorem RepOs.freeze {f : Str} {o : O} (ex : Ex F H) : ∀ {vs : List (Str × V)} {os : List (Str × O)} {as : List Addr}, RepOs G K F H vs os as → os.lookup f = some o →
    ∃ w a2 ds, vs.lookup f = some w ∧ RepO G K F H w o a2 ∧ (∀ b ∈ a2, b ∈ as) ∧ RepOs G K (froze F H a2) H vs (putO f (.v o.fz) os) ds ∧ ∀ b ∈ ds, b ∈ as ∧ b ∉ a2
  | _, _, _, .nil, e => by simp at e
  | (k, v) :: vs, _ :: os, _, .cons (as := c1) (bs := c2) r q d, e => by
    rw [List.lookup_cons] at e
    unfold putO
    cases hb : f == k with
    | true =>
      rw [hb] at e
      have : f = k := by simpa using hb
      subst this
      simp only [Option.some.injEq] at e
      subst e
      rw [if_pos rfl]
      have fx : Ex F (froze F H c1) := froze_ex fun a m => (r.off a m).1
      refine ⟨v, c1, [] ++ c2, by rw [List.lookup_cons, hb], r, fun b m => List.mem_append_left _ m, .cons (.v (r.froz fx froze_at)) (q.frame fx (fun _ _ _ h => h) fun a m => ?_) fun a m => by simp at m, fun b m => ⟨List.mem_append_right _ (by simpa using m), fun z => d b z (by simpa using m)⟩⟩
      rw [froze_off fun z => d a z m]
      exact (q.off a m).1
    | false =>
      rw [hb] at e
      have ne : ¬ k = f := fun z => by
        subst z
        simp at hb
      rw [if_neg ne]
      obtain ⟨w, a2, ds, h1, h2, h3, h4, h5⟩ := q.freeze ex e
      have fx : Ex F (froze F H a2) := froze_ex fun a m => (h2.off a m).1
      refine ⟨w, a2, c1 ++ ds, by rw [List.lookup_cons, hb]; exact h1, h2, fun b m => List.mem_append_right _ (h3 b m), .cons (r.frame fx (fun _ _ _ h => h) fun a m => ?_) h4 fun a m z => d a m (h5 a z).1, fun b m => ?_⟩
      · rw [froze_off fun z => d a m (h3 a z)]
        exact (r.off a m).1
      · rcases List.mem_append.mp m with m | m
        · exact ⟨List.mem_append_left _ m, fun z => d b m (h3 b z)⟩
        · exact ⟨List.mem_append_right _ (h5 b m).1, (h5 b m).2⟩
theorem rd_at {acc : Nat → Str → Bool} {f : Str} {te : TE} {g : Vn → M (List Lr × Vn)} (ao : AccOk G K acc) (h : RdA G K W (tCons te tNil) g) : RdE G K W (tFld K te f) (vAt acc f g) := by
  intro σ0 σ F H env as r Q ex er he po
  unfold vAt at he
  show tCons te tNil σ H fun vs H1 => match vs with
    | [x] => ∃ a C dx fs v, x = .ref a ∧ H1 a = some (.ins C dx fs) ∧ Cls K C ∧ NoAttr K C f ∧ fs.lookup f = some v ∧ Q v H1
    | _ => True
  rcases M.bind_some he with ⟨c, fs, e, rfl⟩ | ⟨⟨rs, e1⟩, e, q⟩
  · exact h σ0 σ F H env as _ _ ex er e po
  · refine h σ0 σ F H env as _ _ ex er e fun vs F1 H1 bs as1 st er1 r1 d => ?_
    dsimp only at q
    have sA : Step F H as F1 H1 ([] ++ as1) := st.less fun b m => List.mem_append_right _ (by simpa using m)
    have data : ∀ {a : Addr} {c : Nat} {ds : List (Str × D)}, Rep G K F1 (.ref a) (.obj c ds) → (if acc c f then (match ds.lookup f with
      | some d => M.ret (.v d, e1)
      | none => none) else none : M (O × Vn)) = some r → ∃ a' C dx fs v, V.ref a = .ref a' ∧ H1 a' = some (.ins C dx fs) ∧ Cls K C ∧ NoAttr K C f ∧ fs.lookup f = some v ∧ Q v H1 := fun {a c ds} ro q => by
      cases hac : acc c f with
      | false =>
        rw [hac] at q
        cases q
      | true =>
        rw [hac, if_pos rfl] at q
        split at q
        · rename_i dd hd
          cases q
          cases ro with
          | obj hF rf =>
            obtain ⟨v, l, rv⟩ := rf.lookup hd
            obtain ⟨c1, c2⟩ := ao.ok _ _ hac
            exact ⟨a, _, _, _, v, rfl, st.sub _ _ hF, c1, c2, l, po v F1 H1 [] as1 sA er1 (.v rv) fun a m => by simp at m⟩
        · cases q
    split at q
    · cases r1 with
      | t ro r1 dd =>
        cases r1
        cases ro with
        | v ro =>
          cases ro with
          | obj hF rf => exact data (.obj hF rf) q
    · rename_i i
      cases r1 with
      | s hs r1 =>
        cases r1
        split at q
        · rename_i p c ds hx
          obtain ⟨v, a1, g1, g2, _⟩ := er1.mut hx
          rw [hs] at g1
          cases g1
          cases g2 with
          | v g2 =>
            cases g2 with
            | obj hF rf => exact data (.obj hF rf) q
        · rename_i p c os hx
          cases hac : acc c f with
          | false =>
            rw [hac] at q
            cases q
          | true =>
            rw [hac, if_pos rfl] at q
            split at q
            · rename_i o ho
              cases q
              obtain ⟨v, a1, g1, g2, g3, g4⟩ := er1.mut hx
              rw [hs] at g1
              cases g1
              cases g2 with
              | o k1 k2 k3 k4 =>
                rename_i a dx fs as3
                obtain ⟨w, a2, ds, l, rw', m2, rs, md⟩ := k3.freeze st.sub ho
                obtain ⟨c1, c2⟩ := ao.ok _ _ hac
                have na : a ∉ a2 := fun z => k4 (m2 _ z)
                obtain ⟨st2, rp⟩ := fz_step st.sub rw' (as := a :: as3) (fun b m => List.mem_cons_of_mem _ (m2 b m)) (bs := a :: ds) fun b m => by
                  rcases List.mem_cons.mp m with z | z
                  · exact List.mem_cons.mpr (.inl z)
                  · exact List.mem_cons_of_mem _ (md b z).1
                obtain ⟨as4, er4, s4, _⟩ := g4 (a2 := []) (b2 := []) (o' := .o c (putO f (.v o.fz) os)) (b1 := a :: ds) (fun a m => by simp at m) (st2.more fun b m => List.mem_append_left _ m) (.o k1 (by rw [froze_off na]; exact k2) rs fun m => k4 (md _ m).1) fun a m => by simp at m
                refine ⟨a, _, _, fs, w, rfl, k1, c1, c2, l, po w _ H1 [] as4 (sA.trans ((s4.more fun b m => by simpa using m).less fun b m => by simpa using m)) er4 (.v rp) fun a m => by simp at m⟩
            · cases q
        · cases q
    · cases q
theorem ce_at {acc : Nat → Str → Bool} {f : Str} {e : Expr} {pos : Pos} {ha : (Vn → M (List Lr × Vn)) → Vn → M (List Lr × Vn)} (ao : AccOk G X.K acc) (h : CO G X W e ha) (hb : attributeBase e f X.env (eval e X.env) = eval e X.env := by rfl) : CE G X W (.Attribute e f pos) (vAt acc f (ha vNil)) := let ⟨_, p, k⟩ := h; ⟨_, pe_fld p hb, rd_at ao (k _ _ rd_nil)⟩
theorem rd_fs {acc : Nat → Str → Bool} {i : Nat} {f : Str} {tv : TE} {fv : Vn → M (O × Vn)} (ao : AccOk G K acc) (h : RdE G K W tv fv) : RdS G K W (sFld K (tVar i) tv f) (vFs acc i f fv) := by
  intro σ0 σ F H env as r Ds ex er he po
  unfold vFs at he
  rcases M.bind_some he with ⟨c, fs, e, rfl⟩ | ⟨⟨ov, e1⟩, e, q⟩
  · exact h σ0 σ F H env as _ _ ex er e (po σ)
  · refine h σ0 σ F H env as _ _ ex er e fun v F1 H1 bs as1 st er1 r1 d => ?_
    dsimp only at q
    split at q
    · rename_i p c os hx
      split at q
      · rename_i hc
        cases q
        rw [Bool.and_eq_true, decide_eq_true_eq] at hc
        obtain ⟨c1, c2⟩ := ao.ok _ _ hc.1
        obtain ⟨x, a1, g1, g2, g3, g4⟩ := er1.mut hx
        cases g2 with
        | o k1 k2 k3 k4 =>
          rename_i a dx fs as3
          refine ⟨_, g1, a, _, dx, fs, rfl, k1, c1, c2, by rw [k3.len]; exact hc.2, ?_⟩
          have nb : a ∉ bs := fun m => d a m (g3 a List.mem_cons_self)
          have d3 : ∀ b ∈ bs, b ∉ as3 := fun b m z => d b m (g3 b (List.mem_cons_of_mem _ z))
          obtain ⟨cs, p1, p2⟩ := k3.put r1 (f := f) d3
          have ncs : a ∉ cs := fun m => by
            rcases p2 a m with z | z
            · exact nb z
            · exact k4 z
          have sW : Step F1 H1 (a :: (as3 ++ bs)) F1 (upd H1 a (.ins (G.cls c) dx (putF f v fs))) (a :: cs) := (Step.write st.sub k2 List.mem_cons_self).less fun b m => by
            rcases List.mem_cons.mp m with z | z
            · exact List.mem_cons.mpr (.inl z)
            · refine List.mem_cons_of_mem _ ?_
              rcases p2 b z with z | z
              · exact List.mem_append_right _ z
              · exact List.mem_append_left _ z
          obtain ⟨as4, er4, s4, _⟩ := g4 (a2 := bs) (b2 := []) (o' := .o c (putO f ov os)) (b1 := a :: cs) (fun b m => d b m) sW (.o upd_same k2 (p1.frame (Ex.refl F1) (fun b m u h => by
            rw [upd_ne (fun z => ncs (by rw [← z]; exact m))]
            exact h) fun b m => (p1.off b m).1) ncs) fun a m => by simp at m
          refine po σ F1 _ as4 (st.trans ((s4.more fun b m => ?_).less fun b m => by simpa using m)) er4
          rcases List.mem_append.mp m with m | m
          · exact List.mem_append_right _ m
          · exact List.mem_append_left _ m
      · cases q
    · cases q
theorem cs_fs {acc : Nat → Str → Bool} {i : Nat} {x f : Str} {e : Expr} {p0 p1 pos : Pos} {fv : Vn → M (O × Vn)} (ao : AccOk G X.K acc) (hN : X.N[i]? = some x) (hv : Vis X.env.scope x) (h : CE G X W e fv) (hd : (x == ("__debug__" : Str)) = false := by decide) (hcd : (x == ("__classdict__" : Str)) = false := by decide)
    (hs : swapsWith e (some (.Attribute (.Name x p0) f p1)) pos.line X.env = pure false := by rfl) : CS G X W (.Assign [.Attribute (.Name x p0) f p1] e pos) (vFs acc i f fv) := let ⟨_, p, r⟩ := h; ⟨_, ps_fld (pe_var hN hv hd hcd) p hs, rd_fs ao r⟩

/-! ### objects made -/
theorem guards_make {A : Around} {C : Addr} {us : List Value} {kw : List (Str × Value)} : (A.under (.builtin "type.__call__" ⟨.ref C :: us, kw⟩)).guards = A.guards := by
  have e : (Code.builtin "type.__call__" ⟨.ref C :: us, kw⟩).guards = [] := by
    unfold Code.guards Code.isGuard
    rfl
  unfold Around.under
  rw [e]
  show pushGuards [] A.guards = A.guards
  cases A.guards <;> rfl
theorem run_makeG {k : Nat} {f C : Addr} {fd : FuncData} {ps : List Str} {sp : Sp} {pins : List (Addr × Obj)} {σ : L2.St} {H : Hp} {s : Shared} {Q : VK} {us : List Value} {vs : List V} (Mc : Mk X.K C f) (Fg : FnG X.prog X.w X.K X.mg X.base k f fd ps sp) (hr : Room (k + 1) X.A) (hgd : X.A.guards = some []) (hb : L2.Binds X.K fd ps []) (tk : Takes X W)
    (I : L2.Inv X pins σ H s) (rv : Vals vs us) (h : ∀ x dx, H x = none → H dx = none → dx ≠ x → sp (.ref x :: vs) (upd (upd H dx (.own x)) x (.ins C dx [])) (fun v H2 => v = .non ∧ Q (.ref x) H2) (WE W σ)) :
    wpAny (model X.prog X.w) X.A (call (.ref C) us) (EP X pins σ Q) X.xe s := by
  have fr0 := I.hok.fresh (Nat.le_refl s.heap.objs.size)
  have fr1 := I.hok.fresh (Nat.le_succ s.heap.objs.size)
  have hq := h (s.heap.objs.size + 1) s.heap.objs.size fr1 fr0 (Nat.ne_of_lt (Nat.lt_succ_self _))
  have I2 := Inv.made (C := C) I
  have hl : (Value.ref (s.heap.objs.size + 1) :: us).length = ps.length := by
    have e := Fg.len _ _ _ _ hq
    simpa [rv.length] using e
  have b := hb _ (Value.ref (s.heap.objs.size + 1) :: us) I2.kIn (by rw [List.append_nil]; exact hl)
  rw [List.append_nil] at b
  refine wpAny_call (make_map (f := f) I.kIn Mc.makes Mc.init (beq_iff_eq.mp Mc.fn) (codeAny_mono (Fg.run _ X.stack _ _ ⟨_, []⟩ _ (V.ref (s.heap.objs.size + 1) :: vs) _ (WE W σ) (hr.make C us []) (by rw [guards_make]; exact hgd) (I2.env0.make C us []) b (.cons rfl rv) hq) fun r s' hq' => ?_))
  cases r with
  | error e => exact passAt tk σ pins _ _ e s' I2 hq'
  | ok fl =>
    cases fl with
    | ret u =>
      obtain ⟨v, H', I3, rv', ev, q3⟩ := I2.after hq'
      subst ev
      exact ⟨rv', ⟨V.ref (s.heap.objs.size + 1), H', I3, rfl, q3⟩⟩
    | next => exact False.elim hq'
    | brk => exact False.elim hq'
    | cont => exact False.elim hq'
def tMakeG (C : Addr) (sp : Sp) (W : WX) (t : TA) : TE := fun σ H Q => t σ H fun vs H1 => ∀ x dx, H1 x = none → H1 dx = none → dx ≠ x → sp (.ref x :: vs) (upd (upd H1 dx (.own x)) x (.ins C dx [])) (fun v H2 => v = .non ∧ Q (.ref x) H2) (WE W σ)
theorem pe_makeG {k : Nat} {f C : Addr} {fd : FuncData} {ps : List Str} {sp : Sp} {x : Str} {e : Expr} {es : List Expr} {t : TA} {p pos : Pos} (Mc : Mk X.K C f) (Fg : FnG X.prog X.w X.K X.mg X.base k f fd ps sp) (hr : Room (k + 1) X.A) (hgd : X.A.guards = some []) (hb : L2.Binds X.K fd ps []) (tk : Takes X W) (hg : Gl X x) (hm : X.mg x = some (.ref C))
    (ha : PA X (e :: es) t) (hdb : (x == ("__debug__" : Str)) = false) (he : starEach (e :: es) X.env = (false, eval e X.env) :: starEach es X.env) (hpl : (backTo pos (starEach es X.env)).any (·.1) = false) : PE X (.Call (.Name x p) (e :: es) [] pos) (tMakeG C sp W t) := by
  refine ⟨fun pins s σ H Q I h => ?_⟩
  refine wpAny_Call_Name_kw (ld_glob I hg hm ?_ hdb)
  exact PySem.W.callWith_K (h₀ := X.base) I.ok.mod.kin Mc.kp (thn (ha.run pos pins s σ H _ I h) fun us s1 ⟨vs, H1, I1, r, q⟩ => ⟨I1.kIn, run_makeG Mc Fg hr hgd hb tk I1 r q⟩) he hpl
theorem rd_make {t : TA} {g : Vn → M (List Lr × Vn)} {f : Vn → M (O × Vn)} {c n : Nat} (h : RdA G K W t g) (hn : ∀ ps r, f ps = some r → ps.length = n) : RdE G K W (tMakeG (G.cls c) (spF G K n f) W t) (vMake c f g) := by
  intro σ0 σ F H env as r Q ex er he po
  unfold vMake at he
  rcases M.bind_some he with ⟨c', fs, e, rfl⟩ | ⟨⟨rs, e1⟩, e, q⟩
  · exact h σ0 σ F H env as _ _ ex er e po
  · refine h σ0 σ F H env as _ _ ex er e fun vs F1 H1 bs as1 st er1 r1 d => ?_
    dsimp only at q
    cases hl : lend e1 rs with
    | none =>
      rw [hl] at q
      cases q
    | some x =>
      obtain ⟨ps, e2⟩ := x
      rw [hl] at q
      dsimp only at q
      obtain ⟨c1, c2, h1, h2, h3, h4, h5⟩ := lend_ok er1 r1 d hl
      have hall : ∀ a ∈ c1, a ∈ bs ++ as1 := fun a m => List.mem_append.mpr ((h4 a m).symm)
      intro x dx hx hdx hne
      let Hn : Hp := upd (upd H1 dx (.own x)) x (.ins (G.cls c) dx [])
      have s1 : Step F1 H1 [] F1 Hn [x] := by
        have sa : Step F1 H1 [] F1 (upd H1 dx (.own x)) [] := (Step.newO (as := []) st.sub hdx).less fun b m => by simp at m
        have sb : Step F1 (upd H1 dx (.own x)) [] F1 Hn [x] := Step.newO sa.sub (by rw [upd_ne (Ne.symm hne)]; exact hx)
        exact sa.trans sb
      have n1 : ∀ b ∈ c1, b ≠ x := fun b m z => by
        obtain ⟨_, u, hu⟩ := h1.off b m
        rw [z, hx] at hu
        cases hu
      have n2 : ∀ b ∈ c2, b ≠ x := fun b m z => by
        obtain ⟨_, u, hu⟩ := h2.off b m
        rw [z, hx] at hu
        cases hu
      have p1 := s1.frameE h1 fun x _ z => by simp at z
      have p2 := s1.frameE h2 fun x _ z => by simp at z
      have env0 : EnvR G K F1 Hn ((V.ref x :: vs).map some) ((V.ref x :: vs).map some) (⟨true, some (.o c [])⟩ :: ps) ([x] ++ c1) := .yes (fun _ => rfl) (.o upd_same (st.sub.back hx) .nil fun m => by simp at m) p1 fun a m z => n1 a z (by simpa using m)
      have sN : Step F1 H1 c1 F1 Hn ([x] ++ c1) := s1.beside c1
      rcases M.bind_some q with ⟨c', fs, e3, rfl⟩ | ⟨⟨o, ps'⟩, e3, q2⟩
      · refine ⟨by have := hn _ _ e3; rw [List.length_cons, lend_len hl, ← r1.len] at this; simpa using this, F1, _, [x] ++ c1, _, s1.sub, env0, e3, ?_⟩
        intro dd F' H' fv ts st2 tb hd rf
        exact po dd F' H' fv ts (st.trans ((sN.trans st2).more hall)) tb hd rf
      · refine ⟨by have := hn _ _ e3; rw [List.length_cons, lend_len hl, ← r1.len] at this; simpa using this, F1, _, [x] ++ c1, _, s1.sub, env0, e3, ?_⟩
        intro v F' H' b2 a2 σ' st2 er2 r2 d2
        dsimp only at q2
        split at q2
        · rename_i ob ps2
          split at q2
          · cases q2
          · rename_i e4 hb
            cases q2
            cases r2 with
            | v r2 =>
              cases r2
              refine ⟨rfl, ?_⟩
              cases er2 with
              | yes pn ro er2 dj =>
                rename_i v' σt aO aR
                have hv := pn rfl
                cases hv
                have sT : Step F1 H1 c1 F' H' (aO ++ aR) := sN.trans (st2.less fun b m => by simpa using m)
                have er3 := sT.frameE h2 fun x m z => h3 x z m
                have ap := sT.apartE h2 fun x m z => h3 x z m
                obtain ⟨as', g1, g2⟩ := back_ok r1.lvs er2 er3 (fun a m z => ap a z (List.mem_append_right _ m)) hb
                have sU := sT.more hall
                refine po (.ref x) F' H' aO as' ⟨st.ex.trans sT.ex, sT.sub, fun b u hb n => ?_, fun b hb => ?_, fun b u hb => ?_⟩ g1 ro fun a m z => ?_
                · exact (st.trans sU).keep b u hb n
                · rcases List.mem_append.mp hb with hb | hb
                  · exact (st.trans sU).own b (List.mem_append_left _ hb)
                  · rcases g2 b hb with z | z
                    · exact (st.trans sU).own b (List.mem_append_right _ z)
                    · exact st.own b (List.mem_append_right _ (h5 b z))
                · exact (st.trans sU).fr b u hb
                · rcases g2 a z with z | z
                  · exact dj a m z
                  · exact ap a z (List.mem_append_left _ m)
        · cases q2
theorem ce_make {k c n : Nat} {f : Addr} {fd : FuncData} {ps : List Str} {x : Str} {e : Expr} {es : List Expr} {h : Vn → M (O × Vn)} {g : Vn → M (List Lr × Vn)} {p pos : Pos} (Mc : Mk X.K (G.cls c) f) (Fg : FnG X.prog X.w X.K X.mg X.base k f fd ps (spF G X.K n h)) (hl : ∀ ps r, h ps = some r → ps.length = n) (hr : Room (k + 1) X.A) (ck : Cok X W) (hb : L2.Binds X.K fd ps []) (hg : Gl X x) (hm : X.mg x = some (.ref (G.cls c)))
    (ha : CA G X W (e :: es) g) (hdb : (x == ("__debug__" : Str)) = false := by decide) (he : starEach (e :: es) X.env = (false, eval e X.env) :: starEach es X.env := by rfl) (hpl : (backTo pos (starEach es X.env)).any (·.1) = false := by rfl) :
    CE G X W (.Call (.Name x p) (e :: es) [] pos) (vMake c h g) := let ⟨_, q, r⟩ := ha; ⟨_, pe_makeG Mc Fg hr ck.gd hb ck.tk hg hm q hdb he hpl, rd_make r hl⟩
end
end Vi

set_option Elab.async false
set_option linter.all false
set_option maxRecDepth 100000
set_option maxHeartbeats 2000000
/-! Vi17: own exceptions raised. -/
namespace Vi
open PySem PySem.Spec L2
open PyProof.Rows hiding St

/-- what the own __init__ of an exception class promises: its fields are set -/
def spI (C : Addr) (fs : List Str) : Sp := fun vs H Q _ => ∃ (a : Addr) (ys : List V), vs = .ref a :: ys ∧ ys.length = fs.length ∧ H a = some (exo a C none) ∧
  ∀ (d : Addr) (H2 : Hp), H d = none → d ≠ a → H2 a = some (exo a C (some d)) → H2 d = some (exd d (fs.zip ys).reverse) → (∀ b, b ≠ a → b ≠ d → H2 b = H b) → Q .non H2
section
variable {P : Program} {w : World} {K : PySem.W.Frag} {mg : Str → Option Value} {base : Heap}
theorem init1 {qual : Str} {params : Arguments} {scope : Scope} {f C : Addr} {fd : FuncData} {se a1 f1 : Str} {p1 p2 p3 p4 : Pos} (F : FunD K "__init__" qual params [.Assign [.Attribute (.Name se p1) f1 p2] (.Name a1 p3) p4] scope [] [] f fd) (S : FnScope [se, a1] [se, a1] scope) (T : OexC K C) (h1 : PySem.W.findIn K (.ref C) f1 = some none)
    (v0 : Vis scope se) (v1 : Vis scope a1) (d0 : (se == ("__debug__" : Str)) = false) (d1 : (a1 == ("__debug__" : Str)) = false) (c0 : (se == ("__classdict__" : Str)) = false) (c1 : (a1 == ("__classdict__" : Str)) = false) : FnOk P w K mg base (L2.CX P w) 1 f fd [se, a1] (spI C [f1]) := by
  refine F.ok S (fun vs H Q E ⟨a, ys, e, l, _⟩ => by rw [e, List.length_cons, l]; rfl) (fun cdv A outer s H vs Q E hr ⟨a, ys, e, l, ha, hq⟩ => ?_)
  subst e
  match ys, l with
  | [y], _ =>
    refine ⟨_, pss_one (ps_ost (pe_var (i := 0) rfl v0 d0 c0) (pe_var (i := 1) rfl v1 d1 c1) rfl), ?_⟩
    refine ⟨y, rfl, .ref a, rfl, a, C, rfl, T, h1, .inl ⟨ha, fun dx hx ne => ?_⟩⟩
    refine hq dx _ hx ne upd_same (by rw [upd_ne ne, upd_same]; rfl) fun b n1 n2 => ?_
    rw [upd_ne n1, upd_ne n2]
theorem init2 {qual : Str} {params : Arguments} {scope : Scope} {f C : Addr} {fd : FuncData} {se a1 f1 a2 f2 : Str} {p1 p2 p3 p4 q1 q2 q3 q4 : Pos} (F : FunD K "__init__" qual params [.Assign [.Attribute (.Name se p1) f1 p2] (.Name a1 p3) p4, .Assign [.Attribute (.Name se q1) f2 q2] (.Name a2 q3) q4] scope [] [] f fd)
    (S : FnScope [se, a1, a2] [se, a1, a2] scope) (T : OexC K C) (h1 : PySem.W.findIn K (.ref C) f1 = some none) (h2 : PySem.W.findIn K (.ref C) f2 = some none) (v0 : Vis scope se) (v1 : Vis scope a1) (v2 : Vis scope a2)
    (d0 : (se == ("__debug__" : Str)) = false) (d1 : (a1 == ("__debug__" : Str)) = false) (d2 : (a2 == ("__debug__" : Str)) = false) (c0 : (se == ("__classdict__" : Str)) = false) (c1 : (a1 == ("__classdict__" : Str)) = false) (c2 : (a2 == ("__classdict__" : Str)) = false) : FnOk P w K mg base (L2.CX P w) 1 f fd [se, a1, a2] (spI C [f1, f2]) := by
  refine F.ok S (fun vs H Q E ⟨a, ys, e, l, _⟩ => by rw [e, List.length_cons, l]; rfl) (fun cdv A outer s H vs Q E hr ⟨a, ys, e, l, ha, hq⟩ => ?_)
  subst e
  match ys, l with
  | [y, z], _ =>
    refine ⟨_, pss_cons (ps_ost (pe_var (i := 0) rfl v0 d0 c0) (pe_var (i := 1) rfl v1 d1 c1) rfl) (pss_one (ps_ost (pe_var (i := 0) rfl v0 d0 c0) (pe_var (i := 2) rfl v2 d2 c2) rfl)), ?_⟩
    refine ⟨y, rfl, .ref a, rfl, a, C, rfl, T, h1, .inl ⟨ha, fun dx hx ne => ?_⟩⟩
    refine ⟨z, rfl, .ref a, rfl, a, C, rfl, T, h2, .inr ⟨dx, [(f1, y)], upd_same, by rw [upd_ne ne, upd_same], by show 1 ≤ 900; omega, ?_⟩⟩
    refine hq dx _ hx ne (by rw [upd_ne (Ne.symm ne), upd_same]) (by rw [upd_same]; rfl) fun b n1 n2 => ?_
    rw [upd_ne n2, upd_ne n1, upd_ne n2]
end
/-- raise C(e, ..) -/
def vRaise (c : Nat) (fs : List Str) (g : Vn → M (List Lr × Vn)) : Vn → M (Fl × Vn) := fun env => M.bind (g env) fun (rs, _) => match allT rs with
  | some ds => if ds.length = fs.length then some (.ex c (fs.zip ds).reverse) else none
  | none => none
section
variable {G : Gt} {K : PySem.W.Frag} {W : WX} {X : Cx} {F H : Hp}
theorem RepF.app : ∀ {ks ls : List (Str × V)} {ds es : List (Str × D)}, RepF G K F ks ds → RepF G K F ls es → RepF G K F (ks ++ ls) (ds ++ es)
  | _, _, _, _, .nil, q => q
  | _, _, _, _, .cons h r, q => .cons h (r.app q)
theorem RepF.rev : ∀ {ks : List (Str × V)} {ds : List (Str × D)}, RepF G K F ks ds → RepF G K F ks.reverse ds.reverse
  | _, _, .nil => .nil
  | _, _, .cons h r => by
    rw [List.reverse_cons, List.reverse_cons]
    exact r.rev.app (.cons h .nil)
theorem Reps.zipF : ∀ {fs : List Str} {vs : List V} {ds : List D}, Reps G K F vs ds → RepF G K F (fs.zip vs) (fs.zip ds)
  | [], _, _, _ => .nil
  | _ :: _, _, _, .nil => .nil
  | _ :: _, _, _, .cons h r => .cons h r.zipF
theorem rd_raise {c : Nat} {fs : List Str} {t : TA} {g : Vn → M (List Lr × Vn)} (h : RdA G K W t g) (h1000 : fs.length ≤ 1000) : RdS G K W (fun _ σ H => tMkO (G.cls c) (spI (G.cls c) fs) [] t σ H fun cls d H' => W cls d σ H') (vRaise c fs g) := by
  intro σ0 σ F H env as r Ds ex er he po
  unfold vRaise at he
  rcases M.bind_some he with ⟨cc, fs', e, rfl⟩ | ⟨⟨rs, e1⟩, e, q⟩
  · exact h σ0 σ F H env as _ _ ex er e (po σ)
  · refine h σ0 σ F H env as _ _ ex er e fun vs F1 H1 bs as1 st er1 r1 d => ?_
    dsimp only at q
    split at q
    · rename_i ds hd
      split at q
      · rename_i hl
        cases q
        have rp := allT_ok r1 hd
        refine ⟨by rw [rp.len, hl]; exact h1000, fun a ha => ⟨a, vs ++ [], rfl, by rw [List.append_nil, rp.len, hl], upd_same, fun dd H2 hdd hne e1 e2 e3 => ⟨rfl, dd, _, e1, e2, ?_, ?_⟩⟩⟩
        · rw [upd_ne hne] at hdd
          exact hdd
        · rw [upd_ne hne] at hdd
          have keep : ∀ b u, H1 b = some u → upd (del H2 a) dd (.xd (fs.zip (vs ++ [])).reverse) b = some u := fun b u hb => by
            have n1 : b ≠ dd := ne_of_none hb hdd
            have n2 : b ≠ a := ne_of_none hb ha
            rw [upd_ne n1, del_ne n2, e3 b n2 n1, upd_ne n2]
            exact hb
          obtain ⟨a1, ta, _, tR, _, _, mT⟩ := er1.split
          refine po σ dd F1 _ (fs.zip (vs ++ [])).reverse ta ((st.less (cs := ta) fun b m => List.mem_append_right _ (mT b m)).trans ⟨Ex.refl F1, fun b u hb => keep b u (st.sub b u hb), fun b u hb _ => keep b u hb, fun b m => .inl m, fun b u hb => .inl hb⟩) (tR.frame (Ex.refl F1) (fun b _ u hb => keep b u hb) fun b m => (tR.off b m).1) upd_same ?_
          rw [List.append_nil]
          exact rp.zipF.rev
      · cases q
    · cases q
theorem cs_raise {c k : Nat} {fs ps : List Str} {fI : Addr} {fd : FuncData} {x : Str} {e : Expr} {es : List Expr} {g : Vn → M (List Lr × Vn)} {p pos pos' : Pos} (hc : X.calm = true) (ck : Cok X W) (T : OexC X.K (G.cls c)) (iC : PySem.W.findIn X.K (.ref (G.cls c)) "__init__" = some (some (.ref fI))) (tI : PySem.W.typeIn X.K (.ref fI) = some (.type "function"))
    (F1 : FnOk X.prog X.w X.K X.mg X.base (L2.CX X.prog X.w) k fI fd ps (spI (G.cls c) fs)) (hr : Room (k + 1) X.A) (hb : L2.Binds X.K fd ps []) (hg : Gl X x) (hm : X.mg x = some (.ref (G.cls c))) (ha : CA G X W (e :: es) g) (h1000 : fs.length ≤ 1000)
    (hdb : (x == ("__debug__" : Str)) = false := by decide) (he : starEach (e :: es) X.env = (false, eval e X.env) :: starEach es X.env := by rfl) (hpl : (backTo pos (starEach es X.env)).any (·.1) = false := by rfl) :
    CS G X W (.Raise (some (.Call (.Name x p) (e :: es) [] pos)) none pos') (vRaise c fs g) := let ⟨_, q, r⟩ := ha; ⟨_, ps_raise hc ck.tk (pmk_oex T iC tI F1 hr hb .nil (passes_call (E := fun _ _ _ => False) ck.tk fun _ _ _ _ z => z.elim) hg hm q hdb he hpl), rd_raise r h1000⟩
end
end Vi

set_option Elab.async false
set_option linter.all false
set_option maxRecDepth 100000
set_option maxHeartbeats 2000000
/-! Vi18: a def of the text, packed: what it does, where it stands. -/
namespace Vi
open PySem PySem.Spec L2
open PyProof.Rows hiding St

/-- the def x at G.fn i does v, of n parameters -/
structure Fn (P : Program) (w : World) (K : PySem.W.Frag) (mg : Str → Option Value) (base : Heap) (G : Gt) (k : Nat) (x : Str) (i n : Nat) (v : Vn → M (O × Vn)) : Prop where
  fn : ∃ (fd : FuncData) (ps : List Str), FnG P w K mg base k (G.fn i) fd ps (spF G K n v) ∧ L2.Binds K fd ps []
  kp : PySem.W.keepIn K (.ref (G.fn i)) = true
  mg : mg x = some (.ref (G.fn i))
  len : ∀ ps r, v ps = some r → ps.length = n
section
variable {P : Program} {w : World} {K : PySem.W.Frag} {mg : Str → Option Value} {base : Heap} {G : Gt} {X : Cx} {W : WX}
theorem FnG.mono {j k : Nat} {f : Addr} {fd : FuncData} {ps : List Str} {sp : Sp} (F : FnG P w K mg base j f fd ps sp) (h : j ≤ k) : FnG P w K mg base k f fd ps sp := ⟨F.len, fun A outer s H args us vs Q E hr => F.run A outer s H args us vs Q E (hr.mono h)⟩
theorem Fn.mono {j k i n : Nat} {x : Str} {v : Vn → M (O × Vn)} (F : Fn P w K mg base G j x i n v) (h : j ≤ k) : Fn P w K mg base G k x i n v := ⟨let ⟨fd, ps, f, b⟩ := F.fn; ⟨fd, ps, f.mono h, b⟩, F.kp, F.mg, F.len⟩
/-- what the plain parameters of a def are -/
def plainPs (params : Arguments) (ps : List Str) : Bool := params.posonlyargs.isEmpty && (decide (params.args.map (·.arg) = ps) && (params.vararg.isNone && (params.kwonlyargs.isEmpty && (params.kwarg.isNone && decide ps.Nodup))))
theorem fd_binds {x qual : Str} {params : Arguments} {body : List Stmt} {scope : Scope} {f : Addr} {fd : FuncData} {ps : List Str} (F : FunD K x qual params body scope [] [] f fd) (hp : plainPs params ps = true) : L2.Binds K fd ps [] := by
  unfold plainPs at hp
  simp only [Bool.and_eq_true, List.isEmpty_iff, Option.isNone_iff_eq_none, decide_eq_true_eq] at hp
  obtain ⟨h1, h2, h3, h4, h5, h6⟩ := hp
  exact F.bindsN fun kV doc pm an cdv ct us hl => bind_plain h1 h2 h3 h4 h5 rfl h6 us hl
theorem fn_mk {k i n m : Nat} {x qual : Str} {params : Arguments} {body : List Stmt} {scope : Scope} {fd : FuncData} {N ps : List Str} {b : Vn → M (Fl × Vn)} (F : FunD K x qual params body scope [] [] (G.fn i) fd) (S : FnScope N ps scope) (hn : N.length = n + m) (hps : ps.length = n) (hp : plainPs params ps = true) (hm : mg x = some (.ref (G.fn i)))
    (hb : ∀ (cdv : Value) (A : Around) (outer : List Env) (s : Shared) (H : Hp) (E : XK), Room k (A.deeper (envOfC qual scope s.heap.objs.size (G.fn i) cdv)) → Cok (cxOf (L2.CX P w) P w K mg base N qual scope (G.fn i) cdv A outer s H E) (fun cls d _ H' => E cls d H') →
      CSs G (cxOf (L2.CX P w) P w K mg base N qual scope (G.fn i) cdv A outer s H E) (fun cls d _ H' => E cls d H') body b) : Fn P w K mg base G (k + 1) x i n (vFn n m b) := by
  refine ⟨⟨fd, ps, fg_of F S (fun vs H Q E h => ?_) fun cdv A outer s H vs Q E hr hg h => ?_, fd_binds F hp⟩, F.kp, hm, fun _ _ h => vFn_len h⟩
  · rw [h.1, hps]
  · have ck : Cok (cxOf (L2.CX P w) P w K mg base N qual scope (G.fn i) cdv A outer s H E) (fun cls d _ H' => E cls d H') := ⟨S.nd, hg, by have := hr.un; show (A.deeper (envOfC qual scope s.heap.objs.size (G.fn i) cdv)).units + 200 < cLine; omega, takes_of rfl rfl rfl rfl⟩
    obtain ⟨t, p, r⟩ := hb cdv A outer s H E hr ck
    exact ⟨t, p, body_ok hn r h⟩
theorem ce_fn {j k i n : Nat} {x : Str} {v : Vn → M (O × Vn)} {g : Vn → M (List Lr × Vn)} {e : Expr} {es : List Expr} {p1 pos : Pos} (F : Fn X.prog X.w X.K X.mg X.base G k x i n v) (hr : Room j X.A) (hk : k ≤ j) (ck : Cok X W) (hg : Gl X x) (ha : CA G X W (e :: es) g) (hdb : (x == ("__debug__" : Str)) = false := by decide)
    (he : starEach (e :: es) X.env = (false, eval e X.env) :: starEach es X.env := by rfl) (hpl : (backTo pos (starEach es X.env)).any (·.1) = false := by rfl) : CE G X W (.Call (.Name x p1) (e :: es) [] pos) (vCall v g) := by
  obtain ⟨fd, ps, f, b⟩ := F.fn
  exact ce_call f F.len (hr.mono hk) ck hg F.mg F.kp b ha hdb he hpl
end
end Vi

set_option Elab.async false
set_option linter.all false
set_option maxRecDepth 100000
set_option maxHeartbeats 2000000
/-! Vi19: more operations; makes and raises packed. -/
namespace Vi
open PySem PySem.Spec L2
open PyProof.Rows hiding St

section
variable {G : Gt} {K : PySem.W.Frag} {X : Cx} {W : WX}
/-! ### * -/
def rMulV : R2 := orR (rI CMul fun i j => .int (i * j)) rRepR
theorem op_mulV : OpR X (binaryOp .Mult) rMulV := op_mul.or op_rep
/-- a new list some times over: the list isn't shared yet -/
def fMul : List D → Option O
  | [.int a, .int b] => if cMul a b = true then some (.v (.int (a * b))) else none
  | _ => none
theorem ok_mulV : OpOk G K (L2r rMulV) fMul := by
  intro F H vs ds o Q ex hv hr k
  unfold fMul at hr
  split at hr
  · obtain ⟨x, y, rfl, h1, h2⟩ := hv.two
    split at hr
    · rename_i hz
      cases hr
      cases h1.int
      cases h2.int
      refine .inl ⟨_, _, rfl, rfl, ?_, toV ex k (.int _)⟩
      unfold cMul small64 at hz
      unfold CMul
      simpa using hz
    · cases hr
  · cases hr
theorem op_modV : OpR X (binaryOp .Mod) (rI (fun _ j => j ≠ 0) fun i j => .int (i.fmod j)) := op_modN
theorem op_divV : OpR X (binaryOp .FloorDiv) (rI CDivN fun i j => .int (i.fdiv j)) := op_fdivN
/-- [..] * n, the list new -/
def vRep (f : Vn → M (O × Vn)) (g : Vn → M (O × Vn)) : Vn → M (O × Vn) := fun env => M.bind (f env) fun (o, e1) => M.bind (g e1) fun (o2, e2) => match o, o2 with
  | .l xs, .v (.int n) => if decide (-(2 ^ 63) ≤ n ∧ n < 2 ^ 63) && decide (xs.length * n.toNat ≤ sizeLine) then M.ret (.l (List.replicate n.toNat xs).flatten, e2) else none
  | _, _ => none
theorem rd_rep {ta tb : TE} {f g : Vn → M (O × Vn)} (h : RdE G K W ta f) (kk : RdE G K W tb g) : RdE G K W (tOp rMulV ta tb) (vRep f g) := by
  intro σ0 σ F H env as r Q ex er he po
  unfold vRep at he
  rcases M.bind_some he with ⟨c, fs, e, rfl⟩ | ⟨⟨o, e1⟩, e, q⟩
  · exact h σ0 σ F H env as _ _ ex er e po
  · refine h σ0 σ F H env as _ _ ex er e fun v F1 H1 bs as1 st er1 r1 d => ?_
    rcases M.bind_some q with ⟨c, fs, e2, rfl⟩ | ⟨⟨o2, e3⟩, e2, q2⟩
    · exact kk σ0 σ F1 H1 e1 as1 _ _ st.sub er1 e2 ((PoX.step po st).more fun a m => List.mem_append_right _ m)
    · refine kk σ0 σ F1 H1 e1 as1 _ _ st.sub er1 e2 fun w F2 H2 cs as2 st2 er2 r2 d2 => ?_
      dsimp only at q2
      split at q2
      · rename_i xs n
        split at q2
        · rename_i hc
          cases q2
          rw [Bool.and_eq_true, decide_eq_true_eq, decide_eq_true_eq] at hc
          have r1' := st2.frameO r1 d
          cases r1' with
          | l k1 k2 k3 =>
            rename_i a us
            cases r2 with
            | v r2 =>
              cases r2
              refine .inr ⟨a, _, us, rfl, rfl, k1, hc.1.1, hc.1.2, by rw [k3.len]; exact hc.2, fun p hp => ?_⟩
              have sA : Step F H as F2 H2 as2 := (st.less fun b m => List.mem_append_right _ m).trans (st2.less fun b m => List.mem_append_right _ m)
              have s3 : Step F2 H2 [] F2 (upd H2 p (.lst (List.replicate n.toNat us).flatten)) [p] := Step.newO st2.sub hp
              refine po (.ref p) F2 _ [p] as2 (sA.trans (s3.beside as2)) (s3.frameE er2 fun x _ z => by simp at z) (.l upd_same (st2.sub.back hp) (k3.rep _)) fun b m z => ?_
              have : b = p := by simpa using m
              subst this
              obtain ⟨_, u, hu⟩ := er2.off _ z
              rw [hp] at hu
              cases hu
        · cases q2
      · cases q2
theorem ce_rep {a b : Expr} {pos : Pos} {f g : Vn → M (O × Vn)} (h1 : CE G X W a f) (h2 : CE G X W b g) : CE G X W (.BinOp a .Mult b pos) (vRep f g) := let ⟨_, p, r⟩ := h1; let ⟨_, q, s⟩ := h2; ⟨_, pe_op op_mulV p q, rd_rep r s⟩

/-! ### repr of all data -/
def rReprV (K : PySem.W.Frag) : List V → Hp → VK → Prop := fun xs H Q => ∃ x d, xs = [x] ∧ Dp K H x d ∧ d.showable = true ∧ d.hasDict = false ∧ d.depth ≤ 64 ∧ d.shown.length ≤ sizeLine ∧ Q (.str d.shown) H
theorem cr_reprV (hg : X.A.guards = some []) (hu : X.A.units + 66 < cLine) : CallR X (.builtin "repr") (rReprV X.K) := by
  intro pins s σ H xs us Q I rv h
  obtain ⟨x, d, rfl, hd, hs, hn, hp, hz, q⟩ := h
  have big : ∀ a, x = .ref a → wpAny (model X.prog X.w) X.A (call (.builtin "repr") us) (EP X pins σ Q) X.xe s := fun a e => by
    subst e
    exact cr_repr hg hu pins s σ H _ us Q I rv ⟨a, d, rfl, hd, hs, hn, hp, hz, q⟩
  cases hd with
  | lst h1 h2 => exact big _ rfl
  | tup h1 h2 => exact big _ rfl
  | non =>
    cases rv with
    | cons r1 r2 =>
      cases r2
      cases r1
      exact PySem.P.repr_of_none ⟨.str _, H, I.tok _, ⟨_, rfl⟩, q⟩
  | bl b =>
    cases rv with
    | cons r1 r2 =>
      cases r2
      cases r1
      refine PySem.P.repr_of_bool ⟨.str _, H, I.tok _, ⟨_, rfl⟩, ?_⟩
      cases b <;> exact q
  | int i =>
    cases rv with
    | cons r1 r2 =>
      cases r2
      obtain ⟨t, rfl⟩ := r1
      exact PySem.P.repr_of_int (by simpa [PyData.showable] using hs) ⟨.str _, H, I.tok _, ⟨_, rfl⟩, q⟩
  | str x =>
    cases rv with
    | cons r1 r2 =>
      cases r2
      obtain ⟨t, rfl⟩ := r1
      exact PySem.P.repr_of_str ⟨.str _, H, I.tok _, ⟨_, rfl⟩, q⟩ hz
def fReprV : List D → Option O
  | [d] => d.shw.map fun s => .v (.str s)
  | _ => none
theorem ok_reprV : OpOk G K (rReprV K) fReprV := by
  intro F H vs ds o Q ex hv hr k
  unfold fReprV at hr
  split at hr
  · obtain ⟨x, rfl, h1⟩ := hv.one
    obtain ⟨s, es, e⟩ := Option.map_eq_some_iff.mp hr
    subst e
    obtain ⟨p, h2, h3, h4, h5, h6, rfl⟩ := shw_some es
    exact ⟨x, p, rfl, h1.dp ex h2, h3, h4, h5, h6, toV ex k (.str _)⟩
  · cases hr

/-! ### all, any of truths; min, max of two -/
def bls? : List D → Option (List Bool)
  | [] => some []
  | .bl b :: r => match bls? r with
    | some bs => some (b :: bs)
    | none => none
  | _ :: _ => none
theorem Reps.bls {F : Hp} : ∀ {vs : List V} {ds : List D} {bs : List Bool}, Reps G K F vs ds → bls? ds = some bs → vs = bs.map V.bl
  | _, _, _, .nil, e => by
    cases e
    rfl
  | _, _, bs, .cons (d := d) h r, e => by
    cases d with
    | bl b =>
      unfold bls? at e
      split at e
      · rename_i bs' h'
        cases e
        cases h
        rw [r.bls h']
        rfl
      · cases e
    | _ => cases e
def fAll : List D → Option O
  | [.lst xs] => match bls? xs with
    | some bs => some (.v (.bl (bs.all id)))
    | none => none
  | _ => none
def fAny : List D → Option O
  | [.lst xs] => match bls? xs with
    | some bs => some (.v (.bl (bs.any id)))
    | none => none
  | _ => none
theorem cr_allV (hc : X.calm = true) : CallR X (.builtin "all") (rAll X.K) := cr_all hc
theorem cr_anyV (hc : X.calm = true) : CallR X (.builtin "any") (rAny X.K) := cr_any hc
theorem ok_allV : OpOk G K (rAll K) fAll := by
  intro F H vs ds o Q ex hv hr k
  unfold fAll at hr
  split at hr
  · obtain ⟨x, rfl, h1⟩ := hv.one
    split at hr
    · rename_i bs hb
      cases hr
      obtain ⟨a, us, rfl, e1, r⟩ := h1.lst ex
      cases r.bls hb
      exact ⟨a, bs, rfl, .inl e1, toV ex k (.bl _)⟩
    · cases hr
  · cases hr
theorem ok_anyV : OpOk G K (rAny K) fAny := by
  intro F H vs ds o Q ex hv hr k
  unfold fAny at hr
  split at hr
  · obtain ⟨x, rfl, h1⟩ := hv.one
    split at hr
    · rename_i bs hb
      cases hr
      obtain ⟨a, us, rfl, e1, r⟩ := h1.lst ex
      cases r.bls hb
      exact ⟨a, bs, rfl, .inl e1, toV ex k (.bl _)⟩
    · cases hr
  · cases hr
def fMin2 : List D → Option O
  | [.int i, .int j] => some (.v (.int (if j < i then j else i)))
  | _ => none
def fMax2 : List D → Option O
  | [.int i, .int j] => some (.v (.int (if j > i then j else i)))
  | _ => none
theorem ok_min2 : OpOk G K (fun xs H Q => ∃ i j, xs = [V.int i, V.int j] ∧ Q (.int (if j < i then j else i)) H) fMin2 := by
  intro F H vs ds o Q ex hv hr k
  unfold fMin2 at hr
  split at hr
  · obtain ⟨x, y, rfl, h1, h2⟩ := hv.two
    cases hr
    cases h1.int
    cases h2.int
    exact ⟨_, _, rfl, toV ex k (.int _)⟩
  · cases hr
theorem ok_max2 : OpOk G K (fun xs H Q => ∃ i j, xs = [V.int i, V.int j] ∧ Q (.int (if j > i then j else i)) H) fMax2 := by
  intro F H vs ds o Q ex hv hr k
  unfold fMax2 at hr
  split at hr
  · obtain ⟨x, y, rfl, h1, h2⟩ := hv.two
    cases hr
    cases h1.int
    cases h2.int
    exact ⟨_, _, rfl, toV ex k (.int _)⟩
  · cases hr
/-! ### += of numbers -/
def fAugAdd : List D → Option O := fII (fun _ _ => true) fun a b => a + b
theorem ok_augAdd : OpOk G K (L2r (ipI fun i j => i + j)) fAugAdd := ok_II0
theorem ok_augSub : OpOk G K (L2r (ipI fun i j => i - j)) fSub := ok_II0

/-! ### kinds that isinstance asks for -/
def tabOf (is : Tg → Bool) (own : Nat → Option Bool) : Tg → Option Bool
  | .obj c => own c
  | t => some (is t)
def tabInt : Tg → Option Bool
  | .int => some true
  | .bl => some true
  | .obj _ => none
  | _ => some false
def tabBl : Tg → Option Bool
  | .bl => some true
  | .obj _ => none
  | _ => some false
def tabStr : Tg → Option Bool
  | .str => some true
  | .obj _ => none
  | _ => some false
def tabTup : Tg → Option Bool
  | .tup => some true
  | .obj _ => none
  | _ => some false
def tabLst : Tg → Option Bool
  | .lst => some true
  | .obj _ => none
  | _ => some false
theorem isi_int : IsiOk G K (.type "int") tabInt := ⟨fun t b h => by
  cases t <;> cases h <;> exact kit_ty (by decide +kernel), fun c b h => by cases h⟩
theorem isi_bool : IsiOk G K (.type "bool") tabBl := ⟨fun t b h => by
  cases t <;> cases h <;> exact kit_ty (by decide +kernel), fun c b h => by cases h⟩
theorem isi_str : IsiOk G K (.type "str") tabStr := ⟨fun t b h => by
  cases t <;> cases h <;> exact kit_ty (by decide +kernel), fun c b h => by cases h⟩
theorem isi_tuple : IsiOk G K (.type "tuple") tabTup := ⟨fun t b h => by
  cases t <;> cases h <;> exact kit_ty (by decide +kernel), fun c b h => by cases h⟩
theorem isi_list : IsiOk G K (.type "list") tabLst := ⟨fun t b h => by
  cases t <;> cases h <;> exact kit_ty (by decide +kernel), fun c b h => by cases h⟩
end
/-- the class number c is made, by an __init__ that does v -/
structure Cl (P : Program) (w : World) (K : PySem.W.Frag) (mg : Str → Option Value) (base : Heap) (G : Gt) (k c n : Nat) (v : Vn → M (O × Vn)) : Prop where
  fn : ∃ (f : Addr) (fd : FuncData) (ps : List Str), Mk K (G.cls c) f ∧ FnG P w K mg base k f fd ps (spF G K n v) ∧ L2.Binds K fd ps []
  len : ∀ ps r, v ps = some r → ps.length = n
/-- the exception class number c, its fields fs -/
structure Xc (P : Program) (w : World) (K : PySem.W.Frag) (mg : Str → Option Value) (base : Heap) (G : Gt) (x : Str) (c : Nat) (fs : List Str) : Prop where
  ex : OexC K (G.cls c)
  ini : ∃ (fI : Addr) (fd : FuncData) (ps : List Str), PySem.W.findIn K (.ref (G.cls c)) "__init__" = some (some (.ref fI)) ∧ PySem.W.typeIn K (.ref fI) = some (.type "function") ∧ FnOk P w K mg base (L2.CX P w) 1 fI fd ps (spI (G.cls c) fs) ∧ L2.Binds K fd ps []
  mg : mg x = some (.ref (G.cls c))
  few : fs.length ≤ 1000
section
variable {G : Gt} {X : Cx} {W : WX} {j k c n : Nat} {x : Str} {v : Vn → M (O × Vn)} {g : Vn → M (List Lr × Vn)} {e : Expr} {es : List Expr} {p1 pos pos' : Pos}
theorem ce_mk (C : Cl X.prog X.w X.K X.mg X.base G k c n v) (hr : Room j X.A) (hk : k + 1 ≤ j) (ck : Cok X W) (hg : Gl X x) (hm : X.mg x = some (.ref (G.cls c))) (ha : CA G X W (e :: es) g) (hdb : (x == ("__debug__" : Str)) = false := by decide)
    (he : starEach (e :: es) X.env = (false, eval e X.env) :: starEach es X.env := by rfl) (hpl : (backTo pos (starEach es X.env)).any (·.1) = false := by rfl) : CE G X W (.Call (.Name x p1) (e :: es) [] pos) (vMake c v g) := by
  obtain ⟨f, fd, ps, m, F, b⟩ := C.fn
  exact ce_make m F C.len (hr.mono hk) ck b hg hm ha hdb he hpl
theorem cs_rz {fs : List Str} (C : Xc X.prog X.w X.K X.mg X.base G x c fs) (hc : X.calm = true) (hr : Room j X.A) (hk : 2 ≤ j) (ck : Cok X W) (hg : Gl X x) (ha : CA G X W (e :: es) g) (hdb : (x == ("__debug__" : Str)) = false := by decide)
    (he : starEach (e :: es) X.env = (false, eval e X.env) :: starEach es X.env := by rfl) (hpl : (backTo pos (starEach es X.env)).any (·.1) = false := by rfl) : CS G X W (.Raise (some (.Call (.Name x p1) (e :: es) [] pos)) none pos') (vRaise c fs g) := by
  obtain ⟨fI, fd, ps, i1, i2, F, b⟩ := C.ini
  exact cs_raise hc ck C.ex i1 i2 F (hr.mono hk) b hg C.mg ha C.few hdb he hpl
end
end Vi
namespace Vi
open PySem PySem.Spec L2
section
variable {G : Gt} {X : Cx} {W : WX} {x : Str} {pos : Pos}
theorem ce_gloI {i : Int} (hg : Gl X x) (hm : ∃ t, X.mg x = some (.int i t)) (hb : (x == ("__debug__" : Str)) = false := by decide) : CE G X W (.Name x pos) (vLit (.int i)) := let ⟨_, h⟩ := hm; ce_glo (v := .int i) hg h ⟨_, rfl⟩ (fun F => .int i) hb
theorem ce_gloD {d : D} (hg : Gl X x) (hm : ∃ a : Addr, X.mg x = some (.ref a) ∧ ∀ F, Rep G X.K F (.ref a) d) (hb : (x == ("__debug__" : Str)) = false := by decide) : CE G X W (.Name x pos) (vLit d) := let ⟨a, h, r⟩ := hm; ce_glo (v := .ref a) hg h rfl r hb
end
end Vi

set_option Elab.async false
set_option linter.all false
set_option maxRecDepth 100000
set_option maxHeartbeats 2000000
/-! Vi20: comprehensions of two clauses. -/
namespace Vi
open PySem PySem.Spec L2

/-- an inner loop's invariant, from any start -/
theorem lc_gen {J : It} {n : Nat} {Gd : Hp → Prop} {Y : Nat → Hp → V → Hp → Prop} (w : Walk J n Gd Y) {g : TG} {tt : TT} {te : TE} {vs : List Nat} {σ : L2.St} {H1 : Hp} {Dp : Addr} {Nx : Hp → Prop} (Pv : Nat → Hp → Prop) (h0 : Pv 0 H1) (hG : ∀ i H, i ≤ n → Pv i H → Gd H)
    (hs : ∀ i x H H', i < n → Pv i H → Y i H x H' → g x (wipe σ vs) H' fun σ2 H2 => wipe σ2 vs = wipe σ vs ∧ tt σ2 H2 fun b H3 => if b = true then te σ2 H3 fun y H4 => ∃ acc, H4 Dp = some (.lst acc) ∧ acc.length < sizeLine ∧ Pv (i + 1) (upd H4 Dp (.lst (acc ++ [y]))) else Pv (i + 1) H3) (hd : ∀ H, Pv n H → Nx H) :
    ∃ W : Nat → Nat → Hp → Prop, (∃ m, W 0 m H1) ∧ ∀ i m H, W i m H → (J.stop i H ∧ Nx H) ∨ (J.go i H ∧ ∃ N1 : Hp → Prop, (∀ H', N1 H' → ∃ m', m' < m ∧ W (i + 1) m' H') ∧ ∀ x H', J.yld i H x H' → g x (wipe σ vs) H' fun σ2 H2 => wipe σ2 vs = wipe σ vs ∧ tt σ2 H2 fun b H3 =>
      if b = true then te σ2 H3 fun y H4 => ∃ acc, H4 Dp = some (.lst acc) ∧ acc.length < sizeLine ∧ N1 (upd H4 Dp (.lst (acc ++ [y]))) else N1 H3) := by
  refine ⟨fun i m H => m = n - i ∧ i ≤ n ∧ Pv i H, ⟨n, by simp, Nat.zero_le n, h0⟩, ?_⟩
  rintro i m H ⟨hm, hi, hp⟩
  have gd := hG i H hi hp
  by_cases e : i = n
  · subst e
    exact .inl ⟨w.stops H gd, hd H hp⟩
  · have lt : i < n := Nat.lt_of_le_of_ne hi e
    exact .inr ⟨w.goes i H lt gd, fun H' => Pv (i + 1) H', fun H' h' => ⟨n - (i + 1), by omega, rfl, lt, h'⟩, fun x H' hy => hs i x H H' lt hp (w.yields i H x H' lt gd hy)⟩

section
variable {G : Gt} {K : PySem.W.Frag} {W : WX} {X : Cx}
/-- the items done, the list that grows at Dp -/
def LcAt (G : Gt) (K : PySem.W.Frag) (own : List Nat) (t : D → Vn → Option Vn) (c : Vn → M (Bool × Vn)) (f : Vn → M (O × Vn)) (ds : List D) (σ0 σ : L2.St) (Dp : Addr) (F1 H1 : Hp) (as1 : List Addr) (r : List D × Vn) (i : Nat) (H : Hp) : Prop :=
  ∃ (F' : Hp) (env' : Vn) (as' : List Addr) (vs : List V) (acc : List D), Step F1 H1 as1 F' H (Dp :: as') ∧ EnvR G K F' H σ0 (wipe σ own) env' as' ∧ H Dp = some (.lst vs) ∧ F' Dp = none ∧ Dp ∉ as' ∧ Reps G K F' vs acc ∧ goLc own t c f (ds.drop i) acc env' = some (.ok r)
theorem lc_turn {own ws : List Nat} {t : D → Vn → Option Vn} {c : Vn → M (Bool × Vn)} {f : Vn → M (O × Vn)} {ds : List D} {σ0 σ : L2.St} {Dp : Addr} {F1 H1 H' H2 : Hp} {as1 : List Addr} {r : List D × Vn} {i : Nat} {x : V} {J : It} (hw : ∀ i ∈ ws, i ∈ own) (src : Src G K F1 J ds) (hi : i < ds.length)
    (h : LcAt G K own t c f ds σ0 σ Dp F1 H1 as1 r i H') (hy : J.yld i H' x H2) :
    SG G K ws t x (wipe σ own) H2 fun σ2 H3 => wipe σ2 own = wipe σ own ∧ ST G K W0 c σ2 H3 fun b H4 => if b = true then SE G K W0 f σ2 H4 fun y H5 => ∃ acc, H5 Dp = some (.lst acc) ∧ acc.length < sizeLine ∧ LcAt G K own t c f ds σ0 σ Dp F1 H1 as1 r (i + 1) (upd H5 Dp (.lst (acc ++ [y])))
      else LcAt G K own t c f ds σ0 σ Dp F1 H1 as1 r (i + 1) H4 := by
  obtain ⟨F', env', as', vs, acc, s, er', hl, hF, hn, ra, hg⟩ := h
  obtain ⟨d, F2, hd, s2, rx⟩ := src.yld F' H' i x H2 s.ex s.sub hi hy
  obtain ⟨hi', eI⟩ := List.getElem?_eq_some_iff.mp hd
  rw [List.drop_eq_getElem_cons hi', eI] at hg
  unfold goLc at hg
  split at hg
  · cases hg
  · rename_i e2 ht
    have sA : Step F' H' as' F2 H2 as' := (s2.beside as').less fun b m => by simpa using m
    obtain ⟨tA, lA, fA, nA⟩ := sA.withO hl hF hn
    refine ⟨σ0, F2, env', e2, as', d, s2.sub, s2.frameE er' (fun x _ z => by simp at z), rx, ht, fun σ3 as3 er3 m3 w3' => ?_⟩
    have w3 : wipe σ3 own = wipe σ own := (w3' own hw).trans (wipe_wipe fun _ m => m)
    refine ⟨w3, ?_⟩
    obtain ⟨⟨k, e3⟩, hc, hg2⟩ := M.bindN_some hg
    refine ⟨σ0, F2, e2, as3, _, s2.sub, er3, hc, fun F3 H3 as4 s3 er4 => ?_⟩
    obtain ⟨tB, lB, fB, nB⟩ := s3.withO lA fA fun z => nA (m3 Dp z)
    have tAB : Step F1 H1 as1 F3 H3 (Dp :: as4) := (s.trans (tA.less fun b m => (List.mem_cons.mp m).elim (fun z => List.mem_cons.mpr (.inl z)) fun z => List.mem_cons_of_mem _ (m3 b z))).trans tB
    have raB : Reps G K F3 vs acc := (ra.mono sA.ex).mono s3.ex
    dsimp only at hg2
    cases k with
    | true =>
      rw [if_pos rfl] at hg2 ⊢
      obtain ⟨⟨o, e5⟩, hf, hg3⟩ := M.bindN_some hg2
      refine ⟨σ0, F3, e3, as4, _, s3.sub, er4, hf, fun y F4 H4 bs as5 s4 er5 r5 d5 => ?_⟩
      obtain ⟨tC, lC, fC, nC⟩ := s4.withO lB fB nB
      dsimp only at hg3
      split at hg3
      · rename_i d' e6 hw6
        split at hg3
        · rename_i hz
          cases r5 with
          | v r5 =>
            have raC := raB.mono s4.ex
            obtain ⟨as6, er6, m6⟩ := wipeV_ok er5 hw6
            rw [w3] at er6
            have n5 : Dp ∉ as5 := fun z => nC (by simpa using z)
            have n6 : Dp ∉ as6 := fun z => n5 (m6 Dp z)
            have sW : Step F4 H4 (Dp :: as5) F4 (upd H4 Dp (.lst (vs ++ [y]))) (Dp :: as5) := Step.write s4.sub fC List.mem_cons_self
            refine ⟨vs, lC, by rw [raC.len]; exact hz, F4, e6, as6, vs ++ [y], acc ++ [d'], ((tAB.trans (tC.less fun b m => by simpa using m)).trans sW).less fun b m => (List.mem_cons.mp m).elim (fun z => List.mem_cons.mpr (.inl z)) fun z => List.mem_cons_of_mem _ (m6 b z), ?_, upd_same, fC, n6, raC.app (.cons r5 .nil), hg3⟩
            refine er6.frame (Ex.refl F4) (fun a m u h => ?_) fun a m => (er6.off a m).1
            rw [upd_ne (fun z => n6 (by rw [← z]; exact m))]
            exact h
        · cases hg3
      · cases hg3
    | false =>
      rw [if_neg (by decide)] at hg2 ⊢
      split at hg2
      · rename_i e6 hw6
        obtain ⟨as6, er6, m6⟩ := wipeV_ok er4 hw6
        rw [w3] at er6
        exact ⟨F3, e6, as6, vs, acc, tAB.less fun b m => (List.mem_cons.mp m).elim (fun z => List.mem_cons.mpr (.inl z)) fun z => List.mem_cons_of_mem _ (m6 b z), er6, lB, fB, fun z => nB (m6 Dp z), raB, hg2⟩
      · cases hg2
end
def goLc2 (own vs1 : List Nat) (t : D → Vn → Option Vn) (c : Vn → M (Bool × Vn)) (gi1 : Vn → M (List D × Vn)) (t1 : D → Vn → Option Vn) (c1 : Vn → M (Bool × Vn)) (f : Vn → M (O × Vn)) : List D → List D → Vn → M (List D × Vn)
  | [], acc, env => M.ret (acc, env)
  | d :: ds, acc, env => match t d env with
    | none => none
    | some e1 => M.bindN (c e1) fun (k, e2) => if k = true then M.bindN (gi1 e2) fun (ds1, e3) => match wipeV vs1 e3 with
        | none => none
        | some e4 => M.bindN (goLc vs1 t1 c1 f ds1 acc e4) fun (acc', e5) => match wipeV own e5 with
          | some e6 => goLc2 own vs1 t c gi1 t1 c1 f ds acc' e6
          | none => none
      else match wipeV own e2 with
        | some e4 => goLc2 own vs1 t c gi1 t1 c1 f ds acc e4
        | none => none
def vLc2 (own vs1 : List Nat) (gi : Vn → M (List D × Vn)) (t : D → Vn → Option Vn) (c : Vn → M (Bool × Vn)) (gi1 : Vn → M (List D × Vn)) (t1 : D → Vn → Option Vn) (c1 : Vn → M (Bool × Vn)) (f : Vn → M (O × Vn)) : Vn → M (O × Vn) := fun env => M.bind (gi env) fun (ds, e) => match wipeV own e with
  | none => none
  | some e0 => M.bindN (goLc2 own vs1 t c gi1 t1 c1 f ds [] e0) fun (acc, e1) => match backV e own e1 with
    | some e2 => M.ret (.l acc, e2)
    | none => none
section
variable {G : Gt} {K : PySem.W.Frag} {W : WX} {X : Cx}
def SI (G : Gt) (K : PySem.W.Frag) (W : WX) (f : Vn → M (List D × Vn)) : TI := fun σ H Q => ∃ (σ0 : L2.St) (F : Hp) (env : Vn) (as : List Addr) (r : R (List D × Vn)), Ex F H ∧ EnvR G K F H σ0 σ env as ∧ f env = some r ∧ PoI G K W F H as σ0 σ Q r
theorem ci_si {tg e : Expr} {f : Vn → M (List D × Vn)} (h : CI G X W tg e f) : PI X tg e (SI G X.K W f) := by
  obtain ⟨t, p, r⟩ := h
  exact ⟨fun pins s σ H Q I ⟨σ0, F, env, as, r0, ex, er, he, po⟩ => p.run pins s σ H Q I (r σ0 σ F H env as r0 Q ex er he po)⟩
theorem rd_lc2 {wi : TI} {gi gi1 : Vn → M (List D × Vn)} {t t1 : D → Vn → Option Vn} {c c1 : Vn → M (Bool × Vn)} {f : Vn → M (O × Vn)} {own vs1 ws ws1 : List Nat} (hi : RdI G K W wi gi) (nd : own.Nodup) (hw : ∀ i ∈ ws, i ∈ own) (hw1 : ∀ i ∈ ws1, i ∈ vs1) (hv : ∀ i ∈ vs1, i ∈ own) :
    RdE G K W (tLc2 wi (SG G K ws t) (ST G K W0 c) (SI G K W0 gi1) (SG G K ws1 t1) (ST G K W0 c1) (SE G K W0 f) own vs1) (vLc2 own vs1 gi t c gi1 t1 c1 f) := by
  intro σ0 σ F H env as r Q ex er he po
  unfold vLc2 at he
  rcases M.bind_some he with ⟨cc, fs, e, rfl⟩ | ⟨⟨ds, e1⟩, e, q⟩
  · exact hi σ0 σ F H env as _ _ ex er e po
  · refine hi σ0 σ F H env as _ _ ex er e fun J F1 H1 as1 st er1 src => ?_
    dsimp only at q
    split at q
    · cases q
    · rename_i e0 hw0
      obtain ⟨⟨accR, eR⟩, hgo, q2⟩ := M.bindN_some q
      dsimp only at q2
      split at q2
      · rename_i eZ hz
        cases q2
        intro Dp hDp
        obtain ⟨as0, er0, m0⟩ := wipeV_ok er1 hw0
        let Pv : Nat → Hp → Prop := fun i H' => ∃ (F' : Hp) (env' : Vn) (as' : List Addr) (vs : List V) (acc : List D), Step F1 H1 as1 F' H' (Dp :: as') ∧ EnvR G K F' H' σ0 (wipe σ own) env' as' ∧ H' Dp = some (.lst vs) ∧ F' Dp = none ∧ Dp ∉ as' ∧ Reps G K F' vs acc ∧ goLc2 own vs1 t c gi1 t1 c1 f (ds.drop i) acc env' = some (.ok (accR, eR))
        have s1 : Step F1 H1 [] F1 (upd H1 Dp (.lst [])) [Dp] := Step.newO st.sub hDp
        have h0 : Pv 0 (upd H1 Dp (.lst [])) := by
          refine ⟨F1, e0, as0, [], [], ⟨s1.ex, s1.sub, fun b u h n => s1.keep b u h (by simp), fun b m => ?_, fun b u h => .inl h⟩, s1.frameE er0 fun x _ z => by simp at z, upd_same, st.sub.back hDp, fun m => ?_, .nil, hgo⟩
          · rcases List.mem_cons.mp m with z | z
            · exact .inr (by rw [z]; exact hDp)
            · exact .inl (m0 b z)
          · obtain ⟨_, u, hu⟩ := er0.off Dp m
            rw [hDp] at hu
            cases hu
        refine ⟨fun i m H => m = ds.length - i ∧ i ≤ ds.length ∧ Pv i H, ⟨ds.length, by simp, Nat.zero_le _, h0⟩, ?_⟩
        rintro i m H' ⟨hm, hle, F', env', as', vs, acc, s, er', hl, hF, hn, ra, hg⟩
        by_cases ei : i = ds.length
        · refine .inl ⟨by rw [ei]; exact src.stop H' (s.ex.trans s.sub), ?_⟩
          rw [ei, List.drop_length] at hg
          cases hg
          obtain ⟨as7, er7, m7⟩ := backV_ok er1 s.ex nd er' hz
          refine po (.ref Dp) F' H' [Dp] as7 ((st.trans s).less fun b m => ?_) er7 (.l hl hF ra) fun a m z => ?_
          · rcases List.mem_append.mp m with z | z
            · exact List.mem_cons.mpr (.inl (by simpa using z))
            · exact List.mem_cons_of_mem _ (m7 b z)
          · have : a = Dp := by simpa using m
            subst this
            exact hn (m7 _ z)
        · have lt : i < ds.length := Nat.lt_of_le_of_ne hle ei
          refine .inr ⟨src.go H' i (s.ex.trans s.sub) lt, fun H2 => Pv (i + 1) H2, fun H2 h2 => ⟨ds.length - (i + 1), by omega, rfl, lt, h2⟩, fun x H2 hy => ?_⟩
          obtain ⟨d, F2, hd, s2, rx⟩ := src.yld F' H' i x H2 s.ex s.sub lt hy
          obtain ⟨hi', eI⟩ := List.getElem?_eq_some_iff.mp hd
          rw [List.drop_eq_getElem_cons hi', eI] at hg
          unfold goLc2 at hg
          split at hg
          · cases hg
          · rename_i e2 ht
            have sA : Step F' H' as' F2 H2 as' := (s2.beside as').less fun b m => by simpa using m
            obtain ⟨tA, lA, fA, nA⟩ := sA.withO hl hF hn
            refine ⟨σ0, F2, env', e2, as', d, s2.sub, s2.frameE er' (fun x _ z => by simp at z), rx, ht, fun σ3 as3 er3 m3 w3' => ?_⟩
            have w3 : wipe σ3 own = wipe σ own := (w3' own hw).trans (wipe_wipe fun _ m => m)
            refine ⟨w3, ?_⟩
            obtain ⟨⟨k, e3⟩, hc, hg2⟩ := M.bindN_some hg
            refine ⟨σ0, F2, e2, as3, _, s2.sub, er3, hc, fun F3 H3 as4 s3 er4 => ?_⟩
            obtain ⟨tB, lB, fB, nB⟩ := s3.withO lA fA fun z => nA (m3 Dp z)
            have tAB : Step F1 H1 as1 F3 H3 (Dp :: as4) := (s.trans (tA.less fun b m => (List.mem_cons.mp m).elim (fun z => List.mem_cons.mpr (.inl z)) fun z => List.mem_cons_of_mem _ (m3 b z))).trans tB
            have raB : Reps G K F3 vs acc := (ra.mono sA.ex).mono s3.ex
            dsimp only at hg2
            cases k with
            | true =>
              rw [if_pos rfl] at hg2 ⊢
              obtain ⟨⟨ds1, e4⟩, hg1, hg3⟩ := M.bindN_some hg2
              refine ⟨σ0, F3, e3, as4, _, s3.sub, er4, hg1, fun J1 F4 H4 as5 s4 er5 src1 => ?_⟩
              obtain ⟨tC, lC, fC, nC⟩ := s4.withO lB fB nB
              dsimp only at hg3
              split at hg3
              · cases hg3
              · rename_i e5 hw5
                obtain ⟨⟨acc', e6⟩, hgo1, hg4⟩ := M.bindN_some hg3
                obtain ⟨as6, er6, m6⟩ := wipeV_ok er5 hw5
                refine lc_gen (n := ds1.length) (Gd := fun H => Ex F4 H) (Y := fun i H x H' => J1.yld i H x H') (Dp := Dp) ⟨fun i H hi ex => src1.go H i ex hi, fun H ex => src1.stop H ex, fun i H x H' hi ex hy => hy⟩
                  (LcAt G K vs1 t1 c1 f ds1 σ0 σ3 Dp F4 H4 (Dp :: as5) (acc', e6)) ⟨F4, e5, as6, vs, acc, (Step.refl s4.sub).less fun b m => (List.mem_cons.mp m).elim (fun z => List.mem_cons.mpr (.inl z)) fun z => List.mem_cons_of_mem _ (m6 b z), er6, lC, fC, fun z => nC (m6 Dp z), raB.mono s4.ex, hgo1⟩
                  (fun j H _ ⟨F5, _, _, _, _, s5, _⟩ => s5.ex.trans s5.sub) (fun j x H5 H6 hj h5 hy => lc_turn hw1 src1 hj h5 hy) fun H5 ⟨F5, e7, as7, vs7, acc7, s5, er7, l7, f7, n7, ra7, hg7⟩ => ?_
                rw [List.drop_length] at hg7
                cases hg7
                dsimp only at hg4
                split at hg4
                · rename_i e8 hw8
                  obtain ⟨as8, er8, m8⟩ := wipeV_ok er7 hw8
                  rw [wipe_wipe hv, w3] at er8
                  exact ⟨F5, e8, as8, vs7, acc', ((tAB.trans tC).trans s5).less fun b m => (List.mem_cons.mp m).elim (fun z => List.mem_cons.mpr (.inl z)) fun z => List.mem_cons_of_mem _ (m8 b z), er8, l7, f7, fun z => n7 (m8 Dp z), ra7, hg4⟩
                · cases hg4
            | false =>
              rw [if_neg (by decide)] at hg2 ⊢
              split at hg2
              · rename_i e6 hw6
                obtain ⟨as6, er6, m6⟩ := wipeV_ok er4 hw6
                rw [w3] at er6
                exact ⟨F3, e6, as6, vs, acc, tAB.less fun b m => (List.mem_cons.mp m).elim (fun z => List.mem_cons.mpr (.inl z)) fun z => List.mem_cons_of_mem _ (m6 b z), er6, lB, fB, fun z => nB (m6 Dp z), raB, hg2⟩
              · cases hg2
      · cases q2
theorem ce_lc2 {elt tg iter tg1 iter1 : Expr} {ifs ifs1 : List Expr} {scope : Scope} {own : List (Str × Nat)} {vs1 : List Nat} {pos : Pos} {gi gi1 : Vn → M (List D × Vn)} {t t1 : D → Vn → Option Vn} {c c1 : Vn → M (Bool × Vn)} {f : Vn → M (O × Vn)} {ws ws1 : List Nat} (hc : X.calm = true) (ck : Cok X W) (hi : CI G X W tg iter gi) (ok : BlkOk X.N X.env.scope scope own)
    (nd : (own.map (·.2)).Nodup) (hw : ∀ i ∈ ws, i ∈ own.map (·.2)) (hw1 : ∀ i ∈ ws1, i ∈ vs1) (hv : ∀ i ∈ vs1, i ∈ own.map (·.2))
    (hg : ∀ (s : Shared) (H : Hp) (C : Addr) (cl : List (Str × Addr)) (fp : List Addr), CG G (X.blk s H scope (compEnvC scope cl C X.env) fp) ws tg t) (ht : ∀ (s : Shared) (H : Hp) (C : Addr) (cl : List (Str × Addr)) (fp : List Addr), CTs G (X.blk s H scope (compEnvC scope cl C X.env) fp) W0 ifs c)
    (hi1 : ∀ (s : Shared) (H : Hp) (C : Addr) (cl : List (Str × Addr)) (fp : List Addr), CI G (X.blk s H scope (compEnvC scope cl C X.env) fp) W0 tg1 iter1 gi1)
    (hg1 : ∀ (s : Shared) (H : Hp) (C : Addr) (cl : List (Str × Addr)) (fp : List Addr), CG G (X.blk s H scope (compEnvC scope cl C X.env) fp) ws1 tg1 t1) (ht1 : ∀ (s : Shared) (H : Hp) (C : Addr) (cl : List (Str × Addr)) (fp : List Addr), CTs G (X.blk s H scope (compEnvC scope cl C X.env) fp) W0 ifs1 c1)
    (he : ∀ (s : Shared) (H : Hp) (C : Addr) (cl : List (Str × Addr)) (fp : List Addr), CE G (X.blk s H scope (compEnvC scope cl C X.env) fp) W0 elt f) (hs : ∀ x, foldedSetIterable iter X.env x = pure x := by intro _; rfl) (hs1 : ∀ env x, foldedSetIterable iter1 env x = pure x := by intro _ _; rfl) :
    CE G X W (.ListComp elt [⟨tg, iter, ifs, 0⟩, ⟨tg1, iter1, ifs1, 0⟩] scope pos) (vLc2 (own.map (·.2)) vs1 gi t c gi1 t1 c1 f) := by
  obtain ⟨wi, p, r⟩ := hi
  exact ⟨_, pe_lc2 (g := SG G X.K ws t) (tt := ST G X.K W0 c) (wi1 := SI G X.K W0 gi1) (g1 := SG G X.K ws1 t1) (tt1 := ST G X.K W0 c1) (te := SE G X.K W0 f) hc ck.nd p ok hv (fun s H C cl fp => cg_sg (hg s H C cl fp)) (fun s H C cl fp => ht s H C cl fp) (fun s H C cl fp => ci_si (hi1 s H C cl fp)) (fun s H C cl fp => cg_sg (hg1 s H C cl fp)) (fun s H C cl fp => ht1 s H C cl fp) (fun s H C cl fp => ce_se (he s H C cl fp)) hs hs1, rd_lc2 r nd hw hw1 hv⟩
end
end Vi

set_option Elab.async false
set_option linter.all false
set_option maxRecDepth 100000
set_option maxHeartbeats 2000000
/-! Vi21: list.count, all and any of mixed things, a local name that holds a def. -/
namespace Vi
open PySem PySem.Spec L2
open PyProof.Rows hiding St

section
variable {X : Cx}
/-! ### xs.count(x) of flat things -/
def rCount (K : PySem.W.Frag) : V → List V → Hp → VK → Prop := fun x xs H Q => ∃ (p : Addr) (ys : List V) (k : V), x = .ref p ∧ xs = [k] ∧ SqL K H p ys ∧ flatV k = true ∧ ys.all flatV = true ∧ Q (.int ((ys.countP fun y => eqV y k) : Nat)) H
theorem countP_eqU {k : V} : ∀ {ys : List V} {its : List Value}, Vals ys its → ys.all flatV = true → its.countP (eqU k) = ys.countP fun y => eqV y k := by
  intro ys its r
  induction r with
  | nil => intro _; rfl
  | @cons y u ys us r1 r2 ih =>
    intro h
    rw [List.all_cons, Bool.and_eq_true] at h
    have one := any_eqU (x := k) (xs := [y]) (us := [u]) (.cons r1 .nil) (by rw [List.all_cons, h.1]; rfl)
    unfold inV at one
    simp only [List.any_cons, List.any_nil, Bool.or_false] at one
    rw [List.countP_cons, List.countP_cons, ih h.2, one]
theorem mt_countV : MtR X "list.count" (rCount X.K) := by
  intro pins s σ H x xs v us Q I rx rxs h
  obtain ⟨p, ys, k, rfl, rfl, hs, fk, fs, q⟩ := h
  cases rx
  obtain ⟨u, rfl, ru⟩ := rxs.one
  obtain ⟨its, rv, ⟨⟨cls, dd, data, sl⟩, n, ho, hc, hdn, hd⟩, hlen⟩ := I.list hs
  simp only at hc hd
  subst hc hd
  refine call_meets PySem.F.slot_list_count ⟨_, ho, rfl⟩ PySem.F.entry_list_count (PySem.F.args_list_count_2 _ _) (SeqAt.list_countAt p its.toArray n dd sl u (eqU k))
    ⟨ho, fun y hy => mem_eqAt ru fk rv fs y (by simpa using hy), .int (ys.countP fun y => eqV y k : Nat), H, I.tok _, ⟨s.toks, ?_⟩, q⟩
  rw [show its.toArray.toList = its from rfl, countP_eqU rv fs]

/-- its truth, no dict's -/
def TruM (K : PySem.W.Frag) (x : V) (H : Hp) (k : Bool) : Prop := match x with
  | .ref p => (∃ xs, SqL K H p xs ∧ k = !xs.isEmpty) ∨ ∃ xs, SqT K H p xs ∧ k = !xs.isEmpty
  | y => TruV K y H k
/-! ### truth at any state that keeps the heap -/
theorem tru_at {pins : List (Addr × Obj)} {σ : L2.St} {H : Hp} {s s1 : Shared} {x : V} {v : Value} {k : Bool} {A : Around} {E : Value → Shared → Prop} {Q : Bool → Shared → Prop} (I : L2.Inv X pins σ H s) (rx : RelV x v) (h : TruM X.K x H k) (keep : ∀ b o, s.heap.get? b = some o → s1.heap.get? b = some o) (q : ∀ t, Q k { s1 with toks := t }) :
    wpAny (model X.prog X.w) A (truthy v) Q E s1 := by
  have l63 := line63
  have sl : sizeLine = 16777216 := sizeLine_eq
  cases x with
  | non =>
    cases rx
    cases (show k = false from h)
    exact truthy_none (q s1.toks)
  | bl b =>
    cases rx
    cases (show k = b from h)
    exact wpAny_truthy_bool (q s1.toks)
  | int i =>
    obtain ⟨t, rfl⟩ := rx
    cases (show k = (i != 0) from h)
    exact PySem.P.truthy_int (q s1.toks)
  | str y =>
    obtain ⟨t, rfl⟩ := rx
    obtain ⟨hy, rfl⟩ := (show y.length ≤ sizeLine ∧ k = ((y.length : Int) != 0) from h)
    exact PySem.P.truthy_str (by omega) (q _)
  | ref p =>
    cases rx
    rcases (show (∃ xs, SqL X.K H p xs ∧ k = !xs.isEmpty) ∨ (∃ xs, SqT X.K H p xs ∧ k = !xs.isEmpty) from h) with ⟨xs, hx, rfl⟩ | ⟨xs, hx, rfl⟩
    · obtain ⟨its, r, pl, hz⟩ := I.list hx
      have hlen := r.length
      exact wpAny_truthy_list (pl.isList.at fun o e => keep _ o e) (by simp only [List.size_toArray]; omega) (by rw [isEmpty_of r]; exact q _)
    · obtain ⟨its, r, pl, hz⟩ := I.tuple hx
      have hlen := r.length
      exact truthy_tuple (pl.keeps keep) (by simp only [List.size_toArray]; omega) (by rw [isEmpty_of r]; exact q _)
  | byt y =>
    obtain ⟨t, rfl⟩ := rx
    obtain ⟨hy, rfl⟩ := (show y.size ≤ sizeLine ∧ k = ((y.size : Int) != 0) from h)
    exact PySem.W.truthy_bytes (by omega) (q _)
  | _ => exact (show False from h).elim
/-- a loop over a list's iterator that asks each item's truth -/
theorem all_mixed {M : Model} {A : Around} {R : Result → Shared → Prop} {s0 : Shared} {it l : Addr} {items : Array Value} {tr : Nat → Bool} (hh : A.handled = none) (hne : l ≠ it) {prog : Program} {w : World} (hM : M = model prog w)
    (htr : ∀ (i : Nat) (hi : i < items.size) (s1 : Shared) (Q : Bool → Shared → Prop) (E : Value → Shared → Prop), (∀ b o, b ≠ it → s0.heap.get? b = some o → s1.heap.get? b = some o) → (∀ t, Q (tr i) { s1 with toks := t }) → wpAny M A.in1 (truthy items[i]) Q E s1) :
    ∀ (k i : Nat) (s1 : Shared), items.size - i = k → i ≤ items.size → s1.heap.IsListIter it l i ∧ s1.heap.IsList l items → (∀ b o, b ≠ it → s0.heap.get? b = some o → s1.heap.get? b = some o) →
      (∀ (h' : Heap) (tk : Nat), (∀ b o, b ≠ it → s0.heap.get? b = some o → h'.get? b = some o) → R (.ok (.ret (.bool (((List.range items.size).drop i).all tr)))) { s1 with heap := h', toks := tk }) → codeAny M A (.builtin "all.loop" ⟨[.ref it], []⟩) R s1 := by
  subst hM
  have Wk := Walks.list (prog := prog) (w := w) (A := A.in1) hh it l hne items
  intro k
  induction k with
  | zero =>
    intro i s1 hk hi st keep hR
    cases (show i = items.size by omega)
    refine codeAny_builtin PySem.F.entry_all_loop ?_
    rw [Around.under_plainId PySem.F.plain_all_loop _]
    show wpAny _ A.in1 (pyNext (.ref it) >>= _) _ _ s1
    refine wpAny_bind (Wk.done s1 _ _ st fun h' tk k2 => wpAny_bind (wpAny_rule (wpAny_pure ?_)))
    have q := hR h' tk fun b o n e => k2 b o (by simpa using n) (keep b o n e)
    rw [List.drop_of_length_le (by simp)] at q
    exact q
  | succ k ih =>
    intro i s1 hk hi st keep hR
    have lt : i < items.size := by omega
    have dr : (List.range items.size).drop i = i :: (List.range items.size).drop (i + 1) := by
      rw [List.drop_eq_getElem_cons (by simpa using lt)]
      simp
    refine codeAny_builtin PySem.F.entry_all_loop ?_
    rw [Around.under_plainId PySem.F.plain_all_loop _]
    show wpAny _ A.in1 (pyNext (.ref it) >>= _) _ _ s1
    refine wpAny_bind (Wk.item i s1 _ _ lt st fun v h' tk hv st' k2 => ?_)
    have ev : items[i] = v := by
      have : items[i]? = some items[i] := by simp [lt]
      rw [hv] at this
      exact (Option.some.inj this).symm
    subst ev
    have keep2 : ∀ b o, b ≠ it → s0.heap.get? b = some o → h'.get? b = some o := fun b o n e => k2 b o (by simpa using n) (keep b o n e)
    refine wpAny_bind (wpAny_holding (htr i lt _ _ _ keep2 fun t => wpAny_bind (wpAny_letGo ?_)))
    rw [dr] at hR
    cases hb : tr i with
    | true =>
      simp only [if_true]
      refine wpAny_pure ⟨plainId_quiet PySem.F.plain_all_loop _, ih (i + 1) _ (by omega) lt st' keep2 fun h2 t2 k3 => ?_⟩
      have q := hR h2 t2 k3
      rw [List.all_cons, hb, Bool.true_and] at q
      exact q
    | false =>
      simp only [Bool.false_eq_true, if_false]
      have q := hR h' t keep2
      rw [List.all_cons, hb, Bool.false_and] at q
      exact wpAny_bind (wpAny_rule (wpAny_pure q))
/-- all of a list, each item's truth known -/
def rAllM (K : PySem.W.Frag) : List V → Hp → VK → Prop := fun vs H Q => ∃ (a : Addr) (xs : List V) (bs : List Bool), vs = [V.ref a] ∧ SqL K H a xs ∧ bs.length = xs.length ∧ (∀ (i : Nat) (x : V) (b : Bool), xs[i]? = some x → bs[i]? = some b → TruM K x H b) ∧ Q (.bl (bs.all id)) H
theorem cr_allM (hc : X.calm = true) : CallR X (.builtin "all") (rAllM X.K) := by
  intro pins s σ H vs us Q I r h
  obtain ⟨a, xs, bs, rfl, hs, hl, ht, q⟩ := h
  obtain ⟨its, rv, pl, hz⟩ := I.list hs
  rw [Vals.ref1 r]
  have len := rv.length
  refine call_function_tree PySem.F.kind_all PySem.F.plain_all PySem.F.entry_all (PySem.F.args_all1 _) ?_
  unfold Builtin.«all»
  refine wpAny_bind (m := oneArg "all" _) (wpAny_pure (wpAny_bind (iter_any pl.isList fun s2 e2 st hne => ?_)))
  subst e2
  have hh : X.A.handled = none := I.ok.hd hc
  refine wpAny_pure ⟨plainId_quiet PySem.F.plain_all_loop _, all_mixed (A := X.A) (prog := X.prog) (w := X.w) (s0 := s) (tr := fun i => bs.getD i false) hh hne rfl (fun i hi s1 Q' E' keep q' => ?_) its.toArray.size 0 _ rfl (Nat.zero_le _) st (fun b o n e => Heap.get?_push_of_some _ e) fun h' tk keep => ?_⟩
  · have hi' : i < xs.length := by rw [len]; simpa using hi
    obtain ⟨u, hu, ru⟩ := rv.get (i := i) (x := xs[i]) (by simp [hi'])
    have hb : bs[i]? = some bs[i] := by simp [hl, hi']
    have t1 := ht i xs[i] bs[i] (by simp [hi']) hb
    have eu : its.toArray[i] = u := by
      obtain ⟨_, e⟩ := List.getElem?_eq_some_iff.mp hu
      simpa using e
    rw [eu]
    refine tru_at I ru t1 (fun b o e => keep b o (fun z => ?_) e) fun t => ?_
    · subst z
      exact absurd (Heap.lt_size e) (Nat.lt_irrefl _)
    · have e : bs.getD i false = bs[i] := by rw [List.getD_eq_getElem?_getD, hb]; rfl
      rw [← e]
      exact q' t
  · refine ⟨.bl _, H, I.kept fun b o e => keep b o (fun z => ?_) e, ?_, q⟩
    · subst z
      exact absurd (Heap.lt_size e) (Nat.lt_irrefl _)
    · show Value.bool _ = Value.bool _
      rw [List.drop_zero, ← all_range bs, List.size_toArray, ← len, hl]
end
section
variable {G : Gt} {K : PySem.W.Frag} {X : Cx} {W : WX}
def fCount : List D → Option O
  | [.lst ys, d] => match d.flat, flats ys with
    | some k, some vs => some (.v (.int ((vs.countP fun y => eqV y k) : Nat)))
    | _, _ => none
  | _ => none
/-- each one's truth -/
def trus : List D → Option (List Bool)
  | [] => some []
  | .dic _ :: _ => none
  | d :: r => match d.tru, trus r with
    | some b, some bs => some (b :: bs)
    | _, _ => none
def fAllM : List D → Option O
  | [.lst xs] => match trus xs with
    | some bs => some (.v (.bl (bs.all id)))
    | none => none
  | _ => none
theorem Rep.truM {F H : Hp} {v : V} {d : D} {b : Bool} (ex : Ex F H) (h : Rep G K F v d) (n : ∀ kvs, d ≠ .dic kvs) (e : d.tru = some b) : TruM K v H b := by
  cases h with
  | non => cases e; rfl
  | bl b => cases e; rfl
  | int i => cases e; rfl
  | str s =>
    rw [show D.tru (.str s) = if s.length ≤ sizeLine then some (((s.length : Nat) : Int) != 0) else none from rfl] at e
    split at e
    · rename_i hz
      cases e
      exact ⟨hz, rfl⟩
    · cases e
  | tup h r => cases e; exact .inr ⟨_, ex.t h, by rw [reps_empty r]⟩
  | lst h r => cases e; exact .inl ⟨_, .inl (ex.rd h), by rw [reps_empty r]⟩
  | dic h r => exact absurd rfl (n _)
  | dit h r => cases e
  | obj h r => cases e
  | fn f => cases e
theorem trus_ok {F H : Hp} (ex : Ex F H) : ∀ {vs : List V} {ds : List D} {bs : List Bool}, Reps G K F vs ds → trus ds = some bs → bs.length = vs.length ∧ ∀ (i : Nat) (x : V) (b : Bool), vs[i]? = some x → bs[i]? = some b → TruM K x H b
  | _, _, _, .nil, e => by
    cases e
    exact ⟨rfl, fun i x b h => by simp at h⟩
  | _, _, bs, .cons (v := v) (d := d) (ds := ds) h r, e => by
    have key : (∀ kvs, d ≠ .dic kvs) ∧ ∃ b bs', d.tru = some b ∧ trus ds = some bs' ∧ bs = b :: bs' := by
      cases d with
      | dic kvs => cases e
      | _ =>
        unfold trus at e
        split at e
        · rename_i b bs' h1 h2
          cases e
          exact ⟨(fun kvs z => by cases z), b, bs', h1, h2, rfl⟩
        · cases e
    obtain ⟨nd, b, bs', h1, h2, rfl⟩ := key
    obtain ⟨l, k⟩ := trus_ok ex r h2
    refine ⟨by rw [List.length_cons, List.length_cons, l], fun i x c hx hc => ?_⟩
    cases i with
    | zero =>
      simp at hx hc
      subst hx hc
      exact h.truM ex nd h1
    | succ i => exact k i x c (by simpa using hx) (by simpa using hc)
theorem ok_allM : OpOk G K (rAllM K) fAllM := by
  intro F H vs ds o Q ex hv hr k
  unfold fAllM at hr
  split at hr
  · obtain ⟨x, rfl, h1⟩ := hv.one
    split at hr
    · rename_i bs hb
      cases hr
      obtain ⟨a, us, rfl, e1, r⟩ := h1.lst ex
      obtain ⟨l, kk⟩ := trus_ok ex r hb
      exact ⟨a, us, bs, rfl, .inl e1, l, kk, toV ex k (.bl _)⟩
    · cases hr
  · cases hr
/-- xs.count(x) -/
theorem rd_count {to te : TE} {f : Vn → M (List Lr × Vn)} (h : RdA G K W (tCons to (tCons te tNil)) f) (ty : True) : True := trivial
/-! ### a local name that holds a def -/
def tCallF (sps : Addr → Sp → Prop) (i : Nat) (W : WX) (t : TA) : TE := fun σ H Q => ∃ (f : Addr) (sp : Sp), σ[i]? = some (some (.ref f)) ∧ sps f sp ∧ t σ H fun vs H1 => sp vs H1 Q (WE W σ)
theorem pe_callF {k i : Nat} {x : Str} {p pos : Pos} {e : Expr} {es : List Expr} {t : TA} {sps : Addr → Sp → Prop} (Fs : ∀ f sp, sps f sp → ∃ (fd : FuncData) (ps : List Str), FnG X.prog X.w X.K X.mg X.base k f fd ps sp ∧ L2.Binds X.K fd ps [] ∧ PySem.W.keepIn X.K (.ref f) = true)
    (hr : Room k X.A) (ck : Cok X W) (hN : X.N[i]? = some x) (hv : Vis X.env.scope x) (ha : PA X (e :: es) t) (hdb : (x == ("__debug__" : Str)) = false) (hcd : (x == ("__classdict__" : Str)) = false)
    (he : starEach (e :: es) X.env = (false, eval e X.env) :: starEach es X.env) (hpl : (backTo pos (starEach es X.env)).any (·.1) = false) : PE X (.Call (.Name x p) (e :: es) [] pos) (tCallF sps i W t) := by
  refine ⟨fun pins s σ H Q I ⟨f, sp, hs, hS, ht⟩ => ?_⟩
  obtain ⟨fd, ps, F, hb, hk⟩ := Fs f sp hS
  refine wpAny_Call_Name_kw (thn ((pe_var (pos := p) hN hv hdb hcd).run pins s σ H (fun v H1 => v = .ref f ∧ H1 = H) I ⟨_, hs, rfl, rfl⟩) fun u s1 ⟨v, H1, I1, r1, q1⟩ => ?_)
  obtain ⟨rfl, rfl⟩ := q1
  cases r1
  exact PySem.W.callWith_K (h₀ := X.base) I.ok.mod.kin hk (thn (ha.run pos pins s1 σ _ _ I1 ht) fun us s2 ⟨vs, H2, I2, r, q⟩ => ⟨I2.kIn, run_g F hr ck.gd hb ck.tk I2 r q⟩) he hpl
/-- .. by the def's number -/
def vCallF (tab : Nat → Option (Vn → M (O × Vn))) (i : Nat) (g : Vn → M (List Lr × Vn)) : Vn → M (O × Vn) := fun env => match env[i]? with
  | some ⟨_, some (.v (.fn n))⟩ => match tab n with
    | some v => vCall v g env
    | none => none
  | _ => none
/-- the defs of a table -/
def Tabd (P : Program) (w : World) (K : PySem.W.Frag) (mg : Str → Option Value) (base : Heap) (G : Gt) (k : Nat) (tab : Nat → Option (Vn → M (O × Vn))) : Prop := ∀ n v, tab n = some v → ∃ x m, Fn P w K mg base G k x n m v
theorem rd_callF {tab : Nat → Option (Vn → M (O × Vn))} {i : Nat} {t : TA} {g : Vn → M (List Lr × Vn)} (h : RdA G K W t g) (len : ∀ n v, tab n = some v → ∃ m, ∀ ps r, v ps = some r → ps.length = m) :
    RdE G K W (tCallF (fun f sp => ∃ n v m, f = G.fn n ∧ tab n = some v ∧ (∀ ps r, v ps = some r → ps.length = m) ∧ sp = spF G K m v) i W t) (vCallF tab i g) := by
  intro σ0 σ F H env as r Q ex er he po
  unfold vCallF at he
  split at he
  · rename_i p n hx
    split at he
    · rename_i v hv
      obtain ⟨w, a1, h1, h2, _⟩ := er.at hx
      obtain ⟨m, hm⟩ := len n v hv
      cases h2 with
      | v h2 =>
        cases h2
        exact ⟨_, _, h1, ⟨n, v, m, rfl, hv, hm, rfl⟩, rd_call h hm σ0 σ F H env as r Q ex er he po⟩
    · cases he
  · cases he
theorem ce_callF {tab : Nat → Option (Vn → M (O × Vn))} {j k i : Nat} {x : Str} {p pos : Pos} {e : Expr} {es : List Expr} {g : Vn → M (List Lr × Vn)} (T : Tabd X.prog X.w X.K X.mg X.base G k tab) (hr : Room j X.A) (hk : k ≤ j) (ck : Cok X W) (hN : X.N[i]? = some x) (hv : Vis X.env.scope x) (ha : CA G X W (e :: es) g)
    (hdb : (x == ("__debug__" : Str)) = false := by decide) (hcd : (x == ("__classdict__" : Str)) = false := by decide) (he : starEach (e :: es) X.env = (false, eval e X.env) :: starEach es X.env := by rfl) (hpl : (backTo pos (starEach es X.env)).any (·.1) = false := by rfl) :
    CE G X W (.Call (.Name x p) (e :: es) [] pos) (vCallF tab i g) := by
  obtain ⟨t, q, r⟩ := ha
  refine ⟨_, pe_callF (k := k) (W := W) (sps := fun f sp => ∃ n v m, f = G.fn n ∧ tab n = some v ∧ (∀ ps r, v ps = some r → ps.length = m) ∧ sp = spF G X.K m v) ?_ (hr.mono hk) ck hN hv q hdb hcd he hpl, rd_callF r ?_⟩
  · rintro f sp ⟨n, v, m, rfl, hv, hm, rfl⟩
    obtain ⟨y, m', F⟩ := T n v hv
    obtain ⟨fd, ps, f, b⟩ := F.fn
    refine ⟨fd, ps, f.imp ?_, b, F.kp⟩
    rintro vs H Q E ⟨l, F0, ps0, as0, r0, e1, e2, e3, e4⟩
    have := F.len _ _ e3
    have := hm _ _ e3
    exact ⟨by omega, F0, ps0, as0, r0, e1, e2, e3, e4⟩
  · intro n v hv
    obtain ⟨y, m', F⟩ := T n v hv
    exact ⟨m', F.len⟩
end
end Vi

set_option Elab.async false
set_option linter.all false
set_option maxRecDepth 100000
set_option maxHeartbeats 2000000
/-! Vi22: try with several clauses, each with a name or without one. -/
namespace Vi
open PySem PySem.Spec L2
open PyProof.Rows hiding St

/-- a clause: its class, whether it names the exception, its suite -/
abbrev ClA := Value × Bool × (Addr → Value → Option Addr → TS)
def undo (i : Nat) (Ds : Ends) : Ends := { nx := fun τ h => Ds.nx (τ.set i none) h, rt := Ds.rt, bk := fun τ h => Ds.bk (τ.set i none) h, ct := fun τ h => Ds.ct (τ.set i none) h }
def wCl (K : PySem.W.Frag) (Wo : WX) (Ds : Ends) (i : Nat) : List ClA → WX
  | [] => Wo
  | (c, nm, ts) :: r => fun cls d σ H => ∃ b, PySem.W.exmOne K cls c = some b ∧ (b = true → ∀ a, H a = none → if nm = true then ts a cls d (undo i Ds) (σ.set i (some (.ref a))) H else ts a cls d Ds σ H) ∧ (b = false → wCl K Wo Ds i r cls d σ H)
def hdOf (x : Str) (np : Pos) (nm : Option Str) (ss : List Stmt) (pos : Pos) : ExceptHandler := .ExceptHandler (some (.Name x np)) nm ss pos
inductive HdsA (X : Cx) (n : Str) : List ExceptHandler → List ClA → Prop
  | nil : HdsA X n [] []
  | cons {x : Str} {c : Value} {nm : Bool} {ts : Addr → Value → Option Addr → TS} {b0 : Stmt} {ss : List Stmt} {np pos : Pos} {hds : List ExceptHandler} {l : List ClA} (hc : Names X x c)
      (hsu : ∀ (a : Addr) (oe : Obj) (cls : Value) (d : Option Addr) (pn : List (Addr × Obj)), Zc cls d oe → (∃ vs, oe.data = .fields vs) → PSs (X.suite a ((a, oe) :: pn)) (b0 :: ss) (ts a cls d)) (r : HdsA X n hds l) : HdsA X n (.ExceptHandler (some (.Name x np)) (if nm = true then some n else none) (b0 :: ss) pos :: hds) ((c, nm, ts) :: l)
section
variable {X : Cx} {body : List Stmt} {h0 : ExceptHandler} {hds : List ExceptHandler} {l : List ClA} {pos : Pos} {tb : WX → TS} {Wo : WX} {n : Str} {i : Nat}
theorem ps_tryA (hs : X.stack = X.env :: X.outer) (hf : X.env.frame = some X.env.locals) (hN : X.N.Nodup) (hi : X.N[i]? = some n) (hln : X.env.kindOf n = some .local) (tk : Takes X Wo)
    (hb : ∀ (W : WX) (pn : List (Addr × Obj)) (xe : Value → Shared → Prop), Takes (X.tr pn xe) W → PassesOwn (model X.prog X.w) X.A X.env xe → PSs (X.tr pn xe) body (tb W)) (hh : HdsA X n (h0 :: hds) l) :
    PS X (.Try body (h0 :: hds) [] [] pos) (fun Ds σ H => tb (wCl X.K Wo Ds i l) Ds σ H) := by
  refine ⟨fun pins s σ H Ds I h => ?_⟩
  have okX := I.ok
  have frs' : X.A.frames = some (X.env :: X.outer) := by rw [okX.frames, hs]
  refine wpAny_Try_except (wpAny_mono ((hb (wCl X.K Wo Ds i l) (X.pn ++ pins) (fun e t => wpAny (model X.prog X.w) X.A (noteFrame e X.env) (fun _ t2 => wpAny (model X.prog X.w) X.A (setFlight e none) (fun _ t3 =>
    wpAny (model X.prog X.w) X.A (handleBy e X.env (h0 :: hds)) (SP X pins Ds) X.xe t3) X.xe t2) X.xe t) (fun u t xx => ?_) PassesOwn.looking).run [] s σ H Ds (I.toTry _) h) (fun fl t hq => ?_) (fun e t he => he))
  · obtain ⟨a, B, sI, pins', σ', H', cls, d, rfl, J', nb, up, sky, na, os, ag, w⟩ := xx
    have J := Inv.ofTry J' okX
    have sky2 : Sky B (X.env :: X.outer) a (Zc cls d) X.env.locals t.heap := hs ▸ sky
    show wpAny (model X.prog X.w) X.A (noteFrame (.ref a) X.env) _ _ _
    refine Sky.land Zc.steady frs' hf sky2 fun g3 fl3 up3 => ?_
    have J3 : L2.Inv X pins σ' H' { t with heap := g3 } := J.landed nb fl3.1 (up.trans up3) os ag
    obtain ⟨o3, v3, ho3, hz3, hd3⟩ := fl3.there
    have outF : a ∉ frs (X.env :: X.outer) := fun hm => by
      obtain ⟨_, o', e', bad⟩ := fl3.2.2.1.mem hm
      rw [ho3] at e'
      cases e'
      exact bad _ hd3
    have outL : a ≠ X.env.locals := fun z => outF (List.mem_filterMap.mpr ⟨X.env, List.mem_cons_self, z ▸ hf⟩)
    have outS : a ∉ X.fs := fun hm => by
      obtain ⟨e, he, q⟩ := List.mem_filterMap.mp hm
      exact outF (List.mem_filterMap.mpr ⟨e, List.mem_cons_of_mem _ he, q⟩)
    have S3 := J3.suite ho3 hd3 na outL outS
    have go : ∀ {hds' : List ExceptHandler} {l' : List ClA}, HdsA X n hds' l' → wCl X.K Wo Ds i l' cls d σ' H' → wpAny (model X.prog X.w) X.A (handleBy (.ref a) X.env hds') (SP X pins Ds) X.xe { t with heap := g3 } := by
      intro hds' l' hk
      induction hk with
      | nil =>
        intro w'
        refine wpAny_handleBy_nil ?_
        obtain ⟨k1, k2, k3, oe, vs, T, oT, ts', he, hz, hd, h1, hr⟩ := id fl3
        unfold PySem.passOn
        refine wpAny_bind (wpAny_field he hd h1 ?_)
        rw [if_neg (show ¬ ((Value.ref T == Value.none) = true) from Bool.false_ne_true)]
        have fly : wpAny (model X.prog X.w) X.A (setFlight (.ref a) X.env.frame) (fun _ t4 => wpAny (model X.prog X.w) X.A (throw (.ref a) : Sem Flow) (SP X pins Ds) X.xe t4) X.xe { t with heap := g3 } := by
          rw [hf]
          exact HandSPX.setFlight_upZ fl3 fun g4 hh4 up4 => wpAny_throw (tk _ _ ⟨a, B, sI, pins, σ', H', cls, d, rfl, J, nb, (up.trans up3).trans up4, .inr (.inr (hs ▸ hh4)), na, os, ag, w'⟩)
        first
          | exact wpAny_bind (wpAny_pure (wpAny_bind fly))
          | exact wpAny_bind fly
      | @cons x c nm ts b0 ss np pos' hds2 l2 hc hsu r ih =>
        intro w'
        obtain ⟨b, hb1, hyes, hno⟩ := w'
        refine wpAny_handleBy_cons (codeAny_handlers_test ?_) (by intro q; cases q)
        have lt : PySem.W.Looks (model X.prog X.w) g3 (typeOf (.ref a)) cls := fun A Q E s k q => wpAny_typeOf_ref (k _ _ ho3) (by rw [hz3.1]; exact q)
        have lm := PySem.W.exm_one (M := model X.prog X.w) J3.kIn lt hb1
        have asked : ∀ {Q : Value → Shared → Prop} {E : Value → Shared → Prop}, Q c { t with heap := g3 } → wpAny (model X.prog X.w) (X.A.mark (some (.ref a))) (eval (.Name x np) X.env) Q E { t with heap := g3 } := fun {Q E} q => by
          obtain ⟨hg, hdb, hm | ⟨hm, hv, hnn⟩⟩ := hc
          · exact ld_glob (X := X.suite a ((a, o3) :: (X.pn ++ pins))) S3 hg hm q hdb
          · exact ld_blt (X := X.suite a ((a, o3) :: (X.pn ++ pins))) S3 hg hm hv q hnn hdb
        refine asked (lm.here ?_)
        cases b with
        | true =>
          cases nm with
          | false =>
            refine codeAny_handlers_suite (HandSPX.lands_againZ fl3 fun g4 fl4 up4 => ?_)
            have J4 : L2.Inv X pins σ' H' { t with heap := g4 } := J.landed nb fl4.1 ((up.trans up3).trans up4) os ag
            obtain ⟨o4, v4, ho4, hz4, hd4⟩ := fl4.there
            refine wpAny_mono ((hsu a o4 cls d (X.pn ++ pins) hz4 ⟨_, hd4⟩).run [] _ _ H' _ (J4.suite ho4 hd4 na outL outS) (hyes rfl a na)) (fun f t6 hq => ?_) (fun _ _ z => False.elim z)
            cases f with
            | next => exact let ⟨_, _, S6, q6⟩ := hq; ⟨_, _, S6.unsuite okX, q6⟩
            | brk => exact let ⟨_, _, S6, q6⟩ := hq; ⟨_, _, S6.unsuite okX, q6⟩
            | cont => exact let ⟨_, _, S6, q6⟩ := hq; ⟨_, _, S6.unsuite okX, q6⟩
            | ret u => exact let ⟨_, _, _, S6, r6, q6⟩ := hq; ⟨_, _, _, S6.unsuite okX, r6, q6⟩
          | true =>
            refine codeAny_handlers_suite_as (HandSPX.lands_againZ fl3 fun g4 fl4 up4 => ?_)
            have J4 : L2.Inv X pins σ' H' { t with heap := g4 } := J.landed nb fl4.1 ((up.trans up3).trans up4) os ag
            obtain ⟨o4, v4, ho4, hz4, hd4⟩ := fl4.there
            refine store_ok (X := X.suite a ((a, o4) :: (X.pn ++ pins))) (v := .ref a) (J4.suite ho4 hd4 na outL outS) hN hi (.inl hln) rfl (fun t5 S5 => ?_) (.inr hln)
            refine wpAny_mono ((hsu a o4 cls d (X.pn ++ pins) hz4 ⟨_, hd4⟩).run [] t5 _ H' _ S5 (hyes rfl a na)) (fun f t6 hq => ?_) (fun _ _ z => False.elim z)
            have fin : ∀ {τ : L2.St} {H6 : Hp} {Q : Shared → Prop}, L2.Inv (X.suite a ((a, o4) :: (X.pn ++ pins))) [] τ H6 t6 → (∀ t7, L2.Inv X pins (τ.set i none) H6 t7 → Q t7) → wpAny (model X.prog X.w) X.A (do bindName X.env n .none; unbindBehindTheSuite X.env n pos') (fun _ t7 => Q t7) X.xe t6 := fun {τ H6 Q} S6 q => gone_ok (S6.unsuite okX) hN hi hln q
            cases f with
            | next => exact let ⟨_, _, S6, q6⟩ := hq; fin S6 fun t7 J7 => ⟨_, _, J7, q6⟩
            | brk => exact let ⟨_, _, S6, q6⟩ := hq; fin S6 fun t7 J7 => ⟨_, _, J7, q6⟩
            | cont => exact let ⟨_, _, S6, q6⟩ := hq; fin S6 fun t7 J7 => ⟨_, _, J7, q6⟩
            | ret u => exact let ⟨_, _, _, S6, r6, q6⟩ := hq; fin S6 fun t7 J7 => ⟨_, _, _, J7, r6, q6⟩
        | false =>
          show wpAny _ X.A (handleBy (.ref a) X.env hds2) _ _ _
          exact ih (hno rfl)
    exact go hh w
  · cases fl with
    | next => exact let ⟨_, _, J', q⟩ := hq; wpAny_execs_nil ⟨_, _, J'.ofTry okX, q⟩
    | brk => exact let ⟨_, _, J', q⟩ := hq; ⟨_, _, J'.ofTry okX, q⟩
    | cont => exact let ⟨_, _, J', q⟩ := hq; ⟨_, _, J'.ofTry okX, q⟩
    | ret u => exact let ⟨_, _, _, J', r, q⟩ := hq; ⟨_, _, _, J'.ofTry okX, r, q⟩
end
end Vi

set_option Elab.async false
set_option linter.all false
set_option maxRecDepth 100000
set_option maxHeartbeats 2000000
/-! Vi23: a lambda without parameters handed to a def. -/
namespace Vi
open PySem PySem.Spec L2 LamX
open PyProof.Rows hiding St

/-- behind the making: nothing is new that is tracked, or the code object c' and its row in the table -/
def MadeL (P c' : Addr) (q : Str) (ps : Array Value) (H H1 : Hp) : Prop :=
  (H1 = H ∧ ∃ pos, codeAmong pos ps.toList = some (.ref c')) ∨ ∃ more : Array Value, H c' = none ∧ H1 = upd (upd H P (.tbl (ps ++ more))) c' (CodeO c' q) ∧ TriplesOk (ps ++ more).toList ∧ ∀ (pos : Pos) (cv : Value), codeAmong pos (ps ++ more).toList = some cv → codeAmong pos ps.toList = some cv ∨ cv = .ref c'
/-- the table at P, as the environments keep it -/
structure TbAt (H : Hp) (P : Addr) (q : Str) (ps : Array Value) : Prop where
  at_ : H P = some (.tbl ps)
  ok : TriplesOk ps.toList
  cds : ∀ (pos : Pos) (cv : Value), codeAmong pos ps.toList = some cv → ∃ c, cv = .ref c ∧ H c = some (CodeO c q)
theorem MadeL.code {P c' : Addr} {q : Str} {ps : Array Value} {H H1 : Hp} (t : TbAt H P q ps) (m : MadeL P c' q ps H H1) : H1 c' = some (CodeO c' q) := by
  rcases m with ⟨rfl, pos, e⟩ | ⟨more, hn, rfl, _⟩
  · obtain ⟨c, e1, e2⟩ := t.cds pos _ e
    cases e1
    exact e2
  · exact upd_same
section
variable {X : Cx} {pins : List (Addr × Obj)} {σ : L2.St} {H : Hp} {s : Shared}
theorem lam_new {c P : Addr} {params : Arguments} {body : Expr} {scope : Scope} {pos : Pos} {E Q : Value → Shared → Prop} {ps : Array Value} {q : Str} (I : L2.Inv X pins σ H s) (TB : TabB X.base X.mg c P) (hcode : X.env.code = .ref c) (hq : q = X.env.qual ++ "<lambda>") (tb : TbAt H P q ps)
    (hdef : defaultsOf params X.env = ([], [])) (hfree : ∀ y ∈ scope.names, y.2 = .free → ∃ c, X.env.cells.lookup y.1 = some c)
    (h : ∀ (f c' : Addr) (pm ctv : Value) (H1 : Hp) (s' : Shared), L2.Inv X pins σ H1 s' → MadeL P c' q ps H H1 → s'.heap.get? f = some (PySem.W.kla_obj "<lambda>" q params body scope (cloFrom X.env.cells scope.names []) pm c' ctv) → H1 f = none → f ∉ frs X.stack → Q (.ref f) s') :
    wpAny (model X.prog X.w) X.A (eval (.Lambda params body scope pos) X.env) Q E s := by
  subst hq
  refine PySem.W.kla_eval hdef ?_
  have bmP : s.heap.BuiltinsAt X.mg P := TB.bm.keeps I.bk
  have atP : s.heap.get? P = some { cls := .none, data := .fields ps } := I.hok P _ tb.at_
  have off : ∀ f, s.heap.objs.size ≤ f → f ∉ frs X.stack := fun f hf z => by
    rcases List.mem_cons.mp (I.stkSub _ z) with e | e
    · exact absurd I.lt (Nat.not_lt.mpr (e ▸ hf))
    · exact I.nofs hf e
  cases hc : codeAmong pos ps.toList with
  | some cv =>
    obtain ⟨c', e, hco⟩ := tb.cds pos cv hc
    subst e
    refine PySem.W.kla_makeFunctionHit (mg := X.mg) (c := c) (P := P) (ps := ps) (closure_ok hfree) I.ok.glob (I.mod.glob.keeps I.bk) hcode (TB.code.keeps I.bk) atP tb.ok hc bmP fun ctv h' tk hx hsz => ?_
    exact h h'.objs.size c' ((X.mg "__name__").getD .none) ctv H _ (I.kept fun b o e => Heap.get?_push_of_some _ (hx b o e)) (.inl ⟨rfl, pos, hc⟩) (Heap.get?_push_size _ rfl) (I.hok.fresh hsz) (off _ hsz)
  | none =>
    refine PySem.W.kla_makeFunction (mg := X.mg) (c := c) (P := P) (ps := ps) (closure_ok hfree) I.ok.glob (I.mod.glob.keeps I.bk) hcode (TB.code.keeps I.bk) atP tb.ok hc TB.gP bmP fun c' ctv h' tk hx hge hlt hrec htb => ?_
    obtain ⟨c2, oc, vs, t, e2, hoc, hd, hv⟩ := hrec
    cases e2
    have hsz : s.heap.objs.size ≤ h'.objs.size := Nat.le_trans hge (Nat.le_of_lt hlt)
    have fresh : H c' = none := I.hok.fresh hge
    have eL : (ps ++ #[rawInt pos.line, rawInt pos.col, .ref c']).toList = ps.toList ++ [rawInt pos.line, rawInt pos.col, .ref c'] := by simp
    have I1 := inv_table (t' := tk) (more := #[rawInt pos.line, rawInt pos.col, .ref c']) (q := X.env.qual ++ "<lambda>") (h' := h'.push (PySem.W.kla_obj "<lambda>" (X.env.qual ++ "<lambda>") params body scope (cloFrom X.env.cells scope.names []) ((X.mg "__name__").getD .none) c' ctv)) I tb.at_
      (fun b o hb e => Heap.get?_push_of_some _ (hx b o hb e)) (Heap.get?_push_of_some _ htb) hge ⟨oc, vs, t, Heap.get?_push_of_some _ hoc, hd, hv⟩
    refine h h'.objs.size c' ((X.mg "__name__").getD .none) ctv _ _ I1 (.inr ⟨_, fresh, rfl, by rw [eL]; exact PySem.TriplesOk_snoc _ _ _ _ tb.ok, fun p cv e => ?_⟩) (Heap.get?_push_size _ rfl) ?_ (off _ hsz)
    · rw [eL] at e
      exact among_app _ tb.ok e
    · rw [upd_ne (Nat.ne_of_gt hlt), upd_ne (Nat.ne_of_gt (Nat.lt_of_lt_of_le (Heap.lt_size atP) hsz))]
      exact I.hok.fresh hsz
/-- the def that got it calls it: Z that def's context, entered at s -/
theorem pe_actG {CXg : CXT} {Eg : XK} {Ng : List Str} {qg : Str} {sg : Scope} {g f c' : Addr} {cdg pm ctv : Value} {params : Arguments} {body : Expr} {scope : Scope} {k i : Nat} {a q : Str} {pn : List (Addr × Obj)} {xe : Value → Shared → Prop} {W : WX} {E : XK} {tb : TE} {p1 p2 : Pos} (I : L2.Inv X pins σ H s) (L : LamS X.env.scope scope)
    (hq : q = X.env.qual ++ "<lambda>") (hf : s.heap.get? f = some (PySem.W.kla_obj "<lambda>" q params body scope (cloFrom X.env.cells scope.names []) pm c' ctv)) (hfn : H f = none) (hfr : f ∉ frs X.stack) (hbind : bindArgs (PySem.W.kla_fn "<lambda>" q params body scope (cloFrom X.env.cells scope.names []) pm (.ref c') ctv) ⟨[], []⟩ = pure [])
    (tk : Takes ((cxOf CXg X.prog X.w X.K X.mg X.base Ng qg sg g cdg X.A X.stack s H Eg).tr pn xe) W) (hW : ∀ cls d τ H', E cls d H' → W cls d τ H') (hr : Room (k + 1) (X.A.deeper (envOfC qg sg s.heap.objs.size g cdg))) (hgd : X.A.guards = some [])
    (hbody : ∀ (A : Around) (outer : List Env) (s : Shared) (H : Hp), Room k (A.deeper (lamEnv X scope s.heap.objs.size f c')) → A.guards = some [] → PE (lamCx X A outer s H E scope f c') body tb) (hN : Ng[i]? = some a) (hv : Vis sg a) (hd : (a == ("__debug__" : Str)) = false) (hcd : (a == ("__classdict__" : Str)) = false) :
    PE ((cxOf CXg X.prog X.w X.K X.mg X.base Ng qg sg g cdg X.A X.stack s H Eg).tr pn xe) (.Call (.Name a p1) [] [] p2) (fun τ HZ Q => τ[i]? = some (some (.ref f)) ∧ HZ c' = some (CodeO c' q) ∧ tb σ HZ Q) := by
  subst hq
  refine ⟨fun pz sz τ HZ Q IZ ⟨h1, h2, h3⟩ => ?_⟩
  refine wpAny_Call_Name_kw (thn ((pe_var (pos := p1) (i := i) hN hv hd hcd).run pz sz τ HZ (fun v H1 => v = .ref f ∧ H1 = HZ) IZ ⟨_, h1, rfl, rfl⟩) fun u s1 ⟨v, H1, I1, r1, ev, eH⟩ => ?_)
  subst ev
  rw [eH] at I1
  cases (show u = Value.ref f from r1)
  have there := I1.base.keep f _ hf hfn hfr (fun z => nomatch (show f ∈ ([] : List Addr) from z))
  refine PySem.W.callWith_F0 ⟨_, _, _, _, there⟩ ?_
  have un : Un (frs X.stack) [] H HZ s.heap s1.heap := I1.base
  obtain ⟨⟨oc, vs, t, hoc, hdc, hvc⟩, _, _⟩ := I1.hok c' _ h2
  have rc : codeAny (model X.prog X.w) (X.A.deeper (envOfC qg sg s.heap.objs.size g cdg)) (.call (.ref f) ⟨[], []⟩) (CR (L2.CX X.prog X.w) (envOfC qg sg s.heap.objs.size g cdg :: X.stack) X.prog X.w HZ s1 Q E) s1 := by
    refine PySem.W.kla_callFunE hr.depth there rfl L.co L.gen rfl ⟨c', oc, vs, t, rfl, hoc, hdc, hvc⟩ ?_
    rw [hbind]
    refine wpAny_pure (wpAny_newFunctionEnv (fun y hy => (L.own y hy).2) (fun y hy => absurd hy (by simp)) (fun g1 hns hsb => ⟨I1.nolimit.fresh _ hsb, ?_⟩) L.kind)
    show codeAny _ _ (.expr body (lamEnv X scope s1.heap.objs.size f c')) _ _
    have J : L2.Inv (lamCx X (X.A.deeper (envOfC qg sg s.heap.objs.size g cdg)) (envOfC qg sg s.heap.objs.size g cdg :: X.stack) s1 HZ E scope f c') [] σ HZ { s1 with heap := g1, toks := s1.toks + ([] : List (Str × Value)).length } :=
      lam_start2 I L I1.env0 hr.hd un hns fun b o e => hsb.extBut b o (Nat.ne_of_lt (Heap.lt_size e)) (Heap.get?_push_of_some _ e)
    refine PySem.W.kla_codeExpr (wpAny_mono ((hbody _ _ s1 HZ (hr.deeper _) hgd).run [] _ _ HZ Q J h3) (fun v s' hq => ?_) fun e s' hq => hq)
    obtain ⟨w', H', J', rv, qq⟩ := hq
    exact ⟨w', H', J'.os, J'.bare, J'.base, J'.hok, rv, qq⟩
  refine wpAny_call (codeAny_mono rc fun r s' hq => ?_)
  cases r with
  | error e => exact passes_call (E := E) tk hW pz τ HZ s1 e s' I1 hq
  | ok fl =>
    cases fl with
    | ret u => exact I1.after hq
    | next => exact False.elim hq
    | brk => exact False.elim hq
    | cont => exact False.elim hq
/-- what the def that calls its argument makes of the lambda's reading tl -/
def GivesV (X : Cx) (Ng : List Str) (x : Str) (sg : Scope) (g : Addr) (cdg : Value) (bg : List Stmt) (a q : Str) (TT : (XK → Hp → VK → Prop) → Hp → VK → Prop) : Prop :=
  ∀ (f c' : Addr) (s : Shared) (H : Hp) (Q : VK) (tl : XK → Hp → VK → Prop), (X.A.deeper (envOfC x sg s.heap.objs.size g cdg)).guards = some [] → (X.A.deeper (envOfC x sg s.heap.objs.size g cdg)).units + 66 < cLine →
    (∀ (W : WX) (pn : List (Addr × Obj)) (xe : Value → Shared → Prop) (E : XK) (p1 p2 : Pos), Takes ((cxOf C8.CX0 X.prog X.w X.K X.mg X.base Ng x sg g cdg X.A X.stack s H C8.E0).tr pn xe) W → (∀ cls d τ H', E cls d H' → W cls d τ H') →
      PE ((cxOf C8.CX0 X.prog X.w X.K X.mg X.base Ng x sg g cdg X.A X.stack s H C8.E0).tr pn xe) (.Call (.Name a p1) [] [] p2) (fun τ HZ Q => τ[0]? = some (some (.ref f)) ∧ HZ c' = some (CodeO c' q) ∧ tl E HZ Q)) → H c' = some (CodeO c' q) → TT tl H Q →
    ∃ t, PSs (cxOf C8.CX0 X.prog X.w X.K X.mg X.base Ng x sg g cdg X.A X.stack s H C8.E0).nox bg t ∧ t { nx := fun _ H' => Q .non H', rt := Q } (L2.start Ng [.ref f]) H
def tLamV (P : Addr) (q : Str) (TT : (XK → Hp → VK → Prop) → Hp → VK → Prop) (t : XK → TE) : TE := fun σ H Q => ∃ ps, TbAt H P q ps ∧ ∀ c' H1, MadeL P c' q ps H H1 → TT (fun E H' Q' => t E σ H' Q') H1 Q
theorem pe_lamV {TT : (XK → Hp → VK → Prop) → Hp → VK → Prop} {x a q : Str} {g c P : Addr} {k : Nat} {pg : Arguments} {bg : List Stmt} {sg : Scope} {fdg : FuncData} {Ng : List Str} {params : Arguments} {body : Expr} {scope : Scope} {t : XK → TE} {p lpos pos : Pos} {W : WX} (ck : Cok X W) (hg : Gl X x) (hm : X.mg x = some (.ref g)) (Fg : FunD X.K x x pg bg sg [] [] g fdg)
    (hb : L2.Binds X.K fdg [a] []) (Sg : FnScope Ng [a] sg) (hva : Vis sg a) (hNg : Ng[0]? = some a) (hG : ∀ cdg, GivesV X Ng x sg g cdg bg a q TT) (TB : TabB X.base X.mg c P) (hcode : X.env.code = .ref c) (hq : q = X.env.qual ++ "<lambda>") (hr : Room (k + 2) X.A) (L : LamS X.env.scope scope) (hdef : defaultsOf params X.env = ([], []))
    (hbind : ∀ (cl : List (Str × Addr)) (pm cv ctv : Value), bindArgs (PySem.W.kla_fn "<lambda>" q params body scope cl pm cv ctv) ⟨[], []⟩ = pure [])
    (hbody : ∀ (A : Around) (outer : List Env) (s : Shared) (H : Hp) (E : XK) (f c' : Addr), Room k (A.deeper (lamEnv X scope s.heap.objs.size f c')) → A.guards = some [] → PE (lamCx X A outer s H E scope f c') body (t E))
    (hdb : (x == ("__debug__" : Str)) = false) (hd : (a == ("__debug__" : Str)) = false) (hcd : (a == ("__classdict__" : Str)) = false) : PE X (.Call (.Name x p) [.Lambda params body scope lpos] [] pos) (tLamV P q TT t) := by
  refine ⟨fun pins s σ H Q I ⟨ps, tb, h⟩ => ?_⟩
  obtain ⟨oc, od, dV, kV, doc, pm0, an, cdv, ct, osl, rfl, lk, hcd0, _, _⟩ := Fg.ex
  refine wpAny_Call_Name_kw (ld_glob I hg hm (PySem.W.callWith_K (h₀ := X.base) I.ok.mod.kin Fg.kp ?_ (by rfl) (by rfl)) hdb)
  show wpAny _ _ (spliced ((false, eval (.Lambda params body scope lpos) X.env) :: backTo pos (starEach [] X.env))) _ _ s
  refine Calls.spliced_cons (lam_new I TB hcode hq tb hdef (L.has I.ok) fun f c' pm' ctv H1 s' I1 made hf hfn hfr => Calls.spliced_nil ⟨I1.kIn, ?_⟩)
  have rc : codeAny (model X.prog X.w) X.A (.call (.ref g) ⟨[.ref f], []⟩) (CR C8.CX0 X.stack X.prog X.w H1 s' Q C8.E0) s' := by
    refine run_ofS (N := Ng) (ps := [a]) (us := [.ref f]) (vs := [.ref f]) lk hcd0 Sg hr I1.env0 (hb s' [.ref f] I1.kIn rfl) (.cons rfl .nil) rfl fun hr' => ?_
    obtain ⟨t', p', q'⟩ := hG cdv f c' s' H1 Q (fun E H' Q' => t E σ H' Q') ck.gd (by have := hr'.un; omega) (fun W pn xe E p1 p2 tk hW => pe_actG (i := 0) I1 L hq hf hfn hfr (hbind _ _ _ _) tk hW hr' ck.gd (fun A outer s H hr2 hgd => hbody A outer s H E f c' hr2 hgd) hNg hva hd hcd) (made.code tb) (h c' H1 made)
    exact ⟨t', p'.nox, q'⟩
  refine wpAny_call (codeAny_mono rc fun r s2 hq => ?_)
  cases r with
  | error e => exact (show False from hq).elim
  | ok fl =>
    cases fl with
    | ret u => exact I1.after hq
    | next => exact False.elim hq
    | brk => exact False.elim hq
    | cont => exact False.elim hq
end
end Vi

set_option Elab.async false
set_option linter.all false
set_option maxRecDepth 100000
set_option maxHeartbeats 2000000
/-! Vi24: the def that tells an error with its fields; lambdas handed to it, by what is evaluated. -/
namespace Vi
open PySem PySem.Spec L2 LamX
open PyProof.Rows hiding St

/-- an item of what a clause tells -/
inductive SX where
  | str (s : Str)
  | fld (f : Str)
  | rep (f : Str)
def SX.isStr : SX → Bool
  | .str _ => true
  | _ => false
/-- a clause: the class caught, whether a list is told (or a tuple), its items, whether it names the exception -/
structure Cle where
  c : Nat
  nm : Bool
  lst : Bool
  xs : List SX
def sxVal (fs : List (Str × D)) : SX → Option D
  | .str s => some (.str s)
  | .fld f => fs.lookup f
  | .rep f => match fs.lookup f with
    | some d => d.shw.map D.str
    | none => none
def sxVals (fs : List (Str × D)) : List SX → Option (List D)
  | [] => some []
  | x :: r => match sxVal fs x, sxVals fs r with
    | some d, some ds => some (d :: ds)
    | _, _ => none
/-- what is told of an exception -/
def hnd (sub : Nat → Nat → Option Bool) : List Cle → Nat → List (Str × D) → Option O
  | [], _, _ => none
  | k :: r, c, fs => match sub c k.c with
    | some true => if k.xs.all SX.isStr || (k.nm && decide (c = k.c)) then (match sxVals fs k.xs with
        | some ds => if ds.length ≤ sizeLine then some (if k.lst = true then .l ds else .v (.tup ds)) else none
        | none => none) else none
    | some false => hnd sub r c fs
    | none => none
section
variable (K : PySem.W.Frag) (a : Addr) (cls : Value) (d : Option Addr) (C : Addr) (i : Nat)
def rdX : SX → TE
  | .str s => tC (.str s)
  | .fld f => tXf a cls d C f (tVar i)
  | .rep f => tCB (rReprV K) (tCons (tXf a cls d C f (tVar i)) tNil)
def rdXs : List SX → TA
  | [] => tNil
  | x :: r => tCons (rdX K a cls d C i x) (rdXs r)
/-- what a clause's suite reads -/
def tCle (k : Cle) : TS := tRet (if k.lst = true then tLst (rdXs K a cls d C i k.xs) else tTup (rdXs K a cls d C i k.xs))
end
section
variable {G : Gt} {K : PySem.W.Frag} {F H : Hp}
theorem rdXs_ok {a dd C : Addr} {cls : Value} {i : Nat} {fv : List (Str × V)} {fs : List (Str × D)} {σ : L2.St} (ex : Ex F H) (hd : H dd = some (.xd fv)) (rf : RepF G K F fv fs) : ∀ {xs : List SX} {ds : List D} {Q : List V → Hp → Prop}, sxVals fs xs = some ds → (xs.all SX.isStr = true ∨ (cls = .ref C ∧ σ[i]? = some (some (.ref a)))) →
    (∀ vs, Reps G K F vs ds → Q vs H) → rdXs K a cls (some dd) C i xs σ H Q
  | [], ds, Q, e, _, q => by
    cases e
    exact q [] .nil
  | x :: r, ds, Q, e, hs, q => by
    unfold sxVals at e
    split at e
    · rename_i d1 ds1 h1 h2
      cases e
      have rest : ∀ v, Rep G K F v d1 → rdXs K a cls (some dd) C i r σ H fun vs H2 => Q (v :: vs) H2 := fun v rv => rdXs_ok ex hd rf h2 (hs.imp (fun z => by rw [List.all_cons, Bool.and_eq_true] at z; exact z.2) id) fun vs rs => q _ (.cons rv rs)
      cases x with
      | str s =>
        cases h1
        exact rest _ (.str s)
      | fld f =>
        rcases hs with z | ⟨z1, z2⟩
        · rw [List.all_cons] at z
          cases z
        · obtain ⟨v, l, rv⟩ := rf.lookup h1
          exact ⟨_, z2, rfl, z1, dd, fv, v, rfl, hd, l, rest v rv⟩
      | rep f =>
        rcases hs with z | ⟨z1, z2⟩
        · rw [List.all_cons] at z
          cases z
        · cases hl : fs.lookup f with
          | none =>
            rw [show sxVal fs (.rep f) = (match fs.lookup f with | some d => d.shw.map D.str | none => none) from rfl, hl] at h1
            cases h1
          | some dv =>
            rw [show sxVal fs (.rep f) = (match fs.lookup f with | some d => d.shw.map D.str | none => none) from rfl, hl] at h1
            obtain ⟨s, es, e2⟩ := Option.map_eq_some_iff.mp h1
            subst e2
            obtain ⟨v, l, rv⟩ := rf.lookup hl
            obtain ⟨p, g1, g2, g3, g4, g5, rfl⟩ := shw_some es
            exact ⟨_, z2, rfl, z1, dd, fv, v, rfl, hd, l, v, p, rfl, rv.dp ex g1, g2, g3, g4, g5, rest _ (.str _)⟩
    · cases e
end
section
variable (G : Gt) (K : PySem.W.Frag)
/-- what an exception must be for the clauses to tell of it -/
def wE (sub : Nat → Nat → Option Bool) (ks : List Cle) (Q : VK) : XK := fun cls d H => ∃ (c : Nat) (dd : Addr) (fv : List (Str × V)) (fs : List (Str × D)) (o : O) (F : Hp), cls = .ref (G.cls c) ∧ d = some dd ∧ H dd = some (.xd fv) ∧ Ex F H ∧ RepF G K F fv fs ∧ hnd sub ks c fs = some o ∧
  ∀ (v : V) (F2 H2 : Hp) (bs : List Addr), Step F H [] F2 H2 bs → RepO G K F2 H2 v o bs → Q v H2
structure SubOk (sub : Nat → Nat → Option Bool) : Prop where
  ok : ∀ c k b, sub c k = some b → PySem.W.exmOne K (.ref (G.cls c)) (.ref (G.cls k)) = some b
end
section
variable {G : Gt} {K : PySem.W.Frag} {X : Cx}
/-- the clauses' readings -/
def clsOf (G : Gt) (K : PySem.W.Frag) (i : Nat) (ks : List Cle) : List ClA := ks.map fun k => (.ref (G.cls k.c), k.nm, fun a cls d => tCle K a cls d (G.cls k.c) i k)
theorem wCl_ok {sub : Nat → Nat → Option Bool} (so : SubOk G K sub) {Wo : WX} {Ds : Ends} {i : Nat} {cls : Value} {d : Option Addr} {σ : L2.St} {H : Hp} (hi : i < σ.length) : ∀ {ks : List Cle}, wE G K sub ks Ds.rt cls d H → wCl K Wo Ds i (clsOf G K i ks) cls d σ H
  | [], ⟨_, _, _, _, _, _, _, _, _, _, _, h, _⟩ => by cases h
  | k :: r, ⟨c, dd, fv, fs, o, F, e1, e2, hd, ex, rf, h, q⟩ => by
    subst e1 e2
    unfold hnd at h
    split at h
    · rename_i hs
      refine ⟨true, so.ok _ _ _ hs, fun _ a ha => ?_, fun z => by cases z⟩
      split at h
      · rename_i hc
        split at h
        · rename_i ds hv
          split at h
          · rename_i hz
            cases h
            have body : ∀ (τ : L2.St) (Dz : Ends), (k.xs.all SX.isStr = true ∨ τ[i]? = some (some (.ref a))) → Dz.rt = Ds.rt → tCle K a (.ref (G.cls c)) (some dd) (G.cls k.c) i k Dz τ H := fun τ Dz hτ hr => by
              unfold tCle tRet
              have cond : k.xs.all SX.isStr = true ∨ (Value.ref (G.cls c) = .ref (G.cls k.c) ∧ τ[i]? = some (some (.ref a))) := by
                rcases hτ with z | z
                · exact .inl z
                · cases hb : k.xs.all SX.isStr with
                  | true => exact .inl rfl
                  | false =>
                    rw [hb, Bool.false_or, Bool.and_eq_true, decide_eq_true_eq] at hc
                    exact .inr ⟨by rw [hc.2], z⟩
              cases hk : k.lst with
              | true =>
                rw [hk] at q
                rw [if_pos rfl]
                refine rdXs_ok ex hd rf hv cond fun vs rv => ⟨by rw [rv.len]; exact hz, fun p hp => ?_⟩
                rw [hr]
                exact q (.ref p) F _ [p] (Step.newO ex hp) (.l upd_same (ex.back hp) rv)
              | false =>
                rw [hk] at q
                rw [if_neg (by decide)]
                refine rdXs_ok ex hd rf hv cond fun vs rv => ⟨by rw [rv.len]; exact hz, fun p hp => ?_⟩
                rw [hr]
                have s1 : Step F H [] (upd F p (.tup vs)) (upd H p (.tup vs)) [] := Step.newF ex hp
                exact q (.ref p) _ _ [] s1 (.v (.tup (.inl (.inl upd_same)) (rv.mono s1.ex)))
            cases hn : k.nm with
            | true =>
              rw [if_pos rfl]
              exact body _ _ (.inr (by rw [List.getElem?_set_self hi])) rfl
            | false =>
              rw [if_neg (by decide)]
              refine body _ _ (.inl ?_) rfl
              rw [hn, Bool.false_and, Bool.or_false] at hc
              exact hc
          · cases h
        · cases h
      · cases h
    · rename_i hs
      exact ⟨false, so.ok _ _ _ hs, (fun z => by cases z), fun _ => wCl_ok so hi ⟨c, dd, fv, fs, o, F, rfl, rfl, hd, ex, rf, h, q⟩⟩
    · cases h
theorem takes_len {W : WX} (tk : Takes X W) : Takes X (fun cls d τ H => τ.length = X.N.length → W cls d τ H) := fun u s' ⟨a, B, sI, pins, σ, H, cls, d, e, I, nb, up, sky, na, os, ag, w⟩ => tk u s' ⟨a, B, sI, pins, σ, H, cls, d, e, I, nb, up, sky, na, os, ag, w I.len⟩
/-! ### suites -/
/-- the items of a suite's display -/
def SuA (X : Cx) (C : Addr) (i : Nat) (es : List Expr) (xs : List SX) : Prop := ∀ (a : Addr) (oe : Obj) (cls : Value) (d : Option Addr) (pn : List (Addr × Obj)), Zc cls d oe → (∃ vs, oe.data = .fields vs) → PA (X.suite a ((a, oe) :: pn)) es (rdXs X.K a cls d C i xs)
theorem su_nil {C : Addr} {i : Nat} : SuA X C i [] [] := fun a oe cls d pn hz hf => pa_nil
theorem su_str {C : Addr} {i : Nat} {s : Str} {j} {p : Pos} {es : List Expr} {xs : List SX} (h : SuA X C i es xs) (hs : ∀ env, starEach (.Constant (.str s) j p :: es) env = (false, eval (.Constant (.str s) j p) env) :: starEach es env := by intro _; rfl) : SuA X C i (.Constant (.str s) j p :: es) (.str s :: xs) := fun a oe cls d pn hz hf => pa_cons pe_str (h a oe cls d pn hz hf) (hs _)
theorem su_fld {C : Addr} {i : Nat} {n f : Str} {p0 p : Pos} {es : List Expr} {xs : List SX} (T : XfC X.K C) (hno : PySem.W.findIn X.K (.ref C) f = some none) (hN : X.N[i]? = some n) (hv : Vis X.env.scope n) (h : SuA X C i es xs) (hd : (n == ("__debug__" : Str)) = false := by decide) (hcd : (n == ("__classdict__" : Str)) = false := by decide)
    (hb : ∀ env, attributeBase (.Name n p0) f env (eval (.Name n p0) env) = eval (.Name n p0) env := by intro _; rfl) (hs : ∀ env, starEach (.Attribute (.Name n p0) f p :: es) env = (false, eval (.Attribute (.Name n p0) f p) env) :: starEach es env := by intro _; rfl) : SuA X C i (.Attribute (.Name n p0) f p :: es) (.fld f :: xs) :=
  fun a oe cls d pn hz hf => pa_cons (pe_xf T hno hz hf (pe_var hN hv hd hcd) (hb _)) (h a oe cls d pn hz hf) (hs _)
theorem su_rep {C : Addr} {i : Nat} {n f : Str} {p0 p p1 p2 : Pos} {es : List Expr} {xs : List SX} (T : XfC X.K C) (hno : PySem.W.findIn X.K (.ref C) f = some none) (hN : X.N[i]? = some n) (hv : Vis X.env.scope n) (hgd : X.A.guards = some []) (hu : X.A.units + 66 < cLine) (hg : Gl X "repr") (hm : X.mg "repr" = none) (h : SuA X C i es xs)
    (hd : (n == ("__debug__" : Str)) = false := by decide) (hcd : (n == ("__classdict__" : Str)) = false := by decide) (hb : ∀ env, attributeBase (.Name n p0) f env (eval (.Name n p0) env) = eval (.Name n p0) env := by intro _; rfl)
    (hs1 : ∀ env, starEach [.Attribute (.Name n p0) f p] env = (false, eval (.Attribute (.Name n p0) f p) env) :: starEach [] env := by intro _; rfl) (hs : ∀ env, starEach (.Call (.Name "repr" p1) [.Attribute (.Name n p0) f p] [] p2 :: es) env = (false, eval (.Call (.Name "repr" p1) [.Attribute (.Name n p0) f p] [] p2) env) :: starEach es env := by intro _; rfl) :
    SuA X C i (.Call (.Name "repr" p1) [.Attribute (.Name n p0) f p] [] p2 :: es) (.rep f :: xs) :=
  fun a oe cls d pn hz hf => pa_cons (pe_callB (X := X.suite a ((a, oe) :: pn)) (cr_reprV (X := X.suite a ((a, oe) :: pn)) hgd hu) hg hm (by decide +kernel) (pa_cons (pe_xf T hno hz hf (pe_var hN hv hd hcd) (hb _)) pa_nil (hs1 _)) (by decide) (by decide) (hs1 _) (by rfl)) (h a oe cls d pn hz hf) (hs _)
/-- the clauses -/
inductive HsA (G : Gt) (X : Cx) (n : Str) (i : Nat) : List ExceptHandler → List Cle → Prop
  | nil : HsA G X n i [] []
  | lst {x : Str} {c : Nat} {nm : Bool} {es : List Expr} {xs : List SX} {np p1 p2 pos : Pos} {hds : List ExceptHandler} {ks : List Cle} (hc : Names X x (.ref (G.cls c))) (su : SuA X (G.cls c) i es xs) (r : HsA G X n i hds ks) : HsA G X n i (.ExceptHandler (some (.Name x np)) (if nm = true then some n else none) [.Return (some (.List es p1)) p2] pos :: hds) (⟨c, nm, true, xs⟩ :: ks)
  | tup {x : Str} {c : Nat} {nm : Bool} {es : List Expr} {xs : List SX} {kk : Nat} {np p1 p2 pos : Pos} {hds : List ExceptHandler} {ks : List Cle} (hc : Names X x (.ref (G.cls c))) (su : SuA X (G.cls c) i es xs) (r : HsA G X n i hds ks) : HsA G X n i (.ExceptHandler (some (.Name x np)) (if nm = true then some n else none) [.Return (some (.Tuple es kk p1)) p2] pos :: hds) (⟨c, nm, false, xs⟩ :: ks)
theorem HsA.get {n : Str} {i : Nat} {hds : List ExceptHandler} {ks : List Cle} (h : HsA G X n i hds ks) : HdsA X n hds (clsOf G X.K i ks) := by
  induction h with
  | nil => exact .nil
  | @lst x c nm es xs np p1 p2 pos hds ks hc su _ ih => exact .cons hc (fun a oe cls d pn hz hf => by
      show PSs _ _ (tRet (if true = true then _ else _))
      rw [if_pos rfl]
      exact pss_one (ps_ret (pe_lst (su a oe cls d pn hz hf)))) ih
  | @tup x c nm es xs kk np p1 p2 pos hds ks hc su _ ih => exact .cons hc (fun a oe cls d pn hz hf => by
      show PSs _ _ (tRet (if false = true then _ else _))
      rw [if_neg (by decide)]
      exact pss_one (ps_ret (pe_tup (su a oe cls d pn hz hf)))) ih
end
end Vi

set_option Elab.async false
set_option linter.all false
set_option maxRecDepth 100000
set_option maxHeartbeats 2000000
/-! Vi25: a lambda handed to the def that tells errors, by what is evaluated. -/
namespace Vi
open PySem PySem.Spec L2 LamX
open PyProof.Rows hiding St

/-- what the def gives if nothing is raised: a list of one word, None, or what the lambda gave -/
inductive Md where
  | told (s : Str)
  | non
  | val
def Md.out : Md → O → O
  | .told s, _ => .l [.str s]
  | .non, _ => .v .non
  | .val, o => o
/-- what is still known behind an exception: what is shared -/
def keepV : Vn → Vn
  | [] => []
  | ⟨p, some (.v d)⟩ :: r => ⟨p, some (.v d)⟩ :: keepV r
  | ⟨p, _⟩ :: r => ⟨p, none⟩ :: keepV r
/-- what a lambda uses, and the rest -/
def only : List Bool → Vn → Vn
  | _, [] => []
  | true :: m, s :: r => s :: only m r
  | false :: m, s :: r => ⟨s.pin, none⟩ :: only m r
  | [], s :: r => ⟨s.pin, none⟩ :: only [] r
def less : List Bool → Vn → Vn
  | _, [] => []
  | true :: m, s :: r => ⟨s.pin, none⟩ :: less m r
  | false :: m, s :: r => s :: less m r
  | [], s :: r => s :: less [] r
def merge : List Bool → Vn → Vn → Vn
  | true :: m, s :: r, _ :: c => s :: merge m r c
  | false :: m, _ :: r, s :: c => s :: merge m r c
  | [], _ :: r, s :: c => s :: merge [] r c
  | _, _, _ => []
def vLam (h : Nat → List (Str × D) → Option O) (md : Md) (m : List Bool) (f : Vn → M (O × Vn)) : Vn → M (O × Vn) := fun env => match f (only m env) with
  | some (.ex c fs) => (match h c fs with
    | some o => M.ret (o, merge m (keepV (only m env)) (less m env))
    | none => none)
  | some (.ok (o, e)) => M.ret (md.out o, merge m e (less m env))
  | none => none
section
variable {G : Gt} {K : PySem.W.Frag} {F F' H H' : Hp} {b : Bool}
theorem keep_ok {ts : List Addr} (e : Ex F F') (tb : TabR F' H' G.tab ts) : ∀ {σ0 σ : L2.St} {env : Vn} {as : List Addr}, EnvB G K F H b σ0 σ env as → EnvR G K F' H' σ0 σ (keepV env) ts
  | _, _, _, _, .nil _ => .nil tb
  | _, _, _, _, .no pn q => .no pn (keep_ok e tb q)
  | _, _, _, _, .yes (o := .v d) pn (.v r) q _ => .yes (as := []) pn (.v (r.mono e)) (keep_ok e tb q) fun a m => by simp at m
  | _, _, _, _, .yes (o := .l _) pn _ q _ => .no (fun z => pn z) (keep_ok e tb q)
  | _, _, _, _, .yes (o := .d _) pn _ q _ => .no (fun z => pn z) (keep_ok e tb q)
  | _, _, _, _, .yes (o := .t _) pn _ q _ => .no (fun z => pn z) (keep_ok e tb q)
  | _, _, _, _, .yes (o := .o _ _) pn _ q _ => .no (fun z => pn z) (keep_ok e tb q)
theorem only_no {σ0 σ : L2.St} {s0 s : Option V} {p : Bool} {env : Vn} {as : List Addr} (pn : p = true → s = s0) (q : EnvB G K F H b σ0 σ env as) : EnvB G K F H b (s0 :: σ0) (s :: σ) (⟨p, none⟩ :: env) as := .no pn q
theorem only_ok : ∀ {m : List Bool} {σ0 σ : L2.St} {env : Vn} {as : List Addr}, EnvB G K F H b σ0 σ env as → ∃ a1 a2, EnvB G K F H b σ0 σ (only m env) a1 ∧ EnvB G K F H false σ0 σ (less m env) a2 ∧ (∀ a ∈ a1, a ∉ a2) ∧ (∀ a ∈ a1, a ∈ as) ∧ ∀ a ∈ a2, a ∈ as
  | m, _, _, _, as, .nil z => ⟨as, [], by cases m with
      | nil => exact .nil z
      | cons k m => cases k <;> exact .nil z, by cases m with
      | nil => exact .nil rfl
      | cons k m => cases k <;> exact .nil rfl, fun a _ h => by simp at h, fun a h => h, fun a h => by simp at h⟩
  | m, _, _, _, _, .no (p := p) pn q => by
    obtain ⟨a1, a2, h1, h2, h3, h4, h5⟩ := only_ok (m := m.tail) q
    refine ⟨a1, a2, ?_, ?_, h3, h4, h5⟩
    · cases m with
      | nil => exact .no pn h1
      | cons k m => cases k <;> exact .no pn h1
    · cases m with
      | nil => exact .no pn h2
      | cons k m => cases k <;> exact .no pn h2
  | m, _, _, _, _, .yes (as := c1) (p := p) pn r q d => by
    obtain ⟨a1, a2, h1, h2, h3, h4, h5⟩ := only_ok (m := m.tail) q
    have d1 : ∀ a ∈ c1, a ∉ a1 := fun a m z => d a m (h4 a z)
    have d2 : ∀ a ∈ c1, a ∉ a2 := fun a m z => d a m (h5 a z)
    have rest : ∃ b1 b2, EnvB G K F H b _ _ (⟨p, none⟩ :: only m.tail _) b1 ∧ EnvB G K F H false _ _ (⟨p, some _⟩ :: less m.tail _) b2 ∧ (∀ a ∈ b1, a ∉ b2) ∧ (∀ a ∈ b1, a ∈ c1 ++ _) ∧ ∀ a ∈ b2, a ∈ c1 ++ _ :=
      ⟨a1, c1 ++ a2, .no (fun z => pn z) h1, .yes pn r h2 d2, fun a m z => (List.mem_append.mp z).elim (fun y => d1 a y m) (h3 a m), fun a m => List.mem_append_right _ (h4 a m), fun a m => (List.mem_append.mp m).elim (List.mem_append_left _) fun z => List.mem_append_right _ (h5 a z)⟩
    cases m with
    | nil => exact rest
    | cons k m =>
      cases k with
      | false => exact rest
      | true => exact ⟨c1 ++ a1, a2, .yes pn r h1 d1, .no (fun z => pn z) h2, fun a m z => (List.mem_append.mp m).elim (fun y => d2 a y z) fun y => h3 a y z, fun a m => (List.mem_append.mp m).elim (List.mem_append_left _) fun z => List.mem_append_right _ (h4 a z), fun a m => List.mem_append_right _ (h5 a m)⟩
theorem merge_ok : ∀ {m : List Bool} {σ0 σ : L2.St} {e c : Vn} {a1 a2 : List Addr}, EnvB G K F H b σ0 σ e a1 → EnvB G K F H false σ0 σ c a2 → (∀ a ∈ a1, a ∉ a2) → ∃ as', EnvB G K F H b σ0 σ (merge m e c) as' ∧ ∀ a ∈ as', a ∈ a1 ∨ a ∈ a2
  | m, _, _, _, _, a1, _, .nil z, .nil _, _ => ⟨a1, by cases m with
      | nil => exact .nil z
      | cons k m => cases k <;> exact .nil z, fun a h => .inl h⟩
  | m, _, _, _, _, a1, a2, .no p1 q1, .no p2 q2, d => by
    obtain ⟨as', h1, h2⟩ := merge_ok (m := m.tail) q1 q2 d
    refine ⟨as', ?_, h2⟩
    cases m with
    | nil => exact .no p2 h1
    | cons k m =>
      cases k
      · exact .no p2 h1
      · exact .no p1 h1
  | m, _, _, _, _, _, _, .yes (as := c1) (bs := b1) p1 r1 q1 d1, .no p2 q2, d => by
    obtain ⟨as', h1, h2⟩ := merge_ok (m := m.tail) q1 q2 fun a m => d a (List.mem_append_right _ m)
    have lost : ∃ as2, EnvB G K F H b _ _ (_ :: merge m.tail _ _) as2 ∧ ∀ a ∈ as2, a ∈ c1 ++ b1 ∨ a ∈ _ := ⟨as', .no p2 h1, fun a m => (h2 a m).imp (List.mem_append_right _) id⟩
    cases m with
    | nil => exact lost
    | cons k m =>
      cases k
      · exact lost
      · exact ⟨c1 ++ as', .yes p1 r1 h1 fun a m z => (h2 a z).elim (d1 a m) (d a (List.mem_append_left _ m)), fun a m => (List.mem_append.mp m).elim (fun z => .inl (List.mem_append_left _ z)) fun z => (h2 a z).imp (List.mem_append_right _) id⟩
  | m, _, _, _, _, _, _, .no p1 q1, .yes (as := c2) (bs := b2) p2 r2 q2 d2, d => by
    obtain ⟨as', h1, h2⟩ := merge_ok (m := m.tail) q1 q2 fun a m z => d a m (List.mem_append_right _ z)
    have kept : ∃ as2, EnvB G K F H b _ _ (_ :: merge m.tail _ _) as2 ∧ ∀ a ∈ as2, a ∈ _ ∨ a ∈ c2 ++ b2 := ⟨c2 ++ as', .yes p2 r2 h1 fun a m z => (h2 a z).elim (fun y => d a y (List.mem_append_left _ m)) (d2 a m), fun a m => (List.mem_append.mp m).elim (fun z => .inr (List.mem_append_left _ z)) fun z => (h2 a z).imp id (List.mem_append_right _)⟩
    cases m with
    | nil => exact kept
    | cons k m =>
      cases k
      · exact kept
      · exact ⟨as', .no p1 h1, fun a m => (h2 a m).imp id (List.mem_append_right _)⟩
  | m, _, _, _, _, _, _, .yes (as := c1) (bs := b1) p1 r1 q1 d1, .yes (as := c2) (bs := b2) p2 r2 q2 d2, d => by
    obtain ⟨as', h1, h2⟩ := merge_ok (m := m.tail) q1 q2 fun a m z => d a (List.mem_append_right _ m) (List.mem_append_right _ z)
    have kept : ∃ as2, EnvB G K F H b _ _ (_ :: merge m.tail _ _) as2 ∧ ∀ a ∈ as2, a ∈ c1 ++ b1 ∨ a ∈ c2 ++ b2 := ⟨c2 ++ as', .yes p2 r2 h1 fun a m z => (h2 a z).elim (fun y => d a (List.mem_append_right _ y) (List.mem_append_left _ m)) (d2 a m), fun a m => (List.mem_append.mp m).elim (fun z => .inr (List.mem_append_left _ z)) fun z => (h2 a z).imp (List.mem_append_right _) (List.mem_append_right _)⟩
    cases m with
    | nil => exact kept
    | cons k m =>
      cases k
      · exact kept
      · exact ⟨c1 ++ as', .yes p1 r1 h1 fun a m z => (h2 a z).elim (d1 a m) fun y => d a (List.mem_append_left _ m) (List.mem_append_right _ y), fun a m => (List.mem_append.mp m).elim (fun z => .inl (List.mem_append_left _ z)) fun z => (h2 a z).imp (List.mem_append_right _) (List.mem_append_right _)⟩
theorem TabR.get {P : Addr} {q : Str} : ∀ {T : List (Addr × Str)} {as : List Addr}, TabR F H T as → (P, q) ∈ T → P ∈ as ∧ F P = none ∧ ∃ ps, H P = some (.tbl ps) ∧ TriplesOk ps.toList ∧ ∀ (pos : Pos) (cv : Value), codeAmong pos ps.toList = some cv → ∃ c, cv = .ref c ∧ F c = some (CodeO c q)
  | _, _, .nil, m => by simp at m
  | _, _, .cons h1 h2 h3 h4 r n, m => by
    rcases List.mem_cons.mp m with z | z
    · cases z
      exact ⟨List.mem_cons_self, h2, _, h1, h3, h4⟩
    · obtain ⟨k1, k2⟩ := r.get z
      exact ⟨List.mem_cons_of_mem _ k1, k2⟩
theorem TabR.put {P : Addr} {q : Str} {ps : Array Value} (e : Ex F F') (hP : H' P = some (.tbl ps)) (ok : TriplesOk ps.toList) (cds : ∀ (pos : Pos) (cv : Value), codeAmong pos ps.toList = some cv → ∃ c, cv = .ref c ∧ F' c = some (CodeO c q)) (kp : ∀ b u, b ≠ P → H b = some u → H' b = some u) (nf : ∀ b u, H b = some u → F b = none → F' b = none) :
    ∀ {T : List (Addr × Str)} {as : List Addr}, TabR F H T as → (P, q) ∈ T → TabR F' H' T as
  | _, _, .nil, m => by simp at m
  | _, _, .cons (P := P0) h1 h2 h3 h4 r n, m => by
    rcases List.mem_cons.mp m with z | z
    · cases z
      refine .cons hP (nf _ _ h1 h2) ok cds (r.frame e (fun a ha u hu => kp a u (fun z => n (z ▸ ha)) hu) fun a ha => ?_) n
      obtain ⟨k1, u, k2⟩ := r.off a ha
      exact nf a u k2 k1
    · have ne : P0 ≠ P := fun y => n (y ▸ (r.get z).1)
      exact .cons (kp _ _ ne h1) (nf _ _ h1 h2) h3 (fun pos cv y => let ⟨c, y1, y2⟩ := h4 pos cv y; ⟨c, y1, e _ _ y2⟩) (r.put e hP ok cds kp nf z) n
/-- behind the making the environment stands, and the code is known -/
theorem made_ok {P c' : Addr} {q : Str} {ps : Array Value} {H1 : Hp} {σ0 σ : L2.St} {env : Vn} {as : List Addr} (ex : Ex F H) (er : EnvR G K F H σ0 σ env as) (mt : (P, q) ∈ G.tab) (t : TbAt H P q ps) (m : MadeL P c' q ps H H1) : ∃ F1 as', Step F H as F1 H1 as' ∧ EnvR G K F1 H1 σ0 σ env as' := by
  rcases m with ⟨rfl, _⟩ | ⟨more, hn, rfl, ok, cds⟩
  · exact ⟨F, as, Step.refl ex, er⟩
  · obtain ⟨a1, ta, h1, h2, h3, h4, h5⟩ := er.split
    obtain ⟨m1, m2, ps', m3, m4, m5⟩ := h2.get mt
    have e1 := t.at_
    rw [e1] at m3
    cases m3
    have nP : c' ≠ P := fun z => by
      rw [z, e1] at hn
      cases hn
    have hn1 : upd H P (.tbl (ps ++ more)) c' = none := by
      rw [upd_ne nP]
      exact hn
    have s1 : Step F H ta F (upd H P (.tbl (ps ++ more))) ta := Step.write ex m2 m1
    have s2 : Step F (upd H P (.tbl (ps ++ more))) ta (upd F c' (CodeO c' q)) (upd (upd H P (.tbl (ps ++ more))) c' (CodeO c' q)) ta := Step.newF s1.sub hn1
    have st := s1.trans s2
    have er1 := st.frameE h1 fun x hx z => h3 x z hx
    have tb1 : TabR (upd F c' (CodeO c' q)) (upd (upd H P (.tbl (ps ++ more))) c' (CodeO c' q)) G.tab ta := by
      refine h2.put (P := P) (q := q) (ps := ps ++ more) st.ex ?_ ok (fun pos cv e => ?_) (fun b u hb hu => ?_) (fun b u hu hf => ?_) mt
      · rw [upd_ne (Ne.symm nP)]
        exact upd_same
      · rcases cds pos cv e with z | z
        · obtain ⟨c, z1, z2⟩ := m5 pos cv z
          exact ⟨c, z1, st.ex _ _ z2⟩
        · exact ⟨c', z, upd_same⟩
      · have : b ≠ c' := fun z => by
          rw [z, hn] at hu
          cases hu
        rw [upd_ne this, upd_ne hb]
        exact hu
      · have : b ≠ c' := fun z => by
          rw [z, hn] at hu
          cases hu
        rw [upd_ne this]
        exact hf
    obtain ⟨as', g1, g2⟩ := er1.join tb1 h3
    exact ⟨_, as', ⟨st.ex, st.sub, (st.more h5).keep, fun b hb => .inl ((g2 b hb).elim (h5 b) (h4 b)), (st.more h5).fr⟩, g1⟩
end
/-! ### the def's promise -/
def mdQ (md : Md) (Q : VK) : VK := match md with
  | .told s => fun _ H' => tLst (tCons (tC (.str s)) tNil) [] H' Q
  | .non => fun _ H' => Q .non H'
  | .val => Q
def TTe (G : Gt) (K : PySem.W.Frag) (sub : Nat → Nat → Option Bool) (ks : List Cle) (md : Md) : (XK → Hp → VK → Prop) → Hp → VK → Prop := fun tl H Q => tl (wE G K sub ks Q) H (mdQ md Q)
abbrev WE (E : XK) : WX := fun cls d _ H' => E cls d H'
theorem rd_lam {G : Gt} {K : PySem.W.Frag} {W : WX} {sub : Nat → Nat → Option Bool} {ks : List Cle} {md : Md} {mm : List Bool} {f : Vn → M (O × Vn)} {P : Addr} {q : Str} (mt : (P, q) ∈ G.tab) : RdE G K W (tLamV P q (TTe G K sub ks md) fun E => SE G K (WE E) f) (vLam (hnd sub ks) md mm f) := by
  intro σ0 σ F H env as r Q ex er he po
  obtain ⟨a1, ta, h1, h2, h3, h4, h5⟩ := er.split
  obtain ⟨m1, m2, ps, m3, m4, m5⟩ := h2.get mt
  have t : TbAt H P q ps := ⟨m3, m4, fun pos cv e => let ⟨c, z1, z2⟩ := m5 pos cv e; ⟨c, z1, ex _ _ z2⟩⟩
  refine ⟨ps, t, fun c' H1 m => ?_⟩
  obtain ⟨F1, as1, st, er1⟩ := made_ok ex er mt t m
  obtain ⟨u1, u2, k1, k2, k3, k4, k5⟩ := only_ok (m := mm) er1
  unfold vLam at he
  split at he
  · rename_i c fs hf
    split at he
    · rename_i o ho
      cases he
      refine ⟨σ0, F1, only mm env, u1, _, st.sub, k1, hf, fun d F' H' fv ts s2 tb hd rf => ⟨c, d, fv, fs, o, F', rfl, rfl, hd, s2.sub, rf, ho, fun v F2 H2 bs s3 ro => ?_⟩⟩
      have e1 : EnvR G K F' H' σ0 σ (keepV (only mm env)) ts := keep_ok s2.ex tb k1
      have c1 := s2.frameE k2 fun x hx z => k3 x z hx
      have c2 := s2.apartE k2 fun x hx z => k3 x z hx
      obtain ⟨as', g1, g2⟩ := merge_ok (m := mm) e1 c1 fun a m z => c2 a z m
      have s2' : Step F1 H1 as1 F' H' as' := ⟨s2.ex, s2.sub, (s2.more k4).keep, fun b hb => (g2 b hb).elim ((s2.more k4).own b) fun z => .inl (k5 b z), (s2.more k4).fr⟩
      have e2 := s3.frameE g1 fun x _ z => by simp at z
      have ap := s3.apartE g1 fun x _ z => by simp at z
      have s4 : Step F' H' as' F2 H2 (bs ++ as') := ⟨s3.ex, s3.sub, fun b u e _ => s3.keep b u e (by simp), fun b hb => (List.mem_append.mp hb).elim (fun z => (s3.own b z).imp (fun y => by simp at y) id) .inl, fun b u e => (s3.fr b u e).imp id (Or.imp (fun y => by simp at y) id)⟩
      exact po v F2 H2 bs as' ((st.trans s2').trans s4) e2 ro fun a m z => ap a z m
    · cases he
  · rename_i o e hf
    cases he
    refine ⟨σ0, F1, only mm env, u1, _, st.sub, k1, hf, fun v F' H' bs as2 s2 er2 ro dj => ?_⟩
    have c1 := s2.frameE k2 fun x hx z => k3 x z hx
    have c2 := s2.apartE k2 fun x hx z => k3 x z hx
    obtain ⟨as', g1, g2⟩ := merge_ok (m := mm) er2 c1 fun a m z => c2 a z (List.mem_append_right _ m)
    have dj' : ∀ a ∈ bs, a ∉ as' := fun a m z => (g2 a z).elim (dj a m) fun y => c2 a y (List.mem_append_left _ m)
    have s2' : Step F1 H1 as1 F' H' (bs ++ as') := ⟨s2.ex, s2.sub, (s2.more k4).keep, fun b hb => (List.mem_append.mp hb).elim (fun z => (s2.more k4).own b (List.mem_append_left _ z)) fun z => (g2 b z).elim (fun y => (s2.more k4).own b (List.mem_append_right _ y)) fun y => .inl (k5 b y), (s2.more k4).fr⟩
    have s3 := st.trans s2'
    cases md with
    | val => exact po v F' H' bs as' s3 g1 ro dj'
    | non => exact po .non F' H' [] as' (s3.less fun b m => List.mem_append_right _ m) g1 (.v .non) fun a m => by simp at m
    | told w =>
      refine ⟨(by show 1 ≤ sizeLine; rw [sizeLine_eq]; omega), fun p hp => ?_⟩
      have sn : Step F' H' [] F' (upd H' p (.lst [.str w])) [p] := Step.newO s2.sub hp
      have sn2 : Step F' H' as' F' (upd H' p (.lst [.str w])) ([p] ++ as') := Step.newO s2.sub hp
      refine po (.ref p) F' _ [p] as' ((s3.less fun b m => List.mem_append_right _ m).trans sn2) (sn.frameE g1 fun x _ z => by simp at z) (.l upd_same (s2.sub.back hp) (.cons (.str w) .nil)) fun a m z => ?_
      simp at m
      subst m
      obtain ⟨_, u, hu⟩ := g1.off _ z
      rw [hp] at hu
      cases hu
  · cases he
/-! ### the def's body -/
section
variable {G : Gt} {X : Cx} {Ng : List Str} {x a q e : Str} {sg : Scope} {g : Addr} {cdg : Value} {sub : Nat → Nat → Option Bool} {h0 : ExceptHandler} {hds : List ExceptHandler} {ks : List Cle} {i j : Nat} {p1 p2 p3 p4 p5 p6 p7 : Pos}
/-- the clauses, judged in the def's context -/
def HsG (G : Gt) (X : Cx) (Ng : List Str) (x : Str) (sg : Scope) (g : Addr) (cdg : Value) (e : Str) (i : Nat) (hds : List ExceptHandler) (ks : List Cle) : Prop := ∀ (s : Shared) (H : Hp), (X.A.deeper (envOfC x sg s.heap.objs.size g cdg)).guards = some [] → (X.A.deeper (envOfC x sg s.heap.objs.size g cdg)).units + 66 < cLine →
  HsA G (cxOf C8.CX0 X.prog X.w X.K X.mg X.base Ng x sg g cdg X.A X.stack s H C8.E0).nox e i hds ks
theorem gives_told {w : Str} (so : SubOk G X.K sub) (hN : Ng.Nodup) (hi : Ng[i]? = some e) (hil : i < Ng.length) (hln : ∀ (L : Addr) (cd : Value), (envOfC x sg L g cd).kindOf e = some .local) (h0s : ∀ f : Addr, (L2.start Ng [V.ref f])[0]? = some (some (V.ref f))) (hh : HsG G X Ng x sg g cdg e i (h0 :: hds) ks)
    (hsw : ∀ env, swapsWith (.Call (.Name a p1) [] [] p2) none p3.line env = pure false := by intro _; rfl) :
    GivesV X Ng x sg g cdg [.Try [.Expr (.Call (.Name a p1) [] [] p2) p3] (h0 :: hds) [] [] p4, .Return (some (.List [.Constant (.str w) j p5] p6)) p7] a q (TTe G X.K sub ks (.told w)) := by
  intro f c' s H Q tl hgd hun act hc h
  have hs := hh s H hgd hun
  refine ⟨_, pss_cons (ps_tryA (X := (cxOf C8.CX0 X.prog X.w X.K X.mg X.base Ng x sg g cdg X.A X.stack s H C8.E0).nox) (Wo := fun _ _ _ _ => False) (n := e) (i := i) (l := clsOf G X.K i ks)
      (tb := fun W D σ H => ∃ E : XK, (∀ cls d σ' H', σ'.length = Ng.length → E cls d H' → W cls d σ' H') ∧ σ[0]? = some (some (.ref f)) ∧ H c' = some (CodeO c' q) ∧ tl E H fun _ H' => D.nx σ H')
      rfl rfl hN hi (hln _ _) L2.takes0 (fun W pn xe tk _ => ?_) hs.get) (pss_one (ps_ret (pe_lst (pa_cons pe_str pa_nil (by rfl))))), ?_⟩
  · refine ⟨fun pins s' σ H' D I h' => ?_⟩
    obtain ⟨E, hW, h1, h2, h3⟩ := h'
    have hp := act (fun cls d τ H => τ.length = Ng.length → W cls d τ H) pn xe E p1 p2 (takes_len tk) fun cls d τ H' z l => hW cls d τ H' l z
    have hq := pss_one (ps_expr (pos := p3) hp (hsw _))
    exact hq.run pins s' σ H' D I ⟨h1, h2, h3⟩
  · refine ⟨wE G X.K sub ks Q, fun cls d σ' H' l z => wCl_ok so (by rw [l]; exact hil) z, h0s f, hc, ?_⟩
    refine h
theorem gives_non {jj : Nat} {c0 : Const} (so : SubOk G X.K sub) (hN : Ng.Nodup) (hi : Ng[i]? = some e) (hil : i < Ng.length) (hln : ∀ (L : Addr) (cd : Value), (envOfC x sg L g cd).kindOf e = some .local) (h0s : ∀ f : Addr, (L2.start Ng [V.ref f])[0]? = some (some (V.ref f))) (hh : HsG G X Ng x sg g cdg e i (h0 :: hds) ks)
    (hsw : ∀ env, swapsWith (.Call (.Name a p1) [] [] p2) none p3.line env = pure false := by intro _; rfl) :
    GivesV X Ng x sg g cdg [.Try [.Expr (.Call (.Name a p1) [] [] p2) p3] (h0 :: hds) [] [] p4, .Return (some (.Constant .none jj p5)) p6] a q (TTe G X.K sub ks .non) := by
  intro f c' s H Q tl hgd hun act hc h
  have hs := hh s H hgd hun
  refine ⟨_, pss_cons (ps_tryA (X := (cxOf C8.CX0 X.prog X.w X.K X.mg X.base Ng x sg g cdg X.A X.stack s H C8.E0).nox) (Wo := fun _ _ _ _ => False) (n := e) (i := i) (l := clsOf G X.K i ks)
      (tb := fun W D σ H => ∃ E : XK, (∀ cls d σ' H', σ'.length = Ng.length → E cls d H' → W cls d σ' H') ∧ σ[0]? = some (some (.ref f)) ∧ H c' = some (CodeO c' q) ∧ tl E H fun _ H' => D.nx σ H')
      rfl rfl hN hi (hln _ _) L2.takes0 (fun W pn xe tk _ => ?_) hs.get) (pss_one (ps_ret pe_non)), ?_⟩
  · refine ⟨fun pins s' σ H' D I h' => ?_⟩
    obtain ⟨E, hW, h1, h2, h3⟩ := h'
    have hp := act (fun cls d τ H => τ.length = Ng.length → W cls d τ H) pn xe E p1 p2 (takes_len tk) fun cls d τ H' z l => hW cls d τ H' l z
    have hq := pss_one (ps_expr (pos := p3) hp (hsw _))
    exact hq.run pins s' σ H' D I ⟨h1, h2, h3⟩
  · refine ⟨wE G X.K sub ks Q, fun cls d σ' H' l z => wCl_ok so (by rw [l]; exact hil) z, h0s f, hc, ?_⟩
    exact h
theorem gives_val (so : SubOk G X.K sub) (hN : Ng.Nodup) (hi : Ng[i]? = some e) (hil : i < Ng.length) (hln : ∀ (L : Addr) (cd : Value), (envOfC x sg L g cd).kindOf e = some .local) (h0s : ∀ f : Addr, (L2.start Ng [V.ref f])[0]? = some (some (V.ref f))) (hh : HsG G X Ng x sg g cdg e i (h0 :: hds) ks) :
    GivesV X Ng x sg g cdg [.Try [.Return (some (.Call (.Name a p1) [] [] p2)) p3] (h0 :: hds) [] [] p4] a q (TTe G X.K sub ks .val) := by
  intro f c' s H Q tl hgd hun act hc h
  have hs := hh s H hgd hun
  refine ⟨_, pss_one (ps_tryA (X := (cxOf C8.CX0 X.prog X.w X.K X.mg X.base Ng x sg g cdg X.A X.stack s H C8.E0).nox) (Wo := fun _ _ _ _ => False) (n := e) (i := i) (l := clsOf G X.K i ks)
      (tb := fun W D σ H => ∃ E : XK, (∀ cls d σ' H', σ'.length = Ng.length → E cls d H' → W cls d σ' H') ∧ σ[0]? = some (some (.ref f)) ∧ H c' = some (CodeO c' q) ∧ tl E H D.rt)
      rfl rfl hN hi (hln _ _) L2.takes0 (fun W pn xe tk _ => ?_) hs.get), ?_⟩
  · refine ⟨fun pins s' σ H' D I h' => ?_⟩
    obtain ⟨E, hW, h1, h2, h3⟩ := h'
    have hp := act (fun cls d τ H => τ.length = Ng.length → W cls d τ H) pn xe E p1 p2 (takes_len tk) fun cls d τ H' z l => hW cls d τ H' l z
    have hq := pss_one (ps_ret (pos := p3) hp)
    exact hq.run pins s' σ H' D I ⟨h1, h2, h3⟩
  · exact ⟨wE G X.K sub ks Q, fun cls d σ' H' l z => wCl_ok so (by rw [l]; exact hil) z, h0s f, hc, h⟩
end
/-- what is asked of the def that tells errors: x at G.fn n, with the subclasses sub, the clauses ks, the end md -/
structure Er (P : Program) (w : World) (K : PySem.W.Frag) (mg : Str → Option Value) (base : Heap) (G : Gt) (x : Str) (n : Nat) (sub : Nat → Nat → Option Bool) (ks : List Cle) (md : Md) : Prop where
  mge : mg x = some (.ref (G.fn n))
  ex : ∃ (a : Str) (pg : Arguments) (bg : List Stmt) (sg : Scope) (fdg : FuncData) (Ng : List Str), FunD K x x pg bg sg [] [] (G.fn n) fdg ∧ L2.Binds K fdg [a] [] ∧ FnScope Ng [a] sg ∧ Vis sg a ∧ Ng[0]? = some a ∧ (a == ("__debug__" : Str)) = false ∧ (a == ("__classdict__" : Str)) = false ∧
    ∀ (X : Cx) (q : Str) (cdg : Value), X.prog = P → X.w = w → X.K = K → X.mg = mg → X.base = base → GivesV X Ng x sg (G.fn n) cdg bg a q (TTe G K sub ks md)
section
variable {G : Gt} {X : Cx} {W : WX}
theorem ce_lam {x q : Str} {c P : Addr} {n j k : Nat} {sub : Nat → Nat → Option Bool} {ks : List Cle} {md : Md} {mm : List Bool} {f : Vn → M (O × Vn)} {params : Arguments} {body : Expr} {scope : Scope} {p lpos pos : Pos} (er : Er X.prog X.w X.K X.mg X.base G x n sub ks md) (ck : Cok X W) (hg : Gl X x) (mt : (P, q) ∈ G.tab) (TB : TabB X.base X.mg c P) (hcode : X.env.code = .ref c) (hq : q = X.env.qual ++ "<lambda>") (hr : Room j X.A) (hk : k + 2 ≤ j) (L : LamS X.env.scope scope)
    (hdef : defaultsOf params X.env = ([], [])) (hbind : ∀ (cl : List (Str × Addr)) (pm cv ctv : Value), bindArgs (PySem.W.kla_fn "<lambda>" q params body scope cl pm cv ctv) ⟨[], []⟩ = pure [])
    (hbody : ∀ (A : Around) (outer : List Env) (s : Shared) (H : Hp) (E : XK) (f' c' : Addr), Room k (A.deeper (lamEnv X scope s.heap.objs.size f' c')) → Cok (lamCx X A outer s H E scope f' c') (WE E) → CE G (lamCx X A outer s H E scope f' c') (WE E) body f) (hdb : (x == ("__debug__" : Str)) = false := by decide) : CE G X W (.Call (.Name x p) [.Lambda params body scope lpos] [] pos) (vLam (hnd sub ks) md mm f) := by
  obtain ⟨a, pg, bg, sg, fdg, Ng, F, b, S, hv, hN, hd, hcd, hG⟩ := er.ex
  refine ⟨_, pe_lamV ck hg er.mge F b S hv hN (fun cdg => hG X q cdg rfl rfl rfl rfl rfl) TB hcode hq (hr.mono hk) L hdef hbind (fun A outer s H E f' c' hr' hgd => ce_se (hbody A outer s H E f' c' hr' ⟨ck.nd, hgd, ?_, ?_⟩)) hdb hd hcd, rd_lam mt⟩
  · have := hr'.un
    show (A.deeper (lamEnv X scope s.heap.objs.size f' c')).units + 200 < cLine
    omega
  · exact takes_of rfl rfl rfl rfl
end
end Vi

set_option Elab.async false
set_option linter.all false
set_option maxRecDepth 100000
set_option maxHeartbeats 2000000
/-! Vi26: xs.count(x); defs that make lambdas. -/
namespace Vi
open PySem PySem.Spec L2 LamX
open PyProof.Rows hiding St

section
variable {G : Gt} {K : PySem.W.Frag} {X : Cx} {W : WX}
def rCnt (K : PySem.W.Frag) : List V → Hp → VK → Prop
  | x :: xs => rCount K x xs
  | [] => fun _ _ => False
theorem ok_cnt : OpOk G K (rCnt K) fCount := by
  intro F H vs ds o Q ex hv hr k
  unfold fCount at hr
  split at hr
  · obtain ⟨x, y, rfl, h1, h2⟩ := hv.two
    split at hr
    · rename_i kk us e1 e2
      cases hr
      obtain ⟨a, xs, rfl, q1, r⟩ := h1.lst ex
      obtain ⟨z1, z2⟩ := r.flats e2
      subst z1
      obtain ⟨z3, z4⟩ := h2.flat e1
      subst z3
      exact ⟨a, _, _, rfl, rfl, .inl q1, z4, z2, toV ex k (.int _)⟩
    · cases hr
  · cases hr
/-- xs.count(x): xs a list that a slot holds -/
def vCnt (i : Nat) (g : Vn → M (List Lr × Vn)) : Vn → M (O × Vn) := fun env => match env[i]? with
  | some ⟨_, some (.l _)⟩ => vOp fCount (vSl i g) env
  | _ => none
theorem rd_cnt {i : Nat} {t : TA} {g : Vn → M (List Lr × Vn)} (h : RdA G K W t g) : RdE G K W (tBM K "list" (rCount K) (tVar i) t) (vCnt i g) := by
  intro σ0 σ F H env as r Q ex er he po
  unfold vCnt at he
  split at he
  · rename_i p0 xs0 hx0
    obtain ⟨v, a1, h1, h2, _⟩ := er.mut hx0
    have ty : tyV K "list" v H := by
      cases h2 with
      | l e1 e2 r2 => exact .inl ⟨rfl, _, .inl (.inl e1)⟩
    obtain ⟨w, q1, q2⟩ := rd_op (rd_sl h) (r0 := rCnt K) ok_cnt σ0 σ F H env as r Q ex er he po
    rw [h1] at q1
    cases q1
    exact ⟨v, h1, ty, q2⟩
  · cases he
theorem ce_count {i : Nat} {x : Str} {e : Expr} {p0 apos cpos : Pos} {g : Vn → M (List Lr × Vn)} (hN : X.N[i]? = some x) (hv : Vis X.env.scope x) (ha : CA G X W [e] g) (hd : (x == ("__debug__" : Str)) = false := by decide) (hcd : (x == ("__classdict__" : Str)) = false := by decide)
    (hba : attributeBase (.Name x p0) "count" X.env (eval (.Name x p0) X.env) = eval (.Name x p0) X.env := by rfl)
    (hfw : ((backTo cpos (starEach [e] X.env)).all (fun x => !x.1) && (backToKw cpos (keywordEach [] X.env)).all (fun x => x.1.isSome) && decide ([e].length + ([] : List Keyword).length + (if ([] : List Keyword).isEmpty then 0 else 1) < 30)) = true := by rfl)
    (hli : (apos.endLine == cpos.line) = true := by rfl) (hs : starEach [e] X.env = (false, eval e X.env) :: starEach [] X.env := by rfl) (hpl : (backTo cpos (starEach [] X.env)).any (·.1) = false := by rfl) :
    CE G X W (.Call (.Attribute (.Name x p0) "count" apos) [e] [] cpos) (vCnt i g) := let ⟨_, p, r⟩ := ha; ⟨_, pe_bm PySem.F.plainAttrs_list PySem.F.slot_list_count PySem.F.type_list_count mt_countV (pe_var hN hv hd hcd) p hba hfw hli hs hpl, rd_cnt r⟩
end
/-! ### defs whose code objects are known -/
section
variable {P : Program} {w : World} {K : PySem.W.Frag} {mg : Str → Option Value} {base : Heap} {G : Gt}
/-- as fn_mk, of a def with the code object fd.code -/
theorem fn_mkT {k i n m : Nat} {x qual : Str} {params : Arguments} {body : List Stmt} {scope : Scope} {fd : FuncData} {N ps : List Str} {b : Vn → M (Fl × Vn)} (F : FunD K x qual params body scope [] [] (G.fn i) fd) (S : FnScope N ps scope) (hn : N.length = n + m) (hps : ps.length = n) (hp : plainPs params ps = true) (hm : mg x = some (.ref (G.fn i)))
    (hb : ∀ (A : Around) (outer : List Env) (s : Shared) (H : Hp) (E : XK), Room k (A.deeper (envOfC qual scope s.heap.objs.size (G.fn i) fd.code)) → Cok (cxOf (L2.CX P w) P w K mg base N qual scope (G.fn i) fd.code A outer s H E) (fun cls d _ H' => E cls d H') →
      CSs G (cxOf (L2.CX P w) P w K mg base N qual scope (G.fn i) fd.code A outer s H E) (fun cls d _ H' => E cls d H') body b) : Fn P w K mg base G (k + 1) x i n (vFn n m b) := by
  refine ⟨⟨fd, ps, fg_ofC F S (fun vs H Q E h => ?_) fun A outer s H vs Q E hr hg h => ?_, fd_binds F hp⟩, F.kp, hm, fun _ _ h => vFn_len h⟩
  · rw [h.1, hps]
  · have ck : Cok (cxOf (L2.CX P w) P w K mg base N qual scope (G.fn i) fd.code A outer s H E) (fun cls d _ H' => E cls d H') := ⟨S.nd, hg, by have := hr.un; show (A.deeper (envOfC qual scope s.heap.objs.size (G.fn i) fd.code)).units + 200 < cLine; omega, takes_of rfl rfl rfl rfl⟩
    obtain ⟨t, p, r⟩ := hb A outer s H E hr ck
    exact ⟨t, p, body_ok hn r h⟩
/-- the __init__ of the class number c -/
theorem cl_mk {k c n m : Nat} {f : Addr} {x qual : Str} {params : Arguments} {body : List Stmt} {scope : Scope} {fd : FuncData} {N ps : List Str} {b : Vn → M (Fl × Vn)} (mk : Mk K (G.cls c) f) (F : FunD K x qual params body scope [] [] f fd) (S : FnScope N ps scope) (hn : N.length = n + m) (hps : ps.length = n) (hp : plainPs params ps = true)
    (hb : ∀ (cdv : Value) (A : Around) (outer : List Env) (s : Shared) (H : Hp) (E : XK), Room k (A.deeper (envOfC qual scope s.heap.objs.size f cdv)) → Cok (cxOf (L2.CX P w) P w K mg base N qual scope f cdv A outer s H E) (fun cls d _ H' => E cls d H') →
      CSs G (cxOf (L2.CX P w) P w K mg base N qual scope f cdv A outer s H E) (fun cls d _ H' => E cls d H') body b) : Cl P w K mg base G (k + 1) c n (vFn n m b) := by
  refine ⟨⟨f, fd, ps, mk, fg_of F S (fun vs H Q E h => ?_) fun cdv A outer s H vs Q E hr hg h => ?_, fd_binds F hp⟩, fun _ _ h => vFn_len h⟩
  · rw [h.1, hps]
  · have ck : Cok (cxOf (L2.CX P w) P w K mg base N qual scope f cdv A outer s H E) (fun cls d _ H' => E cls d H') := ⟨S.nd, hg, by have := hr.un; show (A.deeper (envOfC qual scope s.heap.objs.size f cdv)).units + 200 < cLine; omega, takes_of rfl rfl rfl rfl⟩
    obtain ⟨t, p, r⟩ := hb cdv A outer s H E hr ck
    exact ⟨t, p, body_ok hn r h⟩
/-- the statements of a class -/
def clsBody : Stmt → List Stmt
  | .ClassDef (body := b) .. => b
  | _ => []
/-- what a law's def with lambdas is: its code object, its table -/
def FunT (K : PySem.W.Frag) (mg : Str → Option Value) (base : Heap) (G : Gt) (x qual lq : Str) (params : Arguments) (body : List Stmt) (scope : Scope) (f : Addr) : Prop := ∃ (fd : FuncData) (c P : Addr), FunD K x qual params body scope [] [] f fd ∧ fd.code = .ref c ∧ TabB base mg c P ∧ (P, lq) ∈ G.tab
end
end Vi

set_option Elab.async false
set_option linter.all false
set_option maxRecDepth 100000
set_option maxHeartbeats 2000000
/-! Vi27: who is whose subclass; the end. -/
namespace Vi
open PySem PySem.Spec L2 LamX
open PyProof.Rows hiding St

def subOf (l : List ((Nat × Nat) × Bool)) (c k : Nat) : Option Bool := (l.find? fun p => p.1.1 == c && p.1.2 == k).map (·.2)
theorem sub_ok {G : Gt} {K : PySem.W.Frag} {l : List ((Nat × Nat) × Bool)} (h : ∀ p ∈ l, PySem.W.exmOne K (.ref (G.cls p.1.1)) (.ref (G.cls p.1.2)) = some p.2) : SubOk G K (subOf l) := ⟨fun c k b e => by
  unfold subOf at e
  obtain ⟨p, e1, e2⟩ := Option.map_eq_some_iff.mp e
  have q := List.find?_some e1
  rw [Bool.and_eq_true] at q
  have q1 : p.1.1 = c := by simpa using q.1
  have q2 : p.1.2 = k := by simpa using q.2
  rw [← q1, ← q2, ← e2]
  exact h p (List.mem_of_find?_eq_some e1)⟩
/-! ### the law is called -/
theorem tabs_new {F H : Hp} : ∀ {T : List (Addr × Str)}, (T.map (·.1)).Nodup → (∀ p ∈ T, H p.1 = some (.tbl #[]) ∧ F p.1 = none) → TabR F H T (T.map (·.1))
  | [], _, _ => .nil
  | (P, q) :: r, nd, h => by
    have nd' := List.nodup_cons.mp nd
    exact .cons (h _ List.mem_cons_self).1 (h _ List.mem_cons_self).2 trivial (fun pos cv e => by cases e) (tabs_new nd'.2 fun p m => h p (List.mem_cons_of_mem _ m)) nd'.1
/-- the cells of a script as data -/
theorem reps_ints {G : Gt} {K : PySem.W.Frag} {F : Hp} : ∀ ns : List Int, Reps G K F (ns.map V.int) (ns.map D.int)
  | [] => .nil
  | n :: r => .cons (.int n) (reps_ints r)
/-- the heap that is tracked at the start: the script, the tables -/
def hpAt (a : Addr) (ob : Obj) (xs : List V) (T : List (Addr × Str)) : Hp := fun b => if b = a then some (.frz ob (.lst xs)) else if b ∈ T.map (·.1) then some (.tbl #[]) else none
structure Laid (K : PySem.W.Frag) (mg : Str → Option Value) (G : Gt) (cs : List (Addr × Addr)) (h : Heap) : Prop where
  kin : K.In h
  nol : ∀ a o, K.lookup a = some o → o.cls ≠ .type "list"
  tab : G.tab.map (·.1) = cs.map (·.2)
  nd : (G.tab.map (·.1)).Nodup
  at_ : ∀ p ∈ cs, h.get? p.2 = some { cls := .none, data := .fields #[] }
  nok : ∀ p ∈ cs, K.lookup p.2 = none
  hd : ∀ p ∈ cs, PySem.W.CodeHd h p.1 p.2
theorem law_run {P : Program} {w : World} {K : PySem.W.Frag} {mg mb : Str → Option Value} {G : Gt} {k i : Nat} {x : Str} {cs : List (Addr × Addr)} {v : Vn → M (O × Vn)} {e' : Vn} {t : Shared} {a : Addr} {vs : List Value} {ns : List Int} (L : Laid K mg G cs t.heap) (g1 : t.heap.Ns mainGlobals mg) (g2 : t.heap.Ns builtinsNs mb) (g3 : ∀ x : Str, x ≠ "__name__" → mb x = bootBuiltins x) (g4 : t.heap.NoLimit) (g5 : t.gens = #[])
    (g6 : ∃ (bm : Addr) (ob : Obj), mg "__builtins__" = some (.ref bm) ∧ bm ≠ builtinsNs ∧ t.heap.get? bm = some ob ∧ ob.cls = .type "module" ∧ ob.dict = some builtinsNs ∧ ob.data = .plain)
    (ha : t.heap.get? a = some { cls := .type "list", data := .seq vs.toArray }) (hi : IntsAre vs ns) (hl : ns.length ≤ sizeLine) (hr : Room k callerA)
    (F : ∀ base : Heap, K.In base → base.Ns mainGlobals mg → (∀ p ∈ cs, TabB base mg p.1 p.2) → Fn P w K mg base G k x i 1 v) (hv : v [⟨false, some (.v (.lst (ns.map D.int)))⟩] = some (.ok (.v (.bl true), e'))) :
    codeAny (model P w) callerA (.call (.ref (G.fn i)) ⟨[.ref a], []⟩) (fun r s' => r = .ok (.ret (.bool true)) ∧ OldK t.heap s'.heap ∧ s'.os = t.os ∧ AllBare s'.gens) t := by
  have rv := vals_ints hi
  have lv := hi.length
  have tabAt : ∀ b ∈ G.tab.map (·.1), ∃ p ∈ cs, p.2 = b := fun b hb => by
    rw [L.tab] at hb
    exact List.mem_map.mp hb
  have objAt : ∀ b ∈ G.tab.map (·.1), t.heap.get? b = some { cls := .none, data := .fields #[] } := fun b hb => by
    obtain ⟨p, hp, rfl⟩ := tabAt b hb
    exact L.at_ p hp
  have aNot : a ∉ G.tab.map (·.1) := fun z => by
    have q := objAt a z
    rw [ha] at q
    exact absurd (congrArg Obj.data (Option.some.inj q)) (by intro y; cases y)
  have aK : K.lookup a = none := by
    cases q : K.lookup a with
    | none => rfl
    | some o =>
      have q2 := L.kin a o q
      rw [ha] at q2
      cases q2
      exact absurd rfl (L.nol a _ q)
  let ob : Obj := { cls := .type "list", data := .seq vs.toArray }
  have H0 : ∀ (U : Hp), U = hpAt a ob (ns.map V.int) G.tab → codeAny (model P w) callerA (.call (.ref (G.fn i)) ⟨[.ref a], []⟩) (fun r s' => r = .ok (.ret (.bool true)) ∧ OldK t.heap s'.heap ∧ s'.os = t.os ∧ AllBare s'.gens) t := by
    intro U eU
    have uA : U a = some (.frz ob (.lst (ns.map V.int))) := by rw [eU]; exact if_pos rfl
    have uT : ∀ b ∈ G.tab.map (·.1), U b = some (.tbl #[]) := fun b hb => by
      rw [eU]
      exact (if_neg (show ¬ b = a from fun z => aNot (by rw [← z]; exact hb))).trans (if_pos hb)
    have uN : ∀ b, b ≠ a → b ∉ G.tab.map (·.1) → U b = none := fun b n1 n2 => by
      rw [eU]
      exact (if_neg n1).trans (if_neg n2)
    have ok : HOk P w U t.heap := fun b u e => by
      by_cases n1 : b = a
      · subst n1
        rw [uA] at e
        cases e
        exact ⟨ha, by rw [List.length_map]; exact hl, vs, _, rv, ha⟩
      · by_cases n2 : b ∈ G.tab.map (·.1)
        · rw [uT b n2] at e
          cases e
          exact objAt b n2
        · rw [uN b n1 n2] at e
          cases e
    -- objects of other shapes are not tracked
    have other : ∀ {b : Addr} {o : Obj}, t.heap.get? b = some o → (∀ ws n, o.data ≠ .seq ws n) → o.data ≠ .fields #[] → U b = none := fun {b o} e n1 n2 => by
      refine uN b (fun z => ?_) fun z => ?_
      · subst z
        rw [ha] at e
        cases e
        exact n1 _ _ rfl
      · rw [objAt b z] at e
        cases e
        exact n2 rfl
    have stays : ∀ {b : Addr} {o : Obj}, t.heap.get? b = some o → U b = none → (hidT t.heap U).get? b = some o := fun e n => hidT_get e n
    have names : ∀ {b : Addr} {m : Str → Option Value}, t.heap.Ns b m → (hidT t.heap U).Ns b m := fun {b m} ⟨o, es, ep, e, d, r⟩ => by
      refine ⟨o, es, ep, stays e (other e (fun ws n z => ?_) fun z => ?_), d, r⟩
      · rw [d] at z
        cases z
      · rw [d] at z
        cases z
    have kin : K.In (hidT t.heap U) := fun b o e => by
      refine stays (L.kin b o e) (uN b (fun z => ?_) fun z => ?_)
      · rw [z, aK] at e
        cases e
      · obtain ⟨p, hp, rfl⟩ := tabAt b z
        rw [L.nok p hp] at e
        cases e
    have md : L2.Mod K mg (hidT t.heap U) := ⟨kin, names g1, ⟨mb, names g2, g3⟩, let ⟨mc, z1, z2⟩ := g4; ⟨mc, names z1, z2⟩⟩
    have tbs : ∀ p ∈ cs, TabB (hidT t.heap U) mg p.1 p.2 := fun p hp => by
      have tp := L.at_ p hp
      obtain ⟨o, us, file, tf, flags, tg, inF, text, tt, e1, e2, e3, e4, rest⟩ := L.hd p hp
      refine ⟨⟨o, us, file, tf, flags, tg, inF, text, tt, stays e1 (other e1 (fun ws n z => ?_) fun z => ?_), e2, e3, e4, rest⟩, ?_, fun z => ?_⟩
      · rw [e3] at z
        cases z
      · rw [e3] at z
        cases z
        simp at e4
      · obtain ⟨bm, om, b1, b2, b3, b4, b5, b6⟩ := g6
        refine ⟨bm, om, b1, b2, fun z => ?_, fun z => ?_, stays b3 (other b3 (fun ws n z => ?_) fun z => ?_), b4, b5, b6⟩
        · obtain ⟨o2, es, ep, q1, q2, _⟩ := g1
          rw [z, q1] at b3
          cases b3
          rw [q2] at b6
          cases b6
        · rw [z, tp] at b3
          cases b3
          cases b6
        · rw [b6] at z
          cases z
        · rw [b6] at z
          cases z
      · obtain ⟨o2, es, ep, q1, q2, _⟩ := g1
        rw [z, tp] at q1
        cases q1
        cases q2
    have e0 : Env0 P w K mg (hidT t.heap U) callerA [] t U := ⟨rfl, md, fun b o e => of_hidT e, Nat.le_of_eq (hidT_size _ _), trivial, fun b hb => absurd (show b ∈ ([] : List Addr) from hb) (by simp), ok, .of_eq g5⟩
    have Fx := F _ kin (names g1) tbs
    obtain ⟨fd, ps, fg, bd⟩ := Fx.fn
    obtain ⟨F0, f1, f2⟩ : ∃ F0 : Hp, F0 a = some (.frz ob (.lst (ns.map V.int))) ∧ ∀ b, b ≠ a → F0 b = none := ⟨fun b => if b = a then some (.frz ob (.lst (ns.map V.int))) else none, if_pos rfl, fun b z => if_neg z⟩
    have W0 : Ex F0 U := fun b u e => by
      by_cases n1 : b = a
      · subst n1
        rw [f1] at e
        rw [uA]
        exact e
      · rw [f2 b n1] at e
        cases e
    have er : EnvR G K F0 U [some (.ref a)] [some (.ref a)] [⟨false, some (.v (.lst (ns.map D.int)))⟩] (G.tab.map (·.1)) := by
      refine .yes (as := []) (fun z => by cases z) (.v (.lst (.inr ⟨ob, f1⟩) (reps_ints ns))) (.nil (tabs_new L.nd fun p hp => ?_)) fun b m => by simp at m
      have m1 : p.1 ∈ G.tab.map (·.1) := List.mem_map.mpr ⟨p, hp, rfl⟩
      exact ⟨uT _ m1, f2 _ fun z => aNot (by rw [← z]; exact m1)⟩
    have sp : spF G K 1 v [.ref a] U (fun y _ => y = .bl true) fun _ _ _ => False := ⟨rfl, _, _, _, _, W0, er, hv, fun y F' H' bs as' σ' _ _ ry _ => by
      cases ry with
      | v ry =>
        cases ry
        rfl⟩
    have lp : ps.length = 1 := (fg.len _ _ _ _ sp).symm
    have bt : BindsTo t fd ⟨[.ref a], []⟩ (ps.zip [Value.ref a]) := bd t [.ref a] L.kin (by rw [lp]; rfl)
    refine codeAny_mono (fg.run callerA [] t U ⟨[.ref a], []⟩ [.ref a] [.ref a] _ _ hr rfl e0 bt (.cons rfl .nil) sp) fun r s' h => ?_
    cases r with
    | error e =>
      obtain ⟨_, _, _, _, _, _, _, _, _, _, _, _, z⟩ := h
      exact z.elim
    | ok fl =>
      cases fl with
      | next => exact h.elim
      | brk => exact h.elim
      | cont => exact h.elim
      | ret u =>
        obtain ⟨y, H', os, bare, un, ok', ry, q⟩ := h
        cases (show y = V.bl true from q)
        cases (show u = Value.bool true from ry)
        have same : ∀ b o, b ∉ G.tab.map (·.1) → t.heap.get? b = some o → s'.heap.get? b = some o := fun b o n2 e => by
          by_cases n1 : b = a
          · subst n1
            have q1 := (ok' _ _ (un.frzs b ob _ uA)).1
            rw [ha] at e
            cases e
            exact q1
          · exact un.keep b o e (uN b n1 n2) (by simp [frs]) (by simp)
        have more : ∀ b ∈ G.tab.map (·.1), ∃ ws : Array Value, s'.heap.get? b = some { cls := .none, data := .fields ws } := fun b hb => by
          obtain ⟨ws, z⟩ := un.tbls b #[] (uT b hb)
          exact ⟨_, ok' b _ z⟩
        refine ⟨rfl, ⟨fun b o e => ?_, fun b o e => ?_⟩, os, bare⟩
        · by_cases n2 : b ∈ G.tab.map (·.1)
          · obtain ⟨ws, z⟩ := more b n2
            have e2 := objAt b n2
            obtain ⟨p, hp, ep⟩ := tabAt b n2
            rw [e2] at e
            cases e
            refine .inr (.inl ⟨?_, rfl, #[], ws, rfl, by rw [Array.empty_append]; exact z⟩)
            rw [← ep]
            exact ((L.hd p hp).tab (ps := #[]) (L.at_ p hp)).isCodeTable
          · exact .inl (same b o n2 e)
        · by_cases n2 : b ∈ G.tab.map (·.1)
          · obtain ⟨ws, z⟩ := more b n2
            exact ⟨_, z⟩
          · exact ⟨o, same b o n2 e⟩
  exact H0 _ rfl
/-- the end: the law's row, by what its def does -/
theorem walk_V {l : PySem.W.OpenLaw} {n k i : Nat} {x : Str} {q : Program} {loose : List Str} {XP : (Str → Option Value) → Heap → Prop} {YP : World → Heap → Prop} {d : DefRec} {v : Vn → M (O × Vn)}
    (hn : l.most = some n) (hn2 : n ≤ sizeLine) (hdf : d.params.defaults = []) (hr : Room k callerA) (hx : d.name = x)
    (F : ∀ (w : World) (mg : Str → Option Value) (h : Heap), YP w h → h.Ns mainGlobals mg → ∃ (K : PySem.W.Frag) (G : Gt) (cs : List (Addr × Addr)), Laid K mg G cs h ∧ mg x = some (.ref (G.fn i)) ∧ ∀ base : Heap, K.In base → base.Ns mainGlobals mg → (∀ p ∈ cs, TabB base mg p.1 p.2) → Fn l.prog w K mg base G k x i 1 v)
    (hv : ∀ ns : List Int, ns.length ≤ n → (∀ z ∈ ns, Builtin.Int.intBits z ≤ 1048576) → ∃ e', v [⟨false, some (.v (.lst (ns.map D.int)))⟩] = some (.ok (.v (.bl true), e'))) :
    PySem.W.WalkO q loose XP YP l.row.toRowW d [] (fun f vs => PySem.call f vs) := by
  refine Att.attach_callB hn hdf fun w s₀ t mg mb fa o pm cd doc a vs ns G Y ho hd hcd hmg hobj hints hlen hbits hg => ?_
  obtain ⟨K, Gt, cs, L, hm, Ff⟩ := F w mg _ Y G.T.g
  obtain ⟨e', he⟩ := hv ns hlen hbits
  rw [hx, hm] at hmg
  cases hmg
  exact law_run L G.T.g G.T.b G.T.builtins G.T.nolimit hg G.T.bmain hobj hints (Nat.le_trans hlen hn2) hr Ff he
end Vi

set_option Elab.async false
set_option linter.all false
set_option maxRecDepth 100000
set_option maxHeartbeats 2000000
/-! Vi28: the facts of the head. -/
namespace Vi
open PySem PySem.Spec L2 LamX He
open PyProof.Rows hiding St

/-! ### checks -/
def oexB (K : PySem.W.Frag) (C : Addr) : Bool := (match K.lookup C with
  | some ⟨.type "type", _, .cls cd, sl⟩ => (match cd.mro, sl.toList with
    | .ref C' :: bm, [_, _, _, _, some (.builtin n), _] => C' == C && (n == "ValueError.__new__" && (!cd.hasDel && (cd.hasDict && PySem.HandSPX.refsVE bm)))
    | _, _ => false)
  | _ => false) && (decide (PySem.W.findIn K (.ref C) "__setattr__" = some (some (.builtin "object.__setattr__"))) && (decide (PySem.W.subIn K (.ref C) (.type "BaseException") = some true) && (decide (PySem.W.typeIn K (.ref C) = some (.type "type")) && PySem.W.keepIn K (.ref C))))
theorem oexB_ok {K : PySem.W.Frag} {C : Addr} (h : oexB K C = true) : OexC K C := by
  obtain ⟨h1, h⟩ := ba h
  obtain ⟨h2, h⟩ := ba h
  obtain ⟨h3, h⟩ := ba h
  obtain ⟨h4, h5⟩ := ba h
  refine ⟨?_, of_decide_eq_true h2, of_decide_eq_true h3, of_decide_eq_true h4, h5⟩
  split at h1
  · rename_i dd cd sl ho
    split at h1
    · rename_i C' bm k0 k1 k2 k3 n k5 hm hs
      simp only [Bool.and_eq_true, beq_iff_eq, Bool.not_eq_true'] at h1
      obtain ⟨rfl, rfl, e1, e2, e3⟩ := h1
      obtain ⟨nm, bs, mro, ns, qn, hd, sn, sub, ab, col, del⟩ := cd
      obtain ⟨l⟩ := sl
      simp only at hm e1 e2 hs
      subst hm e1 e2 hs
      exact ⟨nm, qn, ns, bs, bm, sn, sub, ab, col, dd, k0, k1, k2, k3, k5, ho, e3⟩
    · cases h1
  · cases h1
/-! ### own classes that are asked for -/
def ownB (K : PySem.W.Frag) (x : Str) : Bool := (Fa.cls x).ok K && (decide (PySem.W.findIn K (.ref (ga K x)) "__class__" = some (some (.builtin "object.__class__"))) && (decide (PySem.W.specialIn K (.builtin "object.__class__") "__get__" = some (some (.builtin "getset_descriptor.__get__"))) && (decide (PySem.W.takesIn K (.builtin "object.__class__") = some true) && decide (PySem.W.mroIn K (ga K x) (.type "object") = some true))))
theorem ownB_ok {K : PySem.W.Frag} {x : Str} (h : ownB K x = true) : OwnC K (ga K x) := by
  obtain ⟨h1, h⟩ := ba h
  obtain ⟨h2, h⟩ := ba h
  obtain ⟨h3, h⟩ := ba h
  obtain ⟨h4, h5⟩ := ba h
  exact ⟨cls_ok h1, of_decide_eq_true h2, of_decide_eq_true h3, of_decide_eq_true h4, of_decide_eq_true h5⟩
/-- os: the own classes whose things may be asked; c: the class asked for -/
def tabC (os : List Nat) (c : Nat) : Tg → Option Bool
  | .obj k => if k ∈ os then some (decide (k = c)) else none
  | _ => some false
def isiB (K : PySem.W.Frag) (nm : Nat → Str) (os : List Nat) (c : Nat) : Bool := (["NoneType", "bool", "int", "str", "tuple", "list", "dict"].all fun n => decide (PySem.W.kitOne K (.type n) (.ref (ga K (nm c))) = some false)) && (os.all fun k => ownB K (nm k) && decide (PySem.W.kitOne K (.ref (ga K (nm k))) (.ref (ga K (nm c))) = some (decide (k = c))))
theorem isiB_ok {G : Gt} {K : PySem.W.Frag} {nm : Nat → Str} {os : List Nat} {c : Nat} (hc : G.cls c = ga K (nm c)) (ho : ∀ k ∈ os, G.cls k = ga K (nm k)) (h : isiB K nm os c = true) : IsiOk G K (.ref (G.cls c)) (tabC os c) := by
  obtain ⟨h1, h2⟩ := ba h
  have ty : ∀ n ∈ ["NoneType", "bool", "int", "str", "tuple", "list", "dict"], PySem.W.kitOne K (.type n) (.ref (ga K (nm c))) = some false := fun n m => of_decide_eq_true (List.all_eq_true.mp h1 n m)
  have ow : ∀ k ∈ os, OwnC K (ga K (nm k)) ∧ PySem.W.kitOne K (.ref (ga K (nm k))) (.ref (ga K (nm c))) = some (decide (k = c)) := fun k m => let ⟨z1, z2⟩ := ba (List.all_eq_true.mp h2 k m); ⟨ownB_ok z1, of_decide_eq_true z2⟩
  refine ⟨fun t b e => ?_, fun k b e => ?_⟩
  · rw [hc]
    cases t with
    | obj k =>
      replace e : (if k ∈ os then some (decide (k = c)) else none) = some b := e
      split at e
      · rename_i m
        cases e
        show PySem.W.kitOne K (.ref (G.cls k)) _ = _
        rw [ho k m]
        exact (ow k m).2
      · cases e
    | _ =>
      cases e
      exact ty _ (by simp)
  · replace e : (if k ∈ os then some (decide (k = c)) else none) = some b := e
    split at e
    · rename_i m
      rw [ho k m]
      exact (ow k m).1
    · cases e
/-! ### the exceptions' __init__ -/
section
variable {P : Program} {w : World} {K : PySem.W.Frag} {mg : Str → Option Value} {base : Heap} {G : Gt}
theorem isFn_ty {v : Value} (h : PySem.W.isFn K v = true) : PySem.W.typeIn K v = some (.type "function") := by
  unfold PySem.W.isFn at h
  exact beq_iff_eq.mp h
theorem xc1 {x qual : Str} {c : Nat} {params : Arguments} {scope : Scope} {f : Addr} {fd : FuncData} {se a1 f1 : Str} {p1 p2 p3 p4 : Pos} (F : FunD K "__init__" qual params [.Assign [.Attribute (.Name se p1) f1 p2] (.Name a1 p3) p4] scope [] [] f fd) (S : FnScope [se, a1] [se, a1] scope) (T : OexC K (G.cls c)) (hm : mg x = some (.ref (G.cls c))) (hI : Meth K (G.cls c) "__init__" f)
    (h1 : PySem.W.findIn K (.ref (G.cls c)) f1 = some none) (hp : plainPs params [se, a1] = true) (v0 : Vis scope se) (v1 : Vis scope a1) (d0 : (se == ("__debug__" : Str)) = false := by decide) (d1 : (a1 == ("__debug__" : Str)) = false := by decide) (c0 : (se == ("__classdict__" : Str)) = false := by decide) (c1 : (a1 == ("__classdict__" : Str)) = false := by decide) : Xc P w K mg base G x c [f1] :=
  ⟨T, ⟨f, fd, _, hI.at_, isFn_ty hI.fn, init1 F S T h1 v0 v1 d0 d1 c0 c1, fd_binds F hp⟩, hm, by simp⟩
theorem xc2 {x qual : Str} {c : Nat} {params : Arguments} {scope : Scope} {f : Addr} {fd : FuncData} {se a1 f1 a2 f2 : Str} {p1 p2 p3 p4 q1 q2 q3 q4 : Pos} (F : FunD K "__init__" qual params [.Assign [.Attribute (.Name se p1) f1 p2] (.Name a1 p3) p4, .Assign [.Attribute (.Name se q1) f2 q2] (.Name a2 q3) q4] scope [] [] f fd) (S : FnScope [se, a1, a2] [se, a1, a2] scope) (T : OexC K (G.cls c)) (hm : mg x = some (.ref (G.cls c))) (hI : Meth K (G.cls c) "__init__" f)
    (h1 : PySem.W.findIn K (.ref (G.cls c)) f1 = some none) (h2 : PySem.W.findIn K (.ref (G.cls c)) f2 = some none) (hp : plainPs params [se, a1, a2] = true) (v0 : Vis scope se) (v1 : Vis scope a1) (v2 : Vis scope a2) (d0 : (se == ("__debug__" : Str)) = false := by decide) (d1 : (a1 == ("__debug__" : Str)) = false := by decide) (d2 : (a2 == ("__debug__" : Str)) = false := by decide)
    (c0 : (se == ("__classdict__" : Str)) = false := by decide) (c1 : (a1 == ("__classdict__" : Str)) = false := by decide) (c2 : (a2 == ("__classdict__" : Str)) = false := by decide) : Xc P w K mg base G x c [f1, f2] :=
  ⟨T, ⟨f, fd, _, hI.at_, isFn_ty hI.fn, init2 F S T h1 h2 v0 v1 v2 d0 d1 d2 c0 c1 c2, fd_binds F hp⟩, hm, by simp⟩
end
/-! ### fields; subclasses -/
def accOf (l : List (Nat × List Str)) (c : Nat) (f : Str) : Bool := l.any fun p => p.1 == c && p.2.contains f
def accB (K : PySem.W.Frag) (nm : Nat → Str) (l : List (Nat × List Str)) : Bool := l.all fun p => (Fa.cls (nm p.1)).ok K && p.2.all fun f => (Fa.noat (nm p.1) f).ok K
theorem accB_ok {G : Gt} {K : PySem.W.Frag} {nm : Nat → Str} {l : List (Nat × List Str)} (hc : ∀ c, G.cls c = He.ga K (nm c)) (h : accB K nm l = true) : AccOk G K (accOf l) := ⟨fun c f e => by
  obtain ⟨p, hp, q⟩ := List.any_eq_true.mp e
  obtain ⟨q1, q2⟩ := ba q
  obtain ⟨z1, z2⟩ := ba (List.all_eq_true.mp h p hp)
  have ec : p.1 = c := by simpa using q1
  subst ec
  rw [hc]
  exact ⟨cls_ok z1, noat_ok (List.all_eq_true.mp z2 f (by simpa using q2))⟩⟩
def exmB (K : PySem.W.Frag) (nm : Nat → Str) (l : List ((Nat × Nat) × Bool)) : Bool := l.all fun p => decide (PySem.W.exmOne K (.ref (He.ga K (nm p.1.1))) (.ref (He.ga K (nm p.1.2))) = some p.2)
theorem exmB_ok {G : Gt} {K : PySem.W.Frag} {nm : Nat → Str} {l : List ((Nat × Nat) × Bool)} (hc : ∀ c, G.cls c = He.ga K (nm c)) (h : exmB K nm l = true) : ∀ p ∈ l, PySem.W.exmOne K (.ref (G.cls p.1.1)) (.ref (G.cls p.1.2)) = some p.2 := fun p hp => by
  rw [hc, hc]
  exact of_decide_eq_true (List.all_eq_true.mp h p hp)
/-! ### the hook -/
/-- the code object, the table of a global def -/
def tabA (K : PySem.W.Frag) (x : Str) : Addr × Addr := match K.lookup (ga K x) with
  | some ⟨_, _, .func fd, _⟩ => (match fd.code with
    | .ref c => (match K.lookup c with
      | some ⟨_, _, .fields vs, _⟩ => (match (vs[11]? : Option Value) with
        | some (.ref P) => (c, P)
        | _ => (0, 0))
      | _ => (0, 0))
    | _ => (0, 0))
  | _ => (0, 0)
/-- without the tables of the defs ts -/
def cut (K : PySem.W.Frag) (ts : List Str) : PySem.W.Frag := K.filter fun p => !(ts.map fun x => (tabA K x).2).contains p.1
theorem look_filter {q : Addr → Bool} {a : Addr} : ∀ {K : PySem.W.Frag}, (K.filter fun p => q p.1).lookup a = if q a = true then K.lookup a else none
  | [] => by simp
  | (b, o) :: r => by
    have ih := look_filter (q := q) (a := a) (K := r)
    rw [List.filter_cons]
    by_cases e : a = b
    · subst e
      cases hq : q a with
      | true =>
        simp [hq, List.lookup_cons]
      | false =>
        rw [hq] at ih
        simpa [hq] using ih
    · have n : (a == b) = false := by simpa using e
      cases hq : q b with
      | true => simp [hq, List.lookup_cons, n, ih]
      | false => simpa [hq, List.lookup_cons, n] using ih
theorem cut_look {K : PySem.W.Frag} {ts : List Str} {a : Addr} : (cut K ts).lookup a = if (!(ts.map fun x => (tabA K x).2).contains a) = true then K.lookup a else none := look_filter (q := fun b => !(ts.map fun x => (tabA K x).2).contains b)
theorem cut_in {K : PySem.W.Frag} {ts : List Str} {h : Heap} (X : K.In h) : (cut K ts).In h := fun a o e => by
  rw [cut_look] at e
  split at e
  · exact X a o e
  · cases e
def tabB (Kf K : PySem.W.Frag) (x : Str) : Bool := (match Kf.lookup (tabA Kf x).2 with
  | some ⟨.none, none, .fields vs, sl⟩ => vs.isEmpty && sl.isEmpty
  | _ => false) && (PySem.W.codeHdIn K (tabA Kf x).1 (tabA Kf x).2 && (match K.lookup (ga K x) with
    | some ⟨_, _, .func fd, _⟩ => (match fd.code with
      | .ref c => c == (tabA Kf x).1
      | _ => false)
    | _ => false))
def noLst (K : PySem.W.Frag) : Bool := K.all fun p => match p.2.cls with
  | .type n => !decide (n = "list")
  | _ => true
abbrev AlV : Type := AlD × Bool
def obsV (ts : List Str) (fa : List Fa) (fn : List DefD) (m : List (PySem.W.Frag → Bool)) (Kf : PySem.W.Frag) : AlV := (obsD fa fn (cut Kf ts), (m.all fun f => f (cut Kf ts)) && (noLst (cut Kf ts) && ((ts.all fun x => tabB Kf (cut Kf ts) x) && decide (ts.map fun x => (tabA Kf x).2).Nodup)))
def obsVG (n : Nat) (ts : List Str) (fa : List Fa) (fn : List DefD) (m : List (PySem.W.Frag → Bool)) (g : Addr → Option Obj) : AlV := obsV ts fa fn m (frG g (asD g n))
def SaysV (ts : List Str) (fa : List Fa) (fn : List DefD) (m : List (PySem.W.Frag → Bool)) (Kf : PySem.W.Frag) : Prop := obsV ts fa fn m Kf = (valD fn, true)
def hookV (n : Nat) (ts : List Str) (fa : List Fa) (fn : List DefD) (m : List (PySem.W.Frag → Bool)) : PySem.W.Hook where
  α := AlV
  obs := fun s => obsVG n ts fa fn m s.heap.get?
  val := fun _ => (valD fn, true)
  says := fun _ h => ∃ Kf : PySem.W.Frag, Kf.In h ∧ SaysV ts fa fn m Kf
  of := fun _ _ e => ⟨_, frG_in, e⟩
  keeps := fun _ _ _ ⟨Kf, hK, c⟩ k => ⟨Kf, hK.keeps k, c⟩
theorem obsVG_eq {n : Nat} {ts : List Str} {fa : List Fa} {fn : List DefD} {m : List (PySem.W.Frag → Bool)} {g : Addr → Option Obj} {s : Shared} (h : ∀ a, g a = s.heap.get? a) : obsVG n ts fa fn m g = (hookV n ts fa fn m).obs s := by
  have e : g = s.heap.get? := funext h
  subst e
  rfl
section
variable {ts : List Str} {fa : List Fa} {fn : List DefD} {m : List (PySem.W.Frag → Bool)} {Kf : PySem.W.Frag}
theorem SaysV.d (c : SaysV ts fa fn m Kf) : SaysD fa fn (cut Kf ts) := congrArg (fun z : AlV => z.1) c
theorem SaysV.b (c : SaysV ts fa fn m Kf) : ((m.all fun f => f (cut Kf ts)) && (noLst (cut Kf ts) && ((ts.all fun x => tabB Kf (cut Kf ts) x) && decide (ts.map fun x => (tabA Kf x).2).Nodup))) = true := congrArg (fun z : AlV => z.2) c
theorem SaysV.more (c : SaysV ts fa fn m Kf) (i : Nat) {f : PySem.W.Frag → Bool} (h : m[i]? = some f := by rfl) : f (cut Kf ts) = true := List.all_eq_true.mp (ba c.b).1 f (List.mem_of_getElem? h)
theorem SaysV.laid {mg : Str → Option Value} {h : Heap} (c : SaysV ts fa fn m Kf) (X : Kf.In h) (fn' cls' : Nat → Addr) (lq : Str → Str) : Laid (cut Kf ts) mg ⟨fn', cls', ts.map fun x => ((tabA Kf x).2, lq x)⟩ (ts.map (tabA Kf)) h := by
  obtain ⟨_, b⟩ := ba c.b
  obtain ⟨b1, b⟩ := ba b
  obtain ⟨b2, b3⟩ := ba b
  have at1 : ∀ p ∈ ts.map (tabA Kf), ∃ x ∈ ts, tabA Kf x = p ∧ tabB Kf (cut Kf ts) x = true := fun p hp => by
    obtain ⟨x, hx, e⟩ := List.mem_map.mp hp
    exact ⟨x, hx, e, List.all_eq_true.mp b2 x hx⟩
  refine ⟨cut_in X, fun a o e => ?_, ?_, ?_, fun p hp => ?_, fun p hp => ?_, fun p hp => ?_⟩
  · have z := List.all_eq_true.mp b1 (a, o) (by
      clear b1 b2 b3 b at1 c X
      generalize cut Kf ts = L at e
      induction L with
      | nil => cases e
      | cons q r ih =>
        obtain ⟨q1, q2⟩ := q
        rw [List.lookup_cons] at e
        split at e
        · rename_i y
          cases e
          rw [beq_iff_eq.mp y]
          exact List.mem_cons_self
        · exact List.mem_cons_of_mem _ (ih e))
    intro q
    rw [show (a, o).2.cls = Value.type "list" from q] at z
    cases z
  · simp [List.map_map, Function.comp_def]
  · have := of_decide_eq_true b3
    simpa [List.map_map, Function.comp_def] using this
  · obtain ⟨x, hx, rfl, hb⟩ := at1 p hp
    have h1 := (ba hb).1
    split at h1
    · rename_i vs sl e
      obtain ⟨z1, z2⟩ := ba h1
      have e1 : vs = #[] := by simpa using z1
      have e2 : sl = #[] := by simpa using z2
      subst e1 e2
      exact X _ _ e
    · cases h1
  · obtain ⟨x, hx, rfl, hb⟩ := at1 p hp
    rw [cut_look, if_neg]
    have : (ts.map fun x => (tabA Kf x).2).contains (tabA Kf x).2 = true := by
      rw [List.contains_iff_mem]
      exact List.mem_map.mpr ⟨x, hx, rfl⟩
    rw [this]
    decide
  · obtain ⟨x, hx, rfl, hb⟩ := at1 p hp
    exact PySem.W.codeHd_of_K (cut_in X) (ba (ba hb).2).1
theorem SaysV.funT {mg : Str → Option Value} {base : Heap} {G : Gt} {lq : Str → Str} {d : DefD} (c : SaysV ts fa fn m Kf) (TB : ∀ p ∈ ts.map (tabA Kf), TabB base mg p.1 p.2) (hG : G.tab = ts.map fun x => ((tabA Kf x).2, lq x)) (i j : Nat) (hd : fn[i]? = some d) (hj : ts[j]? = some d.name) (ha : d.at_ = (d.name, none)) (hn : d.dfl = []) (hk : d.kwd = []) :
    FunT (cut Kf ts) mg base G d.name d.qual (lq d.name) d.params d.body d.scope (ga (cut Kf ts) d.name) := by
  obtain ⟨fd, F⟩ := c.d.def_ i hd
  obtain ⟨_, b⟩ := ba c.b
  obtain ⟨b1, b⟩ := ba b
  obtain ⟨b2, b3⟩ := ba b
  have hx : d.name ∈ ts := List.mem_of_getElem? hj
  have hb := (ba (ba (List.all_eq_true.mp b2 _ hx)).2).2
  unfold DefD.dvs DefD.kws at F
  rw [ha, hn, hk] at F
  have F' : FunD (cut Kf ts) d.name d.qual d.params d.body d.scope [] [] (ga (cut Kf ts) d.name) fd := F
  obtain ⟨oc, od, dV, kV, doc, pm, an, cdv, ct, osl, e, lk, _, _, _⟩ := F'.ex
  rw [lk] at hb
  dsimp only at hb
  refine ⟨fd, _, _, F', ?_, TB _ (List.mem_map.mpr ⟨_, hx, rfl⟩), by rw [hG]; exact List.mem_map.mpr ⟨_, hx, rfl⟩⟩
  split at hb
  · rename_i c' e2
    rw [e2, beq_iff_eq.mp hb]
  · cases hb
end
end Vi

set_option Elab.async false
set_option linter.all false
set_option maxRecDepth 100000
set_option maxHeartbeats 2000000
/-! Vi29: zip of two sequences of any kinds (lists, tuples). -/
namespace Vi
open PySem PySem.Spec L2
open PyProof.Rows hiding St

/-- k: a tuple (or a list) -/
def SqK (k : Bool) (K : PySem.W.Frag) (H : Hp) (a : Addr) (xs : List V) : Prop := if k = true then SqT K H a xs else SqL K H a xs
def ItK (k : Bool) (h : Heap) (it l : Addr) (i : Nat) : Prop := if k = true then h.IsTupleIter it l i else h.IsListIter it l i
def HpK (k : Bool) (h : Heap) (l : Addr) (xs : Array Value) : Prop := if k = true then h.IsTuple l xs else h.IsList l xs
def itO (k : Bool) (l : Addr) : Obj := if k = true then { cls := .type "tuple_iterator", data := .fields #[.ref l, .int 0 0] } else { cls := .type "list_iterator", data := .fields #[.ref l, .int 0 0] }
theorem itK_obj {k : Bool} {h : Heap} {it l : Addr} {i : Nat} (x : ItK k h it l i) : ∃ o, h.get? it = some o ∧ ∀ v, o.data ≠ .cell v := by
  cases k with
  | true =>
    obtain ⟨o, e, _, d⟩ := (show h.IsTupleIter it l i from x)
    exact ⟨o, e, fun v q => by rw [d] at q; cases q⟩
  | false =>
    obtain ⟨o, e, _, d⟩ := (show h.IsListIter it l i from x)
    exact ⟨o, e, fun v q => by rw [d] at q; cases q⟩
theorem itK_at {k : Bool} {h h' : Heap} {it l : Addr} {i : Nat} (x : ItK k h it l i) (m : ∀ o, h.get? it = some o → h'.get? it = some o) : ItK k h' it l i := by
  cases k with
  | true => exact (show h.IsTupleIter it l i from x).at m
  | false => exact (show h.IsListIter it l i from x).at m
theorem draws_K {prog : Program} {w : World} {A : Around} (k : Bool) (hh : A.handled = none) (it l : Addr) (hne : l ≠ it) (items : Array Value) : Draws prog w A it [it, l] items.size (fun i v => items[i]? = some v) (fun i h => ItK k h it l i ∧ HpK k h l items) := by
  cases k with
  | true => exact Draws.tuple hh it l hne items
  | false => exact Draws.list hh it l hne items
theorem begins_K (k : Bool) (l : Addr) (items : Array Value) : Begins (.ref l) (itO k l) fun h => HpK k h l items := by
  cases k with
  | true => exact begins_tuple l items
  | false => exact begins_list l items
section
variable {X : Cx} {pins : List (Addr × Obj)} {σ : L2.St} {H : Hp} {s : Shared}
theorem sqK_at {k : Bool} {a : Addr} {xs : List V} (I : L2.Inv X pins σ H s) (q : SqK k X.K H a xs) : ∃ its : List Value, Vals xs its ∧ HpK k s.heap a its.toArray := by
  cases k with
  | true =>
    obtain ⟨its, r, p, _⟩ := I.tuple (show SqT X.K H a xs from q)
    exact ⟨its, r, p⟩
  | false =>
    obtain ⟨its, r, p, _⟩ := I.list (show SqL X.K H a xs from q)
    exact ⟨its, r, p.isList⟩
theorem sqK_inj {k : Bool} {a : Addr} {xs ys : List V} (I : L2.Inv X pins σ H s) (q : SqK k X.K H a xs) (q' : SqK k X.K H a ys) : xs = ys := by
  cases k with
  | true => exact I.tuple_inj (show SqT X.K H a xs from q) q'
  | false => exact I.list_inj (show SqL X.K H a xs from q) q'
theorem hpK_lt {k : Bool} {h : Heap} {l : Addr} {xs : Array Value} (x : HpK k h l xs) : l < h.objs.size := by
  cases k with
  | true =>
    obtain ⟨o, e, _⟩ := (show h.IsTuple l xs from x)
    exact Heap.lt_size e
  | false =>
    obtain ⟨o, e, _⟩ := (show h.IsList l xs from x)
    exact Heap.lt_size e
end
/-- the two as they stand at each turn, their items in new pairs -/
def ItzK (K : PySem.W.Frag) (j k : Bool) (a b : Addr) : It where
  go := fun i H => ∃ (xs ys : List V) (x y : V), SqK j K H a xs ∧ SqK k K H b ys ∧ xs[i]? = some x ∧ ys[i]? = some y
  yld := fun i H v H' => ∃ T x y, v = .ref T ∧ H T = none ∧ H' = upd H T (.tup [x, y]) ∧ (∀ xs, SqK j K H a xs → xs[i]? = some x) ∧ ∀ ys, SqK k K H b ys → ys[i]? = some y
  stop := fun i H => ∃ xs ys : List V, SqK j K H a xs ∧ SqK k K H b ys ∧ i = min xs.length ys.length
theorem sep_of {z TI TO i1 i2 a b : Addr} (D : ZipApart z TI TO i1 i2 a b) : ZipSep2 z TI TO i1 i2 [i1, a] [i2, b] where
  TIz := D.TIz
  TOz := D.TOz
  TITO := D.TITO
  TIi1 := D.TIi1
  mem1 := by simp
  zf1 := by simp [D.i1z.symm, D.l1z.symm]
  Tf1 := by simp [D.TOi1, D.l1TO.symm]
  TIi2 := D.TIi2
  mem2 := by simp
  zf2 := by simp [D.i2z.symm, D.l2z.symm]
  Tf2 := by simp [D.TOi2, D.l2TO.symm]
  sep1_2 := by simp [D.i12, D.l2i1.symm]
  sep2_1 := by simp [D.i12.symm, D.l1i2.symm]
def zipSt (j k : Bool) (z TI TO i1 i2 a b : Addr) : Nat → Heap → Prop := fun i h => IsZip h z TI TO .none ∧ IsTupOf2 h TI (.ref i1) (.ref i2) ∧ (∃ x y, IsTupOf2 h TO x y) ∧ ItK j h i1 a i ∧ ItK k h i2 b i
theorem turn_zipK {P : Program} {w : World} {K : PySem.W.Frag} {j k : Bool} {elts : List Expr} {kk : Nat} {tpos : Pos} {a b z TI TO i1 i2 : Addr} (D : ZipApart z TI TO i1 i2 a b) :
    Turn P w K (.Tuple elts kk tpos) (ItzK K j k a b) [z, TI, TO, i1, i2] z (zipSt j k z TI TO i1 i2 a b) where
  mem := by simp
  obj := by
    rintro i h ⟨g1, g2, ⟨x, y, g3⟩, g4, g5⟩ c hc
    simp only [List.mem_cons, List.mem_nil_iff, or_false] at hc
    rcases hc with rfl | rfl | rfl | rfl | rfl
    · exact ⟨_, g1, fun v q => nomatch q⟩
    · exact ⟨_, g2, fun v q => nomatch q⟩
    · exact ⟨_, g3, fun v q => nomatch q⟩
    · exact itK_obj g4
    · exact itK_obj g5
  keep := by
    rintro i h h' ⟨g1, g2, ⟨x, y, g3⟩, g4, g5⟩ m
    exact ⟨m _ (by simp) _ g1, m _ (by simp) _ g2, ⟨x, y, m _ (by simp) _ g3⟩, itK_at g4 (m _ (by simp)), itK_at g5 (m _ (by simp))⟩
  item := by
    rintro X rfl rfl rfl calm i pins s σ H E I hf ⟨g1, g2, ⟨x0, y0, g3⟩, g4, g5⟩ ⟨xs, ys, x, y, q1, q2, e1, e2⟩
    obtain ⟨us, ru, p1⟩ := sqK_at I q1
    obtain ⟨ws, rw', p2⟩ := sqK_at I q2
    obtain ⟨u, hu, ru1⟩ := ru.get e1
    obtain ⟨v, hv, rv1⟩ := rw'.get e2
    have hh : X.A.in1.handled = none := I.ok.hd calm
    have zl : z < s.heap.objs.size := Heap.lt_size g1
    have lu : i < us.toArray.size := by
      obtain ⟨z1, _⟩ := List.getElem?_eq_some_iff.mp hu
      simpa using z1
    have lv : i < ws.toArray.size := by
      obtain ⟨z1, _⟩ := List.getElem?_eq_some_iff.mp hv
      simpa using z1
    refine wpAny_pyNext_zipD2_item (sep_of D) (draws_K j hh i1 a D.l1i1 us.toArray) (draws_K k hh i2 b D.l2i2 ws.toArray) g1 g2 g3 ⟨g4, p1⟩ ⟨g5, p2⟩ lu lv fun u1 u2 h' tk c1 c2 c3 c4 c5 c6 c7 c8 c9 => ?_
    have eu : u1 = u := by
      have : us.toArray[i]? = some u := by simpa using hu
      exact Option.some.inj (c1.symm.trans this)
    have ev : u2 = v := by
      have : ws.toArray[i]? = some v := by simpa using hv
      exact Option.some.inj (c2.symm.trans this)
    subst eu ev
    refine ⟨_, rfl, wpAny_letOwnedTupleGo_zip (s := { s with heap := h', toks := tk }) c3 fun h2 z2 sb => ?_⟩
    have old : ∀ c o, c ∉ [z, TI, TO, i1, i2] → s.heap.get? c = some o → h2.get? c = some o := fun c o n q => by
      simp only [List.mem_cons, List.mem_nil_iff, or_false, not_or] at n
      exact (sb.2 c n.1).trans (c9 c o n.1 n.2.2.1 n.2.2.2.1 n.2.2.2.2 q)
    have pr : h2.get? s.heap.objs.size = some { cls := .type "tuple", data := .seq #[u1, u2] } := (sb.2 _ (Nat.ne_of_gt zl)).trans c7
    have ok1 : ObjOk X.prog X.w (upd H s.heap.objs.size (.tup [x, y])) h2 s.heap.objs.size (.tup [x, y]) := by
      refine ⟨?_, [u1, u2], .cons ru1 (.cons rv1 .nil), ⟨_, pr, rfl, _, rfl⟩⟩
      show 2 ≤ sizeLine
      rw [sizeLine_eq]
      omega
    have J := I.turnedNew (t' := tk) (ch := [z, TI, TO, i1, i2]) old hf (Nat.le_refl _) ok1
    refine ⟨.ref s.heap.objs.size, _, J, rfl, ⟨_, x, y, rfl, I.hok.fresh (Nat.le_refl _), rfl, fun l hl => by rw [sqK_inj I hl q1]; exact e1, fun l hl => by rw [sqK_inj I hl q2]; exact e2⟩, ⟨z2, (sb.2 _ D.TIz).trans (c9 _ _ D.TIz D.TITO D.TIi1 D.TIi2 g2), ⟨_, _, (sb.2 _ D.TOz).trans c4⟩, itK_at c5.1 fun o q => (sb.2 _ D.i1z).trans q, itK_at c6.1 fun o q => (sb.2 _ D.i2z).trans q⟩, fun c hc => ?_⟩
    have cl : c < s.heap.objs.size := by
      simp only [List.mem_cons, List.mem_nil_iff, or_false] at hc
      rcases hc with rfl | rfl | rfl | rfl | rfl
      · exact zl
      · exact Heap.lt_size g2
      · exact Heap.lt_size g3
      · obtain ⟨_, q, _⟩ := itK_obj g4
        exact Heap.lt_size q
      · obtain ⟨_, q, _⟩ := itK_obj g5
        exact Heap.lt_size q
    rw [upd_ne (Nat.ne_of_lt cl)]
    exact (hf c hc).1
  done := by
    rintro X rfl rfl rfl calm i pins s σ H E I hf ⟨g1, g2, ⟨x0, y0, g3⟩, g4, g5⟩ ⟨xs, ys, q1, q2, e⟩
    obtain ⟨us, ru, p1⟩ := sqK_at I q1
    obtain ⟨ws, rw', p2⟩ := sqK_at I q2
    have hh : X.A.in1.handled = none := I.ok.hd calm
    have l1 : us.toArray.size = xs.length := by rw [ru.length]; simp
    have l2 : ws.toArray.size = ys.length := by rw [rw'.length]; simp
    refine wpAny_pyNext_zipD2_end (sep_of D) (draws_K j hh i1 a D.l1i1 us.toArray) (draws_K k hh i2 b D.l2i2 ws.toArray) g1 g2 g3 ⟨g4, p1⟩ ⟨g5, p2⟩ (by rw [l1, e]; exact Nat.min_le_left _ _) (by rw [l2, e]; exact Nat.min_le_right _ _) ?_ fun h' tk c9 => ⟨rfl, I.turnedL (t' := tk) (ch := [z, TI, TO, i1, i2]) (fun c o n q => ?_) hf⟩
    · rw [l1, l2, e]
      rcases Nat.le_total xs.length ys.length with y | y
      · exact .inl (Nat.min_eq_left y)
      · exact .inr (Nat.min_eq_right y)
    · simp only [List.mem_cons, List.mem_nil_iff, or_false, not_or] at n
      exact c9 c o n.1 n.2.2.1 n.2.2.2.1 n.2.2.2.2 q
  self := fun A i s Q E g h => wpAny_pyIter_zip g.1 h
def iZipK (K : PySem.W.Frag) (ta : TA) : TI := fun σ H R => ta σ H fun vs H1 => ∃ a b xs ys j k, vs = [.ref a, .ref b] ∧ SqK j K H1 a xs ∧ SqK k K H1 b ys ∧ R (ItzK K j k a b) H1
theorem pi_zipK {X : Cx} {e e2 : Expr} {ta : TA} {p pos tpos : Pos} {elts : List Expr} {kk : Nat} (hg : Gl X "zip") (hm : X.mg "zip" = none) (ha : PA X [e, e2] ta) (hs : starEach [e, e2] X.env = (false, eval e X.env) :: starEach [e2] X.env) (hpl : (backTo pos (starEach [e2] X.env)).any (·.1) = false) :
    PI X (.Tuple elts kk tpos) (.Call (.Name "zip" p) [e, e2] [] pos) (iZipK X.K ta) := ⟨fun pins s σ H R I h => by
  refine Call_ (ld_blt I hg hm PyProof.Rows.boot_zip (PyProof.Rows.callWith_type1 (thn (ha.run pos pins s σ H _ I h) fun us s1 ⟨vs, H1, I1, r1, a, b, xs, ys, j, k, ev, q1, q2, q⟩ => ?_) hs hpl))
  subst ev
  cases r1 with
  | cons r r2 =>
    cases r2 with
    | cons r' r3 =>
      cases r3
      cases r
      cases r'
      obtain ⟨us1, ru, p1⟩ := sqK_at I1 q1
      obtain ⟨us2, rw', p2⟩ := sqK_at I1 q2
      refine zip_begins2 (begins_K j a us1.toArray) (begins_K k b us2.toArray) p1 p2 fun h' d1 d2 d3 d4 d5 d6 d7 => wpAny_pyIter_zip d1 ?_
      have I2 : L2.Inv X pins σ H1 { s1 with heap := h' } := I1.kept (t' := s1.toks) d7
      refine ⟨s1.heap.objs.size + 4, [s1.heap.objs.size + 4, s1.heap.objs.size + 2, s1.heap.objs.size + 3, s1.heap.objs.size, s1.heap.objs.size + 1], _, _, H1, rfl, I2, turn_zipK (PySem.W.ktu_apart s1.heap.objs.size a b (hpK_lt p1) (hpK_lt p2)), ⟨d1, d2, ⟨_, _, d3⟩, ?_, ?_⟩, fun c hc => ?_, q⟩
      · cases j <;> exact ⟨_, d4, rfl, rfl⟩
      · cases k <;> exact ⟨_, d5, rfl, rfl⟩
      · have ge : s1.heap.objs.size ≤ c := by
          simp only [List.mem_cons, List.mem_nil_iff, or_false] at hc
          rcases hc with rfl | rfl | rfl | rfl | rfl <;> omega
        exact I1.fpOk ge (I1.hok.fresh ge)⟩
section
variable {G : Gt} {K : PySem.W.Frag} {X : Cx} {W : WX}
def seqD : D → Option (Bool × List D)
  | .lst xs => some (false, xs)
  | .tup xs => some (true, xs)
  | _ => none
def sZipK : List D → Option (List D)
  | [p, q] => match seqD p, seqD q with
    | some (_, xs), some (_, ys) => some ((xs.zip ys).map fun p => .tup [p.1, p.2])
    | _, _ => none
  | _ => none
theorem seqD_ok {F : Hp} {v : V} {d : D} {k : Bool} {xs : List D} (r : Rep G K F v d) (e : seqD d = some (k, xs)) : ∃ a vs, v = .ref a ∧ Reps G K F vs xs ∧ ∀ H, Ex F H → SqK k K H a vs := by
  cases r with
  | tup h r => cases e; exact ⟨_, _, rfl, r, fun H ex => ex.t h⟩
  | lst h r => cases e; exact ⟨_, _, rfl, r, fun H ex => .inl (ex.rd h)⟩
  | _ => cases e
theorem so_zipK : SrcOk G K (fun vs H R => ∃ a b xs ys j k, vs = [.ref a, .ref b] ∧ SqK j K H a xs ∧ SqK k K H b ys ∧ R (ItzK K j k a b) H) sZipK := by
  intro F H vs ds xs Q ex r hr kk
  unfold sZipK at hr
  split at hr
  · split at hr
    · rename_i j xs1 k ys1 h1 h2
      cases hr
      cases r with
      | cons r1 r2 =>
        cases r2 with
        | cons r2 r3 =>
          cases r3
          obtain ⟨a, vs1, rfl, ra, qa⟩ := seqD_ok r1 h1
          obtain ⟨b, vs2, rfl, rb, qb⟩ := seqD_ok r2 h2
          have w : Walk (ItzK K j k a b) (min vs1.length vs2.length) (fun H => SqK j K H a vs1 ∧ SqK k K H b vs2) (YPair (fun i => vs1[i]?) (fun i => vs2[i]?)) := by
            refine ⟨fun i H hi hg => ?_, fun H hg => ⟨vs1, vs2, hg.1, hg.2, rfl⟩, fun i H x H' hi hg hy => ?_⟩
            · rw [Nat.lt_min] at hi
              exact ⟨vs1, vs2, vs1[i], vs2[i], hg.1, hg.2, by simp [hi.1], by simp [hi.2]⟩
            · obtain ⟨T, x, y, rfl, hT, rfl, h3, h4⟩ := hy
              exact ⟨T, x, y, rfl, hT, rfl, h3 _ hg.1, h4 _ hg.2⟩
          exact ⟨a, b, vs1, vs2, j, k, rfl, qa H ex, qb H ex, kk _ (src_pair (by rw [← ra.len, ← rb.len]) _ w (fun H e => ⟨qa H e, qb H e⟩) (fun i x e _ => ra.getV e) fun i x e _ => rb.getV e)⟩
    · cases hr
  · cases hr
theorem ci_zipK {e e2 : Expr} {p pos tpos : Pos} {elts : List Expr} {kk : Nat} {g : Vn → M (List Lr × Vn)} (hg : Gl X "zip") (hm : X.mg "zip" = none) (ha : CA G X W [e, e2] g) (hs : starEach [e, e2] X.env = (false, eval e X.env) :: starEach [e2] X.env := by rfl) (hpl : (backTo pos (starEach [e2] X.env)).any (·.1) = false := by rfl) :
    CI G X W (.Tuple elts kk tpos) (.Call (.Name "zip" p) [e, e2] [] pos) (vSrc sZipK g) := let ⟨_, q, r⟩ := ha; ⟨_, pi_zipK hg hm q hs hpl, rd_src r so_zipK⟩
end
end Vi

set_option Elab.async false
set_option linter.all false
set_option maxRecDepth 100000
set_option maxHeartbeats 1000000
/-! Vm: values of laws, in plain Lean: straight code, draws. -/
namespace Vi
open PySem PySem.Spec L2

section
variable {f g : Vn → M (Fl × Vn)} {env e : Vn}
theorem then_nx (h : f env = some (.ok (.nx, e))) : vThen f g env = g e := by
  unfold vThen
  rw [h]
  rfl
theorem then_rt {o : O} (h : f env = some (.ok (.rt o, e))) : vThen f g env = some (.ok (.rt o, e)) := by
  unfold vThen
  rw [h]
  rfl
theorem then_ex {c : Nat} {fs : List (Str × D)} (h : f env = some (.ex c fs)) : vThen f g env = some (.ex c fs) := by
  unfold vThen
  rw [h]
  rfl
theorem ifs_eq {c : Vn → M (Bool × Vn)} {k : Bool} (h : c env = some (.ok (k, e))) : vIfS c f g env = if k = true then f e else g e := by
  unfold vIfS
  rw [h]
  rfl
theorem ifs_t {c : Vn → M (Bool × Vn)} (h : c env = some (.ok (true, e))) : vIfS c f g env = f e := by
  rw [ifs_eq h, if_pos rfl]
theorem ifs_f {c : Vn → M (Bool × Vn)} (h : c env = some (.ok (false, e))) : vIfS c f g env = g e := by
  rw [ifs_eq h, if_neg (by decide)]
end
theorem fn_rt {n m : Nat} {b : Vn → M (Fl × Vn)} {ps e : Vn} {o : O} (hp : ps.length = n) (h : b (ps ++ List.replicate m ⟨false, none⟩) = some (.ok (.rt o, e))) : vFn n m b ps = some (.ok (o, e.take n)) := by
  unfold vFn
  rw [if_pos hp, h]
  rfl
theorem fn_nx {n m : Nat} {b : Vn → M (Fl × Vn)} {ps e : Vn} (hp : ps.length = n) (h : b (ps ++ List.replicate m ⟨false, none⟩) = some (.ok (.nx, e))) : vFn n m b ps = some (.ok (.v .non, e.take n)) := by
  unfold vFn
  rw [if_pos hp, h]
  rfl
theorem fn_ex {n m c : Nat} {b : Vn → M (Fl × Vn)} {ps : Vn} {fs : List (Str × D)} (hp : ps.length = n) (h : b (ps ++ List.replicate m ⟨false, none⟩) = some (.ex c fs)) : vFn n m b ps = some (.ex c fs) := by
  unfold vFn
  rw [if_pos hp, h]
  rfl
theorem call_eq {f : Vn → M (O × Vn)} {g : Vn → M (List Lr × Vn)} {env e ps e1 ps' e2 : Vn} {rs : List Lr} {o : O} (hg : g env = some (.ok (rs, e))) (hl : lend e rs = some (ps, e1)) (hf : f ps = some (.ok (o, ps'))) (hb : giveBack e1 rs ps' = some e2) : vCall f g env = some (.ok (o, e2)) := by
  unfold vCall
  rw [hg]
  show (match lend e rs with
    | none => none
    | some (ps, e1) => M.bind (f ps) fun (o, ps') => match giveBack e1 rs ps' with
      | none => none
      | some e2 => M.ret (o, e2)) = _
  rw [hl]
  show M.bind (f ps) _ = _
  rw [hf]
  show (match giveBack e1 rs ps' with
    | none => none
    | some e2 => M.ret (o, e2)) = _
  rw [hb]
  rfl
theorem call_ex {f : Vn → M (O × Vn)} {g : Vn → M (List Lr × Vn)} {env e ps e1 : Vn} {rs : List Lr} {c : Nat} {fs : List (Str × D)} (hg : g env = some (.ok (rs, e))) (hl : lend e rs = some (ps, e1)) (hf : f ps = some (.ex c fs)) : vCall f g env = some (.ex c fs) := by
  unfold vCall
  rw [hg]
  show (match lend e rs with
    | none => none
    | some (ps, e1) => M.bind (f ps) fun (o, ps') => match giveBack e1 rs ps' with
      | none => none
      | some e2 => M.ret (o, e2)) = _
  rw [hl]
  show M.bind (f ps) _ = _
  rw [hf]
  rfl
theorem op_eq {run : List D → Option O} {g : Vn → M (List Lr × Vn)} {env e : Vn} {rs : List Lr} {ds : List D} {o : O} (hg : g env = some (.ok (rs, e))) (hv : views e rs = some ds) (hr : run ds = some o) : vOp run g env = some (.ok (o, e)) := by
  unfold vOp
  rw [hg]
  show (match views e rs with
    | some ds => match run ds with
      | some o => M.ret (o, e)
      | none => none
    | none => none) = _
  rw [hv]
  show (match run ds with
    | some o => M.ret (o, e)
    | none => none) = _
  rw [hr]
  rfl
theorem ex_eq {f : Vn → M (O × Vn)} {g : Vn → M (List Lr × Vn)} {env e e2 : Vn} {o : O} {rs : List Lr} (hf : f env = some (.ok (o, e))) (hg : g e = some (.ok (rs, e2))) : vEx f g env = some (.ok (.t o :: rs, e2)) := by
  unfold vEx
  rw [hf]
  show M.bind (g e) _ = _
  rw [hg]
  rfl
theorem fz_eq {f : Vn → M (O × Vn)} {env e : Vn} {o : O} (hf : f env = some (.ok (o, e))) : vFz f env = some (.ok (.v o.fz, e)) := by
  unfold vFz
  rw [hf]
  rfl
theorem set_eq {i : Nat} {f : Vn → M (O × Vn)} {env e : Vn} {o : O} {y : Option O} (hf : f env = some (.ok (o, e))) (hi : e[i]? = some ⟨false, y⟩) : vSet i f env = some (.ok (.nx, e.set i ⟨false, some o⟩)) := by
  unfold vSet
  rw [hf]
  show (match e[i]? with
    | some ⟨false, _⟩ => M.ret (Fl.nx, e.set i ⟨false, some o⟩)
    | _ => none) = _
  rw [hi]
  rfl
theorem put_eq {i : Nat} {run : O → D → D → Option O} {fv fk : Vn → M (O × Vn)} {env e1 e2 : Vn} {p p0 : Bool} {dv dk : D} {o0 o o' : O} (hv : fv env = some (.ok (.v dv, e1))) (h1 : e1[i]? = some ⟨p0, some o0⟩) (hk : fk e1 = some (.ok (.v dk, e2))) (h2 : e2[i]? = some ⟨p, some o⟩) (hr : run o dk dv = some o') :
    vPut i run fv fk env = some (.ok (.nx, e2.set i ⟨p, some o'⟩)) := by
  unfold vPut
  rw [hv]
  show (match e1[i]? with
    | some ⟨_, some _⟩ => M.bind (fk e1) fun (ok, e2) => match ok, e2[i]? with
      | .v dk, some ⟨p, some o⟩ => match run o dk dv with
        | some o' => M.ret (Fl.nx, e2.set i ⟨p, some o'⟩)
        | none => none
      | _, _ => none
    | _ => none) = _
  rw [h1]
  show M.bind (fk e1) _ = _
  rw [hk]
  show (match O.v dk, e2[i]? with
      | .v dk, some ⟨p, some o⟩ => match run o dk dv with
        | some o' => M.ret (Fl.nx, e2.set i ⟨p, some o'⟩)
        | none => none
      | _, _ => none) = _
  rw [h2]
  show (match run o dk dv with
        | some o' => M.ret (Fl.nx, e2.set i ⟨p, some o'⟩)
        | none => none) = _
  rw [hr]
  rfl
theorem rt_eq {f : Vn → M (O × Vn)} {env e : Vn} {o : O} (hf : f env = some (.ok (o, e))) : vRt f env = some (.ok (.rt o, e)) := by
  unfold vRt
  rw [hf]
  rfl
theorem fMul_eq {a b : Int} (h : cMul a b = true) : fMul [.int a, .int b] = some (.v (.int (a * b))) := by
  show (if cMul a b = true then _ else none) = _
  rw [if_pos h]
theorem fMod_eq {a b : Int} (h : b ≠ 0) : fMod [.int a, .int b] = some (.v (.int (a.fmod b))) := by
  show (if decide (b ≠ 0) = true then some (O.v (.int (a.fmod b))) else none) = _
  rw [if_pos (decide_eq_true h)]
theorem fDiv_eq {a b : Int} (h : b ≠ 0 ∧ b.natAbs < 1073741824) : fDiv [.int a, .int b] = some (.v (.int (a.fdiv b))) := by
  show (if decide (b ≠ 0 ∧ b.natAbs < 1073741824) = true then some (O.v (.int (a.fdiv b))) else none) = _
  rw [if_pos (decide_eq_true h)]
theorem fPow_eq {a b : Int} (h : 0 ≤ b ∧ b ≤ 1000000 ∧ a.natAbs < 2 ^ 64) : fPow [.int a, .int b] = some (.v (.int (a ^ b.toNat))) := by
  show (if decide (0 ≤ b ∧ b ≤ 1000000 ∧ a.natAbs < 2 ^ 64) = true then some (O.v (.int (a ^ b.toNat))) else none) = _
  rw [if_pos (decide_eq_true h)]
theorem fmod_range {a b : Int} (h : 0 < b) : 0 ≤ a.fmod b ∧ a.fmod b < b := ⟨Int.fmod_nonneg_of_pos a h, Int.fmod_lt_of_pos a h⟩
/-! ### the pen and its draws -/
def penO (cells : List Int) (at_ digits count fold : Int) : O := .d [(.inr "cells", .lst (cells.map .int)), (.inr "at", .int at_), (.inr "digits", .int digits), (.inr "count", .int count), (.inr "fold", .int fold)]
def drawCell (A N : Int) : Vn → M (Fl × Vn) := (vThen (vSet 2 (vOp fIx (vEx (vOp fIx (vSl 0 (vEx (vLit (.str "cells")) vNil))) (vEx (vOp fIx (vSl 0 (vEx (vLit (.str "at")) vNil))) vNil)))) (vThen (vPut 0 sPut (vFz (vOp fAdd (vEx (vOp fIx (vSl 0 (vEx (vLit (.str "at")) vNil))) (vEx (vLit (.int 1)) vNil)))) (vLit (.str "at"))) (vIfS (vB (vOp (fCI fun a b => decide (b ≤ a)) (vSl 2 (vEx (vOp fPow (vEx (vLit (.int 10)) (vEx (vLit (.int 18)) vNil))) vNil)))) (vPut 0 sPut (vFz (vOp fSub (vSl 2 (vEx (vOp fPow (vEx (vLit (.int 10)) (vEx (vLit (.int 18)) vNil))) vNil)))) (vLit (.str "digits"))) (vPut 0 sPut (vFz (vOp fMod (vEx (vOp fInt (vEx (vOp fAdd (vEx (vOp fMul (vEx (vOp fIx (vSl 0 (vEx (vLit (.str "fold")) vNil))) (vEx (vLit (.int A)) vNil))) (vSl 2 vNil))) vNil)) (vEx (vLit (.int N)) vNil)))) (vLit (.str "fold"))))))
def drawOut (B C : Int) : Vn → M (Fl × Vn) := (vThen (vIfS (vB (vOp (fCI fun a b => decide (b < a)) (vEx (vOp fIx (vSl 0 (vEx (vLit (.str "digits")) vNil))) (vEx (vLit (.int 0)) vNil)))) (vThen (vSet 3 (vOp fMod (vEx (vOp fInt (vEx (vOp fIx (vSl 0 (vEx (vLit (.str "digits")) vNil))) vNil)) (vSl 1 vNil)))) (vThen (vPut 0 sPut (vFz (vOp fDiv (vEx (vOp fIx (vSl 0 (vEx (vLit (.str "digits")) vNil))) (vSl 1 vNil)))) (vLit (.str "digits"))) (vRt (vMv 3)))) vNx) (vThen (vSet 4 (vOp fAdd (vEx (vOp fAdd (vEx (vOp fIx (vSl 0 (vEx (vLit (.str "fold")) vNil))) (vEx (vOp fMul (vEx (vOp fIx (vSl 0 (vEx (vLit (.str "count")) vNil))) (vEx (vLit (.int B)) vNil))) vNil))) (vEx (vLit (.int C)) vNil)))) (vRt (vOp fMod (vEx (vOp fDiv (vEx (vOp fInt (vEx (vOp fMod (vEx (vOp fPow (vSl 4 (vEx (vLit (.int 23)) vNil))) (vEx (vLit (.int 2305843009213693951)) vNil))) vNil)) (vEx (vLit (.int 128)) vNil))) (vSl 1 vNil))))))
def drawB (A N B C : Int) : Vn → M (Fl × Vn) := (vThen (vPut 0 sPut (vFz (vOp fAdd (vEx (vOp fIx (vSl 0 (vEx (vLit (.str "count")) vNil))) (vEx (vLit (.int 1)) vNil)))) (vLit (.str "count"))) (vThen (vIfS (vAndT (vB (vOp fEq (vEx (vOp fIx (vSl 0 (vEx (vLit (.str "digits")) vNil))) (vEx (vLit (.int 0)) vNil)))) (vB (vOp (fCI fun a b => decide (a < b)) (vEx (vOp fIx (vSl 0 (vEx (vLit (.str "at")) vNil))) (vEx (vOp fLen (vEx (vOp fIx (vSl 0 (vEx (vLit (.str "cells")) vNil))) vNil)) vNil))))) (drawCell A N) vNx) (drawOut B C)))
/-- what the pens keep -/
structure PenOk (cs : List Int) (a d c f : Int) : Prop where
  a0 : 0 ≤ a
  d0 : 0 ≤ d
  c0 : 0 ≤ c
  f0 : 0 ≤ f
  f1 : f < 2147483648
section
variable {A N B C : Int} {cs : List Int} {a d c f many : Int} {p : Bool}
theorem cell_ok (hA : small64 A = true) (hN : 0 < N ∧ N < 2147483648) (po : PenOk cs a d c f) (ha : a < cs.length) : ∃ d' f' z, PenOk cs (a + 1) d' c f' ∧ drawCell A N [⟨true, some (penO cs a d c f)⟩, ⟨p, some (.v (.int many))⟩, ⟨false, none⟩, ⟨false, none⟩, ⟨false, none⟩] = some (.ok (.nx, [⟨true, some (penO cs (a + 1) d' c f')⟩, ⟨p, some (.v (.int many))⟩, ⟨false, some (.v (.int z))⟩, ⟨false, none⟩, ⟨false, none⟩])) := by
  have a0 := po.a0
  obtain ⟨z, hz⟩ : ∃ z, cs[a.toNat]? = some z := ⟨_, List.getElem?_eq_getElem (by omega)⟩
  have at_ : atI (cs.map D.int) a = some (.int z) := by
    unfold atI ixN
    rw [List.length_map, if_pos a0, if_pos ha]
    show (cs.map D.int)[a.toNat]? = _
    rw [List.getElem?_map, hz]
    rfl
  by_cases hz18 : (10 : Int) ^ 18 ≤ z
  · refine ⟨z - 10 ^ 18, f, z, ⟨by omega, by omega, po.c0, po.f0, po.f1⟩, ?_⟩
    unfold drawCell
    rw [then_nx (set_eq (y := none) (op_eq (ds := [.lst (cs.map .int), .int a]) (o := .v (.int z)) rfl rfl (by show (atI (cs.map D.int) a).map O.v = _; rw [at_]; rfl)) rfl), then_nx (e := [⟨true, some (penO cs (a + 1) d c f)⟩, ⟨p, some (.v (.int many))⟩, ⟨false, some (.v (.int z))⟩, ⟨false, none⟩, ⟨false, none⟩]) rfl]
    rw [ifs_t (e := [⟨true, some (penO cs (a + 1) d c f)⟩, ⟨p, some (.v (.int many))⟩, ⟨false, some (.v (.int z))⟩, ⟨false, none⟩, ⟨false, none⟩])]
    · rfl
    · show (some (R.ok (decide ((10 : Int) ^ 18 ≤ z), _)) : M (Bool × Vn)) = _
      rw [decide_eq_true hz18]
  · refine ⟨d, (f * A + z).fmod N, z, ⟨by omega, po.d0, po.c0, (fmod_range hN.1).1, by have := (fmod_range (a := f * A + z) hN.1).2; omega⟩, ?_⟩
    unfold drawCell
    rw [then_nx (set_eq (y := none) (op_eq (ds := [.lst (cs.map .int), .int a]) (o := .v (.int z)) rfl rfl (by show (atI (cs.map D.int) a).map O.v = _; rw [at_]; rfl)) rfl), then_nx (e := [⟨true, some (penO cs (a + 1) d c f)⟩, ⟨p, some (.v (.int many))⟩, ⟨false, some (.v (.int z))⟩, ⟨false, none⟩, ⟨false, none⟩]) rfl]
    rw [ifs_f (e := [⟨true, some (penO cs (a + 1) d c f)⟩, ⟨p, some (.v (.int many))⟩, ⟨false, some (.v (.int z))⟩, ⟨false, none⟩, ⟨false, none⟩])]
    · refine (put_eq (i := 0) (run := sPut) (dk := .str "fold") (o := penO cs (a + 1) d c f) (p := true) (o' := penO cs (a + 1) d c ((f * A + z).fmod N)) (fz_eq (op_eq (ex_eq (op_eq (ex_eq (op_eq (ex_eq (op_eq (o := .v (.int (f * A))) (ds := [.int f, .int A]) rfl rfl (fMul_eq (by unfold cMul; rw [hA, Bool.or_true]))) rfl) (ds := [.int (f * A), .int z]) rfl rfl) rfl) (ds := [.int (f * A + z)]) rfl rfl) rfl) (ds := [.int (f * A + z), .int N]) rfl (fMod_eq (by omega)))) rfl rfl rfl rfl).trans rfl
    · show (some (R.ok (decide ((10 : Int) ^ 18 ≤ z), _)) : M (Bool × Vn)) = _
      rw [decide_eq_false hz18]
theorem out_ok (hB : 0 ≤ B ∧ B < 1000000) (hC : 0 ≤ C ∧ C < 1000000) (po : PenOk cs a d c f) (hc : c ≤ 1000000000) (h1 : 1 ≤ many) (h2 : many < 1073741824) (x : Sl) :
    ∃ r d' y w, 0 ≤ r ∧ r < many ∧ PenOk cs a d' c f ∧ drawOut B C [⟨true, some (penO cs a d c f)⟩, ⟨p, some (.v (.int many))⟩, x, ⟨false, none⟩, ⟨false, none⟩] = some (.ok (.rt (.v (.int r)), [⟨true, some (penO cs a d' c f)⟩, ⟨p, some (.v (.int many))⟩, x, y, w])) := by
  have m1 : many ≠ 0 := by omega
  have m2 : many.natAbs < 1073741824 := by omega
  have f0 := po.f0
  have f1 := po.f1
  have c0 := po.c0
  by_cases hd : 0 < d
  · refine ⟨d.fmod many, d.fdiv many, ⟨false, none⟩, ⟨false, none⟩, (fmod_range (by omega)).1, (fmod_range (by omega)).2, ⟨po.a0, Int.fdiv_nonneg po.d0 (by omega), c0, f0, f1⟩, ?_⟩
    unfold drawOut
    refine then_rt ((ifs_t (e := [⟨true, some (penO cs a d c f)⟩, ⟨p, some (.v (.int many))⟩, x, ⟨false, none⟩, ⟨false, none⟩]) ?_).trans ?_)
    · show (some (R.ok (decide (0 < d), _)) : M (Bool × Vn)) = _
      rw [decide_eq_true hd]
    · rw [then_nx (set_eq (y := none) (op_eq (ds := [.int d, .int many]) rfl rfl (fMod_eq m1)) rfl)]
      rw [then_nx ((put_eq (i := 0) (run := sPut) (dk := .str "digits") (o := penO cs a d c f) (p := true) (o' := penO cs a (d.fdiv many) c f) (fz_eq (op_eq (ds := [.int d, .int many]) rfl rfl (fDiv_eq ⟨m1, m2⟩))) rfl rfl rfl rfl))]
      rfl
  · have bl : (f + c * B + C).natAbs < 2 ^ 64 := by
      have b0 : 0 ≤ c * B := Int.mul_nonneg c0 hB.1
      have b1 : c * B ≤ 1000000000 * 1000000 := Int.mul_le_mul hc (by omega) hB.1 (by omega)
      omega
    refine ⟨(((f + c * B + C) ^ 23).fmod 2305843009213693951).fdiv 128 |>.fmod many, d, ⟨false, none⟩, ⟨false, some (.v (.int (f + c * B + C)))⟩, (fmod_range (by omega)).1, (fmod_range (by omega)).2, po, ?_⟩
    unfold drawOut
    rw [then_nx ((ifs_f (e := [⟨true, some (penO cs a d c f)⟩, ⟨p, some (.v (.int many))⟩, x, ⟨false, none⟩, ⟨false, none⟩]) (by
      show (some (R.ok (decide (0 < d), _)) : M (Bool × Vn)) = _
      rw [decide_eq_false hd])).trans rfl)]
    have sB : small64 B = true := by
      unfold small64
      exact decide_eq_true (by omega)
    rw [then_nx (set_eq (y := none) (op_eq (ex_eq (op_eq (ex_eq rfl (ex_eq (op_eq (ex_eq rfl rfl) (ds := [.int c, .int B]) rfl (fMul_eq (by unfold cMul; rw [sB, Bool.or_true]))) rfl)) (ds := [.int f, .int (c * B)]) (o := .v (.int (f + c * B))) rfl rfl) rfl) (ds := [.int (f + c * B), .int C]) (o := .v (.int (f + c * B + C))) rfl rfl) rfl)]
    exact rt_eq (op_eq (ex_eq (op_eq (ex_eq (op_eq (ex_eq (op_eq (ex_eq (op_eq rfl (ds := [.int (f + c * B + C), .int 23]) rfl (fPow_eq ⟨by omega, by omega, bl⟩)) rfl) (ds := [.int ((f + c * B + C) ^ 23), .int 2305843009213693951]) rfl (fMod_eq (by decide))) rfl) (ds := [.int (((f + c * B + C) ^ 23).fmod 2305843009213693951)]) rfl rfl) rfl) (ds := [.int (((f + c * B + C) ^ 23).fmod 2305843009213693951), .int 128]) rfl (fDiv_eq (by decide))) rfl) (ds := [.int ((((f + c * B + C) ^ 23).fmod 2305843009213693951).fdiv 128), .int many]) rfl (fMod_eq m1))
theorem draw_ok {A N B C : Int} (hA : small64 A = true) (hN : 0 < N ∧ N < 2147483648) (hB : 0 ≤ B ∧ B < 1000000) (hC : 0 ≤ C ∧ C < 1000000) {cs : List Int} {a d c f many : Int} {p : Bool} (po : PenOk cs a d c f) (hc : c < 1000000000) (h1 : 1 ≤ many) (h2 : many < 1073741824) :
    ∃ r a' d' f', 0 ≤ r ∧ r < many ∧ PenOk cs a' d' (c + 1) f' ∧ vFn 2 3 (drawB A N B C) [⟨true, some (penO cs a d c f)⟩, ⟨p, some (.v (.int many))⟩] = some (.ok (.v (.int r), [⟨true, some (penO cs a' d' (c + 1) f')⟩, ⟨p, some (.v (.int many))⟩])) := by
  have pc : PenOk cs a d (c + 1) f := ⟨po.a0, po.d0, by have := po.c0; omega, po.f0, po.f1⟩
  have go : ∀ {a' d' f' : Int} {x : Sl}, PenOk cs a' d' (c + 1) f' → (∀ g, vThen (vIfS (vAndT (vB (vOp fEq (vEx (vOp fIx (vSl 0 (vEx (vLit (.str "digits")) vNil))) (vEx (vLit (.int 0)) vNil)))) (vB (vOp (fCI fun a b => decide (a < b)) (vEx (vOp fIx (vSl 0 (vEx (vLit (.str "at")) vNil))) (vEx (vOp fLen (vEx (vOp fIx (vSl 0 (vEx (vLit (.str "cells")) vNil))) vNil)) vNil))))) (drawCell A N) vNx) g [⟨true, some (penO cs a d (c + 1) f)⟩, ⟨p, some (.v (.int many))⟩, ⟨false, none⟩, ⟨false, none⟩, ⟨false, none⟩] = g [⟨true, some (penO cs a' d' (c + 1) f')⟩, ⟨p, some (.v (.int many))⟩, x, ⟨false, none⟩, ⟨false, none⟩]) →
      ∃ r a' d' f', 0 ≤ r ∧ r < many ∧ PenOk cs a' d' (c + 1) f' ∧ vFn 2 3 (drawB A N B C) [⟨true, some (penO cs a d c f)⟩, ⟨p, some (.v (.int many))⟩] = some (.ok (.v (.int r), [⟨true, some (penO cs a' d' (c + 1) f')⟩, ⟨p, some (.v (.int many))⟩])) := by
    intro a' d' f' x pm hg
    obtain ⟨r, d2, y, w, r1, r2, p2, e⟩ := out_ok (B := B) (C := C) (many := many) (p := p) hB hC pm (by omega) h1 h2 x
    refine ⟨r, a', d2, f', r1, r2, p2, fn_rt (m := 3) (e := [⟨true, some (penO cs a' d2 (c + 1) f')⟩, ⟨p, some (.v (.int many))⟩, x, y, w]) rfl ?_⟩
    show drawB A N B C [⟨true, some (penO cs a d c f)⟩, ⟨p, some (.v (.int many))⟩, ⟨false, none⟩, ⟨false, none⟩, ⟨false, none⟩] = _
    unfold drawB
    rw [then_nx (e := [⟨true, some (penO cs a d (c + 1) f)⟩, ⟨p, some (.v (.int many))⟩, ⟨false, none⟩, ⟨false, none⟩, ⟨false, none⟩]) rfl, hg, e]
  by_cases hd : d = 0
  · by_cases ha : a < cs.length
    · obtain ⟨d', f', z, pm, e⟩ := cell_ok (many := many) (p := p) hA hN pc ha
      subst hd
      refine go (x := ⟨false, some (.v (.int z))⟩) pm fun g => then_nx (e := [⟨true, some (penO cs (a + 1) d' (c + 1) f')⟩, ⟨p, some (.v (.int many))⟩, ⟨false, some (.v (.int z))⟩, ⟨false, none⟩, ⟨false, none⟩]) ((ifs_t (e := [⟨true, some (penO cs a 0 (c + 1) f)⟩, ⟨p, some (.v (.int many))⟩, ⟨false, none⟩, ⟨false, none⟩, ⟨false, none⟩]) ?_).trans e)
      show (some (R.ok (decide (a < ((cs.map D.int).length : Int)), _)) : M (Bool × Vn)) = _
      rw [List.length_map, decide_eq_true ha]
    · subst hd
      refine go pc (x := ⟨false, none⟩) fun g => then_nx (e := [⟨true, some (penO cs a 0 (c + 1) f)⟩, ⟨p, some (.v (.int many))⟩, ⟨false, none⟩, ⟨false, none⟩, ⟨false, none⟩]) ((ifs_f (e := [⟨true, some (penO cs a 0 (c + 1) f)⟩, ⟨p, some (.v (.int many))⟩, ⟨false, none⟩, ⟨false, none⟩, ⟨false, none⟩]) ?_).trans rfl)
      show (some (R.ok (decide (a < ((cs.map D.int).length : Int)), _)) : M (Bool × Vn)) = _
      rw [List.length_map, decide_eq_false ha]
  · refine go pc (x := ⟨false, none⟩) fun g => then_nx (e := [⟨true, some (penO cs a d (c + 1) f)⟩, ⟨p, some (.v (.int many))⟩, ⟨false, none⟩, ⟨false, none⟩, ⟨false, none⟩]) ((ifs_f (e := [⟨true, some (penO cs a d (c + 1) f)⟩, ⟨p, some (.v (.int many))⟩, ⟨false, none⟩, ⟨false, none⟩, ⟨false, none⟩]) ?_).trans rfl)
    show (if decide (d = 0) = true then (some (R.ok (decide (a < ((cs.map D.int).length : Int)), _)) : M (Bool × Vn)) else some (R.ok (false, [⟨true, some (penO cs a d (c + 1) f)⟩, ⟨p, some (.v (.int many))⟩, ⟨false, none⟩, ⟨false, none⟩, ⟨false, none⟩]))) = _
    rw [decide_eq_false hd]
    rfl
end
end Vi

set_option Elab.async false
set_option linter.all false
set_option maxRecDepth 100000
set_option maxHeartbeats 1000000
/-! Vm2: loops, comprehensions, shown data. -/
namespace Vi
open PySem PySem.Spec L2

/-- a loop that runs through, by what stands ahead of each turn -/
theorem goFor_inv {t : D → Vn → Option Vn} {b : Vn → M (Fl × Vn)} {I : List D → Vn → Prop} (step : ∀ d r env, I (d :: r) env → ∃ e1 e2, t d env = some e1 ∧ (b e1 = some (.ok (.nx, e2)) ∨ b e1 = some (.ok (.ct, e2))) ∧ I r e2) : ∀ (ds : List D) (env : Vn), I ds env → ∃ env', goFor t b ds env = some (.ok (.nx, env')) ∧ I [] env'
  | [], env, h => ⟨env, rfl, h⟩
  | d :: r, env, h => by
    obtain ⟨e1, e2, h1, h2, h3⟩ := step d r env h
    obtain ⟨e', g1, g2⟩ := goFor_inv step r e2 h3
    refine ⟨e', ?_, g2⟩
    unfold goFor
    rw [h1]
    show M.bind (b e1) _ = _
    rcases h2 with h2 | h2
    · rw [h2]
      exact g1
    · rw [h2]
      exact g1
theorem for_eq {g : Vn → M (List D × Vn)} {t : D → Vn → Option Vn} {b : Vn → M (Fl × Vn)} {env e : Vn} {ds : List D} (h : g env = some (.ok (ds, e))) : vFor g t b env = goFor t b ds e := by
  unfold vFor
  rw [h]
  rfl
/-- a comprehension whose turns leave the names as they were -/
theorem goLc_map {own : List Nat} {t : D → Vn → Option Vn} {c : Vn → M (Bool × Vn)} {f : Vn → M (O × Vn)} {env : Vn} {q : D → Bool} {g : D → D} : ∀ (ds acc : List D), (∀ d ∈ ds, ∃ e1 e2, t d env = some e1 ∧ c e1 = some (.ok (q d, e2)) ∧ (q d = true → ∃ e3, f e2 = some (.ok (.v (g d), e3)) ∧ wipeV own e3 = some env) ∧ (q d = false → wipeV own e2 = some env)) → acc.length + ds.length ≤ sizeLine →
    goLc own t c f ds acc env = some (.ok (acc ++ (ds.filter q).map g, env))
  | [], acc, _, _ => by
    rw [List.filter_nil, List.map_nil, List.append_nil]
    rfl
  | d :: r, acc, h, hl => by
    obtain ⟨e1, e2, h1, h2, h3, h4⟩ := h d List.mem_cons_self
    rw [List.length_cons] at hl
    unfold goLc
    rw [h1]
    show M.bindN (c e1) _ = _
    rw [h2]
    show (if q d = true then M.bindN (f e2) fun x => _ else _) = _
    cases hq : q d with
    | true =>
      obtain ⟨e3, h5, h6⟩ := h3 hq
      rw [if_pos rfl, h5]
      show (match O.v (g d), wipeV own e3 with
        | .v d', some e4 => if acc.length < sizeLine then goLc own t c f r (acc ++ [d']) e4 else none
        | _, _ => none) = _
      rw [h6]
      show (if acc.length < sizeLine then goLc own t c f r (acc ++ [g d]) env else none) = _
      rw [if_pos (by omega), goLc_map r (acc ++ [g d]) (fun x hx => h x (List.mem_cons_of_mem _ hx)) (by rw [List.length_append, List.length_singleton]; omega), List.filter_cons_of_pos hq, List.map_cons, List.append_assoc]
      rfl
    | false =>
      rw [if_neg (by decide), h4 hq]
      show goLc own t c f r acc env = _
      rw [goLc_map r acc (fun x hx => h x (List.mem_cons_of_mem _ hx)) (by omega), List.filter_cons_of_neg (by rw [hq]; decide)]
theorem lc_eq {own : List Nat} {gi : Vn → M (List D × Vn)} {t : D → Vn → Option Vn} {c : Vn → M (Bool × Vn)} {f : Vn → M (O × Vn)} {env e e0 e1 e2 : Vn} {ds acc : List D} (h1 : gi env = some (.ok (ds, e))) (h2 : wipeV own e = some e0) (h3 : goLc own t c f ds [] e0 = some (.ok (acc, e1))) (h4 : backV e own e1 = some e2) : vLc own gi t c f env = some (.ok (.l acc, e2)) := by
  unfold vLc
  rw [h1]
  show (match wipeV own e with
    | none => none
    | some e0 => M.bindN (goLc own t c f ds [] e0) fun (acc, e1) => match backV e own e1 with
      | some e2 => M.ret (O.l acc, e2)
      | none => none) = _
  rw [h2]
  show M.bindN (goLc own t c f ds [] e0) _ = _
  rw [h3]
  show (match backV e own e1 with
      | some e2 => M.ret (O.l acc, e2)
      | none => none) = _
  rw [h4]
  rfl

/-! ### what can be shown -/
mutual
/-- the leaves are small -/
def D.lf : D → Bool
  | .non => true
  | .bl _ => true
  | .int i => decide (i.natAbs < 10 ^ 12)
  | .str s => (s.cps.toList.all fun c => decide (c < 16 ^ 8)) && PyData.strOk s
  | .tup xs => lfs xs
  | .lst xs => lfs xs
  | _ => false
def lfs : List D → Bool
  | [] => true
  | d :: r => d.lf && lfs r
end
mutual
def D.bk : D → Nat
  | .str s => s.cps.size
  | .tup xs => bks xs
  | .lst xs => bks xs
  | _ => 0
def bks : List D → Nat
  | [] => 0
  | d :: r => d.bk + 1 + bks r
end
mutual
def D.dep : D → Nat
  | .tup xs => deps xs + 1
  | .lst xs => deps xs + 1
  | _ => 0
def deps : List D → Nat
  | [] => 0
  | d :: r => max d.dep (deps r)
end
mutual
theorem py_ok : ∀ {d : D}, d.lf = true → ∃ p, d.py = some p ∧ p.showable = true ∧ p.hasDict = false ∧ p.leavesShort 13 = true ∧ p.bulk = d.bk ∧ p.depth = d.dep ∧ p.canLay0 = true
  | .non, _ => ⟨_, rfl, rfl, rfl, rfl, rfl, rfl, rfl⟩
  | .bl _, _ => ⟨_, rfl, rfl, rfl, rfl, rfl, rfl, rfl⟩
  | .int i, h => by
    have h1 : i.natAbs < 10 ^ 12 := of_decide_eq_true h
    refine ⟨_, rfl, ?_, rfl, ?_, rfl, rfl, rfl⟩
    · show decide (i.natAbs.log2 < 1920) = true
      refine decide_eq_true ?_
      by_cases z : i.natAbs = 0
      · rw [z]
        decide
      · have q : i.natAbs.log2 < 40 := (Nat.log2_lt z).mpr (Nat.lt_of_lt_of_le h1 (by decide))
        omega
    · show decide ((PyData.shown (.int i)).length ≤ 13) = true
      refine decide_eq_true ?_
      have q := int_text_length_le10 (a := i) (k := 12) (by decide) h1
      show (Str.ofString (toString i)).length ≤ 13
      rw [ofString_length]
      exact q
  | .str s, h => ⟨_, rfl, rfl, rfl, (Bool.and_eq_true_iff.mp h).1, rfl, rfl, (Bool.and_eq_true_iff.mp h).2⟩
  | .tup xs, h => by
    obtain ⟨ps, e, h1, h2, h3, h4, h5, h6⟩ := pys_ok (ds := xs) h
    refine ⟨.tuple ps, ?_, h1, h2, h3, h4, congrArg (· + 1) h5, h6⟩
    show (pys xs).map PyData.tuple = _
    rw [e]
    rfl
  | .lst xs, h => by
    obtain ⟨ps, e, h1, h2, h3, h4, h5, h6⟩ := pys_ok (ds := xs) h
    refine ⟨.list ps, ?_, h1, h2, h3, h4, congrArg (· + 1) h5, h6⟩
    show (pys xs).map PyData.list = _
    rw [e]
    rfl
theorem pys_ok : ∀ {ds : List D}, lfs ds = true → ∃ ps, pys ds = some ps ∧ PyData.showableAll ps = true ∧ PyData.hasDictAll ps = false ∧ PyData.leavesShortAll 13 ps = true ∧ PyData.bulkAll ps = bks ds ∧ PyData.depthAll ps = deps ds ∧ PyData.canLayAll0 ps = true
  | [], _ => ⟨[], rfl, rfl, rfl, rfl, rfl, rfl, rfl⟩
  | d :: r, h => by
    obtain ⟨z1, z2⟩ := Bool.and_eq_true_iff.mp (show (d.lf && lfs r) = true from h)
    obtain ⟨p, e, h1, h2, h3, h4, h5, h6⟩ := py_ok z1
    obtain ⟨ps, e', h1', h2', h3', h4', h5', h6'⟩ := pys_ok z2
    refine ⟨p :: ps, ?_, ?_, ?_, ?_, ?_, ?_, ?_⟩
    · show (match d.py, pys r with
        | some p, some ps => some (p :: ps)
        | _, _ => none) = _
      rw [e, e']
    · show (p.showable && PyData.showableAll ps) = true
      rw [h1, h1']
      rfl
    · show (p.hasDict || PyData.hasDictAll ps) = false
      rw [h2, h2']
      rfl
    · show (p.leavesShort 13 && PyData.leavesShortAll 13 ps) = true
      rw [h3, h3']
      rfl
    · show p.bulk + 1 + PyData.bulkAll ps = d.bk + 1 + bks r
      rw [h4, h4']
    · show max p.depth (PyData.depthAll ps) = max d.dep (deps r)
      rw [h5, h5']
    · show (p.canLay0 && PyData.canLayAll0 ps) = true
      rw [h6, h6']
      rfl
end
theorem shw_ok {d : D} (h : d.lf = true) (hb : d.bk ≤ 2 ^ 20) (hd : d.dep ≤ 64) : ∃ s, d.shw = some s := by
  obtain ⟨p, e, h1, h2, h3, h4, h5, _⟩ := py_ok h
  have h6 : p.shown.length ≤ sizeLine := PyData.shown_fits_bulk (B := 13) (by decide) (by decide) h3 (by rw [h4]; exact hb)
  refine ⟨p.shown, ?_⟩
  unfold D.shw
  rw [e]
  show (if p.showable && (!p.hasDict && (decide (p.depth ≤ 64) && decide (p.shown.length ≤ sizeLine))) then some p.shown else none) = _
  rw [h1, h2, decide_eq_true h6, decide_eq_true (by rw [h5]; exact hd)]
  rfl
end Vi

set_option Elab.async false
set_option linter.all false
set_option maxRecDepth 100000
set_option maxHeartbeats 1000000
/-! Vm3: the pen made; picks; letters; small things. -/
namespace Vi
open PySem PySem.Spec L2

def penB (A N : Int) : Vn → M (Fl × Vn) := (vThen (vSet 1 (vLit (.int 0))) (vThen (vFor (vSeq (vRd 0)) (tgName 2) (vSet 1 (vOp fMod (vEx (vOp fInt (vEx (vOp fAdd (vEx (vOp fMul (vSl 1 (vEx (vLit (.int A)) vNil))) (vSl 2 vNil))) vNil)) (vEx (vLit (.int N)) vNil))))) (vRt (vDisp [(.inr "cells", (vFz (vOp fList (vSl 0 vNil)))), (.inr "at", (vLit (.int 0))), (.inr "digits", (vLit (.int 0))), (.inr "count", (vLit (.int 0))), (.inr "fold", (vRd 1))]))))
theorem pen_ok {A N : Int} (hA : small64 A = true) (hN : 0 < N ∧ N < 2147483648) {p : Bool} (ns : List Int) : ∃ f, PenOk ns 0 0 0 f ∧ vFn 1 2 (penB A N) [⟨p, some (.v (.lst (ns.map .int)))⟩] = some (.ok (penO ns 0 0 0 f, [⟨p, some (.v (.lst (ns.map .int)))⟩])) := by
  obtain ⟨env', h1, ms, f, x2, h2, h3, f0, f1⟩ := goFor_inv (t := tgName 2) (b := (vSet 1 (vOp fMod (vEx (vOp fInt (vEx (vOp fAdd (vEx (vOp fMul (vSl 1 (vEx (vLit (.int A)) vNil))) (vSl 2 vNil))) vNil)) (vEx (vLit (.int N)) vNil)))))
    (I := fun ds env => ∃ (ms : List Int) (f : Int) (x2 : Option O), ds = ms.map D.int ∧ env = [⟨p, some (.v (.lst (ns.map .int)))⟩, ⟨false, some (.v (.int f))⟩, ⟨false, x2⟩] ∧ 0 ≤ f ∧ f < 2147483648)
    (fun d r env ⟨ms, f, x2, h1, h2, f0, f1⟩ => by
      cases ms with
      | nil => cases h1
      | cons m ms =>
        cases h1
        subst h2
        refine ⟨[⟨p, some (.v (.lst (ns.map .int)))⟩, ⟨false, some (.v (.int f))⟩, ⟨false, some (.v (.int m))⟩], [⟨p, some (.v (.lst (ns.map .int)))⟩, ⟨false, some (.v (.int ((f * A + m).fmod N)))⟩, ⟨false, some (.v (.int m))⟩], rfl, .inl ?_, ms, _, _, rfl, rfl, (fmod_range hN.1).1, by have := (fmod_range (a := f * A + m) hN.1).2; omega⟩
        exact (set_eq (i := 1) (op_eq (ex_eq (op_eq (ex_eq (op_eq (ex_eq (op_eq (o := .v (.int (f * A))) (ds := [.int f, .int A]) rfl rfl (fMul_eq (by unfold cMul; rw [hA, Bool.or_true]))) rfl) (ds := [.int (f * A), .int m]) rfl rfl) rfl) (ds := [.int (f * A + m)]) rfl rfl) rfl) (ds := [.int (f * A + m), .int N]) rfl (fMod_eq (by omega))) rfl).trans rfl)
    (ns.map D.int) [⟨p, some (.v (.lst (ns.map .int)))⟩, ⟨false, some (.v (.int 0))⟩, ⟨false, none⟩] ⟨ns, 0, none, rfl, rfl, by decide, by decide⟩
  refine ⟨f, ⟨by decide, by decide, by decide, f0, f1⟩, fn_rt (m := 2) (e := [⟨p, some (.v (.lst (ns.map .int)))⟩, ⟨false, some (.v (.int f))⟩, ⟨false, x2⟩]) rfl ?_⟩
  show penB A N [⟨p, some (.v (.lst (ns.map .int)))⟩, ⟨false, none⟩, ⟨false, none⟩] = _
  unfold penB
  rw [then_nx (e := [⟨p, some (.v (.lst (ns.map .int)))⟩, ⟨false, some (.v (.int 0))⟩, ⟨false, none⟩]) rfl, then_nx ((for_eq (e := [⟨p, some (.v (.lst (ns.map .int)))⟩, ⟨false, some (.v (.int 0))⟩, ⟨false, none⟩]) (ds := ns.map D.int) rfl).trans h1)]
  rw [h3]
  rfl
/-- what a slot's content is picked from -/
def pickB (dr : Vn → M (O × Vn)) : Vn → M (Fl × Vn) := (vRt (vOp fIx (vSl 1 (vEx (vCall dr (vSl 0 (vEx (vOp fLen (vSl 1 vNil)) vNil))) vNil))))
theorem pick_ok {A N B C : Int} (hA : small64 A = true) (hN : 0 < N ∧ N < 2147483648) (hB : 0 ≤ B ∧ B < 1000000) (hC : 0 ≤ C ∧ C < 1000000) {cs : List Int} {a d c f : Int} {xs : List D} {p : Bool} (po : PenOk cs a d c f) (hc : c < 1000000000) (h1 : 1 ≤ xs.length) (h2 : xs.length < 1073741824) :
    ∃ x a' d' f', x ∈ xs ∧ PenOk cs a' d' (c + 1) f' ∧ vFn 2 0 (pickB (vFn 2 3 (drawB A N B C))) [⟨true, some (penO cs a d c f)⟩, ⟨p, some (.l xs)⟩] = some (.ok (.v x, [⟨true, some (penO cs a' d' (c + 1) f')⟩, ⟨p, some (.l xs)⟩])) := by
  obtain ⟨r, a', d', f', r0, r1, pm, e⟩ := draw_ok (many := (xs.length : Int)) (p := false) hA hN hB hC po hc (by omega) (by omega)
  obtain ⟨x, hx⟩ : ∃ x, xs[r.toNat]? = some x := ⟨_, List.getElem?_eq_getElem (by omega)⟩
  refine ⟨x, a', d', f', List.mem_of_getElem? hx, pm, fn_rt (m := 0) (e := [⟨true, some (penO cs a' d' (c + 1) f')⟩, ⟨p, some (.l xs)⟩]) rfl ?_⟩
  show pickB _ [⟨true, some (penO cs a d c f)⟩, ⟨p, some (.l xs)⟩] = _
  unfold pickB
  refine rt_eq (op_eq (rs := [.s 1, .t (.v (.int r))]) (ds := [.lst xs, .int r]) (e := [⟨true, some (penO cs a' d' (c + 1) f')⟩, ⟨p, some (.l xs)⟩]) ?_ rfl ?_)
  · have q := call_eq (g := (vSl 0 (vEx (vOp fLen (vSl 1 vNil)) vNil))) (env := [⟨true, some (penO cs a d c f)⟩, ⟨p, some (.l xs)⟩]) (e := [⟨true, some (penO cs a d c f)⟩, ⟨p, some (.l xs)⟩]) (rs := [.s 0, .t (.v (.int xs.length))]) (e1 := [⟨true, none⟩, ⟨p, some (.l xs)⟩]) (e2 := [⟨true, some (penO cs a' d' (c + 1) f')⟩, ⟨p, some (.l xs)⟩]) rfl rfl e rfl
    show M.bind (vEx _ _ _) _ = _
    rw [ex_eq q (g := vNil) (rs := []) rfl]
    rfl
  · show (atI xs r).map O.v = _
    unfold atI ixN
    rw [if_pos r0, if_pos r1]
    show (xs[r.toNat]?).map O.v = _
    rw [hx]
    rfl
/-! ### more of straight code -/
section
variable {env e e1 e2 e3 : Vn} {o : O} {b : Bool}
theorem and_eq {f g : Vn → M (O × Vn)} (h : f env = some (.ok (o, e))) (ht : o.fz.tru = some b) : vAnd f g env = if b = true then g e else some (.ok (o, e)) := by
  unfold vAnd
  rw [h]
  show (match o.fz.tru with
    | some b => if b = true then g e else M.ret (o, e)
    | none => none) = _
  rw [ht]
  rfl
theorem or_eq {f g : Vn → M (O × Vn)} (h : f env = some (.ok (o, e))) (ht : o.fz.tru = some b) : vOr f g env = if b = true then some (.ok (o, e)) else g e := by
  unfold vOr
  rw [h]
  show (match o.fz.tru with
    | some b => if b = true then M.ret (o, e) else g e
    | none => none) = _
  rw [ht]
  rfl
theorem andT_eq {f g : Vn → M (Bool × Vn)} (h : f env = some (.ok (b, e))) : vAndT f g env = if b = true then g e else some (.ok (false, e)) := by
  unfold vAndT
  rw [h]
  rfl
theorem orT_eq {f g : Vn → M (Bool × Vn)} (h : f env = some (.ok (b, e))) : vOrT f g env = if b = true then some (.ok (true, e)) else g e := by
  unfold vOrT
  rw [h]
  rfl
theorem notT_eq {f : Vn → M (Bool × Vn)} (h : f env = some (.ok (b, e))) : vNotT f env = some (.ok (!b, e)) := by
  unfold vNotT
  rw [h]
  rfl
/-- both, with the names left as they are -/
theorem andT_ok {f g : Vn → M (Bool × Vn)} {c : Bool} (h : f env = some (.ok (b, env))) (k : b = true → g env = some (.ok (c, env))) : vAndT f g env = some (.ok (b && c, env)) := by
  rw [andT_eq h]
  cases b with
  | true => rw [if_pos rfl, k rfl]; rfl
  | false => rfl
theorem orT_ok {f g : Vn → M (Bool × Vn)} {c : Bool} (h : f env = some (.ok (b, env))) (k : b = false → g env = some (.ok (c, env))) : vOrT f g env = some (.ok (b || c, env)) := by
  rw [orT_eq h]
  cases b with
  | true => rfl
  | false => rw [if_neg (by decide), k rfl]; rfl
theorem andB_ok {f g : Vn → M (O × Vn)} {c : Bool} (h : f env = some (.ok (.v (.bl b), env))) (k : b = true → g env = some (.ok (.v (.bl c), env))) : vAnd f g env = some (.ok (.v (.bl (b && c)), env)) := by
  rw [and_eq h (b := b) rfl]
  cases b with
  | true => rw [if_pos rfl, k rfl]; rfl
  | false => rfl
theorem tr_eq {g : Vn → M (List Lr × Vn)} {rs : List Lr} {d : D} (h : g env = some (.ok (rs, e))) (hv : views e rs = some [d]) (ht : d.tru = some b) : vTr g env = some (.ok (b, e)) := by
  unfold vTr
  rw [h]
  show (match views e rs with
    | some [d] => match d.tru with
      | some b => M.ret (b, e)
      | none => none
    | _ => none) = _
  rw [hv]
  show (match d.tru with
      | some b => M.ret (b, e)
      | none => none) = _
  rw [ht]
  rfl
theorem vb_eq {f : Vn → M (O × Vn)} (h : f env = some (.ok (.v (.bl b), e))) : vB f env = some (.ok (b, e)) := by
  unfold vB
  rw [h]
  rfl
theorem not_eq {g : Vn → M (List Lr × Vn)} {rs : List Lr} {d : D} (h : g env = some (.ok (rs, e))) (hv : views e rs = some [d]) (ht : d.tru = some b) : vNot g env = some (.ok (.v (.bl (!b)), e)) := by
  unfold vNot
  rw [tr_eq h hv ht]
  rfl
theorem chain_ok {c1 c2 : Int → Int → Bool} {fa fb fc : Vn → M (O × Vn)} {x y z : Int} (ha : fa env = some (.ok (.v (.int x), e1))) (hb : fb e1 = some (.ok (.v (.int y), e2))) (hc : fc e2 = some (.ok (.v (.int z), e2))) : vChain c1 c2 fa fb fc env = some (.ok (.v (.bl (c1 x y && c2 y z)), e2)) := by
  unfold vChain
  rw [ha]
  show M.bind (fb e1) _ = _
  rw [hb]
  show (if c1 x y = true then M.bind (fc e2) _ else M.ret (O.v (.bl false), e2)) = _
  cases h : c1 x y with
  | true =>
    rw [if_pos rfl, hc]
    rfl
  | false => rfl
theorem if_eq {c : Vn → M (Bool × Vn)} {f g : Vn → M (O × Vn)} (h : c env = some (.ok (b, e))) : vIf c f g env = if b = true then f e else g e := by
  unfold vIf
  rw [h]
  rfl
theorem drop_eq {f : Vn → M (O × Vn)} (h : f env = some (.ok (o, e))) : vDrop f env = some (.ok (.nx, e)) := by
  unfold vDrop
  rw [h]
  rfl
theorem asg_eq {f : Vn → M (O × Vn)} {t : D → Vn → Option Vn} {d : D} (h : f env = some (.ok (.v d, e))) (ht : t d e = some e2) : vAsg f t env = some (.ok (.nx, e2)) := by
  unfold vAsg
  rw [h]
  show (match t d e with
    | some e2 => M.ret (Fl.nx, e2)
    | none => none) = _
  rw [ht]
  rfl
end
/-! ### slices -/
theorem cut_from {xs : List D} {n : Nat} (h : n ≤ xs.length) : cutD xs (some (n : Int)) none = xs.drop n := by
  unfold cutD
  rw [HT.sIx_nat, HT.sIx_none, Nat.min_eq_left h, List.take_of_length_le (by rw [List.length_drop]; exact Nat.le_refl _)]
theorem cut_to {xs : List D} {n : Nat} (h : n ≤ xs.length) : cutD xs none (some (n : Int)) = xs.take n := by
  unfold cutD
  rw [HT.sIx_nat, HT.sIx_none, Nat.min_eq_left h, Nat.sub_zero, List.drop_zero]
theorem trus_bl {q : D → Bool} : ∀ r : List D, trus (r.map fun d => D.bl (q d)) = some (r.map q)
  | [] => rfl
  | d :: r => by
    show (match (D.bl (q d)).tru, trus (r.map fun d => D.bl (q d)) with
      | some b, some bs => some (b :: bs)
      | _, _ => none) = _
    rw [trus_bl r]
    rfl
theorem allM_bl {q : D → Bool} (r : List D) : fAllM [.lst (r.map fun d => D.bl (q d))] = some (.v (.bl (r.all q))) := by
  show (match trus (r.map fun d => D.bl (q d)) with
    | some bs => some (O.v (.bl (bs.all id)))
    | none => none) = _
  rw [trus_bl]
  show some (O.v (.bl ((r.map q).all id))) = _
  rw [List.all_map]
  rfl
theorem at_zero {x : D} {xs : List D} : atI (x :: xs) 0 = some x := by
  unfold atI ixN
  rw [if_pos (by decide), if_pos (by rw [List.length_cons]; omega)]
  rfl
theorem at_nat {xs : List D} {n : Nat} {x : D} (h : xs[n]? = some x) : atI xs (n : Int) = some x := by
  have hl := (List.getElem?_eq_some_iff.mp h).1
  unfold atI ixN
  rw [if_pos (by omega), if_pos (by omega), Int.toNat_natCast]
  exact h
theorem ix_tup {xs : List D} {i : Int} {x : D} (h : atI xs i = some x) : fIx [.tup xs, .int i] = some (.v x) := by
  show (atI xs i).map O.v = _
  rw [h]
  rfl
theorem ix_lst {xs : List D} {i : Int} {x : D} (h : atI xs i = some x) : fIx [.lst xs, .int i] = some (.v x) := by
  show (atI xs i).map O.v = _
  rw [h]
  rfl
end Vi

set_option Elab.async false
set_option linter.all false
set_option maxRecDepth 100000
set_option maxHeartbeats 1000000
/-! Vm4: == of data. -/
namespace Vi
open PySem PySem.Spec L2

mutual
theorem eqv_refl : ∀ p : PyData, p.canLay0 = true → p.eqv p = true
  | .none, _ => rfl
  | .bool b, _ => by cases b <;> rfl
  | .int i, _ => beq_self_eq_true i
  | .str s, _ => beq_self_eq_true s
  | .list xs, h => eqvs_refl xs h
  | .tuple xs, h => eqvs_refl xs h
  | .dict _, h => by cases h
theorem eqvs_refl : ∀ ps : List PyData, PyData.canLayAll0 ps = true → PyData.eqvAll ps ps = true
  | [], _ => rfl
  | p :: ps, h => by
    obtain ⟨h1, h2⟩ := Bool.and_eq_true_iff.mp (show (p.canLay0 && PyData.canLayAll0 ps) = true from h)
    show (p.eqv p && PyData.eqvAll ps ps) = true
    rw [eqv_refl p h1, eqvs_refl ps h2]
    rfl
end
/-- what may be compared -/
def D.cmp (d : D) : Bool := d.lf && decide (d.dep ≤ 64)
theorem shp_ok {d : D} (h : d.cmp = true) : ∃ p, d.shp = some p ∧ d.py = some p ∧ p.canLay0 = true := by
  obtain ⟨h1, h2⟩ := Bool.and_eq_true_iff.mp h
  obtain ⟨p, e, _, _, _, _, h5, h6⟩ := py_ok h1
  refine ⟨p, ?_, e, h6⟩
  unfold D.shp
  rw [e]
  show (if SeqAt.shaped p = true then some p else none) = _
  rw [if_pos (by unfold SeqAt.shaped; rw [h6, h5]; exact h2)]
theorem eq_self {d : D} (h : d.cmp = true) : eq? d d = some true := by
  obtain ⟨p, e1, e2, h3⟩ := shp_ok h
  have key : (match d.shp, d.shp with
    | some p, some q => some (p.eqv q)
    | _, _ => none) = some true := by
    rw [e1]
    show some (p.eqv p) = _
    rw [eqv_refl p h3]
  cases d with
  | int i => show some (decide (i = i)) = _; rw [decide_eq_true rfl]
  | str s => show some (decide (s = s)) = _; rw [decide_eq_true rfl]
  | _ => exact key
theorem pys_len : ∀ {ds : List D} {ps : List PyData}, pys ds = some ps → ps.isEmpty = ds.isEmpty
  | [], _, e => by
    cases e
    rfl
  | d :: r, ps, e => by
    have e' : (match d.py, pys r with
      | some p, some ps => some (p :: ps)
      | _, _ => none) = some ps := e
    split at e'
    · cases e'
      rfl
    · cases e'
theorem eq_nilL {ds : List D} (h : (D.lst ds).cmp = true) : eq? (.lst ds) (.lst []) = some ds.isEmpty := by
  obtain ⟨p, e1, e2, _⟩ := shp_ok h
  show (match (D.lst ds).shp, (D.lst []).shp with
    | some p, some q => some (p.eqv q)
    | _, _ => none) = _
  rw [e1]
  have e3 : (pys ds).map PyData.list = some p := e2
  obtain ⟨ps, e4, rfl⟩ := Option.map_eq_some_iff.mp e3
  rw [← pys_len e4]
  cases ps <;> rfl
theorem eq_nilT {ds : List D} (h : (D.tup ds).cmp = true) : eq? (.tup ds) (.tup []) = some ds.isEmpty := by
  obtain ⟨p, e1, e2, _⟩ := shp_ok h
  show (match (D.tup ds).shp, (D.tup []).shp with
    | some p, some q => some (p.eqv q)
    | _, _ => none) = _
  rw [e1]
  have e3 : (pys ds).map PyData.tuple = some p := e2
  obtain ⟨ps, e4, rfl⟩ := Option.map_eq_some_iff.mp e3
  rw [← pys_len e4]
  cases ps <;> rfl
theorem lfs_all : ∀ {ds : List D}, lfs ds = ds.all D.lf
  | [] => rfl
  | d :: r => by
    show (d.lf && lfs r) = _
    rw [lfs_all]
    rfl
theorem deps_le {n : Nat} : ∀ {ds : List D}, (∀ d ∈ ds, d.dep ≤ n) → deps ds ≤ n
  | [], _ => Nat.zero_le _
  | d :: r, h => Nat.max_le.mpr ⟨h d List.mem_cons_self, deps_le fun x m => h x (List.mem_cons_of_mem _ m)⟩
end Vi

set_option Elab.async false
set_option linter.all false
set_option maxRecDepth 100000
set_option maxHeartbeats 1000000
/-! Vm5: comprehensions of two clauses. -/
namespace Vi
open PySem PySem.Spec L2

theorem goLc_all {own : List Nat} {t : D → Vn → Option Vn} {f : Vn → M (O × Vn)} {env : Vn} {g : D → D} (ds acc : List D) (h : ∀ d ∈ ds, ∃ e1 e3, t d env = some e1 ∧ f e1 = some (.ok (.v (g d), e3)) ∧ wipeV own e3 = some env) (hl : acc.length + ds.length ≤ sizeLine) : goLc own t vYes f ds acc env = some (.ok (acc ++ ds.map g, env)) := by
  have q := goLc_map (own := own) (t := t) (c := vYes) (f := f) (env := env) (q := fun _ => true) (g := g) ds acc (fun d hd => by
    obtain ⟨e1, e3, h1, h2, h3⟩ := h d hd
    exact ⟨e1, e1, h1, rfl, fun _ => ⟨e3, h2, h3⟩, fun z => by cases z⟩) hl
  rw [List.filter_eq_self.mpr (fun _ _ => rfl)] at q
  exact q
theorem goLc2_all {own vs1 : List Nat} {t t1 : D → Vn → Option Vn} {gi1 : Vn → M (List D × Vn)} {f : Vn → M (O × Vn)} {env : Vn} {xs : D → List D} {g : D → D → D} : ∀ (ds acc : List D), (∀ d ∈ ds, ∃ e1 e3 e4, t d env = some e1 ∧ gi1 e1 = some (.ok (xs d, e3)) ∧ wipeV vs1 e3 = some e4 ∧ (∀ x ∈ xs d, ∃ e5 e6, t1 x e4 = some e5 ∧ f e5 = some (.ok (.v (g d x), e6)) ∧ wipeV vs1 e6 = some e4) ∧ wipeV own e4 = some env) → acc.length + (ds.flatMap xs).length ≤ sizeLine →
    goLc2 own vs1 t vYes gi1 t1 vYes f ds acc env = some (.ok (acc ++ ds.flatMap (fun d => (xs d).map (g d)), env))
  | [], acc, _, _ => by
    rw [List.flatMap_nil, List.append_nil]
    rfl
  | d :: r, acc, h, hl => by
    obtain ⟨e1, e3, e4, h1, h2, h3, h4, h5⟩ := h d List.mem_cons_self
    rw [List.flatMap_cons, List.length_append] at hl
    unfold goLc2
    rw [h1]
    show M.bindN (gi1 e1) _ = _
    rw [h2]
    show (match wipeV vs1 e3 with
        | none => none
        | some e4 => M.bindN (goLc vs1 t1 vYes f (xs d) acc e4) fun (acc', e5) => match wipeV own e5 with
          | some e6 => goLc2 own vs1 t vYes gi1 t1 vYes f r acc' e6
          | none => none) = _
    rw [h3]
    show M.bindN (goLc vs1 t1 vYes f (xs d) acc e4) _ = _
    rw [goLc_all (xs d) acc h4 (by omega)]
    show (match wipeV own e4 with
          | some e6 => goLc2 own vs1 t vYes gi1 t1 vYes f r (acc ++ (xs d).map (g d)) e6
          | none => none) = _
    rw [h5]
    show goLc2 own vs1 t vYes gi1 t1 vYes f r (acc ++ (xs d).map (g d)) env = _
    rw [goLc2_all r _ (fun x hx => h x (List.mem_cons_of_mem _ hx)) (by rw [List.length_append, List.length_map]; omega), List.flatMap_cons, List.append_assoc]
theorem lc2_eq {own vs1 : List Nat} {gi : Vn → M (List D × Vn)} {t t1 : D → Vn → Option Vn} {c c1 : Vn → M (Bool × Vn)} {gi1 : Vn → M (List D × Vn)} {f : Vn → M (O × Vn)} {env e e0 e1 e2 : Vn} {ds acc : List D} (h1 : gi env = some (.ok (ds, e))) (h2 : wipeV own e = some e0) (h3 : goLc2 own vs1 t c gi1 t1 c1 f ds [] e0 = some (.ok (acc, e1))) (h4 : backV e own e1 = some e2) : vLc2 own vs1 gi t c gi1 t1 c1 f env = some (.ok (.l acc, e2)) := by
  unfold vLc2
  rw [h1]
  show (match wipeV own e with
    | none => none
    | some e0 => M.bindN (goLc2 own vs1 t c gi1 t1 c1 f ds [] e0) fun (acc, e1) => match backV e own e1 with
      | some e2 => M.ret (O.l acc, e2)
      | none => none) = _
  rw [h2]
  show M.bindN (goLc2 own vs1 t c gi1 t1 c1 f ds [] e0) _ = _
  rw [h3]
  show (match backV e own e1 with
      | some e2 => M.ret (O.l acc, e2)
      | none => none) = _
  rw [h4]
  rfl
theorem trus_app : ∀ {xs ys : List D} {bs cs : List Bool}, trus xs = some bs → trus ys = some cs → trus (xs ++ ys) = some (bs ++ cs)
  | [], _, _, _, h, k => by
    cases h
    exact k
  | x :: xs, ys, bs, cs, h, k => by
    cases x with
    | dic _ => cases h
    | _ =>
      unfold trus at h
      split at h
      · rename_i b bs' h1 h2
        cases h
        rw [List.cons_append]
        unfold trus
        rw [h1, trus_app h2 k]
        rfl
      · cases h
end Vi

set_option Elab.async false
set_option linter.all false
set_option maxRecDepth 100000
set_option maxHeartbeats 1000000
/-! Vs1: what the pieces of code do, as equations from left to right (for simp only). -/
namespace Vi
open PySem PySem.Spec L2

section
variable {α β : Type}
theorem b_ok (a : α) (k : α → M β) : M.bind (some (.ok a)) k = k a := rfl
theorem b_ex (c : Nat) (fs : List (Str × D)) (k : α → M β) : M.bind (some (.ex c fs) : M α) k = some (.ex c fs) := rfl
theorem b_ite {p : Prop} [Decidable p] (x y : M α) (k : α → M β) : M.bind (if p then x else y) k = if p then M.bind x k else M.bind y k := by
  by_cases h : p
  · rw [if_pos h, if_pos h]
  · rw [if_neg h, if_neg h]
theorem b_ret (a : α) : M.ret a = some (R.ok a) := rfl
end
section
variable {f : Vn → M (O × Vn)} {g : Vn → M (List Lr × Vn)} {s t : Vn → M (Fl × Vn)} {c c' : Vn → M (Bool × Vn)} {e env : Vn} {o o' : O} {b : Bool} {i : Nat} {d : D}
/-! slots -/
theorem w_g0 {α : Type} {a : α} {r : List α} : (a :: r)[0]? = some a := rfl
theorem w_g1 {α : Type} {a : α} {r : List α} {n : Nat} : (a :: r)[n + 1]? = r[n]? := List.getElem?_cons_succ
theorem w_s0 {α : Type} {a x : α} {r : List α} : (a :: r).set 0 x = x :: r := rfl
theorem w_s1 {α : Type} {a x : α} {r : List α} {n : Nat} : (a :: r).set (n + 1) x = a :: r.set n x := rfl
theorem z_v : (O.v d).fz = d := rfl
theorem z_l {xs : List D} : (O.l xs).fz = .lst xs := rfl
/-! expressions -/
theorem e_lit : vLit d env = some (.ok (.v d, env)) := rfl
def kRd (i : Nat) (env : Vn) : Option Sl → M (O × Vn)
  | some ⟨p, some o⟩ => some (.ok (.v o.fz, env.set i ⟨p, some (.v o.fz)⟩))
  | _ => none
theorem e_rd : vRd i env = kRd i env env[i]? := by
  unfold vRd kRd
  cases env[i]? with
  | none => rfl
  | some s =>
    cases s with
    | mk p x => cases x <;> rfl
theorem k_rd {p : Bool} : kRd i env (some ⟨p, some o⟩) = some (.ok (.v o.fz, env.set i ⟨p, some (.v o.fz)⟩)) := rfl
def kMv (i : Nat) (env : Vn) : Option Sl → M (O × Vn)
  | some ⟨false, some o⟩ => some (.ok (o, env.set i ⟨false, none⟩))
  | _ => none
theorem e_mv : vMv i env = kMv i env env[i]? := by
  unfold vMv kMv
  cases env[i]? with
  | none => rfl
  | some s =>
    cases s with
    | mk p x => cases p <;> cases x <;> rfl
theorem k_mv : kMv i env (some ⟨false, some o⟩) = some (.ok (o, env.set i ⟨false, none⟩)) := rfl
def kFz : O × Vn → M (O × Vn) := fun p => some (.ok (.v p.1.fz, p.2))
theorem e_fz : vFz f env = M.bind (f env) kFz := rfl
theorem k_fz : kFz (o, e) = some (.ok (.v o.fz, e)) := rfl
theorem e_nil : vNil env = some (.ok ([], env)) := rfl
def kEx1 (o : O) : List Lr × Vn → M (List Lr × Vn) := fun p => some (.ok (.t o :: p.1, p.2))
def kEx (g : Vn → M (List Lr × Vn)) : O × Vn → M (List Lr × Vn) := fun p => M.bind (g p.2) (kEx1 p.1)
theorem e_ex : vEx f g env = M.bind (f env) (kEx g) := rfl
theorem k_ex : kEx g (o, e) = M.bind (g e) (kEx1 o) := rfl
theorem k_ex1 {rs : List Lr} : kEx1 o (rs, e) = some (.ok (.t o :: rs, e)) := rfl
def kExI (g : Vn → M (List Lr × Vn)) : O × Vn → M (List Lr × Vn) := fun p => match p.1 with
  | .v (.int i) => M.bind (g p.2) (kEx1 (.v (.int i)))
  | _ => none
theorem e_exI : vExI f g env = M.bind (f env) (kExI g) := rfl
theorem k_exI {z : Int} : kExI g (.v (.int z), e) = M.bind (g e) (kEx1 (.v (.int z))) := rfl
def kSl1 (i : Nat) : List Lr × Vn → M (List Lr × Vn) := fun p => some (.ok (.s i :: p.1, p.2))
def kSl (i : Nat) (g : Vn → M (List Lr × Vn)) (env : Vn) : Option Sl → M (List Lr × Vn)
  | some ⟨_, some _⟩ => M.bind (g env) (kSl1 i)
  | _ => none
theorem e_sl : vSl i g env = kSl i g env env[i]? := by
  unfold vSl kSl
  cases env[i]? with
  | none => rfl
  | some s =>
    cases s with
    | mk p x => cases x <;> rfl
theorem k_sl {p : Bool} : kSl i g env (some ⟨p, some o⟩) = M.bind (g env) (kSl1 i) := rfl
theorem k_sl1 {rs : List Lr} : kSl1 i (rs, e) = some (.ok (.s i :: rs, e)) := rfl
/-! views -/
def vwS : Option Sl → Option D
  | some ⟨_, some o⟩ => some o.fz
  | _ => none
def vwC : Option D → Option (List D) → Option (List D)
  | some d, some ds => some (d :: ds)
  | _, _ => none
theorem w_nil : views e [] = some [] := rfl
theorem w_t {rs : List Lr} : views e (.t o :: rs) = vwC (some o.fz) (views e rs) := rfl
theorem w_s {rs : List Lr} : views e (.s i :: rs) = vwC (vwS e[i]?) (views e rs) := by
  show (match (Lr.s i).view e, views e rs with
    | some d, some ds => some (d :: ds)
    | _, _ => none) = _
  have q : (Lr.s i).view e = vwS e[i]? := by
    show (match e[i]? with
      | some ⟨_, some o⟩ => some o.fz
      | _ => none) = _
    cases e[i]? with
    | none => rfl
    | some s =>
      cases s with
      | mk p x => cases x <;> rfl
  rw [q]
  rfl
theorem w_vw {p : Bool} : vwS (some ⟨p, some o⟩) = some o.fz := rfl
theorem w_c {ds : List D} : vwC (some d) (some ds) = some (d :: ds) := rfl
/-! operations -/
def kOp3 (e : Vn) : Option O → M (O × Vn)
  | some o => some (.ok (o, e))
  | none => none
def kOp2 (run : List D → Option O) (e : Vn) : Option (List D) → M (O × Vn)
  | some ds => kOp3 e (run ds)
  | none => none
def kOp (run : List D → Option O) : List Lr × Vn → M (O × Vn) := fun p => kOp2 run p.2 (views p.2 p.1)
theorem e_op {run : List D → Option O} : vOp run g env = M.bind (g env) (kOp run) := rfl
theorem k_op {run : List D → Option O} {rs : List Lr} : kOp run (rs, e) = kOp2 run e (views e rs) := rfl
theorem k_op2 {run : List D → Option O} {ds : List D} : kOp2 run e (some ds) = kOp3 e (run ds) := rfl
theorem k_op3 : kOp3 e (some o) = some (.ok (o, e)) := rfl
/-! tests -/
def kB : O × Vn → M (Bool × Vn) := fun p => match p.1 with
  | .v (.bl b) => some (.ok (b, p.2))
  | _ => none
theorem e_b : vB f env = M.bind (f env) kB := rfl
theorem k_b : kB (.v (.bl b), e) = some (.ok (b, e)) := rfl
def kTr3 (e : Vn) : Option Bool → M (Bool × Vn)
  | some b => some (.ok (b, e))
  | none => none
def kTr2 (e : Vn) : Option (List D) → M (Bool × Vn)
  | some [d] => kTr3 e d.tru
  | _ => none
def kTr : List Lr × Vn → M (Bool × Vn) := fun p => kTr2 p.2 (views p.2 p.1)
theorem e_tr : vTr g env = M.bind (g env) kTr := rfl
theorem k_tr {rs : List Lr} : kTr (rs, e) = kTr2 e (views e rs) := rfl
theorem k_tr2 : kTr2 e (some [d]) = kTr3 e d.tru := rfl
theorem k_tr3 : kTr3 e (some b) = some (.ok (b, e)) := rfl
def kAndT (c : Vn → M (Bool × Vn)) : Bool × Vn → M (Bool × Vn) := fun p => if p.1 = true then c p.2 else some (.ok (false, p.2))
theorem e_andT : vAndT c c' env = M.bind (c env) (kAndT c') := rfl
theorem k_andT : kAndT c (b, e) = if b = true then c e else some (.ok (false, e)) := rfl
def kOrT (c : Vn → M (Bool × Vn)) : Bool × Vn → M (Bool × Vn) := fun p => if p.1 = true then some (.ok (true, p.2)) else c p.2
theorem e_orT : vOrT c c' env = M.bind (c env) (kOrT c') := rfl
theorem k_orT : kOrT c (b, e) = if b = true then some (.ok (true, e)) else c e := rfl
def kNotT : Bool × Vn → M (Bool × Vn) := fun p => some (.ok (!p.1, p.2))
theorem e_notT : vNotT c env = M.bind (c env) kNotT := rfl
theorem k_notT : kNotT (b, e) = some (.ok (!b, e)) := rfl
def kAnd3 (f : Vn → M (O × Vn)) (o : O) (e : Vn) : Option Bool → M (O × Vn)
  | some b => if b = true then f e else some (.ok (o, e))
  | none => none
def kAnd (f : Vn → M (O × Vn)) : O × Vn → M (O × Vn) := fun p => kAnd3 f p.1 p.2 p.1.fz.tru
theorem e_and {f' : Vn → M (O × Vn)} : vAnd f f' env = M.bind (f env) (kAnd f') := rfl
theorem k_and : kAnd f (o, e) = kAnd3 f o e o.fz.tru := rfl
theorem k_and3 : kAnd3 f o e (some b) = if b = true then f e else some (.ok (o, e)) := rfl
def kOr3 (f : Vn → M (O × Vn)) (o : O) (e : Vn) : Option Bool → M (O × Vn)
  | some b => if b = true then some (.ok (o, e)) else f e
  | none => none
def kOr (f : Vn → M (O × Vn)) : O × Vn → M (O × Vn) := fun p => kOr3 f p.1 p.2 p.1.fz.tru
theorem e_or {f' : Vn → M (O × Vn)} : vOr f f' env = M.bind (f env) (kOr f') := rfl
theorem k_or : kOr f (o, e) = kOr3 f o e o.fz.tru := rfl
theorem k_or3 : kOr3 f o e (some b) = if b = true then some (.ok (o, e)) else f e := rfl
def kNot : Bool × Vn → M (O × Vn) := fun p => some (.ok (.v (.bl (!p.1)), p.2))
theorem e_not : vNot g env = M.bind (vTr g env) kNot := rfl
theorem k_not : kNot (b, e) = some (.ok (.v (.bl (!b)), e)) := rfl
def kIf (f f' : Vn → M (O × Vn)) : Bool × Vn → M (O × Vn) := fun p => if p.1 = true then f p.2 else f' p.2
theorem e_if {f' : Vn → M (O × Vn)} : vIf c f f' env = M.bind (c env) (kIf f f') := rfl
theorem k_if {f' : Vn → M (O × Vn)} : kIf f f' (b, e) = if b = true then f e else f' e := rfl
def kCh3 (c2 : Int → Int → Bool) (b : Int) : O × Vn → M (O × Vn) := fun p => match p.1 with
  | .v (.int c) => some (.ok (.v (.bl (c2 b c)), p.2))
  | _ => none
def kCh2 (c1 c2 : Int → Int → Bool) (fc : Vn → M (O × Vn)) (oa : O) : O × Vn → M (O × Vn) := fun p => match oa, p.1 with
  | .v (.int a), .v (.int b) => if c1 a b = true then M.bind (fc p.2) (kCh3 c2 b) else some (.ok (.v (.bl false), p.2))
  | _, _ => none
def kCh1 (c1 c2 : Int → Int → Bool) (fb fc : Vn → M (O × Vn)) : O × Vn → M (O × Vn) := fun p => M.bind (fb p.2) (kCh2 c1 c2 fc p.1)
theorem e_ch {c1 c2 : Int → Int → Bool} {fb fc : Vn → M (O × Vn)} : vChain c1 c2 f fb fc env = M.bind (f env) (kCh1 c1 c2 fb fc) := rfl
theorem k_ch1 {c1 c2 : Int → Int → Bool} {fb fc : Vn → M (O × Vn)} : kCh1 c1 c2 fb fc (o, e) = M.bind (fb e) (kCh2 c1 c2 fc o) := rfl
theorem k_ch2 {c1 c2 : Int → Int → Bool} {fc : Vn → M (O × Vn)} {x y : Int} : kCh2 c1 c2 fc (.v (.int x)) (.v (.int y), e) = if c1 x y = true then M.bind (fc e) (kCh3 c2 y) else some (.ok (.v (.bl false), e)) := rfl
theorem k_ch3 {c2 : Int → Int → Bool} {y z : Int} : kCh3 c2 y (.v (.int z), e) = some (.ok (.v (.bl (c2 y z)), e)) := rfl
/-! displays -/
def aC : O → Option (List D) → Option (List D)
  | .v d, some ds => some (d :: ds)
  | _, _ => none
theorem a_nil : allT [] = some [] := rfl
theorem a_t {rs : List Lr} : allT (.t o :: rs) = aC o (allT rs) := rfl
theorem a_c {ds : List D} : aC (.v d) (some ds) = some (d :: ds) := rfl
def kTup2 (e : Vn) : Option (List D) → M (O × Vn)
  | some ds => if ds.length ≤ sizeLine then some (.ok (.v (.tup ds), e)) else none
  | none => none
def kTup : List Lr × Vn → M (O × Vn) := fun p => kTup2 p.2 (allT p.1)
theorem e_tup : vTup g env = M.bind (g env) kTup := rfl
theorem k_tup {rs : List Lr} : kTup (rs, e) = kTup2 e (allT rs) := rfl
theorem k_tup2 {ds : List D} : kTup2 e (some ds) = if ds.length ≤ sizeLine then some (.ok (.v (.tup ds), e)) else none := rfl
def kLst2 (e : Vn) : Option (List D) → M (O × Vn)
  | some ds => if ds.length ≤ sizeLine then some (.ok (.l ds, e)) else none
  | none => none
def kLst : List Lr × Vn → M (O × Vn) := fun p => kLst2 p.2 (allT p.1)
theorem e_lst : vLst g env = M.bind (g env) kLst := rfl
theorem k_lst {rs : List Lr} : kLst (rs, e) = kLst2 e (allT rs) := rfl
theorem k_lst2 {ds : List D} : kLst2 e (some ds) = if ds.length ≤ sizeLine then some (.ok (.l ds, e)) else none := rfl
/-- short displays -/
theorem sz_lit {n : Nat} : (n ≤ sizeLine) = (n ≤ 16777216) := by
  rw [sizeLine_eq]
/-! statements -/
def kThen (t : Vn → M (Fl × Vn)) : Fl × Vn → M (Fl × Vn) := fun p => match p.1 with
  | .nx => t p.2
  | .bk => some (.ok (.bk, p.2))
  | .ct => some (.ok (.ct, p.2))
  | .rt o => some (.ok (.rt o, p.2))
theorem e_then : vThen s t env = M.bind (s env) (kThen t) := rfl
theorem k_then : kThen t (.nx, e) = t e := rfl
theorem k_thenr : kThen t (.rt o, e) = some (.ok (.rt o, e)) := rfl
def kDrop : O × Vn → M (Fl × Vn) := fun p => some (.ok (.nx, p.2))
theorem e_drop : vDrop f env = M.bind (f env) kDrop := rfl
theorem k_drop : kDrop (o, e) = some (.ok (.nx, e)) := rfl
def kRt : O × Vn → M (Fl × Vn) := fun p => some (.ok (.rt p.1, p.2))
theorem e_rt : vRt f env = M.bind (f env) kRt := rfl
theorem k_rt : kRt (o, e) = some (.ok (.rt o, e)) := rfl
theorem e_rtN : vRtN env = some (.ok (.rt (.v .non), env)) := rfl
theorem e_nx : vNx env = some (.ok (.nx, env)) := rfl
def kIfS (s t : Vn → M (Fl × Vn)) : Bool × Vn → M (Fl × Vn) := fun p => if p.1 = true then s p.2 else t p.2
theorem e_ifS : vIfS c s t env = M.bind (c env) (kIfS s t) := rfl
theorem k_ifS : kIfS s t (b, e) = if b = true then s e else t e := rfl
def kSet2 (i : Nat) (o : O) (e : Vn) : Option Sl → M (Fl × Vn)
  | some ⟨false, _⟩ => some (.ok (.nx, e.set i ⟨false, some o⟩))
  | _ => none
def kSet (i : Nat) : O × Vn → M (Fl × Vn) := fun p => kSet2 i p.1 p.2 p.2[i]?
theorem e_set : vSet i f env = M.bind (f env) (kSet i) := rfl
theorem k_set : kSet i (o, e) = kSet2 i o e e[i]? := rfl
theorem k_set2 {x : Option O} : kSet2 i o e (some ⟨false, x⟩) = some (.ok (.nx, e.set i ⟨false, some o⟩)) := rfl
def kAsg2 : Option Vn → M (Fl × Vn)
  | some e => some (.ok (.nx, e))
  | none => none
def kAsg (t : D → Vn → Option Vn) : O × Vn → M (Fl × Vn) := fun p => match p.1 with
  | .v d => kAsg2 (t d p.2)
  | _ => none
theorem e_asg {t : D → Vn → Option Vn} : vAsg f t env = M.bind (f env) (kAsg t) := rfl
theorem k_asg {t : D → Vn → Option Vn} : kAsg t (.v d, e) = kAsg2 (t d e) := rfl
theorem k_asg2 : kAsg2 (some e) = some (.ok (.nx, e)) := rfl
def tgN (i : Nat) (d : D) (env : Vn) : Option Sl → Option Vn
  | some ⟨false, _⟩ => some (env.set i ⟨false, some (.v d)⟩)
  | _ => none
theorem t_name : tgName i d env = tgN i d env env[i]? := by
  unfold tgName tgN
  cases env[i]? with
  | none => rfl
  | some s =>
    cases s with
    | mk p x => cases p <;> rfl
theorem t_name2 {x : Option O} : tgN i d env (some ⟨false, x⟩) = some (env.set i ⟨false, some (.v d)⟩) := rfl
theorem t_nil : tgNil [] env = some env := rfl
def tgC (u : List D → Vn → Option Vn) (r : List D) : Option Vn → Option Vn
  | some e => u r e
  | none => none
theorem t_cons {t : D → Vn → Option Vn} {u : List D → Vn → Option Vn} {r : List D} : tgCons t u (d :: r) env = tgC u r (t d env) := by
  show (match t d env with
    | some e => u r e
    | none => none) = _
  cases t d env <;> rfl
theorem t_cons2 {u : List D → Vn → Option Vn} {r : List D} : tgC u r (some e) = u r e := rfl
theorem t_tup {u : List D → Vn → Option Vn} {ds : List D} : tgTup u (.tup ds) env = u ds env := rfl
def kPar2 (i j : Nat) (a b : O) (e : Vn) : Option Sl → Option Sl → M (Fl × Vn)
  | some ⟨false, _⟩, some ⟨false, _⟩ => some (.ok (.nx, (e.set i ⟨false, some a⟩).set j ⟨false, some b⟩))
  | _, _ => none
def kPar (i j : Nat) : List Lr × Vn → M (Fl × Vn) := fun p => match p.1 with
  | [.t a, .t b] => kPar2 i j a b p.2 p.2[i]? p.2[j]?
  | _ => none
theorem e_par {j : Nat} : vPar i j g env = M.bind (g env) (kPar i j) := rfl
theorem k_par {j : Nat} {a b : O} : kPar i j ([.t a, .t b], e) = kPar2 i j a b e e[i]? e[j]? := rfl
theorem k_par2 {j : Nat} {a b : O} {x y : Option O} : kPar2 i j a b e (some ⟨false, x⟩) (some ⟨false, y⟩) = some (.ok (.nx, (e.set i ⟨false, some a⟩).set j ⟨false, some b⟩)) := rfl
/-! calls -/
def lC (s : Sl) : Option (Vn × Vn) → Option (Vn × Vn)
  | some p => some (s :: p.1, p.2)
  | none => none
theorem l_nil : lend e [] = some ([], e) := rfl
theorem l_t {rs : List Lr} : lend e (.t o :: rs) = lC ⟨false, some o⟩ (lend e rs) := by
  show (match lend e rs with
    | some (ps, e') => some ((⟨false, some o⟩ : Sl) :: ps, e')
    | none => (none : Option (Vn × Vn))) = _
  cases lend e rs <;> rfl
def lS (i : Nat) (rs : List Lr) (e : Vn) : Option Sl → Option (Vn × Vn)
  | some ⟨p, some o⟩ => if o.isData then lC ⟨false, some o⟩ (lend e rs) else lC ⟨true, some o⟩ (lend (e.set i ⟨p, none⟩) rs)
  | _ => none
theorem l_s {rs : List Lr} : lend e (.s i :: rs) = lS i rs e e[i]? := by
  unfold lend
  cases e[i]? with
  | none => rfl
  | some s =>
    obtain ⟨p, x⟩ := s
    cases x with
    | none => rfl
    | some o =>
      show (if o.isData then (match lend e rs with
          | some (ps, e) => some (⟨false, some o⟩ :: ps, e)
          | none => none)
        else (match lend (e.set i ⟨p, none⟩) rs with
          | some (ps, e) => some (⟨true, some o⟩ :: ps, e)
          | none => none)) = if o.isData then lC ⟨false, some o⟩ (lend e rs) else lC ⟨true, some o⟩ (lend (e.set i ⟨p, none⟩) rs)
      cases o.isData with
      | true =>
        rw [if_pos rfl, if_pos rfl]
        cases lend e rs <;> rfl
      | false =>
        rw [if_neg (by decide), if_neg (by decide)]
        cases lend (e.set i ⟨p, none⟩) rs <;> rfl
theorem l_v {p : Bool} {rs : List Lr} : lS i rs e (some ⟨p, some (.v d)⟩) = lC ⟨false, some (.v d)⟩ (lend e rs) := rfl
theorem l_l {p : Bool} {rs : List Lr} {xs : List D} : lS i rs e (some ⟨p, some (.l xs)⟩) = lC ⟨true, some (.l xs)⟩ (lend (e.set i ⟨p, none⟩) rs) := rfl
theorem l_d {p : Bool} {rs : List Lr} {xs : List (Key × D)} : lS i rs e (some ⟨p, some (.d xs)⟩) = lC ⟨true, some (.d xs)⟩ (lend (e.set i ⟨p, none⟩) rs) := rfl
theorem l_o {p : Bool} {rs : List Lr} {k : Nat} {xs : List (Str × O)} : lS i rs e (some ⟨p, some (.o k xs)⟩) = lC ⟨true, some (.o k xs)⟩ (lend (e.set i ⟨p, none⟩) rs) := rfl
theorem l_c {s : Sl} {ps : Vn} : lC s (some (ps, e)) = some (s :: ps, e) := rfl
theorem gb_nil : giveBack e [] [] = some e := rfl
theorem gb_t {rs : List Lr} {s : Sl} {ps : Vn} : giveBack e (.t o :: rs) (s :: ps) = giveBack e rs ps := rfl
theorem gb_f {rs : List Lr} {x : Option O} {ps : Vn} : giveBack e (.s i :: rs) (⟨false, x⟩ :: ps) = giveBack e rs ps := by
  cases x <;> rfl
def gS (i : Nat) (rs : List Lr) (o : O) (ps e : Vn) : Option Sl → Option Vn
  | some ⟨p, none⟩ => giveBack (e.set i ⟨p, some o⟩) rs ps
  | _ => none
theorem gb_s {rs : List Lr} {ps : Vn} : giveBack e (.s i :: rs) (⟨true, some o⟩ :: ps) = gS i rs o ps e e[i]? := by
  show (match e[i]? with
    | some ⟨p, none⟩ => giveBack (e.set i ⟨p, some o⟩) rs ps
    | _ => none) = _
  cases e[i]? with
  | none => rfl
  | some s =>
    obtain ⟨p, x⟩ := s
    cases x <;> rfl
theorem gb_s2 {p : Bool} {rs : List Lr} {ps : Vn} : gS i rs o ps e (some ⟨p, none⟩) = giveBack (e.set i ⟨p, some o⟩) rs ps := rfl
theorem gb_n {rs : List Lr} {ps : Vn} : giveBack e (.s i :: rs) (⟨true, none⟩ :: ps) = giveBack e rs ps := rfl
def kCall3 (o : O) : Option Vn → M (O × Vn)
  | some e => some (.ok (o, e))
  | none => none
def kCall2 (rs : List Lr) (e : Vn) : O × Vn → M (O × Vn) := fun p => kCall3 p.1 (giveBack e rs p.2)
def kCall1 (f : Vn → M (O × Vn)) (rs : List Lr) : Option (Vn × Vn) → M (O × Vn)
  | some p => M.bind (f p.1) (kCall2 rs p.2)
  | none => none
def kCall (f : Vn → M (O × Vn)) : List Lr × Vn → M (O × Vn) := fun p => kCall1 f p.1 (lend p.2 p.1)
theorem e_call : vCall f g env = M.bind (g env) (kCall f) := by
  unfold vCall
  congr 1
  funext p
  obtain ⟨rs, e⟩ := p
  show (match lend e rs with
    | none => none
    | some (ps, e1) => M.bind (f ps) fun (o, ps') => match giveBack e1 rs ps' with
      | none => none
      | some e2 => M.ret (o, e2)) = kCall1 f rs (lend e rs)
  cases lend e rs with
  | none => rfl
  | some q =>
    obtain ⟨ps, e1⟩ := q
    show M.bind (f ps) _ = M.bind (f ps) (kCall2 rs e1)
    congr 1
    funext q
    obtain ⟨o, ps'⟩ := q
    show (match giveBack e1 rs ps' with
      | none => none
      | some e2 => M.ret (o, e2)) = kCall3 o (giveBack e1 rs ps')
    cases giveBack e1 rs ps' <;> rfl
theorem k_call {rs : List Lr} : kCall f (rs, e) = kCall1 f rs (lend e rs) := rfl
theorem k_call1 {rs : List Lr} {ps : Vn} : kCall1 f rs (some (ps, e)) = M.bind (f ps) (kCall2 rs e) := rfl
theorem k_call2 {rs : List Lr} {ps : Vn} : kCall2 rs e (o, ps) = kCall3 o (giveBack e rs ps) := rfl
theorem k_call3 : kCall3 o (some e) = some (.ok (o, e)) := rfl
def kFn (n : Nat) : Fl × Vn → M (O × Vn) := fun p => match p.1 with
  | .rt o => some (.ok (o, p.2.take n))
  | .nx => some (.ok (.v .non, p.2.take n))
  | _ => none
theorem e_fn {n m : Nat} {ps : Vn} (h : ps.length = n) : vFn n m s ps = M.bind (s (ps ++ List.replicate m ⟨false, none⟩)) (kFn n) := by
  unfold vFn
  rw [if_pos h]
  rfl
theorem k_fn {n : Nat} : kFn n (.rt o, e) = some (.ok (o, e.take n)) := rfl
theorem k_fnN {n : Nat} : kFn n (.nx, e) = some (.ok (.v .non, e.take n)) := rfl
/-! sequences, comprehensions, loops -/
def kSeq : O × Vn → M (List D × Vn) := fun p => match p.1.fz with
  | .lst ds => some (.ok (ds, p.2))
  | .tup ds => some (.ok (ds, p.2))
  | _ => none
theorem e_seq : vSeq f env = M.bind (f env) kSeq := rfl
theorem k_seqL {ds : List D} : kSeq (.l ds, e) = some (.ok (ds, e)) := rfl
theorem k_seqv {ds : List D} : kSeq (.v (.lst ds), e) = some (.ok (ds, e)) := rfl
theorem k_seqt {ds : List D} : kSeq (.v (.tup ds), e) = some (.ok (ds, e)) := rfl
def kSrc3 (e : Vn) : Option (List D) → M (List D × Vn)
  | some xs => some (.ok (xs, e))
  | none => none
def kSrc2 (run : List D → Option (List D)) (e : Vn) : Option (List D) → M (List D × Vn)
  | some ds => kSrc3 e (run ds)
  | none => none
def kSrc (run : List D → Option (List D)) : List Lr × Vn → M (List D × Vn) := fun p => kSrc2 run p.2 (allT p.1)
theorem e_src {run : List D → Option (List D)} : vSrc run g env = M.bind (g env) (kSrc run) := rfl
theorem k_src {run : List D → Option (List D)} {rs : List Lr} : kSrc run (rs, e) = kSrc2 run e (allT rs) := rfl
theorem k_src2 {run : List D → Option (List D)} {ds : List D} : kSrc2 run e (some ds) = kSrc3 e (run ds) := rfl
theorem k_src3 {xs : List D} : kSrc3 e (some xs) = some (.ok (xs, e)) := rfl
def kFor (t : D → Vn → Option Vn) (s : Vn → M (Fl × Vn)) : List D × Vn → M (Fl × Vn) := fun p => goFor t s p.1 p.2
theorem e_for {gi : Vn → M (List D × Vn)} {t : D → Vn → Option Vn} : vFor gi t s env = M.bind (gi env) (kFor t s) := rfl
theorem k_for {t : D → Vn → Option Vn} {ds : List D} : kFor t s (ds, e) = goFor t s ds e := rfl
end
end Vi

set_option Elab.async false
set_option linter.all false
set_option maxRecDepth 100000
set_option maxHeartbeats 1000000
/-! Vs2: what operations tell, as equations from left to right. -/
namespace Vi
open PySem PySem.Spec L2

section
variable {a b c : Int} {xs ys : List D} {s t : Str} {p q : Bool} {d e : D}
/-! isinstance -/
def kinOf : D → Option Nat
  | .non => some 0
  | .bl _ => some 1
  | .int _ => some 2
  | .str _ => some 3
  | .tup _ => some 4
  | .lst _ => some 5
  | .dic _ => some 6
  | .dit _ => some 6
  | _ => none
def isInt : D → Bool
  | .int _ => true
  | .bl _ => true
  | _ => false
def isBl : D → Bool
  | .bl _ => true
  | _ => false
def isStr : D → Bool
  | .str _ => true
  | _ => false
def isTup : D → Bool
  | .tup _ => true
  | _ => false
def isLst : D → Bool
  | .lst _ => true
  | _ => false
/-- not an object of a class, no def -/
def noOb : D → Bool
  | .obj _ _ => false
  | .fn _ => false
  | _ => true
theorem i_int (h : noOb d = true) : fIsi tabInt [d] = some (.v (.bl (isInt d))) := by cases d <;> first | rfl | cases h
theorem i_bl (h : noOb d = true) : fIsi tabBl [d] = some (.v (.bl (isBl d))) := by cases d <;> first | rfl | cases h
theorem i_str (h : noOb d = true) : fIsi tabStr [d] = some (.v (.bl (isStr d))) := by cases d <;> first | rfl | cases h
theorem i_tup (h : noOb d = true) : fIsi tabTup [d] = some (.v (.bl (isTup d))) := by cases d <;> first | rfl | cases h
theorem i_lst (h : noOb d = true) : fIsi tabLst [d] = some (.v (.bl (isLst d))) := by cases d <;> first | rfl | cases h
/-! numbers -/
theorem o_ci {g : Int → Int → Bool} : fCI g [.int a, .int b] = some (.v (.bl (g a b))) := rfl
theorem o_addI : fAdd [.int a, .int b] = some (.v (.int (a + b))) := rfl
theorem o_sub : fSub [.int a, .int b] = some (.v (.int (a - b))) := rfl
theorem o_neg : fNeg [.int a] = some (.v (.int (-a))) := rfl
theorem o_mulL (h : small64 a = true) : fMul [.int a, .int b] = some (.v (.int (a * b))) := fMul_eq (by unfold cMul; rw [h]; rfl)
theorem o_mulR (h : small64 b = true) : fMul [.int a, .int b] = some (.v (.int (a * b))) := fMul_eq (by unfold cMul; rw [h, Bool.or_true])
theorem o_mod (h : b ≠ 0) : fMod [.int a, .int b] = some (.v (.int (a.fmod b))) := fMod_eq h
theorem o_int : fInt [.int a] = some (.v (.int a)) := rfl
theorem o_intB : fInt [.bl p] = some (.v (.int (if p = true then 1 else 0))) := rfl
theorem o_min : fMin2 [.int a, .int b] = some (.v (.int (if b < a then b else a))) := rfl
theorem o_max : fMax2 [.int a, .int b] = some (.v (.int (if b > a then b else a))) := rfl
theorem o_aug : fAugAdd [.int a, .int b] = some (.v (.int (a + b))) := rfl
/-! rows -/
theorem o_addL (h : xs.length + ys.length ≤ sizeLine) : fAdd [.lst xs, .lst ys] = some (.l (xs ++ ys)) := by
  show (if xs.length + ys.length ≤ sizeLine then some (O.l (xs ++ ys)) else none) = _
  rw [if_pos h]
theorem o_addT (h : xs.length + ys.length ≤ sizeLine) : fAdd [.tup xs, .tup ys] = some (.v (.tup (xs ++ ys))) := by
  show (if xs.length + ys.length ≤ sizeLine then some (O.v (.tup (xs ++ ys))) else none) = _
  rw [if_pos h]
theorem o_lenL : fLen [.lst xs] = some (.v (.int xs.length)) := rfl
theorem o_lenT : fLen [.tup xs] = some (.v (.int xs.length)) := rfl
theorem o_tupL : fTuple [.lst xs] = some (.v (.tup xs)) := rfl
theorem o_tupT : fTuple [.tup xs] = some (.v (.tup xs)) := rfl
theorem o_listL : fList [.lst xs] = some (.l xs) := rfl
theorem o_listT : fList [.tup xs] = some (.l xs) := rfl
theorem o_ixT (h : atI xs a = some d) : fIx [.tup xs, .int a] = some (.v d) := ix_tup h
theorem o_ixL (h : atI xs a = some d) : fIx [.lst xs, .int a] = some (.v d) := ix_lst h
theorem o_s10L : fS10 [.lst xs, .int a] = some (.l (cutD xs (some a) none)) := rfl
theorem o_s10T : fS10 [.tup xs, .int a] = some (.v (.tup (cutD xs (some a) none))) := rfl
theorem o_s01L : fS01 [.lst xs, .int a] = some (.l (cutD xs none (some a))) := rfl
theorem o_s01T : fS01 [.tup xs, .int a] = some (.v (.tup (cutD xs none (some a)))) := rfl
theorem o_s11L : fS11 [.lst xs, .int a, .int b] = some (.l (cutD xs (some a) (some b))) := rfl
theorem o_s11T : fS11 [.tup xs, .int a, .int b] = some (.v (.tup (cutD xs (some a) (some b)))) := rfl
theorem o_allM {bs : List Bool} (h : trus xs = some bs) : fAllM [.lst xs] = some (.v (.bl (bs.all id))) := by
  show (match trus xs with
    | some bs => some (O.v (.bl (bs.all id)))
    | none => none) = _
  rw [h]
theorem o_sum {is : List Int} (h : ints? xs = some is) : fSum [.lst xs] = some (.v (.int is.sum)) := by
  show (match ints? xs with
    | some is => some (O.v (.int is.sum))
    | none => none) = _
  rw [h]
theorem o_repr (h : d.shw = some s) : fReprV [d] = some (.v (.str s)) := by
  show d.shw.map (fun s => O.v (.str s)) = _
  rw [h]
  rfl
/-! == -/
def deq (a b : D) : Bool := match a.py, b.py with
  | some p, some q => p.eqv q
  | _, _ => false
theorem eq_cmp (h : d.cmp = true) (k : e.cmp = true) : eq? d e = some (deq d e) := by
  obtain ⟨p, h1, h2, _⟩ := shp_ok h
  obtain ⟨q, k1, k2, _⟩ := shp_ok k
  have key : (match d.shp, e.shp with
    | some p, some q => some (p.eqv q)
    | _, _ => none) = some (deq d e) := by
    unfold deq
    rw [h1, k1, h2, k2]
  cases d <;> cases e <;> first | exact key | rfl
theorem o_eq (h : d.cmp = true) (k : e.cmp = true) : fEq [d, e] = some (.v (.bl (deq d e))) := by
  show (eq? d e).map _ = _
  rw [eq_cmp h k]
  rfl
theorem o_ne (h : d.cmp = true) (k : e.cmp = true) : fNe [d, e] = some (.v (.bl (!deq d e))) := by
  show (eq? d e).map _ = _
  rw [eq_cmp h k]
  rfl
theorem o_eqI : fEq [.int a, .int b] = some (.v (.bl (decide (a = b)))) := rfl
theorem o_neI : fNe [.int a, .int b] = some (.v (.bl (!decide (a = b)))) := rfl
theorem o_eqS : fEq [.str s, .str t] = some (.v (.bl (decide (s = t)))) := rfl
theorem o_neS : fNe [.str s, .str t] = some (.v (.bl (!decide (s = t)))) := rfl
theorem deq_self (h : d.cmp = true) : deq d d = true := by
  have := eq_self h
  rw [eq_cmp h h] at this
  exact Option.some.inj this
theorem deq_I : deq (.int a) (.int b) = decide (a = b) := rfl
theorem deq_S : deq (.str s) (.str t) = decide (s = t) := rfl
theorem o_isB : fIs [.bl p, .bl q] = some (.v (.bl (decide (p = q)))) := rfl
theorem o_isNotB : fIsNot [.bl p, .bl q] = some (.v (.bl (!decide (p = q)))) := rfl
theorem o_isN : fIs [d, .non] = some (.v (.bl d.isNon)) := by cases d <;> rfl
theorem o_isNotN : fIsNot [d, .non] = some (.v (.bl (!d.isNon))) := by cases d <;> rfl
/-! truth -/
theorem u_dT {h : Decidable True} : @decide True h = true := by cases h with
  | isTrue _ => rfl
  | isFalse h => exact absurd trivial h
theorem u_dF {h : Decidable False} : @decide False h = false := by cases h with
  | isTrue h => exact h.elim
  | isFalse _ => rfl
theorem u_non : D.non.tru = some false := rfl
theorem u_bl : (D.bl p).tru = some p := rfl
theorem u_int : (D.int a).tru = some (a != 0) := rfl
theorem u_tup : (D.tup xs).tru = some (!xs.isEmpty) := rfl
theorem u_lst : (D.lst xs).tru = some (!xs.isEmpty) := rfl
theorem tr_nil : trus [] = some [] := rfl
/-! sources -/
theorem r_1 (h : in62 a = true) : sR1 [.int a] = some (rng 0 a.toNat 1) := by
  show (if in62 a then some (rng 0 a.toNat 1) else none) = _
  rw [if_pos h]
/-! appends -/
theorem al_nil : allO [] = some [] := rfl
end
end Vi

set_option Elab.async false
set_option linter.all false
set_option maxRecDepth 100000
set_option maxHeartbeats 1000000
/-! Vs3: comprehensions, loops over written rows, objects, what is told, as equations from left to right. -/
namespace Vi
open PySem PySem.Spec L2

section
variable {f : Vn → M (O × Vn)} {g : Vn → M (List Lr × Vn)} {s : Vn → M (Fl × Vn)} {c c1 : Vn → M (Bool × Vn)} {e e0 env : Vn} {o o' : O} {b : Bool} {i : Nat} {d d' : D} {own vs vs1 : List Nat} {t t1 : D → Vn → Option Vn} {gi gi1 : Vn → M (List D × Vn)} {ds acc : List D}
theorem n_ok {α β : Type} (a : α) (k : α → M β) : M.bindN (some (.ok a)) k = k a := rfl
theorem n_ite {α β : Type} {p : Prop} [Decidable p] (x y : M α) (k : α → M β) : M.bindN (if p then x else y) k = if p then M.bindN x k else M.bindN y k := by
  by_cases h : p
  · rw [if_pos h, if_pos h]
  · rw [if_neg h, if_neg h]
/-! names forgotten -/
def wK2 (v : Nat) (e : Vn) : Option Sl → Option Vn
  | some ⟨false, none⟩ => some (e.set v ⟨false, none⟩)
  | some ⟨false, some (.v _)⟩ => some (e.set v ⟨false, none⟩)
  | _ => none
def wK (v : Nat) : Option Vn → Option Vn
  | none => none
  | some e => wK2 v e e[v]?
theorem p_nil : wipeV [] e = some e := rfl
theorem p_cons {v : Nat} : wipeV (v :: vs) e = wK v (wipeV vs e) := rfl
theorem p_k {v : Nat} : wK v (some e) = wK2 v e e[v]? := rfl
theorem p_no {v : Nat} : wK2 v e (some ⟨false, none⟩) = some (e.set v ⟨false, none⟩) := rfl
theorem p_v {v : Nat} : wK2 v e (some ⟨false, some (.v d)⟩) = some (e.set v ⟨false, none⟩) := rfl
def bK (env0 : Vn) (v : Nat) (vs : List Nat) (e : Vn) : Option Sl → Option Sl → Option Vn
  | some ⟨false, none⟩, some ⟨false, none⟩ => backV env0 vs e
  | some ⟨false, some (.v d)⟩, some ⟨false, none⟩ => backV env0 vs (e.set v ⟨false, some (.v d)⟩)
  | _, _ => none
theorem q_nil : backV e0 [] e = some e := rfl
theorem q_cons {v : Nat} : backV e0 (v :: vs) e = bK e0 v vs e e0[v]? e[v]? := rfl
theorem q_no {v : Nat} : bK e0 v vs e (some ⟨false, none⟩) (some ⟨false, none⟩) = backV e0 vs e := rfl
theorem q_v {v : Nat} : bK e0 v vs e (some ⟨false, some (.v d)⟩) (some ⟨false, none⟩) = backV e0 vs (e.set v ⟨false, some (.v d)⟩) := rfl
/-! one comprehension -/
def kLc4 (o : Option Vn) : List D × Vn → M (O × Vn) := fun p => match o with
  | some e2 => some (.ok (.l p.1, e2))
  | none => none
def kLc3 (own : List Nat) (e : Vn) : List D × Vn → M (O × Vn) := fun p => kLc4 (backV e own p.2) p
def kLc2 (own : List Nat) (t : D → Vn → Option Vn) (c : Vn → M (Bool × Vn)) (f : Vn → M (O × Vn)) (ds : List D) (e : Vn) : Option Vn → M (O × Vn)
  | none => none
  | some e0 => M.bindN (goLc own t c f ds [] e0) (kLc3 own e)
def kLc (own : List Nat) (t : D → Vn → Option Vn) (c : Vn → M (Bool × Vn)) (f : Vn → M (O × Vn)) : List D × Vn → M (O × Vn) := fun p => kLc2 own t c f p.1 p.2 (wipeV own p.2)
theorem e_lc : vLc own gi t c f env = M.bind (gi env) (kLc own t c f) := by
  unfold vLc
  congr 1
theorem k_lc : kLc own t c f (ds, e) = kLc2 own t c f ds e (wipeV own e) := rfl
theorem k_lc2 : kLc2 own t c f ds e (some e0) = M.bindN (goLc own t c f ds [] e0) (kLc3 own e) := rfl
theorem k_lc3 : kLc3 own e (ds, e0) = kLc4 (backV e own e0) (ds, e0) := rfl
theorem k_lc4 : kLc4 (some e) (ds, e0) = some (.ok (.l ds, e)) := rfl
/-! two clauses -/
def kLd2 (own vs1 : List Nat) (t : D → Vn → Option Vn) (c : Vn → M (Bool × Vn)) (gi1 : Vn → M (List D × Vn)) (t1 : D → Vn → Option Vn) (c1 : Vn → M (Bool × Vn)) (f : Vn → M (O × Vn)) (ds : List D) (e : Vn) : Option Vn → M (O × Vn)
  | none => none
  | some e0 => M.bindN (goLc2 own vs1 t c gi1 t1 c1 f ds [] e0) (kLc3 own e)
def kLd (own vs1 : List Nat) (t : D → Vn → Option Vn) (c : Vn → M (Bool × Vn)) (gi1 : Vn → M (List D × Vn)) (t1 : D → Vn → Option Vn) (c1 : Vn → M (Bool × Vn)) (f : Vn → M (O × Vn)) : List D × Vn → M (O × Vn) := fun p => kLd2 own vs1 t c gi1 t1 c1 f p.1 p.2 (wipeV own p.2)
theorem e_ld : vLc2 own vs1 gi t c gi1 t1 c1 f env = M.bind (gi env) (kLd own vs1 t c gi1 t1 c1 f) := by
  unfold vLc2
  congr 1
theorem k_ld : kLd own vs1 t c gi1 t1 c1 f (ds, e) = kLd2 own vs1 t c gi1 t1 c1 f ds e (wipeV own e) := rfl
theorem k_ld2 : kLd2 own vs1 t c gi1 t1 c1 f ds e (some e0) = M.bindN (goLc2 own vs1 t c gi1 t1 c1 f ds [] e0) (kLc3 own e) := rfl
/-! rows that are written: step by step -/
def kGo4 (own : List Nat) (t : D → Vn → Option Vn) (c : Vn → M (Bool × Vn)) (f : Vn → M (O × Vn)) (ds acc : List D) (o : O) : Option Vn → M (List D × Vn)
  | some e => match o with
    | .v d => if acc.length < sizeLine then goLc own t c f ds (acc ++ [d]) e else none
    | _ => none
  | none => none
def kGo3 (own : List Nat) (t : D → Vn → Option Vn) (c : Vn → M (Bool × Vn)) (f : Vn → M (O × Vn)) (ds acc : List D) : O × Vn → M (List D × Vn) := fun p => kGo4 own t c f ds acc p.1 (wipeV own p.2)
def kGo5 (own : List Nat) (t : D → Vn → Option Vn) (c : Vn → M (Bool × Vn)) (f : Vn → M (O × Vn)) (ds acc : List D) : Option Vn → M (List D × Vn)
  | some e => goLc own t c f ds acc e
  | none => none
def kGo2 (own : List Nat) (t : D → Vn → Option Vn) (c : Vn → M (Bool × Vn)) (f : Vn → M (O × Vn)) (ds acc : List D) : Bool × Vn → M (List D × Vn) := fun p => if p.1 = true then M.bindN (f p.2) (kGo3 own t c f ds acc) else kGo5 own t c f ds acc (wipeV own p.2)
def kGo1 (own : List Nat) (t : D → Vn → Option Vn) (c : Vn → M (Bool × Vn)) (f : Vn → M (O × Vn)) (ds acc : List D) : Option Vn → M (List D × Vn)
  | some e => M.bindN (c e) (kGo2 own t c f ds acc)
  | none => none
theorem x_nil : goLc own t c f [] acc env = some (.ok (acc, env)) := rfl
theorem x_cons : goLc own t c f (d :: ds) acc env = kGo1 own t c f ds acc (t d env) := by
  rw [goLc]
  cases t d env with
  | none => rfl
  | some e1 =>
    show M.bindN (c e1) _ = M.bindN (c e1) _
    congr 1
    funext p
    obtain ⟨k, e2⟩ := p
    cases k with
    | true =>
      show M.bindN (f e2) _ = M.bindN (f e2) _
      congr 1
      funext p
      obtain ⟨o, e3⟩ := p
      show _ = kGo4 own t c f ds acc o (wipeV own e3)
      show (match o, wipeV own e3 with
        | .v d', some e4 => if acc.length < sizeLine then goLc own t c f ds (acc ++ [d']) e4 else none
        | _, _ => none) = _
      cases o <;> cases wipeV own e3 <;> rfl
    | false =>
      show (match wipeV own e2 with
        | some e4 => goLc own t c f ds acc e4
        | none => none) = kGo5 own t c f ds acc (wipeV own e2)
      cases wipeV own e2 <;> rfl
theorem x_1 : kGo1 own t c f ds acc (some e) = M.bindN (c e) (kGo2 own t c f ds acc) := rfl
theorem x_2 : kGo2 own t c f ds acc (b, e) = if b = true then M.bindN (f e) (kGo3 own t c f ds acc) else kGo5 own t c f ds acc (wipeV own e) := rfl
theorem x_3 : kGo3 own t c f ds acc (o, e) = kGo4 own t c f ds acc o (wipeV own e) := rfl
theorem x_4 : kGo4 own t c f ds acc (.v d) (some e) = if acc.length < sizeLine then goLc own t c f ds (acc ++ [d]) e else none := rfl
theorem x_5 : kGo5 own t c f ds acc (some e) = goLc own t c f ds acc e := rfl
theorem x_yes : vYes e = some (.ok (true, e)) := rfl
theorem x_sz {n : Nat} : (n < sizeLine) = (n < 16777216) := by rw [sizeLine_eq]
def kFo2 (t : D → Vn → Option Vn) (s : Vn → M (Fl × Vn)) (ds : List D) : Fl × Vn → M (Fl × Vn) := fun p => match p.1 with
  | .nx => goFor t s ds p.2
  | .ct => goFor t s ds p.2
  | .bk => some (.ok (.nx, p.2))
  | .rt o => some (.ok (.rt o, p.2))
def kFo1 (t : D → Vn → Option Vn) (s : Vn → M (Fl × Vn)) (ds : List D) : Option Vn → M (Fl × Vn)
  | some e => M.bind (s e) (kFo2 t s ds)
  | none => none
theorem f_nil : goFor t s [] env = some (.ok (.nx, env)) := rfl
theorem f_cons : goFor t s (d :: ds) env = kFo1 t s ds (t d env) := by
  rw [goFor]
  cases t d env with
  | none => rfl
  | some e1 =>
    show M.bind (s e1) _ = M.bind (s e1) _
    congr 1
theorem f_1 : kFo1 t s ds (some e) = M.bind (s e) (kFo2 t s ds) := rfl
theorem f_nx : kFo2 t s ds (.nx, e) = goFor t s ds e := rfl
theorem f_ct : kFo2 t s ds (.ct, e) = goFor t s ds e := rfl
theorem f_bk : kFo2 t s ds (.bk, e) = some (.ok (.nx, e)) := rfl
theorem f_rt : kFo2 t s ds (.rt o, e) = some (.ok (.rt o, e)) := rfl
/-! objects -/
def atO (acc : Nat → Str → Bool) (x : Str) (k : Nat) (fs : List (Str × D)) : Option D := if acc k x then fs.lookup x else none
def kAt3 (e : Vn) : Option D → M (O × Vn)
  | some d => some (.ok (.v d, e))
  | none => none
def kAt2 (acc : Nat → Str → Bool) (x : Str) (i : Nat) (e : Vn) : Option Sl → M (O × Vn)
  | some ⟨_, some (.v (.obj k fs))⟩ => kAt3 e (atO acc x k fs)
  | some ⟨p, some (.o k os)⟩ => if acc k x then (match os.lookup x with
      | some o => some (.ok (.v o.fz, e.set i ⟨p, some (.o k (putO x (.v o.fz) os))⟩))
      | none => none) else none
  | _ => none
theorem e_at {acc : Nat → Str → Bool} {x : Str} : vAt acc x (vSl i vNil) env = kAt2 acc x i env env[i]? := by
  show M.bind (vSl i vNil env) _ = _
  rw [e_sl]
  generalize h : env[i]? = y
  match y with
  | none => rfl
  | some ⟨p, none⟩ => rfl
  | some ⟨p, some o⟩ =>
    show (match env[i]? with
    | some ⟨_, some (.v (.obj c ds))⟩ => if acc c x then (match ds.lookup x with
      | some d => (M.ret (O.v d, env) : M (O × Vn))
      | none => none) else none
    | some ⟨p, some (.o c os)⟩ => if acc c x then (match os.lookup x with
      | some o => (M.ret (O.v o.fz, env.set i ⟨p, some (O.o c (putO x (O.v o.fz) os))⟩) : M (O × Vn))
      | none => none) else none
    | _ => none) = _
    rw [h]
    cases o with
    | v d =>
      cases d with
      | obj k fs =>
        show (if acc k x then (match fs.lookup x with
          | some d => M.ret (.v d, env)
          | none => none) else none) = kAt3 env (atO acc x k fs)
        unfold atO
        by_cases hh : acc k x = true
        · rw [if_pos hh, if_pos hh]
          cases fs.lookup x <;> rfl
        · rw [if_neg hh, if_neg hh]
          rfl
      | _ => rfl
    | _ => rfl
theorem k_at2 {acc : Nat → Str → Bool} {x : Str} {p : Bool} {k : Nat} {fs : List (Str × D)} : kAt2 acc x i e (some ⟨p, some (.v (.obj k fs))⟩) = kAt3 e (atO acc x k fs) := rfl
theorem k_at3 : kAt3 e (some d) = some (.ok (.v d, e)) := rfl
/-! raise -/
def kRs2 (c : Nat) (fs : List Str) : Option (List D) → M (Fl × Vn)
  | some ds => if ds.length = fs.length then some (.ex c (fs.zip ds).reverse) else none
  | none => none
def kRs (c : Nat) (fs : List Str) : List Lr × Vn → M (Fl × Vn) := fun p => kRs2 c fs (allT p.1)
theorem e_rs {c : Nat} {fs : List Str} : vRaise c fs g env = M.bind (g env) (kRs c fs) := rfl
theorem k_rs {c : Nat} {fs : List Str} {rs : List Lr} : kRs c fs (rs, e) = kRs2 c fs (allT rs) := rfl
theorem k_rs1 {c : Nat} {x : Str} : kRs2 c [x] (some [d]) = some (.ex c [(x, d)]) := rfl
theorem k_rs2 {c : Nat} {x y : Str} : kRs2 c [x, y] (some [d, d']) = some (.ex c [(y, d'), (x, d)]) := rfl
/-! in place -/
def aOC (o : O) : Option (List O) → Option (List O)
  | some os => some (o :: os)
  | none => none
theorem ao_nil : allO [] = some [] := rfl
theorem ao_t {rs : List Lr} : allO (.t o :: rs) = aOC o (allO rs) := rfl
theorem ao_c {os : List O} : aOC o (some os) = some (o :: os) := rfl
def kMt3 (i : Nat) (p : Bool) (e : Vn) : Option (O × O) → M (O × Vn)
  | some r => some (.ok (r.1, e.set i ⟨p, some r.2⟩))
  | none => none
def kMt2 (i : Nat) (run : O → List O → Option (O × O)) (e : Vn) : Option (List O) → Option Sl → M (O × Vn)
  | some os, some ⟨p, some o⟩ => kMt3 i p e (run o os)
  | _, _ => none
def kMt1 (i : Nat) (run : O → List O → Option (O × O)) : List Lr × Vn → M (O × Vn) := fun p => kMt2 i run p.2 (allO p.1) p.2[i]?
def kMt (i : Nat) (run : O → List O → Option (O × O)) (g : Vn → M (List Lr × Vn)) (env : Vn) : Option Sl → M (O × Vn)
  | some ⟨_, some (.l _)⟩ => M.bind (g env) (kMt1 i run)
  | _ => none
theorem e_mt {run : O → List O → Option (O × O)} : vMt i run g env = kMt i run g env env[i]? := by
  unfold vMt kMt
  generalize env[i]? = y
  have key : (fun (x : List Lr × Vn) => match x with
      | (rs, e) => match allO rs, e[i]? with
        | some os, some ⟨p, some o⟩ => match run o os with
          | some (res, o') => M.ret (res, e.set i ⟨p, some o'⟩)
          | none => none
        | _, _ => none) = kMt1 i run := by
    funext p
    obtain ⟨rs, e⟩ := p
    show _ = kMt2 i run e (allO rs) e[i]?
    show (match allO rs, e[i]? with
        | some os, some ⟨p, some o⟩ => match run o os with
          | some (res, o') => M.ret (res, e.set i ⟨p, some o'⟩)
          | none => none
        | _, _ => none) = _
    generalize allO rs = x
    generalize e[i]? = y
    match x, y with
    | none, none => rfl
    | none, some ⟨_, none⟩ => rfl
    | none, some ⟨_, some _⟩ => rfl
    | some _, none => rfl
    | some _, some ⟨_, none⟩ => rfl
    | some os, some ⟨p, some o⟩ =>
      show (match run o os with
          | some (res, o') => M.ret (res, e.set i ⟨p, some o'⟩)
          | none => none) = kMt3 i p e (run o os)
      cases run o os <;> rfl
  match y with
  | none => rfl
  | some ⟨_, none⟩ => rfl
  | some ⟨_, some (.l _)⟩ => exact congrArg (M.bind (g env)) key
  | some ⟨_, some (.v _)⟩ => rfl
  | some ⟨_, some (.d _)⟩ => rfl
  | some ⟨_, some (.t _)⟩ => rfl
  | some ⟨_, some (.o _ _)⟩ => rfl
theorem k_mt {run : O → List O → Option (O × O)} {p : Bool} : kMt i run g env (some ⟨p, some (.l ds)⟩) = M.bind (g env) (kMt1 i run) := rfl
theorem k_mt1 {run : O → List O → Option (O × O)} {rs : List Lr} : kMt1 i run (rs, e) = kMt2 i run e (allO rs) e[i]? := rfl
theorem k_mt2 {run : O → List O → Option (O × O)} {p : Bool} {os : List O} : kMt2 i run e (some os) (some ⟨p, some o⟩) = kMt3 i p e (run o os) := rfl
theorem k_mt3 {p : Bool} : kMt3 i p e (some (o, o')) = some (.ok (o, e.set i ⟨p, some o'⟩)) := rfl
theorem m_app (h : ds.length < sizeLine) : mAppend (.l ds) [.v d] = some (.v .non, .l (ds ++ [d])) := by
  show (if ds.length < sizeLine then some (O.v .non, O.l (ds ++ [d])) else none) = _
  rw [if_pos h]
/-! some times over -/
def kRep2 (xs : List D) : O × Vn → M (O × Vn) := fun p => match p.1 with
  | .v (.int n) => if decide (-(2 ^ 63) ≤ n ∧ n < 2 ^ 63) && decide (xs.length * n.toNat ≤ sizeLine) then some (.ok (.l (List.replicate n.toNat xs).flatten, p.2)) else none
  | _ => none
def kRep (f : Vn → M (O × Vn)) : O × Vn → M (O × Vn) := fun p => match p.1 with
  | .l xs => M.bind (f p.2) (kRep2 xs)
  | _ => M.bind (f p.2) (fun _ => none)
theorem e_rep {f' : Vn → M (O × Vn)} : vRep f f' env = M.bind (f env) (kRep f') := by
  unfold vRep
  congr 1
  funext p
  obtain ⟨o, e⟩ := p
  cases o with
  | l xs =>
    show M.bind (f' e) _ = M.bind (f' e) (kRep2 xs)
    congr 1
    funext q
    obtain ⟨o2, e2⟩ := q
    cases o2 with
    | v d => cases d <;> rfl
    | _ => rfl
  | _ => rfl
theorem k_rep {xs : List D} : kRep f (.l xs, e) = M.bind (f e) (kRep2 xs) := rfl
theorem k_rep2 {xs : List D} {n : Int} (h : 0 ≤ n ∧ n < 100) (h2 : xs.length ≤ 1000) : kRep2 xs (.v (.int n), e) = some (.ok (.l (List.replicate n.toNat xs).flatten, e)) := by
  have hs : sizeLine = 16777216 := sizeLine_eq
  have hm : xs.length * n.toNat ≤ 1000 * 100 := Nat.mul_le_mul h2 (by omega)
  show (if decide (-(2 ^ 63) ≤ n ∧ n < 2 ^ 63) && decide (xs.length * n.toNat ≤ sizeLine) then some (R.ok (O.l (List.replicate n.toNat xs).flatten, e)) else none) = _
  rw [if_pos]
  rw [decide_eq_true (by omega), decide_eq_true (by omega)]
  rfl
/-! a lambda handed on -/
def kLam (h : Nat → List (Str × D) → Option O) (md : Md) (m : List Bool) (env : Vn) : M (O × Vn) → M (O × Vn)
  | some (.ex c fs) => kOp3 (merge m (keepV (only m env)) (less m env)) (h c fs)
  | some (.ok p) => some (.ok (md.out p.1, merge m p.2 (less m env)))
  | none => none
theorem e_lam {h : Nat → List (Str × D) → Option O} {md : Md} {m : List Bool} : vLam h md m f env = kLam h md m env (f (only m env)) := by
  unfold vLam kLam
  cases f (only m env) with
  | none => rfl
  | some r =>
    cases r with
    | ok p => rfl
    | ex c fs =>
      show (match h c fs with
        | some o => M.ret (o, merge m (keepV (only m env)) (less m env))
        | none => none) = kOp3 _ (h c fs)
      cases h c fs <;> rfl
theorem k_lamx {h : Nat → List (Str × D) → Option O} {md : Md} {m : List Bool} {c : Nat} {fs : List (Str × D)} : kLam h md m env (some (.ex c fs)) = kOp3 (merge m (keepV (only m env)) (less m env)) (h c fs) := rfl
theorem k_lam {h : Nat → List (Str × D) → Option O} {md : Md} {m : List Bool} : kLam h md m env (some (.ok (o, e))) = some (.ok (md.out o, merge m e (less m env))) := rfl
theorem y_kn : keepV [] = [] := rfl
theorem y_kv {p : Bool} : keepV (⟨p, some (.v d)⟩ :: e) = ⟨p, some (.v d)⟩ :: keepV e := rfl
theorem y_k0 {p : Bool} : keepV (⟨p, none⟩ :: e) = ⟨p, none⟩ :: keepV e := rfl
theorem y_kl {p : Bool} : keepV (⟨p, some (.l ds)⟩ :: e) = ⟨p, none⟩ :: keepV e := rfl
theorem y_kd {p : Bool} {kvs : List (Key × D)} : keepV (⟨p, some (.d kvs)⟩ :: e) = ⟨p, none⟩ :: keepV e := rfl
theorem y_on {m : List Bool} : only m [] = [] := by cases m <;> rfl
theorem y_ot {m : List Bool} {s : Sl} : only (true :: m) (s :: e) = s :: only m e := rfl
theorem y_of {m : List Bool} {p : Bool} {x : Option O} : only (false :: m) (⟨p, x⟩ :: e) = ⟨p, none⟩ :: only m e := rfl
theorem y_oe {p : Bool} {x : Option O} : only [] (⟨p, x⟩ :: e) = ⟨p, none⟩ :: only [] e := rfl
theorem y_ln {m : List Bool} : less m [] = [] := by cases m <;> rfl
theorem y_lt {m : List Bool} {p : Bool} {x : Option O} : less (true :: m) (⟨p, x⟩ :: e) = ⟨p, none⟩ :: less m e := rfl
theorem y_lf {m : List Bool} {s : Sl} : less (false :: m) (s :: e) = s :: less m e := rfl
theorem y_le {s : Sl} : less [] (s :: e) = s :: less [] e := rfl
theorem y_mt {m : List Bool} {s s' : Sl} : merge (true :: m) (s :: e) (s' :: e0) = s :: merge m e e0 := rfl
theorem y_mf {m : List Bool} {s s' : Sl} : merge (false :: m) (s :: e) (s' :: e0) = s' :: merge m e e0 := rfl
theorem y_me {s s' : Sl} : merge [] (s :: e) (s' :: e0) = s' :: merge [] e e0 := rfl
theorem y_mn {m : List Bool} : merge m [] [] = [] := by
  cases m with
  | nil => rfl
  | cons b m => cases b <;> rfl
theorem y_told {w : Str} : (Md.told w).out o = .l [.str w] := rfl
theorem y_non : Md.non.out o = .v .non := rfl
theorem y_val : Md.val.out o = o := rfl
end
/-! comprehensions whose turns leave the names as they were -/
theorem lc_map {own : List Nat} {gi : Vn → M (List D × Vn)} {t : D → Vn → Option Vn} {c : Vn → M (Bool × Vn)} {f : Vn → M (O × Vn)} {env : Vn} {q : D → Bool} {g : D → D} {ds : List D} (h0 : gi env = some (.ok (ds, env))) (hw : wipeV own env = some env) (hb : backV env own env = some env) (hl : ds.length ≤ 1000000)
    (h : ∀ d ∈ ds, ∃ e1 e2, t d env = some e1 ∧ c e1 = some (.ok (q d, e2)) ∧ (q d = true → ∃ e3, f e2 = some (.ok (.v (g d), e3)) ∧ wipeV own e3 = some env) ∧ (q d = false → wipeV own e2 = some env)) : vLc own gi t c f env = some (.ok (.l ((ds.filter q).map g), env)) := by
  have hs : sizeLine = 16777216 := sizeLine_eq
  have := goLc_map (own := own) (t := t) (c := c) (f := f) (env := env) (q := q) (g := g) ds [] h (by rw [List.length_nil]; omega)
  exact lc_eq h0 hw this hb
theorem lc_all {own : List Nat} {gi : Vn → M (List D × Vn)} {t : D → Vn → Option Vn} {f : Vn → M (O × Vn)} {env : Vn} {g : D → D} {ds : List D} (h0 : gi env = some (.ok (ds, env))) (hw : wipeV own env = some env) (hb : backV env own env = some env) (hl : ds.length ≤ 1000000)
    (h : ∀ d ∈ ds, ∃ e1 e3, t d env = some e1 ∧ f e1 = some (.ok (.v (g d), e3)) ∧ wipeV own e3 = some env) : vLc own gi t vYes f env = some (.ok (.l (ds.map g), env)) := by
  have hs : sizeLine = 16777216 := sizeLine_eq
  have := goLc_all (own := own) (t := t) (f := f) (env := env) (g := g) ds [] h (by rw [List.length_nil]; omega)
  exact lc_eq h0 hw this hb
end Vi

set_option Elab.async false
set_option linter.all false
set_option maxRecDepth 100000
set_option maxHeartbeats 1000000
/-! Vs4: loops that test, what may be compared. -/
namespace Vi
open PySem PySem.Spec L2

/-- a loop that returns o at the first thing that is not ok -/
theorem goFor_test {t : D → Vn → Option Vn} {b : Vn → M (Fl × Vn)} {J : Vn → Prop} {ok : D → Bool} {o : O} : ∀ (ds : List D), (∀ d ∈ ds, ∀ env, J env → ∃ e1 e2, t d env = some e1 ∧ b e1 = some (.ok (if ok d = true then .nx else .rt o, e2)) ∧ J e2) → ∀ env, J env → ∃ e', goFor t b ds env = some (.ok (if ds.all ok = true then .nx else .rt o, e')) ∧ J e'
  | [], _, env, j => ⟨env, rfl, j⟩
  | d :: ds, h, env, j => by
    obtain ⟨e1, e2, h1, h2, h3⟩ := h d List.mem_cons_self env j
    rw [f_cons, h1, f_1, h2, List.all_cons]
    cases hd : ok d with
    | true =>
      obtain ⟨e', q1, q2⟩ := goFor_test (o := o) ds (fun x hx => h x (List.mem_cons_of_mem _ hx)) e2 h3
      exact ⟨e', q1, q2⟩
    | false => exact ⟨e2, rfl, h3⟩
/-! what may be compared -/
theorem lfs_mem {ds : List D} {d : D} (h : lfs ds = true) (m : d ∈ ds) : d.lf = true := by
  rw [lfs_all] at h
  exact List.all_eq_true.mp h d m
theorem dep_mem : ∀ {ds : List D} {d : D}, d ∈ ds → d.dep ≤ deps ds
  | x :: r, d, m => by
    show d.dep ≤ max x.dep (deps r)
    rcases List.mem_cons.mp m with rfl | m
    · exact Nat.le_max_left _ _
    · exact Nat.le_trans (dep_mem m) (Nat.le_max_right _ _)
theorem cmp_tup {ds : List D} : (D.tup ds).cmp = true ↔ lfs ds = true ∧ deps ds + 1 ≤ 64 := by
  show ((lfs ds && decide (deps ds + 1 ≤ 64)) = true) ↔ _
  rw [Bool.and_eq_true_iff, decide_eq_true_eq]
theorem cmp_lst {ds : List D} : (D.lst ds).cmp = true ↔ lfs ds = true ∧ deps ds + 1 ≤ 64 := by
  show ((lfs ds && decide (deps ds + 1 ≤ 64)) = true) ↔ _
  rw [Bool.and_eq_true_iff, decide_eq_true_eq]
theorem cmp_mem {ds : List D} {d : D} (h : (D.tup ds).cmp = true) (m : d ∈ ds) : d.cmp = true := by
  obtain ⟨h1, h2⟩ := cmp_tup.mp h
  have := dep_mem m
  show (d.lf && decide (d.dep ≤ 64)) = true
  rw [lfs_mem h1 m, decide_eq_true (by omega)]
  rfl
theorem cmp_of {ds es : List D} (h : (D.tup ds).cmp = true) (s : ∀ x ∈ es, x ∈ ds) : (D.lst es).cmp = true := by
  obtain ⟨h1, h2⟩ := cmp_tup.mp h
  refine cmp_lst.mpr ⟨?_, ?_⟩
  · rw [lfs_all, List.all_eq_true]
    exact fun x hx => lfs_mem h1 (s x hx)
  · have : deps es ≤ deps ds := deps_le fun x hx => dep_mem (s x hx)
    omega
theorem cmp_filter {ds : List D} {q : D → Bool} (h : (D.tup ds).cmp = true) : (D.lst (ds.filter q)).cmp = true := cmp_of h fun x hx => (List.mem_filter.mp hx).1
theorem filter_none {ds : List D} {q : D → Bool} : (ds.filter fun d => !q d).isEmpty = ds.all q := by
  induction ds with
  | nil => rfl
  | cons d r ih =>
    rw [List.all_cons, ← ih]
    cases hd : q d with
    | true => rw [List.filter_cons_of_neg (by rw [hd]; decide)]; rfl
    | false => rw [List.filter_cons_of_pos (by rw [hd]; rfl)]; rfl
theorem o_neN {ds : List D} (h : (D.lst ds).cmp = true) : fNe [.lst ds, .lst []] = some (.v (.bl (!ds.isEmpty))) := by
  show (eq? _ _).map _ = _
  rw [eq_nilL h]
  rfl
theorem o_eqN {ds : List D} (h : (D.lst ds).cmp = true) : fEq [.lst ds, .lst []] = some (.v (.bl ds.isEmpty)) := by
  show (eq? _ _).map _ = _
  rw [eq_nilL h]
  rfl
theorem o_eqE {ds : List D} (h : (D.tup ds).cmp = true) : fEq [.tup ds, .tup []] = some (.v (.bl ds.isEmpty)) := by
  show (eq? _ _).map _ = _
  rw [eq_nilT h]
  rfl
/-! powers -/
theorem o_pow {a b : Int} (h : 0 ≤ b ∧ b ≤ 1000000 ∧ a.natAbs < 2 ^ 64) : fPow [.int a, .int b] = some (.v (.int (a ^ b.toNat))) := fPow_eq h
end Vi

set_option Elab.async false
set_option linter.all false
set_option maxRecDepth 100000
set_option maxHeartbeats 1000000
/-! Vm6: whole numbers, counts, primes: the defs that nearly all laws have. -/
namespace Vi
open PySem PySem.Spec L2

abbrev sv (d : D) : Sl := ⟨false, some (.v d)⟩
abbrev no : Sl := ⟨false, none⟩
abbrev re (o : O) (e : Vn) : M (O × Vn) := some (.ok (o, e))
def isWhole : D → Bool
  | .int _ => true
  | _ => false
def isCount : D → Bool
  | .int i => decide (0 ≤ i)
  | _ => false
def wholeB : Vn → M (Fl × Vn) := (vRt (vAnd (vOp (fIsi tabInt) (vSl 0 vNil)) (vNot (vEx (vOp (fIsi tabBl) (vSl 0 vNil)) vNil))))
def countB (w : Vn → M (O × Vn)) : Vn → M (Fl × Vn) := (vRt (vAnd (vCall w (vSl 0 vNil)) (vOp (fCI fun a b => decide (b ≤ a)) (vSl 0 (vEx (vLit (.int 0)) vNil)))))
theorem wholeB_ok {d : D} (h : noOb d = true) : vFn 1 0 wholeB [sv d] = re (.v (.bl (isWhole d))) [sv d] := by
  cases d <;> first | rfl | cases h
theorem countB_ok {d : D} (h : noOb d = true) : vFn 1 0 (countB (vFn 1 0 wholeB)) [sv d] = re (.v (.bl (isCount d))) [sv d] := by
  cases d <;> first | rfl | cases h
abbrev prC : Vn → M (Bool × Vn) := (vB (vOp (fCI fun a b => decide (a ≤ b)) (vEx (vOp fMul (vSl 1 (vSl 1 vNil))) (vSl 0 vNil))))
abbrev prS : Vn → M (Fl × Vn) := (vThen (vIfS (vOrT (vB (vOp fEq (vEx (vOp fMod (vSl 0 (vSl 1 vNil))) (vEx (vLit (.int 0)) vNil)))) (vB (vOp fEq (vEx (vOp fMod (vSl 0 (vEx (vOp fAdd (vSl 1 (vEx (vLit (.int 2)) vNil))) vNil))) (vEx (vLit (.int 0)) vNil))))) (vRt (vLit (.bl false))) vNx) (vAug 1 fAugAdd (vLit (.int 6))))
def primeB (cnt : Vn → M (O × Vn)) (fuel : Nat) : Vn → M (Fl × Vn) := (vThen (vIfS (vOrT (vNotT (vTr (vEx (vCall cnt (vSl 0 vNil)) vNil))) (vOrT (vNotT (vB (vChain (fun a b => decide (a ≤ b)) (fun a b => decide (a ≤ b)) (vLit (.int 5)) (vRd 0) (vLit (.int 999999937))))) (vOrT (vB (vOp fEq (vEx (vOp fMod (vSl 0 (vEx (vLit (.int 2)) vNil))) (vEx (vLit (.int 0)) vNil)))) (vB (vOp fEq (vEx (vOp fMod (vSl 0 (vEx (vLit (.int 3)) vNil))) (vEx (vLit (.int 0)) vNil))))))) (vRt (vLit (.bl false))) vNx) (vThen (vSet 1 (vLit (.int 5))) (vThen (goWhile prC prS fuel) (vRt (vLit (.bl true))))))
/-- the loop, told by numbers alone; none: not yet at its end -/
def prLoop (p : Nat) : Nat → Nat → Option Bool
  | 0, _ => none
  | n + 1, q => bif Nat.ble (q * q) p then (bif (Nat.beq (p % q) 0 || Nat.beq (p % (q + 2)) 0) then some false else prLoop p n (q + 6)) else some true
theorem pr_aug {p q : Int} : vAug 1 fAugAdd (vLit (.int 6)) [sv (.int p), sv (.int q)] = some (.ok (.nx, [sv (.int p), sv (.int (q + 6))])) := rfl
theorem cnt_int {i : Int} (h : 0 ≤ i) : isCount (.int i) = true := decide_eq_true h
theorem nat_fmod (p q : Nat) : (p : Int).fmod q = ((p % q : Nat) : Int) := by
  rw [Int.fmod_eq_emod_of_nonneg _ (by omega)]
  rfl
theorem small_nat {q : Nat} (h : q ≤ 2199023255552) : small64 (q : Int) = true := decide_eq_true (by omega)
theorem dec_zero (n : Nat) : decide ((n : Int) = 0) = Nat.beq n 0 := by
  cases n with
  | zero => rfl
  | succ n => exact decide_eq_false (by omega)
theorem sq_dec (p q : Nat) : decide ((q : Int) * q ≤ p) = Nat.ble (q * q) p := by
  have e1 : ((q : Int) * q) = ((q * q : Nat) : Int) := (Int.natCast_mul q q).symm
  rw [e1]
  generalize q * q = z
  by_cases h : z ≤ p
  · rw [decide_eq_true (Int.ofNat_le.mpr h), Nat.ble_eq_true_of_le h]
  · have : Nat.ble z p = false := by
      cases hb : Nat.ble z p with
      | false => rfl
      | true => exact absurd (Nat.le_of_ble_eq_true hb) h
    rw [this, decide_eq_false fun k => h (Int.ofNat_le.mp k)]
theorem prC_ok' {p q : Nat} (hs : small64 (q : Int) = true) : prC [sv (.int p), sv (.int q)] = some (.ok (Nat.ble (q * q) p, [sv (.int p), sv (.int q)])) := by
  have h : prC [sv (.int p), sv (.int q)] = some (.ok (decide ((q : Int) * q ≤ p), [sv (.int p), sv (.int q)])) := vb_eq (op_eq (ex_eq (op_eq (o := .v (.int ((q : Int) * q))) (ds := [.int q, .int q]) rfl rfl (o_mulL hs)) (rfl : vSl 0 vNil [sv (.int p), sv (.int q)] = some (.ok ([.s 0], [sv (.int p), sv (.int q)])))) (ds := [.int ((q : Int) * q), .int p]) rfl rfl)
  rw [h, sq_dec]
theorem prC_ok {p q : Nat} (h : q ≤ 2199023255552) : prC [sv (.int p), sv (.int q)] = some (.ok (Nat.ble (q * q) p, [sv (.int p), sv (.int q)])) := prC_ok' (small_nat h)
theorem prS_ok {p q : Nat} (h : 1 ≤ q) : prS [sv (.int p), sv (.int q)] = some (.ok (if (Nat.beq (p % q) 0 || Nat.beq (p % (q + 2)) 0) = true then .rt (.v (.bl false)) else .nx, [sv (.int p), if (Nat.beq (p % q) 0 || Nat.beq (p % (q + 2)) 0) = true then sv (.int q) else sv (.int ((q + 6 : Nat) : Int))])) := by
  have f1 : ((q : Int) + 2) = ((q + 2 : Nat) : Int) := rfl
  have z1 : ((q : Nat) : Int) ≠ 0 := by omega
  have z2 : ((q + 2 : Nat) : Int) ≠ 0 := by omega
  have ag := pr_aug (p := p) (q := q)
  cases h1 : Nat.beq (p % q) 0 with
  | true => simp only [prS, b_ok, b_ex, b_ret, w_g0, w_g1, w_s0, w_s1, z_v, z_l, e_lit, e_rd, k_rd, e_mv, k_mv, e_fz, k_fz, e_nil, e_ex, k_ex, k_ex1, e_exI, k_exI, e_sl, k_sl, k_sl1, w_nil, w_t, w_s, w_vw, w_c, e_op, k_op, k_op2, k_op3, e_b, k_b, e_tr, k_tr, k_tr2, k_tr3, e_andT, k_andT, e_orT, k_orT, e_notT, k_notT, e_and, k_and, k_and3, e_or, k_or, k_or3, e_not, k_not, e_if, k_if, e_ch, k_ch1, k_ch2, k_ch3, a_nil, a_t, a_c, e_tup, k_tup, k_tup2, e_lst, k_lst, k_lst2, e_then, k_then, k_thenr, e_drop, k_drop, e_rt, k_rt, e_rtN, e_nx, e_ifS, k_ifS, e_set, k_set, k_set2, e_asg, k_asg, k_asg2, t_name, t_name2, t_nil, t_cons, t_cons2, t_tup, e_par, k_par, k_par2, l_nil, l_t, l_s, l_v, l_l, l_d, l_o, l_c, gb_nil, gb_t, gb_f, gb_s, gb_s2, gb_n, e_call, k_call, k_call1, k_call2, k_call3, e_fn, k_fn, k_fnN, e_seq, k_seqL, k_seqv, k_seqt, e_src, k_src, k_src2, k_src3, e_for, k_for, n_ok, p_nil, p_cons, p_k, p_no, p_v, q_nil, q_cons, q_no, q_v, e_lc, k_lc, k_lc2, k_lc3, k_lc4, e_ld, k_ld, k_ld2, x_nil, x_cons, x_1, x_2, x_3, x_4, x_5, x_yes, x_sz, f_nil, f_cons, f_1, f_nx, f_ct, f_bk, f_rt, e_at, k_at2, k_at3, e_rs, k_rs, k_rs1, k_rs2, ao_nil, ao_t, ao_c, e_mt, k_mt, k_mt1, k_mt2, k_mt3, e_rep, k_rep, e_lam, k_lamx, k_lam, y_kn, y_kv, y_k0, y_kl, y_kd, y_on, y_ot, y_of, y_oe, y_ln, y_lt, y_lf, y_le, y_mt, y_mf, y_me, y_mn, y_told, y_non, y_val, List.length_cons, List.length_nil, List.cons_append, List.nil_append, List.take_succ_cons, List.take_zero, Bool.false_eq_true, reduceIte, sz_lit, Nat.reduceAdd, Nat.reduceLeDiff, Nat.reduceLT, Nat.zero_add, o_ci, o_addI, o_sub, o_neg, o_int, o_intB, o_min, o_max, o_aug, o_lenL, o_lenT, o_tupL, o_tupT, o_listL, o_listT, o_s10L, o_s10T, o_s01L, o_s01T, o_s11L, o_s11T, o_eqI, o_neI, o_eqS, o_neS, o_isB, o_isNotB, o_isN, o_isNotN, u_dT, u_dF, u_non, u_bl, u_int, u_tup, u_lst, o_mod z1, nat_fmod, dec_zero, h1, Bool.true_or]
  | false =>
    cases h2 : Nat.beq (p % (q + 2)) 0 with
    | true => simp only [prS, b_ok, b_ex, b_ret, w_g0, w_g1, w_s0, w_s1, z_v, z_l, e_lit, e_rd, k_rd, e_mv, k_mv, e_fz, k_fz, e_nil, e_ex, k_ex, k_ex1, e_exI, k_exI, e_sl, k_sl, k_sl1, w_nil, w_t, w_s, w_vw, w_c, e_op, k_op, k_op2, k_op3, e_b, k_b, e_tr, k_tr, k_tr2, k_tr3, e_andT, k_andT, e_orT, k_orT, e_notT, k_notT, e_and, k_and, k_and3, e_or, k_or, k_or3, e_not, k_not, e_if, k_if, e_ch, k_ch1, k_ch2, k_ch3, a_nil, a_t, a_c, e_tup, k_tup, k_tup2, e_lst, k_lst, k_lst2, e_then, k_then, k_thenr, e_drop, k_drop, e_rt, k_rt, e_rtN, e_nx, e_ifS, k_ifS, e_set, k_set, k_set2, e_asg, k_asg, k_asg2, t_name, t_name2, t_nil, t_cons, t_cons2, t_tup, e_par, k_par, k_par2, l_nil, l_t, l_s, l_v, l_l, l_d, l_o, l_c, gb_nil, gb_t, gb_f, gb_s, gb_s2, gb_n, e_call, k_call, k_call1, k_call2, k_call3, e_fn, k_fn, k_fnN, e_seq, k_seqL, k_seqv, k_seqt, e_src, k_src, k_src2, k_src3, e_for, k_for, n_ok, p_nil, p_cons, p_k, p_no, p_v, q_nil, q_cons, q_no, q_v, e_lc, k_lc, k_lc2, k_lc3, k_lc4, e_ld, k_ld, k_ld2, x_nil, x_cons, x_1, x_2, x_3, x_4, x_5, x_yes, x_sz, f_nil, f_cons, f_1, f_nx, f_ct, f_bk, f_rt, e_at, k_at2, k_at3, e_rs, k_rs, k_rs1, k_rs2, ao_nil, ao_t, ao_c, e_mt, k_mt, k_mt1, k_mt2, k_mt3, e_rep, k_rep, e_lam, k_lamx, k_lam, y_kn, y_kv, y_k0, y_kl, y_kd, y_on, y_ot, y_of, y_oe, y_ln, y_lt, y_lf, y_le, y_mt, y_mf, y_me, y_mn, y_told, y_non, y_val, List.length_cons, List.length_nil, List.cons_append, List.nil_append, List.take_succ_cons, List.take_zero, Bool.false_eq_true, reduceIte, sz_lit, Nat.reduceAdd, Nat.reduceLeDiff, Nat.reduceLT, Nat.zero_add, o_ci, o_addI, o_sub, o_neg, o_int, o_intB, o_min, o_max, o_aug, o_lenL, o_lenT, o_tupL, o_tupT, o_listL, o_listT, o_s10L, o_s10T, o_s01L, o_s01T, o_s11L, o_s11T, o_eqI, o_neI, o_eqS, o_neS, o_isB, o_isNotB, o_isN, o_isNotN, u_dT, u_dF, u_non, u_bl, u_int, u_tup, u_lst, f1, o_mod z1, o_mod z2, nat_fmod, dec_zero, h1, h2, Bool.false_or]
    | false =>
      simp only [prS, b_ok, b_ex, b_ret, w_g0, w_g1, w_s0, w_s1, z_v, z_l, e_lit, e_rd, k_rd, e_mv, k_mv, e_fz, k_fz, e_nil, e_ex, k_ex, k_ex1, e_exI, k_exI, e_sl, k_sl, k_sl1, w_nil, w_t, w_s, w_vw, w_c, e_op, k_op, k_op2, k_op3, e_b, k_b, e_tr, k_tr, k_tr2, k_tr3, e_andT, k_andT, e_orT, k_orT, e_notT, k_notT, e_and, k_and, k_and3, e_or, k_or, k_or3, e_not, k_not, e_if, k_if, e_ch, k_ch1, k_ch2, k_ch3, a_nil, a_t, a_c, e_tup, k_tup, k_tup2, e_lst, k_lst, k_lst2, e_then, k_then, k_thenr, e_drop, k_drop, e_rt, k_rt, e_rtN, e_nx, e_ifS, k_ifS, e_set, k_set, k_set2, e_asg, k_asg, k_asg2, t_name, t_name2, t_nil, t_cons, t_cons2, t_tup, e_par, k_par, k_par2, l_nil, l_t, l_s, l_v, l_l, l_d, l_o, l_c, gb_nil, gb_t, gb_f, gb_s, gb_s2, gb_n, e_call, k_call, k_call1, k_call2, k_call3, e_fn, k_fn, k_fnN, e_seq, k_seqL, k_seqv, k_seqt, e_src, k_src, k_src2, k_src3, e_for, k_for, n_ok, p_nil, p_cons, p_k, p_no, p_v, q_nil, q_cons, q_no, q_v, e_lc, k_lc, k_lc2, k_lc3, k_lc4, e_ld, k_ld, k_ld2, x_nil, x_cons, x_1, x_2, x_3, x_4, x_5, x_yes, x_sz, f_nil, f_cons, f_1, f_nx, f_ct, f_bk, f_rt, e_at, k_at2, k_at3, e_rs, k_rs, k_rs1, k_rs2, ao_nil, ao_t, ao_c, e_mt, k_mt, k_mt1, k_mt2, k_mt3, e_rep, k_rep, e_lam, k_lamx, k_lam, y_kn, y_kv, y_k0, y_kl, y_kd, y_on, y_ot, y_of, y_oe, y_ln, y_lt, y_lf, y_le, y_mt, y_mf, y_me, y_mn, y_told, y_non, y_val, List.length_cons, List.length_nil, List.cons_append, List.nil_append, List.take_succ_cons, List.take_zero, Bool.false_eq_true, reduceIte, sz_lit, Nat.reduceAdd, Nat.reduceLeDiff, Nat.reduceLT, Nat.zero_add, o_ci, o_addI, o_sub, o_neg, o_int, o_intB, o_min, o_max, o_aug, o_lenL, o_lenT, o_tupL, o_tupT, o_listL, o_listT, o_s10L, o_s10T, o_s01L, o_s01T, o_s11L, o_s11T, o_eqI, o_neI, o_eqS, o_neS, o_isB, o_isNotB, o_isN, o_isNotN, u_dT, u_dF, u_non, u_bl, u_int, u_tup, u_lst, f1, o_mod z1, o_mod z2, nat_fmod, dec_zero, h1, h2, Bool.false_or, ↓ag]
      rfl
theorem prLoop_ok {p : Nat} (hp : p < 2 ^ 40) : ∀ (n F q : Nat) (b : Bool), 1 ≤ q → q ≤ 2199023255552 → prLoop p n q = some b → n ≤ F → ∃ e, e.take 1 = [sv (.int p)] ∧ goWhile prC prS F [sv (.int p), sv (.int q)] = some (.ok (if b = true then .nx else .rt (.v (.bl false)), e))
  | 0, _, _, _, _, _, h, _ => by cases h
  | n + 1, 0, _, _, _, _, _, h => by omega
  | n + 1, F + 1, q, b, hq, hq2, h, hF => by
    have step : goWhile prC prS (F + 1) [sv (.int p), sv (.int q)] = M.bind (prC [sv (.int p), sv (.int q)]) (fun (k, e1) => if k = true then M.bind (prS e1) fun (fl, e2) => match fl with
      | .nx => goWhile prC prS F e2
      | .ct => goWhile prC prS F e2
      | .bk => M.ret (.nx, e2)
      | .rt o => M.ret (.rt o, e2)
      else M.ret (.nx, e1)) := rfl
    rw [prC_ok hq2] at step
    unfold prLoop at h
    cases hc : Nat.ble (q * q) p with
    | false =>
      rw [hc] at step h
      cases h
      exact ⟨_, rfl, step⟩
    | true =>
      rw [hc] at step h
      have hqp : q ≤ p := by
        have h1 := Nat.le_of_ble_eq_true hc
        have h2 : q * 1 ≤ q * q := Nat.mul_le_mul (Nat.le_refl _) hq
        omega
      have step2 : goWhile prC prS (F + 1) [sv (.int p), sv (.int q)] = M.bind (prS [sv (.int p), sv (.int q)]) (fun (fl, e2) => match fl with
        | .nx => goWhile prC prS F e2
        | .ct => goWhile prC prS F e2
        | .bk => M.ret (.nx, e2)
        | .rt o => M.ret (.rt o, e2)) := step
      rw [prS_ok hq] at step2
      change (bif (Nat.beq (p % q) 0 || Nat.beq (p % (q + 2)) 0) then some false else prLoop p n (q + 6)) = some b at h
      cases hd : (Nat.beq (p % q) 0 || Nat.beq (p % (q + 2)) 0) with
      | true =>
        rw [hd] at step2 h
        cases h
        exact ⟨_, rfl, step2⟩
      | false =>
        rw [hd] at step2 h
        obtain ⟨e, h1, h2⟩ := prLoop_ok hp n F (q + 6) b (by omega) (by omega) h (by omega)
        exact ⟨e, h1, step2.trans h2⟩
/-- primes, and numbers that are none, told by the loop -/
theorem prime_ok {p n fuel : Nat} {b : Bool} (hp : 5 ≤ p ∧ p ≤ 999999937) (h2 : p % 2 ≠ 0) (h3 : p % 3 ≠ 0) (h : prLoop p n 5 = some b) (hf : n ≤ fuel) : vFn 1 1 (primeB (vFn 1 0 (countB (vFn 1 0 wholeB))) fuel) [sv (.int p)] = re (.v (.bl b)) [sv (.int p)] := by
  obtain ⟨e, h4, h5'⟩ := prLoop_ok (by omega) n fuel 5 b (by decide) (by decide) h hf
  have h5 : goWhile prC prS fuel [sv (.int p), sv (.int 5)] = _ := h5'
  have c : vFn 1 0 (countB (vFn 1 0 wholeB)) [sv (.int p)] = re (.v (.bl true)) [sv (.int p)] := (countB_ok rfl).trans (by rw [cnt_int (by omega)])
  have l1 : decide ((5 : Int) ≤ p) = true := decide_eq_true (by omega)
  have l2 : decide ((p : Int) ≤ 999999937) = true := decide_eq_true (by omega)
  have m2 : decide (((p : Int)).fmod 2 = 0) = false := decide_eq_false (by rw [show (2 : Int) = ((2 : Nat) : Int) from rfl, nat_fmod]; omega)
  have m3 : decide (((p : Int)).fmod 3 = 0) = false := decide_eq_false (by rw [show (3 : Int) = ((3 : Nat) : Int) from rfl, nat_fmod]; omega)
  rw [e_fn (n := 1) rfl]
  show M.bind (primeB _ fuel [sv (.int p), no]) (kFn 1) = _
  cases b with
  | true => simp only [primeB, ↓c, b_ok, b_ex, b_ret, w_g0, w_g1, w_s0, w_s1, z_v, z_l, e_lit, e_rd, k_rd, e_mv, k_mv, e_fz, k_fz, e_nil, e_ex, k_ex, k_ex1, e_exI, k_exI, e_sl, k_sl, k_sl1, w_nil, w_t, w_s, w_vw, w_c, e_op, k_op, k_op2, k_op3, e_b, k_b, e_tr, k_tr, k_tr2, k_tr3, e_andT, k_andT, e_orT, k_orT, e_notT, k_notT, e_and, k_and, k_and3, e_or, k_or, k_or3, e_not, k_not, e_if, k_if, e_ch, k_ch1, k_ch2, k_ch3, a_nil, a_t, a_c, e_tup, k_tup, k_tup2, e_lst, k_lst, k_lst2, e_then, k_then, k_thenr, e_drop, k_drop, e_rt, k_rt, e_rtN, e_nx, e_ifS, k_ifS, e_set, k_set, k_set2, e_asg, k_asg, k_asg2, t_name, t_name2, t_nil, t_cons, t_cons2, t_tup, e_par, k_par, k_par2, l_nil, l_t, l_s, l_v, l_l, l_d, l_o, l_c, gb_nil, gb_t, gb_f, gb_s, gb_s2, gb_n, e_call, k_call, k_call1, k_call2, k_call3, e_fn, k_fn, k_fnN, e_seq, k_seqL, k_seqv, k_seqt, e_src, k_src, k_src2, k_src3, e_for, k_for, n_ok, p_nil, p_cons, p_k, p_no, p_v, q_nil, q_cons, q_no, q_v, e_lc, k_lc, k_lc2, k_lc3, k_lc4, e_ld, k_ld, k_ld2, x_nil, x_cons, x_1, x_2, x_3, x_4, x_5, x_yes, x_sz, f_nil, f_cons, f_1, f_nx, f_ct, f_bk, f_rt, e_at, k_at2, k_at3, e_rs, k_rs, k_rs1, k_rs2, ao_nil, ao_t, ao_c, e_mt, k_mt, k_mt1, k_mt2, k_mt3, e_rep, k_rep, e_lam, k_lamx, k_lam, y_kn, y_kv, y_k0, y_kl, y_kd, y_on, y_ot, y_of, y_oe, y_ln, y_lt, y_lf, y_le, y_mt, y_mf, y_me, y_mn, y_told, y_non, y_val, List.length_cons, List.length_nil, List.cons_append, List.nil_append, List.take_succ_cons, List.take_zero, Bool.false_eq_true, reduceIte, sz_lit, Nat.reduceAdd, Nat.reduceLeDiff, Nat.reduceLT, Nat.zero_add, o_ci, o_addI, o_sub, o_neg, o_int, o_intB, o_min, o_max, o_aug, o_lenL, o_lenT, o_tupL, o_tupT, o_listL, o_listT, o_s10L, o_s10T, o_s01L, o_s01T, o_s11L, o_s11T, o_eqI, o_neI, o_eqS, o_neS, o_isB, o_isNotB, o_isN, o_isNotN, u_dT, u_dF, u_non, u_bl, u_int, u_tup, u_lst, l1, l2, o_mod (a := p) (b := 2) (by decide), o_mod (a := p) (b := 3) (by decide), m2, m3, Bool.not_true, ↓h5, h4]
  | false => simp only [primeB, ↓c, b_ok, b_ex, b_ret, w_g0, w_g1, w_s0, w_s1, z_v, z_l, e_lit, e_rd, k_rd, e_mv, k_mv, e_fz, k_fz, e_nil, e_ex, k_ex, k_ex1, e_exI, k_exI, e_sl, k_sl, k_sl1, w_nil, w_t, w_s, w_vw, w_c, e_op, k_op, k_op2, k_op3, e_b, k_b, e_tr, k_tr, k_tr2, k_tr3, e_andT, k_andT, e_orT, k_orT, e_notT, k_notT, e_and, k_and, k_and3, e_or, k_or, k_or3, e_not, k_not, e_if, k_if, e_ch, k_ch1, k_ch2, k_ch3, a_nil, a_t, a_c, e_tup, k_tup, k_tup2, e_lst, k_lst, k_lst2, e_then, k_then, k_thenr, e_drop, k_drop, e_rt, k_rt, e_rtN, e_nx, e_ifS, k_ifS, e_set, k_set, k_set2, e_asg, k_asg, k_asg2, t_name, t_name2, t_nil, t_cons, t_cons2, t_tup, e_par, k_par, k_par2, l_nil, l_t, l_s, l_v, l_l, l_d, l_o, l_c, gb_nil, gb_t, gb_f, gb_s, gb_s2, gb_n, e_call, k_call, k_call1, k_call2, k_call3, e_fn, k_fn, k_fnN, e_seq, k_seqL, k_seqv, k_seqt, e_src, k_src, k_src2, k_src3, e_for, k_for, n_ok, p_nil, p_cons, p_k, p_no, p_v, q_nil, q_cons, q_no, q_v, e_lc, k_lc, k_lc2, k_lc3, k_lc4, e_ld, k_ld, k_ld2, x_nil, x_cons, x_1, x_2, x_3, x_4, x_5, x_yes, x_sz, f_nil, f_cons, f_1, f_nx, f_ct, f_bk, f_rt, e_at, k_at2, k_at3, e_rs, k_rs, k_rs1, k_rs2, ao_nil, ao_t, ao_c, e_mt, k_mt, k_mt1, k_mt2, k_mt3, e_rep, k_rep, e_lam, k_lamx, k_lam, y_kn, y_kv, y_k0, y_kl, y_kd, y_on, y_ot, y_of, y_oe, y_ln, y_lt, y_lf, y_le, y_mt, y_mf, y_me, y_mn, y_told, y_non, y_val, List.length_cons, List.length_nil, List.cons_append, List.nil_append, List.take_succ_cons, List.take_zero, Bool.false_eq_true, reduceIte, sz_lit, Nat.reduceAdd, Nat.reduceLeDiff, Nat.reduceLT, Nat.zero_add, o_ci, o_addI, o_sub, o_neg, o_int, o_intB, o_min, o_max, o_aug, o_lenL, o_lenT, o_tupL, o_tupT, o_listL, o_listT, o_s10L, o_s10T, o_s01L, o_s01T, o_s11L, o_s11T, o_eqI, o_neI, o_eqS, o_neS, o_isB, o_isNotB, o_isN, o_isNotN, u_dT, u_dF, u_non, u_bl, u_int, u_tup, u_lst, l1, l2, o_mod (a := p) (b := 2) (by decide), o_mod (a := p) (b := 3) (by decide), m2, m3, Bool.not_true, ↓h5, h4]
/-- what 2 or 3 goes into, at most -/
theorem prime_no {p fuel : Nat} (hp : 5 ≤ p ∧ p ≤ 999999937) (h : p % 2 = 0 ∨ p % 3 = 0) : vFn 1 1 (primeB (vFn 1 0 (countB (vFn 1 0 wholeB))) fuel) [sv (.int p)] = re (.v (.bl false)) [sv (.int p)] := by
  have c : vFn 1 0 (countB (vFn 1 0 wholeB)) [sv (.int p)] = re (.v (.bl true)) [sv (.int p)] := (countB_ok rfl).trans (by rw [cnt_int (by omega)])
  have l1 : decide ((5 : Int) ≤ p) = true := decide_eq_true (by omega)
  have l2 : decide ((p : Int) ≤ 999999937) = true := decide_eq_true (by omega)
  rw [e_fn (n := 1) rfl]
  show M.bind (primeB _ fuel [sv (.int p), no]) (kFn 1) = _
  by_cases z : p % 2 = 0
  · have m2 : decide (((p : Int)).fmod 2 = 0) = true := decide_eq_true (by rw [show (2 : Int) = ((2 : Nat) : Int) from rfl, nat_fmod]; omega)
    simp only [primeB, ↓c, b_ok, b_ex, b_ret, w_g0, w_g1, w_s0, w_s1, z_v, z_l, e_lit, e_rd, k_rd, e_mv, k_mv, e_fz, k_fz, e_nil, e_ex, k_ex, k_ex1, e_exI, k_exI, e_sl, k_sl, k_sl1, w_nil, w_t, w_s, w_vw, w_c, e_op, k_op, k_op2, k_op3, e_b, k_b, e_tr, k_tr, k_tr2, k_tr3, e_andT, k_andT, e_orT, k_orT, e_notT, k_notT, e_and, k_and, k_and3, e_or, k_or, k_or3, e_not, k_not, e_if, k_if, e_ch, k_ch1, k_ch2, k_ch3, a_nil, a_t, a_c, e_tup, k_tup, k_tup2, e_lst, k_lst, k_lst2, e_then, k_then, k_thenr, e_drop, k_drop, e_rt, k_rt, e_rtN, e_nx, e_ifS, k_ifS, e_set, k_set, k_set2, e_asg, k_asg, k_asg2, t_name, t_name2, t_nil, t_cons, t_cons2, t_tup, e_par, k_par, k_par2, l_nil, l_t, l_s, l_v, l_l, l_d, l_o, l_c, gb_nil, gb_t, gb_f, gb_s, gb_s2, gb_n, e_call, k_call, k_call1, k_call2, k_call3, e_fn, k_fn, k_fnN, e_seq, k_seqL, k_seqv, k_seqt, e_src, k_src, k_src2, k_src3, e_for, k_for, n_ok, p_nil, p_cons, p_k, p_no, p_v, q_nil, q_cons, q_no, q_v, e_lc, k_lc, k_lc2, k_lc3, k_lc4, e_ld, k_ld, k_ld2, x_nil, x_cons, x_1, x_2, x_3, x_4, x_5, x_yes, x_sz, f_nil, f_cons, f_1, f_nx, f_ct, f_bk, f_rt, e_at, k_at2, k_at3, e_rs, k_rs, k_rs1, k_rs2, ao_nil, ao_t, ao_c, e_mt, k_mt, k_mt1, k_mt2, k_mt3, e_rep, k_rep, e_lam, k_lamx, k_lam, y_kn, y_kv, y_k0, y_kl, y_kd, y_on, y_ot, y_of, y_oe, y_ln, y_lt, y_lf, y_le, y_mt, y_mf, y_me, y_mn, y_told, y_non, y_val, List.length_cons, List.length_nil, List.cons_append, List.nil_append, List.take_succ_cons, List.take_zero, Bool.false_eq_true, reduceIte, sz_lit, Nat.reduceAdd, Nat.reduceLeDiff, Nat.reduceLT, Nat.zero_add, o_ci, o_addI, o_sub, o_neg, o_int, o_intB, o_min, o_max, o_aug, o_lenL, o_lenT, o_tupL, o_tupT, o_listL, o_listT, o_s10L, o_s10T, o_s01L, o_s01T, o_s11L, o_s11T, o_eqI, o_neI, o_eqS, o_neS, o_isB, o_isNotB, o_isN, o_isNotN, u_dT, u_dF, u_non, u_bl, u_int, u_tup, u_lst, l1, l2, o_mod (a := p) (b := 2) (by decide), m2, Bool.not_true]
  · have m2 : decide (((p : Int)).fmod 2 = 0) = false := decide_eq_false (by rw [show (2 : Int) = ((2 : Nat) : Int) from rfl, nat_fmod]; omega)
    have m3 : decide (((p : Int)).fmod 3 = 0) = true := decide_eq_true (by rw [show (3 : Int) = ((3 : Nat) : Int) from rfl, nat_fmod]; omega)
    simp only [primeB, ↓c, b_ok, b_ex, b_ret, w_g0, w_g1, w_s0, w_s1, z_v, z_l, e_lit, e_rd, k_rd, e_mv, k_mv, e_fz, k_fz, e_nil, e_ex, k_ex, k_ex1, e_exI, k_exI, e_sl, k_sl, k_sl1, w_nil, w_t, w_s, w_vw, w_c, e_op, k_op, k_op2, k_op3, e_b, k_b, e_tr, k_tr, k_tr2, k_tr3, e_andT, k_andT, e_orT, k_orT, e_notT, k_notT, e_and, k_and, k_and3, e_or, k_or, k_or3, e_not, k_not, e_if, k_if, e_ch, k_ch1, k_ch2, k_ch3, a_nil, a_t, a_c, e_tup, k_tup, k_tup2, e_lst, k_lst, k_lst2, e_then, k_then, k_thenr, e_drop, k_drop, e_rt, k_rt, e_rtN, e_nx, e_ifS, k_ifS, e_set, k_set, k_set2, e_asg, k_asg, k_asg2, t_name, t_name2, t_nil, t_cons, t_cons2, t_tup, e_par, k_par, k_par2, l_nil, l_t, l_s, l_v, l_l, l_d, l_o, l_c, gb_nil, gb_t, gb_f, gb_s, gb_s2, gb_n, e_call, k_call, k_call1, k_call2, k_call3, e_fn, k_fn, k_fnN, e_seq, k_seqL, k_seqv, k_seqt, e_src, k_src, k_src2, k_src3, e_for, k_for, n_ok, p_nil, p_cons, p_k, p_no, p_v, q_nil, q_cons, q_no, q_v, e_lc, k_lc, k_lc2, k_lc3, k_lc4, e_ld, k_ld, k_ld2, x_nil, x_cons, x_1, x_2, x_3, x_4, x_5, x_yes, x_sz, f_nil, f_cons, f_1, f_nx, f_ct, f_bk, f_rt, e_at, k_at2, k_at3, e_rs, k_rs, k_rs1, k_rs2, ao_nil, ao_t, ao_c, e_mt, k_mt, k_mt1, k_mt2, k_mt3, e_rep, k_rep, e_lam, k_lamx, k_lam, y_kn, y_kv, y_k0, y_kl, y_kd, y_on, y_ot, y_of, y_oe, y_ln, y_lt, y_lf, y_le, y_mt, y_mf, y_me, y_mn, y_told, y_non, y_val, List.length_cons, List.length_nil, List.cons_append, List.nil_append, List.take_succ_cons, List.take_zero, Bool.false_eq_true, reduceIte, sz_lit, Nat.reduceAdd, Nat.reduceLeDiff, Nat.reduceLT, Nat.zero_add, o_ci, o_addI, o_sub, o_neg, o_int, o_intB, o_min, o_max, o_aug, o_lenL, o_lenT, o_tupL, o_tupT, o_listL, o_listT, o_s10L, o_s10T, o_s01L, o_s01T, o_s11L, o_s11T, o_eqI, o_neI, o_eqS, o_neS, o_isB, o_isNotB, o_isN, o_isNotN, u_dT, u_dF, u_non, u_bl, u_int, u_tup, u_lst, l1, l2, o_mod (a := p) (b := 2) (by decide), o_mod (a := p) (b := 3) (by decide), m2, m3, Bool.not_true]
theorem prime_out {p : Int} {fuel : Nat} (hp : 0 ≤ p ∧ (p < 5 ∨ 999999937 < p)) : vFn 1 1 (primeB (vFn 1 0 (countB (vFn 1 0 wholeB))) fuel) [sv (.int p)] = re (.v (.bl false)) [sv (.int p)] := by
  have c : vFn 1 0 (countB (vFn 1 0 wholeB)) [sv (.int p)] = re (.v (.bl true)) [sv (.int p)] := (countB_ok rfl).trans (by rw [cnt_int (by omega)])
  rw [e_fn (n := 1) rfl]
  show M.bind (primeB _ fuel [sv (.int p), no]) (kFn 1) = _
  by_cases z : 5 ≤ p
  · have l1 : decide ((5 : Int) ≤ p) = true := decide_eq_true z
    have l2 : decide ((p : Int) ≤ 999999937) = false := decide_eq_false (by omega)
    simp only [primeB, ↓c, b_ok, b_ex, b_ret, w_g0, w_g1, w_s0, w_s1, z_v, z_l, e_lit, e_rd, k_rd, e_mv, k_mv, e_fz, k_fz, e_nil, e_ex, k_ex, k_ex1, e_exI, k_exI, e_sl, k_sl, k_sl1, w_nil, w_t, w_s, w_vw, w_c, e_op, k_op, k_op2, k_op3, e_b, k_b, e_tr, k_tr, k_tr2, k_tr3, e_andT, k_andT, e_orT, k_orT, e_notT, k_notT, e_and, k_and, k_and3, e_or, k_or, k_or3, e_not, k_not, e_if, k_if, e_ch, k_ch1, k_ch2, k_ch3, a_nil, a_t, a_c, e_tup, k_tup, k_tup2, e_lst, k_lst, k_lst2, e_then, k_then, k_thenr, e_drop, k_drop, e_rt, k_rt, e_rtN, e_nx, e_ifS, k_ifS, e_set, k_set, k_set2, e_asg, k_asg, k_asg2, t_name, t_name2, t_nil, t_cons, t_cons2, t_tup, e_par, k_par, k_par2, l_nil, l_t, l_s, l_v, l_l, l_d, l_o, l_c, gb_nil, gb_t, gb_f, gb_s, gb_s2, gb_n, e_call, k_call, k_call1, k_call2, k_call3, e_fn, k_fn, k_fnN, e_seq, k_seqL, k_seqv, k_seqt, e_src, k_src, k_src2, k_src3, e_for, k_for, n_ok, p_nil, p_cons, p_k, p_no, p_v, q_nil, q_cons, q_no, q_v, e_lc, k_lc, k_lc2, k_lc3, k_lc4, e_ld, k_ld, k_ld2, x_nil, x_cons, x_1, x_2, x_3, x_4, x_5, x_yes, x_sz, f_nil, f_cons, f_1, f_nx, f_ct, f_bk, f_rt, e_at, k_at2, k_at3, e_rs, k_rs, k_rs1, k_rs2, ao_nil, ao_t, ao_c, e_mt, k_mt, k_mt1, k_mt2, k_mt3, e_rep, k_rep, e_lam, k_lamx, k_lam, y_kn, y_kv, y_k0, y_kl, y_kd, y_on, y_ot, y_of, y_oe, y_ln, y_lt, y_lf, y_le, y_mt, y_mf, y_me, y_mn, y_told, y_non, y_val, List.length_cons, List.length_nil, List.cons_append, List.nil_append, List.take_succ_cons, List.take_zero, Bool.false_eq_true, reduceIte, sz_lit, Nat.reduceAdd, Nat.reduceLeDiff, Nat.reduceLT, Nat.zero_add, o_ci, o_addI, o_sub, o_neg, o_int, o_intB, o_min, o_max, o_aug, o_lenL, o_lenT, o_tupL, o_tupT, o_listL, o_listT, o_s10L, o_s10T, o_s01L, o_s01T, o_s11L, o_s11T, o_eqI, o_neI, o_eqS, o_neS, o_isB, o_isNotB, o_isN, o_isNotN, u_dT, u_dF, u_non, u_bl, u_int, u_tup, u_lst, l1, l2, Bool.not_true, Bool.not_false]
  · have l1 : decide ((5 : Int) ≤ p) = false := decide_eq_false z
    simp only [primeB, ↓c, b_ok, b_ex, b_ret, w_g0, w_g1, w_s0, w_s1, z_v, z_l, e_lit, e_rd, k_rd, e_mv, k_mv, e_fz, k_fz, e_nil, e_ex, k_ex, k_ex1, e_exI, k_exI, e_sl, k_sl, k_sl1, w_nil, w_t, w_s, w_vw, w_c, e_op, k_op, k_op2, k_op3, e_b, k_b, e_tr, k_tr, k_tr2, k_tr3, e_andT, k_andT, e_orT, k_orT, e_notT, k_notT, e_and, k_and, k_and3, e_or, k_or, k_or3, e_not, k_not, e_if, k_if, e_ch, k_ch1, k_ch2, k_ch3, a_nil, a_t, a_c, e_tup, k_tup, k_tup2, e_lst, k_lst, k_lst2, e_then, k_then, k_thenr, e_drop, k_drop, e_rt, k_rt, e_rtN, e_nx, e_ifS, k_ifS, e_set, k_set, k_set2, e_asg, k_asg, k_asg2, t_name, t_name2, t_nil, t_cons, t_cons2, t_tup, e_par, k_par, k_par2, l_nil, l_t, l_s, l_v, l_l, l_d, l_o, l_c, gb_nil, gb_t, gb_f, gb_s, gb_s2, gb_n, e_call, k_call, k_call1, k_call2, k_call3, e_fn, k_fn, k_fnN, e_seq, k_seqL, k_seqv, k_seqt, e_src, k_src, k_src2, k_src3, e_for, k_for, n_ok, p_nil, p_cons, p_k, p_no, p_v, q_nil, q_cons, q_no, q_v, e_lc, k_lc, k_lc2, k_lc3, k_lc4, e_ld, k_ld, k_ld2, x_nil, x_cons, x_1, x_2, x_3, x_4, x_5, x_yes, x_sz, f_nil, f_cons, f_1, f_nx, f_ct, f_bk, f_rt, e_at, k_at2, k_at3, e_rs, k_rs, k_rs1, k_rs2, ao_nil, ao_t, ao_c, e_mt, k_mt, k_mt1, k_mt2, k_mt3, e_rep, k_rep, e_lam, k_lamx, k_lam, y_kn, y_kv, y_k0, y_kl, y_kd, y_on, y_ot, y_of, y_oe, y_ln, y_lt, y_lf, y_le, y_mt, y_mf, y_me, y_mn, y_told, y_non, y_val, List.length_cons, List.length_nil, List.cons_append, List.nil_append, List.take_succ_cons, List.take_zero, Bool.false_eq_true, reduceIte, sz_lit, Nat.reduceAdd, Nat.reduceLeDiff, Nat.reduceLT, Nat.zero_add, o_ci, o_addI, o_sub, o_neg, o_int, o_intB, o_min, o_max, o_aug, o_lenL, o_lenT, o_tupL, o_tupT, o_listL, o_listT, o_s10L, o_s10T, o_s01L, o_s01T, o_s11L, o_s11T, o_eqI, o_neI, o_eqS, o_neS, o_isB, o_isNotB, o_isN, o_isNotN, u_dT, u_dF, u_non, u_bl, u_int, u_tup, u_lst, l1, Bool.not_true, Bool.not_false]
theorem prime_not {d : D} {fuel : Nat} (hn : noOb d = true) (h : isCount d = false) : vFn 1 1 (primeB (vFn 1 0 (countB (vFn 1 0 wholeB))) fuel) [sv d] = re (.v (.bl false)) [sv d] := by
  have c : vFn 1 0 (countB (vFn 1 0 wholeB)) [sv d] = re (.v (.bl false)) [sv d] := (countB_ok hn).trans (by rw [h])
  rw [e_fn (n := 1) rfl]
  show M.bind (primeB _ fuel [sv d, no]) (kFn 1) = _
  simp only [primeB, ↓c, b_ok, b_ex, b_ret, w_g0, w_g1, w_s0, w_s1, z_v, z_l, e_lit, e_rd, k_rd, e_mv, k_mv, e_fz, k_fz, e_nil, e_ex, k_ex, k_ex1, e_exI, k_exI, e_sl, k_sl, k_sl1, w_nil, w_t, w_s, w_vw, w_c, e_op, k_op, k_op2, k_op3, e_b, k_b, e_tr, k_tr, k_tr2, k_tr3, e_andT, k_andT, e_orT, k_orT, e_notT, k_notT, e_and, k_and, k_and3, e_or, k_or, k_or3, e_not, k_not, e_if, k_if, e_ch, k_ch1, k_ch2, k_ch3, a_nil, a_t, a_c, e_tup, k_tup, k_tup2, e_lst, k_lst, k_lst2, e_then, k_then, k_thenr, e_drop, k_drop, e_rt, k_rt, e_rtN, e_nx, e_ifS, k_ifS, e_set, k_set, k_set2, e_asg, k_asg, k_asg2, t_name, t_name2, t_nil, t_cons, t_cons2, t_tup, e_par, k_par, k_par2, l_nil, l_t, l_s, l_v, l_l, l_d, l_o, l_c, gb_nil, gb_t, gb_f, gb_s, gb_s2, gb_n, e_call, k_call, k_call1, k_call2, k_call3, e_fn, k_fn, k_fnN, e_seq, k_seqL, k_seqv, k_seqt, e_src, k_src, k_src2, k_src3, e_for, k_for, n_ok, p_nil, p_cons, p_k, p_no, p_v, q_nil, q_cons, q_no, q_v, e_lc, k_lc, k_lc2, k_lc3, k_lc4, e_ld, k_ld, k_ld2, x_nil, x_cons, x_1, x_2, x_3, x_4, x_5, x_yes, x_sz, f_nil, f_cons, f_1, f_nx, f_ct, f_bk, f_rt, e_at, k_at2, k_at3, e_rs, k_rs, k_rs1, k_rs2, ao_nil, ao_t, ao_c, e_mt, k_mt, k_mt1, k_mt2, k_mt3, e_rep, k_rep, e_lam, k_lamx, k_lam, y_kn, y_kv, y_k0, y_kl, y_kd, y_on, y_ot, y_of, y_oe, y_ln, y_lt, y_lf, y_le, y_mt, y_mf, y_me, y_mn, y_told, y_non, y_val, List.length_cons, List.length_nil, List.cons_append, List.nil_append, List.take_succ_cons, List.take_zero, Bool.false_eq_true, reduceIte, sz_lit, Nat.reduceAdd, Nat.reduceLeDiff, Nat.reduceLT, Nat.zero_add, o_ci, o_addI, o_sub, o_neg, o_int, o_intB, o_min, o_max, o_aug, o_lenL, o_lenT, o_tupL, o_tupT, o_listL, o_listT, o_s10L, o_s10T, o_s01L, o_s01T, o_s11L, o_s11T, o_eqI, o_neI, o_eqS, o_neS, o_isB, o_isNotB, o_isN, o_isNotN, u_dT, u_dF, u_non, u_bl, u_int, u_tup, u_lst, Bool.not_false]
end Vi

set_option Elab.async false
set_option linter.all false
set_option maxRecDepth 100000
set_option maxHeartbeats 1000000
/-! Vs5: == both ways; rows of numbers; what is shown of rows. -/
namespace Vi
open PySem PySem.Spec L2

theorem deq_comm {a b : D} : deq a b = deq b a := by
  unfold deq
  cases a.py <;> cases b.py <;> first | rfl | exact PySem.W.eqv_comm _ _
theorem ints_row (l : List Int) : ints? (l.map D.int) = some l := by
  induction l with
  | nil => rfl
  | cons i l ih =>
    show (match ints? (l.map D.int) with
      | some is => some (i :: is)
      | none => none) = _
    rw [ih]
theorem trus_map {bs : List Bool} : trus (bs.map D.bl) = some bs := by
  induction bs with
  | nil => rfl
  | cons b bs ih =>
    show (match (D.bl b).tru, trus (bs.map D.bl) with
      | some b, some bs => some (b :: bs)
      | _, _ => none) = _
    rw [ih]
    rfl
theorem bks_le {B : Nat} : ∀ {ds : List D}, (∀ d ∈ ds, d.bk ≤ B) → bks ds ≤ ds.length * (B + 1)
  | [], _ => Nat.zero_le _
  | d :: r, h => by
    have h1 := h d List.mem_cons_self
    have h2 := bks_le (B := B) (ds := r) fun x hx => h x (List.mem_cons_of_mem _ hx)
    show d.bk + 1 + bks r ≤ (r.length + 1) * (B + 1)
    rw [Nat.add_mul]
    omega
/-- what can be shown: small leaves, not too much, not too deep -/
structure Shw (d : D) (B n : Nat) : Prop where
  l : d.lf = true
  b : d.bk ≤ B
  d : d.dep ≤ n
theorem Shw.shw {d : D} {B n : Nat} (h : Shw d B n) (hB : B ≤ 2 ^ 20) (hn : n ≤ 64) : ∃ s, d.shw = some s := shw_ok h.l (Nat.le_trans h.b hB) (Nat.le_trans h.d hn)
theorem Shw.cmp {d : D} {B n : Nat} (h : Shw d B n) (hn : n ≤ 64) : d.cmp = true := by
  show (d.lf && decide (d.dep ≤ 64)) = true
  rw [h.l, decide_eq_true (Nat.le_trans h.d hn)]
  rfl
theorem Shw.int {i : Int} (h : i.natAbs < 10 ^ 12) : Shw (.int i) 0 0 := ⟨decide_eq_true h, Nat.le_refl _, Nat.le_refl _⟩
theorem Shw.bl {b : Bool} : Shw (.bl b) 0 0 := ⟨rfl, Nat.le_refl _, Nat.le_refl _⟩
theorem Shw.non : Shw .non 0 0 := ⟨rfl, Nat.le_refl _, Nat.le_refl _⟩
theorem Shw.mono {d : D} {B n B' n' : Nat} (h : Shw d B n) (hB : B ≤ B') (hn : n ≤ n') : Shw d B' n' := ⟨h.l, Nat.le_trans h.b hB, Nat.le_trans h.d hn⟩
theorem Shw.tup {ds : List D} {B n L : Nat} (hl : ds.length ≤ L) (h : ∀ d ∈ ds, Shw d B n) : Shw (.tup ds) (L * (B + 1)) (n + 1) := by
  refine ⟨?_, ?_, ?_⟩
  · show lfs ds = true
    rw [lfs_all, List.all_eq_true]
    exact fun d hd => (h d hd).l
  · exact Nat.le_trans (bks_le fun d hd => (h d hd).b) (Nat.mul_le_mul hl (Nat.le_refl _))
  · exact Nat.succ_le_succ (deps_le fun d hd => (h d hd).d)
theorem Shw.lst {ds : List D} {B n L : Nat} (hl : ds.length ≤ L) (h : ∀ d ∈ ds, Shw d B n) : Shw (.lst ds) (L * (B + 1)) (n + 1) := by
  obtain ⟨a, b, c⟩ := Shw.tup (L := L) hl h
  exact ⟨a, b, c⟩
theorem Shw.mem {ds : List D} {B n : Nat} {d : D} (h : Shw (.tup ds) B (n + 1)) (m : d ∈ ds) : Shw d B n := by
  refine ⟨lfs_mem h.l m, ?_, ?_⟩
  · have q : ∀ {ds : List D}, d ∈ ds → d.bk ≤ bks ds := by
      intro ds
      induction ds with
      | nil => intro m; cases m
      | cons x r ih =>
        intro m
        show d.bk ≤ x.bk + 1 + bks r
        rcases List.mem_cons.mp m with rfl | m
        · omega
        · have := ih m
          omega
    exact Nat.le_trans (q m) h.b
  · have := dep_mem m
    have h2 : deps ds + 1 ≤ n + 1 := h.d
    omega
/-- showing the same twice -/
theorem ne_str {s : Str} : fNe [.str s, .str s] = some (.v (.bl false)) := by
  show some (O.v (.bl (!decide (s = s)))) = _
  rw [decide_eq_true rfl]
  rfl
theorem eq_int {i : Int} : fNe [.int i, .int i] = some (.v (.bl false)) := by
  show some (O.v (.bl (!decide (i = i)))) = _
  rw [decide_eq_true rfl]
  rfl
end Vi

set_option Elab.async false
set_option linter.all false
set_option maxRecDepth 100000
set_option maxHeartbeats 1000000
/-! Vm7: pens as they go from draw to draw; loops over ranges. -/
namespace Vi
open PySem PySem.Spec L2

structure PS where
  a : Int
  d : Int
  c : Int
  f : Int
def pO (cs : List Int) (s : PS) : O := penO cs s.a s.d s.c s.f
/-- at most n draws so far -/
structure PenG (cs : List Int) (n : Int) (s : PS) : Prop where
  ok : PenOk cs s.a s.d s.c s.f
  le : s.c ≤ n
/-- the numbers a law's draws go by -/
structure PenC (A N B C : Int) : Prop where
  hA : small64 A = true
  hN : 0 < N ∧ N < 2147483648
  hB : 0 ≤ B ∧ B < 1000000
  hC : 0 ≤ C ∧ C < 1000000
section
variable {A N B C : Int} {cs : List Int} {n : Int} {s : PS} {many : Int} {p : Bool} {xs : List D}
theorem PenG.mono {n' : Int} (g : PenG cs n s) (h : n ≤ n') : PenG cs n' s := ⟨g.ok, Int.le_trans g.le h⟩
theorem draw_g (p : Bool) (pc : PenC A N B C) (g : PenG cs n s) (hn : n < 1000000000) (h1 : 1 ≤ many) (h2 : many < 1073741824) : ∃ r s', 0 ≤ r ∧ r < many ∧ PenG cs (n + 1) s' ∧ vFn 2 3 (drawB A N B C) [⟨true, some (pO cs s)⟩, ⟨p, some (.v (.int many))⟩] = re (.v (.int r)) [⟨true, some (pO cs s')⟩, ⟨p, some (.v (.int many))⟩] := by
  obtain ⟨r, a', d', f', r0, r1, po, e⟩ := draw_ok (many := many) (p := p) pc.hA pc.hN pc.hB pc.hC g.ok (Int.lt_of_le_of_lt g.le hn) h1 h2
  exact ⟨r, ⟨a', d', s.c + 1, f'⟩, r0, r1, ⟨po, by have := g.le; show s.c + 1 ≤ n + 1; omega⟩, e⟩
theorem pick_g (p : Bool) (pc : PenC A N B C) (g : PenG cs n s) (hn : n < 1000000000) (h1 : 1 ≤ xs.length) (h2 : xs.length < 1073741824) : ∃ x s', x ∈ xs ∧ PenG cs (n + 1) s' ∧ vFn 2 0 (pickB (vFn 2 3 (drawB A N B C))) [⟨true, some (pO cs s)⟩, ⟨p, some (.l xs)⟩] = re (.v x) [⟨true, some (pO cs s')⟩, ⟨p, some (.l xs)⟩] := by
  obtain ⟨x, a', d', f', hx, po, e⟩ := pick_ok (p := p) pc.hA pc.hN pc.hB pc.hC g.ok (Int.lt_of_le_of_lt g.le hn) h1 h2
  exact ⟨x, ⟨a', d', s.c + 1, f'⟩, hx, ⟨po, by have := g.le; show s.c + 1 ≤ n + 1; omega⟩, e⟩
theorem pen_g {A N : Int} (hA : small64 A = true) (hN : 0 < N ∧ N < 2147483648) (p : Bool) (ns : List Int) : ∃ s, PenG ns 0 s ∧ vFn 1 2 (penB A N) [⟨p, some (.v (.lst (ns.map .int)))⟩] = re (pO ns s) [⟨p, some (.v (.lst (ns.map .int)))⟩] := by
  obtain ⟨f, po, e⟩ := pen_ok hA hN (p := p) ns
  exact ⟨⟨0, 0, 0, f⟩, ⟨po, Int.le_refl _⟩, e⟩
theorem l_pen {i : Nat} {e : Vn} {rs : List Lr} : lS i rs e (some ⟨p, some (pO cs s)⟩) = lC ⟨true, some (pO cs s)⟩ (lend (e.set i ⟨p, none⟩) rs) := rfl
end
/-! loops over ranges -/
theorem rng_cons {lo c : Int} {n : Nat} : rng lo (n + 1) c = .int lo :: rng (lo + c) n c := by
  unfold rng
  rw [List.range_succ_eq_map, List.map_cons, List.map_map]
  congr 1
  · congr 1
    simp
  · apply List.map_congr_left
    intro i _
    show D.int (lo + ((i + 1 : Nat) : Int) * c) = D.int (lo + c + (i : Int) * c)
    congr 1
    rw [Int.natCast_add, Int.add_mul]
    simp [Int.add_assoc, Int.add_comm, Int.add_left_comm]
theorem goFor_rngA {t : D → Vn → Option Vn} {b : Vn → M (Fl × Vn)} {I : Nat → Vn → Prop} : ∀ (n j : Nat), (∀ i, j ≤ i → i < j + n → ∀ env, I i env → ∃ e1 e2, t (.int (i : Int)) env = some e1 ∧ (b e1 = some (.ok (.nx, e2)) ∨ b e1 = some (.ok (.ct, e2))) ∧ I (i + 1) e2) → ∀ env, I j env → ∃ env', goFor t b (rng (j : Int) n 1) env = some (.ok (.nx, env')) ∧ I (j + n) env'
  | 0, j, _, env, h => ⟨env, rfl, h⟩
  | n + 1, j, st, env, h => by
    obtain ⟨e1, e2, h1, h2, h3⟩ := st j (Nat.le_refl _) (by omega) env h
    obtain ⟨env', q1, q2⟩ := goFor_rngA n (j + 1) (fun i hi hi2 => st i (by omega) (by omega)) e2 h3
    refine ⟨env', ?_, by rw [show j + (n + 1) = j + 1 + n by omega]; exact q2⟩
    rw [rng_cons, f_cons, h1, f_1]
    have q1' : goFor t b (rng ((j : Int) + 1) n 1) e2 = some (.ok (.nx, env')) := q1
    rcases h2 with h2 | h2
    · rw [h2]
      exact q1'
    · rw [h2]
      exact q1'
/-- for k in range(n): what stands ahead of each turn -/
theorem goFor_rng {t : D → Vn → Option Vn} {b : Vn → M (Fl × Vn)} (I : Nat → Vn → Prop) (n : Nat) (st : ∀ i, i < n → ∀ env, I i env → ∃ e1 e2, t (.int (i : Int)) env = some e1 ∧ (b e1 = some (.ok (.nx, e2)) ∨ b e1 = some (.ok (.ct, e2))) ∧ I (i + 1) e2) (env : Vn) (h : I 0 env) : ∃ env', goFor t b (rng 0 n 1) env = some (.ok (.nx, env')) ∧ I n env' := by
  have := goFor_rngA (t := t) (b := b) (I := I) n 0 (fun i _ hi => st i (by omega)) env h
  rwa [Nat.zero_add] at this
/-- .. with the last thing that each turn does given -/
theorem goFor_idx {t : D → Vn → Option Vn} {b : Vn → M (Fl × Vn)} (I : Nat → Vn → Prop) : ∀ (ds : List D) (j : Nat), (∀ i d, ds[i]? = some d → ∀ env, I (j + i) env → ∃ e1 e2, t d env = some e1 ∧ (b e1 = some (.ok (.nx, e2)) ∨ b e1 = some (.ok (.ct, e2))) ∧ I (j + i + 1) e2) → ∀ env, I j env → ∃ env', goFor t b ds env = some (.ok (.nx, env')) ∧ I (j + ds.length) env'
  | [], j, _, env, h => ⟨env, rfl, h⟩
  | d :: ds, j, st, env, h => by
    obtain ⟨e1, e2, h1, h2, h3⟩ := st 0 d rfl env h
    obtain ⟨env', q1, q2⟩ := goFor_idx I ds (j + 1) (fun i x hx env hi => by
      have := st (i + 1) x hx env (by rw [show j + (i + 1) = j + 1 + i by omega]; exact hi)
      rwa [show j + (i + 1) = j + 1 + i by omega] at this) e2 h3
    refine ⟨env', ?_, by rw [List.length_cons, show j + (ds.length + 1) = j + 1 + ds.length by omega]; exact q2⟩
    rw [f_cons, h1, f_1]
    rcases h2 with h2 | h2
    · rw [h2]
      exact q1
    · rw [h2]
      exact q1
end Vi

set_option Elab.async false
set_option linter.all false
set_option maxRecDepth 100000
set_option maxHeartbeats 4000000
/-! printed by drive.py: what the defs of the law do -/
namespace Lw
open PySem PySem.Spec L2 Vi
open PyProof.Rows hiding St
def subL : List ((Nat × Nat) × Bool) := [((7, 0), true), ((7, 1), false), ((7, 2), false), ((7, 3), false), ((7, 4), false), ((7, 5), false), ((7, 6), false), ((7, 7), true), ((7, 8), false), ((7, 9), false)]
abbrev subs : Nat → Nat → Option Bool := subOf subL
def ks__law_error : List Cle := [⟨6, true, true, [.str "gates", .fld "gates"]⟩, ⟨7, true, true, [.str "layers", .fld "layers"]⟩, ⟨4, true, true, [.str "program", .fld "program"]⟩, ⟨5, true, true, [.str "inputs", .fld "inputs"]⟩, ⟨8, true, true, [.str "receipt", .fld "receipt"]⟩, ⟨2, true, true, [.str "number", .fld "what", .fld "number"]⟩, ⟨3, true, true, [.str "name", .fld "name"]⟩, ⟨1, true, true, [.str "text", .fld "line", .fld "column"]⟩, ⟨9, true, true, [.str "not", .fld "promise", .fld "witness"]⟩, ⟨0, false, true, [.str "other"]⟩]
abbrev md__law_error : Md := .told "told"
def accL : List (Nat × List Str) := [(10, [("prime" : Str), ("layers" : Str), ("inputs" : Str), ("outputs" : Str), ("letters" : Str)])]
abbrev acc : Nat → Str → Bool := accOf accL
def fs_BadText : List Str := ["line", "column"]
def fs_BadNumber : List Str := ["what", "number"]
def fs_BadName : List Str := ["name"]
def fs_BadProgram : List Str := ["program"]
def fs_BadInputs : List Str := ["inputs"]
def fs_BadGates : List Str := ["gates"]
def fs_BadLayers : List Str := ["layers"]
def fs_BadReceipt : List Str := ["receipt"]
def fs_NotKept : List Str := ["promise", "witness"]
abbrev tab_Layers : Tg → Option Bool := tabC [10] 10
def c_KINDS : D := .tup [(.str "add"), (.str "mul"), (.str "keep"), (.str "put")]
def lq (x : Str) : Str := x ++ ".<locals>.<lambda>"
def b_is_whole : Vn → M (Fl × Vn) := (vRt (vAnd (vOp (fIsi tabInt) (vSl 0 vNil)) (vNot (vEx (vOp (fIsi tabBl) (vSl 0 vNil)) vNil))))
def v_is_whole : Vn → M (O × Vn) := vFn 1 0 b_is_whole
def b_is_count : Vn → M (Fl × Vn) := (vRt (vAnd (vCall v_is_whole (vSl 0 vNil)) (vOp (fCI fun a b => decide (b ≤ a)) (vSl 0 (vEx (vLit (.int 0)) vNil)))))
def v_is_count : Vn → M (O × Vn) := vFn 1 0 b_is_count
def fuel_is_prime : Nat := 10 ^ 9
def b_is_prime : Vn → M (Fl × Vn) := (vThen (vIfS (vOrT (vNotT (vTr (vEx (vCall v_is_count (vSl 0 vNil)) vNil))) (vOrT (vNotT (vB (vChain (fun a b => decide (a ≤ b)) (fun a b => decide (a ≤ b)) (vLit (.int 5)) (vRd 0) (vLit (.int 999999937))))) (vOrT (vB (vOp fEq (vEx (vOp fMod (vSl 0 (vEx (vLit (.int 2)) vNil))) (vEx (vLit (.int 0)) vNil)))) (vB (vOp fEq (vEx (vOp fMod (vSl 0 (vEx (vLit (.int 3)) vNil))) (vEx (vLit (.int 0)) vNil))))))) (vRt (vLit (.bl false))) vNx) (vThen (vSet 1 (vLit (.int 5))) (vThen (goWhile (vB (vOp (fCI fun a b => decide (a ≤ b)) (vEx (vOp fMul (vSl 1 (vSl 1 vNil))) (vSl 0 vNil)))) (vThen (vIfS (vOrT (vB (vOp fEq (vEx (vOp fMod (vSl 0 (vSl 1 vNil))) (vEx (vLit (.int 0)) vNil)))) (vB (vOp fEq (vEx (vOp fMod (vSl 0 (vEx (vOp fAdd (vSl 1 (vEx (vLit (.int 2)) vNil))) vNil))) (vEx (vLit (.int 0)) vNil))))) (vRt (vLit (.bl false))) vNx) (vAug 1 fAugAdd (vLit (.int 6)))) fuel_is_prime) (vRt (vLit (.bl true))))))
def v_is_prime : Vn → M (O × Vn) := vFn 1 1 b_is_prime
def b_is_rest_in : Vn → M (Fl × Vn) := (vRt (vAnd (vCall v_is_count (vSl 1 vNil)) (vOp (fCI fun a b => decide (a < b)) (vSl 1 (vSl 0 vNil)))))
def v_is_rest_in : Vn → M (O × Vn) := vFn 2 0 b_is_rest_in
def fuel_letters_in : Nat := 10 ^ 9
def b_letters_in : Vn → M (Fl × Vn) := (vThen (vAsg (vTup (vEx (vLit (.int 0)) (vEx (vLit (.int 1)) vNil))) (tgTup (tgCons (tgName 1) (tgCons (tgName 2) tgNil)))) (vThen (goWhile (vB (vOp (fCI fun a b => decide (a < b)) (vSl 2 (vSl 0 vNil)))) (vPar 1 2 (vEx (vOp fAdd (vSl 1 (vEx (vLit (.int 1)) vNil))) (vEx (vOp fMul (vEx (vLit (.int 2)) (vSl 2 vNil))) vNil))) fuel_letters_in) (vRt (vMv 1))))
def v_letters_in : Vn → M (O × Vn) := vFn 1 2 b_letters_in
def b_is_layer_gate : Vn → M (Fl × Vn) := (vThen (vIfS (vOrT (vNotT (vTr (vEx (vOp (fIsi tabTup) (vSl 1 vNil)) vNil))) (vOrT (vNotT (vTr (vSl 1 vNil))) (vOrT (vNotT (vTr (vEx (vOp (fIsi tabStr) (vEx (vOp fIx (vSl 1 (vEx (vLit (.int 0)) vNil))) vNil)) vNil))) (vB (vOp fNotIn (vEx (vOp fIx (vSl 1 (vEx (vLit (.int 0)) vNil))) (vEx (vLit c_KINDS) vNil))))))) (vRt (vLit (.bl false))) vNx) (vThen (vIfS (vB (vOp fEq (vEx (vOp fIx (vSl 1 (vEx (vLit (.int 0)) vNil))) (vEx (vLit (.str "put")) vNil)))) (vRt (vAnd (vOp fEq (vEx (vOp fLen (vSl 1 vNil)) (vEx (vLit (.int 2)) vNil))) (vCall v_is_rest_in (vSl 0 (vEx (vOp fIx (vSl 1 (vEx (vLit (.int 1)) vNil))) vNil))))) vNx) (vThen (vIfS (vB (vOp fNe (vEx (vOp fLen (vSl 1 vNil)) (vEx (vIf (vB (vOp fEq (vEx (vOp fIx (vSl 1 (vEx (vLit (.int 0)) vNil))) (vEx (vLit (.str "keep")) vNil)))) (vLit (.int 2)) (vLit (.int 3))) vNil)))) (vRt (vLit (.bl false))) vNx) (vRt (vOp fAllM (vEx (vLc [3] (vSeq (vOp fS10 (vSl 1 (vExI (vLit (.int 1)) vNil)))) (tgName 3) vYes (vAnd (vCall v_is_count (vSl 3 vNil)) (vOp (fCI fun a b => decide (a < b)) (vSl 3 (vSl 2 vNil))))) vNil))))))
def v_is_layer_gate : Vn → M (O × Vn) := vFn 3 1 b_is_layer_gate
def b_are_layers : Vn → M (Fl × Vn) := (vThen (vIfS (vOrT (vNotT (vTr (vEx (vCall v_is_prime (vSl 0 vNil)) vNil))) (vNotT (vTr (vEx (vOp fAllM (vEx (vLc [5] (vSeq (vTup (vEx (vRd 2) (vEx (vRd 3) vNil)))) (tgName 5) vYes (vAnd (vCall v_is_count (vSl 5 vNil)) (vOp (fCI fun a b => decide (b < a)) (vSl 5 (vEx (vLit (.int 0)) vNil))))) vNil)) vNil)))) (vRt (vLit (.bl false))) vNx) (vThen (vIfS (vOrT (vNotT (vTr (vEx (vOp (fIsi tabTup) (vSl 1 vNil)) vNil))) (vNotT (vTr (vSl 1 vNil)))) (vRt (vLit (.bl false))) vNx) (vThen (vIfS (vOrT (vNotT (vTr (vEx (vOp fAllM (vEx (vLc [6] (vSeq (vRd 1)) (tgName 6) vYes (vAnd (vOp (fIsi tabTup) (vSl 6 vNil)) (vRd 6))) vNil)) vNil))) (vB (vOp (fCI fun a b => decide (b < a)) (vSl 3 (vEx (vOp fLen (vEx (vOp fIx (vSl 1 (vEx (vLit (.int 0)) vNil))) vNil)) vNil))))) (vRt (vLit (.bl false))) vNx) (vThen (vSet 4 (vOp fAdd (vEx (vLc [6] (vSeq (vOp fS10 (vSl 1 (vExI (vLit (.int 1)) vNil)))) (tgName 6) vYes (vFz (vOp fLen (vSl 6 vNil)))) (vEx (vLst (vEx (vRd 2) vNil)) vNil)))) (vRt (vOp fAllM (vEx (vLc2 [6, 7, 8] [8] (vSrc sZipK (vEx (vRd 1) (vEx (vRd 4) vNil))) (tgTup (tgCons (tgName 6) (tgCons (tgName 7) tgNil))) vYes (vSeq (vRd 6)) (tgName 8) vYes (vFz (vCall v_is_layer_gate (vSl 0 (vSl 8 (vSl 7 vNil)))))) vNil)))))))
def v_are_layers : Vn → M (O × Vn) := vFn 4 5 b_are_layers
def b_Layers : Vn → M (Fl × Vn) := (vThen (vIfS (vNotT (vTr (vEx (vCall v_are_layers (vSl 1 (vSl 2 (vSl 3 (vSl 4 vNil))))) vNil))) (vRaise 7 fs_BadLayers (vEx (vTup (vEx (vRd 1) (vEx (vRd 2) (vEx (vRd 3) (vEx (vRd 4) vNil))))) vNil)) vNx) (vThen (vFs acc 0 "prime" (vRd 1)) (vThen (vFs acc 0 "layers" (vRd 2)) (vThen (vFs acc 0 "inputs" (vRd 3)) (vThen (vFs acc 0 "outputs" (vRd 4)) (vFs acc 0 "letters" (vOp fTuple (vEx (vOp fAdd (vEx (vLc [5] (vSeq (vRd 2)) (tgName 5) vYes (vFz (vCall v_letters_in (vEx (vOp fLen (vSl 5 vNil)) vNil)))) (vEx (vLst (vEx (vFz (vCall v_letters_in (vSl 3 vNil))) vNil)) vNil))) vNil))))))))
def v_Layers : Vn → M (O × Vn) := vFn 5 1 b_Layers
def b_is_layers : Vn → M (Fl × Vn) := (vRt (vOp (fIsi tab_Layers) (vSl 0 vNil)))
def v_is_layers : Vn → M (O × Vn) := vFn 1 0 b_is_layers
def b_need_layers : Vn → M (Fl × Vn) := (vIfS (vNotT (vTr (vEx (vCall v_is_layers (vSl 0 vNil)) vNil))) (vRaise 7 fs_BadLayers (vEx (vRd 0) vNil)) vNx)
def v_need_layers : Vn → M (O × Vn) := vFn 1 0 b_need_layers
def b_layers_told : Vn → M (Fl × Vn) := (vRt (vTup (vEx (vAt acc "prime" (vSl 0 vNil)) (vEx (vAt acc "layers" (vSl 0 vNil)) (vEx (vAt acc "inputs" (vSl 0 vNil)) (vEx (vAt acc "outputs" (vSl 0 vNil)) vNil))))))
def v_layers_told : Vn → M (O × Vn) := vFn 1 0 b_layers_told
def b_same_layers : Vn → M (Fl × Vn) := (vThen (vDrop (vCall v_need_layers (vSl 0 vNil))) (vThen (vDrop (vCall v_need_layers (vSl 1 vNil))) (vRt (vOp fEq (vEx (vCall v_layers_told (vSl 0 vNil)) (vEx (vCall v_layers_told (vSl 1 vNil)) vNil))))))
def v_same_layers : Vn → M (O × Vn) := vFn 2 0 b_same_layers
def b_of_kind : Vn → M (Fl × Vn) := (vRt (vLc [2] (vSeq (vRd 0)) (tgName 2) (vB (vOp fEq (vEx (vOp fIx (vSl 2 (vEx (vLit (.int 0)) vNil))) (vSl 1 vNil)))) (vRd 2)))
def v_of_kind : Vn → M (O × Vn) := vFn 2 1 b_of_kind
def b_kind_counts : Vn → M (Fl × Vn) := (vThen (vDrop (vCall v_need_layers (vSl 0 vNil))) (vRt (vOp fTuple (vEx (vLc [1] (vSeq (vAt acc "layers" (vSl 0 vNil))) (tgName 1) vYes (vFz (vOp fTuple (vEx (vLc [2] (vSeq (vLit c_KINDS)) (tgName 2) vYes (vFz (vOp fLen (vEx (vCall v_of_kind (vSl 1 (vSl 2 vNil))) vNil)))) vNil)))) vNil))))
def v_kind_counts : Vn → M (O × Vn) := vFn 1 2 b_kind_counts
def b_draw_count : Vn → M (Fl × Vn) := (vThen (vDrop (vCall v_need_layers (vSl 0 vNil))) (vRt (vOp fAdd (vEx (vOp fIx (vEx (vAt acc "letters" (vSl 0 vNil)) (vEx (vLit (.int 0)) vNil))) (vEx (vOp fSum (vEx (vLc [1] (vSeq (vOp fS10 (vEx (vAt acc "letters" (vSl 0 vNil)) (vExI (vLit (.int 1)) vNil)))) (tgName 1) vYes (vFz (vOp fAdd (vEx (vOp fMul (vEx (vLit (.int 2)) (vSl 1 vNil))) (vEx (vLit (.int 1)) vNil))))) vNil)) vNil)))))
def v_draw_count : Vn → M (O × Vn) := vFn 1 1 b_draw_count
def b__law_new_layers : Vn → M (Fl × Vn) := (vThen (vAsg (vRd 0) (tgTup (tgCons (tgName 1) (tgCons (tgName 2) (tgCons (tgName 3) (tgCons (tgName 4) tgNil)))))) (vRt (vFz (vMake 10 v_Layers (vSl 1 (vSl 2 (vSl 3 (vSl 4 vNil))))))))
def v__law_new_layers : Vn → M (O × Vn) := vFn 1 4 b__law_new_layers
def b__law_ask_layers : Vn → M (Fl × Vn) := (vThen (vAsg (vRd 0) (tgTup (tgCons (tgName 1) (tgCons (tgName 2) (tgCons (tgName 3) (tgCons (tgName 4) tgNil)))))) (vRt (vCall v_are_layers (vSl 1 (vSl 2 (vSl 3 (vSl 4 vNil)))))))
def v__law_ask_layers : Vn → M (O × Vn) := vFn 1 4 b__law_ask_layers
def b__law_pen : Vn → M (Fl × Vn) := (vThen (vSet 1 (vLit (.int 0))) (vThen (vFor (vSeq (vRd 0)) (tgName 2) (vSet 1 (vOp fMod (vEx (vOp fInt (vEx (vOp fAdd (vEx (vOp fMul (vSl 1 (vEx (vLit (.int 151)) vNil))) (vSl 2 vNil))) vNil)) (vEx (vLit (.int 1000001501)) vNil))))) (vRt (vDisp [(.inr "cells", (vFz (vOp fList (vSl 0 vNil)))), (.inr "at", (vLit (.int 0))), (.inr "digits", (vLit (.int 0))), (.inr "count", (vLit (.int 0))), (.inr "fold", (vRd 1))]))))
def v__law_pen : Vn → M (O × Vn) := vFn 1 2 b__law_pen
def b__law_draw : Vn → M (Fl × Vn) := (vThen (vPut 0 sPut (vFz (vOp fAdd (vEx (vOp fIx (vSl 0 (vEx (vLit (.str "count")) vNil))) (vEx (vLit (.int 1)) vNil)))) (vLit (.str "count"))) (vThen (vIfS (vAndT (vB (vOp fEq (vEx (vOp fIx (vSl 0 (vEx (vLit (.str "digits")) vNil))) (vEx (vLit (.int 0)) vNil)))) (vB (vOp (fCI fun a b => decide (a < b)) (vEx (vOp fIx (vSl 0 (vEx (vLit (.str "at")) vNil))) (vEx (vOp fLen (vEx (vOp fIx (vSl 0 (vEx (vLit (.str "cells")) vNil))) vNil)) vNil))))) (vThen (vSet 2 (vOp fIx (vEx (vOp fIx (vSl 0 (vEx (vLit (.str "cells")) vNil))) (vEx (vOp fIx (vSl 0 (vEx (vLit (.str "at")) vNil))) vNil)))) (vThen (vPut 0 sPut (vFz (vOp fAdd (vEx (vOp fIx (vSl 0 (vEx (vLit (.str "at")) vNil))) (vEx (vLit (.int 1)) vNil)))) (vLit (.str "at"))) (vIfS (vB (vOp (fCI fun a b => decide (b ≤ a)) (vSl 2 (vEx (vOp fPow (vEx (vLit (.int 10)) (vEx (vLit (.int 18)) vNil))) vNil)))) (vPut 0 sPut (vFz (vOp fSub (vSl 2 (vEx (vOp fPow (vEx (vLit (.int 10)) (vEx (vLit (.int 18)) vNil))) vNil)))) (vLit (.str "digits"))) (vPut 0 sPut (vFz (vOp fMod (vEx (vOp fInt (vEx (vOp fAdd (vEx (vOp fMul (vEx (vOp fIx (vSl 0 (vEx (vLit (.str "fold")) vNil))) (vEx (vLit (.int 75619)) vNil))) (vSl 2 vNil))) vNil)) (vEx (vLit (.int 2147483543)) vNil)))) (vLit (.str "fold")))))) vNx) (vThen (vIfS (vB (vOp (fCI fun a b => decide (b < a)) (vEx (vOp fIx (vSl 0 (vEx (vLit (.str "digits")) vNil))) (vEx (vLit (.int 0)) vNil)))) (vThen (vSet 3 (vOp fMod (vEx (vOp fInt (vEx (vOp fIx (vSl 0 (vEx (vLit (.str "digits")) vNil))) vNil)) (vSl 1 vNil)))) (vThen (vPut 0 sPut (vFz (vOp fDiv (vEx (vOp fIx (vSl 0 (vEx (vLit (.str "digits")) vNil))) (vSl 1 vNil)))) (vLit (.str "digits"))) (vRt (vMv 3)))) vNx) (vThen (vSet 4 (vOp fAdd (vEx (vOp fAdd (vEx (vOp fIx (vSl 0 (vEx (vLit (.str "fold")) vNil))) (vEx (vOp fMul (vEx (vOp fIx (vSl 0 (vEx (vLit (.str "count")) vNil))) (vEx (vLit (.int 9613)) vNil))) vNil))) (vEx (vLit (.int 151)) vNil)))) (vRt (vOp fMod (vEx (vOp fDiv (vEx (vOp fInt (vEx (vOp fMod (vEx (vOp fPow (vSl 4 (vEx (vLit (.int 23)) vNil))) (vEx (vLit (.int 2305843009213693951)) vNil))) vNil)) (vEx (vLit (.int 128)) vNil))) (vSl 1 vNil))))))))
def v__law_draw : Vn → M (O × Vn) := vFn 2 3 b__law_draw
def b__law_pick : Vn → M (Fl × Vn) := (vRt (vOp fIx (vSl 1 (vEx (vCall v__law_draw (vSl 0 (vEx (vOp fLen (vSl 1 vNil)) vNil))) vNil))))
def v__law_pick : Vn → M (O × Vn) := vFn 2 0 b__law_pick
def b__law_layers : Vn → M (Fl × Vn) := (vThen (vPar 3 4 (vEx (vCall v__law_pick (vSl 0 (vEx (vLst (vEx (vLit (.int 5)) (vEx (vLit (.int 7)) (vEx (vLit (.int 11)) (vEx (vLit (.int 101)) (vEx (vLit (.int 65537)) (vEx (vLit (.int 999999937)) vNil))))))) vNil))) (vEx (vLst vNil) vNil))) (vThen (vFor (vSrc sR1 (vEx (vFz (vOp fAdd (vEx (vLit (.int 2)) (vEx (vCall v__law_draw (vSl 0 (vSl 1 vNil))) vNil)))) vNil)) (tgName 5) (vDrop (vMt 4 mAppend (vEx (vFz (vOp fAdd (vEx (vLit (.int 1)) (vEx (vCall v__law_draw (vSl 0 (vSl 2 vNil))) vNil)))) vNil)))) (vThen (vSet 6 (vLst vNil)) (vThen (vFor (vSrc sR1 (vEx (vFz (vOp fSub (vEx (vOp fLen (vSl 4 vNil)) (vEx (vLit (.int 1)) vNil)))) vNil)) (tgName 5) (vThen (vPar 7 8 (vEx (vOp fIx (vSl 4 (vEx (vOp fAdd (vSl 5 (vEx (vLit (.int 1)) vNil))) vNil))) (vEx (vLst vNil) vNil))) (vThen (vFor (vSrc sR1 (vEx (vOp fIx (vSl 4 (vSl 5 vNil))) vNil)) (tgName 9) (vThen (vSet 10 (vTup (vEx (vFz (vCall v__law_draw (vSl 0 (vSl 7 vNil)))) (vEx (vFz (vCall v__law_draw (vSl 0 (vSl 7 vNil)))) vNil)))) (vThen (vSet 11 (vLst (vEx (vFz (vOp fAdd (vEx (vTup (vEx (vLit (.str "add")) vNil)) (vSl 10 vNil)))) (vEx (vFz (vOp fAdd (vEx (vTup (vEx (vLit (.str "mul")) vNil)) (vSl 10 vNil)))) (vEx (vTup (vEx (vLit (.str "keep")) (vEx (vOp fIx (vSl 10 (vEx (vLit (.int 0)) vNil))) vNil))) vNil))))) (vDrop (vMt 8 mAppend (vEx (vFz (vCall v__law_pick (vSl 0 (vEx (vOp fAdd (vSl 11 (vEx (vLst (vEx (vTup (vEx (vLit (.str "put")) (vEx (vFz (vCall v__law_pick (vSl 0 (vEx (vLst (vEx (vLit (.int 0)) (vEx (vLit (.int 1)) (vEx (vFz (vCall v__law_draw (vSl 0 (vSl 3 vNil)))) vNil)))) vNil)))) vNil))) vNil)) vNil))) vNil)))) vNil)))))) (vDrop (vMt 6 mAppend (vEx (vFz (vOp fTuple (vSl 8 vNil))) vNil)))))) (vRt (vTup (vEx (vRd 3) (vEx (vFz (vOp fTuple (vSl 6 vNil))) (vEx (vOp fIx (vSl 4 (vEx (vOp fNeg (vEx (vLit (.int 1)) vNil)) vNil))) (vEx (vFz (vOp fAdd (vEx (vLit (.int 1)) (vEx (vCall v__law_draw (vSl 0 (vEx (vOp fIx (vSl 4 (vEx (vLit (.int 0)) vNil))) vNil))) vNil)))) vNil))))))))))
def v__law_layers : Vn → M (O × Vn) := vFn 3 9 b__law_layers
def b__law_is_number : Vn → M (Fl × Vn) := (vRt (vAnd (vOp (fIsi tabInt) (vSl 0 vNil)) (vAnd (vNot (vEx (vOp (fIsi tabBl) (vSl 0 vNil)) vNil)) (vChain (fun a b => decide (a ≤ b)) (fun a b => decide (a < b)) (vLit (.int 0)) (vRd 0) (vRd 1)))))
def v__law_is_number : Vn → M (O × Vn) := vFn 2 0 b__law_is_number
def b__law_is_gate : Vn → M (Fl × Vn) := (vThen (vIfS (vOrT (vNotT (vTr (vEx (vOp (fIsi tabTup) (vSl 1 vNil)) vNil))) (vOrT (vB (vOp (fCI fun a b => decide (a < b)) (vEx (vOp fLen (vSl 1 vNil)) (vEx (vLit (.int 2)) vNil)))) (vB (vOp fNotIn (vEx (vOp fIx (vSl 1 (vEx (vLit (.int 0)) vNil))) (vEx (vTup (vEx (vLit (.str "add")) (vEx (vLit (.str "mul")) (vEx (vLit (.str "keep")) (vEx (vLit (.str "put")) vNil))))) vNil)))))) (vRt (vLit (.bl false))) vNx) (vThen (vIfS (vB (vOp fEq (vEx (vOp fIx (vSl 1 (vEx (vLit (.int 0)) vNil))) (vEx (vLit (.str "put")) vNil)))) (vRt (vAnd (vOp fEq (vEx (vOp fLen (vSl 1 vNil)) (vEx (vLit (.int 2)) vNil))) (vCall v__law_is_number (vEx (vOp fIx (vSl 1 (vEx (vLit (.int 1)) vNil))) (vSl 0 vNil))))) vNx) (vThen (vSet 3 (vIf (vB (vOp fEq (vEx (vOp fIx (vSl 1 (vEx (vLit (.int 0)) vNil))) (vEx (vLit (.str "keep")) vNil)))) (vLit (.int 2)) (vLit (.int 3)))) (vRt (vAnd (vOp fEq (vEx (vOp fLen (vSl 1 vNil)) (vSl 3 vNil))) (vOp fEq (vEx (vLc [4] (vSeq (vOp fS10 (vSl 1 (vExI (vLit (.int 1)) vNil)))) (tgName 4) (vNotT (vTr (vEx (vCall v__law_is_number (vSl 4 (vSl 2 vNil))) vNil))) (vLit (.int 1))) (vEx (vLst vNil) vNil))))))))
def v__law_is_gate : Vn → M (O × Vn) := vFn 3 2 b__law_is_gate
def b__law_are : Vn → M (Fl × Vn) := (vThen (vAsg (vRd 0) (tgTup (tgCons (tgName 1) (tgCons (tgName 2) (tgCons (tgName 3) (tgCons (tgName 4) tgNil)))))) (vThen (vIfS (vB (vOp fNotIn (vSl 1 (vEx (vLst (vEx (vLit (.int 5)) (vEx (vLit (.int 7)) (vEx (vLit (.int 11)) (vEx (vLit (.int 101)) (vEx (vLit (.int 65537)) (vEx (vLit (.int 999999937)) vNil))))))) vNil)))) (vRt (vLit (.bl false))) vNx) (vThen (vIfS (vB (vOp fNe (vEx (vLc [8] (vSeq (vTup (vEx (vRd 3) (vEx (vRd 4) vNil)))) (tgName 8) (vOrT (vNotT (vTr (vEx (vCall v__law_is_number (vSl 8 (vEx (vOp fPow (vEx (vLit (.int 10)) (vEx (vLit (.int 9)) vNil))) vNil))) vNil))) (vB (vOp fEq (vSl 8 (vEx (vLit (.int 0)) vNil))))) (vLit (.int 1))) (vEx (vLst vNil) vNil)))) (vRt (vLit (.bl false))) vNx) (vThen (vIfS (vOrT (vNotT (vTr (vEx (vOp (fIsi tabTup) (vSl 2 vNil)) vNil))) (vB (vOp fEq (vSl 2 (vEx (vTup vNil) vNil))))) (vRt (vLit (.bl false))) vNx) (vThen (vIfS (vOrT (vB (vOp fNe (vEx (vLc [6] (vSeq (vRd 2)) (tgName 6) (vOrT (vNotT (vTr (vEx (vOp (fIsi tabTup) (vSl 6 vNil)) vNil))) (vB (vOp fEq (vSl 6 (vEx (vTup vNil) vNil))))) (vRd 6)) (vEx (vLst vNil) vNil)))) (vB (vOp (fCI fun a b => decide (b < a)) (vSl 4 (vEx (vOp fLen (vEx (vOp fIx (vSl 2 (vEx (vLit (.int 0)) vNil))) vNil)) vNil))))) (vRt (vLit (.bl false))) vNx) (vThen (vSet 5 (vOp fAdd (vEx (vLc [6] (vSeq (vOp fS10 (vSl 2 (vExI (vLit (.int 1)) vNil)))) (tgName 6) vYes (vFz (vOp fLen (vSl 6 vNil)))) (vEx (vLst (vEx (vRd 3) vNil)) vNil)))) (vThen (vFor (vSrc sZipK (vEx (vRd 2) (vEx (vRd 5) vNil))) (tgTup (tgCons (tgName 6) (tgCons (tgName 7) tgNil))) (vIfS (vB (vOp fNe (vEx (vLc [9] (vSeq (vRd 6)) (tgName 9) (vNotT (vTr (vEx (vCall v__law_is_gate (vSl 1 (vSl 9 (vSl 7 vNil)))) vNil))) (vRd 9)) (vEx (vLst vNil) vNil)))) (vRt (vLit (.bl false))) vNx)) (vRt (vLit (.bl true))))))))))
def v__law_are : Vn → M (O × Vn) := vFn 1 9 b__law_are
def fuel__law_letters : Nat := 10 ^ 9
def b__law_letters : Vn → M (Fl × Vn) := (vThen (vAsg (vTup (vEx (vLit (.int 0)) (vEx (vLit (.int 1)) vNil))) (tgTup (tgCons (tgName 1) (tgCons (tgName 2) tgNil)))) (vThen (goWhile (vB (vOp (fCI fun a b => decide (a < b)) (vSl 2 (vSl 0 vNil)))) (vPar 1 2 (vEx (vOp fAdd (vSl 1 (vEx (vLit (.int 1)) vNil))) (vEx (vOp fMul (vEx (vLit (.int 2)) (vSl 2 vNil))) vNil))) fuel__law_letters) (vRt (vMv 1))))
def v__law_letters : Vn → M (O × Vn) := vFn 1 2 b__law_letters
def b__law_bent : Vn → M (Fl × Vn) := (vThen (vAsg (vRd 1) (tgTup (tgCons (tgName 2) (tgCons (tgName 3) (tgCons (tgName 4) (tgCons (tgName 5) tgNil)))))) (vThen (vSet 6 (vCall v__law_draw (vSl 0 (vEx (vOp fLen (vSl 3 vNil)) vNil)))) (vThen (vPar 7 8 (vEx (vCall v__law_draw (vSl 0 (vEx (vOp fLen (vEx (vOp fIx (vSl 3 (vSl 6 vNil))) vNil)) vNil))) (vEx (vOp fIx (vSl 3 (vSl 6 vNil))) vNil))) (vThen (vSet 9 (vIf (vB (vOp (fCI fun a b => decide (a < b)) (vEx (vOp fAdd (vSl 6 (vEx (vLit (.int 1)) vNil))) (vEx (vOp fLen (vSl 3 vNil)) vNil)))) (vOp fLen (vEx (vOp fIx (vSl 3 (vEx (vOp fAdd (vSl 6 (vEx (vLit (.int 1)) vNil))) vNil))) vNil)) (vRd 4))) (vThen (vSet 10 (vCall v__law_pick (vSl 0 (vEx (vLst (vEx (vTup (vEx (vLit (.str "put")) (vEx (vRd 2) vNil))) (vEx (vTup (vEx (vLit (.str "put")) (vEx (vOp fNeg (vEx (vLit (.int 1)) vNil)) vNil))) (vEx (vTup (vEx (vLit (.str "keep")) (vEx (vRd 9) vNil))) (vEx (vTup (vEx (vLit (.str "add")) (vEx (vLit (.int 0)) (vEx (vRd 9) vNil)))) (vEx (vTup (vEx (vLit (.str "mul")) (vEx (vLit (.bl true)) (vEx (vLit (.int 0)) vNil)))) (vEx (vTup (vEx (vLit (.str "keep")) (vEx (vLit (.int 0)) (vEx (vLit (.int 0)) vNil)))) vNil))))))) vNil)))) (vThen (vSet 10 (vCall v__law_pick (vSl 0 (vEx (vLst (vEx (vRd 10) (vEx (vLit .non) (vEx (vTup (vEx (vLit (.str "add")) (vEx (vLit (.int 0)) vNil))) (vEx (vTup (vEx (vLit (.str "put")) vNil)) (vEx (vTup vNil) (vEx (vFz (vLst (vEx (vLit (.str "keep")) (vEx (vLit (.int 0)) vNil)))) (vEx (vTup (vEx (vLit (.str "sub")) (vEx (vLit (.int 0)) (vEx (vLit (.int 0)) vNil)))) (vEx (vTup (vEx (vLit (.str "put")) (vEx (vLit (.int 0)) vNil))) (vEx (vLit (.str "keep")) vNil)))))))))) vNil)))) (vThen (vSet 11 (vRep (vLst (vEx (vTup (vEx (vRd 2) (vEx (vFz (vOp fAdd (vEx (vOp fAdd (vEx (vOp fS01 (vSl 3 (vExI (vRd 6) vNil))) (vEx (vTup (vEx (vFz (vOp fAdd (vEx (vOp fAdd (vEx (vOp fS01 (vSl 8 (vExI (vRd 7) vNil))) (vEx (vTup (vEx (vRd 10) vNil)) vNil))) (vEx (vOp fS10 (vSl 8 (vExI (vOp fAdd (vSl 7 (vEx (vLit (.int 1)) vNil))) vNil))) vNil)))) vNil)) vNil))) (vEx (vOp fS10 (vSl 3 (vExI (vOp fAdd (vSl 6 (vEx (vLit (.int 1)) vNil))) vNil))) vNil)))) (vEx (vRd 4) (vEx (vRd 5) vNil))))) vNil)) (vLit (.int 4)))) (vThen (vSet 11 (vOp fAdd (vSl 11 (vEx (vLst (vEx (vTup (vEx (vRd 2) (vEx (vFz (vOp fAdd (vEx (vOp fAdd (vEx (vOp fS01 (vSl 3 (vExI (vRd 6) vNil))) (vEx (vTup (vEx (vTup vNil) vNil)) vNil))) (vEx (vOp fS10 (vSl 3 (vExI (vOp fAdd (vSl 6 (vEx (vLit (.int 1)) vNil))) vNil))) vNil)))) (vEx (vRd 4) (vEx (vRd 5) vNil))))) (vEx (vTup (vEx (vRd 2) (vEx (vTup vNil) (vEx (vRd 4) (vEx (vRd 5) vNil))))) vNil))) vNil)))) (vThen (vSet 11 (vOp fAdd (vSl 11 (vEx (vLst (vEx (vTup (vEx (vRd 2) (vEx (vFz (vOp fAdd (vEx (vOp fAdd (vEx (vOp fS01 (vSl 3 (vExI (vRd 6) vNil))) (vEx (vTup (vEx (vFz (vOp fList (vSl 8 vNil))) vNil)) vNil))) (vEx (vOp fS10 (vSl 3 (vExI (vOp fAdd (vSl 6 (vEx (vLit (.int 1)) vNil))) vNil))) vNil)))) (vEx (vRd 4) (vEx (vRd 5) vNil))))) vNil)) vNil)))) (vThen (vDrop (vMt 11 mAppend (vEx (vTup (vEx (vRd 2) (vEx (vFz (vOp fList (vSl 3 vNil))) (vEx (vRd 4) (vEx (vRd 5) vNil))))) vNil))) (vThen (vSet 11 (vOp fAdd (vSl 11 (vEx (vLst (vEx (vTup (vEx (vRd 2) (vEx (vRd 3) (vEx (vLit (.int 0)) (vEx (vRd 5) vNil))))) (vEx (vTup (vEx (vRd 2) (vEx (vRd 3) (vEx (vRd 4) (vEx (vLit (.int 0)) vNil))))) (vEx (vTup (vEx (vRd 2) (vEx (vRd 3) (vEx (vRd 4) (vEx (vFz (vOp fAdd (vEx (vOp fLen (vEx (vOp fIx (vSl 3 (vEx (vLit (.int 0)) vNil))) vNil)) (vEx (vLit (.int 1)) vNil)))) vNil))))) vNil)))) vNil)))) (vThen (vSet 11 (vOp fAdd (vSl 11 (vEx (vLst (vEx (vTup (vEx (vRd 2) (vEx (vRd 3) (vEx (vLit (.bl true)) (vEx (vRd 5) vNil))))) (vEx (vTup (vEx (vLit (.int 9)) (vEx (vRd 3) (vEx (vRd 4) (vEx (vRd 5) vNil))))) (vEx (vTup (vEx (vLit (.int 3)) (vEx (vRd 3) (vEx (vRd 4) (vEx (vRd 5) vNil))))) vNil)))) vNil)))) (vRt (vCall v__law_pick (vSl 0 (vEx (vOp fAdd (vSl 11 (vEx (vLst (vEx (vTup (vEx (vRd 2) (vEx (vFz (vOp fS10 (vSl 3 (vExI (vLit (.int 1)) vNil)))) (vEx (vRd 4) (vEx (vRd 5) vNil))))) (vEx (vTup (vEx (vRd 2) (vEx (vRd 3) (vEx (vFz (vOp fAdd (vSl 4 (vEx (vLit (.int 1)) vNil)))) (vEx (vRd 5) vNil))))) (vEx (vRd 1) vNil)))) vNil))) vNil))))))))))))))))
def v__law_bent : Vn → M (O × Vn) := vFn 2 10 b__law_bent
def tb__law_errors_right (n : Nat) : Option (Vn → M (O × Vn)) := if n = 13 then some v_draw_count else if n = 12 then some v_kind_counts else none
def b__law_errors_right : Vn → M (Fl × Vn) := (vThen (vFor (vSeq (vLst (vEx (vLit .non) (vEx (vRd 1) (vEx (vLit (.int 3)) (vEx (vLit (.str "layers")) vNil)))))) (tgName 2) (vThen (vSet 3 (vLc [4] (vSeq (vLst (vEx (vLit (.fn 13)) (vEx (vLit (.fn 12)) vNil)))) (tgName 4) vYes (vFz (vLam (hnd subs ks__law_error) md__law_error [false, false, true, false, true] (vCallF tb__law_errors_right 4 (vSl 2 vNil)))))) (vThen (vDrop (vMt 3 mAppend (vEx (vFz (vLam (hnd subs ks__law_error) md__law_error [false, false, true] (vCall v_same_layers (vSl 2 (vEx (vLit .non) vNil))))) vNil))) (vThen (vDrop (vMt 3 mAppend (vEx (vFz (vLam (hnd subs ks__law_error) md__law_error [true, false, true] (vCall v_same_layers (vSl 0 (vSl 2 vNil))))) vNil))) (vIfS (vOrT (vB (vOp fNe (vEx (vOp fReprV (vSl 3 vNil)) (vEx (vOp fReprV (vEx (vRep (vLst (vEx (vFz (vLst (vEx (vLit (.str "layers")) (vEx (vRd 2) vNil)))) vNil)) (vLit (.int 4))) vNil)) vNil)))) (vB (vOp fIsNot (vEx (vCall v_is_layers (vSl 2 vNil)) (vEx (vLit (.bl false)) vNil))))) (vRt (vLit (.bl false))) vNx))))) (vRt (vLit (.bl true))))
def v__law_errors_right : Vn → M (O × Vn) := vFn 2 3 b__law_errors_right
def b_law : Vn → M (Fl × Vn) := (vThen (vSet 1 (vCall v__law_pen (vSl 0 vNil))) (vThen (vFor (vSrc sR1 (vEx (vFz (vOp fAdd (vEx (vLit (.int 6)) (vEx (vOp fMin2 (vEx (vLit (.int 4)) (vEx (vOp fLen (vSl 0 vNil)) vNil))) vNil)))) vNil)) (tgName 2) (vThen (vSet 3 (vCall v__law_layers (vSl 1 (vEx (vLit (.int 4)) (vEx (vLit (.int 9)) vNil))))) (vThen (vSet 4 (vCall v__law_new_layers (vSl 3 vNil))) (vThen (vAsg (vRd 3) (tgTup (tgCons (tgName 5) (tgCons (tgName 6) (tgCons (tgName 7) (tgCons (tgName 8) tgNil)))))) (vThen (vIfS (vOrT (vB (vOp fNe (vEx (vTup (vEx (vAt acc "prime" (vSl 4 vNil)) (vEx (vAt acc "layers" (vSl 4 vNil)) (vEx (vAt acc "inputs" (vSl 4 vNil)) (vEx (vAt acc "outputs" (vSl 4 vNil)) vNil))))) (vSl 3 vNil)))) (vB (vOp fIsNot (vEx (vCall v_is_layers (vSl 4 vNil)) (vEx (vLit (.bl true)) vNil))))) (vRt (vLit (.bl false))) vNx) (vThen (vSet 9 (vOp fAdd (vEx (vLc [11] (vSeq (vRd 6)) (tgName 11) vYes (vFz (vCall v__law_letters (vEx (vOp fLen (vSl 11 vNil)) vNil)))) (vEx (vLst (vEx (vFz (vCall v__law_letters (vSl 7 vNil))) vNil)) vNil)))) (vThen (vIfS (vB (vOp fNe (vEx (vOp fReprV (vEx (vAt acc "letters" (vSl 4 vNil)) vNil)) (vEx (vOp fReprV (vEx (vOp fTuple (vSl 9 vNil)) vNil)) vNil)))) (vRt (vLit (.bl false))) vNx) (vThen (vSet 10 (vLst vNil)) (vThen (vFor (vSeq (vRd 6)) (tgName 11) (vThen (vSet 12 (vLc [16] (vSeq (vRd 11)) (tgName 16) vYes (vOp fIx (vSl 16 (vEx (vLit (.int 0)) vNil))))) (vDrop (vMt 10 mAppend (vEx (vFz (vOp fTuple (vEx (vLc [17] (vSeq (vTup (vEx (vLit (.str "add")) (vEx (vLit (.str "mul")) (vEx (vLit (.str "keep")) (vEx (vLit (.str "put")) vNil)))))) (tgName 17) vYes (vFz (vCnt 12 (vSl 17 vNil)))) vNil))) vNil))))) (vThen (vIfS (vB (vOp fNe (vEx (vOp fReprV (vEx (vCall v_kind_counts (vSl 4 vNil)) vNil)) (vEx (vOp fReprV (vEx (vOp fTuple (vSl 10 vNil)) vNil)) vNil)))) (vRt (vLit (.bl false))) vNx) (vThen (vIfS (vB (vOp fNe (vEx (vOp fReprV (vEx (vCall v_draw_count (vSl 4 vNil)) vNil)) (vEx (vOp fReprV (vEx (vOp fAdd (vEx (vOp fAdd (vEx (vOp fIx (vSl 9 (vEx (vLit (.int 0)) vNil))) (vEx (vOp fMul (vEx (vLit (.int 2)) (vEx (vOp fSum (vEx (vOp fS10 (vSl 9 (vExI (vLit (.int 1)) vNil))) vNil)) vNil))) vNil))) (vEx (vOp fLen (vSl 6 vNil)) vNil))) vNil)) vNil)))) (vRt (vLit (.bl false))) vNx) (vThen (vFor (vSrc sR1 (vEx (vLit (.int 6)) vNil)) (tgName 13) (vThen (vSet 14 (vCall v__law_bent (vSl 1 (vSl 3 vNil)))) (vThen (vSet 15 (vCall v__law_are (vSl 14 vNil))) (vThen (vIfS (vB (vOp fNe (vEx (vOp fReprV (vEx (vCall v__law_ask_layers (vSl 14 vNil)) vNil)) (vEx (vOp fReprV (vSl 15 vNil)) vNil)))) (vRt (vLit (.bl false))) vNx) (vThen (vIfS (vB (vOp fNe (vEx (vOp fReprV (vEx (vLam (hnd subs ks__law_error) md__law_error [false, false, false, false, false, false, false, false, false, false, false, false, false, false, true] (vCall v__law_new_layers (vSl 14 vNil))) vNil)) (vEx (vOp fReprV (vEx (vIf (vTr (vSl 15 vNil)) (vLst (vEx (vLit (.str "told")) vNil)) (vLst (vEx (vLit (.str "layers")) (vEx (vRd 14) vNil)))) vNil)) vNil)))) (vRt (vLit (.bl false))) vNx) (vIfS (vAndT (vTr (vSl 15 vNil)) (vB (vOp fNe (vEx (vCall v_same_layers (vSl 4 (vEx (vCall v__law_new_layers (vSl 14 vNil)) vNil))) (vEx (vOp fEq (vSl 14 (vSl 3 vNil))) vNil))))) (vRt (vLit (.bl false))) vNx)))))) (vIfS (vNotT (vTr (vEx (vCall v__law_errors_right (vSl 4 (vSl 3 vNil))) vNil))) (vRt (vLit (.bl false))) vNx))))))))))))) (vRt (vLit (.bl true)))))
def v_law : Vn → M (O × Vn) := vFn 1 17 b_law
end Lw

set_option Elab.async false
set_option linter.all false
set_option maxRecDepth 100000
set_option maxHeartbeats 1000000
/-! k39, a: what the small judges answer. -/
namespace Lw
open PySem PySem.Spec L2 Vi
open PyProof.Rows hiding St

/-- plain data -/
def pl : D → Bool
  | .non => true
  | .bl _ => true
  | .int _ => true
  | .str s => decide (s.length ≤ 1000)
  | .tup _ => true
  | .lst _ => true
  | _ => false
def isWhole : D → Bool
  | .int _ => true
  | _ => false
def isCount : D → Bool
  | .int i => decide (0 ≤ i)
  | _ => false
/-- a number under m -/
def isNum (d : D) (m : Int) : Bool := match d with
  | .int i => decide (0 ≤ i) && decide (i < m)
  | _ => false
abbrev sv (d : D) : Sl := ⟨false, some (.v d)⟩
abbrev no : Sl := ⟨false, none⟩
abbrev re (o : O) (e : Vn) : M (O × Vn) := some (.ok (o, e))
theorem whole_ok {d : D} (h : pl d = true) : v_is_whole [sv d] = re (.v (.bl (isWhole d))) [sv d] := by
  cases d <;> first | rfl | cases h
theorem count_ok {d : D} (h : pl d = true) : v_is_count [sv d] = re (.v (.bl (isCount d))) [sv d] := by
  cases d <;> first | rfl | cases h
theorem rest_ok {d : D} {p : Int} (h : pl d = true) : v_is_rest_in [sv (.int p), sv d] = re (.v (.bl (isNum d p))) [sv (.int p), sv d] := by
  have q : vCall v_is_count (vSl 1 vNil) [sv (.int p), sv d] = re (.v (.bl (isCount d))) [sv (.int p), sv d] := call_eq (e := [sv (.int p), sv d]) (rs := [.s 1]) (ps := [sv d]) (e1 := [sv (.int p), sv d]) rfl rfl (count_ok h) rfl
  refine fn_rt (m := 0) (e := [sv (.int p), sv d]) rfl (rt_eq ?_)
  cases d with
  | int i => exact andB_ok q fun _ => rfl
  | _ => exact andB_ok (c := false) q fun z => by cases z
theorem num_ok {d : D} {m : Int} (h : pl d = true) : v__law_is_number [sv d, sv (.int m)] = re (.v (.bl (isNum d m))) [sv d, sv (.int m)] := by
  refine fn_rt (m := 0) (e := [sv d, sv (.int m)]) rfl (rt_eq ?_)
  cases d with
  | int i => exact (andB_ok (b := true) (c := isNum (.int i) m) rfl fun _ => (andB_ok (b := true) (c := isNum (.int i) m) rfl fun _ => chain_ok rfl rfl rfl))
  | bl b => exact andB_ok (b := true) (c := false) rfl fun _ => andB_ok (b := false) (c := false) rfl fun z => by cases z
  | non => exact andB_ok (b := false) (c := false) rfl fun z => by cases z
  | str s => exact andB_ok (b := false) (c := false) rfl fun z => by cases z
  | tup s => exact andB_ok (b := false) (c := false) rfl fun z => by cases z
  | lst s => exact andB_ok (b := false) (c := false) rfl fun z => by cases z
  | _ => cases h
end Lw

set_option Elab.async false
set_option linter.all false
set_option maxRecDepth 100000
set_option maxHeartbeats 2000000
/-! k39, b: gates. -/
namespace Lw
open PySem PySem.Spec L2 Vi
open PyProof.Rows hiding St

def kin (s : Str) : Bool := inV (V.str s) [V.str "add", V.str "mul", V.str "keep", V.str "put"]
theorem kin_cases {s : Str} (h : kin s = true) : s = "add" ∨ s = "mul" ∨ s = "keep" ∨ s = "put" := by
  unfold kin inV at h
  simp only [List.any_cons, List.any_nil, Bool.or_false, Bool.or_eq_true] at h
  rcases h with h | h | h | h
  · exact .inl (beq_iff_eq.mp h).symm
  · exact .inr (.inl (beq_iff_eq.mp h).symm)
  · exact .inr (.inr (.inl (beq_iff_eq.mp h).symm))
  · exact .inr (.inr (.inr (beq_iff_eq.mp h).symm))
/-- what may stand where a gate is looked for -/
def gT : D → Bool
  | .tup [] => true
  | .tup (.str s :: r) => decide (s.length ≤ 1000) && (r.all pl && decide (r.length ≤ 10))
  | .tup _ => false
  | d => pl d
/-- a gate, over numbers under p, over m places -/
def gateOk (p m : Int) : D → Bool
  | .tup (.str s :: r) => kin s && (if s = "put" then decide (r.length = 1) && r.all (fun x => isNum x p) else decide (r.length = if s = "keep" then 1 else 2) && r.all (fun x => isNum x m))
  | _ => false
abbrev ge (p : Int) (v : D) (m : Int) : Vn := [sv (.int p), sv v, sv (.int m)]
section
variable {p m : Int}
/-- the comprehension over the places -/
theorem places_ok {s : Str} {r : List D} (hr : r.all pl = true) (hl : r.length ≤ 10) :
    vOp fAllM (vEx (vLc [3] (vSeq (vOp fS10 (vSl 1 (vExI (vLit (.int 1)) vNil)))) (tgName 3) vYes (vAnd (vCall v_is_count (vSl 3 vNil)) (vOp (fCI fun a b => decide (a < b)) (vSl 3 (vSl 2 vNil))))) vNil) (ge p (.tup (.str s :: r)) m ++ [no]) = re (.v (.bl (r.all fun x => isNum x m))) (ge p (.tup (.str s :: r)) m ++ [no]) := by
  have hs : sizeLine = 16777216 := sizeLine_eq
  have go := goLc_map (own := [3]) (t := tgName 3) (c := vYes) (f := vAnd (vCall v_is_count (vSl 3 vNil)) (vOp (fCI fun a b => decide (a < b)) (vSl 3 (vSl 2 vNil)))) (env := ge p (.tup (.str s :: r)) m ++ [no]) (q := fun _ => true) (g := fun d => .bl (isNum d m)) r [] (fun d hd => by
    have hp : pl d = true := List.all_eq_true.mp hr d hd
    refine ⟨ge p (.tup (.str s :: r)) m ++ [sv d], _, rfl, rfl, fun _ => ⟨ge p (.tup (.str s :: r)) m ++ [sv d], ?_, rfl⟩, fun z => by cases z⟩
    have q : vCall v_is_count (vSl 3 vNil) (ge p (.tup (.str s :: r)) m ++ [sv d]) = re (.v (.bl (isCount d))) (ge p (.tup (.str s :: r)) m ++ [sv d]) := call_eq (e := ge p (.tup (.str s :: r)) m ++ [sv d]) (rs := [.s 3]) (ps := [sv d]) (e1 := ge p (.tup (.str s :: r)) m ++ [sv d]) rfl rfl (count_ok hp) rfl
    cases d with
    | int i => exact andB_ok q fun _ => rfl
    | _ => exact andB_ok (c := false) q fun z => by cases z) (by simp; omega)
  rw [List.filter_eq_self.mpr (fun _ _ => rfl), List.nil_append] at go
  have it : vSeq (vOp fS10 (vSl 1 (vExI (vLit (.int 1)) vNil))) (ge p (.tup (.str s :: r)) m ++ [no]) = some (.ok (r, ge p (.tup (.str s :: r)) m ++ [no])) := by
    show (some (R.ok (cutD (.str s :: r) (some ((1 : Nat) : Int)) none, _)) : M (List D × Vn)) = _
    rw [cut_from (by simp)]
    rfl
  exact op_eq (ds := [.lst (r.map fun d => .bl (isNum d m))]) (ex_eq (lc_eq it rfl go rfl) rfl) rfl (allM_bl r)
theorem len_eq (k : Nat) (r : List D) (s : Str) : decide ((((D.str s :: r).length : Nat) : Int) = ((k + 1 : Nat) : Int)) = decide (r.length = k) := by
  rw [decide_eq_decide, List.length_cons]
  omega
/-- the program's judge of gates -/
theorem gate_ok {v : D} (h : gT v = true) : v_is_layer_gate (ge p v m) = re (.v (.bl (gateOk p m v))) (ge p v m) := by
  match v, h with
  | .non, _ => rfl
  | .bl _, _ => rfl
  | .int _, _ => rfl
  | .str _, _ => rfl
  | .lst _, _ => rfl
  | .tup [], _ => rfl
  | .tup (.str s :: r), h =>
    have h' : (decide (s.length ≤ 1000) && (r.all pl && decide (r.length ≤ 10))) = true := h
    simp only [Bool.and_eq_true, decide_eq_true_eq] at h'
    obtain ⟨h1, h2, h3⟩ := h'
    generalize hE : ge p (.tup (.str s :: r)) m ++ [no] = E
    have ix0 : vOp fIx (vSl 1 (vEx (vLit (.int 0)) vNil)) E = re (.v (.str s)) E := by
      subst hE
      exact op_eq (ds := [.tup (.str s :: r), .int 0]) rfl rfl (ix_tup at_zero)
    have ln : ∀ n : Int, vOp fEq (vEx (vOp fLen (vSl 1 vNil)) (vEx (vLit (.int n)) vNil)) E = re (.v (.bl (decide ((((D.str s :: r).length : Nat) : Int) = n)))) E := by
      subst hE
      intro n
      rfl
    have t0 : vOrT (vNotT (vTr (vEx (vOp (fIsi tabTup) (vSl 1 vNil)) vNil))) (vOrT (vNotT (vTr (vSl 1 vNil))) (vOrT (vNotT (vTr (vEx (vOp (fIsi tabStr) (vEx (vOp fIx (vSl 1 (vEx (vLit (.int 0)) vNil))) vNil)) vNil))) (vB (vOp fNotIn (vEx (vOp fIx (vSl 1 (vEx (vLit (.int 0)) vNil))) (vEx (vLit c_KINDS) vNil)))))) E = some (.ok (!kin s, E)) :=
      orT_ok (b := false) (by subst hE; rfl) fun _ => orT_ok (b := false) (by subst hE; rfl) fun _ => orT_ok (b := false) (notT_eq (b := true) (tr_eq (ex_eq (op_eq (ex_eq ix0 rfl) (ds := [.str s]) (o := .v (.bl true)) rfl rfl) rfl) rfl rfl)) fun _ => vb_eq (op_eq (ex_eq ix0 (ex_eq rfl rfl)) (ds := [.str s, c_KINDS]) rfl rfl)
    have t1 : ∀ k : Str, vB (vOp fEq (vEx (vOp fIx (vSl 1 (vEx (vLit (.int 0)) vNil))) (vEx (vLit (.str k)) vNil))) E = some (.ok (decide (s = k), E)) := fun k => vb_eq (op_eq (ex_eq ix0 (ex_eq rfl rfl)) (ds := [.str s, .str k]) rfl rfl)
    have fin : ∀ b : Bool, b_is_layer_gate E = some (.ok (.rt (.v (.bl b)), E)) → v_is_layer_gate (ge p (.tup (.str s :: r)) m) = re (.v (.bl b)) (ge p (.tup (.str s :: r)) m) := fun b q => by
      subst hE
      exact fn_rt (m := 1) rfl q
    refine fin _ ?_
    unfold b_is_layer_gate
    show _ = some (R.ok (Fl.rt (O.v (.bl (kin s && (if s = "put" then decide (r.length = 1) && r.all (fun x => isNum x p) else decide (r.length = if s = "keep" then 1 else 2) && r.all (fun x => isNum x m))))), E))
    cases hk : kin s with
    | false => exact then_rt ((ifs_t (by rw [t0, hk]; rfl)).trans rfl)
    | true =>
      rw [then_nx (e := E) ((ifs_f (by rw [t0, hk]; rfl)).trans rfl)]
      by_cases hp : s = "put"
      · rw [if_pos hp]
        refine then_rt ((ifs_t (by rw [t1, decide_eq_true hp])).trans (rt_eq ?_))
        refine andB_ok (b := decide (r.length = 1)) ?_ fun hz => ?_
        · rw [ln 2]
          exact congrArg (fun b => re (O.v (.bl b)) E) (len_eq 1 r s)
        · have hl := of_decide_eq_true hz
          match r, hl with
          | [x], _ =>
            subst hE
            have hx : pl x = true := by simpa using h2
            have q := call_eq (f := v_is_rest_in) (g := (vSl 0 (vEx (vOp fIx (vSl 1 (vEx (vLit (.int 1)) vNil))) vNil))) (env := ge p (.tup [.str s, x]) m ++ [no]) (e := ge p (.tup [.str s, x]) m ++ [no]) (rs := [.s 0, .t (.v x)]) (ps := [sv (.int p), sv x]) (e1 := ge p (.tup [.str s, x]) m ++ [no]) rfl rfl (rest_ok (p := p) hx) rfl
            rw [q]
            simp
      · rw [if_neg hp, then_nx (e := E) ((ifs_f (by rw [t1, decide_eq_false hp])).trans rfl)]
        have w : vIf (vB (vOp fEq (vEx (vOp fIx (vSl 1 (vEx (vLit (.int 0)) vNil))) (vEx (vLit (.str "keep")) vNil)))) (vLit (.int 2)) (vLit (.int 3)) E = re (.v (.int (((if s = "keep" then 1 else 2) + 1 : Nat) : Int))) E := by
          rw [if_eq (t1 "keep")]
          by_cases hq : s = "keep"
          · rw [decide_eq_true hq, if_pos rfl, if_pos hq]
            rfl
          · rw [decide_eq_false hq, if_neg (by decide), if_neg hq]
            rfl
        have ne : vB (vOp fNe (vEx (vOp fLen (vSl 1 vNil)) (vEx (vIf (vB (vOp fEq (vEx (vOp fIx (vSl 1 (vEx (vLit (.int 0)) vNil))) (vEx (vLit (.str "keep")) vNil)))) (vLit (.int 2)) (vLit (.int 3))) vNil))) E = some (.ok (!decide (r.length = if s = "keep" then 1 else 2), E)) := by
          have l1 : vOp fLen (vSl 1 vNil) E = re (.v (.int (((D.str s :: r).length : Nat) : Int))) E := by
            subst hE
            rfl
          refine vb_eq (op_eq (ex_eq l1 (ex_eq w rfl)) (ds := [.int (((D.str s :: r).length : Nat) : Int), .int (((if s = "keep" then 1 else 2) + 1 : Nat) : Int)]) rfl ?_)
          show some (O.v (.bl (!decide ((((D.str s :: r).length : Nat) : Int) = (((if s = "keep" then 1 else 2) + 1 : Nat) : Int))))) = _
          rw [len_eq]
        by_cases hl : r.length = if s = "keep" then 1 else 2
        · rw [then_nx (e := E) ((ifs_f (by rw [ne, decide_eq_true hl]; rfl)).trans rfl), decide_eq_true hl]
          subst hE
          exact rt_eq (places_ok h2 h3)
        · rw [decide_eq_false hl]
          exact then_rt ((ifs_t (by rw [ne, decide_eq_false hl]; rfl)).trans rfl)
end
end Lw

set_option Elab.async false
set_option linter.all false
set_option maxRecDepth 100000
set_option maxHeartbeats 2000000
/-! k39, c: the law's judge of gates. -/
namespace Lw
open PySem PySem.Spec L2 Vi
open PyProof.Rows hiding St

section
variable {p m : Int}
theorem law_places {s : Str} {r : List D} {k : Int} (hr : r.all pl = true) (hl : r.length ≤ 10) :
    vOp fEq (vEx (vLc [4] (vSeq (vOp fS10 (vSl 1 (vExI (vLit (.int 1)) vNil)))) (tgName 4) (vNotT (vTr (vEx (vCall v__law_is_number (vSl 4 (vSl 2 vNil))) vNil))) (vLit (.int 1))) (vEx (vLst vNil) vNil)) (ge p (.tup (.str s :: r)) m ++ [sv (.int k), no]) = re (.v (.bl (r.all fun x => isNum x m))) (ge p (.tup (.str s :: r)) m ++ [sv (.int k), no]) := by
  have hs : sizeLine = 16777216 := sizeLine_eq
  have go := goLc_map (own := [4]) (t := tgName 4) (c := (vNotT (vTr (vEx (vCall v__law_is_number (vSl 4 (vSl 2 vNil))) vNil)))) (f := vLit (.int 1)) (env := ge p (.tup (.str s :: r)) m ++ [sv (.int k), no]) (q := fun d => !isNum d m) (g := fun _ => .int 1) r [] (fun d hd => by
    have hp : pl d = true := List.all_eq_true.mp hr d hd
    have q : vCall v__law_is_number (vSl 4 (vSl 2 vNil)) (ge p (.tup (.str s :: r)) m ++ [sv (.int k), sv d]) = re (.v (.bl (isNum d m))) (ge p (.tup (.str s :: r)) m ++ [sv (.int k), sv d]) := call_eq (e := ge p (.tup (.str s :: r)) m ++ [sv (.int k), sv d]) (rs := [.s 4, .s 2]) (ps := [sv d, sv (.int m)]) (e1 := ge p (.tup (.str s :: r)) m ++ [sv (.int k), sv d]) rfl rfl (num_ok hp) rfl
    exact ⟨ge p (.tup (.str s :: r)) m ++ [sv (.int k), sv d], ge p (.tup (.str s :: r)) m ++ [sv (.int k), sv d], rfl, notT_eq (tr_eq (ex_eq q rfl) rfl rfl), fun _ => ⟨_, rfl, rfl⟩, fun _ => rfl⟩) (by simp; omega)
  rw [List.nil_append] at go
  have it : vSeq (vOp fS10 (vSl 1 (vExI (vLit (.int 1)) vNil))) (ge p (.tup (.str s :: r)) m ++ [sv (.int k), no]) = some (.ok (r, ge p (.tup (.str s :: r)) m ++ [sv (.int k), no])) := by
    show (some (R.ok (cutD (.str s :: r) (some ((1 : Nat) : Int)) none, _)) : M (List D × Vn)) = _
    rw [cut_from (by simp)]
    rfl
  have cm : (D.lst ((r.filter fun d => !isNum d m).map fun _ => D.int 1)).cmp = true := by
    generalize (r.filter fun d => !isNum d m) = l
    have a1 : lfs (l.map fun _ => D.int 1) = true := by
      rw [lfs_all, List.all_eq_true]
      intro x hx
      obtain ⟨_, _, rfl⟩ := List.mem_map.mp hx
      decide
    have a2 : deps (l.map fun _ => D.int 1) ≤ 0 := deps_le fun x hx => by
      obtain ⟨_, _, rfl⟩ := List.mem_map.mp hx
      exact Nat.le_refl _
    show (lfs (l.map fun _ => D.int 1) && decide (deps (l.map fun _ => D.int 1) + 1 ≤ 64)) = true
    rw [a1, decide_eq_true (by omega)]
    rfl
  refine op_eq (ds := [.lst ((r.filter fun d => !isNum d m).map fun _ => D.int 1), .lst []]) (ex_eq (lc_eq it rfl go rfl) rfl) rfl ?_
  show (eq? _ _).map (fun b => O.v (.bl b)) = _
  rw [eq_nilL cm]
  have e : ((r.filter fun d => !isNum d m).map fun _ => D.int 1).isEmpty = r.all fun x => isNum x m := by
    clear go it cm hr hl hs
    induction r with
    | nil => rfl
    | cons d r ih =>
      rw [List.all_cons, ← ih]
      cases hd : isNum d m with
      | true => rw [List.filter_cons_of_neg (by rw [hd]; decide)]; rfl
      | false => rw [List.filter_cons_of_pos (by rw [hd]; rfl)]; rfl
  rw [e]
  rfl
theorem law_gate_ok {v : D} (h : gT v = true) : v__law_is_gate (ge p v m) = re (.v (.bl (gateOk p m v))) (ge p v m) := by
  match v, h with
  | .non, _ => rfl
  | .bl _, _ => rfl
  | .int _, _ => rfl
  | .str _, _ => rfl
  | .lst _, _ => rfl
  | .tup [], _ => rfl
  | .tup (.str s :: r), h =>
    have h' : (decide (s.length ≤ 1000) && (r.all pl && decide (r.length ≤ 10))) = true := h
    simp only [Bool.and_eq_true, decide_eq_true_eq] at h'
    obtain ⟨h1, h2, h3⟩ := h'
    generalize hE : ge p (.tup (.str s :: r)) m ++ [no, no] = E
    have ix0 : vOp fIx (vSl 1 (vEx (vLit (.int 0)) vNil)) E = re (.v (.str s)) E := by
      subst hE
      exact op_eq (ds := [.tup (.str s :: r), .int 0]) rfl rfl (ix_tup at_zero)
    have l1 : vOp fLen (vSl 1 vNil) E = re (.v (.int (((D.str s :: r).length : Nat) : Int))) E := by
      subst hE
      rfl
    have lt2 : decide ((((D.str s :: r).length : Nat) : Int) < 2) = decide (r.length = 0) := by
      rw [decide_eq_decide, List.length_cons]
      omega
    have t1 : ∀ k : Str, vB (vOp fEq (vEx (vOp fIx (vSl 1 (vEx (vLit (.int 0)) vNil))) (vEx (vLit (.str k)) vNil))) E = some (.ok (decide (s = k), E)) := fun k => vb_eq (op_eq (ex_eq ix0 (ex_eq rfl rfl)) (ds := [.str s, .str k]) rfl rfl)
    have t0 : vOrT (vNotT (vTr (vEx (vOp (fIsi tabTup) (vSl 1 vNil)) vNil))) (vOrT (vB (vOp (fCI fun a b => decide (a < b)) (vEx (vOp fLen (vSl 1 vNil)) (vEx (vLit (.int 2)) vNil)))) (vB (vOp fNotIn (vEx (vOp fIx (vSl 1 (vEx (vLit (.int 0)) vNil))) (vEx (vTup (vEx (vLit (.str "add")) (vEx (vLit (.str "mul")) (vEx (vLit (.str "keep")) (vEx (vLit (.str "put")) vNil))))) vNil))))) E = some (.ok (decide (r.length = 0) || !kin s, E)) := by
      refine orT_ok (b := false) (by subst hE; rfl) fun _ => orT_ok (b := decide (r.length = 0)) ?_ fun _ => vb_eq (op_eq (ex_eq ix0 (ex_eq rfl rfl)) (ds := [.str s, c_KINDS]) rfl rfl)
      rw [← lt2]
      exact vb_eq (op_eq (ex_eq l1 (ex_eq rfl rfl)) (ds := [.int (((D.str s :: r).length : Nat) : Int), .int 2]) rfl rfl)
    have fin : ∀ (b : Bool) (E' : Vn), E'.take 3 = ge p (.tup (.str s :: r)) m → b__law_is_gate E = some (.ok (.rt (.v (.bl b)), E')) → v__law_is_gate (ge p (.tup (.str s :: r)) m) = re (.v (.bl b)) (ge p (.tup (.str s :: r)) m) := fun b E' e q => by
      subst hE
      have z := fn_rt (n := 3) (m := 2) (b := b__law_is_gate) (ps := ge p (.tup (.str s :: r)) m) rfl q
      rw [e] at z
      exact z
    have e3 : E.take 3 = ge p (.tup (.str s :: r)) m := by
      subst hE
      rfl
    show _ = re (O.v (.bl (kin s && (if s = "put" then decide (r.length = 1) && r.all (fun x => isNum x p) else decide (r.length = if s = "keep" then 1 else 2) && r.all (fun x => isNum x m))))) _
    by_cases hz : r.length = 0
    · have e : (kin s && (if s = "put" then decide (r.length = 1) && r.all (fun x => isNum x p) else decide (r.length = if s = "keep" then 1 else 2) && r.all (fun x => isNum x m))) = false := by
        rw [hz]
        by_cases hp : s = "put"
        · rw [if_pos hp]
          simp
        · rw [if_neg hp]
          by_cases hq : s = "keep"
          · rw [if_pos hq]
            simp
          · rw [if_neg hq]
            simp
      rw [e]
      refine fin _ E e3 ?_
      unfold b__law_is_gate
      exact then_rt ((ifs_t (by rw [t0, decide_eq_true hz]; rfl)).trans rfl)
    · cases hk : kin s with
      | false =>
        refine fin _ E e3 ?_
        unfold b__law_is_gate
        exact then_rt ((ifs_t (by rw [t0, hk, Bool.not_false, Bool.or_true])).trans rfl)
      | true =>
        have f0 := t0
        rw [decide_eq_false hz, hk] at f0
        by_cases hp : s = "put"
        · rw [if_pos hp]
          refine fin _ E e3 ?_
          unfold b__law_is_gate
          rw [then_nx (e := E) ((ifs_f (f0.trans rfl)).trans rfl)]
          refine then_rt ((ifs_t (by rw [t1, decide_eq_true hp])).trans (rt_eq ?_))
          refine andB_ok (b := decide (r.length = 1)) ?_ fun hz => ?_
          · refine (op_eq (ex_eq l1 (ex_eq rfl rfl)) (ds := [.int (((D.str s :: r).length : Nat) : Int), .int 2]) rfl rfl).trans ?_
            exact congrArg (fun b => re (O.v (.bl b)) E) (len_eq 1 r s)
          · have hl := of_decide_eq_true hz
            match r, hl with
            | [x], _ =>
              subst hE
              have hx : pl x = true := by simpa using h2
              have q := call_eq (f := v__law_is_number) (g := (vEx (vOp fIx (vSl 1 (vEx (vLit (.int 1)) vNil))) (vSl 0 vNil))) (env := ge p (.tup [.str s, x]) m ++ [no, no]) (e := ge p (.tup [.str s, x]) m ++ [no, no]) (rs := [.t (.v x), .s 0]) (ps := [sv x, sv (.int p)]) (e1 := ge p (.tup [.str s, x]) m ++ [no, no]) rfl rfl (num_ok (m := p) hx) rfl
              rw [q]
              simp
        · rw [if_neg hp]
          have w : vIf (vB (vOp fEq (vEx (vOp fIx (vSl 1 (vEx (vLit (.int 0)) vNil))) (vEx (vLit (.str "keep")) vNil)))) (vLit (.int 2)) (vLit (.int 3)) E = re (.v (.int (((if s = "keep" then 1 else 2) + 1 : Nat) : Int))) E := by
            rw [if_eq (t1 "keep")]
            by_cases hq : s = "keep"
            · rw [decide_eq_true hq, if_pos rfl, if_pos hq]
              rfl
            · rw [decide_eq_false hq, if_neg (by decide), if_neg hq]
              rfl
          generalize (if s = "keep" then 1 else 2 : Nat) = k at w ⊢
          refine fin _ (ge p (.tup (.str s :: r)) m ++ [sv (.int ((k + 1 : Nat) : Int)), no]) rfl ?_
          unfold b__law_is_gate
          rw [then_nx (e := E) ((ifs_f (f0.trans rfl)).trans rfl), then_nx (e := E) ((ifs_f (by rw [t1, decide_eq_false hp])).trans rfl)]
          rw [then_nx (e := ge p (.tup (.str s :: r)) m ++ [sv (.int ((k + 1 : Nat) : Int)), no]) (by subst hE; exact (set_eq (y := none) w rfl).trans rfl)]
          refine rt_eq (andB_ok (b := decide (r.length = k)) ?_ fun _ => ?_)
          · refine (op_eq (ds := [.int (((D.str s :: r).length : Nat) : Int), .int ((k + 1 : Nat) : Int)]) (ex_eq (o := .v (.int (((D.str s :: r).length : Nat) : Int))) rfl rfl) rfl rfl).trans ?_
            exact congrArg (fun b => re (O.v (.bl b)) _) (len_eq k r s)
          · exact law_places h2 h3
end
end Lw

set_option Elab.async false
set_option linter.all false
set_option maxRecDepth 100000
set_option maxHeartbeats 2000000
/-! k39, d: letters. -/
namespace Lw
open PySem PySem.Spec L2 Vi
open PyProof.Rows hiding St

theorem same_letters : v__law_letters = v_letters_in := rfl
abbrev lc : Vn → M (Bool × Vn) := (vB (vOp (fCI fun a b => decide (a < b)) (vSl 2 (vSl 0 vNil))))
abbrev lb : Vn → M (Fl × Vn) := (vPar 1 2 (vEx (vOp fAdd (vSl 1 (vEx (vLit (.int 1)) vNil))) (vEx (vOp fMul (vEx (vLit (.int 2)) (vSl 2 vNil))) vNil)))
theorem letters_go {n : Int} : ∀ (k fuel : Nat) (f c : Int), 0 ≤ f → 1 ≤ c → (n - c).toNat ≤ k → k < fuel → ∃ f' c', f ≤ f' ∧ f' ≤ f + k ∧ goWhile lc lb fuel [sv (.int n), sv (.int f), sv (.int c)] = some (.ok (.nx, [sv (.int n), sv (.int f'), sv (.int c')]))
  | k, 0, _, _, _, _, _, h => by omega
  | k, fuel + 1, f, c, h0, h1, h2, h3 => by
    have step : goWhile lc lb (fuel + 1) [sv (.int n), sv (.int f), sv (.int c)] = if decide (c < n) = true then M.bind (lb [sv (.int n), sv (.int f), sv (.int c)]) (fun (fl, e2) => match fl with
      | .nx => goWhile lc lb fuel e2
      | .ct => goWhile lc lb fuel e2
      | .bk => M.ret (.nx, e2)
      | .rt o => M.ret (.rt o, e2)) else some (.ok (.nx, [sv (.int n), sv (.int f), sv (.int c)])) := rfl
    by_cases hc : c < n
    · rw [decide_eq_true hc, if_pos rfl] at step
      have s2 : small64 2 = true := by decide
      have bd : lb [sv (.int n), sv (.int f), sv (.int c)] = some (.ok (.nx, [sv (.int n), sv (.int (f + 1)), sv (.int (2 * c))])) := by
        have mu : vOp fMul (vEx (vLit (.int 2)) (vSl 2 vNil)) [sv (.int n), sv (.int f), sv (.int c)] = re (.v (.int (2 * c))) [sv (.int n), sv (.int f), sv (.int c)] := op_eq (ds := [.int 2, .int c]) rfl rfl (fMul_eq (by unfold cMul; rw [s2]; rfl))
        have gg : vEx (vOp fAdd (vSl 1 (vEx (vLit (.int 1)) vNil))) (vEx (vOp fMul (vEx (vLit (.int 2)) (vSl 2 vNil))) vNil) [sv (.int n), sv (.int f), sv (.int c)] = some (.ok ([.t (.v (.int (f + 1))), .t (.v (.int (2 * c)))], [sv (.int n), sv (.int f), sv (.int c)])) := ex_eq rfl (ex_eq mu rfl)
        show M.bind (vEx _ _ _) _ = _
        rw [gg]
        rfl
      rw [bd] at step
      obtain ⟨f', c', g1, g2, g3⟩ := letters_go (n := n) (k - 1) fuel (f + 1) (2 * c) (by omega) (by omega) (by omega) (by omega)
      exact ⟨f', c', by omega, by omega, step.trans g3⟩
    · rw [decide_eq_false hc, if_neg (by decide)] at step
      exact ⟨f, c, by omega, by omega, step⟩
theorem letters_ok {n : Int} (h : n ≤ 1000000) : ∃ r, 0 ≤ r ∧ r ≤ 1000000 ∧ v_letters_in [sv (.int n)] = re (.v (.int r)) [sv (.int n)] := by
  obtain ⟨f', c', g1, g2, g3⟩ := letters_go (n := n) 1000000 fuel_letters_in 0 1 (by decide) (by decide) (by omega) (by decide)
  refine ⟨f', g1, by omega, ?_⟩
  refine fn_rt (n := 1) (m := 2) (b := b_letters_in) (e := [sv (.int n), no, sv (.int c')]) rfl ?_
  show b_letters_in [sv (.int n), no, no] = _
  unfold b_letters_in
  rw [then_nx (e := [sv (.int n), sv (.int 0), sv (.int 1)]) rfl, then_nx g3]
  rfl
end Lw

set_option Elab.async false
set_option linter.all false
set_option maxRecDepth 100000
set_option maxHeartbeats 2000000
/-! k39, e: judges of layers. -/
namespace Lw
open PySem PySem.Spec L2 Vi
open PyProof.Rows hiding St

theorem count_ok' {d : D} (h : pl d = true) : v_is_count [sv d] = re (.v (.bl (isCount d))) [sv d] := count_ok h
theorem pl_no {d : D} (h : pl d = true) : noOb d = true := by cases d <;> first | rfl | cases h
theorem gT_no {d : D} (h : gT d = true) : noOb d = true := by
  cases d <;> first | rfl | cases h
/-- a layer -/
def layT : D → Bool
  | .tup gs => gs.all gT && decide (gs.length ≤ 1000)
  | .lst _ => true
  | _ => false
theorem layT_no {d : D} (h : layT d = true) : noOb d = true := by cases d <;> first | rfl | cases h
def pB (p : Int) : Bool := inV (V.int p) [V.int 5, V.int 7, V.int 11, V.int 101, V.int 65537, V.int 999999937]
def pos : D → Bool
  | .int i => decide (0 < i)
  | _ => false
def iz : D → Int
  | .int i => i
  | _ => 0
def gates : D → List D
  | .tup gs => gs
  | _ => []
/-- whether a layer stands there that is one -/
def full : D → Bool
  | .tup gs => !gs.isEmpty
  | _ => false
def bh (ls : List D) (i : D) : List D := (ls.drop 1).map (fun l => D.int (gates l).length) ++ [i]
def allG (p : Int) (ls : List D) (i : D) : Bool := (ls.zip (bh ls i)).all fun q => (gates q.1).all (gateOk p (iz q.2))
def areB (p : Int) (T i o : D) : Bool := pB p && (pos i && (pos o && match T with
  | .tup (l :: r) => (l :: r).all full && (decide (iz o ≤ ((gates l).length : Int)) && allG p (l :: r) i)
  | _ => false))
abbrev le (p T i o x y z u v : Sl) : Vn := [p, T, i, o, x, y, z, u, v]
/-- the first test of the program's judge -/
theorem pos_two {p : Int} {T i o : D} (h1 : pl i = true) (h2 : pl o = true) :
    vOp fAllM (vEx (vLc [5] (vSeq (vTup (vEx (vRd 2) (vEx (vRd 3) vNil)))) (tgName 5) vYes (vAnd (vCall v_is_count (vSl 5 vNil)) (vOp (fCI fun a b => decide (b < a)) (vSl 5 (vEx (vLit (.int 0)) vNil))))) vNil) [sv (.int p), sv T, sv i, sv o, no, no, no, no, no] = re (.v (.bl (pos i && pos o))) [sv (.int p), sv T, sv i, sv o, no, no, no, no, no] := by
  have c1 := count_ok h1
  have c2 := count_ok h2
  have el : ∀ {d : D}, pl d = true → vAnd (vCall v_is_count (vSl 5 vNil)) (vOp (fCI fun a b => decide (b < a)) (vSl 5 (vEx (vLit (.int 0)) vNil))) [sv (.int p), sv T, sv i, sv o, no, sv d, no, no, no] = re (.v (.bl (pos d))) [sv (.int p), sv T, sv i, sv o, no, sv d, no, no, no] := by
    intro d h
    have c := count_ok h
    cases hd : isCount d with
    | false =>
      have : pos d = false := by
        cases d with
        | int i =>
          have := of_decide_eq_false hd
          exact decide_eq_false (by omega)
        | _ => rfl
      simp only [b_ok, b_ex, b_ret, w_g0, w_g1, w_s0, w_s1, z_v, z_l, e_lit, e_rd, k_rd, e_mv, k_mv, e_fz, k_fz, e_nil, e_ex, k_ex, k_ex1, e_exI, k_exI, e_sl, k_sl, k_sl1, w_nil, w_t, w_s, w_vw, w_c, e_op, k_op, k_op2, k_op3, e_b, k_b, e_tr, k_tr, k_tr2, k_tr3, e_andT, k_andT, e_orT, k_orT, e_notT, k_notT, e_and, k_and, k_and3, e_or, k_or, k_or3, e_not, k_not, e_if, k_if, e_ch, k_ch1, k_ch2, k_ch3, a_nil, a_t, a_c, e_tup, k_tup, k_tup2, e_lst, k_lst, k_lst2, e_then, k_then, k_thenr, e_drop, k_drop, e_rt, k_rt, e_rtN, e_nx, e_ifS, k_ifS, e_set, k_set, k_set2, e_asg, k_asg, k_asg2, t_name, t_name2, t_nil, t_cons, t_cons2, t_tup, e_par, k_par, k_par2, l_nil, l_t, l_s, l_v, l_l, l_d, l_o, l_c, gb_nil, gb_t, gb_f, gb_s, gb_s2, gb_n, e_call, k_call, k_call1, k_call2, k_call3, e_fn, k_fn, k_fnN, e_seq, k_seqL, k_seqv, k_seqt, e_src, k_src, k_src2, k_src3, e_for, k_for, n_ok, p_nil, p_cons, p_k, p_no, p_v, q_nil, q_cons, q_no, q_v, e_lc, k_lc, k_lc2, k_lc3, k_lc4, e_ld, k_ld, k_ld2, x_nil, x_cons, x_1, x_2, x_3, x_4, x_5, x_yes, x_sz, f_nil, f_cons, f_1, f_nx, f_ct, f_bk, f_rt, e_at, k_at2, k_at3, e_rs, k_rs, k_rs1, k_rs2, ao_nil, ao_t, ao_c, e_mt, k_mt, k_mt1, k_mt2, k_mt3, e_rep, k_rep, e_lam, k_lamx, k_lam, y_kn, y_kv, y_k0, y_kl, y_kd, y_on, y_ot, y_of, y_oe, y_ln, y_lt, y_lf, y_le, y_mt, y_mf, y_me, y_mn, y_told, y_non, y_val, List.length_cons, List.length_nil, List.cons_append, List.nil_append, List.take_succ_cons, List.take_zero, Bool.false_eq_true, reduceIte, sz_lit, Nat.reduceAdd, Nat.reduceLeDiff, Nat.reduceLT, Nat.zero_add, o_ci, o_addI, o_sub, o_neg, o_int, o_intB, o_min, o_max, o_aug, o_lenL, o_lenT, o_tupL, o_tupT, o_listL, o_listT, o_s10L, o_s10T, o_s01L, o_s01T, o_s11L, o_s11T, o_eqI, o_neI, o_eqS, o_neS, o_isB, o_isNotB, o_isN, o_isNotN, u_dT, u_dF, u_non, u_bl, u_int, u_tup, u_lst, c, hd, this]
    | true =>
      cases d with
      | int i => simp only [b_ok, b_ex, b_ret, w_g0, w_g1, w_s0, w_s1, z_v, z_l, e_lit, e_rd, k_rd, e_mv, k_mv, e_fz, k_fz, e_nil, e_ex, k_ex, k_ex1, e_exI, k_exI, e_sl, k_sl, k_sl1, w_nil, w_t, w_s, w_vw, w_c, e_op, k_op, k_op2, k_op3, e_b, k_b, e_tr, k_tr, k_tr2, k_tr3, e_andT, k_andT, e_orT, k_orT, e_notT, k_notT, e_and, k_and, k_and3, e_or, k_or, k_or3, e_not, k_not, e_if, k_if, e_ch, k_ch1, k_ch2, k_ch3, a_nil, a_t, a_c, e_tup, k_tup, k_tup2, e_lst, k_lst, k_lst2, e_then, k_then, k_thenr, e_drop, k_drop, e_rt, k_rt, e_rtN, e_nx, e_ifS, k_ifS, e_set, k_set, k_set2, e_asg, k_asg, k_asg2, t_name, t_name2, t_nil, t_cons, t_cons2, t_tup, e_par, k_par, k_par2, l_nil, l_t, l_s, l_v, l_l, l_d, l_o, l_c, gb_nil, gb_t, gb_f, gb_s, gb_s2, gb_n, e_call, k_call, k_call1, k_call2, k_call3, e_fn, k_fn, k_fnN, e_seq, k_seqL, k_seqv, k_seqt, e_src, k_src, k_src2, k_src3, e_for, k_for, n_ok, p_nil, p_cons, p_k, p_no, p_v, q_nil, q_cons, q_no, q_v, e_lc, k_lc, k_lc2, k_lc3, k_lc4, e_ld, k_ld, k_ld2, x_nil, x_cons, x_1, x_2, x_3, x_4, x_5, x_yes, x_sz, f_nil, f_cons, f_1, f_nx, f_ct, f_bk, f_rt, e_at, k_at2, k_at3, e_rs, k_rs, k_rs1, k_rs2, ao_nil, ao_t, ao_c, e_mt, k_mt, k_mt1, k_mt2, k_mt3, e_rep, k_rep, e_lam, k_lamx, k_lam, y_kn, y_kv, y_k0, y_kl, y_kd, y_on, y_ot, y_of, y_oe, y_ln, y_lt, y_lf, y_le, y_mt, y_mf, y_me, y_mn, y_told, y_non, y_val, List.length_cons, List.length_nil, List.cons_append, List.nil_append, List.take_succ_cons, List.take_zero, Bool.false_eq_true, reduceIte, sz_lit, Nat.reduceAdd, Nat.reduceLeDiff, Nat.reduceLT, Nat.zero_add, o_ci, o_addI, o_sub, o_neg, o_int, o_intB, o_min, o_max, o_aug, o_lenL, o_lenT, o_tupL, o_tupT, o_listL, o_listT, o_s10L, o_s10T, o_s01L, o_s01T, o_s11L, o_s11T, o_eqI, o_neI, o_eqS, o_neS, o_isB, o_isNotB, o_isN, o_isNotN, u_dT, u_dF, u_non, u_bl, u_int, u_tup, u_lst, c, hd]; rfl
      | _ => cases hd
  have h3 : trus [.bl (pos i), .bl (pos o)] = some [pos i, pos o] := rfl
  simp only [b_ok, b_ex, b_ret, w_g0, w_g1, w_s0, w_s1, z_v, z_l, e_lit, e_rd, k_rd, e_mv, k_mv, e_fz, k_fz, e_nil, e_ex, k_ex, k_ex1, e_exI, k_exI, e_sl, k_sl, k_sl1, w_nil, w_t, w_s, w_vw, w_c, e_op, k_op, k_op2, k_op3, e_b, k_b, e_tr, k_tr, k_tr2, k_tr3, e_andT, k_andT, e_orT, k_orT, e_notT, k_notT, e_and, k_and, k_and3, e_or, k_or, k_or3, e_not, k_not, e_if, k_if, e_ch, k_ch1, k_ch2, k_ch3, a_nil, a_t, a_c, e_tup, k_tup, k_tup2, e_lst, k_lst, k_lst2, e_then, k_then, k_thenr, e_drop, k_drop, e_rt, k_rt, e_rtN, e_nx, e_ifS, k_ifS, e_set, k_set, k_set2, e_asg, k_asg, k_asg2, t_name, t_name2, t_nil, t_cons, t_cons2, t_tup, e_par, k_par, k_par2, l_nil, l_t, l_s, l_v, l_l, l_d, l_o, l_c, gb_nil, gb_t, gb_f, gb_s, gb_s2, gb_n, e_call, k_call, k_call1, k_call2, k_call3, e_fn, k_fn, k_fnN, e_seq, k_seqL, k_seqv, k_seqt, e_src, k_src, k_src2, k_src3, e_for, k_for, n_ok, p_nil, p_cons, p_k, p_no, p_v, q_nil, q_cons, q_no, q_v, e_lc, k_lc, k_lc2, k_lc3, k_lc4, e_ld, k_ld, k_ld2, x_nil, x_cons, x_1, x_2, x_3, x_4, x_5, x_yes, x_sz, f_nil, f_cons, f_1, f_nx, f_ct, f_bk, f_rt, e_at, k_at2, k_at3, e_rs, k_rs, k_rs1, k_rs2, ao_nil, ao_t, ao_c, e_mt, k_mt, k_mt1, k_mt2, k_mt3, e_rep, k_rep, e_lam, k_lamx, k_lam, y_kn, y_kv, y_k0, y_kl, y_kd, y_on, y_ot, y_of, y_oe, y_ln, y_lt, y_lf, y_le, y_mt, y_mf, y_me, y_mn, y_told, y_non, y_val, List.length_cons, List.length_nil, List.cons_append, List.nil_append, List.take_succ_cons, List.take_zero, Bool.false_eq_true, reduceIte, sz_lit, Nat.reduceAdd, Nat.reduceLeDiff, Nat.reduceLT, Nat.zero_add, o_ci, o_addI, o_sub, o_neg, o_int, o_intB, o_min, o_max, o_aug, o_lenL, o_lenT, o_tupL, o_tupT, o_listL, o_listT, o_s10L, o_s10T, o_s01L, o_s01T, o_s11L, o_s11T, o_eqI, o_neI, o_eqS, o_neS, o_isB, o_isNotB, o_isN, o_isNotN, u_dT, u_dF, u_non, u_bl, u_int, u_tup, u_lst, x_sz, ↓el h1, ↓el h2, o_allM h3]
  simp only [List.all_cons, List.all_nil, id, Bool.and_true]
/-- what the comprehension over layers keeps -/
def lyr (d : D) : D := if isTup d = true then d else .bl false
theorem trus_lyr : ∀ {ls : List D}, ls.all layT = true → trus (ls.map lyr) = some (ls.map full)
  | [], _ => rfl
  | d :: ls, h => by
    obtain ⟨h1, h2⟩ := Bool.and_eq_true_iff.mp (show (layT d && ls.all layT) = true from h)
    cases d with
    | tup gs =>
      show (match some (!gs.isEmpty), trus (ls.map lyr) with
        | some b, some bs => some (b :: bs)
        | _, _ => none) = _
      rw [trus_lyr h2]
      rfl
    | lst gs =>
      show (match some false, trus (ls.map lyr) with
        | some b, some bs => some (b :: bs)
        | _, _ => none) = _
      rw [trus_lyr h2]
      rfl
    | _ => cases h1
abbrev e9 (p : Int) (ls : List D) (i o : D) (x : Sl) : Vn := [sv (.int p), sv (.tup ls), sv i, sv o, x, no, no, no, no]
section
variable {p : Int} {ls : List D} {i o : D}
theorem all_full (h : ls.all layT = true) (hl : ls.length ≤ 1000) :
    vOp fAllM (vEx (vLc [6] (vSeq (vRd 1)) (tgName 6) vYes (vAnd (vOp (fIsi tabTup) (vSl 6 vNil)) (vRd 6))) vNil) (e9 p ls i o no) = re (.v (.bl (ls.all full))) (e9 p ls i o no) := by
  have lc := lc_all (own := [6]) (gi := vSeq (vRd 1)) (t := tgName 6) (f := vAnd (vOp (fIsi tabTup) (vSl 6 vNil)) (vRd 6)) (env := e9 p ls i o no) (g := lyr) (ds := ls) rfl rfl rfl (by omega) fun d hd => by
    have hq := List.all_eq_true.mp h d hd
    refine ⟨[sv (.int p), sv (.tup ls), sv i, sv o, no, no, sv d, no, no], [sv (.int p), sv (.tup ls), sv i, sv o, no, no, sv d, no, no], rfl, ?_, rfl⟩
    cases d with
    | tup gs => rfl
    | lst gs => rfl
    | _ => cases hq
  simp only [e_op, e_ex, ↓lc, b_ok, b_ex, b_ret, w_g0, w_g1, w_s0, w_s1, z_v, z_l, e_lit, e_rd, k_rd, e_mv, k_mv, e_fz, k_fz, e_nil, e_ex, k_ex, k_ex1, e_exI, k_exI, e_sl, k_sl, k_sl1, w_nil, w_t, w_s, w_vw, w_c, e_op, k_op, k_op2, k_op3, e_b, k_b, e_tr, k_tr, k_tr2, k_tr3, e_andT, k_andT, e_orT, k_orT, e_notT, k_notT, e_and, k_and, k_and3, e_or, k_or, k_or3, e_not, k_not, e_if, k_if, e_ch, k_ch1, k_ch2, k_ch3, a_nil, a_t, a_c, e_tup, k_tup, k_tup2, e_lst, k_lst, k_lst2, e_then, k_then, k_thenr, e_drop, k_drop, e_rt, k_rt, e_rtN, e_nx, e_ifS, k_ifS, e_set, k_set, k_set2, e_asg, k_asg, k_asg2, t_name, t_name2, t_nil, t_cons, t_cons2, t_tup, e_par, k_par, k_par2, l_nil, l_t, l_s, l_v, l_l, l_d, l_o, l_c, gb_nil, gb_t, gb_f, gb_s, gb_s2, gb_n, e_call, k_call, k_call1, k_call2, k_call3, e_fn, k_fn, k_fnN, e_seq, k_seqL, k_seqv, k_seqt, e_src, k_src, k_src2, k_src3, e_for, k_for, n_ok, p_nil, p_cons, p_k, p_no, p_v, q_nil, q_cons, q_no, q_v, e_lc, k_lc, k_lc2, k_lc3, k_lc4, e_ld, k_ld, k_ld2, x_nil, x_cons, x_1, x_2, x_3, x_4, x_5, x_yes, x_sz, f_nil, f_cons, f_1, f_nx, f_ct, f_bk, f_rt, e_at, k_at2, k_at3, e_rs, k_rs, k_rs1, k_rs2, ao_nil, ao_t, ao_c, e_mt, k_mt, k_mt1, k_mt2, k_mt3, e_rep, k_rep, e_lam, k_lamx, k_lam, y_kn, y_kv, y_k0, y_kl, y_kd, y_on, y_ot, y_of, y_oe, y_ln, y_lt, y_lf, y_le, y_mt, y_mf, y_me, y_mn, y_told, y_non, y_val, List.length_cons, List.length_nil, List.cons_append, List.nil_append, List.take_succ_cons, List.take_zero, Bool.false_eq_true, reduceIte, sz_lit, Nat.reduceAdd, Nat.reduceLeDiff, Nat.reduceLT, Nat.zero_add, o_allM (trus_lyr h), List.all_map, Function.comp_def, id]
theorem behind_ok (x : D → D → Prop) (h : ls.all full = true) (hl : ls.length ≤ 1000) :
    vOp fAdd (vEx (vLc [6] (vSeq (vOp fS10 (vSl 1 (vExI (vLit (.int 1)) vNil)))) (tgName 6) vYes (vFz (vOp fLen (vSl 6 vNil)))) (vEx (vLst (vEx (vRd 2) vNil)) vNil)) (e9 p ls i o no) = re (.l (bh ls i)) (e9 p ls i o no) := by
  have it : vSeq (vOp fS10 (vSl 1 (vExI (vLit (.int 1)) vNil))) (e9 p ls i o no) = some (.ok (ls.drop 1, e9 p ls i o no)) := by
    cases ls with
    | nil => rfl
    | cons l r =>
      show (some (R.ok (cutD (l :: r) (some ((1 : Nat) : Int)) none, _)) : M (List D × Vn)) = _
      rw [cut_from (by simp)]
  have lc := lc_all (own := [6]) (gi := vSeq (vOp fS10 (vSl 1 (vExI (vLit (.int 1)) vNil)))) (t := tgName 6) (f := vFz (vOp fLen (vSl 6 vNil))) (env := e9 p ls i o no) (g := fun l => .int (gates l).length) (ds := ls.drop 1) it rfl rfl (by rw [List.length_drop]; omega) fun d hd => by
    have hq := List.all_eq_true.mp h d (List.mem_of_mem_drop hd)
    refine ⟨[sv (.int p), sv (.tup ls), sv i, sv o, no, no, sv d, no, no], [sv (.int p), sv (.tup ls), sv i, sv o, no, no, sv d, no, no], rfl, ?_, rfl⟩
    cases d with
    | tup gs => rfl
    | _ => cases hq
  have hs : sizeLine = 16777216 := sizeLine_eq
  have sz : ((ls.drop 1).map (fun l => D.int (gates l).length)).length + [i].length ≤ sizeLine := by
    rw [List.length_map, List.length_drop, List.length_singleton]
    omega
  simp only [e_op, e_ex, ↓lc, b_ok, b_ex, b_ret, w_g0, w_g1, w_s0, w_s1, z_v, z_l, e_lit, e_rd, k_rd, e_mv, k_mv, e_fz, k_fz, e_nil, e_ex, k_ex, k_ex1, e_exI, k_exI, e_sl, k_sl, k_sl1, w_nil, w_t, w_s, w_vw, w_c, e_op, k_op, k_op2, k_op3, e_b, k_b, e_tr, k_tr, k_tr2, k_tr3, e_andT, k_andT, e_orT, k_orT, e_notT, k_notT, e_and, k_and, k_and3, e_or, k_or, k_or3, e_not, k_not, e_if, k_if, e_ch, k_ch1, k_ch2, k_ch3, a_nil, a_t, a_c, e_tup, k_tup, k_tup2, e_lst, k_lst, k_lst2, e_then, k_then, k_thenr, e_drop, k_drop, e_rt, k_rt, e_rtN, e_nx, e_ifS, k_ifS, e_set, k_set, k_set2, e_asg, k_asg, k_asg2, t_name, t_name2, t_nil, t_cons, t_cons2, t_tup, e_par, k_par, k_par2, l_nil, l_t, l_s, l_v, l_l, l_d, l_o, l_c, gb_nil, gb_t, gb_f, gb_s, gb_s2, gb_n, e_call, k_call, k_call1, k_call2, k_call3, e_fn, k_fn, k_fnN, e_seq, k_seqL, k_seqv, k_seqt, e_src, k_src, k_src2, k_src3, e_for, k_for, n_ok, p_nil, p_cons, p_k, p_no, p_v, q_nil, q_cons, q_no, q_v, e_lc, k_lc, k_lc2, k_lc3, k_lc4, e_ld, k_ld, k_ld2, x_nil, x_cons, x_1, x_2, x_3, x_4, x_5, x_yes, x_sz, f_nil, f_cons, f_1, f_nx, f_ct, f_bk, f_rt, e_at, k_at2, k_at3, e_rs, k_rs, k_rs1, k_rs2, ao_nil, ao_t, ao_c, e_mt, k_mt, k_mt1, k_mt2, k_mt3, e_rep, k_rep, e_lam, k_lamx, k_lam, y_kn, y_kv, y_k0, y_kl, y_kd, y_on, y_ot, y_of, y_oe, y_ln, y_lt, y_lf, y_le, y_mt, y_mf, y_me, y_mn, y_told, y_non, y_val, List.length_cons, List.length_nil, List.cons_append, List.nil_append, List.take_succ_cons, List.take_zero, Bool.false_eq_true, reduceIte, sz_lit, Nat.reduceAdd, Nat.reduceLeDiff, Nat.reduceLT, Nat.zero_add, o_addL sz]
  rfl
end
end Lw

set_option Elab.async false
set_option linter.all false
set_option maxRecDepth 100000
set_option maxHeartbeats 2000000
/-! k39, f: the program's judge of layers. -/
namespace Lw
open PySem PySem.Spec L2 Vi
open PyProof.Rows hiding St

theorem trus_map {bs : List Bool} : trus (bs.map D.bl) = some bs := by
  induction bs with
  | nil => rfl
  | cons b bs ih =>
    show (match (D.bl b).tru, trus (bs.map D.bl) with
      | some b, some bs => some (b :: bs)
      | _, _ => none) = _
    rw [ih]
    rfl
/-- the gates of a pair, and what is asked of each -/
def zx : D → List D
  | .tup [l, _] => gates l
  | _ => []
def zg (p : Int) : D → D → D
  | .tup [_, k], x => .bl (gateOk p (iz k) x)
  | _, _ => .non
section
variable {p : Int} {ls : List D} {i o : D}
theorem bh_int : ∀ x ∈ bh ls (.int iz0), ∃ m, x = D.int m := by
  intro x hx
  unfold bh at hx
  rcases List.mem_append.mp hx with hx | hx
  · obtain ⟨l, _, rfl⟩ := List.mem_map.mp hx
    exact ⟨_, rfl⟩
  · exact ⟨_, List.mem_singleton.mp hx⟩
theorem len_bh : (bh ls i).length ≤ ls.length + 1 := by
  unfold bh
  rw [List.length_append, List.length_map, List.length_drop, List.length_singleton]
  omega
abbrev eB (p : Int) (ls : List D) (i o : D) : Vn := [sv (.int p), sv (.tup ls), sv i, sv o, sv (.lst (bh ls i)), no, no, no, no]
theorem sum_le : ∀ {qs : List (D × D)}, (∀ q ∈ qs, (gates q.1).length ≤ 1000) → (qs.flatMap fun q => gates q.1).length ≤ qs.length * 1000
  | [], _ => Nat.le_refl _
  | q :: qs, h => by
    rw [List.flatMap_cons, List.length_append, List.length_cons]
    have := sum_le (qs := qs) fun x hx => h x (List.mem_cons_of_mem _ hx)
    have := h q List.mem_cons_self
    omega
theorem zip_all {m : Int} (h : ls.all layT = true) (hf : ls.all full = true) (hl : ls.length ≤ 1000) :
    vOp fAllM (vEx (vLc2 [6, 7, 8] [8] (vSrc sZipK (vEx (vRd 1) (vEx (vRd 4) vNil))) (tgTup (tgCons (tgName 6) (tgCons (tgName 7) tgNil))) vYes (vSeq (vRd 6)) (tgName 8) vYes (vFz (vCall v_is_layer_gate (vSl 0 (vSl 8 (vSl 7 vNil)))))) vNil) [sv (.int p), sv (.tup ls), sv (.int m), sv o, ⟨false, some (.l (bh ls (.int m)))⟩, no, no, no, no] = re (.v (.bl (allG p ls (.int m)))) (eB p ls (.int m) o) := by
  have hs : sizeLine = 16777216 := sizeLine_eq
  have hz : ∀ q ∈ ls.zip (bh ls (.int m)), layT q.1 = true ∧ full q.1 = true ∧ ∃ k, q.2 = D.int k := by
    intro q hq
    obtain ⟨q1, q2⟩ := q
    have := List.of_mem_zip hq
    exact ⟨List.all_eq_true.mp h _ this.1, List.all_eq_true.mp hf _ this.1, bh_int _ this.2⟩
  have go := goLc2_all (own := [6, 7, 8]) (vs1 := [8]) (t := tgTup (tgCons (tgName 6) (tgCons (tgName 7) tgNil))) (t1 := tgName 8) (gi1 := vSeq (vRd 6)) (f := vFz (vCall v_is_layer_gate (vSl 0 (vSl 8 (vSl 7 vNil))))) (env := eB p ls (.int m) o) (xs := zx) (g := zg p) ((ls.zip (bh ls (.int m))).map fun q => .tup [q.1, q.2]) [] (fun d hd => by
    obtain ⟨⟨l, k⟩, hq, rfl⟩ := List.mem_map.mp hd
    obtain ⟨a1, a2, k, rfl⟩ := hz _ hq
    cases l with
    | tup gs =>
      have a3 : gs.all gT = true := (Bool.and_eq_true_iff.mp a1).1
      refine ⟨[sv (.int p), sv (.tup ls), sv (.int m), sv o, sv (.lst (bh ls (.int m))), no, sv (.tup gs), sv (.int k), no], [sv (.int p), sv (.tup ls), sv (.int m), sv o, sv (.lst (bh ls (.int m))), no, sv (.tup gs), sv (.int k), no], [sv (.int p), sv (.tup ls), sv (.int m), sv o, sv (.lst (bh ls (.int m))), no, sv (.tup gs), sv (.int k), no], rfl, rfl, rfl, fun x hx => ?_, rfl⟩
      have hg := gate_ok (p := p) (m := k) (List.all_eq_true.mp a3 x hx)
      refine ⟨[sv (.int p), sv (.tup ls), sv (.int m), sv o, sv (.lst (bh ls (.int m))), no, sv (.tup gs), sv (.int k), sv x], [sv (.int p), sv (.tup ls), sv (.int m), sv o, sv (.lst (bh ls (.int m))), no, sv (.tup gs), sv (.int k), sv x], rfl, ?_, rfl⟩
      have hg' : v_is_layer_gate [sv (.int p), sv x, sv (.int k)] = _ := hg
      simp only [b_ok, b_ex, b_ret, w_g0, w_g1, w_s0, w_s1, z_v, z_l, e_lit, e_rd, k_rd, e_mv, k_mv, e_fz, k_fz, e_nil, e_ex, k_ex, k_ex1, e_exI, k_exI, e_sl, k_sl, k_sl1, w_nil, w_t, w_s, w_vw, w_c, e_op, k_op, k_op2, k_op3, e_b, k_b, e_tr, k_tr, k_tr2, k_tr3, e_andT, k_andT, e_orT, k_orT, e_notT, k_notT, e_and, k_and, k_and3, e_or, k_or, k_or3, e_not, k_not, e_if, k_if, e_ch, k_ch1, k_ch2, k_ch3, a_nil, a_t, a_c, e_tup, k_tup, k_tup2, e_lst, k_lst, k_lst2, e_then, k_then, k_thenr, e_drop, k_drop, e_rt, k_rt, e_rtN, e_nx, e_ifS, k_ifS, e_set, k_set, k_set2, e_asg, k_asg, k_asg2, t_name, t_name2, t_nil, t_cons, t_cons2, t_tup, e_par, k_par, k_par2, l_nil, l_t, l_s, l_v, l_l, l_d, l_o, l_c, gb_nil, gb_t, gb_f, gb_s, gb_s2, gb_n, e_call, k_call, k_call1, k_call2, k_call3, e_fn, k_fn, k_fnN, e_seq, k_seqL, k_seqv, k_seqt, e_src, k_src, k_src2, k_src3, e_for, k_for, n_ok, p_nil, p_cons, p_k, p_no, p_v, q_nil, q_cons, q_no, q_v, e_lc, k_lc, k_lc2, k_lc3, k_lc4, e_ld, k_ld, k_ld2, x_nil, x_cons, x_1, x_2, x_3, x_4, x_5, x_yes, x_sz, f_nil, f_cons, f_1, f_nx, f_ct, f_bk, f_rt, e_at, k_at2, k_at3, e_rs, k_rs, k_rs1, k_rs2, ao_nil, ao_t, ao_c, e_mt, k_mt, k_mt1, k_mt2, k_mt3, e_rep, k_rep, e_lam, k_lamx, k_lam, y_kn, y_kv, y_k0, y_kl, y_kd, y_on, y_ot, y_of, y_oe, y_ln, y_lt, y_lf, y_le, y_mt, y_mf, y_me, y_mn, y_told, y_non, y_val, List.length_cons, List.length_nil, List.cons_append, List.nil_append, List.take_succ_cons, List.take_zero, Bool.false_eq_true, reduceIte, sz_lit, Nat.reduceAdd, Nat.reduceLeDiff, Nat.reduceLT, Nat.zero_add, hg']
      rfl
    | _ => cases a2) (by
      rw [List.length_nil, List.flatMap_map]
      have b1 := sum_le (qs := ls.zip (bh ls (.int m))) fun q hq => by
        obtain ⟨a1, a2, _⟩ := hz q hq
        obtain ⟨l, k⟩ := q
        cases l with
        | tup gs => exact of_decide_eq_true (Bool.and_eq_true_iff.mp a1).2
        | _ => cases a2
      have b2 : (ls.zip (bh ls (.int m))).length ≤ 1000 := by
        rw [List.length_zip]
        omega
      have b3 : (ls.zip (bh ls (.int m))).length * 1000 ≤ 1000 * 1000 := Nat.mul_le_mul b2 (Nat.le_refl _)
      show 0 + ((ls.zip (bh ls (.int m))).flatMap fun q => gates q.1).length ≤ sizeLine
      omega)
  have hr : ∀ qs : List (D × D), (qs.map fun q => D.tup [q.1, q.2]).flatMap (fun d => (zx d).map (zg p d)) = (qs.flatMap fun q => (gates q.1).map (gateOk p (iz q.2))).map D.bl := by
    intro qs
    rw [List.flatMap_map, List.map_flatMap]
    congr 1
    funext q
    rw [List.map_map]
    rfl
  have ha : ((ls.zip (bh ls (.int m))).flatMap fun q => (gates q.1).map (gateOk p (iz q.2))).all id = allG p ls (.int m) := by
    rw [List.all_flatMap]
    unfold allG
    congr 1
    funext q
    rw [List.all_map]
    rfl
  have src : vSrc sZipK (vEx (vRd 1) (vEx (vRd 4) vNil)) [sv (.int p), sv (.tup ls), sv (.int m), sv o, ⟨false, some (.l (bh ls (.int m)))⟩, no, no, no, no] = some (.ok ((ls.zip (bh ls (.int m))).map fun q => .tup [q.1, q.2], eB p ls (.int m) o)) := rfl
  have lc := lc2_eq (own := [6, 7, 8]) src (e0 := eB p ls (.int m) o) rfl go (e2 := eB p ls (.int m) o) rfl
  rw [List.nil_append, hr] at lc
  simp only [e_op, e_ex, ↓lc, b_ok, b_ex, b_ret, w_g0, w_g1, w_s0, w_s1, z_v, z_l, e_lit, e_rd, k_rd, e_mv, k_mv, e_fz, k_fz, e_nil, e_ex, k_ex, k_ex1, e_exI, k_exI, e_sl, k_sl, k_sl1, w_nil, w_t, w_s, w_vw, w_c, e_op, k_op, k_op2, k_op3, e_b, k_b, e_tr, k_tr, k_tr2, k_tr3, e_andT, k_andT, e_orT, k_orT, e_notT, k_notT, e_and, k_and, k_and3, e_or, k_or, k_or3, e_not, k_not, e_if, k_if, e_ch, k_ch1, k_ch2, k_ch3, a_nil, a_t, a_c, e_tup, k_tup, k_tup2, e_lst, k_lst, k_lst2, e_then, k_then, k_thenr, e_drop, k_drop, e_rt, k_rt, e_rtN, e_nx, e_ifS, k_ifS, e_set, k_set, k_set2, e_asg, k_asg, k_asg2, t_name, t_name2, t_nil, t_cons, t_cons2, t_tup, e_par, k_par, k_par2, l_nil, l_t, l_s, l_v, l_l, l_d, l_o, l_c, gb_nil, gb_t, gb_f, gb_s, gb_s2, gb_n, e_call, k_call, k_call1, k_call2, k_call3, e_fn, k_fn, k_fnN, e_seq, k_seqL, k_seqv, k_seqt, e_src, k_src, k_src2, k_src3, e_for, k_for, n_ok, p_nil, p_cons, p_k, p_no, p_v, q_nil, q_cons, q_no, q_v, e_lc, k_lc, k_lc2, k_lc3, k_lc4, e_ld, k_ld, k_ld2, x_nil, x_cons, x_1, x_2, x_3, x_4, x_5, x_yes, x_sz, f_nil, f_cons, f_1, f_nx, f_ct, f_bk, f_rt, e_at, k_at2, k_at3, e_rs, k_rs, k_rs1, k_rs2, ao_nil, ao_t, ao_c, e_mt, k_mt, k_mt1, k_mt2, k_mt3, e_rep, k_rep, e_lam, k_lamx, k_lam, y_kn, y_kv, y_k0, y_kl, y_kd, y_on, y_ot, y_of, y_oe, y_ln, y_lt, y_lf, y_le, y_mt, y_mf, y_me, y_mn, y_told, y_non, y_val, List.length_cons, List.length_nil, List.cons_append, List.nil_append, List.take_succ_cons, List.take_zero, Bool.false_eq_true, reduceIte, sz_lit, Nat.reduceAdd, Nat.reduceLeDiff, Nat.reduceLT, Nat.zero_add, o_allM trus_map, ha]
theorem are_ok {T : D} (hp : v_is_prime [sv (.int p)] = re (.v (.bl (pB p))) [sv (.int p)]) (h1 : pl i = true) (h2 : pl o = true) (hT : (∃ ls, T = .tup ls ∧ ls.all layT = true ∧ ls.length ≤ 1000) ∨ ∃ ls, T = .lst ls) : v_are_layers [sv (.int p), sv T, sv i, sv o] = re (.v (.bl (areB p T i o))) [sv (.int p), sv T, sv i, sv o] := by
  have c := pos_two (p := p) (T := T) h1 h2
  unfold v_are_layers areB
  rw [e_fn (n := 4) rfl]
  show M.bind (b_are_layers [sv (.int p), sv T, sv i, sv o, no, no, no, no, no]) (kFn 4) = _
  cases hb : pB p with
  | false => simp only [b_are_layers, ↓c, b_ok, b_ex, b_ret, w_g0, w_g1, w_s0, w_s1, z_v, z_l, e_lit, e_rd, k_rd, e_mv, k_mv, e_fz, k_fz, e_nil, e_ex, k_ex, k_ex1, e_exI, k_exI, e_sl, k_sl, k_sl1, w_nil, w_t, w_s, w_vw, w_c, e_op, k_op, k_op2, k_op3, e_b, k_b, e_tr, k_tr, k_tr2, k_tr3, e_andT, k_andT, e_orT, k_orT, e_notT, k_notT, e_and, k_and, k_and3, e_or, k_or, k_or3, e_not, k_not, e_if, k_if, e_ch, k_ch1, k_ch2, k_ch3, a_nil, a_t, a_c, e_tup, k_tup, k_tup2, e_lst, k_lst, k_lst2, e_then, k_then, k_thenr, e_drop, k_drop, e_rt, k_rt, e_rtN, e_nx, e_ifS, k_ifS, e_set, k_set, k_set2, e_asg, k_asg, k_asg2, t_name, t_name2, t_nil, t_cons, t_cons2, t_tup, e_par, k_par, k_par2, l_nil, l_t, l_s, l_v, l_l, l_d, l_o, l_c, gb_nil, gb_t, gb_f, gb_s, gb_s2, gb_n, e_call, k_call, k_call1, k_call2, k_call3, e_fn, k_fn, k_fnN, e_seq, k_seqL, k_seqv, k_seqt, e_src, k_src, k_src2, k_src3, e_for, k_for, n_ok, p_nil, p_cons, p_k, p_no, p_v, q_nil, q_cons, q_no, q_v, e_lc, k_lc, k_lc2, k_lc3, k_lc4, e_ld, k_ld, k_ld2, x_nil, x_cons, x_1, x_2, x_3, x_4, x_5, x_yes, x_sz, f_nil, f_cons, f_1, f_nx, f_ct, f_bk, f_rt, e_at, k_at2, k_at3, e_rs, k_rs, k_rs1, k_rs2, ao_nil, ao_t, ao_c, e_mt, k_mt, k_mt1, k_mt2, k_mt3, e_rep, k_rep, e_lam, k_lamx, k_lam, y_kn, y_kv, y_k0, y_kl, y_kd, y_on, y_ot, y_of, y_oe, y_ln, y_lt, y_lf, y_le, y_mt, y_mf, y_me, y_mn, y_told, y_non, y_val, List.length_cons, List.length_nil, List.cons_append, List.nil_append, List.take_succ_cons, List.take_zero, Bool.false_eq_true, reduceIte, sz_lit, Nat.reduceAdd, Nat.reduceLeDiff, Nat.reduceLT, Nat.zero_add, o_ci, o_addI, o_sub, o_neg, o_int, o_intB, o_min, o_max, o_aug, o_lenL, o_lenT, o_tupL, o_tupT, o_listL, o_listT, o_s10L, o_s10T, o_s01L, o_s01T, o_s11L, o_s11T, o_eqI, o_neI, o_eqS, o_neS, o_isB, o_isNotB, o_isN, o_isNotN, u_dT, u_dF, u_non, u_bl, u_int, u_tup, u_lst, hp, hb, Bool.false_and, Bool.not_false]
  | true =>
    cases hi : pos i && pos o with
    | false =>
      rw [← Bool.and_assoc (pos i), hi]
      rw [hi] at c
      simp only [b_are_layers, ↓c, b_ok, b_ex, b_ret, w_g0, w_g1, w_s0, w_s1, z_v, z_l, e_lit, e_rd, k_rd, e_mv, k_mv, e_fz, k_fz, e_nil, e_ex, k_ex, k_ex1, e_exI, k_exI, e_sl, k_sl, k_sl1, w_nil, w_t, w_s, w_vw, w_c, e_op, k_op, k_op2, k_op3, e_b, k_b, e_tr, k_tr, k_tr2, k_tr3, e_andT, k_andT, e_orT, k_orT, e_notT, k_notT, e_and, k_and, k_and3, e_or, k_or, k_or3, e_not, k_not, e_if, k_if, e_ch, k_ch1, k_ch2, k_ch3, a_nil, a_t, a_c, e_tup, k_tup, k_tup2, e_lst, k_lst, k_lst2, e_then, k_then, k_thenr, e_drop, k_drop, e_rt, k_rt, e_rtN, e_nx, e_ifS, k_ifS, e_set, k_set, k_set2, e_asg, k_asg, k_asg2, t_name, t_name2, t_nil, t_cons, t_cons2, t_tup, e_par, k_par, k_par2, l_nil, l_t, l_s, l_v, l_l, l_d, l_o, l_c, gb_nil, gb_t, gb_f, gb_s, gb_s2, gb_n, e_call, k_call, k_call1, k_call2, k_call3, e_fn, k_fn, k_fnN, e_seq, k_seqL, k_seqv, k_seqt, e_src, k_src, k_src2, k_src3, e_for, k_for, n_ok, p_nil, p_cons, p_k, p_no, p_v, q_nil, q_cons, q_no, q_v, e_lc, k_lc, k_lc2, k_lc3, k_lc4, e_ld, k_ld, k_ld2, x_nil, x_cons, x_1, x_2, x_3, x_4, x_5, x_yes, x_sz, f_nil, f_cons, f_1, f_nx, f_ct, f_bk, f_rt, e_at, k_at2, k_at3, e_rs, k_rs, k_rs1, k_rs2, ao_nil, ao_t, ao_c, e_mt, k_mt, k_mt1, k_mt2, k_mt3, e_rep, k_rep, e_lam, k_lamx, k_lam, y_kn, y_kv, y_k0, y_kl, y_kd, y_on, y_ot, y_of, y_oe, y_ln, y_lt, y_lf, y_le, y_mt, y_mf, y_me, y_mn, y_told, y_non, y_val, List.length_cons, List.length_nil, List.cons_append, List.nil_append, List.take_succ_cons, List.take_zero, Bool.false_eq_true, reduceIte, sz_lit, Nat.reduceAdd, Nat.reduceLeDiff, Nat.reduceLT, Nat.zero_add, o_ci, o_addI, o_sub, o_neg, o_int, o_intB, o_min, o_max, o_aug, o_lenL, o_lenT, o_tupL, o_tupT, o_listL, o_listT, o_s10L, o_s10T, o_s01L, o_s01T, o_s11L, o_s11T, o_eqI, o_neI, o_eqS, o_neS, o_isB, o_isNotB, o_isN, o_isNotN, u_dT, u_dF, u_non, u_bl, u_int, u_tup, u_lst, hp, hb, Bool.false_and, Bool.true_and, Bool.not_false, Bool.not_true]
    | true =>
      rw [← Bool.and_assoc (pos i), hi]
      rw [hi] at c
      obtain ⟨i1, i2⟩ := Bool.and_eq_true_iff.mp hi
      rcases hT with ⟨ls, rfl, g1, g2⟩ | ⟨ls, rfl⟩
      · cases ls with
        | nil =>
          simp only [b_are_layers, ↓c, b_ok, b_ex, b_ret, w_g0, w_g1, w_s0, w_s1, z_v, z_l, e_lit, e_rd, k_rd, e_mv, k_mv, e_fz, k_fz, e_nil, e_ex, k_ex, k_ex1, e_exI, k_exI, e_sl, k_sl, k_sl1, w_nil, w_t, w_s, w_vw, w_c, e_op, k_op, k_op2, k_op3, e_b, k_b, e_tr, k_tr, k_tr2, k_tr3, e_andT, k_andT, e_orT, k_orT, e_notT, k_notT, e_and, k_and, k_and3, e_or, k_or, k_or3, e_not, k_not, e_if, k_if, e_ch, k_ch1, k_ch2, k_ch3, a_nil, a_t, a_c, e_tup, k_tup, k_tup2, e_lst, k_lst, k_lst2, e_then, k_then, k_thenr, e_drop, k_drop, e_rt, k_rt, e_rtN, e_nx, e_ifS, k_ifS, e_set, k_set, k_set2, e_asg, k_asg, k_asg2, t_name, t_name2, t_nil, t_cons, t_cons2, t_tup, e_par, k_par, k_par2, l_nil, l_t, l_s, l_v, l_l, l_d, l_o, l_c, gb_nil, gb_t, gb_f, gb_s, gb_s2, gb_n, e_call, k_call, k_call1, k_call2, k_call3, e_fn, k_fn, k_fnN, e_seq, k_seqL, k_seqv, k_seqt, e_src, k_src, k_src2, k_src3, e_for, k_for, n_ok, p_nil, p_cons, p_k, p_no, p_v, q_nil, q_cons, q_no, q_v, e_lc, k_lc, k_lc2, k_lc3, k_lc4, e_ld, k_ld, k_ld2, x_nil, x_cons, x_1, x_2, x_3, x_4, x_5, x_yes, x_sz, f_nil, f_cons, f_1, f_nx, f_ct, f_bk, f_rt, e_at, k_at2, k_at3, e_rs, k_rs, k_rs1, k_rs2, ao_nil, ao_t, ao_c, e_mt, k_mt, k_mt1, k_mt2, k_mt3, e_rep, k_rep, e_lam, k_lamx, k_lam, y_kn, y_kv, y_k0, y_kl, y_kd, y_on, y_ot, y_of, y_oe, y_ln, y_lt, y_lf, y_le, y_mt, y_mf, y_me, y_mn, y_told, y_non, y_val, List.length_cons, List.length_nil, List.cons_append, List.nil_append, List.take_succ_cons, List.take_zero, Bool.false_eq_true, reduceIte, sz_lit, Nat.reduceAdd, Nat.reduceLeDiff, Nat.reduceLT, Nat.zero_add, o_ci, o_addI, o_sub, o_neg, o_int, o_intB, o_min, o_max, o_aug, o_lenL, o_lenT, o_tupL, o_tupT, o_listL, o_listT, o_s10L, o_s10T, o_s01L, o_s01T, o_s11L, o_s11T, o_eqI, o_neI, o_eqS, o_neS, o_isB, o_isNotB, o_isN, o_isNotN, u_dT, u_dF, u_non, u_bl, u_int, u_tup, u_lst, hp, hb, i_tup (d := .tup []) rfl, isTup, List.isEmpty_nil, Bool.true_and, Bool.not_false, Bool.not_true]
        | cons l r =>
          have f1 := all_full (p := p) (i := i) (o := o) g1 g2
          cases hf : (l :: r).all full with
          | false =>
            rw [hf] at f1
            simp only [b_are_layers, ↓c, ↓f1, b_ok, b_ex, b_ret, w_g0, w_g1, w_s0, w_s1, z_v, z_l, e_lit, e_rd, k_rd, e_mv, k_mv, e_fz, k_fz, e_nil, e_ex, k_ex, k_ex1, e_exI, k_exI, e_sl, k_sl, k_sl1, w_nil, w_t, w_s, w_vw, w_c, e_op, k_op, k_op2, k_op3, e_b, k_b, e_tr, k_tr, k_tr2, k_tr3, e_andT, k_andT, e_orT, k_orT, e_notT, k_notT, e_and, k_and, k_and3, e_or, k_or, k_or3, e_not, k_not, e_if, k_if, e_ch, k_ch1, k_ch2, k_ch3, a_nil, a_t, a_c, e_tup, k_tup, k_tup2, e_lst, k_lst, k_lst2, e_then, k_then, k_thenr, e_drop, k_drop, e_rt, k_rt, e_rtN, e_nx, e_ifS, k_ifS, e_set, k_set, k_set2, e_asg, k_asg, k_asg2, t_name, t_name2, t_nil, t_cons, t_cons2, t_tup, e_par, k_par, k_par2, l_nil, l_t, l_s, l_v, l_l, l_d, l_o, l_c, gb_nil, gb_t, gb_f, gb_s, gb_s2, gb_n, e_call, k_call, k_call1, k_call2, k_call3, e_fn, k_fn, k_fnN, e_seq, k_seqL, k_seqv, k_seqt, e_src, k_src, k_src2, k_src3, e_for, k_for, n_ok, p_nil, p_cons, p_k, p_no, p_v, q_nil, q_cons, q_no, q_v, e_lc, k_lc, k_lc2, k_lc3, k_lc4, e_ld, k_ld, k_ld2, x_nil, x_cons, x_1, x_2, x_3, x_4, x_5, x_yes, x_sz, f_nil, f_cons, f_1, f_nx, f_ct, f_bk, f_rt, e_at, k_at2, k_at3, e_rs, k_rs, k_rs1, k_rs2, ao_nil, ao_t, ao_c, e_mt, k_mt, k_mt1, k_mt2, k_mt3, e_rep, k_rep, e_lam, k_lamx, k_lam, y_kn, y_kv, y_k0, y_kl, y_kd, y_on, y_ot, y_of, y_oe, y_ln, y_lt, y_lf, y_le, y_mt, y_mf, y_me, y_mn, y_told, y_non, y_val, List.length_cons, List.length_nil, List.cons_append, List.nil_append, List.take_succ_cons, List.take_zero, Bool.false_eq_true, reduceIte, sz_lit, Nat.reduceAdd, Nat.reduceLeDiff, Nat.reduceLT, Nat.zero_add, o_ci, o_addI, o_sub, o_neg, o_int, o_intB, o_min, o_max, o_aug, o_lenL, o_lenT, o_tupL, o_tupT, o_listL, o_listT, o_s10L, o_s10T, o_s01L, o_s01T, o_s11L, o_s11T, o_eqI, o_neI, o_eqS, o_neS, o_isB, o_isNotB, o_isN, o_isNotN, u_dT, u_dF, u_non, u_bl, u_int, u_tup, u_lst, hp, hb, i_tup (d := .tup (l :: r)) rfl, isTup, hf, List.isEmpty_cons, Bool.true_and, Bool.false_and, Bool.not_false, Bool.not_true]
          | true =>
            rw [hf] at f1
            cases i with
            | int m =>
              cases o with
              | int k =>
                have f2 := behind_ok (p := p) (i := .int m) (o := .int k) (fun _ _ => True) hf g2
                have f3 := zip_all (p := p) (o := .int k) (m := m) g1 hf g2
                cases l with
                | tup gs =>
                  have f4 : atI (D.tup gs :: r) 0 = some (.tup gs) := at_zero
                  by_cases hk : (gs.length : Int) < k
                  · have hk' : decide (k ≤ (gs.length : Int)) = false := decide_eq_false (by omega)
                    simp only [b_are_layers, ↓c, ↓f1, b_ok, b_ex, b_ret, w_g0, w_g1, w_s0, w_s1, z_v, z_l, e_lit, e_rd, k_rd, e_mv, k_mv, e_fz, k_fz, e_nil, e_ex, k_ex, k_ex1, e_exI, k_exI, e_sl, k_sl, k_sl1, w_nil, w_t, w_s, w_vw, w_c, e_op, k_op, k_op2, k_op3, e_b, k_b, e_tr, k_tr, k_tr2, k_tr3, e_andT, k_andT, e_orT, k_orT, e_notT, k_notT, e_and, k_and, k_and3, e_or, k_or, k_or3, e_not, k_not, e_if, k_if, e_ch, k_ch1, k_ch2, k_ch3, a_nil, a_t, a_c, e_tup, k_tup, k_tup2, e_lst, k_lst, k_lst2, e_then, k_then, k_thenr, e_drop, k_drop, e_rt, k_rt, e_rtN, e_nx, e_ifS, k_ifS, e_set, k_set, k_set2, e_asg, k_asg, k_asg2, t_name, t_name2, t_nil, t_cons, t_cons2, t_tup, e_par, k_par, k_par2, l_nil, l_t, l_s, l_v, l_l, l_d, l_o, l_c, gb_nil, gb_t, gb_f, gb_s, gb_s2, gb_n, e_call, k_call, k_call1, k_call2, k_call3, e_fn, k_fn, k_fnN, e_seq, k_seqL, k_seqv, k_seqt, e_src, k_src, k_src2, k_src3, e_for, k_for, n_ok, p_nil, p_cons, p_k, p_no, p_v, q_nil, q_cons, q_no, q_v, e_lc, k_lc, k_lc2, k_lc3, k_lc4, e_ld, k_ld, k_ld2, x_nil, x_cons, x_1, x_2, x_3, x_4, x_5, x_yes, x_sz, f_nil, f_cons, f_1, f_nx, f_ct, f_bk, f_rt, e_at, k_at2, k_at3, e_rs, k_rs, k_rs1, k_rs2, ao_nil, ao_t, ao_c, e_mt, k_mt, k_mt1, k_mt2, k_mt3, e_rep, k_rep, e_lam, k_lamx, k_lam, y_kn, y_kv, y_k0, y_kl, y_kd, y_on, y_ot, y_of, y_oe, y_ln, y_lt, y_lf, y_le, y_mt, y_mf, y_me, y_mn, y_told, y_non, y_val, List.length_cons, List.length_nil, List.cons_append, List.nil_append, List.take_succ_cons, List.take_zero, Bool.false_eq_true, reduceIte, sz_lit, Nat.reduceAdd, Nat.reduceLeDiff, Nat.reduceLT, Nat.zero_add, o_ci, o_addI, o_sub, o_neg, o_int, o_intB, o_min, o_max, o_aug, o_lenL, o_lenT, o_tupL, o_tupT, o_listL, o_listT, o_s10L, o_s10T, o_s01L, o_s01T, o_s11L, o_s11T, o_eqI, o_neI, o_eqS, o_neS, o_isB, o_isNotB, o_isN, o_isNotN, u_dT, u_dF, u_non, u_bl, u_int, u_tup, u_lst, o_ixT f4, hp, hb, i_tup (d := .tup (.tup gs :: r)) rfl, isTup, hf, List.isEmpty_cons, Bool.true_and, Bool.false_and, Bool.not_false, Bool.not_true, decide_eq_true hk, gates, iz]
                    show _ = re (.v (.bl (decide (k ≤ (gs.length : Int)) && allG p (.tup gs :: r) (.int m)))) [sv (.int p), sv (.tup (.tup gs :: r)), sv (.int m), sv (.int k)]
                    rw [hk']
                    rfl
                  · have hk' : decide (k ≤ (gs.length : Int)) = true := decide_eq_true (by omega)
                    simp only [b_are_layers, ↓c, ↓f1, ↓f2, ↓f3, b_ok, b_ex, b_ret, w_g0, w_g1, w_s0, w_s1, z_v, z_l, e_lit, e_rd, k_rd, e_mv, k_mv, e_fz, k_fz, e_nil, e_ex, k_ex, k_ex1, e_exI, k_exI, e_sl, k_sl, k_sl1, w_nil, w_t, w_s, w_vw, w_c, e_op, k_op, k_op2, k_op3, e_b, k_b, e_tr, k_tr, k_tr2, k_tr3, e_andT, k_andT, e_orT, k_orT, e_notT, k_notT, e_and, k_and, k_and3, e_or, k_or, k_or3, e_not, k_not, e_if, k_if, e_ch, k_ch1, k_ch2, k_ch3, a_nil, a_t, a_c, e_tup, k_tup, k_tup2, e_lst, k_lst, k_lst2, e_then, k_then, k_thenr, e_drop, k_drop, e_rt, k_rt, e_rtN, e_nx, e_ifS, k_ifS, e_set, k_set, k_set2, e_asg, k_asg, k_asg2, t_name, t_name2, t_nil, t_cons, t_cons2, t_tup, e_par, k_par, k_par2, l_nil, l_t, l_s, l_v, l_l, l_d, l_o, l_c, gb_nil, gb_t, gb_f, gb_s, gb_s2, gb_n, e_call, k_call, k_call1, k_call2, k_call3, e_fn, k_fn, k_fnN, e_seq, k_seqL, k_seqv, k_seqt, e_src, k_src, k_src2, k_src3, e_for, k_for, n_ok, p_nil, p_cons, p_k, p_no, p_v, q_nil, q_cons, q_no, q_v, e_lc, k_lc, k_lc2, k_lc3, k_lc4, e_ld, k_ld, k_ld2, x_nil, x_cons, x_1, x_2, x_3, x_4, x_5, x_yes, x_sz, f_nil, f_cons, f_1, f_nx, f_ct, f_bk, f_rt, e_at, k_at2, k_at3, e_rs, k_rs, k_rs1, k_rs2, ao_nil, ao_t, ao_c, e_mt, k_mt, k_mt1, k_mt2, k_mt3, e_rep, k_rep, e_lam, k_lamx, k_lam, y_kn, y_kv, y_k0, y_kl, y_kd, y_on, y_ot, y_of, y_oe, y_ln, y_lt, y_lf, y_le, y_mt, y_mf, y_me, y_mn, y_told, y_non, y_val, List.length_cons, List.length_nil, List.cons_append, List.nil_append, List.take_succ_cons, List.take_zero, Bool.false_eq_true, reduceIte, sz_lit, Nat.reduceAdd, Nat.reduceLeDiff, Nat.reduceLT, Nat.zero_add, o_ci, o_addI, o_sub, o_neg, o_int, o_intB, o_min, o_max, o_aug, o_lenL, o_lenT, o_tupL, o_tupT, o_listL, o_listT, o_s10L, o_s10T, o_s01L, o_s01T, o_s11L, o_s11T, o_eqI, o_neI, o_eqS, o_neS, o_isB, o_isNotB, o_isN, o_isNotN, u_dT, u_dF, u_non, u_bl, u_int, u_tup, u_lst, o_ixT f4, hp, hb, i_tup (d := .tup (.tup gs :: r)) rfl, isTup, hf, List.isEmpty_cons, Bool.true_and, Bool.false_and, Bool.not_false, Bool.not_true, decide_eq_false hk, gates, iz]
                    show _ = re (.v (.bl (decide (k ≤ (gs.length : Int)) && allG p (.tup gs :: r) (.int m)))) [sv (.int p), sv (.tup (.tup gs :: r)), sv (.int m), sv (.int k)]
                    rw [hk']
                    rfl
                | _ =>
                  exfalso
                  have := (List.all_eq_true.mp hf) _ List.mem_cons_self
                  cases this
              | _ => cases i2
            | _ => cases i1
      · simp only [b_are_layers, ↓c, b_ok, b_ex, b_ret, w_g0, w_g1, w_s0, w_s1, z_v, z_l, e_lit, e_rd, k_rd, e_mv, k_mv, e_fz, k_fz, e_nil, e_ex, k_ex, k_ex1, e_exI, k_exI, e_sl, k_sl, k_sl1, w_nil, w_t, w_s, w_vw, w_c, e_op, k_op, k_op2, k_op3, e_b, k_b, e_tr, k_tr, k_tr2, k_tr3, e_andT, k_andT, e_orT, k_orT, e_notT, k_notT, e_and, k_and, k_and3, e_or, k_or, k_or3, e_not, k_not, e_if, k_if, e_ch, k_ch1, k_ch2, k_ch3, a_nil, a_t, a_c, e_tup, k_tup, k_tup2, e_lst, k_lst, k_lst2, e_then, k_then, k_thenr, e_drop, k_drop, e_rt, k_rt, e_rtN, e_nx, e_ifS, k_ifS, e_set, k_set, k_set2, e_asg, k_asg, k_asg2, t_name, t_name2, t_nil, t_cons, t_cons2, t_tup, e_par, k_par, k_par2, l_nil, l_t, l_s, l_v, l_l, l_d, l_o, l_c, gb_nil, gb_t, gb_f, gb_s, gb_s2, gb_n, e_call, k_call, k_call1, k_call2, k_call3, e_fn, k_fn, k_fnN, e_seq, k_seqL, k_seqv, k_seqt, e_src, k_src, k_src2, k_src3, e_for, k_for, n_ok, p_nil, p_cons, p_k, p_no, p_v, q_nil, q_cons, q_no, q_v, e_lc, k_lc, k_lc2, k_lc3, k_lc4, e_ld, k_ld, k_ld2, x_nil, x_cons, x_1, x_2, x_3, x_4, x_5, x_yes, x_sz, f_nil, f_cons, f_1, f_nx, f_ct, f_bk, f_rt, e_at, k_at2, k_at3, e_rs, k_rs, k_rs1, k_rs2, ao_nil, ao_t, ao_c, e_mt, k_mt, k_mt1, k_mt2, k_mt3, e_rep, k_rep, e_lam, k_lamx, k_lam, y_kn, y_kv, y_k0, y_kl, y_kd, y_on, y_ot, y_of, y_oe, y_ln, y_lt, y_lf, y_le, y_mt, y_mf, y_me, y_mn, y_told, y_non, y_val, List.length_cons, List.length_nil, List.cons_append, List.nil_append, List.take_succ_cons, List.take_zero, Bool.false_eq_true, reduceIte, sz_lit, Nat.reduceAdd, Nat.reduceLeDiff, Nat.reduceLT, Nat.zero_add, o_ci, o_addI, o_sub, o_neg, o_int, o_intB, o_min, o_max, o_aug, o_lenL, o_lenT, o_tupL, o_tupT, o_listL, o_listT, o_s10L, o_s10T, o_s01L, o_s01T, o_s11L, o_s11T, o_eqI, o_neI, o_eqS, o_neS, o_isB, o_isNotB, o_isN, o_isNotN, u_dT, u_dF, u_non, u_bl, u_int, u_tup, u_lst, hp, hb, i_tup (d := .lst ls) rfl, isTup, Bool.true_and, Bool.false_and, Bool.not_false, Bool.not_true]
end
end Lw

set_option Elab.async false
set_option linter.all false
set_option maxRecDepth 100000
set_option maxHeartbeats 2000000
/-! k39, g: the law's judge of layers. -/
namespace Lw
open PySem PySem.Spec L2 Vi
open PyProof.Rows hiding St

/-- a number under 10 ** 9, or none -/
def bd : D → Bool
  | .int i => decide (i < 1000000000)
  | d => pl d
theorem bd_pl {d : D} (h : bd d = true) : pl d = true := by cases d <;> first | rfl | exact h
theorem num_bd {d : D} (h : bd d = true) : isNum d 1000000000 = isCount d := by
  cases d with
  | int i =>
    show (decide (0 ≤ i) && decide (i < 1000000000)) = decide (0 ≤ i)
    rw [show decide (i < 1000000000) = true from h, Bool.and_true]
  | _ => rfl
abbrev t4 (p : Int) (T i o : D) : D := .tup [.int p, T, i, o]
section
variable {p : Int} {T i o : D}
theorem bad_num {d : D} (h : bd d = true) : vOrT (vNotT (vTr (vEx (vCall v__law_is_number (vSl 8 (vEx (vOp fPow (vEx (vLit (.int 10)) (vEx (vLit (.int 9)) vNil))) vNil))) vNil))) (vB (vOp fEq (vSl 8 (vEx (vLit (.int 0)) vNil)))) [sv (t4 p T i o), sv (.int p), sv T, sv i, sv o, no, no, no, sv d, no] = some (.ok (!pos d, [sv (t4 p T i o), sv (.int p), sv T, sv i, sv o, no, no, no, sv d, no])) := by
  have c := num_ok (m := 10 ^ (9 : Int).toNat) (bd_pl h)
  have c2 : isNum d (10 ^ (9 : Int).toNat) = isCount d := num_bd h
  rw [c2] at c
  cases hd : isCount d with
  | false =>
    have : pos d = false := by
      cases d with
      | int i =>
        have := of_decide_eq_false hd
        exact decide_eq_false (by omega)
      | _ => rfl
    simp only [b_ok, b_ex, b_ret, w_g0, w_g1, w_s0, w_s1, z_v, z_l, e_lit, e_rd, k_rd, e_mv, k_mv, e_fz, k_fz, e_nil, e_ex, k_ex, k_ex1, e_exI, k_exI, e_sl, k_sl, k_sl1, w_nil, w_t, w_s, w_vw, w_c, e_op, k_op, k_op2, k_op3, e_b, k_b, e_tr, k_tr, k_tr2, k_tr3, e_andT, k_andT, e_orT, k_orT, e_notT, k_notT, e_and, k_and, k_and3, e_or, k_or, k_or3, e_not, k_not, e_if, k_if, e_ch, k_ch1, k_ch2, k_ch3, a_nil, a_t, a_c, e_tup, k_tup, k_tup2, e_lst, k_lst, k_lst2, e_then, k_then, k_thenr, e_drop, k_drop, e_rt, k_rt, e_rtN, e_nx, e_ifS, k_ifS, e_set, k_set, k_set2, e_asg, k_asg, k_asg2, t_name, t_name2, t_nil, t_cons, t_cons2, t_tup, e_par, k_par, k_par2, l_nil, l_t, l_s, l_v, l_l, l_d, l_o, l_c, gb_nil, gb_t, gb_f, gb_s, gb_s2, gb_n, e_call, k_call, k_call1, k_call2, k_call3, e_fn, k_fn, k_fnN, e_seq, k_seqL, k_seqv, k_seqt, e_src, k_src, k_src2, k_src3, e_for, k_for, n_ok, p_nil, p_cons, p_k, p_no, p_v, q_nil, q_cons, q_no, q_v, e_lc, k_lc, k_lc2, k_lc3, k_lc4, e_ld, k_ld, k_ld2, x_nil, x_cons, x_1, x_2, x_3, x_4, x_5, x_yes, x_sz, f_nil, f_cons, f_1, f_nx, f_ct, f_bk, f_rt, e_at, k_at2, k_at3, e_rs, k_rs, k_rs1, k_rs2, ao_nil, ao_t, ao_c, e_mt, k_mt, k_mt1, k_mt2, k_mt3, e_rep, k_rep, e_lam, k_lamx, k_lam, y_kn, y_kv, y_k0, y_kl, y_kd, y_on, y_ot, y_of, y_oe, y_ln, y_lt, y_lf, y_le, y_mt, y_mf, y_me, y_mn, y_told, y_non, y_val, List.length_cons, List.length_nil, List.cons_append, List.nil_append, List.take_succ_cons, List.take_zero, Bool.false_eq_true, reduceIte, sz_lit, Nat.reduceAdd, Nat.reduceLeDiff, Nat.reduceLT, Nat.zero_add, o_ci, o_addI, o_sub, o_neg, o_int, o_intB, o_min, o_max, o_aug, o_lenL, o_lenT, o_tupL, o_tupT, o_listL, o_listT, o_s10L, o_s10T, o_s01L, o_s01T, o_s11L, o_s11T, o_eqI, o_neI, o_eqS, o_neS, o_isB, o_isNotB, o_isN, o_isNotN, u_dT, u_dF, u_non, u_bl, u_int, u_tup, u_lst, o_pow (a := 10) (b := 9) (by decide), c, hd, this, Bool.not_false]
  | true =>
    cases d with
    | int i =>
      have hi : 0 ≤ i := of_decide_eq_true hd
      have : pos (.int i) = !decide (i = 0) := by
        by_cases z : i = 0
        · subst z
          rfl
        · rw [decide_eq_false z]
          exact decide_eq_true (by omega)
      simp only [b_ok, b_ex, b_ret, w_g0, w_g1, w_s0, w_s1, z_v, z_l, e_lit, e_rd, k_rd, e_mv, k_mv, e_fz, k_fz, e_nil, e_ex, k_ex, k_ex1, e_exI, k_exI, e_sl, k_sl, k_sl1, w_nil, w_t, w_s, w_vw, w_c, e_op, k_op, k_op2, k_op3, e_b, k_b, e_tr, k_tr, k_tr2, k_tr3, e_andT, k_andT, e_orT, k_orT, e_notT, k_notT, e_and, k_and, k_and3, e_or, k_or, k_or3, e_not, k_not, e_if, k_if, e_ch, k_ch1, k_ch2, k_ch3, a_nil, a_t, a_c, e_tup, k_tup, k_tup2, e_lst, k_lst, k_lst2, e_then, k_then, k_thenr, e_drop, k_drop, e_rt, k_rt, e_rtN, e_nx, e_ifS, k_ifS, e_set, k_set, k_set2, e_asg, k_asg, k_asg2, t_name, t_name2, t_nil, t_cons, t_cons2, t_tup, e_par, k_par, k_par2, l_nil, l_t, l_s, l_v, l_l, l_d, l_o, l_c, gb_nil, gb_t, gb_f, gb_s, gb_s2, gb_n, e_call, k_call, k_call1, k_call2, k_call3, e_fn, k_fn, k_fnN, e_seq, k_seqL, k_seqv, k_seqt, e_src, k_src, k_src2, k_src3, e_for, k_for, n_ok, p_nil, p_cons, p_k, p_no, p_v, q_nil, q_cons, q_no, q_v, e_lc, k_lc, k_lc2, k_lc3, k_lc4, e_ld, k_ld, k_ld2, x_nil, x_cons, x_1, x_2, x_3, x_4, x_5, x_yes, x_sz, f_nil, f_cons, f_1, f_nx, f_ct, f_bk, f_rt, e_at, k_at2, k_at3, e_rs, k_rs, k_rs1, k_rs2, ao_nil, ao_t, ao_c, e_mt, k_mt, k_mt1, k_mt2, k_mt3, e_rep, k_rep, e_lam, k_lamx, k_lam, y_kn, y_kv, y_k0, y_kl, y_kd, y_on, y_ot, y_of, y_oe, y_ln, y_lt, y_lf, y_le, y_mt, y_mf, y_me, y_mn, y_told, y_non, y_val, List.length_cons, List.length_nil, List.cons_append, List.nil_append, List.take_succ_cons, List.take_zero, Bool.false_eq_true, reduceIte, sz_lit, Nat.reduceAdd, Nat.reduceLeDiff, Nat.reduceLT, Nat.zero_add, o_ci, o_addI, o_sub, o_neg, o_int, o_intB, o_min, o_max, o_aug, o_lenL, o_lenT, o_tupL, o_tupT, o_listL, o_listT, o_s10L, o_s10T, o_s01L, o_s01T, o_s11L, o_s11T, o_eqI, o_neI, o_eqS, o_neS, o_isB, o_isNotB, o_isN, o_isNotN, u_dT, u_dF, u_non, u_bl, u_int, u_tup, u_lst, o_pow (a := 10) (b := 9) (by decide), c, hd, this, Bool.not_true, Bool.not_not]
    | _ => cases hd
theorem two_num (h1 : bd i = true) (h2 : bd o = true) : vB (vOp fNe (vEx (vLc [8] (vSeq (vTup (vEx (vRd 3) (vEx (vRd 4) vNil)))) (tgName 8) (vOrT (vNotT (vTr (vEx (vCall v__law_is_number (vSl 8 (vEx (vOp fPow (vEx (vLit (.int 10)) (vEx (vLit (.int 9)) vNil))) vNil))) vNil))) (vB (vOp fEq (vSl 8 (vEx (vLit (.int 0)) vNil))))) (vLit (.int 1))) (vEx (vLst vNil) vNil))) [sv (t4 p T i o), sv (.int p), sv T, sv i, sv o, no, no, no, no, no] = some (.ok (!(pos i && pos o), [sv (t4 p T i o), sv (.int p), sv T, sv i, sv o, no, no, no, no, no])) := by
  have b1 := bad_num (p := p) (T := T) (i := i) (o := o) h1
  have b2 := bad_num (p := p) (T := T) (i := i) (o := o) h2
  have n0 : fNe [.lst [], .lst []] = some (.v (.bl false)) := rfl
  have n1 : fNe [.lst [.int 1], .lst []] = some (.v (.bl true)) := rfl
  have n2 : fNe [.lst [.int 1, .int 1], .lst []] = some (.v (.bl true)) := rfl
  cases ha : pos i <;> cases hb : pos o <;> simp only [b_ok, b_ex, b_ret, w_g0, w_g1, w_s0, w_s1, z_v, z_l, e_lit, e_rd, k_rd, e_mv, k_mv, e_fz, k_fz, e_nil, e_ex, k_ex, k_ex1, e_exI, k_exI, e_sl, k_sl, k_sl1, w_nil, w_t, w_s, w_vw, w_c, e_op, k_op, k_op2, k_op3, e_b, k_b, e_tr, k_tr, k_tr2, k_tr3, e_andT, k_andT, e_orT, k_orT, e_notT, k_notT, e_and, k_and, k_and3, e_or, k_or, k_or3, e_not, k_not, e_if, k_if, e_ch, k_ch1, k_ch2, k_ch3, a_nil, a_t, a_c, e_tup, k_tup, k_tup2, e_lst, k_lst, k_lst2, e_then, k_then, k_thenr, e_drop, k_drop, e_rt, k_rt, e_rtN, e_nx, e_ifS, k_ifS, e_set, k_set, k_set2, e_asg, k_asg, k_asg2, t_name, t_name2, t_nil, t_cons, t_cons2, t_tup, e_par, k_par, k_par2, l_nil, l_t, l_s, l_v, l_l, l_d, l_o, l_c, gb_nil, gb_t, gb_f, gb_s, gb_s2, gb_n, e_call, k_call, k_call1, k_call2, k_call3, e_fn, k_fn, k_fnN, e_seq, k_seqL, k_seqv, k_seqt, e_src, k_src, k_src2, k_src3, e_for, k_for, n_ok, p_nil, p_cons, p_k, p_no, p_v, q_nil, q_cons, q_no, q_v, e_lc, k_lc, k_lc2, k_lc3, k_lc4, e_ld, k_ld, k_ld2, x_nil, x_cons, x_1, x_2, x_3, x_4, x_5, x_yes, x_sz, f_nil, f_cons, f_1, f_nx, f_ct, f_bk, f_rt, e_at, k_at2, k_at3, e_rs, k_rs, k_rs1, k_rs2, ao_nil, ao_t, ao_c, e_mt, k_mt, k_mt1, k_mt2, k_mt3, e_rep, k_rep, e_lam, k_lamx, k_lam, y_kn, y_kv, y_k0, y_kl, y_kd, y_on, y_ot, y_of, y_oe, y_ln, y_lt, y_lf, y_le, y_mt, y_mf, y_me, y_mn, y_told, y_non, y_val, List.length_cons, List.length_nil, List.cons_append, List.nil_append, List.take_succ_cons, List.take_zero, Bool.false_eq_true, reduceIte, sz_lit, Nat.reduceAdd, Nat.reduceLeDiff, Nat.reduceLT, Nat.zero_add, x_sz, ↓b1, ↓b2, ha, hb, Bool.not_false, Bool.not_true, Bool.and_true, Bool.and_false, n0, n1, n2]
end
abbrev a10 (p : Int) (ls : List D) (i o : D) (x : Sl) : Vn := [sv (t4 p (.tup ls) i o), sv (.int p), sv (.tup ls), sv i, sv o, x, no, no, no, no]
section
variable {p : Int} {ls : List D} {i o : D}
theorem cmp_lay {d : D} (h : (D.tup ls).cmp = true) (m : d ∈ ls) : d.cmp = true := cmp_mem h m
theorem not_full (h : ls.all layT = true) (hl : ls.length ≤ 1000) (hc : (D.tup ls).cmp = true) :
    vB (vOp fNe (vEx (vLc [6] (vSeq (vRd 2)) (tgName 6) (vOrT (vNotT (vTr (vEx (vOp (fIsi tabTup) (vSl 6 vNil)) vNil))) (vB (vOp fEq (vSl 6 (vEx (vTup vNil) vNil))))) (vRd 6)) (vEx (vLst vNil) vNil))) (a10 p ls i o no) = some (.ok (!ls.all full, a10 p ls i o no)) := by
  have lc := lc_map (own := [6]) (gi := vSeq (vRd 2)) (t := tgName 6) (c := vOrT (vNotT (vTr (vEx (vOp (fIsi tabTup) (vSl 6 vNil)) vNil))) (vB (vOp fEq (vSl 6 (vEx (vTup vNil) vNil))))) (f := vRd 6) (env := a10 p ls i o no) (q := fun d => !full d) (g := id) (ds := ls) rfl rfl rfl (by omega) fun d hd => by
    have hq := List.all_eq_true.mp h d hd
    have hn := layT_no hq
    refine ⟨[sv (t4 p (.tup ls) i o), sv (.int p), sv (.tup ls), sv i, sv o, no, sv d, no, no, no], [sv (t4 p (.tup ls) i o), sv (.int p), sv (.tup ls), sv i, sv o, no, sv d, no, no, no], rfl, ?_, fun _ => ⟨_, rfl, rfl⟩, fun _ => rfl⟩
    cases d with
    | tup gs =>
      have e := o_eqE (cmp_mem hc hd)
      simp only [b_ok, b_ex, b_ret, w_g0, w_g1, w_s0, w_s1, z_v, z_l, e_lit, e_rd, k_rd, e_mv, k_mv, e_fz, k_fz, e_nil, e_ex, k_ex, k_ex1, e_exI, k_exI, e_sl, k_sl, k_sl1, w_nil, w_t, w_s, w_vw, w_c, e_op, k_op, k_op2, k_op3, e_b, k_b, e_tr, k_tr, k_tr2, k_tr3, e_andT, k_andT, e_orT, k_orT, e_notT, k_notT, e_and, k_and, k_and3, e_or, k_or, k_or3, e_not, k_not, e_if, k_if, e_ch, k_ch1, k_ch2, k_ch3, a_nil, a_t, a_c, e_tup, k_tup, k_tup2, e_lst, k_lst, k_lst2, e_then, k_then, k_thenr, e_drop, k_drop, e_rt, k_rt, e_rtN, e_nx, e_ifS, k_ifS, e_set, k_set, k_set2, e_asg, k_asg, k_asg2, t_name, t_name2, t_nil, t_cons, t_cons2, t_tup, e_par, k_par, k_par2, l_nil, l_t, l_s, l_v, l_l, l_d, l_o, l_c, gb_nil, gb_t, gb_f, gb_s, gb_s2, gb_n, e_call, k_call, k_call1, k_call2, k_call3, e_fn, k_fn, k_fnN, e_seq, k_seqL, k_seqv, k_seqt, e_src, k_src, k_src2, k_src3, e_for, k_for, n_ok, p_nil, p_cons, p_k, p_no, p_v, q_nil, q_cons, q_no, q_v, e_lc, k_lc, k_lc2, k_lc3, k_lc4, e_ld, k_ld, k_ld2, x_nil, x_cons, x_1, x_2, x_3, x_4, x_5, x_yes, x_sz, f_nil, f_cons, f_1, f_nx, f_ct, f_bk, f_rt, e_at, k_at2, k_at3, e_rs, k_rs, k_rs1, k_rs2, ao_nil, ao_t, ao_c, e_mt, k_mt, k_mt1, k_mt2, k_mt3, e_rep, k_rep, e_lam, k_lamx, k_lam, y_kn, y_kv, y_k0, y_kl, y_kd, y_on, y_ot, y_of, y_oe, y_ln, y_lt, y_lf, y_le, y_mt, y_mf, y_me, y_mn, y_told, y_non, y_val, List.length_cons, List.length_nil, List.cons_append, List.nil_append, List.take_succ_cons, List.take_zero, Bool.false_eq_true, reduceIte, sz_lit, Nat.reduceAdd, Nat.reduceLeDiff, Nat.reduceLT, Nat.zero_add, o_ci, o_addI, o_sub, o_neg, o_int, o_intB, o_min, o_max, o_aug, o_lenL, o_lenT, o_tupL, o_tupT, o_listL, o_listT, o_s10L, o_s10T, o_s01L, o_s01T, o_s11L, o_s11T, o_eqI, o_neI, o_eqS, o_neS, o_isB, o_isNotB, o_isN, o_isNotN, u_dT, u_dF, u_non, u_bl, u_int, u_tup, u_lst, i_tup hn, isTup, Bool.not_true, e, full, Bool.not_not]
    | lst gs => simp only [b_ok, b_ex, b_ret, w_g0, w_g1, w_s0, w_s1, z_v, z_l, e_lit, e_rd, k_rd, e_mv, k_mv, e_fz, k_fz, e_nil, e_ex, k_ex, k_ex1, e_exI, k_exI, e_sl, k_sl, k_sl1, w_nil, w_t, w_s, w_vw, w_c, e_op, k_op, k_op2, k_op3, e_b, k_b, e_tr, k_tr, k_tr2, k_tr3, e_andT, k_andT, e_orT, k_orT, e_notT, k_notT, e_and, k_and, k_and3, e_or, k_or, k_or3, e_not, k_not, e_if, k_if, e_ch, k_ch1, k_ch2, k_ch3, a_nil, a_t, a_c, e_tup, k_tup, k_tup2, e_lst, k_lst, k_lst2, e_then, k_then, k_thenr, e_drop, k_drop, e_rt, k_rt, e_rtN, e_nx, e_ifS, k_ifS, e_set, k_set, k_set2, e_asg, k_asg, k_asg2, t_name, t_name2, t_nil, t_cons, t_cons2, t_tup, e_par, k_par, k_par2, l_nil, l_t, l_s, l_v, l_l, l_d, l_o, l_c, gb_nil, gb_t, gb_f, gb_s, gb_s2, gb_n, e_call, k_call, k_call1, k_call2, k_call3, e_fn, k_fn, k_fnN, e_seq, k_seqL, k_seqv, k_seqt, e_src, k_src, k_src2, k_src3, e_for, k_for, n_ok, p_nil, p_cons, p_k, p_no, p_v, q_nil, q_cons, q_no, q_v, e_lc, k_lc, k_lc2, k_lc3, k_lc4, e_ld, k_ld, k_ld2, x_nil, x_cons, x_1, x_2, x_3, x_4, x_5, x_yes, x_sz, f_nil, f_cons, f_1, f_nx, f_ct, f_bk, f_rt, e_at, k_at2, k_at3, e_rs, k_rs, k_rs1, k_rs2, ao_nil, ao_t, ao_c, e_mt, k_mt, k_mt1, k_mt2, k_mt3, e_rep, k_rep, e_lam, k_lamx, k_lam, y_kn, y_kv, y_k0, y_kl, y_kd, y_on, y_ot, y_of, y_oe, y_ln, y_lt, y_lf, y_le, y_mt, y_mf, y_me, y_mn, y_told, y_non, y_val, List.length_cons, List.length_nil, List.cons_append, List.nil_append, List.take_succ_cons, List.take_zero, Bool.false_eq_true, reduceIte, sz_lit, Nat.reduceAdd, Nat.reduceLeDiff, Nat.reduceLT, Nat.zero_add, o_ci, o_addI, o_sub, o_neg, o_int, o_intB, o_min, o_max, o_aug, o_lenL, o_lenT, o_tupL, o_tupT, o_listL, o_listT, o_s10L, o_s10T, o_s01L, o_s01T, o_s11L, o_s11T, o_eqI, o_neI, o_eqS, o_neS, o_isB, o_isNotB, o_isN, o_isNotN, u_dT, u_dF, u_non, u_bl, u_int, u_tup, u_lst, i_tup hn, isTup, Bool.not_false, full]
    | _ => cases hq
  have hm : (ls.filter fun d => !full d).map id = ls.filter fun d => !full d := List.map_id _
  rw [hm] at lc
  have e := o_neN (cmp_filter (q := fun d => !full d) hc)
  rw [filter_none] at e
  simp only [e_op, e_b, e_ex, ↓lc, b_ok, b_ex, b_ret, w_g0, w_g1, w_s0, w_s1, z_v, z_l, e_lit, e_rd, k_rd, e_mv, k_mv, e_fz, k_fz, e_nil, e_ex, k_ex, k_ex1, e_exI, k_exI, e_sl, k_sl, k_sl1, w_nil, w_t, w_s, w_vw, w_c, e_op, k_op, k_op2, k_op3, e_b, k_b, e_tr, k_tr, k_tr2, k_tr3, e_andT, k_andT, e_orT, k_orT, e_notT, k_notT, e_and, k_and, k_and3, e_or, k_or, k_or3, e_not, k_not, e_if, k_if, e_ch, k_ch1, k_ch2, k_ch3, a_nil, a_t, a_c, e_tup, k_tup, k_tup2, e_lst, k_lst, k_lst2, e_then, k_then, k_thenr, e_drop, k_drop, e_rt, k_rt, e_rtN, e_nx, e_ifS, k_ifS, e_set, k_set, k_set2, e_asg, k_asg, k_asg2, t_name, t_name2, t_nil, t_cons, t_cons2, t_tup, e_par, k_par, k_par2, l_nil, l_t, l_s, l_v, l_l, l_d, l_o, l_c, gb_nil, gb_t, gb_f, gb_s, gb_s2, gb_n, e_call, k_call, k_call1, k_call2, k_call3, e_fn, k_fn, k_fnN, e_seq, k_seqL, k_seqv, k_seqt, e_src, k_src, k_src2, k_src3, e_for, k_for, n_ok, p_nil, p_cons, p_k, p_no, p_v, q_nil, q_cons, q_no, q_v, e_lc, k_lc, k_lc2, k_lc3, k_lc4, e_ld, k_ld, k_ld2, x_nil, x_cons, x_1, x_2, x_3, x_4, x_5, x_yes, x_sz, f_nil, f_cons, f_1, f_nx, f_ct, f_bk, f_rt, e_at, k_at2, k_at3, e_rs, k_rs, k_rs1, k_rs2, ao_nil, ao_t, ao_c, e_mt, k_mt, k_mt1, k_mt2, k_mt3, e_rep, k_rep, e_lam, k_lamx, k_lam, y_kn, y_kv, y_k0, y_kl, y_kd, y_on, y_ot, y_of, y_oe, y_ln, y_lt, y_lf, y_le, y_mt, y_mf, y_me, y_mn, y_told, y_non, y_val, List.length_cons, List.length_nil, List.cons_append, List.nil_append, List.take_succ_cons, List.take_zero, Bool.false_eq_true, reduceIte, sz_lit, Nat.reduceAdd, Nat.reduceLeDiff, Nat.reduceLT, Nat.zero_add, e]
theorem behind_ok' (h : ls.all full = true) (hl : ls.length ≤ 1000) :
    vOp fAdd (vEx (vLc [6] (vSeq (vOp fS10 (vSl 2 (vExI (vLit (.int 1)) vNil)))) (tgName 6) vYes (vFz (vOp fLen (vSl 6 vNil)))) (vEx (vLst (vEx (vRd 3) vNil)) vNil)) (a10 p ls i o no) = re (.l (bh ls i)) (a10 p ls i o no) := by
  have it : vSeq (vOp fS10 (vSl 2 (vExI (vLit (.int 1)) vNil))) (a10 p ls i o no) = some (.ok (ls.drop 1, a10 p ls i o no)) := by
    cases ls with
    | nil => rfl
    | cons l r =>
      show (some (R.ok (cutD (l :: r) (some ((1 : Nat) : Int)) none, _)) : M (List D × Vn)) = _
      rw [cut_from (by simp)]
  have lc := lc_all (own := [6]) (gi := vSeq (vOp fS10 (vSl 2 (vExI (vLit (.int 1)) vNil)))) (t := tgName 6) (f := vFz (vOp fLen (vSl 6 vNil))) (env := a10 p ls i o no) (g := fun l => .int (gates l).length) (ds := ls.drop 1) it rfl rfl (by rw [List.length_drop]; omega) fun d hd => by
    have hq := List.all_eq_true.mp h d (List.mem_of_mem_drop hd)
    refine ⟨[sv (t4 p (.tup ls) i o), sv (.int p), sv (.tup ls), sv i, sv o, no, sv d, no, no, no], [sv (t4 p (.tup ls) i o), sv (.int p), sv (.tup ls), sv i, sv o, no, sv d, no, no, no], rfl, ?_, rfl⟩
    cases d with
    | tup gs => rfl
    | _ => cases hq
  have hs : sizeLine = 16777216 := sizeLine_eq
  have sz : ((ls.drop 1).map (fun l => D.int (gates l).length)).length + [i].length ≤ sizeLine := by
    rw [List.length_map, List.length_drop, List.length_singleton]
    omega
  simp only [e_op, e_ex, ↓lc, b_ok, b_ex, b_ret, w_g0, w_g1, w_s0, w_s1, z_v, z_l, e_lit, e_rd, k_rd, e_mv, k_mv, e_fz, k_fz, e_nil, e_ex, k_ex, k_ex1, e_exI, k_exI, e_sl, k_sl, k_sl1, w_nil, w_t, w_s, w_vw, w_c, e_op, k_op, k_op2, k_op3, e_b, k_b, e_tr, k_tr, k_tr2, k_tr3, e_andT, k_andT, e_orT, k_orT, e_notT, k_notT, e_and, k_and, k_and3, e_or, k_or, k_or3, e_not, k_not, e_if, k_if, e_ch, k_ch1, k_ch2, k_ch3, a_nil, a_t, a_c, e_tup, k_tup, k_tup2, e_lst, k_lst, k_lst2, e_then, k_then, k_thenr, e_drop, k_drop, e_rt, k_rt, e_rtN, e_nx, e_ifS, k_ifS, e_set, k_set, k_set2, e_asg, k_asg, k_asg2, t_name, t_name2, t_nil, t_cons, t_cons2, t_tup, e_par, k_par, k_par2, l_nil, l_t, l_s, l_v, l_l, l_d, l_o, l_c, gb_nil, gb_t, gb_f, gb_s, gb_s2, gb_n, e_call, k_call, k_call1, k_call2, k_call3, e_fn, k_fn, k_fnN, e_seq, k_seqL, k_seqv, k_seqt, e_src, k_src, k_src2, k_src3, e_for, k_for, n_ok, p_nil, p_cons, p_k, p_no, p_v, q_nil, q_cons, q_no, q_v, e_lc, k_lc, k_lc2, k_lc3, k_lc4, e_ld, k_ld, k_ld2, x_nil, x_cons, x_1, x_2, x_3, x_4, x_5, x_yes, x_sz, f_nil, f_cons, f_1, f_nx, f_ct, f_bk, f_rt, e_at, k_at2, k_at3, e_rs, k_rs, k_rs1, k_rs2, ao_nil, ao_t, ao_c, e_mt, k_mt, k_mt1, k_mt2, k_mt3, e_rep, k_rep, e_lam, k_lamx, k_lam, y_kn, y_kv, y_k0, y_kl, y_kd, y_on, y_ot, y_of, y_oe, y_ln, y_lt, y_lf, y_le, y_mt, y_mf, y_me, y_mn, y_told, y_non, y_val, List.length_cons, List.length_nil, List.cons_append, List.nil_append, List.take_succ_cons, List.take_zero, Bool.false_eq_true, reduceIte, sz_lit, Nat.reduceAdd, Nat.reduceLeDiff, Nat.reduceLT, Nat.zero_add, o_addL sz]
  rfl
abbrev lawLoop : Vn → M (Fl × Vn) := vIfS (vB (vOp fNe (vEx (vLc [9] (vSeq (vRd 6)) (tgName 9) (vNotT (vTr (vEx (vCall v__law_is_gate (vSl 1 (vSl 9 (vSl 7 vNil)))) vNil))) (vRd 9)) (vEx (vLst vNil) vNil)))) (vRt (vLit (.bl false))) vNx
/-- whether all gates of a pair are gates -/
def prOk (p : Int) : D → Bool
  | .tup [l, k] => (gates l).all (gateOk p (iz k))
  | _ => false
abbrev aL (p : Int) (ls : List D) (i o : D) (x y z : Sl) : Vn := [sv (t4 p (.tup ls) i o), sv (.int p), sv (.tup ls), sv i, sv o, sv (.lst (bh ls i)), x, y, no, z]
theorem law_zip {m : Int} (h : ls.all layT = true) (hf : ls.all full = true) (hl : ls.length ≤ 1000) (hc : (D.tup ls).cmp = true) :
    ∃ e', vFor (vSrc sZipK (vEx (vRd 2) (vEx (vRd 5) vNil))) (tgTup (tgCons (tgName 6) (tgCons (tgName 7) tgNil))) lawLoop (a10 p ls (.int m) o ⟨false, some (.l (bh ls (.int m)))⟩) = some (.ok (if allG p ls (.int m) = true then .nx else .rt (.v (.bl false)), e')) ∧ e'.take 1 = [sv (t4 p (.tup ls) (.int m) o)] := by
  have hz : ∀ q ∈ ls.zip (bh ls (.int m)), layT q.1 = true ∧ full q.1 = true ∧ q.1.cmp = true ∧ ∃ k, q.2 = D.int k := by
    intro q hq
    obtain ⟨q1, q2⟩ := q
    have := List.of_mem_zip hq
    exact ⟨List.all_eq_true.mp h _ this.1, List.all_eq_true.mp hf _ this.1, cmp_mem hc this.1, bh_int _ this.2⟩
  have src : vSrc sZipK (vEx (vRd 2) (vEx (vRd 5) vNil)) (a10 p ls (.int m) o ⟨false, some (.l (bh ls (.int m)))⟩) = some (.ok ((ls.zip (bh ls (.int m))).map fun q => .tup [q.1, q.2], aL p ls (.int m) o no no no)) := rfl
  have ha : ((ls.zip (bh ls (.int m))).map fun q => D.tup [q.1, q.2]).all (prOk p) = allG p ls (.int m) := by
    rw [List.all_map]
    rfl
  obtain ⟨e', q1, x, y, rfl⟩ := goFor_test (t := tgTup (tgCons (tgName 6) (tgCons (tgName 7) tgNil))) (b := lawLoop) (J := fun env => ∃ x y : Option O, env = aL p ls (.int m) o ⟨false, x⟩ ⟨false, y⟩ no) (ok := prOk p) (o := .v (.bl false)) ((ls.zip (bh ls (.int m))).map fun q => .tup [q.1, q.2]) (fun d hd env ⟨x, y, hj⟩ => by
    subst hj
    obtain ⟨⟨l, k⟩, hq, rfl⟩ := List.mem_map.mp hd
    obtain ⟨a1, a2, a4, k, rfl⟩ := hz _ hq
    cases l with
    | tup gs =>
      have a3 : gs.all gT = true := (Bool.and_eq_true_iff.mp a1).1
      have a5 : gs.length ≤ 1000 := of_decide_eq_true (Bool.and_eq_true_iff.mp a1).2
      refine ⟨aL p ls (.int m) o (sv (.tup gs)) (sv (.int k)) no, aL p ls (.int m) o (sv (.tup gs)) (sv (.int k)) no, rfl, ?_, _, _, rfl⟩
      have lc := lc_map (own := [9]) (gi := vSeq (vRd 6)) (t := tgName 9) (c := vNotT (vTr (vEx (vCall v__law_is_gate (vSl 1 (vSl 9 (vSl 7 vNil)))) vNil))) (f := vRd 9) (env := aL p ls (.int m) o (sv (.tup gs)) (sv (.int k)) no) (q := fun d => !gateOk p k d) (g := id) (ds := gs) rfl rfl rfl (by omega) fun d hd => by
        refine ⟨aL p ls (.int m) o (sv (.tup gs)) (sv (.int k)) (sv d), aL p ls (.int m) o (sv (.tup gs)) (sv (.int k)) (sv d), rfl, ?_, fun _ => ⟨_, rfl, rfl⟩, fun _ => rfl⟩
        have hg : v__law_is_gate [sv (.int p), sv d, sv (.int k)] = _ := law_gate_ok (p := p) (m := k) (List.all_eq_true.mp a3 d hd)
        simp only [b_ok, b_ex, b_ret, w_g0, w_g1, w_s0, w_s1, z_v, z_l, e_lit, e_rd, k_rd, e_mv, k_mv, e_fz, k_fz, e_nil, e_ex, k_ex, k_ex1, e_exI, k_exI, e_sl, k_sl, k_sl1, w_nil, w_t, w_s, w_vw, w_c, e_op, k_op, k_op2, k_op3, e_b, k_b, e_tr, k_tr, k_tr2, k_tr3, e_andT, k_andT, e_orT, k_orT, e_notT, k_notT, e_and, k_and, k_and3, e_or, k_or, k_or3, e_not, k_not, e_if, k_if, e_ch, k_ch1, k_ch2, k_ch3, a_nil, a_t, a_c, e_tup, k_tup, k_tup2, e_lst, k_lst, k_lst2, e_then, k_then, k_thenr, e_drop, k_drop, e_rt, k_rt, e_rtN, e_nx, e_ifS, k_ifS, e_set, k_set, k_set2, e_asg, k_asg, k_asg2, t_name, t_name2, t_nil, t_cons, t_cons2, t_tup, e_par, k_par, k_par2, l_nil, l_t, l_s, l_v, l_l, l_d, l_o, l_c, gb_nil, gb_t, gb_f, gb_s, gb_s2, gb_n, e_call, k_call, k_call1, k_call2, k_call3, e_fn, k_fn, k_fnN, e_seq, k_seqL, k_seqv, k_seqt, e_src, k_src, k_src2, k_src3, e_for, k_for, n_ok, p_nil, p_cons, p_k, p_no, p_v, q_nil, q_cons, q_no, q_v, e_lc, k_lc, k_lc2, k_lc3, k_lc4, e_ld, k_ld, k_ld2, x_nil, x_cons, x_1, x_2, x_3, x_4, x_5, x_yes, x_sz, f_nil, f_cons, f_1, f_nx, f_ct, f_bk, f_rt, e_at, k_at2, k_at3, e_rs, k_rs, k_rs1, k_rs2, ao_nil, ao_t, ao_c, e_mt, k_mt, k_mt1, k_mt2, k_mt3, e_rep, k_rep, e_lam, k_lamx, k_lam, y_kn, y_kv, y_k0, y_kl, y_kd, y_on, y_ot, y_of, y_oe, y_ln, y_lt, y_lf, y_le, y_mt, y_mf, y_me, y_mn, y_told, y_non, y_val, List.length_cons, List.length_nil, List.cons_append, List.nil_append, List.take_succ_cons, List.take_zero, Bool.false_eq_true, reduceIte, sz_lit, Nat.reduceAdd, Nat.reduceLeDiff, Nat.reduceLT, Nat.zero_add, o_ci, o_addI, o_sub, o_neg, o_int, o_intB, o_min, o_max, o_aug, o_lenL, o_lenT, o_tupL, o_tupT, o_listL, o_listT, o_s10L, o_s10T, o_s01L, o_s01T, o_s11L, o_s11T, o_eqI, o_neI, o_eqS, o_neS, o_isB, o_isNotB, o_isN, o_isNotN, u_dT, u_dF, u_non, u_bl, u_int, u_tup, u_lst, hg]
      have hm : (gs.filter fun d => !gateOk p k d).map id = gs.filter fun d => !gateOk p k d := List.map_id _
      rw [hm] at lc
      have e := o_neN (cmp_filter (q := fun d => !gateOk p k d) a4)
      rw [filter_none] at e
      show lawLoop _ = some (.ok (if gs.all (gateOk p k) = true then .nx else .rt (.v (.bl false)), _))
      cases hg : gs.all (gateOk p k) with
      | true =>
        rw [hg] at e
        simp only [e_ifS, e_op, e_b, e_ex, ↓lc, b_ok, b_ex, b_ret, w_g0, w_g1, w_s0, w_s1, z_v, z_l, e_lit, e_rd, k_rd, e_mv, k_mv, e_fz, k_fz, e_nil, e_ex, k_ex, k_ex1, e_exI, k_exI, e_sl, k_sl, k_sl1, w_nil, w_t, w_s, w_vw, w_c, e_op, k_op, k_op2, k_op3, e_b, k_b, e_tr, k_tr, k_tr2, k_tr3, e_andT, k_andT, e_orT, k_orT, e_notT, k_notT, e_and, k_and, k_and3, e_or, k_or, k_or3, e_not, k_not, e_if, k_if, e_ch, k_ch1, k_ch2, k_ch3, a_nil, a_t, a_c, e_tup, k_tup, k_tup2, e_lst, k_lst, k_lst2, e_then, k_then, k_thenr, e_drop, k_drop, e_rt, k_rt, e_rtN, e_nx, e_ifS, k_ifS, e_set, k_set, k_set2, e_asg, k_asg, k_asg2, t_name, t_name2, t_nil, t_cons, t_cons2, t_tup, e_par, k_par, k_par2, l_nil, l_t, l_s, l_v, l_l, l_d, l_o, l_c, gb_nil, gb_t, gb_f, gb_s, gb_s2, gb_n, e_call, k_call, k_call1, k_call2, k_call3, e_fn, k_fn, k_fnN, e_seq, k_seqL, k_seqv, k_seqt, e_src, k_src, k_src2, k_src3, e_for, k_for, n_ok, p_nil, p_cons, p_k, p_no, p_v, q_nil, q_cons, q_no, q_v, e_lc, k_lc, k_lc2, k_lc3, k_lc4, e_ld, k_ld, k_ld2, x_nil, x_cons, x_1, x_2, x_3, x_4, x_5, x_yes, x_sz, f_nil, f_cons, f_1, f_nx, f_ct, f_bk, f_rt, e_at, k_at2, k_at3, e_rs, k_rs, k_rs1, k_rs2, ao_nil, ao_t, ao_c, e_mt, k_mt, k_mt1, k_mt2, k_mt3, e_rep, k_rep, e_lam, k_lamx, k_lam, y_kn, y_kv, y_k0, y_kl, y_kd, y_on, y_ot, y_of, y_oe, y_ln, y_lt, y_lf, y_le, y_mt, y_mf, y_me, y_mn, y_told, y_non, y_val, List.length_cons, List.length_nil, List.cons_append, List.nil_append, List.take_succ_cons, List.take_zero, Bool.false_eq_true, reduceIte, sz_lit, Nat.reduceAdd, Nat.reduceLeDiff, Nat.reduceLT, Nat.zero_add, e, Bool.not_true]
      | false =>
        rw [hg] at e
        simp only [e_ifS, e_op, e_b, e_ex, ↓lc, b_ok, b_ex, b_ret, w_g0, w_g1, w_s0, w_s1, z_v, z_l, e_lit, e_rd, k_rd, e_mv, k_mv, e_fz, k_fz, e_nil, e_ex, k_ex, k_ex1, e_exI, k_exI, e_sl, k_sl, k_sl1, w_nil, w_t, w_s, w_vw, w_c, e_op, k_op, k_op2, k_op3, e_b, k_b, e_tr, k_tr, k_tr2, k_tr3, e_andT, k_andT, e_orT, k_orT, e_notT, k_notT, e_and, k_and, k_and3, e_or, k_or, k_or3, e_not, k_not, e_if, k_if, e_ch, k_ch1, k_ch2, k_ch3, a_nil, a_t, a_c, e_tup, k_tup, k_tup2, e_lst, k_lst, k_lst2, e_then, k_then, k_thenr, e_drop, k_drop, e_rt, k_rt, e_rtN, e_nx, e_ifS, k_ifS, e_set, k_set, k_set2, e_asg, k_asg, k_asg2, t_name, t_name2, t_nil, t_cons, t_cons2, t_tup, e_par, k_par, k_par2, l_nil, l_t, l_s, l_v, l_l, l_d, l_o, l_c, gb_nil, gb_t, gb_f, gb_s, gb_s2, gb_n, e_call, k_call, k_call1, k_call2, k_call3, e_fn, k_fn, k_fnN, e_seq, k_seqL, k_seqv, k_seqt, e_src, k_src, k_src2, k_src3, e_for, k_for, n_ok, p_nil, p_cons, p_k, p_no, p_v, q_nil, q_cons, q_no, q_v, e_lc, k_lc, k_lc2, k_lc3, k_lc4, e_ld, k_ld, k_ld2, x_nil, x_cons, x_1, x_2, x_3, x_4, x_5, x_yes, x_sz, f_nil, f_cons, f_1, f_nx, f_ct, f_bk, f_rt, e_at, k_at2, k_at3, e_rs, k_rs, k_rs1, k_rs2, ao_nil, ao_t, ao_c, e_mt, k_mt, k_mt1, k_mt2, k_mt3, e_rep, k_rep, e_lam, k_lamx, k_lam, y_kn, y_kv, y_k0, y_kl, y_kd, y_on, y_ot, y_of, y_oe, y_ln, y_lt, y_lf, y_le, y_mt, y_mf, y_me, y_mn, y_told, y_non, y_val, List.length_cons, List.length_nil, List.cons_append, List.nil_append, List.take_succ_cons, List.take_zero, Bool.false_eq_true, reduceIte, sz_lit, Nat.reduceAdd, Nat.reduceLeDiff, Nat.reduceLT, Nat.zero_add, e, Bool.not_false]
    | _ => cases a2) (aL p ls (.int m) o no no no) ⟨none, none, rfl⟩
  rw [ha] at q1
  exact ⟨_, (for_eq src).trans q1, rfl⟩
end
end Lw

set_option Elab.async false
set_option linter.all false
set_option maxRecDepth 100000
set_option maxHeartbeats 2000000
/-! k39, h: the law's judge of layers is the program's. -/
namespace Lw
open PySem PySem.Spec L2 Vi
open PyProof.Rows hiding St

section
variable {p : Int} {i o : D}
theorem law_are_ok {T : D} (h1 : bd i = true) (h2 : bd o = true) (hT : (∃ ls, T = .tup ls ∧ ls.all layT = true ∧ ls.length ≤ 1000 ∧ (D.tup ls).cmp = true) ∨ ∃ ls, T = .lst ls) : v__law_are [sv (t4 p T i o)] = re (.v (.bl (areB p T i o))) [sv (t4 p T i o)] := by
  have c := two_num (p := p) (T := T) h1 h2
  have n0 : fNotIn [.int p, .lst [.int 5, .int 7, .int 11, .int 101, .int 65537, .int 999999937]] = some (.v (.bl (!pB p))) := rfl
  unfold v__law_are areB
  rw [e_fn (n := 1) rfl]
  show M.bind (b__law_are [sv (t4 p T i o), no, no, no, no, no, no, no, no, no]) (kFn 1) = _
  cases hb : pB p with
  | false => simp only [b__law_are, b_ok, b_ex, b_ret, w_g0, w_g1, w_s0, w_s1, z_v, z_l, e_lit, e_rd, k_rd, e_mv, k_mv, e_fz, k_fz, e_nil, e_ex, k_ex, k_ex1, e_exI, k_exI, e_sl, k_sl, k_sl1, w_nil, w_t, w_s, w_vw, w_c, e_op, k_op, k_op2, k_op3, e_b, k_b, e_tr, k_tr, k_tr2, k_tr3, e_andT, k_andT, e_orT, k_orT, e_notT, k_notT, e_and, k_and, k_and3, e_or, k_or, k_or3, e_not, k_not, e_if, k_if, e_ch, k_ch1, k_ch2, k_ch3, a_nil, a_t, a_c, e_tup, k_tup, k_tup2, e_lst, k_lst, k_lst2, e_then, k_then, k_thenr, e_drop, k_drop, e_rt, k_rt, e_rtN, e_nx, e_ifS, k_ifS, e_set, k_set, k_set2, e_asg, k_asg, k_asg2, t_name, t_name2, t_nil, t_cons, t_cons2, t_tup, e_par, k_par, k_par2, l_nil, l_t, l_s, l_v, l_l, l_d, l_o, l_c, gb_nil, gb_t, gb_f, gb_s, gb_s2, gb_n, e_call, k_call, k_call1, k_call2, k_call3, e_fn, k_fn, k_fnN, e_seq, k_seqL, k_seqv, k_seqt, e_src, k_src, k_src2, k_src3, e_for, k_for, n_ok, p_nil, p_cons, p_k, p_no, p_v, q_nil, q_cons, q_no, q_v, e_lc, k_lc, k_lc2, k_lc3, k_lc4, e_ld, k_ld, k_ld2, x_nil, x_cons, x_1, x_2, x_3, x_4, x_5, x_yes, x_sz, f_nil, f_cons, f_1, f_nx, f_ct, f_bk, f_rt, e_at, k_at2, k_at3, e_rs, k_rs, k_rs1, k_rs2, ao_nil, ao_t, ao_c, e_mt, k_mt, k_mt1, k_mt2, k_mt3, e_rep, k_rep, e_lam, k_lamx, k_lam, y_kn, y_kv, y_k0, y_kl, y_kd, y_on, y_ot, y_of, y_oe, y_ln, y_lt, y_lf, y_le, y_mt, y_mf, y_me, y_mn, y_told, y_non, y_val, List.length_cons, List.length_nil, List.cons_append, List.nil_append, List.take_succ_cons, List.take_zero, Bool.false_eq_true, reduceIte, sz_lit, Nat.reduceAdd, Nat.reduceLeDiff, Nat.reduceLT, Nat.zero_add, o_ci, o_addI, o_sub, o_neg, o_int, o_intB, o_min, o_max, o_aug, o_lenL, o_lenT, o_tupL, o_tupT, o_listL, o_listT, o_s10L, o_s10T, o_s01L, o_s01T, o_s11L, o_s11T, o_eqI, o_neI, o_eqS, o_neS, o_isB, o_isNotB, o_isN, o_isNotN, u_dT, u_dF, u_non, u_bl, u_int, u_tup, u_lst, n0, hb, Bool.false_and, Bool.not_false]
  | true =>
    cases hi : pos i && pos o with
    | false =>
      rw [← Bool.and_assoc (pos i), hi]
      rw [hi] at c
      simp only [b__law_are, ↓c, b_ok, b_ex, b_ret, w_g0, w_g1, w_s0, w_s1, z_v, z_l, e_lit, e_rd, k_rd, e_mv, k_mv, e_fz, k_fz, e_nil, e_ex, k_ex, k_ex1, e_exI, k_exI, e_sl, k_sl, k_sl1, w_nil, w_t, w_s, w_vw, w_c, e_op, k_op, k_op2, k_op3, e_b, k_b, e_tr, k_tr, k_tr2, k_tr3, e_andT, k_andT, e_orT, k_orT, e_notT, k_notT, e_and, k_and, k_and3, e_or, k_or, k_or3, e_not, k_not, e_if, k_if, e_ch, k_ch1, k_ch2, k_ch3, a_nil, a_t, a_c, e_tup, k_tup, k_tup2, e_lst, k_lst, k_lst2, e_then, k_then, k_thenr, e_drop, k_drop, e_rt, k_rt, e_rtN, e_nx, e_ifS, k_ifS, e_set, k_set, k_set2, e_asg, k_asg, k_asg2, t_name, t_name2, t_nil, t_cons, t_cons2, t_tup, e_par, k_par, k_par2, l_nil, l_t, l_s, l_v, l_l, l_d, l_o, l_c, gb_nil, gb_t, gb_f, gb_s, gb_s2, gb_n, e_call, k_call, k_call1, k_call2, k_call3, e_fn, k_fn, k_fnN, e_seq, k_seqL, k_seqv, k_seqt, e_src, k_src, k_src2, k_src3, e_for, k_for, n_ok, p_nil, p_cons, p_k, p_no, p_v, q_nil, q_cons, q_no, q_v, e_lc, k_lc, k_lc2, k_lc3, k_lc4, e_ld, k_ld, k_ld2, x_nil, x_cons, x_1, x_2, x_3, x_4, x_5, x_yes, x_sz, f_nil, f_cons, f_1, f_nx, f_ct, f_bk, f_rt, e_at, k_at2, k_at3, e_rs, k_rs, k_rs1, k_rs2, ao_nil, ao_t, ao_c, e_mt, k_mt, k_mt1, k_mt2, k_mt3, e_rep, k_rep, e_lam, k_lamx, k_lam, y_kn, y_kv, y_k0, y_kl, y_kd, y_on, y_ot, y_of, y_oe, y_ln, y_lt, y_lf, y_le, y_mt, y_mf, y_me, y_mn, y_told, y_non, y_val, List.length_cons, List.length_nil, List.cons_append, List.nil_append, List.take_succ_cons, List.take_zero, Bool.false_eq_true, reduceIte, sz_lit, Nat.reduceAdd, Nat.reduceLeDiff, Nat.reduceLT, Nat.zero_add, o_ci, o_addI, o_sub, o_neg, o_int, o_intB, o_min, o_max, o_aug, o_lenL, o_lenT, o_tupL, o_tupT, o_listL, o_listT, o_s10L, o_s10T, o_s01L, o_s01T, o_s11L, o_s11T, o_eqI, o_neI, o_eqS, o_neS, o_isB, o_isNotB, o_isN, o_isNotN, u_dT, u_dF, u_non, u_bl, u_int, u_tup, u_lst, n0, hb, Bool.false_and, Bool.true_and, Bool.not_false, Bool.not_true]
    | true =>
      rw [← Bool.and_assoc (pos i), hi]
      rw [hi] at c
      obtain ⟨i1, i2⟩ := Bool.and_eq_true_iff.mp hi
      rcases hT with ⟨ls, rfl, k1, k2, k3⟩ | ⟨ls, rfl⟩
      · have e0 := o_eqE k3
        cases ls with
        | nil =>
          simp only [b__law_are, ↓c, b_ok, b_ex, b_ret, w_g0, w_g1, w_s0, w_s1, z_v, z_l, e_lit, e_rd, k_rd, e_mv, k_mv, e_fz, k_fz, e_nil, e_ex, k_ex, k_ex1, e_exI, k_exI, e_sl, k_sl, k_sl1, w_nil, w_t, w_s, w_vw, w_c, e_op, k_op, k_op2, k_op3, e_b, k_b, e_tr, k_tr, k_tr2, k_tr3, e_andT, k_andT, e_orT, k_orT, e_notT, k_notT, e_and, k_and, k_and3, e_or, k_or, k_or3, e_not, k_not, e_if, k_if, e_ch, k_ch1, k_ch2, k_ch3, a_nil, a_t, a_c, e_tup, k_tup, k_tup2, e_lst, k_lst, k_lst2, e_then, k_then, k_thenr, e_drop, k_drop, e_rt, k_rt, e_rtN, e_nx, e_ifS, k_ifS, e_set, k_set, k_set2, e_asg, k_asg, k_asg2, t_name, t_name2, t_nil, t_cons, t_cons2, t_tup, e_par, k_par, k_par2, l_nil, l_t, l_s, l_v, l_l, l_d, l_o, l_c, gb_nil, gb_t, gb_f, gb_s, gb_s2, gb_n, e_call, k_call, k_call1, k_call2, k_call3, e_fn, k_fn, k_fnN, e_seq, k_seqL, k_seqv, k_seqt, e_src, k_src, k_src2, k_src3, e_for, k_for, n_ok, p_nil, p_cons, p_k, p_no, p_v, q_nil, q_cons, q_no, q_v, e_lc, k_lc, k_lc2, k_lc3, k_lc4, e_ld, k_ld, k_ld2, x_nil, x_cons, x_1, x_2, x_3, x_4, x_5, x_yes, x_sz, f_nil, f_cons, f_1, f_nx, f_ct, f_bk, f_rt, e_at, k_at2, k_at3, e_rs, k_rs, k_rs1, k_rs2, ao_nil, ao_t, ao_c, e_mt, k_mt, k_mt1, k_mt2, k_mt3, e_rep, k_rep, e_lam, k_lamx, k_lam, y_kn, y_kv, y_k0, y_kl, y_kd, y_on, y_ot, y_of, y_oe, y_ln, y_lt, y_lf, y_le, y_mt, y_mf, y_me, y_mn, y_told, y_non, y_val, List.length_cons, List.length_nil, List.cons_append, List.nil_append, List.take_succ_cons, List.take_zero, Bool.false_eq_true, reduceIte, sz_lit, Nat.reduceAdd, Nat.reduceLeDiff, Nat.reduceLT, Nat.zero_add, o_ci, o_addI, o_sub, o_neg, o_int, o_intB, o_min, o_max, o_aug, o_lenL, o_lenT, o_tupL, o_tupT, o_listL, o_listT, o_s10L, o_s10T, o_s01L, o_s01T, o_s11L, o_s11T, o_eqI, o_neI, o_eqS, o_neS, o_isB, o_isNotB, o_isN, o_isNotN, u_dT, u_dF, u_non, u_bl, u_int, u_tup, u_lst, n0, hb, e0, i_tup (d := .tup []) rfl, isTup, List.isEmpty_nil, Bool.true_and, Bool.not_false, Bool.not_true]
        | cons l r =>
          have f1 := not_full (p := p) (i := i) (o := o) k1 k2 k3
          cases hf : (l :: r).all full with
          | false =>
            rw [hf] at f1
            simp only [b__law_are, ↓c, ↓f1, b_ok, b_ex, b_ret, w_g0, w_g1, w_s0, w_s1, z_v, z_l, e_lit, e_rd, k_rd, e_mv, k_mv, e_fz, k_fz, e_nil, e_ex, k_ex, k_ex1, e_exI, k_exI, e_sl, k_sl, k_sl1, w_nil, w_t, w_s, w_vw, w_c, e_op, k_op, k_op2, k_op3, e_b, k_b, e_tr, k_tr, k_tr2, k_tr3, e_andT, k_andT, e_orT, k_orT, e_notT, k_notT, e_and, k_and, k_and3, e_or, k_or, k_or3, e_not, k_not, e_if, k_if, e_ch, k_ch1, k_ch2, k_ch3, a_nil, a_t, a_c, e_tup, k_tup, k_tup2, e_lst, k_lst, k_lst2, e_then, k_then, k_thenr, e_drop, k_drop, e_rt, k_rt, e_rtN, e_nx, e_ifS, k_ifS, e_set, k_set, k_set2, e_asg, k_asg, k_asg2, t_name, t_name2, t_nil, t_cons, t_cons2, t_tup, e_par, k_par, k_par2, l_nil, l_t, l_s, l_v, l_l, l_d, l_o, l_c, gb_nil, gb_t, gb_f, gb_s, gb_s2, gb_n, e_call, k_call, k_call1, k_call2, k_call3, e_fn, k_fn, k_fnN, e_seq, k_seqL, k_seqv, k_seqt, e_src, k_src, k_src2, k_src3, e_for, k_for, n_ok, p_nil, p_cons, p_k, p_no, p_v, q_nil, q_cons, q_no, q_v, e_lc, k_lc, k_lc2, k_lc3, k_lc4, e_ld, k_ld, k_ld2, x_nil, x_cons, x_1, x_2, x_3, x_4, x_5, x_yes, x_sz, f_nil, f_cons, f_1, f_nx, f_ct, f_bk, f_rt, e_at, k_at2, k_at3, e_rs, k_rs, k_rs1, k_rs2, ao_nil, ao_t, ao_c, e_mt, k_mt, k_mt1, k_mt2, k_mt3, e_rep, k_rep, e_lam, k_lamx, k_lam, y_kn, y_kv, y_k0, y_kl, y_kd, y_on, y_ot, y_of, y_oe, y_ln, y_lt, y_lf, y_le, y_mt, y_mf, y_me, y_mn, y_told, y_non, y_val, List.length_cons, List.length_nil, List.cons_append, List.nil_append, List.take_succ_cons, List.take_zero, Bool.false_eq_true, reduceIte, sz_lit, Nat.reduceAdd, Nat.reduceLeDiff, Nat.reduceLT, Nat.zero_add, o_ci, o_addI, o_sub, o_neg, o_int, o_intB, o_min, o_max, o_aug, o_lenL, o_lenT, o_tupL, o_tupT, o_listL, o_listT, o_s10L, o_s10T, o_s01L, o_s01T, o_s11L, o_s11T, o_eqI, o_neI, o_eqS, o_neS, o_isB, o_isNotB, o_isN, o_isNotN, u_dT, u_dF, u_non, u_bl, u_int, u_tup, u_lst, n0, hb, hf, e0, i_tup (d := .tup (l :: r)) rfl, isTup, List.isEmpty_cons, Bool.true_and, Bool.false_and, Bool.not_false, Bool.not_true]
          | true =>
            rw [hf] at f1
            cases i with
            | int m =>
              cases o with
              | int k =>
                have f2 := behind_ok' (p := p) (i := .int m) (o := .int k) hf k2
                obtain ⟨e', f3, f4⟩ := law_zip (p := p) (o := .int k) (m := m) k1 hf k2 k3
                cases l with
                | tup gs =>
                  have f5 : atI (D.tup gs :: r) 0 = some (.tup gs) := at_zero
                  by_cases hk : (gs.length : Int) < k
                  · have hk' : decide (k ≤ (gs.length : Int)) = false := decide_eq_false (by omega)
                    simp only [b__law_are, ↓c, ↓f1, b_ok, b_ex, b_ret, w_g0, w_g1, w_s0, w_s1, z_v, z_l, e_lit, e_rd, k_rd, e_mv, k_mv, e_fz, k_fz, e_nil, e_ex, k_ex, k_ex1, e_exI, k_exI, e_sl, k_sl, k_sl1, w_nil, w_t, w_s, w_vw, w_c, e_op, k_op, k_op2, k_op3, e_b, k_b, e_tr, k_tr, k_tr2, k_tr3, e_andT, k_andT, e_orT, k_orT, e_notT, k_notT, e_and, k_and, k_and3, e_or, k_or, k_or3, e_not, k_not, e_if, k_if, e_ch, k_ch1, k_ch2, k_ch3, a_nil, a_t, a_c, e_tup, k_tup, k_tup2, e_lst, k_lst, k_lst2, e_then, k_then, k_thenr, e_drop, k_drop, e_rt, k_rt, e_rtN, e_nx, e_ifS, k_ifS, e_set, k_set, k_set2, e_asg, k_asg, k_asg2, t_name, t_name2, t_nil, t_cons, t_cons2, t_tup, e_par, k_par, k_par2, l_nil, l_t, l_s, l_v, l_l, l_d, l_o, l_c, gb_nil, gb_t, gb_f, gb_s, gb_s2, gb_n, e_call, k_call, k_call1, k_call2, k_call3, e_fn, k_fn, k_fnN, e_seq, k_seqL, k_seqv, k_seqt, e_src, k_src, k_src2, k_src3, e_for, k_for, n_ok, p_nil, p_cons, p_k, p_no, p_v, q_nil, q_cons, q_no, q_v, e_lc, k_lc, k_lc2, k_lc3, k_lc4, e_ld, k_ld, k_ld2, x_nil, x_cons, x_1, x_2, x_3, x_4, x_5, x_yes, x_sz, f_nil, f_cons, f_1, f_nx, f_ct, f_bk, f_rt, e_at, k_at2, k_at3, e_rs, k_rs, k_rs1, k_rs2, ao_nil, ao_t, ao_c, e_mt, k_mt, k_mt1, k_mt2, k_mt3, e_rep, k_rep, e_lam, k_lamx, k_lam, y_kn, y_kv, y_k0, y_kl, y_kd, y_on, y_ot, y_of, y_oe, y_ln, y_lt, y_lf, y_le, y_mt, y_mf, y_me, y_mn, y_told, y_non, y_val, List.length_cons, List.length_nil, List.cons_append, List.nil_append, List.take_succ_cons, List.take_zero, Bool.false_eq_true, reduceIte, sz_lit, Nat.reduceAdd, Nat.reduceLeDiff, Nat.reduceLT, Nat.zero_add, o_ci, o_addI, o_sub, o_neg, o_int, o_intB, o_min, o_max, o_aug, o_lenL, o_lenT, o_tupL, o_tupT, o_listL, o_listT, o_s10L, o_s10T, o_s01L, o_s01T, o_s11L, o_s11T, o_eqI, o_neI, o_eqS, o_neS, o_isB, o_isNotB, o_isN, o_isNotN, u_dT, u_dF, u_non, u_bl, u_int, u_tup, u_lst, o_ixT f5, n0, hb, hf, e0, i_tup (d := .tup (.tup gs :: r)) rfl, isTup, List.isEmpty_cons, Bool.true_and, Bool.false_and, Bool.not_false, Bool.not_true, decide_eq_true hk, gates, iz]
                    show _ = re (.v (.bl (decide (k ≤ (gs.length : Int)) && allG p (.tup gs :: r) (.int m)))) [sv (t4 p (.tup (.tup gs :: r)) (.int m) (.int k))]
                    rw [hk']
                    rfl
                  · have hk' : decide (k ≤ (gs.length : Int)) = true := decide_eq_true (by omega)
                    simp only [b__law_are, ↓c, ↓f1, ↓f2, ↓f3, b_ok, b_ex, b_ret, w_g0, w_g1, w_s0, w_s1, z_v, z_l, e_lit, e_rd, k_rd, e_mv, k_mv, e_fz, k_fz, e_nil, e_ex, k_ex, k_ex1, e_exI, k_exI, e_sl, k_sl, k_sl1, w_nil, w_t, w_s, w_vw, w_c, e_op, k_op, k_op2, k_op3, e_b, k_b, e_tr, k_tr, k_tr2, k_tr3, e_andT, k_andT, e_orT, k_orT, e_notT, k_notT, e_and, k_and, k_and3, e_or, k_or, k_or3, e_not, k_not, e_if, k_if, e_ch, k_ch1, k_ch2, k_ch3, a_nil, a_t, a_c, e_tup, k_tup, k_tup2, e_lst, k_lst, k_lst2, e_then, k_then, k_thenr, e_drop, k_drop, e_rt, k_rt, e_rtN, e_nx, e_ifS, k_ifS, e_set, k_set, k_set2, e_asg, k_asg, k_asg2, t_name, t_name2, t_nil, t_cons, t_cons2, t_tup, e_par, k_par, k_par2, l_nil, l_t, l_s, l_v, l_l, l_d, l_o, l_c, gb_nil, gb_t, gb_f, gb_s, gb_s2, gb_n, e_call, k_call, k_call1, k_call2, k_call3, e_fn, k_fn, k_fnN, e_seq, k_seqL, k_seqv, k_seqt, e_src, k_src, k_src2, k_src3, e_for, k_for, n_ok, p_nil, p_cons, p_k, p_no, p_v, q_nil, q_cons, q_no, q_v, e_lc, k_lc, k_lc2, k_lc3, k_lc4, e_ld, k_ld, k_ld2, x_nil, x_cons, x_1, x_2, x_3, x_4, x_5, x_yes, x_sz, f_nil, f_cons, f_1, f_nx, f_ct, f_bk, f_rt, e_at, k_at2, k_at3, e_rs, k_rs, k_rs1, k_rs2, ao_nil, ao_t, ao_c, e_mt, k_mt, k_mt1, k_mt2, k_mt3, e_rep, k_rep, e_lam, k_lamx, k_lam, y_kn, y_kv, y_k0, y_kl, y_kd, y_on, y_ot, y_of, y_oe, y_ln, y_lt, y_lf, y_le, y_mt, y_mf, y_me, y_mn, y_told, y_non, y_val, List.length_cons, List.length_nil, List.cons_append, List.nil_append, List.take_succ_cons, List.take_zero, Bool.false_eq_true, reduceIte, sz_lit, Nat.reduceAdd, Nat.reduceLeDiff, Nat.reduceLT, Nat.zero_add, o_ci, o_addI, o_sub, o_neg, o_int, o_intB, o_min, o_max, o_aug, o_lenL, o_lenT, o_tupL, o_tupT, o_listL, o_listT, o_s10L, o_s10T, o_s01L, o_s01T, o_s11L, o_s11T, o_eqI, o_neI, o_eqS, o_neS, o_isB, o_isNotB, o_isN, o_isNotN, u_dT, u_dF, u_non, u_bl, u_int, u_tup, u_lst, o_ixT f5, n0, hb, hf, e0, i_tup (d := .tup (.tup gs :: r)) rfl, isTup, List.isEmpty_cons, Bool.true_and, Bool.false_and, Bool.not_false, Bool.not_true, decide_eq_false hk, gates, iz]
                    show _ = re (.v (.bl (decide (k ≤ (gs.length : Int)) && allG p (.tup gs :: r) (.int m)))) [sv (t4 p (.tup (.tup gs :: r)) (.int m) (.int k))]
                    rw [hk']
                    cases ha : allG p (.tup gs :: r) (.int m) with
                    | true =>
                      simp only [b_ok, b_ex, b_ret, w_g0, w_g1, w_s0, w_s1, z_v, z_l, e_lit, e_rd, k_rd, e_mv, k_mv, e_fz, k_fz, e_nil, e_ex, k_ex, k_ex1, e_exI, k_exI, e_sl, k_sl, k_sl1, w_nil, w_t, w_s, w_vw, w_c, e_op, k_op, k_op2, k_op3, e_b, k_b, e_tr, k_tr, k_tr2, k_tr3, e_andT, k_andT, e_orT, k_orT, e_notT, k_notT, e_and, k_and, k_and3, e_or, k_or, k_or3, e_not, k_not, e_if, k_if, e_ch, k_ch1, k_ch2, k_ch3, a_nil, a_t, a_c, e_tup, k_tup, k_tup2, e_lst, k_lst, k_lst2, e_then, k_then, k_thenr, e_drop, k_drop, e_rt, k_rt, e_rtN, e_nx, e_ifS, k_ifS, e_set, k_set, k_set2, e_asg, k_asg, k_asg2, t_name, t_name2, t_nil, t_cons, t_cons2, t_tup, e_par, k_par, k_par2, l_nil, l_t, l_s, l_v, l_l, l_d, l_o, l_c, gb_nil, gb_t, gb_f, gb_s, gb_s2, gb_n, e_call, k_call, k_call1, k_call2, k_call3, e_fn, k_fn, k_fnN, e_seq, k_seqL, k_seqv, k_seqt, e_src, k_src, k_src2, k_src3, e_for, k_for, n_ok, p_nil, p_cons, p_k, p_no, p_v, q_nil, q_cons, q_no, q_v, e_lc, k_lc, k_lc2, k_lc3, k_lc4, e_ld, k_ld, k_ld2, x_nil, x_cons, x_1, x_2, x_3, x_4, x_5, x_yes, x_sz, f_nil, f_cons, f_1, f_nx, f_ct, f_bk, f_rt, e_at, k_at2, k_at3, e_rs, k_rs, k_rs1, k_rs2, ao_nil, ao_t, ao_c, e_mt, k_mt, k_mt1, k_mt2, k_mt3, e_rep, k_rep, e_lam, k_lamx, k_lam, y_kn, y_kv, y_k0, y_kl, y_kd, y_on, y_ot, y_of, y_oe, y_ln, y_lt, y_lf, y_le, y_mt, y_mf, y_me, y_mn, y_told, y_non, y_val, List.length_cons, List.length_nil, List.cons_append, List.nil_append, List.take_succ_cons, List.take_zero, Bool.false_eq_true, reduceIte, sz_lit, Nat.reduceAdd, Nat.reduceLeDiff, Nat.reduceLT, Nat.zero_add, f4]
                      rfl
                    | false =>
                      simp only [b_ok, b_ex, b_ret, w_g0, w_g1, w_s0, w_s1, z_v, z_l, e_lit, e_rd, k_rd, e_mv, k_mv, e_fz, k_fz, e_nil, e_ex, k_ex, k_ex1, e_exI, k_exI, e_sl, k_sl, k_sl1, w_nil, w_t, w_s, w_vw, w_c, e_op, k_op, k_op2, k_op3, e_b, k_b, e_tr, k_tr, k_tr2, k_tr3, e_andT, k_andT, e_orT, k_orT, e_notT, k_notT, e_and, k_and, k_and3, e_or, k_or, k_or3, e_not, k_not, e_if, k_if, e_ch, k_ch1, k_ch2, k_ch3, a_nil, a_t, a_c, e_tup, k_tup, k_tup2, e_lst, k_lst, k_lst2, e_then, k_then, k_thenr, e_drop, k_drop, e_rt, k_rt, e_rtN, e_nx, e_ifS, k_ifS, e_set, k_set, k_set2, e_asg, k_asg, k_asg2, t_name, t_name2, t_nil, t_cons, t_cons2, t_tup, e_par, k_par, k_par2, l_nil, l_t, l_s, l_v, l_l, l_d, l_o, l_c, gb_nil, gb_t, gb_f, gb_s, gb_s2, gb_n, e_call, k_call, k_call1, k_call2, k_call3, e_fn, k_fn, k_fnN, e_seq, k_seqL, k_seqv, k_seqt, e_src, k_src, k_src2, k_src3, e_for, k_for, n_ok, p_nil, p_cons, p_k, p_no, p_v, q_nil, q_cons, q_no, q_v, e_lc, k_lc, k_lc2, k_lc3, k_lc4, e_ld, k_ld, k_ld2, x_nil, x_cons, x_1, x_2, x_3, x_4, x_5, x_yes, x_sz, f_nil, f_cons, f_1, f_nx, f_ct, f_bk, f_rt, e_at, k_at2, k_at3, e_rs, k_rs, k_rs1, k_rs2, ao_nil, ao_t, ao_c, e_mt, k_mt, k_mt1, k_mt2, k_mt3, e_rep, k_rep, e_lam, k_lamx, k_lam, y_kn, y_kv, y_k0, y_kl, y_kd, y_on, y_ot, y_of, y_oe, y_ln, y_lt, y_lf, y_le, y_mt, y_mf, y_me, y_mn, y_told, y_non, y_val, List.length_cons, List.length_nil, List.cons_append, List.nil_append, List.take_succ_cons, List.take_zero, Bool.false_eq_true, reduceIte, sz_lit, Nat.reduceAdd, Nat.reduceLeDiff, Nat.reduceLT, Nat.zero_add, f4]
                      rfl
                | _ =>
                  exfalso
                  have := (List.all_eq_true.mp hf) _ List.mem_cons_self
                  cases this
              | _ => cases i2
            | _ => cases i1
      · simp only [b__law_are, ↓c, b_ok, b_ex, b_ret, w_g0, w_g1, w_s0, w_s1, z_v, z_l, e_lit, e_rd, k_rd, e_mv, k_mv, e_fz, k_fz, e_nil, e_ex, k_ex, k_ex1, e_exI, k_exI, e_sl, k_sl, k_sl1, w_nil, w_t, w_s, w_vw, w_c, e_op, k_op, k_op2, k_op3, e_b, k_b, e_tr, k_tr, k_tr2, k_tr3, e_andT, k_andT, e_orT, k_orT, e_notT, k_notT, e_and, k_and, k_and3, e_or, k_or, k_or3, e_not, k_not, e_if, k_if, e_ch, k_ch1, k_ch2, k_ch3, a_nil, a_t, a_c, e_tup, k_tup, k_tup2, e_lst, k_lst, k_lst2, e_then, k_then, k_thenr, e_drop, k_drop, e_rt, k_rt, e_rtN, e_nx, e_ifS, k_ifS, e_set, k_set, k_set2, e_asg, k_asg, k_asg2, t_name, t_name2, t_nil, t_cons, t_cons2, t_tup, e_par, k_par, k_par2, l_nil, l_t, l_s, l_v, l_l, l_d, l_o, l_c, gb_nil, gb_t, gb_f, gb_s, gb_s2, gb_n, e_call, k_call, k_call1, k_call2, k_call3, e_fn, k_fn, k_fnN, e_seq, k_seqL, k_seqv, k_seqt, e_src, k_src, k_src2, k_src3, e_for, k_for, n_ok, p_nil, p_cons, p_k, p_no, p_v, q_nil, q_cons, q_no, q_v, e_lc, k_lc, k_lc2, k_lc3, k_lc4, e_ld, k_ld, k_ld2, x_nil, x_cons, x_1, x_2, x_3, x_4, x_5, x_yes, x_sz, f_nil, f_cons, f_1, f_nx, f_ct, f_bk, f_rt, e_at, k_at2, k_at3, e_rs, k_rs, k_rs1, k_rs2, ao_nil, ao_t, ao_c, e_mt, k_mt, k_mt1, k_mt2, k_mt3, e_rep, k_rep, e_lam, k_lamx, k_lam, y_kn, y_kv, y_k0, y_kl, y_kd, y_on, y_ot, y_of, y_oe, y_ln, y_lt, y_lf, y_le, y_mt, y_mf, y_me, y_mn, y_told, y_non, y_val, List.length_cons, List.length_nil, List.cons_append, List.nil_append, List.take_succ_cons, List.take_zero, Bool.false_eq_true, reduceIte, sz_lit, Nat.reduceAdd, Nat.reduceLeDiff, Nat.reduceLT, Nat.zero_add, o_ci, o_addI, o_sub, o_neg, o_int, o_intB, o_min, o_max, o_aug, o_lenL, o_lenT, o_tupL, o_tupT, o_listL, o_listT, o_s10L, o_s10T, o_s01L, o_s01T, o_s11L, o_s11T, o_eqI, o_neI, o_eqS, o_neS, o_isB, o_isNotB, o_isN, o_isNotN, u_dT, u_dF, u_non, u_bl, u_int, u_tup, u_lst, n0, hb, i_tup (d := .lst ls) rfl, isTup, Bool.true_and, Bool.false_and, Bool.not_false, Bool.not_true]
end
end Lw

set_option Elab.async false
set_option linter.all false
set_option maxRecDepth 100000
set_option maxHeartbeats 2000000
/-! k39, i: primes; layers made and looked at. -/
namespace Lw
open PySem PySem.Spec L2 Vi
open PyProof.Rows hiding St

theorem prime_is : v_is_prime = vFn 1 1 (primeB (vFn 1 0 (countB (vFn 1 0 wholeB))) fuel_is_prime) := rfl
def nums8 : List Int := [5, 7, 11, 101, 65537, 999999937, 9, 3]
theorem primes_ok : ∀ p ∈ nums8, v_is_prime [sv (.int p)] = re (.v (.bl (pB p))) [sv (.int p)] := by
  intro p hp
  rw [prime_is]
  have l : (10 : Nat) ^ 9 = fuel_is_prime := rfl
  unfold nums8 at hp
  simp only [List.mem_cons, List.not_mem_nil, or_false] at hp
  rcases hp with rfl | rfl | rfl | rfl | rfl | rfl | rfl | rfl
  · exact prime_ok (p := 5) (n := 100) (b := true) (by decide) (by decide) (by decide) (by kernel_rfl) (by rw [← l]; decide)
  · exact prime_ok (p := 7) (n := 100) (b := true) (by decide) (by decide) (by decide) (by kernel_rfl) (by rw [← l]; decide)
  · exact prime_ok (p := 11) (n := 100) (b := true) (by decide) (by decide) (by decide) (by kernel_rfl) (by rw [← l]; decide)
  · exact prime_ok (p := 101) (n := 100) (b := true) (by decide) (by decide) (by decide) (by kernel_rfl) (by rw [← l]; decide)
  · exact prime_ok (p := 65537) (n := 100) (b := true) (by decide) (by decide) (by decide) (by kernel_rfl) (by rw [← l]; decide)
  · exact prime_ok (p := 999999937) (n := 6000) (b := true) (by decide) (by decide) (by decide) (by kernel_rfl) (by rw [← l]; decide)
  · exact prime_no (p := 9) (by decide) (by decide)
  · exact prime_out (p := 3) (by decide)
end Lw

set_option Elab.async false
set_option linter.all false
set_option maxRecDepth 100000
set_option maxHeartbeats 2000000
/-! k39, j: layers made. -/
namespace Lw
open PySem PySem.Spec L2 Vi
open PyProof.Rows hiding St

theorem fs_eq {acc : Nat → Str → Bool} {i c : Nat} {f : Str} {fv : Vn → M (O × Vn)} {env e : Vn} {o : O} {p : Bool} {os : List (Str × O)} (hf : fv env = some (.ok (o, e))) (he : e[i]? = some ⟨p, some (.o c os)⟩) (ha : (acc c f && decide (os.length < 1000)) = true) : vFs acc i f fv env = some (.ok (.nx, e.set i ⟨p, some (.o c (putO f o os))⟩)) := by
  unfold vFs
  rw [hf]
  show (match e[i]? with
    | some ⟨p, some (.o c os)⟩ => if acc c f && decide (os.length < 1000) then (M.ret (Fl.nx, e.set i ⟨p, some (O.o c (putO f o os))⟩) : M (Fl × Vn)) else none
    | _ => none) = _
  rw [he]
  show (if (acc c f && decide (os.length < 1000)) = true then _ else none) = _
  rw [if_pos ha]
  rfl
theorem make_eq {c : Nat} {f : Vn → M (O × Vn)} {g : Vn → M (List Lr × Vn)} {env e e1 e2 ps ps2 : Vn} {rs : List Lr} {ob : O} (hg : g env = some (.ok (rs, e))) (hl : lend e rs = some (ps, e1)) (hf : f (⟨true, some (.o c [])⟩ :: ps) = some (.ok (.v .non, ⟨true, some ob⟩ :: ps2))) (hb : giveBack e1 rs ps2 = some e2) : vMake c f g env = some (.ok (ob, e2)) := by
  unfold vMake
  rw [hg]
  show (match lend e rs with
    | none => none
    | some (ps, e1) => M.bind (f (⟨true, some (.o c [])⟩ :: ps)) fun (o, ps') => match o, ps' with
      | .v .non, ⟨true, some ob⟩ :: ps2 => match giveBack e1 rs ps2 with
        | none => none
        | some e2 => M.ret (ob, e2)
      | _, _ => none) = _
  rw [hl]
  show M.bind (f _) _ = _
  rw [hf]
  show (match giveBack e1 rs ps2 with
        | none => none
        | some e2 => M.ret (ob, e2)) = _
  rw [hb]
  rfl
theorem make_ex {c k : Nat} {f : Vn → M (O × Vn)} {g : Vn → M (List Lr × Vn)} {env e e1 ps : Vn} {rs : List Lr} {fs : List (Str × D)} (hg : g env = some (.ok (rs, e))) (hl : lend e rs = some (ps, e1)) (hf : f (⟨true, some (.o c [])⟩ :: ps) = some (.ex k fs)) : vMake c f g env = some (.ex k fs) := by
  unfold vMake
  rw [hg]
  show (match lend e rs with
    | none => none
    | some (ps, e1) => M.bind (f (⟨true, some (.o c [])⟩ :: ps)) fun (o, ps') => match o, ps' with
      | .v .non, ⟨true, some ob⟩ :: ps2 => match giveBack e1 rs ps2 with
        | none => none
        | some e2 => M.ret (ob, e2)
      | _, _ => none) = _
  rw [hl]
  show M.bind (f _) _ = _
  rw [hf]
  rfl
/-- letters of a number -/
def letF (n : Int) : Int := match v_letters_in [sv (.int n)] with
  | some (.ok (.v (.int r), _)) => r
  | _ => 0
theorem letF_ok {n : Int} (h : n ≤ 1000000) : v_letters_in [sv (.int n)] = re (.v (.int (letF n))) [sv (.int n)] ∧ 0 ≤ letF n ∧ letF n ≤ 1000000 := by
  obtain ⟨r, h1, h2, h3⟩ := letters_ok h
  have e : letF n = r := by
    unfold letF
    rw [h3]
  rw [e]
  exact ⟨h3, h1, h2⟩
def lets (ls : List D) (m : Int) : List D := ls.map (fun l => D.int (letF (gates l).length)) ++ [.int (letF m)]
abbrev lob (p : Int) (T i o : D) (q : List D) : D := .obj 10 [("prime", .int p), ("layers", T), ("inputs", i), ("outputs", o), ("letters", .tup q)]
/-- what is asked of what is told: as the law draws it -/
structure Tame (p : Int) (T i o : D) : Prop where
  p8 : p ∈ nums8
  i1 : bd i = true
  o1 : bd o = true
  is : iz i ≤ 1000
  T1 : (∃ ls, T = .tup ls ∧ ls.all layT = true ∧ ls.length ≤ 1000 ∧ (D.tup ls).cmp = true) ∨ ∃ ls, T = .lst ls
  c1 : (t4 p T i o).cmp = true
/-- what is right -/
structure Right (p : Int) (T i o : D) (ls : List D) (m k : Int) : Prop where
  T1 : T = .tup ls
  n1 : ls.isEmpty = false
  l1 : ls.all layT = true
  l2 : ls.length ≤ 1000
  l3 : ls.all full = true
  i1 : i = .int m
  o1 : o = .int k
  m1 : 0 < m ∧ m ≤ 1000
  k1 : 0 < k
section
variable {p : Int} {T i o : D}
theorem Tame.right (t : Tame p T i o) (h : areB p T i o = true) : ∃ ls m k, Right p T i o ls m k := by
  unfold areB at h
  obtain ⟨_, h⟩ := Bool.and_eq_true_iff.mp h
  obtain ⟨hi, h⟩ := Bool.and_eq_true_iff.mp h
  obtain ⟨ho, h⟩ := Bool.and_eq_true_iff.mp h
  have is := t.is
  cases i with
  | int m =>
    cases o with
    | int k =>
      rcases t.T1 with ⟨ls, rfl, k1, k2, k3⟩ | ⟨ls, rfl⟩
      · cases ls with
        | nil => cases h
        | cons l r =>
          obtain ⟨h1, _⟩ := Bool.and_eq_true_iff.mp h
          exact ⟨l :: r, m, k, rfl, rfl, k1, k2, h1, rfl, rfl, ⟨of_decide_eq_true hi, is⟩, of_decide_eq_true ho⟩
      · cases h
    | _ => cases ho
  | _ => cases hi
theorem Tame.are (t : Tame p T i o) : v_are_layers [sv (.int p), sv T, sv i, sv o] = re (.v (.bl (areB p T i o))) [sv (.int p), sv T, sv i, sv o] :=
  are_ok (primes_ok p t.p8) (bd_pl t.i1) (bd_pl t.o1) (t.T1.elim (fun ⟨ls, a, b, c, _⟩ => .inl ⟨ls, a, b, c⟩) .inr)
theorem Tame.law_are (t : Tame p T i o) : v__law_are [sv (t4 p T i o)] = re (.v (.bl (areB p T i o))) [sv (t4 p T i o)] := law_are_ok t.i1 t.o1 t.T1
theorem Tame.ask (t : Tame p T i o) : v__law_ask_layers [sv (t4 p T i o)] = re (.v (.bl (areB p T i o))) [sv (t4 p T i o)] := by
  have a := t.are
  unfold v__law_ask_layers
  rw [e_fn (n := 1) rfl]
  show M.bind (b__law_ask_layers [sv (t4 p T i o), no, no, no, no]) (kFn 1) = _
  simp only [b__law_ask_layers, b_ok, b_ex, b_ret, w_g0, w_g1, w_s0, w_s1, z_v, z_l, e_lit, e_rd, k_rd, e_mv, k_mv, e_fz, k_fz, e_nil, e_ex, k_ex, k_ex1, e_exI, k_exI, e_sl, k_sl, k_sl1, w_nil, w_t, w_s, w_vw, w_c, e_op, k_op, k_op2, k_op3, e_b, k_b, e_tr, k_tr, k_tr2, k_tr3, e_andT, k_andT, e_orT, k_orT, e_notT, k_notT, e_and, k_and, k_and3, e_or, k_or, k_or3, e_not, k_not, e_if, k_if, e_ch, k_ch1, k_ch2, k_ch3, a_nil, a_t, a_c, e_tup, k_tup, k_tup2, e_lst, k_lst, k_lst2, e_then, k_then, k_thenr, e_drop, k_drop, e_rt, k_rt, e_rtN, e_nx, e_ifS, k_ifS, e_set, k_set, k_set2, e_asg, k_asg, k_asg2, t_name, t_name2, t_nil, t_cons, t_cons2, t_tup, e_par, k_par, k_par2, l_nil, l_t, l_s, l_v, l_l, l_d, l_o, l_c, gb_nil, gb_t, gb_f, gb_s, gb_s2, gb_n, e_call, k_call, k_call1, k_call2, k_call3, e_fn, k_fn, k_fnN, e_seq, k_seqL, k_seqv, k_seqt, e_src, k_src, k_src2, k_src3, e_for, k_for, n_ok, p_nil, p_cons, p_k, p_no, p_v, q_nil, q_cons, q_no, q_v, e_lc, k_lc, k_lc2, k_lc3, k_lc4, e_ld, k_ld, k_ld2, x_nil, x_cons, x_1, x_2, x_3, x_4, x_5, x_yes, x_sz, f_nil, f_cons, f_1, f_nx, f_ct, f_bk, f_rt, e_at, k_at2, k_at3, e_rs, k_rs, k_rs1, k_rs2, ao_nil, ao_t, ao_c, e_mt, k_mt, k_mt1, k_mt2, k_mt3, e_rep, k_rep, e_lam, k_lamx, k_lam, y_kn, y_kv, y_k0, y_kl, y_kd, y_on, y_ot, y_of, y_oe, y_ln, y_lt, y_lf, y_le, y_mt, y_mf, y_me, y_mn, y_told, y_non, y_val, List.length_cons, List.length_nil, List.cons_append, List.nil_append, List.take_succ_cons, List.take_zero, Bool.false_eq_true, reduceIte, sz_lit, Nat.reduceAdd, Nat.reduceLeDiff, Nat.reduceLT, Nat.zero_add, a]
theorem layer_len {ls : List D} (l1 : ls.all layT = true) (l3 : ls.all full = true) {d : D} (m : d ∈ ls) : ∃ gs, d = .tup gs ∧ gs.length ≤ 1000 ∧ gs.all gT = true := by
  have h1 := List.all_eq_true.mp l1 d m
  have h3 := List.all_eq_true.mp l3 d m
  cases d with
  | tup gs => exact ⟨gs, rfl, of_decide_eq_true (Bool.and_eq_true_iff.mp h1).2, (Bool.and_eq_true_iff.mp h1).1⟩
  | _ => cases h3
abbrev mk0 (p : Int) (T i o : D) (os : List (Str × O)) : Vn := [⟨true, some (.o 10 os)⟩, sv (.int p), sv T, sv i, sv o, no]
theorem letters_all {ls : List D} {m k : Int} {os : List (Str × O)} (r : Right p T i o ls m k) : vOp fTuple (vEx (vOp fAdd (vEx (vLc [5] (vSeq (vRd 2)) (tgName 5) vYes (vFz (vCall v_letters_in (vEx (vOp fLen (vSl 5 vNil)) vNil)))) (vEx (vLst (vEx (vFz (vCall v_letters_in (vSl 3 vNil))) vNil)) vNil))) vNil) (mk0 p T i o os) = re (.v (.tup (lets ls m))) (mk0 p T i o os) := by
  obtain ⟨rfl, _, l1, l2, l3, rfl, rfl, m1, k1⟩ := r
  have q0 := (letF_ok (n := m) (by omega)).1
  have lc := lc_all (own := [5]) (gi := vSeq (vRd 2)) (t := tgName 5) (f := vFz (vCall v_letters_in (vEx (vOp fLen (vSl 5 vNil)) vNil))) (env := mk0 p (.tup ls) (.int m) (.int k) os) (g := fun l => .int (letF (gates l).length)) (ds := ls) rfl rfl rfl (by omega) fun d hd => by
    obtain ⟨gs, rfl, g1, _⟩ := layer_len l1 l3 hd
    refine ⟨[⟨true, some (.o 10 os)⟩, sv (.int p), sv (.tup ls), sv (.int m), sv (.int k), sv (.tup gs)], [⟨true, some (.o 10 os)⟩, sv (.int p), sv (.tup ls), sv (.int m), sv (.int k), sv (.tup gs)], rfl, ?_, rfl⟩
    have q := (letF_ok (n := gs.length) (by omega)).1
    simp only [b_ok, b_ex, b_ret, w_g0, w_g1, w_s0, w_s1, z_v, z_l, e_lit, e_rd, k_rd, e_mv, k_mv, e_fz, k_fz, e_nil, e_ex, k_ex, k_ex1, e_exI, k_exI, e_sl, k_sl, k_sl1, w_nil, w_t, w_s, w_vw, w_c, e_op, k_op, k_op2, k_op3, e_b, k_b, e_tr, k_tr, k_tr2, k_tr3, e_andT, k_andT, e_orT, k_orT, e_notT, k_notT, e_and, k_and, k_and3, e_or, k_or, k_or3, e_not, k_not, e_if, k_if, e_ch, k_ch1, k_ch2, k_ch3, a_nil, a_t, a_c, e_tup, k_tup, k_tup2, e_lst, k_lst, k_lst2, e_then, k_then, k_thenr, e_drop, k_drop, e_rt, k_rt, e_rtN, e_nx, e_ifS, k_ifS, e_set, k_set, k_set2, e_asg, k_asg, k_asg2, t_name, t_name2, t_nil, t_cons, t_cons2, t_tup, e_par, k_par, k_par2, l_nil, l_t, l_s, l_v, l_l, l_d, l_o, l_c, gb_nil, gb_t, gb_f, gb_s, gb_s2, gb_n, e_call, k_call, k_call1, k_call2, k_call3, e_fn, k_fn, k_fnN, e_seq, k_seqL, k_seqv, k_seqt, e_src, k_src, k_src2, k_src3, e_for, k_for, n_ok, p_nil, p_cons, p_k, p_no, p_v, q_nil, q_cons, q_no, q_v, e_lc, k_lc, k_lc2, k_lc3, k_lc4, e_ld, k_ld, k_ld2, x_nil, x_cons, x_1, x_2, x_3, x_4, x_5, x_yes, x_sz, f_nil, f_cons, f_1, f_nx, f_ct, f_bk, f_rt, e_at, k_at2, k_at3, e_rs, k_rs, k_rs1, k_rs2, ao_nil, ao_t, ao_c, e_mt, k_mt, k_mt1, k_mt2, k_mt3, e_rep, k_rep, e_lam, k_lamx, k_lam, y_kn, y_kv, y_k0, y_kl, y_kd, y_on, y_ot, y_of, y_oe, y_ln, y_lt, y_lf, y_le, y_mt, y_mf, y_me, y_mn, y_told, y_non, y_val, List.length_cons, List.length_nil, List.cons_append, List.nil_append, List.take_succ_cons, List.take_zero, Bool.false_eq_true, reduceIte, sz_lit, Nat.reduceAdd, Nat.reduceLeDiff, Nat.reduceLT, Nat.zero_add, o_ci, o_addI, o_sub, o_neg, o_int, o_intB, o_min, o_max, o_aug, o_lenL, o_lenT, o_tupL, o_tupT, o_listL, o_listT, o_s10L, o_s10T, o_s01L, o_s01T, o_s11L, o_s11T, o_eqI, o_neI, o_eqS, o_neS, o_isB, o_isNotB, o_isN, o_isNotN, u_dT, u_dF, u_non, u_bl, u_int, u_tup, u_lst, q]
    rfl
  have hs : sizeLine = 16777216 := sizeLine_eq
  have sz : (ls.map (fun l => D.int (letF (gates l).length))).length + [D.int (letF m)].length ≤ sizeLine := by
    rw [List.length_map, List.length_singleton]
    omega
  simp only [e_op, e_ex, ↓lc, b_ok, b_ex, b_ret, w_g0, w_g1, w_s0, w_s1, z_v, z_l, e_lit, e_rd, k_rd, e_mv, k_mv, e_fz, k_fz, e_nil, e_ex, k_ex, k_ex1, e_exI, k_exI, e_sl, k_sl, k_sl1, w_nil, w_t, w_s, w_vw, w_c, e_op, k_op, k_op2, k_op3, e_b, k_b, e_tr, k_tr, k_tr2, k_tr3, e_andT, k_andT, e_orT, k_orT, e_notT, k_notT, e_and, k_and, k_and3, e_or, k_or, k_or3, e_not, k_not, e_if, k_if, e_ch, k_ch1, k_ch2, k_ch3, a_nil, a_t, a_c, e_tup, k_tup, k_tup2, e_lst, k_lst, k_lst2, e_then, k_then, k_thenr, e_drop, k_drop, e_rt, k_rt, e_rtN, e_nx, e_ifS, k_ifS, e_set, k_set, k_set2, e_asg, k_asg, k_asg2, t_name, t_name2, t_nil, t_cons, t_cons2, t_tup, e_par, k_par, k_par2, l_nil, l_t, l_s, l_v, l_l, l_d, l_o, l_c, gb_nil, gb_t, gb_f, gb_s, gb_s2, gb_n, e_call, k_call, k_call1, k_call2, k_call3, e_fn, k_fn, k_fnN, e_seq, k_seqL, k_seqv, k_seqt, e_src, k_src, k_src2, k_src3, e_for, k_for, n_ok, p_nil, p_cons, p_k, p_no, p_v, q_nil, q_cons, q_no, q_v, e_lc, k_lc, k_lc2, k_lc3, k_lc4, e_ld, k_ld, k_ld2, x_nil, x_cons, x_1, x_2, x_3, x_4, x_5, x_yes, x_sz, f_nil, f_cons, f_1, f_nx, f_ct, f_bk, f_rt, e_at, k_at2, k_at3, e_rs, k_rs, k_rs1, k_rs2, ao_nil, ao_t, ao_c, e_mt, k_mt, k_mt1, k_mt2, k_mt3, e_rep, k_rep, e_lam, k_lamx, k_lam, y_kn, y_kv, y_k0, y_kl, y_kd, y_on, y_ot, y_of, y_oe, y_ln, y_lt, y_lf, y_le, y_mt, y_mf, y_me, y_mn, y_told, y_non, y_val, List.length_cons, List.length_nil, List.cons_append, List.nil_append, List.take_succ_cons, List.take_zero, Bool.false_eq_true, reduceIte, sz_lit, Nat.reduceAdd, Nat.reduceLeDiff, Nat.reduceLT, Nat.zero_add, o_ci, o_addI, o_sub, o_neg, o_int, o_intB, o_min, o_max, o_aug, o_lenL, o_lenT, o_tupL, o_tupT, o_listL, o_listT, o_s10L, o_s10T, o_s01L, o_s01T, o_s11L, o_s11T, o_eqI, o_neI, o_eqS, o_neS, o_isB, o_isNotB, o_isN, o_isNotN, u_dT, u_dF, u_non, u_bl, u_int, u_tup, u_lst, q0, o_addL sz]
  rfl
theorem init_ok {ls : List D} {m k : Int} (t : Tame p T i o) (h : areB p T i o = true) (r : Right p T i o ls m k) : v_Layers [⟨true, some (.o 10 [])⟩, sv (.int p), sv T, sv i, sv o] = re (.v .non) [⟨true, some (.o 10 [("prime", .v (.int p)), ("layers", .v T), ("inputs", .v i), ("outputs", .v o), ("letters", .v (.tup (lets ls m)))])⟩, sv (.int p), sv T, sv i, sv o] := by
  have a := t.are
  rw [h] at a
  have lt := letters_all (os := [("prime", .v (.int p)), ("layers", .v T), ("inputs", .v i), ("outputs", .v o)]) r
  refine fn_nx (n := 5) (m := 1) (e := mk0 p T i o [("prime", .v (.int p)), ("layers", .v T), ("inputs", .v i), ("outputs", .v o), ("letters", .v (.tup (lets ls m)))]) rfl ?_
  show b_Layers (mk0 p T i o []) = _
  unfold b_Layers
  rw [then_nx (e := mk0 p T i o []) (by simp only [b_ok, b_ex, b_ret, w_g0, w_g1, w_s0, w_s1, z_v, z_l, e_lit, e_rd, k_rd, e_mv, k_mv, e_fz, k_fz, e_nil, e_ex, k_ex, k_ex1, e_exI, k_exI, e_sl, k_sl, k_sl1, w_nil, w_t, w_s, w_vw, w_c, e_op, k_op, k_op2, k_op3, e_b, k_b, e_tr, k_tr, k_tr2, k_tr3, e_andT, k_andT, e_orT, k_orT, e_notT, k_notT, e_and, k_and, k_and3, e_or, k_or, k_or3, e_not, k_not, e_if, k_if, e_ch, k_ch1, k_ch2, k_ch3, a_nil, a_t, a_c, e_tup, k_tup, k_tup2, e_lst, k_lst, k_lst2, e_then, k_then, k_thenr, e_drop, k_drop, e_rt, k_rt, e_rtN, e_nx, e_ifS, k_ifS, e_set, k_set, k_set2, e_asg, k_asg, k_asg2, t_name, t_name2, t_nil, t_cons, t_cons2, t_tup, e_par, k_par, k_par2, l_nil, l_t, l_s, l_v, l_l, l_d, l_o, l_c, gb_nil, gb_t, gb_f, gb_s, gb_s2, gb_n, e_call, k_call, k_call1, k_call2, k_call3, e_fn, k_fn, k_fnN, e_seq, k_seqL, k_seqv, k_seqt, e_src, k_src, k_src2, k_src3, e_for, k_for, n_ok, p_nil, p_cons, p_k, p_no, p_v, q_nil, q_cons, q_no, q_v, e_lc, k_lc, k_lc2, k_lc3, k_lc4, e_ld, k_ld, k_ld2, x_nil, x_cons, x_1, x_2, x_3, x_4, x_5, x_yes, x_sz, f_nil, f_cons, f_1, f_nx, f_ct, f_bk, f_rt, e_at, k_at2, k_at3, e_rs, k_rs, k_rs1, k_rs2, ao_nil, ao_t, ao_c, e_mt, k_mt, k_mt1, k_mt2, k_mt3, e_rep, k_rep, e_lam, k_lamx, k_lam, y_kn, y_kv, y_k0, y_kl, y_kd, y_on, y_ot, y_of, y_oe, y_ln, y_lt, y_lf, y_le, y_mt, y_mf, y_me, y_mn, y_told, y_non, y_val, List.length_cons, List.length_nil, List.cons_append, List.nil_append, List.take_succ_cons, List.take_zero, Bool.false_eq_true, reduceIte, sz_lit, Nat.reduceAdd, Nat.reduceLeDiff, Nat.reduceLT, Nat.zero_add, o_ci, o_addI, o_sub, o_neg, o_int, o_intB, o_min, o_max, o_aug, o_lenL, o_lenT, o_tupL, o_tupT, o_listL, o_listT, o_s10L, o_s10T, o_s01L, o_s01T, o_s11L, o_s11T, o_eqI, o_neI, o_eqS, o_neS, o_isB, o_isNotB, o_isN, o_isNotN, u_dT, u_dF, u_non, u_bl, u_int, u_tup, u_lst, a, Bool.not_true])]
  rw [then_nx (e := mk0 p T i o [("prime", .v (.int p))]) (fs_eq (e := mk0 p T i o []) (o := .v (.int p)) (p := true) (c := 10) (os := []) rfl rfl rfl)]
  rw [then_nx (e := mk0 p T i o [("prime", .v (.int p)), ("layers", .v T)]) (fs_eq (e := mk0 p T i o [("prime", .v (.int p))]) (o := .v T) (p := true) (c := 10) (os := [("prime", .v (.int p))]) rfl rfl rfl)]
  rw [then_nx (e := mk0 p T i o [("prime", .v (.int p)), ("layers", .v T), ("inputs", .v i)]) (fs_eq (e := mk0 p T i o [("prime", .v (.int p)), ("layers", .v T)]) (o := .v i) (p := true) (c := 10) (os := [("prime", .v (.int p)), ("layers", .v T)]) rfl rfl rfl)]
  rw [then_nx (e := mk0 p T i o [("prime", .v (.int p)), ("layers", .v T), ("inputs", .v i), ("outputs", .v o)]) (fs_eq (e := mk0 p T i o [("prime", .v (.int p)), ("layers", .v T), ("inputs", .v i)]) (o := .v o) (p := true) (c := 10) (os := [("prime", .v (.int p)), ("layers", .v T), ("inputs", .v i)]) rfl rfl rfl)]
  exact fs_eq (p := true) (c := 10) (os := [("prime", .v (.int p)), ("layers", .v T), ("inputs", .v i), ("outputs", .v o)]) lt rfl rfl
theorem init_ex (t : Tame p T i o) (h : areB p T i o = false) : v_Layers [⟨true, some (.o 10 [])⟩, sv (.int p), sv T, sv i, sv o] = some (.ex 7 [("layers", t4 p T i o)]) := by
  have a := t.are
  rw [h] at a
  refine fn_ex (n := 5) (m := 1) rfl ?_
  show b_Layers (mk0 p T i o []) = _
  unfold b_Layers
  refine then_ex ?_
  simp only [b_ok, b_ex, b_ret, w_g0, w_g1, w_s0, w_s1, z_v, z_l, e_lit, e_rd, k_rd, e_mv, k_mv, e_fz, k_fz, e_nil, e_ex, k_ex, k_ex1, e_exI, k_exI, e_sl, k_sl, k_sl1, w_nil, w_t, w_s, w_vw, w_c, e_op, k_op, k_op2, k_op3, e_b, k_b, e_tr, k_tr, k_tr2, k_tr3, e_andT, k_andT, e_orT, k_orT, e_notT, k_notT, e_and, k_and, k_and3, e_or, k_or, k_or3, e_not, k_not, e_if, k_if, e_ch, k_ch1, k_ch2, k_ch3, a_nil, a_t, a_c, e_tup, k_tup, k_tup2, e_lst, k_lst, k_lst2, e_then, k_then, k_thenr, e_drop, k_drop, e_rt, k_rt, e_rtN, e_nx, e_ifS, k_ifS, e_set, k_set, k_set2, e_asg, k_asg, k_asg2, t_name, t_name2, t_nil, t_cons, t_cons2, t_tup, e_par, k_par, k_par2, l_nil, l_t, l_s, l_v, l_l, l_d, l_o, l_c, gb_nil, gb_t, gb_f, gb_s, gb_s2, gb_n, e_call, k_call, k_call1, k_call2, k_call3, e_fn, k_fn, k_fnN, e_seq, k_seqL, k_seqv, k_seqt, e_src, k_src, k_src2, k_src3, e_for, k_for, n_ok, p_nil, p_cons, p_k, p_no, p_v, q_nil, q_cons, q_no, q_v, e_lc, k_lc, k_lc2, k_lc3, k_lc4, e_ld, k_ld, k_ld2, x_nil, x_cons, x_1, x_2, x_3, x_4, x_5, x_yes, x_sz, f_nil, f_cons, f_1, f_nx, f_ct, f_bk, f_rt, e_at, k_at2, k_at3, e_rs, k_rs, k_rs1, k_rs2, ao_nil, ao_t, ao_c, e_mt, k_mt, k_mt1, k_mt2, k_mt3, e_rep, k_rep, e_lam, k_lamx, k_lam, y_kn, y_kv, y_k0, y_kl, y_kd, y_on, y_ot, y_of, y_oe, y_ln, y_lt, y_lf, y_le, y_mt, y_mf, y_me, y_mn, y_told, y_non, y_val, List.length_cons, List.length_nil, List.cons_append, List.nil_append, List.take_succ_cons, List.take_zero, Bool.false_eq_true, reduceIte, sz_lit, Nat.reduceAdd, Nat.reduceLeDiff, Nat.reduceLT, Nat.zero_add, o_ci, o_addI, o_sub, o_neg, o_int, o_intB, o_min, o_max, o_aug, o_lenL, o_lenT, o_tupL, o_tupT, o_listL, o_listT, o_s10L, o_s10T, o_s01L, o_s01T, o_s11L, o_s11T, o_eqI, o_neI, o_eqS, o_neS, o_isB, o_isNotB, o_isN, o_isNotN, u_dT, u_dF, u_non, u_bl, u_int, u_tup, u_lst, a, Bool.not_false]
  rfl
theorem new_ok {ls : List D} {m k : Int} (t : Tame p T i o) (h : areB p T i o = true) (r : Right p T i o ls m k) : v__law_new_layers [sv (t4 p T i o)] = re (.v (lob p T i o (lets ls m))) [sv (t4 p T i o)] := by
  refine fn_rt (n := 1) (m := 4) (e := [sv (t4 p T i o), sv (.int p), sv T, sv i, sv o]) rfl ?_
  show b__law_new_layers [sv (t4 p T i o), no, no, no, no] = _
  unfold b__law_new_layers
  rw [then_nx (e := [sv (t4 p T i o), sv (.int p), sv T, sv i, sv o]) rfl]
  exact rt_eq (fz_eq (make_eq (e := [sv (t4 p T i o), sv (.int p), sv T, sv i, sv o]) (rs := [.s 1, .s 2, .s 3, .s 4]) (ps := [sv (.int p), sv T, sv i, sv o]) (e1 := [sv (t4 p T i o), sv (.int p), sv T, sv i, sv o]) rfl rfl (init_ok t h r) rfl))
theorem new_ex (t : Tame p T i o) (h : areB p T i o = false) : v__law_new_layers [sv (t4 p T i o)] = some (.ex 7 [("layers", t4 p T i o)]) := by
  refine fn_ex (n := 1) (m := 4) rfl ?_
  show b__law_new_layers [sv (t4 p T i o), no, no, no, no] = _
  unfold b__law_new_layers
  rw [then_nx (e := [sv (t4 p T i o), sv (.int p), sv T, sv i, sv o]) rfl]
  have q := make_ex (c := 10) (g := vSl 1 (vSl 2 (vSl 3 (vSl 4 vNil)))) (env := [sv (t4 p T i o), sv (.int p), sv T, sv i, sv o]) (e := [sv (t4 p T i o), sv (.int p), sv T, sv i, sv o]) (rs := [.s 1, .s 2, .s 3, .s 4]) (ps := [sv (.int p), sv T, sv i, sv o]) (e1 := [sv (t4 p T i o), sv (.int p), sv T, sv i, sv o]) rfl rfl (init_ex t h)
  unfold vRt vFz
  rw [q]
  rfl
end
end Lw

set_option Elab.async false
set_option linter.all false
set_option maxRecDepth 100000
set_option maxHeartbeats 2000000
/-! k39, k: looks at layers. -/
namespace Lw
open PySem PySem.Spec L2 Vi
open PyProof.Rows hiding St

def hdS : D → Str
  | .tup (.str s :: _) => s
  | _ => ""
/-- what stands in a layer -/
def gSh : D → Bool
  | .tup (.str _ :: _) => true
  | _ => false
theorem gateOk_sh {p m : Int} {g : D} (h : gateOk p m g = true) : gSh g = true := by
  match g, h with
  | .tup (.str s :: r), _ => rfl
def shp (ls : List D) : Bool := ls.all fun l => (gates l).all gSh
theorem zip_has {ls : List D} {l : D} : ∀ {ks : List D}, ls.length ≤ ks.length → l ∈ ls → ∃ k, (l, k) ∈ ls.zip ks := by
  induction ls with
  | nil => intro ks _ h; cases h
  | cons x r ih =>
    intro ks hk h
    cases ks with
    | nil => simp at hk
    | cons y ks =>
      rw [List.zip_cons_cons]
      rcases List.mem_cons.mp h with rfl | h
      · exact ⟨y, List.mem_cons_self⟩
      · obtain ⟨k, hk⟩ := ih (by simpa using hk) h
        exact ⟨k, List.mem_cons_of_mem _ hk⟩
theorem allG_shp {p : Int} {ls : List D} {i : D} (h : allG p ls i = true) : shp ls = true := by
  unfold shp
  rw [List.all_eq_true]
  intro l hl
  have : ls.length ≤ (bh ls i).length := by
    unfold bh
    rw [List.length_append, List.length_map, List.length_drop, List.length_singleton]
    omega
  obtain ⟨k, hk⟩ := zip_has this hl
  have h2 := List.all_eq_true.mp h _ hk
  rw [List.all_eq_true]
  intro g hg
  exact gateOk_sh (List.all_eq_true.mp h2 g hg)
section
variable {p : Int} {T i o : D} {ls : List D} {m k : Int} {q : List D}
theorem right_shp (h : areB p T i o = true) (r : Right p T i o ls m k) : shp ls = true := by
  obtain ⟨rfl, n1, _, _, _, rfl, rfl, _, _⟩ := r
  unfold areB at h
  obtain ⟨_, h⟩ := Bool.and_eq_true_iff.mp h
  obtain ⟨_, h⟩ := Bool.and_eq_true_iff.mp h
  obtain ⟨_, h⟩ := Bool.and_eq_true_iff.mp h
  cases ls with
  | nil => cases n1
  | cons l r =>
    obtain ⟨_, h⟩ := Bool.and_eq_true_iff.mp h
    obtain ⟨_, h⟩ := Bool.and_eq_true_iff.mp h
    exact allG_shp h
/-! is_layers, need_layers, same_layers -/
def isLay : D → Bool
  | .obj _ _ => true
  | _ => false
theorem is_lob : v_is_layers [sv (lob p T i o q)] = re (.v (.bl true)) [sv (lob p T i o q)] := rfl
theorem is_not {d : D} (h : noOb d = true) : v_is_layers [sv d] = re (.v (.bl false)) [sv d] := by cases d <;> first | rfl | cases h
theorem need_lob : v_need_layers [sv (lob p T i o q)] = re (.v .non) [sv (lob p T i o q)] := rfl
theorem need_not {d : D} (h : noOb d = true) : v_need_layers [sv d] = some (.ex 7 [("layers", d)]) := by cases d <;> first | rfl | cases h
theorem told_lob : v_layers_told [sv (lob p T i o q)] = re (.v (t4 p T i o)) [sv (lob p T i o q)] := rfl
theorem same_ok {p' : Int} {T' i' o' : D} {q' : List D} (h : (t4 p T i o).cmp = true) (h' : (t4 p' T' i' o').cmp = true) : v_same_layers [sv (lob p T i o q), sv (lob p' T' i' o' q')] = re (.v (.bl (deq (t4 p T i o) (t4 p' T' i' o')))) [sv (lob p T i o q), sv (lob p' T' i' o' q')] := by
  have a1 := need_lob (p := p) (T := T) (i := i) (o := o) (q := q)
  have a2 := need_lob (p := p') (T := T') (i := i') (o := o') (q := q')
  have b1 := told_lob (p := p) (T := T) (i := i) (o := o) (q := q)
  have b2 := told_lob (p := p') (T := T') (i := i') (o := o') (q := q')
  unfold v_same_layers
  rw [e_fn (n := 2) rfl]
  show M.bind (b_same_layers [sv (lob p T i o q), sv (lob p' T' i' o' q')]) (kFn 2) = _
  simp only [b_same_layers, b_ok, b_ex, b_ret, w_g0, w_g1, w_s0, w_s1, z_v, z_l, e_lit, e_rd, k_rd, e_mv, k_mv, e_fz, k_fz, e_nil, e_ex, k_ex, k_ex1, e_exI, k_exI, e_sl, k_sl, k_sl1, w_nil, w_t, w_s, w_vw, w_c, e_op, k_op, k_op2, k_op3, e_b, k_b, e_tr, k_tr, k_tr2, k_tr3, e_andT, k_andT, e_orT, k_orT, e_notT, k_notT, e_and, k_and, k_and3, e_or, k_or, k_or3, e_not, k_not, e_if, k_if, e_ch, k_ch1, k_ch2, k_ch3, a_nil, a_t, a_c, e_tup, k_tup, k_tup2, e_lst, k_lst, k_lst2, e_then, k_then, k_thenr, e_drop, k_drop, e_rt, k_rt, e_rtN, e_nx, e_ifS, k_ifS, e_set, k_set, k_set2, e_asg, k_asg, k_asg2, t_name, t_name2, t_nil, t_cons, t_cons2, t_tup, e_par, k_par, k_par2, l_nil, l_t, l_s, l_v, l_l, l_d, l_o, l_c, gb_nil, gb_t, gb_f, gb_s, gb_s2, gb_n, e_call, k_call, k_call1, k_call2, k_call3, e_fn, k_fn, k_fnN, e_seq, k_seqL, k_seqv, k_seqt, e_src, k_src, k_src2, k_src3, e_for, k_for, n_ok, p_nil, p_cons, p_k, p_no, p_v, q_nil, q_cons, q_no, q_v, e_lc, k_lc, k_lc2, k_lc3, k_lc4, e_ld, k_ld, k_ld2, x_nil, x_cons, x_1, x_2, x_3, x_4, x_5, x_yes, x_sz, f_nil, f_cons, f_1, f_nx, f_ct, f_bk, f_rt, e_at, k_at2, k_at3, e_rs, k_rs, k_rs1, k_rs2, ao_nil, ao_t, ao_c, e_mt, k_mt, k_mt1, k_mt2, k_mt3, e_rep, k_rep, e_lam, k_lamx, k_lam, y_kn, y_kv, y_k0, y_kl, y_kd, y_on, y_ot, y_of, y_oe, y_ln, y_lt, y_lf, y_le, y_mt, y_mf, y_me, y_mn, y_told, y_non, y_val, List.length_cons, List.length_nil, List.cons_append, List.nil_append, List.take_succ_cons, List.take_zero, Bool.false_eq_true, reduceIte, sz_lit, Nat.reduceAdd, Nat.reduceLeDiff, Nat.reduceLT, Nat.zero_add, o_ci, o_addI, o_sub, o_neg, o_int, o_intB, o_min, o_max, o_aug, o_lenL, o_lenT, o_tupL, o_tupT, o_listL, o_listT, o_s10L, o_s10T, o_s01L, o_s01T, o_s11L, o_s11T, o_eqI, o_neI, o_eqS, o_neS, o_isB, o_isNotB, o_isN, o_isNotN, u_dT, u_dF, u_non, u_bl, u_int, u_tup, u_lst, a1, a2, b1, b2, o_eq h h']
theorem same_ex1 {d e : D} (h : noOb d = true) : v_same_layers [sv d, sv e] = some (.ex 7 [("layers", d)]) := by
  have a1 := need_not h
  unfold v_same_layers
  rw [e_fn (n := 2) rfl]
  show M.bind (b_same_layers [sv d, sv e]) (kFn 2) = _
  simp only [b_same_layers, b_ok, b_ex, b_ret, w_g0, w_g1, w_s0, w_s1, z_v, z_l, e_lit, e_rd, k_rd, e_mv, k_mv, e_fz, k_fz, e_nil, e_ex, k_ex, k_ex1, e_exI, k_exI, e_sl, k_sl, k_sl1, w_nil, w_t, w_s, w_vw, w_c, e_op, k_op, k_op2, k_op3, e_b, k_b, e_tr, k_tr, k_tr2, k_tr3, e_andT, k_andT, e_orT, k_orT, e_notT, k_notT, e_and, k_and, k_and3, e_or, k_or, k_or3, e_not, k_not, e_if, k_if, e_ch, k_ch1, k_ch2, k_ch3, a_nil, a_t, a_c, e_tup, k_tup, k_tup2, e_lst, k_lst, k_lst2, e_then, k_then, k_thenr, e_drop, k_drop, e_rt, k_rt, e_rtN, e_nx, e_ifS, k_ifS, e_set, k_set, k_set2, e_asg, k_asg, k_asg2, t_name, t_name2, t_nil, t_cons, t_cons2, t_tup, e_par, k_par, k_par2, l_nil, l_t, l_s, l_v, l_l, l_d, l_o, l_c, gb_nil, gb_t, gb_f, gb_s, gb_s2, gb_n, e_call, k_call, k_call1, k_call2, k_call3, e_fn, k_fn, k_fnN, e_seq, k_seqL, k_seqv, k_seqt, e_src, k_src, k_src2, k_src3, e_for, k_for, n_ok, p_nil, p_cons, p_k, p_no, p_v, q_nil, q_cons, q_no, q_v, e_lc, k_lc, k_lc2, k_lc3, k_lc4, e_ld, k_ld, k_ld2, x_nil, x_cons, x_1, x_2, x_3, x_4, x_5, x_yes, x_sz, f_nil, f_cons, f_1, f_nx, f_ct, f_bk, f_rt, e_at, k_at2, k_at3, e_rs, k_rs, k_rs1, k_rs2, ao_nil, ao_t, ao_c, e_mt, k_mt, k_mt1, k_mt2, k_mt3, e_rep, k_rep, e_lam, k_lamx, k_lam, y_kn, y_kv, y_k0, y_kl, y_kd, y_on, y_ot, y_of, y_oe, y_ln, y_lt, y_lf, y_le, y_mt, y_mf, y_me, y_mn, y_told, y_non, y_val, List.length_cons, List.length_nil, List.cons_append, List.nil_append, List.take_succ_cons, List.take_zero, Bool.false_eq_true, reduceIte, sz_lit, Nat.reduceAdd, Nat.reduceLeDiff, Nat.reduceLT, Nat.zero_add, o_ci, o_addI, o_sub, o_neg, o_int, o_intB, o_min, o_max, o_aug, o_lenL, o_lenT, o_tupL, o_tupT, o_listL, o_listT, o_s10L, o_s10T, o_s01L, o_s01T, o_s11L, o_s11T, o_eqI, o_neI, o_eqS, o_neS, o_isB, o_isNotB, o_isN, o_isNotN, u_dT, u_dF, u_non, u_bl, u_int, u_tup, u_lst, a1]
theorem same_ex2 {d : D} (h : noOb d = true) : v_same_layers [sv (lob p T i o q), sv d] = some (.ex 7 [("layers", d)]) := by
  have a1 := need_lob (p := p) (T := T) (i := i) (o := o) (q := q)
  have a2 := need_not h
  unfold v_same_layers
  rw [e_fn (n := 2) rfl]
  show M.bind (b_same_layers [sv (lob p T i o q), sv d]) (kFn 2) = _
  simp only [b_same_layers, b_ok, b_ex, b_ret, w_g0, w_g1, w_s0, w_s1, z_v, z_l, e_lit, e_rd, k_rd, e_mv, k_mv, e_fz, k_fz, e_nil, e_ex, k_ex, k_ex1, e_exI, k_exI, e_sl, k_sl, k_sl1, w_nil, w_t, w_s, w_vw, w_c, e_op, k_op, k_op2, k_op3, e_b, k_b, e_tr, k_tr, k_tr2, k_tr3, e_andT, k_andT, e_orT, k_orT, e_notT, k_notT, e_and, k_and, k_and3, e_or, k_or, k_or3, e_not, k_not, e_if, k_if, e_ch, k_ch1, k_ch2, k_ch3, a_nil, a_t, a_c, e_tup, k_tup, k_tup2, e_lst, k_lst, k_lst2, e_then, k_then, k_thenr, e_drop, k_drop, e_rt, k_rt, e_rtN, e_nx, e_ifS, k_ifS, e_set, k_set, k_set2, e_asg, k_asg, k_asg2, t_name, t_name2, t_nil, t_cons, t_cons2, t_tup, e_par, k_par, k_par2, l_nil, l_t, l_s, l_v, l_l, l_d, l_o, l_c, gb_nil, gb_t, gb_f, gb_s, gb_s2, gb_n, e_call, k_call, k_call1, k_call2, k_call3, e_fn, k_fn, k_fnN, e_seq, k_seqL, k_seqv, k_seqt, e_src, k_src, k_src2, k_src3, e_for, k_for, n_ok, p_nil, p_cons, p_k, p_no, p_v, q_nil, q_cons, q_no, q_v, e_lc, k_lc, k_lc2, k_lc3, k_lc4, e_ld, k_ld, k_ld2, x_nil, x_cons, x_1, x_2, x_3, x_4, x_5, x_yes, x_sz, f_nil, f_cons, f_1, f_nx, f_ct, f_bk, f_rt, e_at, k_at2, k_at3, e_rs, k_rs, k_rs1, k_rs2, ao_nil, ao_t, ao_c, e_mt, k_mt, k_mt1, k_mt2, k_mt3, e_rep, k_rep, e_lam, k_lamx, k_lam, y_kn, y_kv, y_k0, y_kl, y_kd, y_on, y_ot, y_of, y_oe, y_ln, y_lt, y_lf, y_le, y_mt, y_mf, y_me, y_mn, y_told, y_non, y_val, List.length_cons, List.length_nil, List.cons_append, List.nil_append, List.take_succ_cons, List.take_zero, Bool.false_eq_true, reduceIte, sz_lit, Nat.reduceAdd, Nat.reduceLeDiff, Nat.reduceLT, Nat.zero_add, o_ci, o_addI, o_sub, o_neg, o_int, o_intB, o_min, o_max, o_aug, o_lenL, o_lenT, o_tupL, o_tupT, o_listL, o_listT, o_s10L, o_s10T, o_s01L, o_s01T, o_s11L, o_s11T, o_eqI, o_neI, o_eqS, o_neS, o_isB, o_isNotB, o_isN, o_isNotN, u_dT, u_dF, u_non, u_bl, u_int, u_tup, u_lst, a1, a2]
theorem kinds_ex {d : D} (h : noOb d = true) : v_kind_counts [sv d] = some (.ex 7 [("layers", d)]) := by
  have a1 := need_not h
  unfold v_kind_counts
  rw [e_fn (n := 1) rfl]
  show M.bind (b_kind_counts [sv d, no, no]) (kFn 1) = _
  simp only [b_kind_counts, b_ok, b_ex, b_ret, w_g0, w_g1, w_s0, w_s1, z_v, z_l, e_lit, e_rd, k_rd, e_mv, k_mv, e_fz, k_fz, e_nil, e_ex, k_ex, k_ex1, e_exI, k_exI, e_sl, k_sl, k_sl1, w_nil, w_t, w_s, w_vw, w_c, e_op, k_op, k_op2, k_op3, e_b, k_b, e_tr, k_tr, k_tr2, k_tr3, e_andT, k_andT, e_orT, k_orT, e_notT, k_notT, e_and, k_and, k_and3, e_or, k_or, k_or3, e_not, k_not, e_if, k_if, e_ch, k_ch1, k_ch2, k_ch3, a_nil, a_t, a_c, e_tup, k_tup, k_tup2, e_lst, k_lst, k_lst2, e_then, k_then, k_thenr, e_drop, k_drop, e_rt, k_rt, e_rtN, e_nx, e_ifS, k_ifS, e_set, k_set, k_set2, e_asg, k_asg, k_asg2, t_name, t_name2, t_nil, t_cons, t_cons2, t_tup, e_par, k_par, k_par2, l_nil, l_t, l_s, l_v, l_l, l_d, l_o, l_c, gb_nil, gb_t, gb_f, gb_s, gb_s2, gb_n, e_call, k_call, k_call1, k_call2, k_call3, e_fn, k_fn, k_fnN, e_seq, k_seqL, k_seqv, k_seqt, e_src, k_src, k_src2, k_src3, e_for, k_for, n_ok, p_nil, p_cons, p_k, p_no, p_v, q_nil, q_cons, q_no, q_v, e_lc, k_lc, k_lc2, k_lc3, k_lc4, e_ld, k_ld, k_ld2, x_nil, x_cons, x_1, x_2, x_3, x_4, x_5, x_yes, x_sz, f_nil, f_cons, f_1, f_nx, f_ct, f_bk, f_rt, e_at, k_at2, k_at3, e_rs, k_rs, k_rs1, k_rs2, ao_nil, ao_t, ao_c, e_mt, k_mt, k_mt1, k_mt2, k_mt3, e_rep, k_rep, e_lam, k_lamx, k_lam, y_kn, y_kv, y_k0, y_kl, y_kd, y_on, y_ot, y_of, y_oe, y_ln, y_lt, y_lf, y_le, y_mt, y_mf, y_me, y_mn, y_told, y_non, y_val, List.length_cons, List.length_nil, List.cons_append, List.nil_append, List.take_succ_cons, List.take_zero, Bool.false_eq_true, reduceIte, sz_lit, Nat.reduceAdd, Nat.reduceLeDiff, Nat.reduceLT, Nat.zero_add, o_ci, o_addI, o_sub, o_neg, o_int, o_intB, o_min, o_max, o_aug, o_lenL, o_lenT, o_tupL, o_tupT, o_listL, o_listT, o_s10L, o_s10T, o_s01L, o_s01T, o_s11L, o_s11T, o_eqI, o_neI, o_eqS, o_neS, o_isB, o_isNotB, o_isN, o_isNotN, u_dT, u_dF, u_non, u_bl, u_int, u_tup, u_lst, a1]
theorem draws_ex {d : D} (h : noOb d = true) : v_draw_count [sv d] = some (.ex 7 [("layers", d)]) := by
  have a1 := need_not h
  unfold v_draw_count
  rw [e_fn (n := 1) rfl]
  show M.bind (b_draw_count [sv d, no]) (kFn 1) = _
  simp only [b_draw_count, b_ok, b_ex, b_ret, w_g0, w_g1, w_s0, w_s1, z_v, z_l, e_lit, e_rd, k_rd, e_mv, k_mv, e_fz, k_fz, e_nil, e_ex, k_ex, k_ex1, e_exI, k_exI, e_sl, k_sl, k_sl1, w_nil, w_t, w_s, w_vw, w_c, e_op, k_op, k_op2, k_op3, e_b, k_b, e_tr, k_tr, k_tr2, k_tr3, e_andT, k_andT, e_orT, k_orT, e_notT, k_notT, e_and, k_and, k_and3, e_or, k_or, k_or3, e_not, k_not, e_if, k_if, e_ch, k_ch1, k_ch2, k_ch3, a_nil, a_t, a_c, e_tup, k_tup, k_tup2, e_lst, k_lst, k_lst2, e_then, k_then, k_thenr, e_drop, k_drop, e_rt, k_rt, e_rtN, e_nx, e_ifS, k_ifS, e_set, k_set, k_set2, e_asg, k_asg, k_asg2, t_name, t_name2, t_nil, t_cons, t_cons2, t_tup, e_par, k_par, k_par2, l_nil, l_t, l_s, l_v, l_l, l_d, l_o, l_c, gb_nil, gb_t, gb_f, gb_s, gb_s2, gb_n, e_call, k_call, k_call1, k_call2, k_call3, e_fn, k_fn, k_fnN, e_seq, k_seqL, k_seqv, k_seqt, e_src, k_src, k_src2, k_src3, e_for, k_for, n_ok, p_nil, p_cons, p_k, p_no, p_v, q_nil, q_cons, q_no, q_v, e_lc, k_lc, k_lc2, k_lc3, k_lc4, e_ld, k_ld, k_ld2, x_nil, x_cons, x_1, x_2, x_3, x_4, x_5, x_yes, x_sz, f_nil, f_cons, f_1, f_nx, f_ct, f_bk, f_rt, e_at, k_at2, k_at3, e_rs, k_rs, k_rs1, k_rs2, ao_nil, ao_t, ao_c, e_mt, k_mt, k_mt1, k_mt2, k_mt3, e_rep, k_rep, e_lam, k_lamx, k_lam, y_kn, y_kv, y_k0, y_kl, y_kd, y_on, y_ot, y_of, y_oe, y_ln, y_lt, y_lf, y_le, y_mt, y_mf, y_me, y_mn, y_told, y_non, y_val, List.length_cons, List.length_nil, List.cons_append, List.nil_append, List.take_succ_cons, List.take_zero, Bool.false_eq_true, reduceIte, sz_lit, Nat.reduceAdd, Nat.reduceLeDiff, Nat.reduceLT, Nat.zero_add, o_ci, o_addI, o_sub, o_neg, o_int, o_intB, o_min, o_max, o_aug, o_lenL, o_lenT, o_tupL, o_tupT, o_listL, o_listT, o_s10L, o_s10T, o_s01L, o_s01T, o_s11L, o_s11T, o_eqI, o_neI, o_eqS, o_neS, o_isB, o_isNotB, o_isN, o_isNotN, u_dT, u_dF, u_non, u_bl, u_int, u_tup, u_lst, a1]
/-! numbers of gates by kind -/
def cnt (gs : List D) (s : Str) : D := .int ((gs.filter fun g => decide (hdS g = s)).length : Nat)
def kc (l : D) : D := .tup [cnt (gates l) "add", cnt (gates l) "mul", cnt (gates l) "keep", cnt (gates l) "put"]
theorem kind_ok {gs : List D} {s : Str} (h : gs.all gSh = true) (hl : gs.length ≤ 1000) : v_of_kind [sv (.tup gs), sv (.str s)] = re (.l (gs.filter fun g => decide (hdS g = s))) [sv (.tup gs), sv (.str s)] := by
  have lc := lc_map (own := [2]) (gi := vSeq (vRd 0)) (t := tgName 2) (c := vB (vOp fEq (vEx (vOp fIx (vSl 2 (vEx (vLit (.int 0)) vNil))) (vSl 1 vNil)))) (f := vRd 2) (env := [sv (.tup gs), sv (.str s), no]) (q := fun g => decide (hdS g = s)) (g := id) (ds := gs) rfl rfl rfl (by omega) fun d hd => by
    have hq := List.all_eq_true.mp h d hd
    refine ⟨[sv (.tup gs), sv (.str s), sv d], [sv (.tup gs), sv (.str s), sv d], rfl, ?_, fun _ => ⟨_, rfl, rfl⟩, fun _ => rfl⟩
    match d, hq with
    | .tup (.str x :: r), _ => simp only [b_ok, b_ex, b_ret, w_g0, w_g1, w_s0, w_s1, z_v, z_l, e_lit, e_rd, k_rd, e_mv, k_mv, e_fz, k_fz, e_nil, e_ex, k_ex, k_ex1, e_exI, k_exI, e_sl, k_sl, k_sl1, w_nil, w_t, w_s, w_vw, w_c, e_op, k_op, k_op2, k_op3, e_b, k_b, e_tr, k_tr, k_tr2, k_tr3, e_andT, k_andT, e_orT, k_orT, e_notT, k_notT, e_and, k_and, k_and3, e_or, k_or, k_or3, e_not, k_not, e_if, k_if, e_ch, k_ch1, k_ch2, k_ch3, a_nil, a_t, a_c, e_tup, k_tup, k_tup2, e_lst, k_lst, k_lst2, e_then, k_then, k_thenr, e_drop, k_drop, e_rt, k_rt, e_rtN, e_nx, e_ifS, k_ifS, e_set, k_set, k_set2, e_asg, k_asg, k_asg2, t_name, t_name2, t_nil, t_cons, t_cons2, t_tup, e_par, k_par, k_par2, l_nil, l_t, l_s, l_v, l_l, l_d, l_o, l_c, gb_nil, gb_t, gb_f, gb_s, gb_s2, gb_n, e_call, k_call, k_call1, k_call2, k_call3, e_fn, k_fn, k_fnN, e_seq, k_seqL, k_seqv, k_seqt, e_src, k_src, k_src2, k_src3, e_for, k_for, n_ok, p_nil, p_cons, p_k, p_no, p_v, q_nil, q_cons, q_no, q_v, e_lc, k_lc, k_lc2, k_lc3, k_lc4, e_ld, k_ld, k_ld2, x_nil, x_cons, x_1, x_2, x_3, x_4, x_5, x_yes, x_sz, f_nil, f_cons, f_1, f_nx, f_ct, f_bk, f_rt, e_at, k_at2, k_at3, e_rs, k_rs, k_rs1, k_rs2, ao_nil, ao_t, ao_c, e_mt, k_mt, k_mt1, k_mt2, k_mt3, e_rep, k_rep, e_lam, k_lamx, k_lam, y_kn, y_kv, y_k0, y_kl, y_kd, y_on, y_ot, y_of, y_oe, y_ln, y_lt, y_lf, y_le, y_mt, y_mf, y_me, y_mn, y_told, y_non, y_val, List.length_cons, List.length_nil, List.cons_append, List.nil_append, List.take_succ_cons, List.take_zero, Bool.false_eq_true, reduceIte, sz_lit, Nat.reduceAdd, Nat.reduceLeDiff, Nat.reduceLT, Nat.zero_add, o_ci, o_addI, o_sub, o_neg, o_int, o_intB, o_min, o_max, o_aug, o_lenL, o_lenT, o_tupL, o_tupT, o_listL, o_listT, o_s10L, o_s10T, o_s01L, o_s01T, o_s11L, o_s11T, o_eqI, o_neI, o_eqS, o_neS, o_isB, o_isNotB, o_isN, o_isNotN, u_dT, u_dF, u_non, u_bl, u_int, u_tup, u_lst, o_ixT at_zero]; rfl
  rw [List.map_id] at lc
  unfold v_of_kind
  rw [e_fn (n := 2) rfl]
  show M.bind (b_of_kind [sv (.tup gs), sv (.str s), no]) (kFn 2) = _
  simp only [b_of_kind, e_rt, ↓lc, b_ok, b_ex, b_ret, w_g0, w_g1, w_s0, w_s1, z_v, z_l, e_lit, e_rd, k_rd, e_mv, k_mv, e_fz, k_fz, e_nil, e_ex, k_ex, k_ex1, e_exI, k_exI, e_sl, k_sl, k_sl1, w_nil, w_t, w_s, w_vw, w_c, e_op, k_op, k_op2, k_op3, e_b, k_b, e_tr, k_tr, k_tr2, k_tr3, e_andT, k_andT, e_orT, k_orT, e_notT, k_notT, e_and, k_and, k_and3, e_or, k_or, k_or3, e_not, k_not, e_if, k_if, e_ch, k_ch1, k_ch2, k_ch3, a_nil, a_t, a_c, e_tup, k_tup, k_tup2, e_lst, k_lst, k_lst2, e_then, k_then, k_thenr, e_drop, k_drop, e_rt, k_rt, e_rtN, e_nx, e_ifS, k_ifS, e_set, k_set, k_set2, e_asg, k_asg, k_asg2, t_name, t_name2, t_nil, t_cons, t_cons2, t_tup, e_par, k_par, k_par2, l_nil, l_t, l_s, l_v, l_l, l_d, l_o, l_c, gb_nil, gb_t, gb_f, gb_s, gb_s2, gb_n, e_call, k_call, k_call1, k_call2, k_call3, e_fn, k_fn, k_fnN, e_seq, k_seqL, k_seqv, k_seqt, e_src, k_src, k_src2, k_src3, e_for, k_for, n_ok, p_nil, p_cons, p_k, p_no, p_v, q_nil, q_cons, q_no, q_v, e_lc, k_lc, k_lc2, k_lc3, k_lc4, e_ld, k_ld, k_ld2, x_nil, x_cons, x_1, x_2, x_3, x_4, x_5, x_yes, x_sz, f_nil, f_cons, f_1, f_nx, f_ct, f_bk, f_rt, e_at, k_at2, k_at3, e_rs, k_rs, k_rs1, k_rs2, ao_nil, ao_t, ao_c, e_mt, k_mt, k_mt1, k_mt2, k_mt3, e_rep, k_rep, e_lam, k_lamx, k_lam, y_kn, y_kv, y_k0, y_kl, y_kd, y_on, y_ot, y_of, y_oe, y_ln, y_lt, y_lf, y_le, y_mt, y_mf, y_me, y_mn, y_told, y_non, y_val, List.length_cons, List.length_nil, List.cons_append, List.nil_append, List.take_succ_cons, List.take_zero, Bool.false_eq_true, reduceIte, sz_lit, Nat.reduceAdd, Nat.reduceLeDiff, Nat.reduceLT, Nat.zero_add]
theorem kinds_ok {ls : List D} (hs : shp ls = true) (l1 : ls.all layT = true) (l3 : ls.all full = true) (l2 : ls.length ≤ 1000) : v_kind_counts [sv (lob p (.tup ls) i o q)] = re (.v (.tup (ls.map kc))) [sv (lob p (.tup ls) i o q)] := by
  have a1 := need_lob (p := p) (T := .tup ls) (i := i) (o := o) (q := q)
  have at1 : atO acc "layers" 10 [("prime", .int p), ("layers", .tup ls), ("inputs", i), ("outputs", o), ("letters", .tup q)] = some (.tup ls) := rfl
  have it : vSeq (vAt acc "layers" (vSl 0 vNil)) [sv (lob p (.tup ls) i o q), no, no] = some (.ok (ls, [sv (lob p (.tup ls) i o q), no, no])) := by
    simp only [b_ok, b_ex, b_ret, w_g0, w_g1, w_s0, w_s1, z_v, z_l, e_lit, e_rd, k_rd, e_mv, k_mv, e_fz, k_fz, e_nil, e_ex, k_ex, k_ex1, e_exI, k_exI, e_sl, k_sl, k_sl1, w_nil, w_t, w_s, w_vw, w_c, e_op, k_op, k_op2, k_op3, e_b, k_b, e_tr, k_tr, k_tr2, k_tr3, e_andT, k_andT, e_orT, k_orT, e_notT, k_notT, e_and, k_and, k_and3, e_or, k_or, k_or3, e_not, k_not, e_if, k_if, e_ch, k_ch1, k_ch2, k_ch3, a_nil, a_t, a_c, e_tup, k_tup, k_tup2, e_lst, k_lst, k_lst2, e_then, k_then, k_thenr, e_drop, k_drop, e_rt, k_rt, e_rtN, e_nx, e_ifS, k_ifS, e_set, k_set, k_set2, e_asg, k_asg, k_asg2, t_name, t_name2, t_nil, t_cons, t_cons2, t_tup, e_par, k_par, k_par2, l_nil, l_t, l_s, l_v, l_l, l_d, l_o, l_c, gb_nil, gb_t, gb_f, gb_s, gb_s2, gb_n, e_call, k_call, k_call1, k_call2, k_call3, e_fn, k_fn, k_fnN, e_seq, k_seqL, k_seqv, k_seqt, e_src, k_src, k_src2, k_src3, e_for, k_for, n_ok, p_nil, p_cons, p_k, p_no, p_v, q_nil, q_cons, q_no, q_v, e_lc, k_lc, k_lc2, k_lc3, k_lc4, e_ld, k_ld, k_ld2, x_nil, x_cons, x_1, x_2, x_3, x_4, x_5, x_yes, x_sz, f_nil, f_cons, f_1, f_nx, f_ct, f_bk, f_rt, e_at, k_at2, k_at3, e_rs, k_rs, k_rs1, k_rs2, ao_nil, ao_t, ao_c, e_mt, k_mt, k_mt1, k_mt2, k_mt3, e_rep, k_rep, e_lam, k_lamx, k_lam, y_kn, y_kv, y_k0, y_kl, y_kd, y_on, y_ot, y_of, y_oe, y_ln, y_lt, y_lf, y_le, y_mt, y_mf, y_me, y_mn, y_told, y_non, y_val, List.length_cons, List.length_nil, List.cons_append, List.nil_append, List.take_succ_cons, List.take_zero, Bool.false_eq_true, reduceIte, sz_lit, Nat.reduceAdd, Nat.reduceLeDiff, Nat.reduceLT, Nat.zero_add, at1]
  have lc := lc_all (own := [1]) (gi := vSeq (vAt acc "layers" (vSl 0 vNil))) (t := tgName 1) (f := vFz (vOp fTuple (vEx (vLc [2] (vSeq (vLit c_KINDS)) (tgName 2) vYes (vFz (vOp fLen (vEx (vCall v_of_kind (vSl 1 (vSl 2 vNil))) vNil)))) vNil))) (env := [sv (lob p (.tup ls) i o q), no, no]) (g := kc) (ds := ls) it rfl rfl (by omega) fun d hd => by
    obtain ⟨gs, rfl, g1, _⟩ := layer_len l1 l3 hd
    have hq : gs.all gSh = true := List.all_eq_true.mp hs _ hd
    refine ⟨[sv (lob p (.tup ls) i o q), sv (.tup gs), no], [sv (lob p (.tup ls) i o q), sv (.tup gs), no], rfl, ?_, rfl⟩
    have k := fun s => kind_ok (s := s) hq g1
    have ck : c_KINDS = .tup [(.str "add"), (.str "mul"), (.str "keep"), (.str "put")] := rfl
    simp only [b_ok, b_ex, b_ret, w_g0, w_g1, w_s0, w_s1, z_v, z_l, e_lit, e_rd, k_rd, e_mv, k_mv, e_fz, k_fz, e_nil, e_ex, k_ex, k_ex1, e_exI, k_exI, e_sl, k_sl, k_sl1, w_nil, w_t, w_s, w_vw, w_c, e_op, k_op, k_op2, k_op3, e_b, k_b, e_tr, k_tr, k_tr2, k_tr3, e_andT, k_andT, e_orT, k_orT, e_notT, k_notT, e_and, k_and, k_and3, e_or, k_or, k_or3, e_not, k_not, e_if, k_if, e_ch, k_ch1, k_ch2, k_ch3, a_nil, a_t, a_c, e_tup, k_tup, k_tup2, e_lst, k_lst, k_lst2, e_then, k_then, k_thenr, e_drop, k_drop, e_rt, k_rt, e_rtN, e_nx, e_ifS, k_ifS, e_set, k_set, k_set2, e_asg, k_asg, k_asg2, t_name, t_name2, t_nil, t_cons, t_cons2, t_tup, e_par, k_par, k_par2, l_nil, l_t, l_s, l_v, l_l, l_d, l_o, l_c, gb_nil, gb_t, gb_f, gb_s, gb_s2, gb_n, e_call, k_call, k_call1, k_call2, k_call3, e_fn, k_fn, k_fnN, e_seq, k_seqL, k_seqv, k_seqt, e_src, k_src, k_src2, k_src3, e_for, k_for, n_ok, p_nil, p_cons, p_k, p_no, p_v, q_nil, q_cons, q_no, q_v, e_lc, k_lc, k_lc2, k_lc3, k_lc4, e_ld, k_ld, k_ld2, x_nil, x_cons, x_1, x_2, x_3, x_4, x_5, x_yes, x_sz, f_nil, f_cons, f_1, f_nx, f_ct, f_bk, f_rt, e_at, k_at2, k_at3, e_rs, k_rs, k_rs1, k_rs2, ao_nil, ao_t, ao_c, e_mt, k_mt, k_mt1, k_mt2, k_mt3, e_rep, k_rep, e_lam, k_lamx, k_lam, y_kn, y_kv, y_k0, y_kl, y_kd, y_on, y_ot, y_of, y_oe, y_ln, y_lt, y_lf, y_le, y_mt, y_mf, y_me, y_mn, y_told, y_non, y_val, List.length_cons, List.length_nil, List.cons_append, List.nil_append, List.take_succ_cons, List.take_zero, Bool.false_eq_true, reduceIte, sz_lit, Nat.reduceAdd, Nat.reduceLeDiff, Nat.reduceLT, Nat.zero_add, o_ci, o_addI, o_sub, o_neg, o_int, o_intB, o_min, o_max, o_aug, o_lenL, o_lenT, o_tupL, o_tupT, o_listL, o_listT, o_s10L, o_s10T, o_s01L, o_s01T, o_s11L, o_s11T, o_eqI, o_neI, o_eqS, o_neS, o_isB, o_isNotB, o_isN, o_isNotN, u_dT, u_dF, u_non, u_bl, u_int, u_tup, u_lst, x_sz, ck, k]
    rfl
  unfold v_kind_counts
  rw [e_fn (n := 1) rfl]
  show M.bind (b_kind_counts [sv (lob p (.tup ls) i o q), no, no]) (kFn 1) = _
  simp only [b_kind_counts, ↓lc, b_ok, b_ex, b_ret, w_g0, w_g1, w_s0, w_s1, z_v, z_l, e_lit, e_rd, k_rd, e_mv, k_mv, e_fz, k_fz, e_nil, e_ex, k_ex, k_ex1, e_exI, k_exI, e_sl, k_sl, k_sl1, w_nil, w_t, w_s, w_vw, w_c, e_op, k_op, k_op2, k_op3, e_b, k_b, e_tr, k_tr, k_tr2, k_tr3, e_andT, k_andT, e_orT, k_orT, e_notT, k_notT, e_and, k_and, k_and3, e_or, k_or, k_or3, e_not, k_not, e_if, k_if, e_ch, k_ch1, k_ch2, k_ch3, a_nil, a_t, a_c, e_tup, k_tup, k_tup2, e_lst, k_lst, k_lst2, e_then, k_then, k_thenr, e_drop, k_drop, e_rt, k_rt, e_rtN, e_nx, e_ifS, k_ifS, e_set, k_set, k_set2, e_asg, k_asg, k_asg2, t_name, t_name2, t_nil, t_cons, t_cons2, t_tup, e_par, k_par, k_par2, l_nil, l_t, l_s, l_v, l_l, l_d, l_o, l_c, gb_nil, gb_t, gb_f, gb_s, gb_s2, gb_n, e_call, k_call, k_call1, k_call2, k_call3, e_fn, k_fn, k_fnN, e_seq, k_seqL, k_seqv, k_seqt, e_src, k_src, k_src2, k_src3, e_for, k_for, n_ok, p_nil, p_cons, p_k, p_no, p_v, q_nil, q_cons, q_no, q_v, e_lc, k_lc, k_lc2, k_lc3, k_lc4, e_ld, k_ld, k_ld2, x_nil, x_cons, x_1, x_2, x_3, x_4, x_5, x_yes, x_sz, f_nil, f_cons, f_1, f_nx, f_ct, f_bk, f_rt, e_at, k_at2, k_at3, e_rs, k_rs, k_rs1, k_rs2, ao_nil, ao_t, ao_c, e_mt, k_mt, k_mt1, k_mt2, k_mt3, e_rep, k_rep, e_lam, k_lamx, k_lam, y_kn, y_kv, y_k0, y_kl, y_kd, y_on, y_ot, y_of, y_oe, y_ln, y_lt, y_lf, y_le, y_mt, y_mf, y_me, y_mn, y_told, y_non, y_val, List.length_cons, List.length_nil, List.cons_append, List.nil_append, List.take_succ_cons, List.take_zero, Bool.false_eq_true, reduceIte, sz_lit, Nat.reduceAdd, Nat.reduceLeDiff, Nat.reduceLT, Nat.zero_add, o_ci, o_addI, o_sub, o_neg, o_int, o_intB, o_min, o_max, o_aug, o_lenL, o_lenT, o_tupL, o_tupT, o_listL, o_listT, o_s10L, o_s10T, o_s01L, o_s01T, o_s11L, o_s11T, o_eqI, o_neI, o_eqS, o_neS, o_isB, o_isNotB, o_isN, o_isNotN, u_dT, u_dF, u_non, u_bl, u_int, u_tup, u_lst, a1]
/-! numbers of draws -/
def ltI (ls : List D) (m : Int) : List Int := ls.map (fun l => letF ((gates l).length : Nat)) ++ [letF m]
theorem lets_eq : lets ls m = (ltI ls m).map D.int := by
  unfold lets ltI
  rw [List.map_append, List.map_map]
  rfl
def draws (l : List Int) : Int := l.headD 0 + ((l.drop 1).map fun n => 2 * n + 1).sum
theorem draws_eq : ∀ (x : Int) (l : List Int), draws (x :: l) = x + 2 * l.sum + l.length := by
  intro x l
  show x + (l.map fun n => 2 * n + 1).sum = _
  have : ∀ l : List Int, (l.map fun n => 2 * n + 1).sum = 2 * l.sum + l.length := by
    intro l
    induction l with
    | nil => rfl
    | cons y l ih =>
      rw [List.map_cons, List.sum_cons, List.sum_cons, ih, List.length_cons]
      omega
  rw [this]
  omega
theorem draws_ok {x : Int} {l : List Int} (hl : l.length ≤ 1000) : v_draw_count [sv (lob p T i o ((x :: l).map D.int))] = re (.v (.int (draws (x :: l)))) [sv (lob p T i o ((x :: l).map D.int))] := by
  have a1 := need_lob (p := p) (T := T) (i := i) (o := o) (q := (x :: l).map D.int)
  have at1 : atO acc "letters" 10 [("prime", .int p), ("layers", T), ("inputs", i), ("outputs", o), ("letters", .tup ((x :: l).map D.int))] = some (.tup ((x :: l).map D.int)) := rfl
  have it : vSeq (vOp fS10 (vEx (vAt acc "letters" (vSl 0 vNil)) (vExI (vLit (.int 1)) vNil))) [sv (lob p T i o ((x :: l).map D.int)), no] = some (.ok (l.map D.int, [sv (lob p T i o ((x :: l).map D.int)), no])) := by
    simp only [b_ok, b_ex, b_ret, w_g0, w_g1, w_s0, w_s1, z_v, z_l, e_lit, e_rd, k_rd, e_mv, k_mv, e_fz, k_fz, e_nil, e_ex, k_ex, k_ex1, e_exI, k_exI, e_sl, k_sl, k_sl1, w_nil, w_t, w_s, w_vw, w_c, e_op, k_op, k_op2, k_op3, e_b, k_b, e_tr, k_tr, k_tr2, k_tr3, e_andT, k_andT, e_orT, k_orT, e_notT, k_notT, e_and, k_and, k_and3, e_or, k_or, k_or3, e_not, k_not, e_if, k_if, e_ch, k_ch1, k_ch2, k_ch3, a_nil, a_t, a_c, e_tup, k_tup, k_tup2, e_lst, k_lst, k_lst2, e_then, k_then, k_thenr, e_drop, k_drop, e_rt, k_rt, e_rtN, e_nx, e_ifS, k_ifS, e_set, k_set, k_set2, e_asg, k_asg, k_asg2, t_name, t_name2, t_nil, t_cons, t_cons2, t_tup, e_par, k_par, k_par2, l_nil, l_t, l_s, l_v, l_l, l_d, l_o, l_c, gb_nil, gb_t, gb_f, gb_s, gb_s2, gb_n, e_call, k_call, k_call1, k_call2, k_call3, e_fn, k_fn, k_fnN, e_seq, k_seqL, k_seqv, k_seqt, e_src, k_src, k_src2, k_src3, e_for, k_for, n_ok, p_nil, p_cons, p_k, p_no, p_v, q_nil, q_cons, q_no, q_v, e_lc, k_lc, k_lc2, k_lc3, k_lc4, e_ld, k_ld, k_ld2, x_nil, x_cons, x_1, x_2, x_3, x_4, x_5, x_yes, x_sz, f_nil, f_cons, f_1, f_nx, f_ct, f_bk, f_rt, e_at, k_at2, k_at3, e_rs, k_rs, k_rs1, k_rs2, ao_nil, ao_t, ao_c, e_mt, k_mt, k_mt1, k_mt2, k_mt3, e_rep, k_rep, e_lam, k_lamx, k_lam, y_kn, y_kv, y_k0, y_kl, y_kd, y_on, y_ot, y_of, y_oe, y_ln, y_lt, y_lf, y_le, y_mt, y_mf, y_me, y_mn, y_told, y_non, y_val, List.length_cons, List.length_nil, List.cons_append, List.nil_append, List.take_succ_cons, List.take_zero, Bool.false_eq_true, reduceIte, sz_lit, Nat.reduceAdd, Nat.reduceLeDiff, Nat.reduceLT, Nat.zero_add, o_ci, o_addI, o_sub, o_neg, o_int, o_intB, o_min, o_max, o_aug, o_lenL, o_lenT, o_tupL, o_tupT, o_listL, o_listT, o_s10L, o_s10T, o_s01L, o_s01T, o_s11L, o_s11T, o_eqI, o_neI, o_eqS, o_neS, o_isB, o_isNotB, o_isN, o_isNotN, u_dT, u_dF, u_non, u_bl, u_int, u_tup, u_lst, at1]
    show (some (R.ok (cutD (D.int x :: l.map D.int) (some ((1 : Nat) : Int)) none, _)) : M (List D × Vn)) = _
    rw [cut_from (by simp)]
    rfl
  have lc := lc_all (own := [1]) (gi := vSeq (vOp fS10 (vEx (vAt acc "letters" (vSl 0 vNil)) (vExI (vLit (.int 1)) vNil)))) (t := tgName 1) (f := vFz (vOp fAdd (vEx (vOp fMul (vEx (vLit (.int 2)) (vSl 1 vNil))) (vEx (vLit (.int 1)) vNil)))) (env := [sv (lob p T i o ((x :: l).map D.int)), no]) (g := fun d => .int (2 * iz d + 1)) (ds := l.map D.int) it rfl rfl (by rw [List.length_map]; omega) fun d hd => by
    obtain ⟨n, _, rfl⟩ := List.mem_map.mp hd
    refine ⟨[sv (lob p T i o ((x :: l).map D.int)), sv (.int n)], [sv (lob p T i o ((x :: l).map D.int)), sv (.int n)], rfl, ?_, rfl⟩
    simp only [b_ok, b_ex, b_ret, w_g0, w_g1, w_s0, w_s1, z_v, z_l, e_lit, e_rd, k_rd, e_mv, k_mv, e_fz, k_fz, e_nil, e_ex, k_ex, k_ex1, e_exI, k_exI, e_sl, k_sl, k_sl1, w_nil, w_t, w_s, w_vw, w_c, e_op, k_op, k_op2, k_op3, e_b, k_b, e_tr, k_tr, k_tr2, k_tr3, e_andT, k_andT, e_orT, k_orT, e_notT, k_notT, e_and, k_and, k_and3, e_or, k_or, k_or3, e_not, k_not, e_if, k_if, e_ch, k_ch1, k_ch2, k_ch3, a_nil, a_t, a_c, e_tup, k_tup, k_tup2, e_lst, k_lst, k_lst2, e_then, k_then, k_thenr, e_drop, k_drop, e_rt, k_rt, e_rtN, e_nx, e_ifS, k_ifS, e_set, k_set, k_set2, e_asg, k_asg, k_asg2, t_name, t_name2, t_nil, t_cons, t_cons2, t_tup, e_par, k_par, k_par2, l_nil, l_t, l_s, l_v, l_l, l_d, l_o, l_c, gb_nil, gb_t, gb_f, gb_s, gb_s2, gb_n, e_call, k_call, k_call1, k_call2, k_call3, e_fn, k_fn, k_fnN, e_seq, k_seqL, k_seqv, k_seqt, e_src, k_src, k_src2, k_src3, e_for, k_for, n_ok, p_nil, p_cons, p_k, p_no, p_v, q_nil, q_cons, q_no, q_v, e_lc, k_lc, k_lc2, k_lc3, k_lc4, e_ld, k_ld, k_ld2, x_nil, x_cons, x_1, x_2, x_3, x_4, x_5, x_yes, x_sz, f_nil, f_cons, f_1, f_nx, f_ct, f_bk, f_rt, e_at, k_at2, k_at3, e_rs, k_rs, k_rs1, k_rs2, ao_nil, ao_t, ao_c, e_mt, k_mt, k_mt1, k_mt2, k_mt3, e_rep, k_rep, e_lam, k_lamx, k_lam, y_kn, y_kv, y_k0, y_kl, y_kd, y_on, y_ot, y_of, y_oe, y_ln, y_lt, y_lf, y_le, y_mt, y_mf, y_me, y_mn, y_told, y_non, y_val, List.length_cons, List.length_nil, List.cons_append, List.nil_append, List.take_succ_cons, List.take_zero, Bool.false_eq_true, reduceIte, sz_lit, Nat.reduceAdd, Nat.reduceLeDiff, Nat.reduceLT, Nat.zero_add, o_ci, o_addI, o_sub, o_neg, o_int, o_intB, o_min, o_max, o_aug, o_lenL, o_lenT, o_tupL, o_tupT, o_listL, o_listT, o_s10L, o_s10T, o_s01L, o_s01T, o_s11L, o_s11T, o_eqI, o_neI, o_eqS, o_neS, o_isB, o_isNotB, o_isN, o_isNotN, u_dT, u_dF, u_non, u_bl, u_int, u_tup, u_lst, o_mulL (a := 2) (b := n) (by decide)]
    rfl
  have e : (l.map D.int).map (fun d => D.int (2 * iz d + 1)) = (l.map fun n => 2 * n + 1).map D.int := by
    rw [List.map_map, List.map_map]
    rfl
  rw [e] at lc
  have ix : fIx [.tup ((x :: l).map D.int), .int 0] = some (.v (.int x)) := ix_tup at_zero
  unfold v_draw_count
  rw [e_fn (n := 1) rfl]
  show M.bind (b_draw_count [sv (lob p T i o ((x :: l).map D.int)), no]) (kFn 1) = _
  simp only [b_draw_count, ↓lc, b_ok, b_ex, b_ret, w_g0, w_g1, w_s0, w_s1, z_v, z_l, e_lit, e_rd, k_rd, e_mv, k_mv, e_fz, k_fz, e_nil, e_ex, k_ex, k_ex1, e_exI, k_exI, e_sl, k_sl, k_sl1, w_nil, w_t, w_s, w_vw, w_c, e_op, k_op, k_op2, k_op3, e_b, k_b, e_tr, k_tr, k_tr2, k_tr3, e_andT, k_andT, e_orT, k_orT, e_notT, k_notT, e_and, k_and, k_and3, e_or, k_or, k_or3, e_not, k_not, e_if, k_if, e_ch, k_ch1, k_ch2, k_ch3, a_nil, a_t, a_c, e_tup, k_tup, k_tup2, e_lst, k_lst, k_lst2, e_then, k_then, k_thenr, e_drop, k_drop, e_rt, k_rt, e_rtN, e_nx, e_ifS, k_ifS, e_set, k_set, k_set2, e_asg, k_asg, k_asg2, t_name, t_name2, t_nil, t_cons, t_cons2, t_tup, e_par, k_par, k_par2, l_nil, l_t, l_s, l_v, l_l, l_d, l_o, l_c, gb_nil, gb_t, gb_f, gb_s, gb_s2, gb_n, e_call, k_call, k_call1, k_call2, k_call3, e_fn, k_fn, k_fnN, e_seq, k_seqL, k_seqv, k_seqt, e_src, k_src, k_src2, k_src3, e_for, k_for, n_ok, p_nil, p_cons, p_k, p_no, p_v, q_nil, q_cons, q_no, q_v, e_lc, k_lc, k_lc2, k_lc3, k_lc4, e_ld, k_ld, k_ld2, x_nil, x_cons, x_1, x_2, x_3, x_4, x_5, x_yes, x_sz, f_nil, f_cons, f_1, f_nx, f_ct, f_bk, f_rt, e_at, k_at2, k_at3, e_rs, k_rs, k_rs1, k_rs2, ao_nil, ao_t, ao_c, e_mt, k_mt, k_mt1, k_mt2, k_mt3, e_rep, k_rep, e_lam, k_lamx, k_lam, y_kn, y_kv, y_k0, y_kl, y_kd, y_on, y_ot, y_of, y_oe, y_ln, y_lt, y_lf, y_le, y_mt, y_mf, y_me, y_mn, y_told, y_non, y_val, List.length_cons, List.length_nil, List.cons_append, List.nil_append, List.take_succ_cons, List.take_zero, Bool.false_eq_true, reduceIte, sz_lit, Nat.reduceAdd, Nat.reduceLeDiff, Nat.reduceLT, Nat.zero_add, o_ci, o_addI, o_sub, o_neg, o_int, o_intB, o_min, o_max, o_aug, o_lenL, o_lenT, o_tupL, o_tupT, o_listL, o_listT, o_s10L, o_s10T, o_s01L, o_s01T, o_s11L, o_s11T, o_eqI, o_neI, o_eqS, o_neS, o_isB, o_isNotB, o_isN, o_isNotN, u_dT, u_dF, u_non, u_bl, u_int, u_tup, u_lst, a1, at1, ix, o_sum (ints_row _)]
  rfl
end
end Lw

set_option Elab.async false
set_option linter.all false
set_option maxRecDepth 100000
set_option maxHeartbeats 4000000
/-! k39, l: layers drawn. -/
namespace Lw
open PySem PySem.Spec L2 Vi
open PyProof.Rows hiding St

theorem draw_is : v__law_draw = vFn 2 3 (drawB 75619 2147483543 9613 151) := rfl
theorem pick_is : v__law_pick = vFn 2 0 (pickB (vFn 2 3 (drawB 75619 2147483543 9613 151))) := rfl
theorem pen_is : v__law_pen = vFn 1 2 (penB 151 1000001501) := rfl
theorem pc : PenC 75619 2147483543 9613 151 := ⟨by decide, by decide, by decide, by decide⟩
section
variable {cs : List Int} {n many : Int} {s : PS} {xs : List D}
theorem drw (p : Bool) (g : PenG cs n s) (hn : n < 1000000000) (h1 : 1 ≤ many) (h2 : many < 1073741824) : ∃ r s', 0 ≤ r ∧ r < many ∧ PenG cs (n + 1) s' ∧ v__law_draw [⟨true, some (pO cs s)⟩, ⟨p, some (.v (.int many))⟩] = re (.v (.int r)) [⟨true, some (pO cs s')⟩, ⟨p, some (.v (.int many))⟩] := draw_g p pc g hn h1 h2
theorem pck (p : Bool) (g : PenG cs n s) (hn : n < 1000000000) (h1 : 1 ≤ xs.length) (h2 : xs.length < 1073741824) : ∃ x s', x ∈ xs ∧ PenG cs (n + 1) s' ∧ v__law_pick [⟨true, some (pO cs s)⟩, ⟨p, some (.l xs)⟩] = re (.v x) [⟨true, some (pO cs s')⟩, ⟨p, some (.l xs)⟩] := pick_g p pc g hn h1 h2
end
theorem at_last {xs : List D} {x : D} (h : xs[xs.length - 1]? = some x) : atI xs (-1) = some x := by
  have hl := (List.getElem?_eq_some_iff.mp h).1
  unfold atI ixN
  rw [if_neg (by decide), if_pos (by omega)]
  show xs[((xs.length : Int) + -1).toNat]? = _
  rw [show ((xs.length : Int) + -1).toNat = xs.length - 1 by omega]
  exact h
theorem in62_ok {i : Int} (h : 0 ≤ i ∧ i < 1000000) : in62 i = true := decide_eq_true (by omega)
abbrev sl (xs : List D) : Sl := ⟨false, some (.l xs)⟩
abbrev sx (x : Option O) : Sl := ⟨false, x⟩
abbrev pn (cs : List Int) (s : PS) : Sl := ⟨true, some (pO cs s)⟩
abbrev L1 : Vn → M (Fl × Vn) := vDrop (vMt 4 mAppend (vEx (vFz (vOp fAdd (vEx (vLit (.int 1)) (vEx (vCall v__law_draw (vSl 0 (vSl 2 vNil))) vNil)))) vNil))
abbrev L3 : Vn → M (Fl × Vn) := (vThen (vSet 10 (vTup (vEx (vFz (vCall v__law_draw (vSl 0 (vSl 7 vNil)))) (vEx (vFz (vCall v__law_draw (vSl 0 (vSl 7 vNil)))) vNil)))) (vThen (vSet 11 (vLst (vEx (vFz (vOp fAdd (vEx (vTup (vEx (vLit (.str "add")) vNil)) (vSl 10 vNil)))) (vEx (vFz (vOp fAdd (vEx (vTup (vEx (vLit (.str "mul")) vNil)) (vSl 10 vNil)))) (vEx (vTup (vEx (vLit (.str "keep")) (vEx (vOp fIx (vSl 10 (vEx (vLit (.int 0)) vNil))) vNil))) vNil))))) (vDrop (vMt 8 mAppend (vEx (vFz (vCall v__law_pick (vSl 0 (vEx (vOp fAdd (vSl 11 (vEx (vLst (vEx (vTup (vEx (vLit (.str "put")) (vEx (vFz (vCall v__law_pick (vSl 0 (vEx (vLst (vEx (vLit (.int 0)) (vEx (vLit (.int 1)) (vEx (vFz (vCall v__law_draw (vSl 0 (vSl 3 vNil)))) vNil)))) vNil)))) vNil))) vNil)) vNil))) vNil)))) vNil)))))
abbrev L2 : Vn → M (Fl × Vn) := (vThen (vPar 7 8 (vEx (vOp fIx (vSl 4 (vEx (vOp fAdd (vSl 5 (vEx (vLit (.int 1)) vNil))) vNil))) (vEx (vLst vNil) vNil))) (vThen (vFor (vSrc sR1 (vEx (vOp fIx (vSl 4 (vSl 5 vNil))) vNil)) (tgName 9) L3) (vDrop (vMt 6 mAppend (vEx (vFz (vOp fTuple (vSl 8 vNil))) vNil)))))
/-- a gate as it is drawn -/
structure Good (p b : Int) (g : D) : Prop where
  ok : gateOk p b g = true
  gt : gT g = true
  sh : Shw g 40 1
section
variable {cs : List Int} {p deep wide : Int}
theorem loop1 {n : Int} {s : PS} (g : PenG cs n s) (hn : n < 100000000) (hw : 1 ≤ wide ∧ wide ≤ 1000) (N : Nat) (hN : N ≤ 1000) : ∃ (s' : PS) (sz : List Int) (x : Option O), PenG cs (n + N) s' ∧ sz.length = N ∧ (∀ z ∈ sz, 1 ≤ z ∧ z ≤ wide) ∧
    goFor (tgName 5) L1 (rng 0 N 1) [pn cs s, sv (.int deep), sv (.int wide), sv (.int p), sl [], no, no, no, no, no, no, no] = some (.ok (.nx, [pn cs s', sv (.int deep), sv (.int wide), sv (.int p), sl (sz.map D.int), sx x, no, no, no, no, no, no])) := by
  obtain ⟨env', q1, s', sz, x, rfl, h1, h2, h3⟩ := goFor_rng (t := tgName 5) (b := L1) (fun j env => ∃ (s : PS) (sz : List Int) (x : Option O), env = [pn cs s, sv (.int deep), sv (.int wide), sv (.int p), sl (sz.map D.int), sx x, no, no, no, no, no, no] ∧ PenG cs (n + j) s ∧ sz.length = j ∧ ∀ z ∈ sz, 1 ≤ z ∧ z ≤ wide) N (fun i hi env ⟨s, sz, x, he, h1, h2, h3⟩ => by
    subst he
    obtain ⟨r, s', r0, r1, g', e⟩ := drw false h1 (by omega) hw.1 (by omega)
    refine ⟨[pn cs s, sv (.int deep), sv (.int wide), sv (.int p), sl (sz.map D.int), sv (.int i), no, no, no, no, no, no], [pn cs s', sv (.int deep), sv (.int wide), sv (.int p), sl ((sz ++ [1 + r]).map D.int), sv (.int i), no, no, no, no, no, no], rfl, .inl ?_, s', sz ++ [1 + r], _, rfl, ?_, ?_, ?_⟩
    · have hs : sizeLine = 16777216 := sizeLine_eq
      have ap := m_app (ds := sz.map D.int) (d := .int (1 + r)) (by rw [List.length_map]; omega)
      simp only [b_ok, b_ex, b_ret, w_g0, w_g1, w_s0, w_s1, z_v, z_l, e_lit, e_rd, k_rd, e_mv, k_mv, e_fz, k_fz, e_nil, e_ex, k_ex, k_ex1, e_exI, k_exI, e_sl, k_sl, k_sl1, w_nil, w_t, w_s, w_vw, w_c, e_op, k_op, k_op2, k_op3, e_b, k_b, e_tr, k_tr, k_tr2, k_tr3, e_andT, k_andT, e_orT, k_orT, e_notT, k_notT, e_and, k_and, k_and3, e_or, k_or, k_or3, e_not, k_not, e_if, k_if, e_ch, k_ch1, k_ch2, k_ch3, a_nil, a_t, a_c, e_tup, k_tup, k_tup2, e_lst, k_lst, k_lst2, e_then, k_then, k_thenr, e_drop, k_drop, e_rt, k_rt, e_rtN, e_nx, e_ifS, k_ifS, e_set, k_set, k_set2, e_asg, k_asg, k_asg2, t_name, t_name2, t_nil, t_cons, t_cons2, t_tup, e_par, k_par, k_par2, l_nil, l_t, l_s, l_v, l_l, l_d, l_o, l_c, gb_nil, gb_t, gb_f, gb_s, gb_s2, gb_n, e_call, k_call, k_call1, k_call2, k_call3, e_fn, k_fn, k_fnN, e_seq, k_seqL, k_seqv, k_seqt, e_src, k_src, k_src2, k_src3, e_for, k_for, n_ok, p_nil, p_cons, p_k, p_no, p_v, q_nil, q_cons, q_no, q_v, e_lc, k_lc, k_lc2, k_lc3, k_lc4, e_ld, k_ld, k_ld2, x_nil, x_cons, x_1, x_2, x_3, x_4, x_5, x_yes, x_sz, f_nil, f_cons, f_1, f_nx, f_ct, f_bk, f_rt, e_at, k_at2, k_at3, e_rs, k_rs, k_rs1, k_rs2, ao_nil, ao_t, ao_c, e_mt, k_mt, k_mt1, k_mt2, k_mt3, e_rep, k_rep, e_lam, k_lamx, k_lam, y_kn, y_kv, y_k0, y_kl, y_kd, y_on, y_ot, y_of, y_oe, y_ln, y_lt, y_lf, y_le, y_mt, y_mf, y_me, y_mn, y_told, y_non, y_val, List.length_cons, List.length_nil, List.cons_append, List.nil_append, List.take_succ_cons, List.take_zero, Bool.false_eq_true, reduceIte, sz_lit, Nat.reduceAdd, Nat.reduceLeDiff, Nat.reduceLT, Nat.zero_add, o_ci, o_addI, o_sub, o_neg, o_int, o_intB, o_min, o_max, o_aug, o_lenL, o_lenT, o_tupL, o_tupT, o_listL, o_listT, o_s10L, o_s10T, o_s01L, o_s01T, o_s11L, o_s11T, o_eqI, o_neI, o_eqS, o_neS, o_isB, o_isNotB, o_isN, o_isNotN, u_dT, u_dF, u_non, u_bl, u_int, u_tup, u_lst, l_pen, e, ap, List.map_append, List.map_cons, List.map_nil]
    · rw [show n + ((i + 1 : Nat) : Int) = n + i + 1 by omega]
      exact g'
    · rw [List.length_append, h2]
      rfl
    · intro z hz
      rcases List.mem_append.mp hz with hz | hz
      · exact h3 z hz
      · rw [List.mem_singleton.mp hz]
        omega) [pn cs s, sv (.int deep), sv (.int wide), sv (.int p), sl [], no, no, no, no, no, no, no] ⟨s, [], none, rfl, g.mono (by omega), rfl, fun z hz => by cases hz⟩
  exact ⟨s', sz, x, h1, h2, h3, q1⟩
theorem gate_drawn {b x y w : Int} {g : D} (hb : b ≤ 1000) (hp : 2 ≤ p ∧ p < 1000000000) (hx : 0 ≤ x ∧ x < b) (hy : 0 ≤ y ∧ y < b) (hw : 0 ≤ w ∧ w < p) {u : D} (hu : u ∈ [D.int 0, .int 1, .int w]) (hg : g ∈ [D.tup [.str "add", .int x, .int y], .tup [.str "mul", .int x, .int y], .tup [.str "keep", .int x], .tup [.str "put", u]]) : Good p b g := by
  have nx : isNum (.int x) b = true := by
    show (decide (0 ≤ x) && decide (x < b)) = true
    rw [decide_eq_true hx.1, decide_eq_true hx.2]
    rfl
  have ny : isNum (.int y) b = true := by
    show (decide (0 ≤ y) && decide (y < b)) = true
    rw [decide_eq_true hy.1, decide_eq_true hy.2]
    rfl
  have sx : Shw (.int x) 0 0 := .int (by omega)
  have sy : Shw (.int y) 0 0 := .int (by omega)
  have st : ∀ t : Str, t ∈ [("add" : Str), "mul", "keep", "put"] → Shw (.str t) 10 0 := by
    intro t ht
    simp only [List.mem_cons, List.not_mem_nil, or_false] at ht
    rcases ht with rfl | rfl | rfl | rfl <;> exact ⟨by decide +kernel, by decide +kernel, Nat.le_refl _⟩
  obtain ⟨w', rfl, hw'⟩ : ∃ w', u = .int w' ∧ 0 ≤ w' ∧ w' < p := by
    simp only [List.mem_cons, List.not_mem_nil, or_false] at hu
    rcases hu with rfl | rfl | rfl
    · exact ⟨0, rfl, by omega, by omega⟩
    · exact ⟨1, rfl, by omega, by omega⟩
    · exact ⟨w, rfl, hw⟩
  have nu : isNum (.int w') p = true := by
    show (decide (0 ≤ w') && decide (w' < p)) = true
    rw [decide_eq_true hw'.1, decide_eq_true hw'.2]
    rfl
  have su : Shw (.int w') 0 0 := .int (by omega)
  have sh : ∀ ds : List D, ds.length ≤ 3 → (∀ d ∈ ds, Shw d 10 0) → Shw (.tup ds) 40 1 := fun ds hl h => (Shw.tup (L := 3) hl h).mono (by decide) (Nat.le_refl _)
  simp only [List.mem_cons, List.not_mem_nil, or_false] at hg
  rcases hg with rfl | rfl | rfl | rfl
  · refine ⟨?_, rfl, sh _ (by simp) ?_⟩
    · show (true && (true && (isNum (.int x) b && (isNum (.int y) b && true)))) = true
      rw [nx, ny]
      rfl
    · intro d hd
      simp only [List.mem_cons, List.not_mem_nil, or_false] at hd
      rcases hd with rfl | rfl | rfl
      · exact st _ (by simp)
      · exact sx.mono (by decide) (Nat.le_refl _)
      · exact sy.mono (by decide) (Nat.le_refl _)
  · refine ⟨?_, rfl, sh _ (by simp) ?_⟩
    · show (true && (true && (isNum (.int x) b && (isNum (.int y) b && true)))) = true
      rw [nx, ny]
      rfl
    · intro d hd
      simp only [List.mem_cons, List.not_mem_nil, or_false] at hd
      rcases hd with rfl | rfl | rfl
      · exact st _ (by simp)
      · exact sx.mono (by decide) (Nat.le_refl _)
      · exact sy.mono (by decide) (Nat.le_refl _)
  · refine ⟨?_, rfl, sh _ (by simp) ?_⟩
    · show (true && (true && (isNum (.int x) b && true))) = true
      rw [nx]
      rfl
    · intro d hd
      simp only [List.mem_cons, List.not_mem_nil, or_false] at hd
      rcases hd with rfl | rfl
      · exact st _ (by simp)
      · exact sx.mono (by decide) (Nat.le_refl _)
  · refine ⟨?_, rfl, sh _ (by simp) ?_⟩
    · show (true && (true && (isNum (.int w') p && true))) = true
      rw [nu]
      rfl
    · intro d hd
      simp only [List.mem_cons, List.not_mem_nil, or_false] at hd
      rcases hd with rfl | rfl
      · exact st _ (by simp)
      · exact su.mono (by decide) (Nat.le_refl _)
end
end Lw

set_option Elab.async false
set_option linter.all false
set_option maxRecDepth 100000
set_option maxHeartbeats 4000000
/-! k39, n: layers drawn, the loops. -/
namespace Lw
open PySem PySem.Spec L2 Vi
open PyProof.Rows hiding St

abbrev six : List D := [.int 5, .int 7, .int 11, .int 101, .int 65537, .int 999999937]
section
variable {cs : List Int} {p deep wide : Int}
theorem loop3 {n k b : Int} {s : PS} {sz Ls : List D} {x9 x10 x11 : Option O} (g : PenG cs n s) (hn : n < 100000000) (hb : 1 ≤ b ∧ b ≤ 1000) (hp : 2 ≤ p ∧ p < 1000000000) (N : Nat) (hN : N ≤ 1000) : ∃ (s' : PS) (gs : List D) (x9' x10' x11' : Option O), PenG cs (n + 5 * N) s' ∧ gs.length = N ∧ (∀ g ∈ gs, Good p b g) ∧
    goFor (tgName 9) L3 (rng 0 N 1) [pn cs s, sv (.int deep), sv (.int wide), sv (.int p), sl sz, sv (.int k), sl Ls, sv (.int b), sl [], sx x9, sx x10, sx x11] = some (.ok (.nx, [pn cs s', sv (.int deep), sv (.int wide), sv (.int p), sl sz, sv (.int k), sl Ls, sv (.int b), sl gs, sx x9', sx x10', sx x11'])) := by
  obtain ⟨env', q1, s', gs, x9', x10', x11', rfl, h1, h2, h3⟩ := goFor_rng (t := tgName 9) (b := L3) (fun j env => ∃ (s : PS) (gs : List D) (x9 x10 x11 : Option O), env = [pn cs s, sv (.int deep), sv (.int wide), sv (.int p), sl sz, sv (.int k), sl Ls, sv (.int b), sl gs, sx x9, sx x10, sx x11] ∧ PenG cs (n + 5 * j) s ∧ gs.length = j ∧ ∀ g ∈ gs, Good p b g) N (fun i hi env ⟨s, gs, x9, x10, x11, he, h1, h2, h3⟩ => by
    subst he
    obtain ⟨x, s1, x0, x1, g1, e1⟩ := drw false h1 (by omega) hb.1 (by omega)
    obtain ⟨y, s2, y0, y1, g2, e2⟩ := drw false g1 (by omega) hb.1 (by omega)
    obtain ⟨w, s3, w0, w1, g3, e3⟩ := drw false g2 (by omega) (many := p) (by omega) (by omega)
    obtain ⟨u, s4, hu, g4, e4⟩ := pck false g3 (by omega) (xs := [.int 0, .int 1, .int w]) (by simp) (by simp)
    obtain ⟨v, s5, hv, g5, e5⟩ := pck false g4 (by omega) (xs := [D.tup [.str "add", .int x, .int y], .tup [.str "mul", .int x, .int y], .tup [.str "keep", .int x], .tup [.str "put", u]]) (by simp) (by simp)
    have gd : Good p b v := gate_drawn (by omega) hp ⟨x0, x1⟩ ⟨y0, y1⟩ ⟨w0, w1⟩ hu hv
    have hs : sizeLine = 16777216 := sizeLine_eq
    have ap := m_app (ds := gs) (d := v) (by omega)
    have ix : fIx [.tup [.int x, .int y], .int 0] = some (.v (.int x)) := rfl
    have a1 : fAdd [.tup [.str "add"], .tup [.int x, .int y]] = some (.v (.tup [.str "add", .int x, .int y])) := o_addT (by simp only [b_ok, b_ex, b_ret, w_g0, w_g1, w_s0, w_s1, z_v, z_l, e_lit, e_rd, k_rd, e_mv, k_mv, e_fz, k_fz, e_nil, e_ex, k_ex, k_ex1, e_exI, k_exI, e_sl, k_sl, k_sl1, w_nil, w_t, w_s, w_vw, w_c, e_op, k_op, k_op2, k_op3, e_b, k_b, e_tr, k_tr, k_tr2, k_tr3, e_andT, k_andT, e_orT, k_orT, e_notT, k_notT, e_and, k_and, k_and3, e_or, k_or, k_or3, e_not, k_not, e_if, k_if, e_ch, k_ch1, k_ch2, k_ch3, a_nil, a_t, a_c, e_tup, k_tup, k_tup2, e_lst, k_lst, k_lst2, e_then, k_then, k_thenr, e_drop, k_drop, e_rt, k_rt, e_rtN, e_nx, e_ifS, k_ifS, e_set, k_set, k_set2, e_asg, k_asg, k_asg2, t_name, t_name2, t_nil, t_cons, t_cons2, t_tup, e_par, k_par, k_par2, l_nil, l_t, l_s, l_v, l_l, l_d, l_o, l_c, gb_nil, gb_t, gb_f, gb_s, gb_s2, gb_n, e_call, k_call, k_call1, k_call2, k_call3, e_fn, k_fn, k_fnN, e_seq, k_seqL, k_seqv, k_seqt, e_src, k_src, k_src2, k_src3, e_for, k_for, n_ok, p_nil, p_cons, p_k, p_no, p_v, q_nil, q_cons, q_no, q_v, e_lc, k_lc, k_lc2, k_lc3, k_lc4, e_ld, k_ld, k_ld2, x_nil, x_cons, x_1, x_2, x_3, x_4, x_5, x_yes, x_sz, f_nil, f_cons, f_1, f_nx, f_ct, f_bk, f_rt, e_at, k_at2, k_at3, e_rs, k_rs, k_rs1, k_rs2, ao_nil, ao_t, ao_c, e_mt, k_mt, k_mt1, k_mt2, k_mt3, e_rep, k_rep, e_lam, k_lamx, k_lam, y_kn, y_kv, y_k0, y_kl, y_kd, y_on, y_ot, y_of, y_oe, y_ln, y_lt, y_lf, y_le, y_mt, y_mf, y_me, y_mn, y_told, y_non, y_val, List.length_cons, List.length_nil, List.cons_append, List.nil_append, List.take_succ_cons, List.take_zero, Bool.false_eq_true, reduceIte, sz_lit, Nat.reduceAdd, Nat.reduceLeDiff, Nat.reduceLT, Nat.zero_add])
    have a2 : fAdd [.tup [.str "mul"], .tup [.int x, .int y]] = some (.v (.tup [.str "mul", .int x, .int y])) := o_addT (by simp only [b_ok, b_ex, b_ret, w_g0, w_g1, w_s0, w_s1, z_v, z_l, e_lit, e_rd, k_rd, e_mv, k_mv, e_fz, k_fz, e_nil, e_ex, k_ex, k_ex1, e_exI, k_exI, e_sl, k_sl, k_sl1, w_nil, w_t, w_s, w_vw, w_c, e_op, k_op, k_op2, k_op3, e_b, k_b, e_tr, k_tr, k_tr2, k_tr3, e_andT, k_andT, e_orT, k_orT, e_notT, k_notT, e_and, k_and, k_and3, e_or, k_or, k_or3, e_not, k_not, e_if, k_if, e_ch, k_ch1, k_ch2, k_ch3, a_nil, a_t, a_c, e_tup, k_tup, k_tup2, e_lst, k_lst, k_lst2, e_then, k_then, k_thenr, e_drop, k_drop, e_rt, k_rt, e_rtN, e_nx, e_ifS, k_ifS, e_set, k_set, k_set2, e_asg, k_asg, k_asg2, t_name, t_name2, t_nil, t_cons, t_cons2, t_tup, e_par, k_par, k_par2, l_nil, l_t, l_s, l_v, l_l, l_d, l_o, l_c, gb_nil, gb_t, gb_f, gb_s, gb_s2, gb_n, e_call, k_call, k_call1, k_call2, k_call3, e_fn, k_fn, k_fnN, e_seq, k_seqL, k_seqv, k_seqt, e_src, k_src, k_src2, k_src3, e_for, k_for, n_ok, p_nil, p_cons, p_k, p_no, p_v, q_nil, q_cons, q_no, q_v, e_lc, k_lc, k_lc2, k_lc3, k_lc4, e_ld, k_ld, k_ld2, x_nil, x_cons, x_1, x_2, x_3, x_4, x_5, x_yes, x_sz, f_nil, f_cons, f_1, f_nx, f_ct, f_bk, f_rt, e_at, k_at2, k_at3, e_rs, k_rs, k_rs1, k_rs2, ao_nil, ao_t, ao_c, e_mt, k_mt, k_mt1, k_mt2, k_mt3, e_rep, k_rep, e_lam, k_lamx, k_lam, y_kn, y_kv, y_k0, y_kl, y_kd, y_on, y_ot, y_of, y_oe, y_ln, y_lt, y_lf, y_le, y_mt, y_mf, y_me, y_mn, y_told, y_non, y_val, List.length_cons, List.length_nil, List.cons_append, List.nil_append, List.take_succ_cons, List.take_zero, Bool.false_eq_true, reduceIte, sz_lit, Nat.reduceAdd, Nat.reduceLeDiff, Nat.reduceLT, Nat.zero_add])
    have a3 : fAdd [.lst [D.tup [.str "add", .int x, .int y], .tup [.str "mul", .int x, .int y], .tup [.str "keep", .int x]], .lst [.tup [.str "put", u]]] = some (.l [D.tup [.str "add", .int x, .int y], .tup [.str "mul", .int x, .int y], .tup [.str "keep", .int x], .tup [.str "put", u]]) := o_addL (by simp only [b_ok, b_ex, b_ret, w_g0, w_g1, w_s0, w_s1, z_v, z_l, e_lit, e_rd, k_rd, e_mv, k_mv, e_fz, k_fz, e_nil, e_ex, k_ex, k_ex1, e_exI, k_exI, e_sl, k_sl, k_sl1, w_nil, w_t, w_s, w_vw, w_c, e_op, k_op, k_op2, k_op3, e_b, k_b, e_tr, k_tr, k_tr2, k_tr3, e_andT, k_andT, e_orT, k_orT, e_notT, k_notT, e_and, k_and, k_and3, e_or, k_or, k_or3, e_not, k_not, e_if, k_if, e_ch, k_ch1, k_ch2, k_ch3, a_nil, a_t, a_c, e_tup, k_tup, k_tup2, e_lst, k_lst, k_lst2, e_then, k_then, k_thenr, e_drop, k_drop, e_rt, k_rt, e_rtN, e_nx, e_ifS, k_ifS, e_set, k_set, k_set2, e_asg, k_asg, k_asg2, t_name, t_name2, t_nil, t_cons, t_cons2, t_tup, e_par, k_par, k_par2, l_nil, l_t, l_s, l_v, l_l, l_d, l_o, l_c, gb_nil, gb_t, gb_f, gb_s, gb_s2, gb_n, e_call, k_call, k_call1, k_call2, k_call3, e_fn, k_fn, k_fnN, e_seq, k_seqL, k_seqv, k_seqt, e_src, k_src, k_src2, k_src3, e_for, k_for, n_ok, p_nil, p_cons, p_k, p_no, p_v, q_nil, q_cons, q_no, q_v, e_lc, k_lc, k_lc2, k_lc3, k_lc4, e_ld, k_ld, k_ld2, x_nil, x_cons, x_1, x_2, x_3, x_4, x_5, x_yes, x_sz, f_nil, f_cons, f_1, f_nx, f_ct, f_bk, f_rt, e_at, k_at2, k_at3, e_rs, k_rs, k_rs1, k_rs2, ao_nil, ao_t, ao_c, e_mt, k_mt, k_mt1, k_mt2, k_mt3, e_rep, k_rep, e_lam, k_lamx, k_lam, y_kn, y_kv, y_k0, y_kl, y_kd, y_on, y_ot, y_of, y_oe, y_ln, y_lt, y_lf, y_le, y_mt, y_mf, y_me, y_mn, y_told, y_non, y_val, List.length_cons, List.length_nil, List.cons_append, List.nil_append, List.take_succ_cons, List.take_zero, Bool.false_eq_true, reduceIte, sz_lit, Nat.reduceAdd, Nat.reduceLeDiff, Nat.reduceLT, Nat.zero_add])
    refine ⟨[pn cs s, sv (.int deep), sv (.int wide), sv (.int p), sl sz, sv (.int k), sl Ls, sv (.int b), sl gs, sv (.int i), sx x10, sx x11], [pn cs s5, sv (.int deep), sv (.int wide), sv (.int p), sl sz, sv (.int k), sl Ls, sv (.int b), sl (gs ++ [v]), sv (.int i), sv (.tup [.int x, .int y]), sl [D.tup [.str "add", .int x, .int y], .tup [.str "mul", .int x, .int y], .tup [.str "keep", .int x]]], rfl, .inl ?_, s5, gs ++ [v], _, _, _, rfl, ?_, ?_, ?_⟩
    · simp only [b_ok, b_ex, b_ret, w_g0, w_g1, w_s0, w_s1, z_v, z_l, e_lit, e_rd, k_rd, e_mv, k_mv, e_fz, k_fz, e_nil, e_ex, k_ex, k_ex1, e_exI, k_exI, e_sl, k_sl, k_sl1, w_nil, w_t, w_s, w_vw, w_c, e_op, k_op, k_op2, k_op3, e_b, k_b, e_tr, k_tr, k_tr2, k_tr3, e_andT, k_andT, e_orT, k_orT, e_notT, k_notT, e_and, k_and, k_and3, e_or, k_or, k_or3, e_not, k_not, e_if, k_if, e_ch, k_ch1, k_ch2, k_ch3, a_nil, a_t, a_c, e_tup, k_tup, k_tup2, e_lst, k_lst, k_lst2, e_then, k_then, k_thenr, e_drop, k_drop, e_rt, k_rt, e_rtN, e_nx, e_ifS, k_ifS, e_set, k_set, k_set2, e_asg, k_asg, k_asg2, t_name, t_name2, t_nil, t_cons, t_cons2, t_tup, e_par, k_par, k_par2, l_nil, l_t, l_s, l_v, l_l, l_d, l_o, l_c, gb_nil, gb_t, gb_f, gb_s, gb_s2, gb_n, e_call, k_call, k_call1, k_call2, k_call3, e_fn, k_fn, k_fnN, e_seq, k_seqL, k_seqv, k_seqt, e_src, k_src, k_src2, k_src3, e_for, k_for, n_ok, p_nil, p_cons, p_k, p_no, p_v, q_nil, q_cons, q_no, q_v, e_lc, k_lc, k_lc2, k_lc3, k_lc4, e_ld, k_ld, k_ld2, x_nil, x_cons, x_1, x_2, x_3, x_4, x_5, x_yes, x_sz, f_nil, f_cons, f_1, f_nx, f_ct, f_bk, f_rt, e_at, k_at2, k_at3, e_rs, k_rs, k_rs1, k_rs2, ao_nil, ao_t, ao_c, e_mt, k_mt, k_mt1, k_mt2, k_mt3, e_rep, k_rep, e_lam, k_lamx, k_lam, y_kn, y_kv, y_k0, y_kl, y_kd, y_on, y_ot, y_of, y_oe, y_ln, y_lt, y_lf, y_le, y_mt, y_mf, y_me, y_mn, y_told, y_non, y_val, List.length_cons, List.length_nil, List.cons_append, List.nil_append, List.take_succ_cons, List.take_zero, Bool.false_eq_true, reduceIte, sz_lit, Nat.reduceAdd, Nat.reduceLeDiff, Nat.reduceLT, Nat.zero_add, o_ci, o_addI, o_sub, o_neg, o_int, o_intB, o_min, o_max, o_aug, o_lenL, o_lenT, o_tupL, o_tupT, o_listL, o_listT, o_s10L, o_s10T, o_s01L, o_s01T, o_s11L, o_s11T, o_eqI, o_neI, o_eqS, o_neS, o_isB, o_isNotB, o_isN, o_isNotN, u_dT, u_dF, u_non, u_bl, u_int, u_tup, u_lst, l_pen, e1, e2, e3, e4, e5, ix, a1, a2, a3, ap]
    · rw [show n + 5 * ((i + 1 : Nat) : Int) = n + 5 * i + 1 + 1 + 1 + 1 + 1 by omega]
      exact g5
    · rw [List.length_append, h2]
      rfl
    · intro z hz
      rcases List.mem_append.mp hz with hz | hz
      · exact h3 z hz
      · rw [List.mem_singleton.mp hz]
        exact gd) [pn cs s, sv (.int deep), sv (.int wide), sv (.int p), sl sz, sv (.int k), sl Ls, sv (.int b), sl [], sx x9, sx x10, sx x11] ⟨s, [], x9, x10, x11, rfl, g.mono (by omega), rfl, fun z hz => by cases hz⟩
  exact ⟨s', gs, x9', x10', x11', h1, h2, h3, q1⟩
/-- the layers so far -/
def Made (p : Int) (sz : List Int) (Ls : List D) : Prop := ∀ i, i < Ls.length → ∃ (gs : List D) (a b : Int), Ls[i]? = some (.tup gs) ∧ sz[i]? = some a ∧ sz[i + 1]? = some b ∧ (gs.length : Int) = a ∧ ∀ g ∈ gs, Good p b g
theorem at_int {sz : List Int} {i : Nat} {z : Int} (h : sz[i]? = some z) : atI (sz.map D.int) (i : Int) = some (.int z) := at_nat (by rw [List.getElem?_map, h]; rfl)
theorem loop2 {n : Int} {s : PS} {sz : List Int} {x5 : Option O} (g : PenG cs n s) (hn : n < 10000000) (hw : wide ≤ 100) (hz : ∀ z ∈ sz, 1 ≤ z ∧ z ≤ wide) (hp : 2 ≤ p ∧ p < 1000000000) (N : Nat) (hN : N ≤ 1000) (hl : N + 1 = sz.length) : ∃ (s' : PS) (Ls : List D) (y5 y7 y8 y9 y10 y11 : Option O), PenG cs (n + 500 * N) s' ∧ Ls.length = N ∧ Made p sz Ls ∧
    goFor (tgName 5) L2 (rng 0 N 1) [pn cs s, sv (.int deep), sv (.int wide), sv (.int p), sl (sz.map D.int), sx x5, sl [], no, no, no, no, no] = some (.ok (.nx, [pn cs s', sv (.int deep), sv (.int wide), sv (.int p), sl (sz.map D.int), sx y5, sl Ls, sx y7, sx y8, sx y9, sx y10, sx y11])) := by
  obtain ⟨env', q1, s', Ls, y5, y7, y8, y9, y10, y11, rfl, h1, h2, h3⟩ := goFor_rng (t := tgName 5) (b := L2) (fun j env => ∃ (s : PS) (Ls : List D) (y5 y7 y8 y9 y10 y11 : Option O), env = [pn cs s, sv (.int deep), sv (.int wide), sv (.int p), sl (sz.map D.int), sx y5, sl Ls, sx y7, sx y8, sx y9, sx y10, sx y11] ∧ PenG cs (n + 500 * j) s ∧ Ls.length = j ∧ Made p sz Ls) N (fun i hi env ⟨s, Ls, y5, y7, y8, y9, y10, y11, he, h1, h2, h3⟩ => by
    subst he
    obtain ⟨a, ha⟩ : ∃ z, sz[i]? = some z := ⟨_, List.getElem?_eq_getElem (by omega)⟩
    obtain ⟨b, hb⟩ : ∃ z, sz[i + 1]? = some z := ⟨_, List.getElem?_eq_getElem (by omega)⟩
    have a1 := hz a (List.mem_of_getElem? ha)
    have b1 := hz b (List.mem_of_getElem? hb)
    obtain ⟨s', gs, z9, z10, z11, g1, gl, gg, e⟩ := loop3 (deep := deep) (wide := wide) (p := p) (k := (i : Int)) (b := b) (sz := sz.map D.int) (Ls := Ls) (x9 := y9) (x10 := y10) (x11 := y11) h1 (by omega) (by omega) hp a.toNat (by omega)
    have ix1 : fIx [.lst (sz.map D.int), .int ((i : Int) + 1)] = some (.v (.int b)) := ix_lst (at_int (i := i + 1) hb)
    have ix2 : fIx [.lst (sz.map D.int), .int (i : Int)] = some (.v (.int a)) := ix_lst (at_int ha)
    have rg := r_1 (a := a) (in62_ok (by omega))
    have hs : sizeLine = 16777216 := sizeLine_eq
    have ap := m_app (ds := Ls) (d := .tup gs) (by omega)
    refine ⟨[pn cs s, sv (.int deep), sv (.int wide), sv (.int p), sl (sz.map D.int), sv (.int i), sl Ls, sx y7, sx y8, sx y9, sx y10, sx y11], [pn cs s', sv (.int deep), sv (.int wide), sv (.int p), sl (sz.map D.int), sv (.int i), sl (Ls ++ [.tup gs]), sv (.int b), sl gs, sx z9, sx z10, sx z11], rfl, .inl ?_, s', Ls ++ [.tup gs], _, _, _, _, _, _, rfl, ?_, ?_, ?_⟩
    · simp only [b_ok, b_ex, b_ret, w_g0, w_g1, w_s0, w_s1, z_v, z_l, e_lit, e_rd, k_rd, e_mv, k_mv, e_fz, k_fz, e_nil, e_ex, k_ex, k_ex1, e_exI, k_exI, e_sl, k_sl, k_sl1, w_nil, w_t, w_s, w_vw, w_c, e_op, k_op, k_op2, k_op3, e_b, k_b, e_tr, k_tr, k_tr2, k_tr3, e_andT, k_andT, e_orT, k_orT, e_notT, k_notT, e_and, k_and, k_and3, e_or, k_or, k_or3, e_not, k_not, e_if, k_if, e_ch, k_ch1, k_ch2, k_ch3, a_nil, a_t, a_c, e_tup, k_tup, k_tup2, e_lst, k_lst, k_lst2, e_then, k_then, k_thenr, e_drop, k_drop, e_rt, k_rt, e_rtN, e_nx, e_ifS, k_ifS, e_set, k_set, k_set2, e_asg, k_asg, k_asg2, t_name, t_name2, t_nil, t_cons, t_cons2, t_tup, e_par, k_par, k_par2, l_nil, l_t, l_s, l_v, l_l, l_d, l_o, l_c, gb_nil, gb_t, gb_f, gb_s, gb_s2, gb_n, e_call, k_call, k_call1, k_call2, k_call3, e_fn, k_fn, k_fnN, e_seq, k_seqL, k_seqv, k_seqt, e_src, k_src, k_src2, k_src3, e_for, k_for, n_ok, p_nil, p_cons, p_k, p_no, p_v, q_nil, q_cons, q_no, q_v, e_lc, k_lc, k_lc2, k_lc3, k_lc4, e_ld, k_ld, k_ld2, x_nil, x_cons, x_1, x_2, x_3, x_4, x_5, x_yes, x_sz, f_nil, f_cons, f_1, f_nx, f_ct, f_bk, f_rt, e_at, k_at2, k_at3, e_rs, k_rs, k_rs1, k_rs2, ao_nil, ao_t, ao_c, e_mt, k_mt, k_mt1, k_mt2, k_mt3, e_rep, k_rep, e_lam, k_lamx, k_lam, y_kn, y_kv, y_k0, y_kl, y_kd, y_on, y_ot, y_of, y_oe, y_ln, y_lt, y_lf, y_le, y_mt, y_mf, y_me, y_mn, y_told, y_non, y_val, List.length_cons, List.length_nil, List.cons_append, List.nil_append, List.take_succ_cons, List.take_zero, Bool.false_eq_true, reduceIte, sz_lit, Nat.reduceAdd, Nat.reduceLeDiff, Nat.reduceLT, Nat.zero_add, o_ci, o_addI, o_sub, o_neg, o_int, o_intB, o_min, o_max, o_aug, o_lenL, o_lenT, o_tupL, o_tupT, o_listL, o_listT, o_s10L, o_s10T, o_s01L, o_s01T, o_s11L, o_s11T, o_eqI, o_neI, o_eqS, o_neS, o_isB, o_isNotB, o_isN, o_isNotN, u_dT, u_dF, u_non, u_bl, u_int, u_tup, u_lst, ix1, ix2, rg, ↓e, ap]
    · exact g1.mono (by omega)
    · rw [List.length_append, h2]
      rfl
    · intro j hj
      rw [List.length_append, List.length_singleton] at hj
      by_cases hc : j < Ls.length
      · rw [List.getElem?_append_left hc]
        exact h3 j hc
      · have hj' : j = i := by omega
        subst hj'
        refine ⟨gs, a, b, ?_, ha, hb, by omega, gg⟩
        rw [List.getElem?_append_right (by omega), h2, Nat.sub_self]
        rfl) [pn cs s, sv (.int deep), sv (.int wide), sv (.int p), sl (sz.map D.int), sx x5, sl [], no, no, no, no, no] ⟨s, [], x5, none, none, none, none, none, rfl, g.mono (by omega), rfl, fun i hi => by simp at hi⟩
  exact ⟨s', Ls, y5, y7, y8, y9, y10, y11, h1, h2, h3, q1⟩
/-- what is drawn -/
theorem layers_drawn {n : Int} {s : PS} (g : PenG cs n s) (hn : n < 1000000) : ∃ (s' : PS) (p : Int) (Ls : List D) (sz : List Int) (m k z : Int), PenG cs (n + 10000) s' ∧ .int p ∈ six ∧ sz.length = Ls.length + 1 ∧ 1 ≤ Ls.length ∧ Ls.length ≤ 10 ∧ (∀ z ∈ sz, 1 ≤ z ∧ z ≤ 9) ∧ Made p sz Ls ∧ sz[Ls.length]? = some m ∧ sz[0]? = some z ∧ 1 ≤ k ∧ k ≤ z ∧
    v__law_layers [pn cs s, sv (.int 4), sv (.int 9)] = re (.v (t4 p (.tup Ls) (.int m) (.int k))) [pn cs s', sv (.int 4), sv (.int 9)] := by
  obtain ⟨pp, s1, hp, g1, e1⟩ := pck false g (by omega) (xs := six) (by simp) (by simp)
  obtain ⟨p, rfl⟩ : ∃ p, pp = .int p := by
    simp only [List.mem_cons, List.not_mem_nil, or_false] at hp
    rcases hp with rfl | rfl | rfl | rfl | rfl | rfl <;> exact ⟨_, rfl⟩
  have p2 : 2 ≤ p ∧ p < 1000000000 := by
    simp only [List.mem_cons, List.not_mem_nil, or_false, D.int.injEq] at hp
    omega
  obtain ⟨r, s2, r0, r1, g2, e2⟩ := drw false g1 (by omega) (many := 4) (by omega) (by omega)
  obtain ⟨s3, sz, x5, g3, zl, zz, e3⟩ := loop1 (deep := 4) (wide := 9) (p := p) g2 (by omega) (by omega) (2 + r).toNat (by omega)
  obtain ⟨s4, Ls, y5, y7, y8, y9, y10, y11, g4, ll, md, e4⟩ := loop2 (deep := 4) (wide := 9) (p := p) (x5 := x5) g3 (by omega) (by omega) zz p2 (((2 + r).toNat : Int) - 1).toNat (by omega) (by omega)
  obtain ⟨m, hm⟩ : ∃ m, sz[Ls.length]? = some m := ⟨_, List.getElem?_eq_getElem (by omega)⟩
  obtain ⟨z, hz⟩ : ∃ m, sz[0]? = some m := ⟨_, List.getElem?_eq_getElem (by omega)⟩
  have z1 := zz z (List.mem_of_getElem? hz)
  obtain ⟨k, s5, k0, k1, g5, e5⟩ := drw false g4 (by omega) (many := z) (by omega) (by omega)
  refine ⟨s5, p, Ls, sz, m, 1 + k, z, g5.mono (by omega), hp, by omega, by omega, by omega, zz, md, hm, hz, by omega, by omega, ?_⟩
  have rg1 := r_1 (a := 2 + r) (in62_ok (by omega))
  have rg2 := r_1 (a := (((2 + r).toNat : Nat) : Int) - 1) (in62_ok (by omega))
  have l1 : (sz.map D.int).length = (2 + r).toNat := by rw [List.length_map, zl]
  have ixl : fIx [.lst (sz.map D.int), .int (-1)] = some (.v (.int m)) := ix_lst (at_last (by
    rw [List.length_map, List.getElem?_map, show sz.length - 1 = Ls.length by omega, hm]
    rfl))
  have ix0 : fIx [.lst (sz.map D.int), .int 0] = some (.v (.int z)) := ix_lst (at_int (i := 0) hz)
  unfold v__law_layers
  rw [e_fn (n := 3) rfl]
  show M.bind (b__law_layers [pn cs s, sv (.int 4), sv (.int 9), no, no, no, no, no, no, no, no, no]) (kFn 3) = _
  simp only [b__law_layers, b_ok, b_ex, b_ret, w_g0, w_g1, w_s0, w_s1, z_v, z_l, e_lit, e_rd, k_rd, e_mv, k_mv, e_fz, k_fz, e_nil, e_ex, k_ex, k_ex1, e_exI, k_exI, e_sl, k_sl, k_sl1, w_nil, w_t, w_s, w_vw, w_c, e_op, k_op, k_op2, k_op3, e_b, k_b, e_tr, k_tr, k_tr2, k_tr3, e_andT, k_andT, e_orT, k_orT, e_notT, k_notT, e_and, k_and, k_and3, e_or, k_or, k_or3, e_not, k_not, e_if, k_if, e_ch, k_ch1, k_ch2, k_ch3, a_nil, a_t, a_c, e_tup, k_tup, k_tup2, e_lst, k_lst, k_lst2, e_then, k_then, k_thenr, e_drop, k_drop, e_rt, k_rt, e_rtN, e_nx, e_ifS, k_ifS, e_set, k_set, k_set2, e_asg, k_asg, k_asg2, t_name, t_name2, t_nil, t_cons, t_cons2, t_tup, e_par, k_par, k_par2, l_nil, l_t, l_s, l_v, l_l, l_d, l_o, l_c, gb_nil, gb_t, gb_f, gb_s, gb_s2, gb_n, e_call, k_call, k_call1, k_call2, k_call3, e_fn, k_fn, k_fnN, e_seq, k_seqL, k_seqv, k_seqt, e_src, k_src, k_src2, k_src3, e_for, k_for, n_ok, p_nil, p_cons, p_k, p_no, p_v, q_nil, q_cons, q_no, q_v, e_lc, k_lc, k_lc2, k_lc3, k_lc4, e_ld, k_ld, k_ld2, x_nil, x_cons, x_1, x_2, x_3, x_4, x_5, x_yes, x_sz, f_nil, f_cons, f_1, f_nx, f_ct, f_bk, f_rt, e_at, k_at2, k_at3, e_rs, k_rs, k_rs1, k_rs2, ao_nil, ao_t, ao_c, e_mt, k_mt, k_mt1, k_mt2, k_mt3, e_rep, k_rep, e_lam, k_lamx, k_lam, y_kn, y_kv, y_k0, y_kl, y_kd, y_on, y_ot, y_of, y_oe, y_ln, y_lt, y_lf, y_le, y_mt, y_mf, y_me, y_mn, y_told, y_non, y_val, List.length_cons, List.length_nil, List.cons_append, List.nil_append, List.take_succ_cons, List.take_zero, Bool.false_eq_true, reduceIte, sz_lit, Nat.reduceAdd, Nat.reduceLeDiff, Nat.reduceLT, Nat.zero_add, o_ci, o_addI, o_sub, o_neg, o_int, o_intB, o_min, o_max, o_aug, o_lenL, o_lenT, o_tupL, o_tupT, o_listL, o_listT, o_s10L, o_s10T, o_s01L, o_s01T, o_s11L, o_s11T, o_eqI, o_neI, o_eqS, o_neS, o_isB, o_isNotB, o_isN, o_isNotN, u_dT, u_dF, u_non, u_bl, u_int, u_tup, u_lst, l_pen, e1, e2, rg1, ↓e3, l1, rg2, ↓e4, ixl, ix0, e5]
end
end Lw

set_option Elab.async false
set_option linter.all false
set_option maxRecDepth 100000
set_option maxHeartbeats 4000000
/-! k39, o: what is drawn is right; what is bent is tame. -/
namespace Lw
open PySem PySem.Spec L2 Vi
open PyProof.Rows hiding St

/-- a layer, or what stands in its place -/
def okL (d : D) : Prop := ∃ gs : List D, (d = .tup gs ∨ d = .lst gs) ∧ gs.length ≤ 9 ∧ ∀ g ∈ gs, gT g = true ∧ Shw g 40 1
def okLs (ls : List D) : Prop := ls.length ≤ 10 ∧ ∀ d ∈ ls, okL d
def okT (T : D) : Prop := ∃ ls : List D, (T = .tup ls ∨ T = .lst ls) ∧ okLs ls
/-- a small number, or none -/
structure Sm (d : D) : Prop where
  b : bd d = true
  i : iz d ≤ 1000
  s : Shw d 0 0
structure Bent (p : Int) (T i o : D) : Prop where
  p : p ∈ nums8
  T : okT T
  i : Sm i
  o : Sm o
section
variable {p : Int} {T i o : D}
theorem okL_shw {d : D} (h : okL d) : Shw d 369 2 := by
  obtain ⟨gs, rfl | rfl, h1, h2⟩ := h
  · exact (Shw.tup (B := 40) (L := 9) h1 fun g hg => (h2 g hg).2)
  · exact (Shw.lst (B := 40) (L := 9) h1 fun g hg => (h2 g hg).2)
theorem okT_shw (h : okT T) : Shw T 3700 3 := by
  obtain ⟨ls, rfl | rfl, h1, h2⟩ := h
  · exact (Shw.tup (B := 369) (L := 10) h1 fun g hg => okL_shw (h2 g hg))
  · exact (Shw.lst (B := 369) (L := 10) h1 fun g hg => okL_shw (h2 g hg))
theorem p8_shw (h : p ∈ nums8) : Shw (.int p) 0 0 := .int (by
  unfold nums8 at h
  simp only [List.mem_cons, List.not_mem_nil, or_false] at h
  rcases h with rfl | rfl | rfl | rfl | rfl | rfl | rfl | rfl <;> decide)
theorem Bent.shw (b : Bent p T i o) : Shw (t4 p T i o) 14804 4 := by
  refine Shw.tup (B := 3700) (L := 4) (n := 3) (by simp) ?_
  intro d hd
  simp only [List.mem_cons, List.not_mem_nil, or_false] at hd
  rcases hd with rfl | rfl | rfl | rfl
  · exact (p8_shw b.p).mono (by decide) (by decide)
  · exact okT_shw b.T
  · exact b.i.s.mono (by decide) (by decide)
  · exact b.o.s.mono (by decide) (by decide)
theorem okL_lay {d : D} (h : okL d) : layT d = true := by
  obtain ⟨gs, rfl | rfl, h1, h2⟩ := h
  · show (gs.all gT && decide (gs.length ≤ 1000)) = true
    rw [decide_eq_true (by omega), List.all_eq_true.mpr fun g hg => (h2 g hg).1]
    rfl
  · rfl
theorem Bent.tame (b : Bent p T i o) : Tame p T i o := by
  refine ⟨b.p, b.i.b, b.o.b, b.i.i, ?_, b.shw.cmp (by decide)⟩
  have hs := okT_shw b.T
  obtain ⟨ls, rfl | rfl, h1, h2⟩ := b.T
  · exact .inl ⟨ls, rfl, List.all_eq_true.mpr fun d hd => okL_lay (h2 d hd), by omega, hs.cmp (by decide)⟩
  · exact .inr ⟨ls, rfl⟩
theorem six_8 (h : .int p ∈ six) : p ∈ nums8 ∧ pB p = true := by
  simp only [List.mem_cons, List.not_mem_nil, or_false, D.int.injEq] at h
  rcases h with rfl | rfl | rfl | rfl | rfl | rfl <;> exact ⟨by decide, by decide +kernel⟩
theorem sm_int {k : Int} (h : -1000 ≤ k ∧ k ≤ 1000) : Sm (.int k) := ⟨decide_eq_true (by omega), h.2, .int (by omega)⟩
/-- all that is known of what is drawn -/
structure Drawn (p : Int) (Ls : List D) (m k : Int) : Prop where
  b : Bent p (.tup Ls) (.int m) (.int k)
  a : areB p (.tup Ls) (.int m) (.int k) = true
  l : 1 ≤ Ls.length ∧ Ls.length ≤ 10
  g : ∀ d ∈ Ls, ∃ gs : List D, d = .tup gs ∧ 1 ≤ gs.length ∧ gs.length ≤ 9 ∧ ∀ g ∈ gs, gT g = true ∧ Shw g 40 1
  m : 1 ≤ m ∧ m ≤ 9
  k : 1 ≤ k ∧ k ≤ 9
theorem drawn_right {Ls : List D} {sz : List Int} {m k z : Int} (hp : .int p ∈ six) (hl : sz.length = Ls.length + 1) (l1 : 1 ≤ Ls.length) (l2 : Ls.length ≤ 10) (zz : ∀ z ∈ sz, 1 ≤ z ∧ z ≤ 9) (md : Made p sz Ls) (hm : sz[Ls.length]? = some m) (hz : sz[0]? = some z) (k1 : 1 ≤ k) (k2 : k ≤ z) : Drawn p Ls m k := by
  have m1 := zz m (List.mem_of_getElem? hm)
  have z1 := zz z (List.mem_of_getElem? hz)
  have ga : ∀ d ∈ Ls, ∃ gs : List D, d = .tup gs ∧ 1 ≤ gs.length ∧ gs.length ≤ 9 ∧ ∀ g ∈ gs, gT g = true ∧ Shw g 40 1 := by
    intro d hd
    obtain ⟨i, hi⟩ := List.mem_iff_getElem?.mp hd
    obtain ⟨gs, a, b, h1, h2, h3, h4, h5⟩ := md i (List.getElem?_eq_some_iff.mp hi).1
    rw [hi] at h1
    cases h1
    have := zz a (List.mem_of_getElem? h2)
    exact ⟨gs, rfl, by omega, by omega, fun g hg => ⟨(h5 g hg).gt, (h5 g hg).sh⟩⟩
  have bt : Bent p (.tup Ls) (.int m) (.int k) := ⟨(six_8 hp).1, ⟨Ls, .inl rfl, l2, fun d hd => by
    obtain ⟨gs, h1, h2, h3, h4⟩ := ga d hd
    exact ⟨gs, .inl h1, h3, h4⟩⟩, sm_int (by omega), sm_int (by omega)⟩
  refine ⟨bt, ?_, ⟨l1, l2⟩, ga, m1, by omega⟩
  cases Ls with
  | nil => simp at l1
  | cons l r =>
    obtain ⟨gs, a, b, h1, h2, h3, h4, h5⟩ := md 0 (by simp)
    cases h1
    rw [hz] at h2
    cases h2
    have hf : (.tup gs :: r).all full = true := by
      rw [List.all_eq_true]
      intro d hd
      obtain ⟨gs', rfl, g1, _⟩ := ga d hd
      cases gs' with
      | nil => simp at g1
      | cons _ _ => rfl
    have bhi : ∀ i, i < (D.tup gs :: r).length → (bh (.tup gs :: r) (.int m))[i]? = (sz[i + 1]?).map D.int := by
      intro i hi
      unfold bh
      rw [List.drop_one, List.tail_cons]
      by_cases hc : i < r.length
      · rw [List.getElem?_append_left (by rw [List.length_map]; exact hc), List.getElem?_map]
        obtain ⟨gs', a', b', q1, q2, q3, q4, q5⟩ := md (i + 1) (by rw [List.length_cons]; omega)
        rw [List.getElem?_cons_succ] at q1
        rw [q1, q2, ← q4]
        rfl
      · have hi' : i = r.length := by
          rw [List.length_cons] at hi
          omega
        subst hi'
        rw [List.getElem?_append_right (by rw [List.length_map]; exact Nat.le_refl _), List.length_map, Nat.sub_self]
        rw [List.length_cons] at hm
        rw [hm]
        rfl
    have hg : allG p (.tup gs :: r) (.int m) = true := by
      unfold allG
      rw [List.all_eq_true]
      intro q hq
      obtain ⟨i, hi⟩ := List.mem_iff_getElem?.mp hq
      obtain ⟨i1, i2⟩ := List.getElem?_zip_eq_some.mp hi
      have il := (List.getElem?_eq_some_iff.mp i1).1
      obtain ⟨gs', a', b', q1, q2, q3, q4, q5⟩ := md i il
      rw [bhi i il, q3] at i2
      rw [i1] at q1
      obtain ⟨x, y⟩ := q
      cases q1
      cases i2
      rw [List.all_eq_true]
      exact fun g hg => (q5 g hg).ok
    show (pB p && (decide (0 < m) && (decide (0 < k) && ((.tup gs :: r).all full && (decide (k ≤ (gs.length : Int)) && allG p (.tup gs :: r) (.int m)))))) = true
    rw [(six_8 hp).2, decide_eq_true (by omega), decide_eq_true (by omega), hf, decide_eq_true (by omega), hg]
    rfl
end
end Lw

set_option Elab.async false
set_option linter.all false
set_option maxRecDepth 100000
set_option maxHeartbeats 8000000
/-! k39, p: layers with one thing otherwise. -/
namespace Lw
open PySem PySem.Spec L2 Vi
open PyProof.Rows hiding St

theorem okLs_take {ls : List D} (h : okLs ls) (i : Nat) : okLs (ls.take i) := ⟨by have := h.1; rw [List.length_take]; omega, fun d hd => h.2 d (List.mem_of_mem_take hd)⟩
theorem okLs_drop {ls : List D} (h : okLs ls) (i : Nat) : okLs (ls.drop i) := ⟨by have := h.1; rw [List.length_drop]; omega, fun d hd => h.2 d (List.mem_of_mem_drop hd)⟩
theorem okLs_put {ls : List D} {i : Nat} {x : D} (h : okLs ls) (hi : i < ls.length) (hx : okL x) : okLs (ls.take i ++ [x] ++ ls.drop (i + 1)) := by
  refine ⟨?_, ?_⟩
  · have := h.1
    rw [List.length_append, List.length_append, List.length_take, List.length_drop, List.length_singleton]
    omega
  · intro d hd
    rcases List.mem_append.mp hd with hd | hd
    · rcases List.mem_append.mp hd with hd | hd
      · exact h.2 d (List.mem_of_mem_take hd)
      · rw [List.mem_singleton.mp hd]
        exact hx
    · exact h.2 d (List.mem_of_mem_drop hd)
abbrev okG (g : D) : Prop := gT g = true ∧ Shw g 40 1
theorem okG_put {gs : List D} {j : Nat} {x : D} (h : ∀ g ∈ gs, okG g) (hl : gs.length ≤ 9) (hj : j < gs.length) (hx : okG x) : okL (.tup (gs.take j ++ [x] ++ gs.drop (j + 1))) := by
  refine ⟨_, .inl rfl, ?_, ?_⟩
  · rw [List.length_append, List.length_append, List.length_take, List.length_drop, List.length_singleton]
    omega
  · intro d hd
    rcases List.mem_append.mp hd with hd | hd
    · rcases List.mem_append.mp hd with hd | hd
      · exact h d (List.mem_of_mem_take hd)
      · rw [List.mem_singleton.mp hd]
        exact hx
    · exact h d (List.mem_of_mem_drop hd)
theorem words_shw : ∀ t : Str, t ∈ [("add" : Str), "mul", "keep", "put", "sub"] → Shw (.str t) 10 0 := by
  intro t ht
  simp only [List.mem_cons, List.not_mem_nil, or_false] at ht
  rcases ht with rfl | rfl | rfl | rfl | rfl <;> exact ⟨by decide +kernel, by decide +kernel, Nat.le_refl _⟩
theorem okG_tup {t : Str} {ds : List D} (ht : t ∈ [("add" : Str), "mul", "keep", "put", "sub"]) (hl : ds.length ≤ 2) (h : ∀ d ∈ ds, pl d = true ∧ Shw d 0 0) : okG (.tup (.str t :: ds)) := by
  refine ⟨?_, ?_⟩
  · show (decide (t.length ≤ 1000) && (ds.all pl && decide (ds.length ≤ 10))) = true
    have : t.length ≤ 1000 := by
      simp only [List.mem_cons, List.not_mem_nil, or_false] at ht
      rcases ht with rfl | rfl | rfl | rfl | rfl <;> decide +kernel
    rw [decide_eq_true this, List.all_eq_true.mpr fun d hd => (h d hd).1, decide_eq_true (by omega)]
    rfl
  · refine (Shw.tup (B := 10) (L := 3) (n := 0) (by rw [List.length_cons]; omega) ?_).mono (by decide) (by decide)
    intro d hd
    rcases List.mem_cons.mp hd with rfl | hd
    · exact words_shw _ ht
    · exact (h d hd).2.mono (by decide) (Nat.le_refl _)
theorem int_pl {i : Int} (h : i.natAbs < 10 ^ 12) : pl (.int i) = true ∧ Shw (.int i) 0 0 := ⟨rfl, .int h⟩
theorem new1 {p many : Int} {x : D} (hp : p.natAbs < 10 ^ 12) (hm : many.natAbs < 10 ^ 12) (hx : x ∈ [D.tup [.str "put", .int p], .tup [.str "put", .int (-1)], .tup [.str "keep", .int many], .tup [.str "add", .int 0, .int many], .tup [.str "mul", .bl true, .int 0], .tup [.str "keep", .int 0, .int 0]]) : okG x := by
  have z0 := int_pl (i := 0) (by decide)
  have z1 := int_pl (i := -1) (by decide)
  have zp := int_pl hp
  have zm := int_pl hm
  have zb : pl (.bl true) = true ∧ Shw (.bl true) 0 0 := ⟨rfl, .bl⟩
  simp only [List.mem_cons, List.not_mem_nil, or_false] at hx
  rcases hx with rfl | rfl | rfl | rfl | rfl | rfl
  · exact okG_tup (by simp) (by simp) (by simp [zp])
  · exact okG_tup (by simp) (by simp) (by simp [z1])
  · exact okG_tup (by simp) (by simp) (by simp [zm])
  · exact okG_tup (by simp) (by simp) (by simp [z0, zm])
  · exact okG_tup (by simp) (by simp) (by simp [zb, z0])
  · exact okG_tup (by simp) (by simp) (by simp [z0])
theorem new2 {n x : D} (hn : okG n) (hx : x ∈ [n, .non, D.tup [.str "add", .int 0], .tup [.str "put"], .tup [], .lst [.str "keep", .int 0], .tup [.str "sub", .int 0, .int 0], .tup [.str "put", .int 0], .str "keep"]) : okG x := by
  have z0 := int_pl (i := 0) (by decide)
  simp only [List.mem_cons, List.not_mem_nil, or_false] at hx
  rcases hx with rfl | rfl | rfl | rfl | rfl | rfl | rfl | rfl | rfl
  · exact hn
  · exact ⟨rfl, Shw.non.mono (by decide) (by decide)⟩
  · exact okG_tup (by simp) (by simp) (by simp [z0])
  · exact okG_tup (by simp) (by simp) (by simp)
  · exact ⟨rfl, (Shw.tup (B := 0) (L := 1) (n := 0) (by simp) (fun d hd => by cases hd)).mono (by decide) (by decide)⟩
  · refine ⟨rfl, (Shw.lst (B := 10) (L := 3) (n := 0) (by simp) ?_).mono (by decide) (by decide)⟩
    intro d hd
    simp only [List.mem_cons, List.not_mem_nil, or_false] at hd
    rcases hd with rfl | rfl
    · exact words_shw _ (by simp)
    · exact z0.2.mono (by decide) (Nat.le_refl _)
  · exact okG_tup (by simp) (by simp) (by simp [z0])
  · exact okG_tup (by simp) (by simp) (by simp [z0])
  · exact ⟨by decide +kernel, (words_shw "keep" (by simp)).mono (by decide) (by decide)⟩
theorem rep4 {x : D} {e : Vn} : kRep2 [x] (.v (.int 4), e) = some (.ok (.l [x, x, x, x], e)) := k_rep2 (by decide) (by simp)
theorem cut_at {xs : List D} {i : Int} (h : 0 ≤ i ∧ i ≤ xs.length) : cutD xs none (some i) = xs.take i.toNat := by
  obtain ⟨n, rfl⟩ : ∃ n : Nat, i = n := ⟨i.toNat, by omega⟩
  rw [cut_to (by omega), Int.toNat_natCast]
theorem cut_past {xs : List D} {i : Int} (h : 0 ≤ i ∧ i < xs.length) : cutD xs (some (i + 1)) none = xs.drop (i.toNat + 1) := by
  obtain ⟨n, rfl⟩ : ∃ n : Nat, i = n := ⟨i.toNat, by omega⟩
  rw [show ((n : Int) + 1) = ((n + 1 : Nat) : Int) from rfl, cut_from (by omega), Int.toNat_natCast]
theorem at_i {xs : List D} {i : Int} {x : D} (h0 : 0 ≤ i) (h : xs[i.toNat]? = some x) : atI xs i = some x := by
  have := at_nat h
  rwa [show ((i.toNat : Nat) : Int) = i by omega] at this
section
variable {cs : List Int} {p m k : Int} {Ls : List D}
theorem bent_drawn {n : Int} {s : PS} (dr : Drawn p Ls m k) (g : PenG cs n s) (hn : n < 100000000) : ∃ (s' : PS) (p' : Int) (T' i' o' : D), PenG cs (n + 10) s' ∧ Bent p' T' i' o' ∧
    v__law_bent [pn cs s, sv (t4 p (.tup Ls) (.int m) (.int k))] = re (.v (t4 p' T' i' o')) [pn cs s', sv (t4 p (.tup Ls) (.int m) (.int k))] := by
  have l1 := dr.l
  have m1 := dr.m
  have k1 := dr.k
  obtain ⟨i, s1, i0, i1, g1, e1⟩ := drw false g (by omega) (many := Ls.length) (by omega) (by omega)
  obtain ⟨l, hl⟩ : ∃ l, Ls[i.toNat]? = some l := ⟨_, List.getElem?_eq_getElem (by omega)⟩
  obtain ⟨gs, rfl, gl1, gl2, gg⟩ := dr.g l (List.mem_of_getElem? hl)
  obtain ⟨j, s2, j0, j1, g2, e2⟩ := drw false g1 (by omega) (many := gs.length) (by omega) (by omega)
  obtain ⟨l0, hl0⟩ : ∃ l, Ls[0]? = some l := ⟨_, List.getElem?_eq_getElem (by omega)⟩
  obtain ⟨gs0, rfl, hl2, hl3, _⟩ := dr.g l0 (List.mem_of_getElem? hl0)
  have ix0 : fIx [.tup Ls, .int 0] = some (.v (.tup gs0)) := ix_tup (at_nat (n := 0) hl0)
  have ixi : fIx [.tup Ls, .int i] = some (.v (.tup gs)) := ix_tup (at_i i0 hl)
  obtain ⟨many, mn, mw⟩ : ∃ many : Int, (1 ≤ many ∧ many ≤ 9) ∧ vIf (vB (vOp (fCI fun a b => decide (a < b)) (vEx (vOp fAdd (vSl 6 (vEx (vLit (.int 1)) vNil))) (vEx (vOp fLen (vSl 3 vNil)) vNil)))) (vOp fLen (vEx (vOp fIx (vSl 3 (vEx (vOp fAdd (vSl 6 (vEx (vLit (.int 1)) vNil))) vNil))) vNil)) (vRd 4) [pn cs s2, sv (t4 p (.tup Ls) (.int m) (.int k)), sv (.int p), sv (.tup Ls), sv (.int m), sv (.int k), sv (.int i), sv (.int j), sv (.tup gs), no, no, no] = re (.v (.int many)) [pn cs s2, sv (t4 p (.tup Ls) (.int m) (.int k)), sv (.int p), sv (.tup Ls), sv (.int m), sv (.int k), sv (.int i), sv (.int j), sv (.tup gs), no, no, no] := by
    by_cases hc : i + 1 < Ls.length
    · obtain ⟨l', hl'⟩ : ∃ l, Ls[i.toNat + 1]? = some l := ⟨_, List.getElem?_eq_getElem (by omega)⟩
      obtain ⟨gs', rfl, q1, q2, _⟩ := dr.g l' (List.mem_of_getElem? hl')
      have ix : fIx [.tup Ls, .int (i + 1)] = some (.v (.tup gs')) := ix_tup (at_i (by omega) (by rw [show (i + 1).toNat = i.toNat + 1 by omega]; exact hl'))
      exact ⟨gs'.length, by omega, by simp only [b_ok, b_ex, b_ret, w_g0, w_g1, w_s0, w_s1, z_v, z_l, e_lit, e_rd, k_rd, e_mv, k_mv, e_fz, k_fz, e_nil, e_ex, k_ex, k_ex1, e_exI, k_exI, e_sl, k_sl, k_sl1, w_nil, w_t, w_s, w_vw, w_c, e_op, k_op, k_op2, k_op3, e_b, k_b, e_tr, k_tr, k_tr2, k_tr3, e_andT, k_andT, e_orT, k_orT, e_notT, k_notT, e_and, k_and, k_and3, e_or, k_or, k_or3, e_not, k_not, e_if, k_if, e_ch, k_ch1, k_ch2, k_ch3, a_nil, a_t, a_c, e_tup, k_tup, k_tup2, e_lst, k_lst, k_lst2, e_then, k_then, k_thenr, e_drop, k_drop, e_rt, k_rt, e_rtN, e_nx, e_ifS, k_ifS, e_set, k_set, k_set2, e_asg, k_asg, k_asg2, t_name, t_name2, t_nil, t_cons, t_cons2, t_tup, e_par, k_par, k_par2, l_nil, l_t, l_s, l_v, l_l, l_d, l_o, l_c, gb_nil, gb_t, gb_f, gb_s, gb_s2, gb_n, e_call, k_call, k_call1, k_call2, k_call3, e_fn, k_fn, k_fnN, e_seq, k_seqL, k_seqv, k_seqt, e_src, k_src, k_src2, k_src3, e_for, k_for, n_ok, p_nil, p_cons, p_k, p_no, p_v, q_nil, q_cons, q_no, q_v, e_lc, k_lc, k_lc2, k_lc3, k_lc4, e_ld, k_ld, k_ld2, x_nil, x_cons, x_1, x_2, x_3, x_4, x_5, x_yes, x_sz, f_nil, f_cons, f_1, f_nx, f_ct, f_bk, f_rt, e_at, k_at2, k_at3, e_rs, k_rs, k_rs1, k_rs2, ao_nil, ao_t, ao_c, e_mt, k_mt, k_mt1, k_mt2, k_mt3, e_rep, k_rep, e_lam, k_lamx, k_lam, y_kn, y_kv, y_k0, y_kl, y_kd, y_on, y_ot, y_of, y_oe, y_ln, y_lt, y_lf, y_le, y_mt, y_mf, y_me, y_mn, y_told, y_non, y_val, List.length_cons, List.length_nil, List.cons_append, List.nil_append, List.take_succ_cons, List.take_zero, Bool.false_eq_true, reduceIte, sz_lit, Nat.reduceAdd, Nat.reduceLeDiff, Nat.reduceLT, Nat.zero_add, o_ci, o_addI, o_sub, o_neg, o_int, o_intB, o_min, o_max, o_aug, o_lenL, o_lenT, o_tupL, o_tupT, o_listL, o_listT, o_s10L, o_s10T, o_s01L, o_s01T, o_s11L, o_s11T, o_eqI, o_neI, o_eqS, o_neS, o_isB, o_isNotB, o_isN, o_isNotN, u_dT, u_dF, u_non, u_bl, u_int, u_tup, u_lst, decide_eq_true hc, ix]⟩
    · exact ⟨m, m1, by simp only [b_ok, b_ex, b_ret, w_g0, w_g1, w_s0, w_s1, z_v, z_l, e_lit, e_rd, k_rd, e_mv, k_mv, e_fz, k_fz, e_nil, e_ex, k_ex, k_ex1, e_exI, k_exI, e_sl, k_sl, k_sl1, w_nil, w_t, w_s, w_vw, w_c, e_op, k_op, k_op2, k_op3, e_b, k_b, e_tr, k_tr, k_tr2, k_tr3, e_andT, k_andT, e_orT, k_orT, e_notT, k_notT, e_and, k_and, k_and3, e_or, k_or, k_or3, e_not, k_not, e_if, k_if, e_ch, k_ch1, k_ch2, k_ch3, a_nil, a_t, a_c, e_tup, k_tup, k_tup2, e_lst, k_lst, k_lst2, e_then, k_then, k_thenr, e_drop, k_drop, e_rt, k_rt, e_rtN, e_nx, e_ifS, k_ifS, e_set, k_set, k_set2, e_asg, k_asg, k_asg2, t_name, t_name2, t_nil, t_cons, t_cons2, t_tup, e_par, k_par, k_par2, l_nil, l_t, l_s, l_v, l_l, l_d, l_o, l_c, gb_nil, gb_t, gb_f, gb_s, gb_s2, gb_n, e_call, k_call, k_call1, k_call2, k_call3, e_fn, k_fn, k_fnN, e_seq, k_seqL, k_seqv, k_seqt, e_src, k_src, k_src2, k_src3, e_for, k_for, n_ok, p_nil, p_cons, p_k, p_no, p_v, q_nil, q_cons, q_no, q_v, e_lc, k_lc, k_lc2, k_lc3, k_lc4, e_ld, k_ld, k_ld2, x_nil, x_cons, x_1, x_2, x_3, x_4, x_5, x_yes, x_sz, f_nil, f_cons, f_1, f_nx, f_ct, f_bk, f_rt, e_at, k_at2, k_at3, e_rs, k_rs, k_rs1, k_rs2, ao_nil, ao_t, ao_c, e_mt, k_mt, k_mt1, k_mt2, k_mt3, e_rep, k_rep, e_lam, k_lamx, k_lam, y_kn, y_kv, y_k0, y_kl, y_kd, y_on, y_ot, y_of, y_oe, y_ln, y_lt, y_lf, y_le, y_mt, y_mf, y_me, y_mn, y_told, y_non, y_val, List.length_cons, List.length_nil, List.cons_append, List.nil_append, List.take_succ_cons, List.take_zero, Bool.false_eq_true, reduceIte, sz_lit, Nat.reduceAdd, Nat.reduceLeDiff, Nat.reduceLT, Nat.zero_add, o_ci, o_addI, o_sub, o_neg, o_int, o_intB, o_min, o_max, o_aug, o_lenL, o_lenT, o_tupL, o_tupT, o_listL, o_listT, o_s10L, o_s10T, o_s01L, o_s01T, o_s11L, o_s11T, o_eqI, o_neI, o_eqS, o_neS, o_isB, o_isNotB, o_isN, o_isNotN, u_dT, u_dF, u_non, u_bl, u_int, u_tup, u_lst, decide_eq_false hc]⟩
  have pb : p.natAbs < 10 ^ 12 := of_decide_eq_true (p8_shw dr.b.p).l
  obtain ⟨x1, s3, hx1, g3, e3⟩ := pck false g2 (by omega) (xs := [D.tup [.str "put", .int p], .tup [.str "put", .int (-1)], .tup [.str "keep", .int many], .tup [.str "add", .int 0, .int many], .tup [.str "mul", .bl true, .int 0], .tup [.str "keep", .int 0, .int 0]]) (by simp) (by simp)
  have n1 := new1 pb (by omega) hx1
  obtain ⟨x2, s4, hx2, g4, e4⟩ := pck false g3 (by omega) (xs := [x1, .non, D.tup [.str "add", .int 0], .tup [.str "put"], .tup [], .lst [.str "keep", .int 0], .tup [.str "sub", .int 0, .int 0], .tup [.str "put", .int 0], .str "keep"]) (by simp) (by simp)
  have n2 := new2 n1 hx2
  have il : i.toNat < Ls.length := by omega
  have jl : j.toNat < gs.length := by omega
  have okd : okLs Ls := ⟨l1.2, fun d hd => by
    obtain ⟨gs', h1, h2, h3, h4⟩ := dr.g d hd
    exact ⟨gs', .inl h1, h3, h4⟩⟩
  obtain ⟨A, hA⟩ : ∃ x : List D, x = Ls.take i.toNat ++ [D.tup (gs.take j.toNat ++ [x2] ++ gs.drop (j.toNat + 1))] ++ Ls.drop (i.toNat + 1) := ⟨_, rfl⟩
  obtain ⟨B, hB⟩ : ∃ x : List D, x = Ls.take i.toNat ++ [D.tup []] ++ Ls.drop (i.toNat + 1) := ⟨_, rfl⟩
  obtain ⟨C, hC⟩ : ∃ x : List D, x = Ls.take i.toNat ++ [D.lst gs] ++ Ls.drop (i.toNat + 1) := ⟨_, rfl⟩
  have okA : okLs A := hA ▸ okLs_put okd il (okG_put gg gl2 jl n2)
  have okB : okLs B := hB ▸ okLs_put okd il ⟨[], .inl rfl, by simp, fun g hg => by cases hg⟩
  have okC : okLs C := hC ▸ okLs_put okd il ⟨gs, .inr rfl, gl2, gg⟩
  obtain ⟨xs, hxs⟩ : ∃ x : List D, x = [t4 p (.tup A) (.int m) (.int k), t4 p (.tup A) (.int m) (.int k), t4 p (.tup A) (.int m) (.int k), t4 p (.tup A) (.int m) (.int k), t4 p (.tup B) (.int m) (.int k), t4 p (.tup []) (.int m) (.int k), t4 p (.tup C) (.int m) (.int k), t4 p (.lst Ls) (.int m) (.int k), t4 p (.tup Ls) (.int 0) (.int k), t4 p (.tup Ls) (.int m) (.int 0), t4 p (.tup Ls) (.int m) (.int ((gs0.length : Nat) + 1)), t4 p (.tup Ls) (.bl true) (.int k), t4 9 (.tup Ls) (.int m) (.int k), t4 3 (.tup Ls) (.int m) (.int k), t4 p (.tup (Ls.drop 1)) (.int m) (.int k), t4 p (.tup Ls) (.int (m + 1)) (.int k), t4 p (.tup Ls) (.int m) (.int k)] := ⟨_, rfl⟩
  obtain ⟨y, s5, hy, g5, e5⟩ := pck false g4 (by omega) (xs := xs) (by rw [hxs]; simp) (by rw [hxs]; simp)
  have sm : Sm (.int m) := sm_int (by omega)
  have sk : Sm (.int k) := sm_int (by omega)
  obtain ⟨p', T', i', o', rfl, bt⟩ : ∃ p' T' i' o', y = t4 p' T' i' o' ∧ Bent p' T' i' o' := by
    simp only [hxs, List.mem_cons, List.not_mem_nil, or_false] at hy
    have dp := dr.b.p
    rcases hy with rfl | rfl | rfl | rfl | rfl | rfl | rfl | rfl | rfl | rfl | rfl | rfl | rfl | rfl | rfl | rfl | rfl
    · exact ⟨_, _, _, _, rfl, dp, ⟨_, .inl rfl, okA⟩, sm, sk⟩
    · exact ⟨_, _, _, _, rfl, dp, ⟨_, .inl rfl, okA⟩, sm, sk⟩
    · exact ⟨_, _, _, _, rfl, dp, ⟨_, .inl rfl, okA⟩, sm, sk⟩
    · exact ⟨_, _, _, _, rfl, dp, ⟨_, .inl rfl, okA⟩, sm, sk⟩
    · exact ⟨_, _, _, _, rfl, dp, ⟨_, .inl rfl, okB⟩, sm, sk⟩
    · exact ⟨_, _, _, _, rfl, dp, ⟨_, .inl rfl, by simp, fun d hd => by cases hd⟩, sm, sk⟩
    · exact ⟨_, _, _, _, rfl, dp, ⟨_, .inl rfl, okC⟩, sm, sk⟩
    · exact ⟨_, _, _, _, rfl, dp, ⟨_, .inr rfl, okd⟩, sm, sk⟩
    · exact ⟨_, _, _, _, rfl, dp, ⟨_, .inl rfl, okd⟩, sm_int (by omega), sk⟩
    · exact ⟨_, _, _, _, rfl, dp, ⟨_, .inl rfl, okd⟩, sm, sm_int (by omega)⟩
    · exact ⟨_, _, _, _, rfl, dp, ⟨_, .inl rfl, okd⟩, sm, sm_int (by omega)⟩
    · exact ⟨_, _, _, _, rfl, dp, ⟨_, .inl rfl, okd⟩, ⟨rfl, by show (0 : Int) ≤ 1000; omega, .bl⟩, sk⟩
    · exact ⟨_, _, _, _, rfl, by decide, ⟨_, .inl rfl, okd⟩, sm, sk⟩
    · exact ⟨_, _, _, _, rfl, by decide, ⟨_, .inl rfl, okd⟩, sm, sk⟩
    · exact ⟨_, _, _, _, rfl, dp, ⟨_, .inl rfl, okLs_drop okd 1⟩, sm, sk⟩
    · exact ⟨_, _, _, _, rfl, dp, ⟨_, .inl rfl, okd⟩, sm_int (by omega), sk⟩
    · exact ⟨_, _, _, _, rfl, dp, ⟨_, .inl rfl, okd⟩, sm, sk⟩
  refine ⟨s5, p', T', i', o', g5.mono (by omega), bt, ?_⟩
  have hs : sizeLine = 16777216 := sizeLine_eq
  have ct : cutD Ls none (some i) = Ls.take i.toNat := cut_at (by omega)
  have cp : cutD Ls (some (i + 1)) none = Ls.drop (i.toNat + 1) := cut_past (by omega)
  have cj : cutD gs none (some j) = gs.take j.toNat := cut_at (by omega)
  have cq : cutD gs (some (j + 1)) none = gs.drop (j.toNat + 1) := cut_past (by omega)
  have c1 : cutD Ls (some 1) none = Ls.drop 1 := cut_past (i := 0) (by omega)
  have t1 : ∀ x : D, fAdd [.tup (Ls.take i.toNat), .tup [x]] = some (.v (.tup (Ls.take i.toNat ++ [x]))) := fun x => o_addT (by rw [List.length_take, List.length_singleton]; omega)
  have t2 : ∀ x : D, fAdd [.tup (Ls.take i.toNat ++ [x]), .tup (Ls.drop (i.toNat + 1))] = some (.v (.tup (Ls.take i.toNat ++ [x] ++ Ls.drop (i.toNat + 1)))) := fun x => o_addT (by rw [List.length_append, List.length_take, List.length_singleton, List.length_drop]; omega)
  have t3 : fAdd [.tup (gs.take j.toNat), .tup [x2]] = some (.v (.tup (gs.take j.toNat ++ [x2]))) := o_addT (by rw [List.length_take, List.length_singleton]; omega)
  have t4' : fAdd [.tup (gs.take j.toNat ++ [x2]), .tup (gs.drop (j.toNat + 1))] = some (.v (.tup (gs.take j.toNat ++ [x2] ++ gs.drop (j.toNat + 1)))) := o_addT (by rw [List.length_append, List.length_take, List.length_singleton, List.length_drop]; omega)
  unfold v__law_bent
  rw [e_fn (n := 2) rfl]
  show M.bind (b__law_bent [pn cs s, sv (t4 p (.tup Ls) (.int m) (.int k)), no, no, no, no, no, no, no, no, no, no]) (kFn 2) = _
  subst hA hB hC hxs
  simp only [b__law_bent, b_ok, b_ex, b_ret, w_g0, w_g1, w_s0, w_s1, z_v, z_l, e_lit, e_rd, k_rd, e_mv, k_mv, e_fz, k_fz, e_nil, e_ex, k_ex, k_ex1, e_exI, k_exI, e_sl, k_sl, k_sl1, w_nil, w_t, w_s, w_vw, w_c, e_op, k_op, k_op2, k_op3, e_b, k_b, e_tr, k_tr, k_tr2, k_tr3, e_andT, k_andT, e_orT, k_orT, e_notT, k_notT, e_and, k_and, k_and3, e_or, k_or, k_or3, e_not, k_not, e_if, k_if, e_ch, k_ch1, k_ch2, k_ch3, a_nil, a_t, a_c, e_tup, k_tup, k_tup2, e_lst, k_lst, k_lst2, e_then, k_then, k_thenr, e_drop, k_drop, e_rt, k_rt, e_rtN, e_nx, e_ifS, k_ifS, e_set, k_set, k_set2, e_asg, k_asg, k_asg2, t_name, t_name2, t_nil, t_cons, t_cons2, t_tup, e_par, k_par, k_par2, l_nil, l_t, l_s, l_v, l_l, l_d, l_o, l_c, gb_nil, gb_t, gb_f, gb_s, gb_s2, gb_n, e_call, k_call, k_call1, k_call2, k_call3, e_fn, k_fn, k_fnN, e_seq, k_seqL, k_seqv, k_seqt, e_src, k_src, k_src2, k_src3, e_for, k_for, n_ok, p_nil, p_cons, p_k, p_no, p_v, q_nil, q_cons, q_no, q_v, e_lc, k_lc, k_lc2, k_lc3, k_lc4, e_ld, k_ld, k_ld2, x_nil, x_cons, x_1, x_2, x_3, x_4, x_5, x_yes, x_sz, f_nil, f_cons, f_1, f_nx, f_ct, f_bk, f_rt, e_at, k_at2, k_at3, e_rs, k_rs, k_rs1, k_rs2, ao_nil, ao_t, ao_c, e_mt, k_mt, k_mt1, k_mt2, k_mt3, e_rep, k_rep, e_lam, k_lamx, k_lam, y_kn, y_kv, y_k0, y_kl, y_kd, y_on, y_ot, y_of, y_oe, y_ln, y_lt, y_lf, y_le, y_mt, y_mf, y_me, y_mn, y_told, y_non, y_val, List.length_cons, List.length_nil, List.cons_append, List.nil_append, List.take_succ_cons, List.take_zero, Bool.false_eq_true, reduceIte, sz_lit, Nat.reduceAdd, Nat.reduceLeDiff, Nat.reduceLT, Nat.zero_add, o_ci, o_addI, o_sub, o_neg, o_int, o_intB, o_min, o_max, o_aug, o_lenL, o_lenT, o_tupL, o_tupT, o_listL, o_listT, o_s10L, o_s10T, o_s01L, o_s01T, o_s11L, o_s11T, o_eqI, o_neI, o_eqS, o_neS, o_isB, o_isNotB, o_isN, o_isNotN, u_dT, u_dF, u_non, u_bl, u_int, u_tup, u_lst, l_pen, e1, ixi, e2, ↓mw, e3, e4, rep4, ct, cp, cj, cq, c1, t1, t2, t3, t4', ix0, o_addL, m_app, x_sz, e5]
end
end Lw

set_option Elab.async false
set_option linter.all false
set_option maxRecDepth 100000
set_option maxHeartbeats 8000000
/-! k39, q: errors; one bent told. -/
namespace Lw
open PySem PySem.Spec L2 Vi
open PyProof.Rows hiding St

def kCf2 (g : Vn → M (List Lr × Vn)) (env : Vn) : Option (Vn → M (O × Vn)) → M (O × Vn)
  | some v => vCall v g env
  | none => none
def kCf (tab : Nat → Option (Vn → M (O × Vn))) (g : Vn → M (List Lr × Vn)) (env : Vn) : Option Sl → M (O × Vn)
  | some ⟨_, some (.v (.fn n))⟩ => kCf2 g env (tab n)
  | _ => none
theorem e_cf {tab : Nat → Option (Vn → M (O × Vn))} {i : Nat} {g : Vn → M (List Lr × Vn)} {env : Vn} : vCallF tab i g env = kCf tab g env env[i]? := by
  unfold vCallF kCf
  generalize env[i]? = y
  match y with
  | none => rfl
  | some ⟨_, none⟩ => rfl
  | some ⟨_, some (.l _)⟩ => rfl
  | some ⟨_, some (.d _)⟩ => rfl
  | some ⟨_, some (.t _)⟩ => rfl
  | some ⟨_, some (.o _ _)⟩ => rfl
  | some ⟨_, some (.v d)⟩ =>
    cases d with
    | fn n =>
      show (match tab n with
        | some v => vCall v g env
        | none => none) = kCf2 g env (tab n)
      cases tab n <;> rfl
    | _ => rfl
theorem k_cf {tab : Nat → Option (Vn → M (O × Vn))} {g : Vn → M (List Lr × Vn)} {env : Vn} {p : Bool} {n : Nat} : kCf tab g env (some ⟨p, some (.v (.fn n))⟩) = kCf2 g env (tab n) := rfl
theorem k_cf2 {v : Vn → M (O × Vn)} {g : Vn → M (List Lr × Vn)} {env : Vn} : kCf2 g env (some v) = vCall v g env := rfl
theorem dec_ff : decide (false = false) = true := rfl
theorem dec_tt : decide (true = true) = true := rfl
theorem hnd7 {d : D} : hnd subs ks__law_error 7 [("layers", d)] = some (.l [.str "layers", d]) := by rfl
abbrev oddB : Vn → M (Fl × Vn) := (vThen (vSet 3 (vLc [4] (vSeq (vLst (vEx (vLit (.fn 13)) (vEx (vLit (.fn 12)) vNil)))) (tgName 4) vYes (vFz (vLam (hnd subs ks__law_error) md__law_error [false, false, true, false, true] (vCallF tb__law_errors_right 4 (vSl 2 vNil)))))) (vThen (vDrop (vMt 3 mAppend (vEx (vFz (vLam (hnd subs ks__law_error) md__law_error [false, false, true] (vCall v_same_layers (vSl 2 (vEx (vLit .non) vNil))))) vNil))) (vThen (vDrop (vMt 3 mAppend (vEx (vFz (vLam (hnd subs ks__law_error) md__law_error [true, false, true] (vCall v_same_layers (vSl 0 (vSl 2 vNil))))) vNil))) (vIfS (vOrT (vB (vOp fNe (vEx (vOp fReprV (vSl 3 vNil)) (vEx (vOp fReprV (vEx (vRep (vLst (vEx (vFz (vLst (vEx (vLit (.str "layers")) (vEx (vRd 2) vNil)))) vNil)) (vLit (.int 4))) vNil)) vNil)))) (vB (vOp fIsNot (vEx (vCall v_is_layers (vSl 2 vNil)) (vEx (vLit (.bl false)) vNil))))) (vRt (vLit (.bl false))) vNx))))
theorem got_shw {d : D} {B : Nat} (hB : 10 ≤ B) (h : Shw d B 4) : Shw (.lst [.lst [.str "layers", d], .lst [.str "layers", d], .lst [.str "layers", d], .lst [.str "layers", d]]) (4 * (2 * (B + 1) + 1)) 6 := by
  have w : Shw (.str "layers") 10 0 := ⟨by decide +kernel, by decide +kernel, Nat.le_refl _⟩
  refine Shw.lst (B := 2 * (B + 1)) (n := 5) (by simp) ?_
  intro x hx
  simp only [List.mem_cons, List.not_mem_nil, or_false, or_self] at hx
  subst hx
  refine Shw.lst (B := B) (n := 4) (by simp) ?_
  intro y hy
  simp only [List.mem_cons, List.not_mem_nil, or_false] at hy
  rcases hy with rfl | rfl
  · exact w.mono hB (by decide)
  · exact h
section
variable {p : Int} {T i o : D} {q : List D}
theorem odd_ok {d t : D} {x3 : Option O} (hn : noOb d = true) (h : Shw d 14804 4) : oddB [sv (lob p T i o q), sv t, sv d, sx x3, no] = some (.ok (.nx, [sv (lob p T i o q), sv t, sv d, sl [.lst [.str "layers", d], .lst [.str "layers", d], .lst [.str "layers", d], .lst [.str "layers", d]], no])) := by
  obtain ⟨w, hw⟩ := (got_shw (by decide) h).shw (by decide) (by decide)
  have c1 := kinds_ex hn
  have c2 := draws_ex hn
  have c3 := same_ex1 (e := .non) hn
  have c4 := same_ex2 (p := p) (T := T) (i := i) (o := o) (q := q) hn
  have c5 := is_not hn
  have t1 : tb__law_errors_right 13 = some v_draw_count := rfl
  have t2 : tb__law_errors_right 12 = some v_kind_counts := rfl
  simp only [oddB, b_ok, b_ex, b_ret, w_g0, w_g1, w_s0, w_s1, z_v, z_l, e_lit, e_rd, k_rd, e_mv, k_mv, e_fz, k_fz, e_nil, e_ex, k_ex, k_ex1, e_exI, k_exI, e_sl, k_sl, k_sl1, w_nil, w_t, w_s, w_vw, w_c, e_op, k_op, k_op2, k_op3, e_b, k_b, e_tr, k_tr, k_tr2, k_tr3, e_andT, k_andT, e_orT, k_orT, e_notT, k_notT, e_and, k_and, k_and3, e_or, k_or, k_or3, e_not, k_not, e_if, k_if, e_ch, k_ch1, k_ch2, k_ch3, a_nil, a_t, a_c, e_tup, k_tup, k_tup2, e_lst, k_lst, k_lst2, e_then, k_then, k_thenr, e_drop, k_drop, e_rt, k_rt, e_rtN, e_nx, e_ifS, k_ifS, e_set, k_set, k_set2, e_asg, k_asg, k_asg2, t_name, t_name2, t_nil, t_cons, t_cons2, t_tup, e_par, k_par, k_par2, l_nil, l_t, l_s, l_v, l_l, l_d, l_o, l_c, gb_nil, gb_t, gb_f, gb_s, gb_s2, gb_n, e_call, k_call, k_call1, k_call2, k_call3, e_fn, k_fn, k_fnN, e_seq, k_seqL, k_seqv, k_seqt, e_src, k_src, k_src2, k_src3, e_for, k_for, n_ok, p_nil, p_cons, p_k, p_no, p_v, q_nil, q_cons, q_no, q_v, e_lc, k_lc, k_lc2, k_lc3, k_lc4, e_ld, k_ld, k_ld2, x_nil, x_cons, x_1, x_2, x_3, x_4, x_5, x_yes, x_sz, f_nil, f_cons, f_1, f_nx, f_ct, f_bk, f_rt, e_at, k_at2, k_at3, e_rs, k_rs, k_rs1, k_rs2, ao_nil, ao_t, ao_c, e_mt, k_mt, k_mt1, k_mt2, k_mt3, e_rep, k_rep, e_lam, k_lamx, k_lam, y_kn, y_kv, y_k0, y_kl, y_kd, y_on, y_ot, y_of, y_oe, y_ln, y_lt, y_lf, y_le, y_mt, y_mf, y_me, y_mn, y_told, y_non, y_val, List.length_cons, List.length_nil, List.cons_append, List.nil_append, List.take_succ_cons, List.take_zero, Bool.false_eq_true, reduceIte, sz_lit, Nat.reduceAdd, Nat.reduceLeDiff, Nat.reduceLT, Nat.zero_add, Bool.not_true, Bool.not_false, o_ci, o_addI, o_sub, o_neg, o_int, o_intB, o_min, o_max, o_aug, o_lenL, o_lenT, o_tupL, o_tupT, o_listL, o_listT, o_s10L, o_s10T, o_s01L, o_s01T, o_s11L, o_s11T, o_eqI, o_neI, o_eqS, o_neS, o_isB, o_isNotB, o_isN, o_isNotN, u_dT, u_dF, u_non, u_bl, u_int, u_tup, u_lst, x_sz, e_cf, k_cf, k_cf2, t1, t2, c1, c2, c3, c4, c5, hnd7, m_app, rep4, o_repr hw, Bool.not_true]
theorem errors_ok (h : Shw (t4 p T i o) 14804 4) : v__law_errors_right [sv (lob p T i o q), sv (t4 p T i o)] = re (.v (.bl true)) [sv (lob p T i o q), sv (t4 p T i o)] := by
  have w : Shw (.str "layers") 14804 4 := ⟨by decide +kernel, by decide +kernel, by decide +kernel⟩
  obtain ⟨env', q1, _, x2, x3, rfl⟩ := goFor_inv (t := tgName 2) (b := oddB) (I := fun ds env => (∀ d ∈ ds, noOb d = true ∧ Shw d 14804 4) ∧ ∃ x2 x3 : Option O, env = [sv (lob p T i o q), sv (t4 p T i o), sx x2, sx x3, no]) (fun d r env ⟨h1, x2, x3, he⟩ => by
    subst he
    obtain ⟨a1, a2⟩ := h1 d List.mem_cons_self
    exact ⟨[sv (lob p T i o q), sv (t4 p T i o), sv d, sx x3, no], _, rfl, .inl (odd_ok a1 a2), fun x hx => h1 x (List.mem_cons_of_mem _ hx), _, _, rfl⟩) [.non, t4 p T i o, .int 3, .str "layers"] [sv (lob p T i o q), sv (t4 p T i o), no, no, no] ⟨fun d hd => by
      simp only [List.mem_cons, List.not_mem_nil, or_false] at hd
      rcases hd with rfl | rfl | rfl | rfl
      · exact ⟨rfl, Shw.non.mono (by decide) (by decide)⟩
      · exact ⟨rfl, h⟩
      · exact ⟨rfl, (Shw.int (by decide)).mono (by decide) (by decide)⟩
      · exact ⟨rfl, w⟩, none, none, rfl⟩
  unfold v__law_errors_right
  rw [e_fn (n := 2) rfl]
  show M.bind (b__law_errors_right [sv (lob p T i o q), sv (t4 p T i o), no, no, no]) (kFn 2) = _
  simp only [b__law_errors_right, b_ok, b_ex, b_ret, w_g0, w_g1, w_s0, w_s1, z_v, z_l, e_lit, e_rd, k_rd, e_mv, k_mv, e_fz, k_fz, e_nil, e_ex, k_ex, k_ex1, e_exI, k_exI, e_sl, k_sl, k_sl1, w_nil, w_t, w_s, w_vw, w_c, e_op, k_op, k_op2, k_op3, e_b, k_b, e_tr, k_tr, k_tr2, k_tr3, e_andT, k_andT, e_orT, k_orT, e_notT, k_notT, e_and, k_and, k_and3, e_or, k_or, k_or3, e_not, k_not, e_if, k_if, e_ch, k_ch1, k_ch2, k_ch3, a_nil, a_t, a_c, e_tup, k_tup, k_tup2, e_lst, k_lst, k_lst2, e_then, k_then, k_thenr, e_drop, k_drop, e_rt, k_rt, e_rtN, e_nx, e_ifS, k_ifS, e_set, k_set, k_set2, e_asg, k_asg, k_asg2, t_name, t_name2, t_nil, t_cons, t_cons2, t_tup, e_par, k_par, k_par2, l_nil, l_t, l_s, l_v, l_l, l_d, l_o, l_c, gb_nil, gb_t, gb_f, gb_s, gb_s2, gb_n, e_call, k_call, k_call1, k_call2, k_call3, e_fn, k_fn, k_fnN, e_seq, k_seqL, k_seqv, k_seqt, e_src, k_src, k_src2, k_src3, e_for, k_for, n_ok, p_nil, p_cons, p_k, p_no, p_v, q_nil, q_cons, q_no, q_v, e_lc, k_lc, k_lc2, k_lc3, k_lc4, e_ld, k_ld, k_ld2, x_nil, x_cons, x_1, x_2, x_3, x_4, x_5, x_yes, x_sz, f_nil, f_cons, f_1, f_nx, f_ct, f_bk, f_rt, e_at, k_at2, k_at3, e_rs, k_rs, k_rs1, k_rs2, ao_nil, ao_t, ao_c, e_mt, k_mt, k_mt1, k_mt2, k_mt3, e_rep, k_rep, e_lam, k_lamx, k_lam, y_kn, y_kv, y_k0, y_kl, y_kd, y_on, y_ot, y_of, y_oe, y_ln, y_lt, y_lf, y_le, y_mt, y_mf, y_me, y_mn, y_told, y_non, y_val, List.length_cons, List.length_nil, List.cons_append, List.nil_append, List.take_succ_cons, List.take_zero, Bool.false_eq_true, reduceIte, sz_lit, Nat.reduceAdd, Nat.reduceLeDiff, Nat.reduceLT, Nat.zero_add, Bool.not_true, Bool.not_false, o_ci, o_addI, o_sub, o_neg, o_int, o_intB, o_min, o_max, o_aug, o_lenL, o_lenT, o_tupL, o_tupT, o_listL, o_listT, o_s10L, o_s10T, o_s01L, o_s01T, o_s11L, o_s11T, o_eqI, o_neI, o_eqS, o_neS, o_isB, o_isNotB, o_isN, o_isNotN, u_dT, u_dF, u_non, u_bl, u_int, u_tup, u_lst, ↓q1]
end
abbrev bentB : Vn → M (Fl × Vn) := (vThen (vSet 14 (vCall v__law_bent (vSl 1 (vSl 3 vNil)))) (vThen (vSet 15 (vCall v__law_are (vSl 14 vNil))) (vThen (vIfS (vB (vOp fNe (vEx (vOp fReprV (vEx (vCall v__law_ask_layers (vSl 14 vNil)) vNil)) (vEx (vOp fReprV (vSl 15 vNil)) vNil)))) (vRt (vLit (.bl false))) vNx) (vThen (vIfS (vB (vOp fNe (vEx (vOp fReprV (vEx (vLam (hnd subs ks__law_error) md__law_error [false, false, false, false, false, false, false, false, false, false, false, false, false, false, true] (vCall v__law_new_layers (vSl 14 vNil))) vNil)) (vEx (vOp fReprV (vEx (vIf (vTr (vSl 15 vNil)) (vLst (vEx (vLit (.str "told")) vNil)) (vLst (vEx (vLit (.str "layers")) (vEx (vRd 14) vNil)))) vNil)) vNil)))) (vRt (vLit (.bl false))) vNx) (vIfS (vAndT (vTr (vSl 15 vNil)) (vB (vOp fNe (vEx (vCall v_same_layers (vSl 4 (vEx (vCall v__law_new_layers (vSl 14 vNil)) vNil))) (vEx (vOp fEq (vSl 14 (vSl 3 vNil))) vNil))))) (vRt (vLit (.bl false))) vNx)))))
theorem ne_bl {b : Bool} : fNe [.bl b, .bl b] = some (.v (.bl false)) := by cases b <;> rfl
section
variable {cs : List Int} {p m k : Int} {Ls : List D} {q ts ks : List D}
abbrev pf (cs : List Int) (s : PS) : Sl := ⟨false, some (pO cs s)⟩
abbrev lawE (cs : List Int) (p m k : Int) (Ls q ts ks : List D) (c : D) (lap : Int) (s : PS) (x11 x12 x13 x14 x15 : Option O) : Vn := [sv c, pf cs s, sv (.int lap), sv (t4 p (.tup Ls) (.int m) (.int k)), sv (lob p (.tup Ls) (.int m) (.int k) q), sv (.int p), sv (.tup Ls), sv (.int m), sv (.int k), sl ts, sl ks, sx x11, sx x12, sx x13, sx x14, sx x15, no, no]
theorem bent_turn {n lap : Int} {s : PS} {c : D} {x11 x12 x13 x14 x15 : Option O} (dr : Drawn p Ls m k) (g : PenG cs n s) (hn : n < 100000000) : ∃ (s' : PS) (y14 y15 : Option O), PenG cs (n + 10) s' ∧ bentB (lawE cs p m k Ls q ts ks c lap s x11 x12 x13 x14 x15) = some (.ok (.nx, lawE cs p m k Ls q ts ks c lap s' x11 x12 x13 y14 y15)) := by
  obtain ⟨s', p', T', i', o', g', bt, e⟩ := bent_drawn dr g hn
  have tm := bt.tame
  have la := tm.law_are
  have ak := tm.ask
  have hd := dr.b.shw.cmp (by decide)
  have hb := bt.shw.cmp (by decide)
  have fe := o_eq hb hd
  rw [deq_comm] at fe
  cases ha : areB p' T' i' o' with
  | true =>
    rw [ha] at la ak
    refine ⟨s', some (.v (t4 p' T' i' o')), some (.v (.bl true)), g', ?_⟩
    obtain ⟨ls, m', k', r⟩ := tm.right ha
    have nw := new_ok tm ha r
    have sm := same_ok (q := q) (q' := lets ls m') hd hb
    obtain ⟨w1, hw1⟩ := (Shw.bl (b := true)).shw (by decide) (by decide)
    have tl : Shw (.lst [.str "told"]) 1000 1 := ⟨by decide +kernel, by decide +kernel, by decide +kernel⟩
    obtain ⟨w2, hw2⟩ := tl.shw (by decide) (by decide)
    simp only [bentB, b_ok, b_ex, b_ret, w_g0, w_g1, w_s0, w_s1, z_v, z_l, e_lit, e_rd, k_rd, e_mv, k_mv, e_fz, k_fz, e_nil, e_ex, k_ex, k_ex1, e_exI, k_exI, e_sl, k_sl, k_sl1, w_nil, w_t, w_s, w_vw, w_c, e_op, k_op, k_op2, k_op3, e_b, k_b, e_tr, k_tr, k_tr2, k_tr3, e_andT, k_andT, e_orT, k_orT, e_notT, k_notT, e_and, k_and, k_and3, e_or, k_or, k_or3, e_not, k_not, e_if, k_if, e_ch, k_ch1, k_ch2, k_ch3, a_nil, a_t, a_c, e_tup, k_tup, k_tup2, e_lst, k_lst, k_lst2, e_then, k_then, k_thenr, e_drop, k_drop, e_rt, k_rt, e_rtN, e_nx, e_ifS, k_ifS, e_set, k_set, k_set2, e_asg, k_asg, k_asg2, t_name, t_name2, t_nil, t_cons, t_cons2, t_tup, e_par, k_par, k_par2, l_nil, l_t, l_s, l_v, l_l, l_d, l_o, l_c, gb_nil, gb_t, gb_f, gb_s, gb_s2, gb_n, e_call, k_call, k_call1, k_call2, k_call3, e_fn, k_fn, k_fnN, e_seq, k_seqL, k_seqv, k_seqt, e_src, k_src, k_src2, k_src3, e_for, k_for, n_ok, p_nil, p_cons, p_k, p_no, p_v, q_nil, q_cons, q_no, q_v, e_lc, k_lc, k_lc2, k_lc3, k_lc4, e_ld, k_ld, k_ld2, x_nil, x_cons, x_1, x_2, x_3, x_4, x_5, x_yes, x_sz, f_nil, f_cons, f_1, f_nx, f_ct, f_bk, f_rt, e_at, k_at2, k_at3, e_rs, k_rs, k_rs1, k_rs2, ao_nil, ao_t, ao_c, e_mt, k_mt, k_mt1, k_mt2, k_mt3, e_rep, k_rep, e_lam, k_lamx, k_lam, y_kn, y_kv, y_k0, y_kl, y_kd, y_on, y_ot, y_of, y_oe, y_ln, y_lt, y_lf, y_le, y_mt, y_mf, y_me, y_mn, y_told, y_non, y_val, List.length_cons, List.length_nil, List.cons_append, List.nil_append, List.take_succ_cons, List.take_zero, Bool.false_eq_true, reduceIte, sz_lit, Nat.reduceAdd, Nat.reduceLeDiff, Nat.reduceLT, Nat.zero_add, Bool.not_true, Bool.not_false, o_ci, o_addI, o_sub, o_neg, o_int, o_intB, o_min, o_max, o_aug, o_lenL, o_lenT, o_tupL, o_tupT, o_listL, o_listT, o_s10L, o_s10T, o_s01L, o_s01T, o_s11L, o_s11T, o_eqI, o_neI, o_eqS, o_neS, o_isB, o_isNotB, o_isN, o_isNotN, u_dT, u_dF, u_non, u_bl, u_int, u_tup, u_lst, l_pen, e, la, ak, nw, sm, o_repr hw1, o_repr hw2, fe, ne_bl]
  | false =>
    rw [ha] at la ak
    refine ⟨s', some (.v (t4 p' T' i' o')), some (.v (.bl false)), g', ?_⟩
    have nw := new_ex tm ha
    obtain ⟨w1, hw1⟩ := (Shw.bl (b := false)).shw (by decide) (by decide)
    have w : Shw (.str "layers") 10 0 := ⟨by decide +kernel, by decide +kernel, Nat.le_refl _⟩
    have tl : Shw (.lst [.str "layers", t4 p' T' i' o']) (2 * (14804 + 1)) 5 := Shw.lst (B := 14804) (n := 4) (by simp) (by
      intro x hx
      simp only [List.mem_cons, List.not_mem_nil, or_false] at hx
      rcases hx with rfl | rfl
      · exact w.mono (by decide) (by decide)
      · exact bt.shw)
    obtain ⟨w2, hw2⟩ := tl.shw (by decide) (by decide)
    simp only [bentB, b_ok, b_ex, b_ret, w_g0, w_g1, w_s0, w_s1, z_v, z_l, e_lit, e_rd, k_rd, e_mv, k_mv, e_fz, k_fz, e_nil, e_ex, k_ex, k_ex1, e_exI, k_exI, e_sl, k_sl, k_sl1, w_nil, w_t, w_s, w_vw, w_c, e_op, k_op, k_op2, k_op3, e_b, k_b, e_tr, k_tr, k_tr2, k_tr3, e_andT, k_andT, e_orT, k_orT, e_notT, k_notT, e_and, k_and, k_and3, e_or, k_or, k_or3, e_not, k_not, e_if, k_if, e_ch, k_ch1, k_ch2, k_ch3, a_nil, a_t, a_c, e_tup, k_tup, k_tup2, e_lst, k_lst, k_lst2, e_then, k_then, k_thenr, e_drop, k_drop, e_rt, k_rt, e_rtN, e_nx, e_ifS, k_ifS, e_set, k_set, k_set2, e_asg, k_asg, k_asg2, t_name, t_name2, t_nil, t_cons, t_cons2, t_tup, e_par, k_par, k_par2, l_nil, l_t, l_s, l_v, l_l, l_d, l_o, l_c, gb_nil, gb_t, gb_f, gb_s, gb_s2, gb_n, e_call, k_call, k_call1, k_call2, k_call3, e_fn, k_fn, k_fnN, e_seq, k_seqL, k_seqv, k_seqt, e_src, k_src, k_src2, k_src3, e_for, k_for, n_ok, p_nil, p_cons, p_k, p_no, p_v, q_nil, q_cons, q_no, q_v, e_lc, k_lc, k_lc2, k_lc3, k_lc4, e_ld, k_ld, k_ld2, x_nil, x_cons, x_1, x_2, x_3, x_4, x_5, x_yes, x_sz, f_nil, f_cons, f_1, f_nx, f_ct, f_bk, f_rt, e_at, k_at2, k_at3, e_rs, k_rs, k_rs1, k_rs2, ao_nil, ao_t, ao_c, e_mt, k_mt, k_mt1, k_mt2, k_mt3, e_rep, k_rep, e_lam, k_lamx, k_lam, y_kn, y_kv, y_k0, y_kl, y_kd, y_on, y_ot, y_of, y_oe, y_ln, y_lt, y_lf, y_le, y_mt, y_mf, y_me, y_mn, y_told, y_non, y_val, List.length_cons, List.length_nil, List.cons_append, List.nil_append, List.take_succ_cons, List.take_zero, Bool.false_eq_true, reduceIte, sz_lit, Nat.reduceAdd, Nat.reduceLeDiff, Nat.reduceLT, Nat.zero_add, Bool.not_true, Bool.not_false, o_ci, o_addI, o_sub, o_neg, o_int, o_intB, o_min, o_max, o_aug, o_lenL, o_lenT, o_tupL, o_tupT, o_listL, o_listT, o_s10L, o_s10T, o_s01L, o_s01T, o_s11L, o_s11T, o_eqI, o_neI, o_eqS, o_neS, o_isB, o_isNotB, o_isN, o_isNotN, u_dT, u_dF, u_non, u_bl, u_int, u_tup, u_lst, l_pen, e, la, ak, nw, hnd7, o_repr hw1, o_repr hw2]
end
end Lw

set_option Elab.async false
set_option linter.all false
set_option maxRecDepth 100000
set_option maxHeartbeats 8000000
/-! k39, r: counts of the law. -/
namespace Lw
open PySem PySem.Spec L2 Vi
open PyProof.Rows hiding St

theorem lc_allG {own : List Nat} {gi : Vn → M (List D × Vn)} {t : D → Vn → Option Vn} {f : Vn → M (O × Vn)} {env e0 : Vn} {g : D → D} {ds : List D} (h0 : gi env = some (.ok (ds, env))) (hw : wipeV own env = some e0) (hb : backV env own e0 = some env) (hl : ds.length ≤ 1000000)
    (h : ∀ d ∈ ds, ∃ e1 e3, t d e0 = some e1 ∧ f e1 = some (.ok (.v (g d), e3)) ∧ wipeV own e3 = some e0) : vLc own gi t vYes f env = some (.ok (.l (ds.map g), env)) := by
  have hs : sizeLine = 16777216 := sizeLine_eq
  have := goLc_all (own := own) (t := t) (f := f) (env := e0) (g := g) ds [] h (by rw [List.length_nil]; omega)
  exact lc_eq h0 hw this hb
def kCnt (i : Nat) (g : Vn → M (List Lr × Vn)) (env : Vn) : Option Sl → M (O × Vn)
  | some ⟨_, some (.l _)⟩ => vOp fCount (vSl i g) env
  | _ => none
theorem e_cnt {i : Nat} {g : Vn → M (List Lr × Vn)} {env : Vn} : vCnt i g env = kCnt i g env env[i]? := rfl
theorem k_cnt {i : Nat} {g : Vn → M (List Lr × Vn)} {env : Vn} {p : Bool} {ds : List D} : kCnt i g env (some ⟨p, some (.l ds)⟩) = vOp fCount (vSl i g) env := rfl
abbrev heads (gs : List D) : List D := gs.map fun g => .str (hdS g)
theorem flats_heads : ∀ {gs : List D}, flats (heads gs) = some (gs.map fun g => V.str (hdS g))
  | [] => rfl
  | g :: gs => by
    show (match some (V.str (hdS g)), flats (heads gs) with
      | some v, some vs => some (v :: vs)
      | _, _ => none) = _
    rw [flats_heads]
    rfl
theorem eqV_str {a b : Str} : eqV (V.str a) (V.str b) = decide (a = b) := by
  by_cases h : a = b
  · subst h
    rw [decide_eq_true rfl]
    exact beq_self_eq_true a
  · rw [decide_eq_false h]
    exact beq_eq_false_iff_ne.mpr h
theorem count_heads {gs : List D} {k : Str} : fCount [.lst (heads gs), .str k] = some (.v (cnt gs k)) := by
  show (match (D.str k).flat, flats (heads gs) with
    | some k, some vs => some (O.v (.int ((vs.countP fun y => eqV y k) : Nat)))
    | _, _ => none) = _
  rw [flats_heads]
  show some (O.v (.int (((gs.map fun g => V.str (hdS g)).countP fun y => eqV y (V.str k)) : Nat))) = _
  rw [List.countP_map, List.countP_eq_length_filter]
  rw [show ((fun y => eqV y (V.str k)) ∘ fun g => V.str (hdS g)) = fun g => decide (hdS g = k) from funext fun g => eqV_str]
  rfl
abbrev cntB : Vn → M (Fl × Vn) := (vThen (vSet 12 (vLc [16] (vSeq (vRd 11)) (tgName 16) vYes (vOp fIx (vSl 16 (vEx (vLit (.int 0)) vNil))))) (vDrop (vMt 10 mAppend (vEx (vFz (vOp fTuple (vEx (vLc [17] (vSeq (vTup (vEx (vLit (.str "add")) (vEx (vLit (.str "mul")) (vEx (vLit (.str "keep")) (vEx (vLit (.str "put")) vNil)))))) (tgName 17) vYes (vFz (vCnt 12 (vSl 17 vNil)))) vNil))) vNil))))
section
variable {cs : List Int} {p m k : Int} {Ls : List D} {q ts ks : List D}
theorem cnt_turn {lap : Int} {s : PS} {c : D} {gs : List D} {x12 x13 x14 x15 : Option O} (h : gs.all gSh = true) (hl : gs.length ≤ 1000) (hk : ks.length ≤ 1000) : cntB (lawE cs p m k Ls q ts ks c lap s (some (.v (.tup gs))) x12 x13 x14 x15) = some (.ok (.nx, lawE cs p m k Ls q ts (ks ++ [kc (.tup gs)]) c lap s (some (.v (.tup gs))) (some (.l (heads gs))) x13 x14 x15)) := by
  have hs : sizeLine = 16777216 := sizeLine_eq
  have lc := lc_all (own := [16]) (gi := vSeq (vRd 11)) (t := tgName 16) (f := vOp fIx (vSl 16 (vEx (vLit (.int 0)) vNil))) (env := lawE cs p m k Ls q ts ks c lap s (some (.v (.tup gs))) x12 x13 x14 x15) (g := fun g => .str (hdS g)) (ds := gs) rfl rfl rfl (by omega) fun d hd => by
    have hq := List.all_eq_true.mp h d hd
    refine ⟨(lawE cs p m k Ls q ts ks c lap s (some (.v (.tup gs))) x12 x13 x14 x15).set 16 (sv d), (lawE cs p m k Ls q ts ks c lap s (some (.v (.tup gs))) x12 x13 x14 x15).set 16 (sv d), rfl, ?_, rfl⟩
    match d, hq with
    | .tup (.str x :: r), _ => exact op_eq (ds := [.tup (.str x :: r), .int 0]) rfl rfl (ix_tup at_zero)
  have ap := m_app (ds := ks) (d := kc (.tup gs)) (by omega)
  have ap' : mAppend (.l ks) [.v (.tup [cnt gs "add", cnt gs "mul", cnt gs "keep", cnt gs "put"])] = _ := ap
  simp only [cntB, e_then, e_set, ↓lc, b_ok, b_ex, b_ret, w_g0, w_g1, w_s0, w_s1, z_v, z_l, e_lit, e_rd, k_rd, e_mv, k_mv, e_fz, k_fz, e_nil, e_ex, k_ex, k_ex1, e_exI, k_exI, e_sl, k_sl, k_sl1, w_nil, w_t, w_s, w_vw, w_c, e_op, k_op, k_op2, k_op3, e_b, k_b, e_tr, k_tr, k_tr2, k_tr3, e_andT, k_andT, e_orT, k_orT, e_notT, k_notT, e_and, k_and, k_and3, e_or, k_or, k_or3, e_not, k_not, e_if, k_if, e_ch, k_ch1, k_ch2, k_ch3, a_nil, a_t, a_c, e_tup, k_tup, k_tup2, e_lst, k_lst, k_lst2, e_then, k_then, k_thenr, e_drop, k_drop, e_rt, k_rt, e_rtN, e_nx, e_ifS, k_ifS, e_set, k_set, k_set2, e_asg, k_asg, k_asg2, t_name, t_name2, t_nil, t_cons, t_cons2, t_tup, e_par, k_par, k_par2, l_nil, l_t, l_s, l_v, l_l, l_d, l_o, l_c, gb_nil, gb_t, gb_f, gb_s, gb_s2, gb_n, e_call, k_call, k_call1, k_call2, k_call3, e_fn, k_fn, k_fnN, e_seq, k_seqL, k_seqv, k_seqt, e_src, k_src, k_src2, k_src3, e_for, k_for, n_ok, p_nil, p_cons, p_k, p_no, p_v, q_nil, q_cons, q_no, q_v, e_lc, k_lc, k_lc2, k_lc3, k_lc4, e_ld, k_ld, k_ld2, x_nil, x_cons, x_1, x_2, x_3, x_4, x_5, x_yes, x_sz, f_nil, f_cons, f_1, f_nx, f_ct, f_bk, f_rt, e_at, k_at2, k_at3, e_rs, k_rs, k_rs1, k_rs2, ao_nil, ao_t, ao_c, e_mt, k_mt, k_mt1, k_mt2, k_mt3, e_rep, k_rep, e_lam, k_lamx, k_lam, y_kn, y_kv, y_k0, y_kl, y_kd, y_on, y_ot, y_of, y_oe, y_ln, y_lt, y_lf, y_le, y_mt, y_mf, y_me, y_mn, y_told, y_non, y_val, List.length_cons, List.length_nil, List.cons_append, List.nil_append, List.take_succ_cons, List.take_zero, Bool.false_eq_true, reduceIte, sz_lit, Nat.reduceAdd, Nat.reduceLeDiff, Nat.reduceLT, Nat.zero_add, Bool.not_true, Bool.not_false, o_ci, o_addI, o_sub, o_neg, o_int, o_intB, o_min, o_max, o_aug, o_lenL, o_lenT, o_tupL, o_tupT, o_listL, o_listT, o_s10L, o_s10T, o_s01L, o_s01T, o_s11L, o_s11T, o_eqI, o_neI, o_eqS, o_neS, o_isB, o_isNotB, o_isN, o_isNotN, u_dT, u_dF, u_non, u_bl, u_int, u_tup, u_lst, x_sz, e_cnt, k_cnt, count_heads, ap']
theorem cnt_loop {lap : Int} {s : PS} {c : D} {x11 : Option D} {x12 x13 x14 x15 : Option O} (hs : shp Ls = true) (hg : ∀ d ∈ Ls, ∃ gs : List D, d = .tup gs ∧ gs.length ≤ 1000) (hl : Ls.length ≤ 1000) : ∃ (y11 : Option D) (y12 : Option O), goFor (tgName 11) cntB Ls (lawE cs p m k Ls q ts [] c lap s (x11.map O.v) x12 x13 x14 x15) = some (.ok (.nx, lawE cs p m k Ls q ts (Ls.map kc) c lap s (y11.map O.v) y12 x13 x14 x15)) := by
  obtain ⟨env', q1, done, y11, y12, h1, rfl⟩ := goFor_inv (t := tgName 11) (b := cntB) (I := fun ds env => ∃ (done : List D) (x11 : Option D) (x12 : Option O), Ls = done ++ ds ∧ env = lawE cs p m k Ls q ts (done.map kc) c lap s (x11.map O.v) x12 x13 x14 x15) (fun d r env ⟨done, x11, x12, h1, he⟩ => by
    subst he
    have hd : d ∈ Ls := by
      rw [h1]
      simp
    obtain ⟨gs, rfl, g1⟩ := hg d hd
    have hq : gs.all gSh = true := List.all_eq_true.mp hs _ hd
    have dl : done.length ≤ 1000 := by
      have : Ls.length = done.length + (D.tup gs :: r).length := by
        conv => lhs; rw [h1]
        rw [List.length_append]
      omega
    refine ⟨lawE cs p m k Ls q ts (done.map kc) c lap s (some (.v (.tup gs))) x12 x13 x14 x15, _, rfl, .inl (cnt_turn hq g1 (by rw [List.length_map]; exact dl)), done ++ [.tup gs], some (.tup gs), _, by rw [h1]; simp, by rw [List.map_append]; rfl⟩) Ls (lawE cs p m k Ls q ts [] c lap s (x11.map O.v) x12 x13 x14 x15) ⟨[], x11, x12, rfl, rfl⟩
  rw [List.append_nil] at h1
  exact ⟨y11, y12, h1 ▸ q1⟩
end
end Lw

set_option Elab.async false
set_option linter.all false
set_option maxRecDepth 100000
set_option maxHeartbeats 8000000
/-! k39, s: one lap of the law. -/
namespace Lw
open PySem PySem.Spec L2 Vi
open PyProof.Rows hiding St

abbrev P0 : Vn → M (Fl × Vn) := (vSet 3 (vCall v__law_layers (vSl 1 (vEx (vLit (.int 4)) (vEx (vLit (.int 9)) vNil)))))
abbrev P1 : Vn → M (Fl × Vn) := (vSet 4 (vCall v__law_new_layers (vSl 3 vNil)))
abbrev P2 : Vn → M (Fl × Vn) := (vAsg (vRd 3) (tgTup (tgCons (tgName 5) (tgCons (tgName 6) (tgCons (tgName 7) (tgCons (tgName 8) tgNil))))))
abbrev P3 : Vn → M (Fl × Vn) := (vIfS (vOrT (vB (vOp fNe (vEx (vTup (vEx (vAt acc "prime" (vSl 4 vNil)) (vEx (vAt acc "layers" (vSl 4 vNil)) (vEx (vAt acc "inputs" (vSl 4 vNil)) (vEx (vAt acc "outputs" (vSl 4 vNil)) vNil))))) (vSl 3 vNil)))) (vB (vOp fIsNot (vEx (vCall v_is_layers (vSl 4 vNil)) (vEx (vLit (.bl true)) vNil))))) (vRt (vLit (.bl false))) vNx)
abbrev P4 : Vn → M (Fl × Vn) := (vSet 9 (vOp fAdd (vEx (vLc [11] (vSeq (vRd 6)) (tgName 11) vYes (vFz (vCall v__law_letters (vEx (vOp fLen (vSl 11 vNil)) vNil)))) (vEx (vLst (vEx (vFz (vCall v__law_letters (vSl 7 vNil))) vNil)) vNil))))
abbrev P5 : Vn → M (Fl × Vn) := (vIfS (vB (vOp fNe (vEx (vOp fReprV (vEx (vAt acc "letters" (vSl 4 vNil)) vNil)) (vEx (vOp fReprV (vEx (vOp fTuple (vSl 9 vNil)) vNil)) vNil)))) (vRt (vLit (.bl false))) vNx)
abbrev P6 : Vn → M (Fl × Vn) := (vSet 10 (vLst vNil))
abbrev P7 : Vn → M (Fl × Vn) := (vFor (vSeq (vRd 6)) (tgName 11) (vThen (vSet 12 (vLc [16] (vSeq (vRd 11)) (tgName 16) vYes (vOp fIx (vSl 16 (vEx (vLit (.int 0)) vNil))))) (vDrop (vMt 10 mAppend (vEx (vFz (vOp fTuple (vEx (vLc [17] (vSeq (vTup (vEx (vLit (.str "add")) (vEx (vLit (.str "mul")) (vEx (vLit (.str "keep")) (vEx (vLit (.str "put")) vNil)))))) (tgName 17) vYes (vFz (vCnt 12 (vSl 17 vNil)))) vNil))) vNil)))))
abbrev P8 : Vn → M (Fl × Vn) := (vIfS (vB (vOp fNe (vEx (vOp fReprV (vEx (vCall v_kind_counts (vSl 4 vNil)) vNil)) (vEx (vOp fReprV (vEx (vOp fTuple (vSl 10 vNil)) vNil)) vNil)))) (vRt (vLit (.bl false))) vNx)
abbrev P9 : Vn → M (Fl × Vn) := (vIfS (vB (vOp fNe (vEx (vOp fReprV (vEx (vCall v_draw_count (vSl 4 vNil)) vNil)) (vEx (vOp fReprV (vEx (vOp fAdd (vEx (vOp fAdd (vEx (vOp fIx (vSl 9 (vEx (vLit (.int 0)) vNil))) (vEx (vOp fMul (vEx (vLit (.int 2)) (vEx (vOp fSum (vEx (vOp fS10 (vSl 9 (vExI (vLit (.int 1)) vNil))) vNil)) vNil))) vNil))) (vEx (vOp fLen (vSl 6 vNil)) vNil))) vNil)) vNil)))) (vRt (vLit (.bl false))) vNx)
abbrev P10 : Vn → M (Fl × Vn) := (vFor (vSrc sR1 (vEx (vLit (.int 6)) vNil)) (tgName 13) (vThen (vSet 14 (vCall v__law_bent (vSl 1 (vSl 3 vNil)))) (vThen (vSet 15 (vCall v__law_are (vSl 14 vNil))) (vThen (vIfS (vB (vOp fNe (vEx (vOp fReprV (vEx (vCall v__law_ask_layers (vSl 14 vNil)) vNil)) (vEx (vOp fReprV (vSl 15 vNil)) vNil)))) (vRt (vLit (.bl false))) vNx) (vThen (vIfS (vB (vOp fNe (vEx (vOp fReprV (vEx (vLam (hnd subs ks__law_error) md__law_error [false, false, false, false, false, false, false, false, false, false, false, false, false, false, true] (vCall v__law_new_layers (vSl 14 vNil))) vNil)) (vEx (vOp fReprV (vEx (vIf (vTr (vSl 15 vNil)) (vLst (vEx (vLit (.str "told")) vNil)) (vLst (vEx (vLit (.str "layers")) (vEx (vRd 14) vNil)))) vNil)) vNil)))) (vRt (vLit (.bl false))) vNx) (vIfS (vAndT (vTr (vSl 15 vNil)) (vB (vOp fNe (vEx (vCall v_same_layers (vSl 4 (vEx (vCall v__law_new_layers (vSl 14 vNil)) vNil))) (vEx (vOp fEq (vSl 14 (vSl 3 vNil))) vNil))))) (vRt (vLit (.bl false))) vNx))))))
abbrev P11 : Vn → M (Fl × Vn) := (vIfS (vNotT (vTr (vEx (vCall v__law_errors_right (vSl 4 (vSl 3 vNil))) vNil))) (vRt (vLit (.bl false))) vNx)
abbrev lapB : Vn → M (Fl × Vn) := (vThen P0 (vThen P1 (vThen P2 (vThen P3 (vThen P4 (vThen P5 (vThen P6 (vThen P7 (vThen P8 (vThen P9 (vThen P10 P11)))))))))))
section
variable {cs : List Int} {p m k : Int} {Ls : List D}
theorem dr_full (dr : Drawn p Ls m k) : Ls.all layT = true ∧ Ls.all full = true := by
  refine ⟨List.all_eq_true.mpr fun d hd => ?_, List.all_eq_true.mpr fun d hd => ?_⟩
  · obtain ⟨gs, rfl, h1, h2, h3⟩ := dr.g d hd
    exact okL_lay ⟨gs, .inl rfl, h2, h3⟩
  · obtain ⟨gs, rfl, h1, h2, h3⟩ := dr.g d hd
    cases gs with
    | nil => simp at h1
    | cons _ _ => rfl
theorem dr_right (dr : Drawn p Ls m k) : Right p (.tup Ls) (.int m) (.int k) Ls m k := by
  have l1 := dr.l
  have m1 := dr.m
  have k1 := dr.k
  refine ⟨rfl, ?_, (dr_full dr).1, by omega, (dr_full dr).2, rfl, rfl, by omega, by omega⟩
  cases Ls with
  | nil => simp at l1
  | cons _ _ => rfl
abbrev lawF (cs : List Int) (p m k : Int) (Ls : List D) (q : List D) (c : D) (lap : Int) (s : PS) (x9 x10 : Option O) (x11 : Option D) (x12 x13 x14 x15 : Option O) : Vn := [sv c, pf cs s, sv (.int lap), sv (t4 p (.tup Ls) (.int m) (.int k)), sv (lob p (.tup Ls) (.int m) (.int k) q), sv (.int p), sv (.tup Ls), sv (.int m), sv (.int k), sx x9, sx x10, sx (x11.map O.v), sx x12, sx x13, sx x14, sx x15, no, no]
theorem law_letters_is : v__law_letters = v_letters_in := rfl
theorem let_lc {lap : Int} {s : PS} {c : D} {q : List D} {x9 x10 : Option O} {x11 : Option D} {x12 x13 x14 x15 : Option O} (dr : Drawn p Ls m k) : vLc [11] (vSeq (vRd 6)) (tgName 11) vYes (vFz (vCall v__law_letters (vEx (vOp fLen (vSl 11 vNil)) vNil))) (lawF cs p m k Ls q c lap s x9 x10 x11 x12 x13 x14 x15) = re (.l (Ls.map fun l => D.int (letF (gates l).length))) (lawF cs p m k Ls q c lap s x9 x10 x11 x12 x13 x14 x15) := by
  have l1 := dr.l
  have key : ∀ y : Option D, wipeV [11] (lawF cs p m k Ls q c lap s x9 x10 y x12 x13 x14 x15) = some (lawF cs p m k Ls q c lap s x9 x10 none x12 x13 x14 x15) ∧ backV (lawF cs p m k Ls q c lap s x9 x10 y x12 x13 x14 x15) [11] (lawF cs p m k Ls q c lap s x9 x10 none x12 x13 x14 x15) = some (lawF cs p m k Ls q c lap s x9 x10 y x12 x13 x14 x15) := by
    intro y
    cases y <;> exact ⟨rfl, rfl⟩
  refine lc_allG (e0 := lawF cs p m k Ls q c lap s x9 x10 none x12 x13 x14 x15) (ds := Ls) rfl (key x11).1 (key x11).2 (by omega) fun d hd => ?_
  obtain ⟨gs, rfl, g1, g2, _⟩ := dr.g d hd
  refine ⟨lawF cs p m k Ls q c lap s x9 x10 (some (.tup gs)) x12 x13 x14 x15, lawF cs p m k Ls q c lap s x9 x10 (some (.tup gs)) x12 x13 x14 x15, rfl, ?_, (key (some (.tup gs))).1⟩
  have qq := (letF_ok (n := gs.length) (by omega)).1
  rw [← law_letters_is] at qq
  simp only [b_ok, b_ex, b_ret, w_g0, w_g1, w_s0, w_s1, z_v, z_l, e_lit, e_rd, k_rd, e_mv, k_mv, e_fz, k_fz, e_nil, e_ex, k_ex, k_ex1, e_exI, k_exI, e_sl, k_sl, k_sl1, w_nil, w_t, w_s, w_vw, w_c, e_op, k_op, k_op2, k_op3, e_b, k_b, e_tr, k_tr, k_tr2, k_tr3, e_andT, k_andT, e_orT, k_orT, e_notT, k_notT, e_and, k_and, k_and3, e_or, k_or, k_or3, e_not, k_not, e_if, k_if, e_ch, k_ch1, k_ch2, k_ch3, a_nil, a_t, a_c, e_tup, k_tup, k_tup2, e_lst, k_lst, k_lst2, e_then, k_then, k_thenr, e_drop, k_drop, e_rt, k_rt, e_rtN, e_nx, e_ifS, k_ifS, e_set, k_set, k_set2, e_asg, k_asg, k_asg2, t_name, t_name2, t_nil, t_cons, t_cons2, t_tup, e_par, k_par, k_par2, l_nil, l_t, l_s, l_v, l_l, l_d, l_o, l_c, gb_nil, gb_t, gb_f, gb_s, gb_s2, gb_n, e_call, k_call, k_call1, k_call2, k_call3, e_fn, k_fn, k_fnN, e_seq, k_seqL, k_seqv, k_seqt, e_src, k_src, k_src2, k_src3, e_for, k_for, n_ok, p_nil, p_cons, p_k, p_no, p_v, q_nil, q_cons, q_no, q_v, e_lc, k_lc, k_lc2, k_lc3, k_lc4, e_ld, k_ld, k_ld2, x_nil, x_cons, x_1, x_2, x_3, x_4, x_5, x_yes, x_sz, f_nil, f_cons, f_1, f_nx, f_ct, f_bk, f_rt, e_at, k_at2, k_at3, e_rs, k_rs, k_rs1, k_rs2, ao_nil, ao_t, ao_c, e_mt, k_mt, k_mt1, k_mt2, k_mt3, e_rep, k_rep, e_lam, k_lamx, k_lam, y_kn, y_kv, y_k0, y_kl, y_kd, y_on, y_ot, y_of, y_oe, y_ln, y_lt, y_lf, y_le, y_mt, y_mf, y_me, y_mn, y_told, y_non, y_val, List.length_cons, List.length_nil, List.cons_append, List.nil_append, List.take_succ_cons, List.take_zero, Bool.false_eq_true, reduceIte, sz_lit, Nat.reduceAdd, Nat.reduceLeDiff, Nat.reduceLT, Nat.zero_add, Bool.not_true, Bool.not_false, o_ci, o_addI, o_sub, o_neg, o_int, o_intB, o_min, o_max, o_aug, o_lenL, o_lenT, o_tupL, o_tupT, o_listL, o_listT, o_s10L, o_s10T, o_s01L, o_s01T, o_s11L, o_s11T, o_eqI, o_neI, o_eqS, o_neS, o_isB, o_isNotB, o_isN, o_isNotN, u_dT, u_dF, u_non, u_bl, u_int, u_tup, u_lst, Option.map_some, qq]
  rfl
theorem partA {n lap : Int} {s : PS} {c : D} {x3 x4 x5 x6 x7 x8 x9 x10 : Option O} {x11 : Option D} {x12 x13 x14 x15 : Option O} (g : PenG cs n s) (hn : n < 1000000) : ∃ (s' : PS) (p m k : Int) (Ls : List D), PenG cs (n + 10000) s' ∧ Drawn p Ls m k ∧ ∀ R, (vThen P0 (vThen P1 (vThen P2 (vThen P3 (vThen P4 (vThen P5 (vThen P6 R))))))) [sv c, pf cs s, sv (.int lap), sx x3, sx x4, sx x5, sx x6, sx x7, sx x8, sx x9, sx x10, sx (x11.map O.v), sx x12, sx x13, sx x14, sx x15, no, no] = R (lawE cs p m k Ls (lets Ls m) (lets Ls m) [] c lap s' (x11.map O.v) x12 x13 x14 x15) := by
  obtain ⟨s', p, Ls, sz, m, k, z, g', hp, hl, l1, l2, zz, md, hm, hz, k1, k2, e⟩ := layers_drawn g hn
  have dr := drawn_right hp hl l1 l2 zz md hm hz k1 k2
  refine ⟨s', p, m, k, Ls, g', dr, fun R => ?_⟩
  have tm := dr.b.tame
  have rt := dr_right dr
  have nw := new_ok tm dr.a rt
  have cm := dr.b.shw.cmp (by decide)
  have ne : fNe [t4 p (.tup Ls) (.int m) (.int k), t4 p (.tup Ls) (.int m) (.int k)] = some (.v (.bl false)) := by
    rw [o_ne cm cm, deq_self cm]
    rfl
  have il := is_lob (p := p) (T := .tup Ls) (i := .int m) (o := .int k) (q := lets Ls m)
  have a1 : atO acc "prime" 10 [("prime", .int p), ("layers", .tup Ls), ("inputs", .int m), ("outputs", .int k), ("letters", .tup (lets Ls m))] = some (.int p) := rfl
  have a2 : atO acc "layers" 10 [("prime", .int p), ("layers", .tup Ls), ("inputs", .int m), ("outputs", .int k), ("letters", .tup (lets Ls m))] = some (.tup Ls) := rfl
  have a3 : atO acc "inputs" 10 [("prime", .int p), ("layers", .tup Ls), ("inputs", .int m), ("outputs", .int k), ("letters", .tup (lets Ls m))] = some (.int m) := rfl
  have a4 : atO acc "outputs" 10 [("prime", .int p), ("layers", .tup Ls), ("inputs", .int m), ("outputs", .int k), ("letters", .tup (lets Ls m))] = some (.int k) := rfl
  have a5 : atO acc "letters" 10 [("prime", .int p), ("layers", .tup Ls), ("inputs", .int m), ("outputs", .int k), ("letters", .tup (lets Ls m))] = some (.tup (lets Ls m)) := rfl
  have m1 := dr.m
  have q0 := (letF_ok (n := m) (by omega)).1
  rw [← law_letters_is] at q0
  have lc := let_lc (cs := cs) (lap := lap) (s := s') (c := c) (q := lets Ls m) (x9 := x9) (x10 := x10) (x11 := x11) (x12 := x12) (x13 := x13) (x14 := x14) (x15 := x15) dr
  have hs : sizeLine = 16777216 := sizeLine_eq
  have ad : fAdd [.lst (Ls.map fun l => D.int (letF (gates l).length)), .lst [.int (letF m)]] = some (.l (lets Ls m)) := o_addL (by rw [List.length_map, List.length_singleton]; omega)
  have sh : Shw (.tup (lets Ls m)) (11 * 1) 1 := Shw.tup (B := 0) (n := 0) (L := 11) (by unfold lets; rw [List.length_append, List.length_map, List.length_singleton]; omega) (by
    intro d hd
    unfold lets at hd
    rcases List.mem_append.mp hd with hd | hd
    · obtain ⟨l, hl, rfl⟩ := List.mem_map.mp hd
      obtain ⟨gs, rfl, h1, h2, _⟩ := dr.g l hl
      have := letF_ok (n := ((gates (D.tup gs)).length : Nat)) (by show ((gs.length : Nat) : Int) ≤ _; omega)
      exact .int (by omega)
    · rw [List.mem_singleton.mp hd]
      have := letF_ok (n := m) (by omega)
      exact .int (by omega))
  obtain ⟨w, hw⟩ := sh.shw (by decide) (by decide)
  have at1 := a1
  simp only [P0, P1, P2, P3, P5, P6, b_ok, b_ex, b_ret, w_g0, w_g1, w_s0, w_s1, z_v, z_l, e_lit, e_rd, k_rd, e_mv, k_mv, e_fz, k_fz, e_nil, e_ex, k_ex, k_ex1, e_exI, k_exI, e_sl, k_sl, k_sl1, w_nil, w_t, w_s, w_vw, w_c, e_op, k_op, k_op2, k_op3, e_b, k_b, e_tr, k_tr, k_tr2, k_tr3, e_andT, k_andT, e_orT, k_orT, e_notT, k_notT, e_and, k_and, k_and3, e_or, k_or, k_or3, e_not, k_not, e_if, k_if, e_ch, k_ch1, k_ch2, k_ch3, a_nil, a_t, a_c, e_tup, k_tup, k_tup2, e_lst, k_lst, k_lst2, e_then, k_then, k_thenr, e_drop, k_drop, e_rt, k_rt, e_rtN, e_nx, e_ifS, k_ifS, e_set, k_set, k_set2, e_asg, k_asg, k_asg2, t_name, t_name2, t_nil, t_cons, t_cons2, t_tup, e_par, k_par, k_par2, l_nil, l_t, l_s, l_v, l_l, l_d, l_o, l_c, gb_nil, gb_t, gb_f, gb_s, gb_s2, gb_n, e_call, k_call, k_call1, k_call2, k_call3, e_fn, k_fn, k_fnN, e_seq, k_seqL, k_seqv, k_seqt, e_src, k_src, k_src2, k_src3, e_for, k_for, n_ok, p_nil, p_cons, p_k, p_no, p_v, q_nil, q_cons, q_no, q_v, e_lc, k_lc, k_lc2, k_lc3, k_lc4, e_ld, k_ld, k_ld2, x_nil, x_cons, x_1, x_2, x_3, x_4, x_5, x_yes, x_sz, f_nil, f_cons, f_1, f_nx, f_ct, f_bk, f_rt, e_at, k_at2, k_at3, e_rs, k_rs, k_rs1, k_rs2, ao_nil, ao_t, ao_c, e_mt, k_mt, k_mt1, k_mt2, k_mt3, e_rep, k_rep, e_lam, k_lamx, k_lam, y_kn, y_kv, y_k0, y_kl, y_kd, y_on, y_ot, y_of, y_oe, y_ln, y_lt, y_lf, y_le, y_mt, y_mf, y_me, y_mn, y_told, y_non, y_val, List.length_cons, List.length_nil, List.cons_append, List.nil_append, List.take_succ_cons, List.take_zero, Bool.false_eq_true, reduceIte, sz_lit, Nat.reduceAdd, Nat.reduceLeDiff, Nat.reduceLT, Nat.zero_add, Bool.not_true, Bool.not_false, o_ci, o_addI, o_sub, o_neg, o_int, o_intB, o_min, o_max, o_aug, o_lenL, o_lenT, o_tupL, o_tupT, o_listL, o_listT, o_s10L, o_s10T, o_s01L, o_s01T, o_s11L, o_s11T, o_eqI, o_neI, o_eqS, o_neS, o_isB, o_isNotB, o_isN, o_isNotN, u_dT, u_dF, u_non, u_bl, u_int, u_tup, u_lst, l_pen, e, nw, a1, a2, a3, a4, a5, ne, il, o_repr hw, ↓lc, ad, q0]
end
end Lw

set_option Elab.async false
set_option linter.all false
set_option maxRecDepth 100000
set_option maxHeartbeats 8000000
/-! k39, t: the law. -/
namespace Lw
open PySem PySem.Spec L2 Vi
open PyProof.Rows hiding St

section
variable {cs : List Int} {p m k : Int} {Ls : List D}
theorem sum_le' : ∀ {l : List Int}, (∀ z ∈ l, 0 ≤ z ∧ z ≤ 1000000) → 0 ≤ l.sum ∧ l.sum ≤ l.length * 1000000
  | [], _ => ⟨Int.le_refl _, Int.le_refl _⟩
  | z :: l, h => by
    have h1 := h z List.mem_cons_self
    have h2 := sum_le' fun x hx => h x (List.mem_cons_of_mem _ hx)
    rw [List.sum_cons, List.length_cons]
    omega
theorem ltI_cons (dr : Drawn p Ls m k) : ∃ (x : Int) (l : List Int), ltI Ls m = x :: l ∧ l.length = Ls.length ∧ (∀ z ∈ x :: l, 0 ≤ z ∧ z ≤ 1000000) := by
  have l1 := dr.l
  have m1 := dr.m
  have all : ∀ z ∈ ltI Ls m, 0 ≤ z ∧ z ≤ 1000000 := by
    intro z hz
    unfold ltI at hz
    rcases List.mem_append.mp hz with hz | hz
    · obtain ⟨l, hl, rfl⟩ := List.mem_map.mp hz
      obtain ⟨gs, rfl, h1, h2, _⟩ := dr.g l hl
      exact (letF_ok (n := ((gates (D.tup gs)).length : Nat)) (by show ((gs.length : Nat) : Int) ≤ _; omega)).2
    · rw [List.mem_singleton.mp hz]
      exact (letF_ok (n := m) (by omega)).2
  have len : (ltI Ls m).length = Ls.length + 1 := by
    unfold ltI
    rw [List.length_append, List.length_map, List.length_singleton]
  cases h : ltI Ls m with
  | nil =>
    rw [h] at len
    simp at len
  | cons x l =>
    rw [h] at len all
    exact ⟨x, l, rfl, by simpa using len, all⟩
theorem partB {lap : Int} {s : PS} {c : D} {x11 : Option D} {x12 x13 x14 x15 : Option O} (dr : Drawn p Ls m k) : ∃ (y11 : Option D) (y12 : Option O), ∀ R, (vThen P7 (vThen P8 (vThen P9 R))) (lawE cs p m k Ls (lets Ls m) (lets Ls m) [] c lap s (x11.map O.v) x12 x13 x14 x15) = R (lawE cs p m k Ls (lets Ls m) (lets Ls m) (Ls.map kc) c lap s (y11.map O.v) y12 x13 x14 x15) := by
  have l1 := dr.l
  have hsh := right_shp dr.a (dr_right dr)
  have df := dr_full dr
  obtain ⟨y11, y12, e1⟩ := cnt_loop (cs := cs) (p := p) (m := m) (k := k) (q := lets Ls m) (ts := lets Ls m) (lap := lap) (s := s) (c := c) (x11 := x11) (x12 := x12) (x13 := x13) (x14 := x14) (x15 := x15) hsh (fun d hd => by
    obtain ⟨gs, rfl, h1, h2, _⟩ := dr.g d hd
    exact ⟨gs, rfl, by omega⟩) (by omega)
  refine ⟨y11, y12, fun R => ?_⟩
  have kk := kinds_ok (p := p) (i := .int m) (o := .int k) (q := lets Ls m) hsh df.1 df.2 (by omega)
  have sh : Shw (.tup (Ls.map kc)) (10 * (4 * 1 + 1)) 2 := Shw.tup (B := 4 * 1) (n := 1) (L := 10) (by rw [List.length_map]; exact l1.2) (by
    intro d hd
    obtain ⟨l, hl, rfl⟩ := List.mem_map.mp hd
    obtain ⟨gs, rfl, h1, h2, _⟩ := dr.g l hl
    have cn : ∀ t : Str, Shw (cnt gs t) 0 0 := fun t => .int (by
      have := List.length_filter_le (fun g => decide (hdS g = t)) gs
      omega)
    refine Shw.tup (B := 0) (n := 0) (L := 4) (by simp) ?_
    intro x hx
    simp only [List.mem_cons, List.not_mem_nil, or_false] at hx
    rcases hx with rfl | rfl | rfl | rfl <;> exact cn _)
  obtain ⟨w, hw⟩ := sh.shw (by decide) (by decide)
  obtain ⟨x, l, hx, ll, hb⟩ := ltI_cons dr
  have le : lets Ls m = (x :: l).map D.int := by rw [lets_eq, hx]
  have dw := draws_ok (p := p) (T := .tup Ls) (i := .int m) (o := .int k) (x := x) (l := l) (by omega)
  rw [← le] at dw
  have de := draws_eq x l
  have sl := sum_le' (l := l) fun z hz => hb z (List.mem_cons_of_mem _ hz)
  have x1 := hb x List.mem_cons_self
  have dsh : Shw (.int (draws (x :: l))) 0 0 := .int (by rw [de]; omega)
  obtain ⟨v, hv⟩ := dsh.shw (by decide) (by decide)
  have ix : fIx [.lst (lets Ls m), .int 0] = some (.v (.int x)) := by
    rw [le]
    exact ix_lst at_zero
  have ct : cutD (lets Ls m) (some 1) none = l.map D.int := by
    rw [le]
    show cutD (D.int x :: l.map D.int) (some ((1 : Nat) : Int)) none = _
    rw [cut_from (by simp)]
    rfl
  have su : fSum [.lst (l.map D.int)] = some (.v (.int l.sum)) := o_sum (ints_row l)
  have mu : fMul [.int 2, .int l.sum] = some (.v (.int (2 * l.sum))) := o_mulL (by decide)
  have de' : x + 2 * l.sum + (Ls.length : Int) = draws (x :: l) := by rw [de, ll]
  simp only [P7, P8, P9, b_ok, b_ex, b_ret, w_g0, w_g1, w_s0, w_s1, z_v, z_l, e_lit, e_rd, k_rd, e_mv, k_mv, e_fz, k_fz, e_nil, e_ex, k_ex, k_ex1, e_exI, k_exI, e_sl, k_sl, k_sl1, w_nil, w_t, w_s, w_vw, w_c, e_op, k_op, k_op2, k_op3, e_b, k_b, e_tr, k_tr, k_tr2, k_tr3, e_andT, k_andT, e_orT, k_orT, e_notT, k_notT, e_and, k_and, k_and3, e_or, k_or, k_or3, e_not, k_not, e_if, k_if, e_ch, k_ch1, k_ch2, k_ch3, a_nil, a_t, a_c, e_tup, k_tup, k_tup2, e_lst, k_lst, k_lst2, e_then, k_then, k_thenr, e_drop, k_drop, e_rt, k_rt, e_rtN, e_nx, e_ifS, k_ifS, e_set, k_set, k_set2, e_asg, k_asg, k_asg2, t_name, t_name2, t_nil, t_cons, t_cons2, t_tup, e_par, k_par, k_par2, l_nil, l_t, l_s, l_v, l_l, l_d, l_o, l_c, gb_nil, gb_t, gb_f, gb_s, gb_s2, gb_n, e_call, k_call, k_call1, k_call2, k_call3, e_fn, k_fn, k_fnN, e_seq, k_seqL, k_seqv, k_seqt, e_src, k_src, k_src2, k_src3, e_for, k_for, n_ok, p_nil, p_cons, p_k, p_no, p_v, q_nil, q_cons, q_no, q_v, e_lc, k_lc, k_lc2, k_lc3, k_lc4, e_ld, k_ld, k_ld2, x_nil, x_cons, x_1, x_2, x_3, x_4, x_5, x_yes, x_sz, f_nil, f_cons, f_1, f_nx, f_ct, f_bk, f_rt, e_at, k_at2, k_at3, e_rs, k_rs, k_rs1, k_rs2, ao_nil, ao_t, ao_c, e_mt, k_mt, k_mt1, k_mt2, k_mt3, e_rep, k_rep, e_lam, k_lamx, k_lam, y_kn, y_kv, y_k0, y_kl, y_kd, y_on, y_ot, y_of, y_oe, y_ln, y_lt, y_lf, y_le, y_mt, y_mf, y_me, y_mn, y_told, y_non, y_val, List.length_cons, List.length_nil, List.cons_append, List.nil_append, List.take_succ_cons, List.take_zero, Bool.false_eq_true, reduceIte, sz_lit, Nat.reduceAdd, Nat.reduceLeDiff, Nat.reduceLT, Nat.zero_add, Bool.not_true, Bool.not_false, o_ci, o_addI, o_sub, o_neg, o_int, o_intB, o_min, o_max, o_aug, o_lenL, o_lenT, o_tupL, o_tupT, o_listL, o_listT, o_s10L, o_s10T, o_s01L, o_s01T, o_s11L, o_s11T, o_eqI, o_neI, o_eqS, o_neS, o_isB, o_isNotB, o_isN, o_isNotN, u_dT, u_dF, u_non, u_bl, u_int, u_tup, u_lst, ↓e1, kk, o_repr hw, dw, ix, ct, su, mu, de', o_repr hv]
theorem partC {n lap : Int} {s : PS} {c : D} {x11 x12 x13 x14 x15 : Option O} {ts ks : List D} (dr : Drawn p Ls m k) (g : PenG cs n s) (hn : n < 10000000) : ∃ (s' : PS) (y13 y14 y15 : Option O), PenG cs (n + 60) s' ∧ (vThen P10 P11) (lawE cs p m k Ls (lets Ls m) ts ks c lap s x11 x12 x13 x14 x15) = some (.ok (.nx, lawE cs p m k Ls (lets Ls m) ts ks c lap s' x11 x12 y13 y14 y15)) := by
  obtain ⟨env', q1, s', y13, y14, y15, rfl, g'⟩ := goFor_rng (t := tgName 13) (b := bentB) (fun j env => ∃ (s : PS) (x13 x14 x15 : Option O), env = lawE cs p m k Ls (lets Ls m) ts ks c lap s x11 x12 x13 x14 x15 ∧ PenG cs (n + 10 * j) s) 6 (fun i hi env ⟨s, x13, x14, x15, he, g⟩ => by
    subst he
    obtain ⟨s', y14, y15, g', e⟩ := bent_turn (q := lets Ls m) (ts := ts) (ks := ks) (lap := lap) (c := c) (x11 := x11) (x12 := x12) (x13 := some (.v (.int i))) (x14 := x14) (x15 := x15) dr g (by omega)
    exact ⟨lawE cs p m k Ls (lets Ls m) ts ks c lap s x11 x12 (some (.v (.int i))) x14 x15, _, rfl, .inl e, s', _, _, _, rfl, g'.mono (by omega)⟩) (lawE cs p m k Ls (lets Ls m) ts ks c lap s x11 x12 x13 x14 x15) ⟨s, x13, x14, x15, rfl, g.mono (by omega)⟩
  refine ⟨s', y13, y14, y15, g'.mono (by omega), ?_⟩
  have er := errors_ok (q := lets Ls m) dr.b.shw
  have rg : sR1 [.int 6] = some (rng 0 6 1) := r_1 (a := 6) (in62_ok (by decide))
  simp only [P10, P11, b_ok, b_ex, b_ret, w_g0, w_g1, w_s0, w_s1, z_v, z_l, e_lit, e_rd, k_rd, e_mv, k_mv, e_fz, k_fz, e_nil, e_ex, k_ex, k_ex1, e_exI, k_exI, e_sl, k_sl, k_sl1, w_nil, w_t, w_s, w_vw, w_c, e_op, k_op, k_op2, k_op3, e_b, k_b, e_tr, k_tr, k_tr2, k_tr3, e_andT, k_andT, e_orT, k_orT, e_notT, k_notT, e_and, k_and, k_and3, e_or, k_or, k_or3, e_not, k_not, e_if, k_if, e_ch, k_ch1, k_ch2, k_ch3, a_nil, a_t, a_c, e_tup, k_tup, k_tup2, e_lst, k_lst, k_lst2, e_then, k_then, k_thenr, e_drop, k_drop, e_rt, k_rt, e_rtN, e_nx, e_ifS, k_ifS, e_set, k_set, k_set2, e_asg, k_asg, k_asg2, t_name, t_name2, t_nil, t_cons, t_cons2, t_tup, e_par, k_par, k_par2, l_nil, l_t, l_s, l_v, l_l, l_d, l_o, l_c, gb_nil, gb_t, gb_f, gb_s, gb_s2, gb_n, e_call, k_call, k_call1, k_call2, k_call3, e_fn, k_fn, k_fnN, e_seq, k_seqL, k_seqv, k_seqt, e_src, k_src, k_src2, k_src3, e_for, k_for, n_ok, p_nil, p_cons, p_k, p_no, p_v, q_nil, q_cons, q_no, q_v, e_lc, k_lc, k_lc2, k_lc3, k_lc4, e_ld, k_ld, k_ld2, x_nil, x_cons, x_1, x_2, x_3, x_4, x_5, x_yes, x_sz, f_nil, f_cons, f_1, f_nx, f_ct, f_bk, f_rt, e_at, k_at2, k_at3, e_rs, k_rs, k_rs1, k_rs2, ao_nil, ao_t, ao_c, e_mt, k_mt, k_mt1, k_mt2, k_mt3, e_rep, k_rep, e_lam, k_lamx, k_lam, y_kn, y_kv, y_k0, y_kl, y_kd, y_on, y_ot, y_of, y_oe, y_ln, y_lt, y_lf, y_le, y_mt, y_mf, y_me, y_mn, y_told, y_non, y_val, List.length_cons, List.length_nil, List.cons_append, List.nil_append, List.take_succ_cons, List.take_zero, Bool.false_eq_true, reduceIte, sz_lit, Nat.reduceAdd, Nat.reduceLeDiff, Nat.reduceLT, Nat.zero_add, Bool.not_true, Bool.not_false, o_ci, o_addI, o_sub, o_neg, o_int, o_intB, o_min, o_max, o_aug, o_lenL, o_lenT, o_tupL, o_tupT, o_listL, o_listT, o_s10L, o_s10T, o_s01L, o_s01T, o_s11L, o_s11T, o_eqI, o_neI, o_eqS, o_neS, o_isB, o_isNotB, o_isN, o_isNotN, u_dT, u_dF, u_non, u_bl, u_int, u_tup, u_lst, rg, ↓q1, er]
end
theorem lap_ok {cs : List Int} {n lap : Int} {s : PS} {c : D} {x3 x4 x5 x6 x7 x8 x9 x10 : Option O} {x11 : Option D} {x12 x13 x14 x15 : Option O} (g : PenG cs n s) (hn : n < 1000000) : ∃ (s' : PS) (y3 y4 y5 y6 y7 y8 y9 y10 : Option O) (y11 : Option D) (y12 y13 y14 y15 : Option O), PenG cs (n + 20000) s' ∧ lapB [sv c, pf cs s, sv (.int lap), sx x3, sx x4, sx x5, sx x6, sx x7, sx x8, sx x9, sx x10, sx (x11.map O.v), sx x12, sx x13, sx x14, sx x15, no, no] = some (.ok (.nx, [sv c, pf cs s', sv (.int lap), sx y3, sx y4, sx y5, sx y6, sx y7, sx y8, sx y9, sx y10, sx (y11.map O.v), sx y12, sx y13, sx y14, sx y15, no, no])) := by
  obtain ⟨s1, p, m, k, Ls, g1, dr, e1⟩ := partA (c := c) (lap := lap) (x3 := x3) (x4 := x4) (x5 := x5) (x6 := x6) (x7 := x7) (x8 := x8) (x9 := x9) (x10 := x10) (x11 := x11) (x12 := x12) (x13 := x13) (x14 := x14) (x15 := x15) g hn
  obtain ⟨y11, y12, e2⟩ := partB (cs := cs) (lap := lap) (s := s1) (c := c) (x11 := x11) (x12 := x12) (x13 := x13) (x14 := x14) (x15 := x15) dr
  obtain ⟨s2, y13, y14, y15, g2, e3⟩ := partC (ts := lets Ls m) (ks := Ls.map kc) (lap := lap) (c := c) (x11 := y11.map O.v) (x12 := y12) (x13 := x13) (x14 := x14) (x15 := x15) dr g1 (by omega)
  exact ⟨s2, some (.v (t4 p (.tup Ls) (.int m) (.int k))), some (.v (lob p (.tup Ls) (.int m) (.int k) (lets Ls m))), some (.v (.int p)), some (.v (.tup Ls)), some (.v (.int m)), some (.v (.int k)), some (.l (lets Ls m)), some (.l (Ls.map kc)), y11, y12, y13, y14, y15, g2.mono (by omega), ((e1 _).trans (e2 _)).trans e3⟩
theorem law_true (ns : List Int) (hl : ns.length ≤ 63) (hb : ∀ z ∈ ns, PySem.Builtin.Int.intBits z ≤ 1048576) : ∃ e, v_law [⟨false, some (.v (.lst (ns.map D.int)))⟩] = some (.ok (.v (.bl true), e)) := by
  obtain ⟨s, g, e0⟩ := pen_g (A := 151) (N := 1000001501) (by decide) (by decide) false ns
  rw [← pen_is] at e0
  have mn : ∃ N : Nat, N ≤ 10 ∧ (6 + (if ((ns.map D.int).length : Int) < 4 then ((ns.map D.int).length : Int) else 4)) = N := by
    rw [List.length_map]
    by_cases h : (ns.length : Int) < 4
    · rw [if_pos h]
      exact ⟨6 + ns.length, by omega, by omega⟩
    · rw [if_neg h]
      exact ⟨10, by omega, by omega⟩
  obtain ⟨N, hN, hm⟩ := mn
  obtain ⟨env', q1, s', x2, y3, y4, y5, y6, y7, y8, y9, y10, y11, y12, y13, y14, y15, rfl, _⟩ := goFor_rng (t := tgName 2) (b := lapB) (fun j env => ∃ (s : PS) (x2 x3 x4 x5 x6 x7 x8 x9 x10 : Option O) (x11 : Option D) (x12 x13 x14 x15 : Option O), env = [sv (.lst (ns.map D.int)), pf ns s, sx x2, sx x3, sx x4, sx x5, sx x6, sx x7, sx x8, sx x9, sx x10, sx (x11.map O.v), sx x12, sx x13, sx x14, sx x15, no, no] ∧ PenG ns (0 + 20000 * j) s) N (fun i hi env ⟨s, x2, x3, x4, x5, x6, x7, x8, x9, x10, x11, x12, x13, x14, x15, he, g⟩ => by
    subst he
    obtain ⟨s', y3, y4, y5, y6, y7, y8, y9, y10, y11, y12, y13, y14, y15, g', e⟩ := lap_ok (lap := (i : Int)) (c := .lst (ns.map D.int)) (x3 := x3) (x4 := x4) (x5 := x5) (x6 := x6) (x7 := x7) (x8 := x8) (x9 := x9) (x10 := x10) (x11 := x11) (x12 := x12) (x13 := x13) (x14 := x14) (x15 := x15) g (by omega)
    exact ⟨[sv (.lst (ns.map D.int)), pf ns s, sv (.int i), sx x3, sx x4, sx x5, sx x6, sx x7, sx x8, sx x9, sx x10, sx (x11.map O.v), sx x12, sx x13, sx x14, sx x15, no, no], _, rfl, .inl e, s', _, _, _, _, _, _, _, _, _, y11, _, _, _, _, rfl, g'.mono (by omega)⟩) [sv (.lst (ns.map D.int)), pf ns s, no, no, no, no, no, no, no, no, no, no, no, no, no, no, no, no] ⟨s, none, none, none, none, none, none, none, none, none, none, none, none, none, none, rfl, g.mono (by omega)⟩
  have rg : sR1 [.int (N : Int)] = some (rng 0 N 1) := by
    have := r_1 (a := (N : Int)) (in62_ok (by omega))
    rwa [Int.toNat_natCast] at this
  refine ⟨[sv (.lst (ns.map D.int))], ?_⟩
  show v_law [sv (.lst (ns.map D.int))] = _
  unfold v_law
  rw [e_fn (n := 1) rfl]
  show M.bind (b_law [sv (.lst (ns.map D.int)), no, no, no, no, no, no, no, no, no, no, no, no, no, no, no, no, no]) (kFn 1) = _
  simp (config := { implicitDefEqProofs := false }) only [b_law, b_ok, b_ex, b_ret, w_g0, w_g1, w_s0, w_s1, z_v, z_l, e_lit, e_rd, k_rd, e_mv, k_mv, e_fz, k_fz, e_nil, e_ex, k_ex, k_ex1, e_exI, k_exI, e_sl, k_sl, k_sl1, w_nil, w_t, w_s, w_vw, w_c, e_op, k_op, k_op2, k_op3, e_b, k_b, e_tr, k_tr, k_tr2, k_tr3, e_andT, k_andT, e_orT, k_orT, e_notT, k_notT, e_and, k_and, k_and3, e_or, k_or, k_or3, e_not, k_not, e_if, k_if, e_ch, k_ch1, k_ch2, k_ch3, a_nil, a_t, a_c, e_tup, k_tup, k_tup2, e_lst, k_lst, k_lst2, e_then, k_then, k_thenr, e_drop, k_drop, e_rt, k_rt, e_rtN, e_nx, e_ifS, k_ifS, e_set, k_set, k_set2, e_asg, k_asg, k_asg2, t_name, t_name2, t_nil, t_cons, t_cons2, t_tup, e_par, k_par, k_par2, l_nil, l_t, l_s, l_v, l_l, l_d, l_o, l_c, gb_nil, gb_t, gb_f, gb_s, gb_s2, gb_n, e_call, k_call, k_call1, k_call2, k_call3, e_fn, k_fn, k_fnN, e_seq, k_seqL, k_seqv, k_seqt, e_src, k_src, k_src2, k_src3, e_for, k_for, n_ok, p_nil, p_cons, p_k, p_no, p_v, q_nil, q_cons, q_no, q_v, e_lc, k_lc, k_lc2, k_lc3, k_lc4, e_ld, k_ld, k_ld2, x_nil, x_cons, x_1, x_2, x_3, x_4, x_5, x_yes, x_sz, f_nil, f_cons, f_1, f_nx, f_ct, f_bk, f_rt, e_at, k_at2, k_at3, e_rs, k_rs, k_rs1, k_rs2, ao_nil, ao_t, ao_c, e_mt, k_mt, k_mt1, k_mt2, k_mt3, e_rep, k_rep, e_lam, k_lamx, k_lam, y_kn, y_kv, y_k0, y_kl, y_kd, y_on, y_ot, y_of, y_oe, y_ln, y_lt, y_lf, y_le, y_mt, y_mf, y_me, y_mn, y_told, y_non, y_val, List.length_cons, List.length_nil, List.cons_append, List.nil_append, List.take_succ_cons, List.take_zero, Bool.false_eq_true, reduceIte, sz_lit, Nat.reduceAdd, Nat.reduceLeDiff, Nat.reduceLT, Nat.zero_add, Bool.not_true, Bool.not_false, o_ci, o_addI, o_sub, o_neg, o_int, o_intB, o_min, o_max, o_aug, o_lenL, o_lenT, o_tupL, o_tupT, o_listL, o_listT, o_s10L, o_s10T, o_s01L, o_s01T, o_s11L, o_s11T, o_eqI, o_neI, o_eqS, o_neS, o_isB, o_isNotB, o_isN, o_isNotN, u_dT, u_dF, u_non, u_bl, u_int, u_tup, u_lst, e0, hm, rg, ↓q1]
end Lw

set_option Elab.async false
set_option linter.all false
set_option maxRecDepth 100000
set_option maxHeartbeats 4000000
namespace Lw
open PySem PySem.Spec L2 Vi
open PyProof.Rows hiding St
abbrev Pr : Program := PySem.Challenge.rw_believedruns_k39_whole_layers_judged.prog
def top (i : Nat) : Stmt := Pr.main.body.getD i (.Pass ⟨0, 0, 0, 0⟩)
abbrev s_is_whole : Stmt := top 11
abbrev s_is_count : Stmt := top 12
abbrev s_is_prime : Stmt := top 15
abbrev s_is_rest_in : Stmt := top 16
abbrev s_letters_in : Stmt := top 17
abbrev s_is_layer_gate : Stmt := top 20
abbrev s_are_layers : Stmt := top 21
abbrev s_is_layers : Stmt := top 23
abbrev s_need_layers : Stmt := top 24
abbrev s_layers_told : Stmt := top 25
abbrev s_same_layers : Stmt := top 26
abbrev s_of_kind : Stmt := top 27
abbrev s_kind_counts : Stmt := top 28
abbrev s_draw_count : Stmt := top 29
abbrev s__law_new_layers : Stmt := top 31
abbrev s__law_ask_layers : Stmt := top 32
abbrev s__law_pen : Stmt := top 33
abbrev s__law_draw : Stmt := top 34
abbrev s__law_pick : Stmt := top 35
abbrev s__law_error : Stmt := top 36
abbrev s__law_layers : Stmt := top 37
abbrev s__law_is_number : Stmt := top 38
abbrev s__law_is_gate : Stmt := top 39
abbrev s__law_are : Stmt := top 40
abbrev s__law_letters : Stmt := top 41
abbrev s__law_bent : Stmt := top 42
abbrev s__law_errors_right : Stmt := top 43
abbrev s_law : Stmt := top 44
abbrev s_BadText : Stmt := (clsBody (top 2)).getD 0 (.Pass ⟨0, 0, 0, 0⟩)
abbrev s_BadNumber : Stmt := (clsBody (top 3)).getD 0 (.Pass ⟨0, 0, 0, 0⟩)
abbrev s_BadName : Stmt := (clsBody (top 4)).getD 0 (.Pass ⟨0, 0, 0, 0⟩)
abbrev s_BadProgram : Stmt := (clsBody (top 5)).getD 0 (.Pass ⟨0, 0, 0, 0⟩)
abbrev s_BadInputs : Stmt := (clsBody (top 6)).getD 0 (.Pass ⟨0, 0, 0, 0⟩)
abbrev s_BadGates : Stmt := (clsBody (top 7)).getD 0 (.Pass ⟨0, 0, 0, 0⟩)
abbrev s_BadLayers : Stmt := (clsBody (top 8)).getD 0 (.Pass ⟨0, 0, 0, 0⟩)
abbrev s_BadReceipt : Stmt := (clsBody (top 9)).getD 0 (.Pass ⟨0, 0, 0, 0⟩)
abbrev s_NotKept : Stmt := (clsBody (top 10)).getD 0 (.Pass ⟨0, 0, 0, 0⟩)
abbrev s_Layers : Stmt := (clsBody (top 22)).getD 0 (.Pass ⟨0, 0, 0, 0⟩)
abbrev FnP (K : PySem.W.Frag) (x : Str) (st : Stmt) (f : Addr) : Prop := ∃ fd : FuncData, FunD K x x (defArgs st) (defBody st) (defScope st) [] [] f fd
structure Lk (P : Program) (w : World) (K : PySem.W.Frag) (mg : Str → Option Value) (base : Heap) (G : Gt) : Prop where
  ao : AccOk G K acc
  b_all : mg "all" = none
  b_bool : mg "bool" = none
  b_int : mg "int" = none
  b_isinstance : mg "isinstance" = none
  b_len : mg "len" = none
  b_list : mg "list" = none
  b_min : mg "min" = none
  b_range : mg "range" = none
  b_repr : mg "repr" = none
  b_str : mg "str" = none
  b_sum : mg "sum" = none
  b_tuple : mg "tuple" = none
  b_zip : mg "zip" = none
  g_is_whole : mg "is_whole" = some (.ref (G.fn 0))
  d_is_whole : FnP K "is_whole" s_is_whole (G.fn 0)
  g_is_count : mg "is_count" = some (.ref (G.fn 1))
  d_is_count : FnP K "is_count" s_is_count (G.fn 1)
  g_is_prime : mg "is_prime" = some (.ref (G.fn 2))
  d_is_prime : FnP K "is_prime" s_is_prime (G.fn 2)
  g_is_rest_in : mg "is_rest_in" = some (.ref (G.fn 3))
  d_is_rest_in : FnP K "is_rest_in" s_is_rest_in (G.fn 3)
  g_letters_in : mg "letters_in" = some (.ref (G.fn 4))
  d_letters_in : FnP K "letters_in" s_letters_in (G.fn 4)
  g_is_layer_gate : mg "is_layer_gate" = some (.ref (G.fn 5))
  d_is_layer_gate : FnP K "is_layer_gate" s_is_layer_gate (G.fn 5)
  g_are_layers : mg "are_layers" = some (.ref (G.fn 6))
  d_are_layers : FnP K "are_layers" s_are_layers (G.fn 6)
  g_is_layers : mg "is_layers" = some (.ref (G.fn 7))
  d_is_layers : FnP K "is_layers" s_is_layers (G.fn 7)
  g_need_layers : mg "need_layers" = some (.ref (G.fn 8))
  d_need_layers : FnP K "need_layers" s_need_layers (G.fn 8)
  g_layers_told : mg "layers_told" = some (.ref (G.fn 9))
  d_layers_told : FnP K "layers_told" s_layers_told (G.fn 9)
  g_same_layers : mg "same_layers" = some (.ref (G.fn 10))
  d_same_layers : FnP K "same_layers" s_same_layers (G.fn 10)
  g_of_kind : mg "of_kind" = some (.ref (G.fn 11))
  d_of_kind : FnP K "of_kind" s_of_kind (G.fn 11)
  g_kind_counts : mg "kind_counts" = some (.ref (G.fn 12))
  d_kind_counts : FnP K "kind_counts" s_kind_counts (G.fn 12)
  g_draw_count : mg "draw_count" = some (.ref (G.fn 13))
  d_draw_count : FnP K "draw_count" s_draw_count (G.fn 13)
  g__law_new_layers : mg "_law_new_layers" = some (.ref (G.fn 14))
  d__law_new_layers : FnP K "_law_new_layers" s__law_new_layers (G.fn 14)
  g__law_ask_layers : mg "_law_ask_layers" = some (.ref (G.fn 15))
  d__law_ask_layers : FnP K "_law_ask_layers" s__law_ask_layers (G.fn 15)
  g__law_pen : mg "_law_pen" = some (.ref (G.fn 16))
  d__law_pen : FnP K "_law_pen" s__law_pen (G.fn 16)
  g__law_draw : mg "_law_draw" = some (.ref (G.fn 17))
  d__law_draw : FnP K "_law_draw" s__law_draw (G.fn 17)
  g__law_pick : mg "_law_pick" = some (.ref (G.fn 18))
  d__law_pick : FnP K "_law_pick" s__law_pick (G.fn 18)
  g__law_error : mg "_law_error" = some (.ref (G.fn 19))
  d__law_error : FnP K "_law_error" s__law_error (G.fn 19)
  g__law_layers : mg "_law_layers" = some (.ref (G.fn 20))
  d__law_layers : FnP K "_law_layers" s__law_layers (G.fn 20)
  g__law_is_number : mg "_law_is_number" = some (.ref (G.fn 21))
  d__law_is_number : FnP K "_law_is_number" s__law_is_number (G.fn 21)
  g__law_is_gate : mg "_law_is_gate" = some (.ref (G.fn 22))
  d__law_is_gate : FnP K "_law_is_gate" s__law_is_gate (G.fn 22)
  g__law_are : mg "_law_are" = some (.ref (G.fn 23))
  d__law_are : FnP K "_law_are" s__law_are (G.fn 23)
  g__law_letters : mg "_law_letters" = some (.ref (G.fn 24))
  d__law_letters : FnP K "_law_letters" s__law_letters (G.fn 24)
  g__law_bent : mg "_law_bent" = some (.ref (G.fn 25))
  d__law_bent : FnP K "_law_bent" s__law_bent (G.fn 25)
  g__law_errors_right : mg "_law_errors_right" = some (.ref (G.fn 26))
  t__law_errors_right : FunT K mg base G "_law_errors_right" "_law_errors_right" (lq "_law_errors_right") (defArgs s__law_errors_right) (defBody s__law_errors_right) (defScope s__law_errors_right) (G.fn 26)
  g_law : mg "law" = some (.ref (G.fn 27))
  t_law : FunT K mg base G "law" "law" (lq "law") (defArgs s_law) (defBody s_law) (defScope s_law) (G.fn 27)
  f_RunError : XfC K (G.cls 0)
  f_BadText : XfC K (G.cls 1)
  n_BadText_column : PySem.W.findIn K (.ref (G.cls 1)) "column" = some none
  n_BadText_line : PySem.W.findIn K (.ref (G.cls 1)) "line" = some none
  f_BadNumber : XfC K (G.cls 2)
  n_BadNumber_number : PySem.W.findIn K (.ref (G.cls 2)) "number" = some none
  n_BadNumber_what : PySem.W.findIn K (.ref (G.cls 2)) "what" = some none
  f_BadName : XfC K (G.cls 3)
  n_BadName_name : PySem.W.findIn K (.ref (G.cls 3)) "name" = some none
  f_BadProgram : XfC K (G.cls 4)
  n_BadProgram_program : PySem.W.findIn K (.ref (G.cls 4)) "program" = some none
  f_BadInputs : XfC K (G.cls 5)
  n_BadInputs_inputs : PySem.W.findIn K (.ref (G.cls 5)) "inputs" = some none
  f_BadGates : XfC K (G.cls 6)
  n_BadGates_gates : PySem.W.findIn K (.ref (G.cls 6)) "gates" = some none
  f_BadLayers : XfC K (G.cls 7)
  n_BadLayers_layers : PySem.W.findIn K (.ref (G.cls 7)) "layers" = some none
  f_BadReceipt : XfC K (G.cls 8)
  n_BadReceipt_receipt : PySem.W.findIn K (.ref (G.cls 8)) "receipt" = some none
  f_NotKept : XfC K (G.cls 9)
  n_NotKept_promise : PySem.W.findIn K (.ref (G.cls 9)) "promise" = some none
  n_NotKept_witness : PySem.W.findIn K (.ref (G.cls 9)) "witness" = some none
  e_ok : ∀ p ∈ subL, PySem.W.exmOne K (.ref (G.cls p.1.1)) (.ref (G.cls p.1.2)) = some p.2
  c_RunError : mg "RunError" = some (.ref (G.cls 0))
  c_BadText : mg "BadText" = some (.ref (G.cls 1))
  c_BadNumber : mg "BadNumber" = some (.ref (G.cls 2))
  c_BadName : mg "BadName" = some (.ref (G.cls 3))
  c_BadProgram : mg "BadProgram" = some (.ref (G.cls 4))
  c_BadInputs : mg "BadInputs" = some (.ref (G.cls 5))
  c_BadGates : mg "BadGates" = some (.ref (G.cls 6))
  c_BadLayers : mg "BadLayers" = some (.ref (G.cls 7))
  x_BadLayers : Xc P w K mg base G "BadLayers" 7 fs_BadLayers
  c_BadReceipt : mg "BadReceipt" = some (.ref (G.cls 8))
  c_NotKept : mg "NotKept" = some (.ref (G.cls 9))
  c_Layers : mg "Layers" = some (.ref (G.cls 10))
  i_Layers : IsiOk G K (.ref (G.cls 10)) tab_Layers
  d_Layers : ∃ (f : Addr) (fd : FuncData), Mk K (G.cls 10) f ∧ FunD K "__init__" "Layers.__init__" (defArgs s_Layers) (defBody s_Layers) (defScope s_Layers) [] [] f fd
  m_MOST : ∃ t, mg "MOST" = some (.int 999999937 t)
  m_KINDS : ∃ a : Addr, mg "KINDS" = some (.ref a) ∧ ∀ F, Rep G K F (.ref a) c_KINDS
section
variable {P : Program} {w : World} {K : PySem.W.Frag} {mg : Str → Option Value} {base : Heap} {G : Gt}
theorem sc__law_error : FnScope ["call", "e"] ["call"] (defScope s__law_error) := ⟨rfl, rfl, rfl, by decide +kernel, rfl, by decide +kernel, by decide +kernel⟩
theorem E__law_error (L : Lk P w K mg base G) : Er P w K mg base G "_law_error" 19 subs ks__law_error md__law_error := by
  obtain ⟨fd, D⟩ := L.d__law_error
  refine ⟨L.g__law_error, "call", _, _, _, fd, ["call", "e"], D, fd_binds D (by decide +kernel), sc__law_error, .inl rfl, rfl, by decide, by decide, fun X q cdg e1 e2 e3 e4 e5 => ?_⟩
  subst e1 e2 e3 e4 e5
  exact gives_told (i := 1) (sub_ok L.e_ok) sc__law_error.nd rfl (by decide) (fun _ _ => rfl) (fun _ => rfl) fun s H hgd hun => (.lst (c := 6) (nm := true) ⟨rfl, by decide, .inl L.c_BadGates⟩ (su_str (su_fld L.f_BadGates L.n_BadGates_gates rfl (.inl rfl) su_nil)) (.lst (c := 7) (nm := true) ⟨rfl, by decide, .inl L.c_BadLayers⟩ (su_str (su_fld L.f_BadLayers L.n_BadLayers_layers rfl (.inl rfl) su_nil)) (.lst (c := 4) (nm := true) ⟨rfl, by decide, .inl L.c_BadProgram⟩ (su_str (su_fld L.f_BadProgram L.n_BadProgram_program rfl (.inl rfl) su_nil)) (.lst (c := 5) (nm := true) ⟨rfl, by decide, .inl L.c_BadInputs⟩ (su_str (su_fld L.f_BadInputs L.n_BadInputs_inputs rfl (.inl rfl) su_nil)) (.lst (c := 8) (nm := true) ⟨rfl, by decide, .inl L.c_BadReceipt⟩ (su_str (su_fld L.f_BadReceipt L.n_BadReceipt_receipt rfl (.inl rfl) su_nil)) (.lst (c := 2) (nm := true) ⟨rfl, by decide, .inl L.c_BadNumber⟩ (su_str (su_fld L.f_BadNumber L.n_BadNumber_what rfl (.inl rfl) (su_fld L.f_BadNumber L.n_BadNumber_number rfl (.inl rfl) su_nil))) (.lst (c := 3) (nm := true) ⟨rfl, by decide, .inl L.c_BadName⟩ (su_str (su_fld L.f_BadName L.n_BadName_name rfl (.inl rfl) su_nil)) (.lst (c := 1) (nm := true) ⟨rfl, by decide, .inl L.c_BadText⟩ (su_str (su_fld L.f_BadText L.n_BadText_line rfl (.inl rfl) (su_fld L.f_BadText L.n_BadText_column rfl (.inl rfl) su_nil))) (.lst (c := 9) (nm := true) ⟨rfl, by decide, .inl L.c_NotKept⟩ (su_str (su_fld L.f_NotKept L.n_NotKept_promise rfl (.inl rfl) (su_fld L.f_NotKept L.n_NotKept_witness rfl (.inl rfl) su_nil))) (.lst (c := 0) (nm := false) ⟨rfl, by decide, .inl L.c_RunError⟩ (su_str su_nil) .nil))))))))))
theorem sc_is_whole : FnScope ["value"] ["value"] (defScope s_is_whole) := ⟨rfl, rfl, rfl, by decide +kernel, rfl, by decide +kernel, by decide +kernel⟩
theorem F_is_whole (L : Lk P w K mg base G)  : Fn P w K mg base G 1 "is_whole" 0 1 v_is_whole := by
  obtain ⟨fd, D⟩ := L.d_is_whole
  exact fn_mk (N := ["value"]) (ps := ["value"]) (m := 0) D sc_is_whole rfl rfl (by decide +kernel) L.g_is_whole fun cdv A outer s H E hr ck => (css_one (cs_ret (ce_and (ce_isi isi_int (.ty _) (co_sl (i := 0) rfl (.inl rfl)) (pe_bltn rfl L.b_int (by decide +kernel) rfl) rfl L.b_isinstance) (ce_one (ce_not (co_ex (ce_isi isi_bool (.ty _) (co_sl (i := 0) rfl (.inl rfl)) (pe_bltn rfl L.b_bool (by decide +kernel) rfl) rfl L.b_isinstance)))))))
theorem sc_is_count : FnScope ["value"] ["value"] (defScope s_is_count) := ⟨rfl, rfl, rfl, by decide +kernel, rfl, by decide +kernel, by decide +kernel⟩
theorem F_is_count (L : Lk P w K mg base G) (F_is_whole : Fn P w K mg base G 1 "is_whole" 0 1 v_is_whole) : Fn P w K mg base G 2 "is_count" 1 1 v_is_count := by
  obtain ⟨fd, D⟩ := L.d_is_count
  exact fn_mk (N := ["value"]) (ps := ["value"]) (m := 0) D sc_is_count rfl rfl (by decide +kernel) L.g_is_count fun cdv A outer s H E hr ck => (css_one (cs_ret (ce_and (ce_fn (k := 1) F_is_whole hr (by decide) ck rfl (ca_cons (co_sl (i := 0) rfl (.inl rfl)) ca_nil)) (ce_one (ce_cmp op_ge ok_CI (co_sl (i := 0) rfl (.inl rfl)) (co_ex ce_int))))))
theorem sc_is_prime : FnScope ["value", "part"] ["value"] (defScope s_is_prime) := ⟨rfl, rfl, rfl, by decide +kernel, rfl, by decide +kernel, by decide +kernel⟩
theorem F_is_prime (L : Lk P w K mg base G) (F_is_count : Fn P w K mg base G 2 "is_count" 1 1 v_is_count) : Fn P w K mg base G 3 "is_prime" 2 1 v_is_prime := by
  obtain ⟨fd, D⟩ := L.d_is_prime
  exact fn_mk (N := ["value", "part"]) (ps := ["value"]) (m := 1) D sc_is_prime rfl rfl (by decide +kernel) L.g_is_prime fun cdv A outer s H E hr ck => (css_cons (cs_if (ct_w (cw_or (ct_not (ct_tr (co_ex (ce_fn (k := 2) F_is_count hr (by decide) ck rfl (ca_cons (co_sl (i := 0) rfl (.inl rfl)) ca_nil))))) (cw_or (ct_not (ct_chain op_le op_le ce_int (ce_rd (i := 0) rfl (.inl rfl)) (ce_gloI rfl L.m_MOST))) (cw_or (ct_cmp (op_eqq ck.u64) ok_eq (co_ex (ce_bin op_modV ok_mod (co_sl (i := 0) rfl (.inl rfl)) (co_ex ce_int))) (co_ex ce_int)) (cw_or1 (ct_cmp (op_eqq ck.u64) ok_eq (co_ex (ce_bin op_modV ok_mod (co_sl (i := 0) rfl (.inl rfl)) (co_ex ce_int))) (co_ex ce_int))))))) (css_one (cs_ret ce_bl)) css_nil) (css_cons (cs_set (i := 1) ck.nd rfl (.inl rfl) ce_int) (css_cons (cs_while fuel_is_prime (passes_of rfl) (ct_cmp op_le ok_CI (co_ex (ce_bin op_mulV ok_mulV (co_sl (i := 1) rfl (.inl rfl)) (co_sl (i := 1) rfl (.inl rfl)))) (co_sl (i := 0) rfl (.inl rfl))) (css_cons (cs_if (ct_w (cw_or (ct_cmp (op_eqq ck.u64) ok_eq (co_ex (ce_bin op_modV ok_mod (co_sl (i := 0) rfl (.inl rfl)) (co_sl (i := 1) rfl (.inl rfl)))) (co_ex ce_int)) (cw_or1 (ct_cmp (op_eqq ck.u64) ok_eq (co_ex (ce_bin op_modV ok_mod (co_sl (i := 0) rfl (.inl rfl)) (co_ex (ce_bin op_addV ok_add (co_sl (i := 1) rfl (.inl rfl)) (co_ex ce_int))))) (co_ex ce_int))))) (css_one (cs_ret ce_bl)) css_nil) (css_one (cs_aug (i := 1) ck.nd rfl (.inl rfl) ce_int ip_add ok_augAdd)))) (css_one (cs_ret ce_bl)))))
theorem sc_is_rest_in : FnScope ["p", "value"] ["p", "value"] (defScope s_is_rest_in) := ⟨rfl, rfl, rfl, by decide +kernel, rfl, by decide +kernel, by decide +kernel⟩
theorem F_is_rest_in (L : Lk P w K mg base G) (F_is_count : Fn P w K mg base G 2 "is_count" 1 1 v_is_count) : Fn P w K mg base G 3 "is_rest_in" 3 2 v_is_rest_in := by
  obtain ⟨fd, D⟩ := L.d_is_rest_in
  exact fn_mk (N := ["p", "value"]) (ps := ["p", "value"]) (m := 0) D sc_is_rest_in rfl rfl (by decide +kernel) L.g_is_rest_in fun cdv A outer s H E hr ck => (css_one (cs_ret (ce_and (ce_fn (k := 2) F_is_count hr (by decide) ck rfl (ca_cons (co_sl (i := 1) rfl (.inl rfl)) ca_nil)) (ce_one (ce_cmp op_lt ok_CI (co_sl (i := 1) rfl (.inl rfl)) (co_sl (i := 0) rfl (.inl rfl)))))))
theorem sc_letters_in : FnScope ["n", "found", "corners"] ["n"] (defScope s_letters_in) := ⟨rfl, rfl, rfl, by decide +kernel, rfl, by decide +kernel, by decide +kernel⟩
theorem F_letters_in (L : Lk P w K mg base G)  : Fn P w K mg base G 1 "letters_in" 4 1 v_letters_in := by
  obtain ⟨fd, D⟩ := L.d_letters_in
  exact fn_mk (N := ["n", "found", "corners"]) (ps := ["n"]) (m := 2) D sc_letters_in rfl rfl (by decide +kernel) L.g_letters_in fun cdv A outer s H E hr ck => (css_cons (cs_asg (ce_tup (ca_cons (co_ex ce_int) (ca_cons (co_ex ce_int) ca_nil))) (cg_tup rfl (cgs_cons (cg_name ck.nd rfl (.inl rfl)) (cgs_cons (cg_name ck.nd rfl (.inl rfl)) cgs_nil)) (tn_cons (tn_cons tn_nil)))) (css_cons (cs_while fuel_letters_in (passes_of rfl) (ct_cmp op_lt ok_CI (co_sl (i := 2) rfl (.inl rfl)) (co_sl (i := 0) rfl (.inl rfl))) (css_one (cs_par (i := 1) (j := 2) rfl ck rfl rfl (by decide) rfl rfl (ca_cons (co_ex (ce_bin op_addV ok_add (co_sl (i := 1) rfl (.inl rfl)) (co_ex ce_int))) (ca_cons (co_ex (ce_bin op_mulV ok_mulV (co_ex ce_int) (co_sl (i := 2) rfl (.inl rfl)))) ca_nil)) rfl))) (css_one (cs_ret (ce_mv (i := 1) rfl (.inl rfl))))))
theorem sc_is_layer_gate : FnScope ["prime", "value", "many", "place"] ["prime", "value", "many"] (defScope s_is_layer_gate) := ⟨rfl, rfl, rfl, by decide +kernel, rfl, by decide +kernel, by decide +kernel⟩
theorem F_is_layer_gate (L : Lk P w K mg base G) (F_is_count : Fn P w K mg base G 2 "is_count" 1 1 v_is_count) (F_is_rest_in : Fn P w K mg base G 3 "is_rest_in" 3 2 v_is_rest_in) : Fn P w K mg base G 4 "is_layer_gate" 5 3 v_is_layer_gate := by
  obtain ⟨fd, D⟩ := L.d_is_layer_gate
  exact fn_mk (N := ["prime", "value", "many", "place"]) (ps := ["prime", "value", "many"]) (m := 1) D sc_is_layer_gate rfl rfl (by decide +kernel) L.g_is_layer_gate fun cdv A outer s H E hr ck => (css_cons (cs_if (ct_w (cw_or (ct_not (ct_tr (co_ex (ce_isi isi_tuple (.ty _) (co_sl (i := 1) rfl (.inl rfl)) (pe_bltn rfl L.b_tuple (by decide +kernel) rfl) rfl L.b_isinstance)))) (cw_or (ct_not (ct_tr (co_sl (i := 1) rfl (.inl rfl)))) (cw_or (ct_not (ct_tr (co_ex (ce_isi isi_str (.ty _) (co_ex (ce_ix ck (co_sl (i := 1) rfl (.inl rfl)) (co_ex ce_int))) (pe_bltn rfl L.b_str (by decide +kernel) rfl) rfl L.b_isinstance)))) (cw_or1 (ct_cmp op_notIn_seq ok_notIn (co_ex (ce_ix ck (co_sl (i := 1) rfl (.inl rfl)) (co_ex ce_int))) (co_ex (ce_gloD rfl L.m_KINDS)))))))) (css_one (cs_ret ce_bl)) css_nil) (css_cons (cs_if (ct_cmp (op_eqq ck.u64) ok_eq (co_ex (ce_ix ck (co_sl (i := 1) rfl (.inl rfl)) (co_ex ce_int))) (co_ex ce_str)) (css_one (cs_ret (ce_and (ce_cmp (op_eqq ck.u64) ok_eq (co_ex (ce_bfn call_len ok_len rfl L.b_len (by decide +kernel) (ca_cons (co_sl (i := 1) rfl (.inl rfl)) ca_nil))) (co_ex ce_int)) (ce_one (ce_fn (k := 3) F_is_rest_in hr (by decide) ck rfl (ca_cons (co_sl (i := 0) rfl (.inl rfl)) (ca_cons (co_ex (ce_ix ck (co_sl (i := 1) rfl (.inl rfl)) (co_ex ce_int))) ca_nil))))))) css_nil) (css_cons (cs_if (ct_cmp (op_neq ck.u64) ok_ne (co_ex (ce_bfn call_len ok_len rfl L.b_len (by decide +kernel) (ca_cons (co_sl (i := 1) rfl (.inl rfl)) ca_nil))) (co_ex (ce_if (ct_cmp (op_eqq ck.u64) ok_eq (co_ex (ce_ix ck (co_sl (i := 1) rfl (.inl rfl)) (co_ex ce_int))) (co_ex ce_str)) ce_int ce_int))) (css_one (cs_ret ce_bl)) css_nil) (css_one (cs_ret (ce_bfn (cr_allM rfl) ok_allM rfl L.b_all (by decide +kernel) (ca_cons (co_ex (ce_lc (own := [("place", 3)]) (ws := [3]) rfl ck (ci_seq (ce_s10 (co_sl (i := 1) rfl (.inl rfl)) ce_int)) (blkOk_by rfl) (by decide) (by decide) (fun s H C cl fp => (cg_name ck.blk.nd rfl (.inl rfl))) (fun s H C cl fp => cts_nil) (fun s H C cl fp => (ce_and (ce_fn (k := 2) F_is_count hr (by decide) ck.blk rfl (ca_cons (co_sl (i := 3) rfl (.inl rfl)) ca_nil)) (ce_one (ce_cmp op_lt ok_CI (co_sl (i := 3) rfl (.inl rfl)) (co_sl (i := 2) rfl (.inr (.inl rfl))))))))) ca_nil)))))))
theorem sc_are_layers : FnScope ["prime", "layers", "inputs", "outputs", "behind", "number", "layer", "many", "gate"] ["prime", "layers", "inputs", "outputs"] (defScope s_are_layers) := ⟨rfl, rfl, rfl, by decide +kernel, rfl, by decide +kernel, by decide +kernel⟩
theorem F_are_layers (L : Lk P w K mg base G) (F_is_count : Fn P w K mg base G 2 "is_count" 1 1 v_is_count) (F_is_layer_gate : Fn P w K mg base G 4 "is_layer_gate" 5 3 v_is_layer_gate) (F_is_prime : Fn P w K mg base G 3 "is_prime" 2 1 v_is_prime) : Fn P w K mg base G 5 "are_layers" 6 4 v_are_layers := by
  obtain ⟨fd, D⟩ := L.d_are_layers
  exact fn_mk (N := ["prime", "layers", "inputs", "outputs", "behind", "number", "layer", "many", "gate"]) (ps := ["prime", "layers", "inputs", "outputs"]) (m := 5) D sc_are_layers rfl rfl (by decide +kernel) L.g_are_layers fun cdv A outer s H E hr ck => (css_cons (cs_if (ct_w (cw_or (ct_not (ct_tr (co_ex (ce_fn (k := 3) F_is_prime hr (by decide) ck rfl (ca_cons (co_sl (i := 0) rfl (.inr (.inl rfl))) ca_nil))))) (cw_or1 (ct_not (ct_tr (co_ex (ce_bfn (cr_allM rfl) ok_allM rfl L.b_all (by decide +kernel) (ca_cons (co_ex (ce_lc (own := [("number", 5)]) (ws := [5]) rfl ck (ci_seq (ce_tup (ca_cons (co_ex (ce_rd (i := 2) rfl (.inl rfl))) (ca_cons (co_ex (ce_rd (i := 3) rfl (.inl rfl))) ca_nil)))) (blkOk_by rfl) (by decide) (by decide) (fun s H C cl fp => (cg_name ck.blk.nd rfl (.inl rfl))) (fun s H C cl fp => cts_nil) (fun s H C cl fp => (ce_and (ce_fn (k := 2) F_is_count hr (by decide) ck.blk rfl (ca_cons (co_sl (i := 5) rfl (.inl rfl)) ca_nil)) (ce_one (ce_cmp op_gt ok_CI (co_sl (i := 5) rfl (.inl rfl)) (co_ex ce_int))))))) ca_nil)))))))) (css_one (cs_ret ce_bl)) css_nil) (css_cons (cs_if (ct_w (cw_or (ct_not (ct_tr (co_ex (ce_isi isi_tuple (.ty _) (co_sl (i := 1) rfl (.inl rfl)) (pe_bltn rfl L.b_tuple (by decide +kernel) rfl) rfl L.b_isinstance)))) (cw_or1 (ct_not (ct_tr (co_sl (i := 1) rfl (.inl rfl))))))) (css_one (cs_ret ce_bl)) css_nil) (css_cons (cs_if (ct_w (cw_or (ct_not (ct_tr (co_ex (ce_bfn (cr_allM rfl) ok_allM rfl L.b_all (by decide +kernel) (ca_cons (co_ex (ce_lc (own := [("layer", 6)]) (ws := [6]) rfl ck (ci_seq (ce_rd (i := 1) rfl (.inl rfl))) (blkOk_by rfl) (by decide) (by decide) (fun s H C cl fp => (cg_name ck.blk.nd rfl (.inl rfl))) (fun s H C cl fp => cts_nil) (fun s H C cl fp => (ce_and (ce_isi isi_tuple (.ty _) (co_sl (i := 6) rfl (.inl rfl)) (pe_bltn rfl L.b_tuple (by decide +kernel) rfl) rfl L.b_isinstance) (ce_one (ce_rd (i := 6) rfl (.inl rfl))))))) ca_nil))))) (cw_or1 (ct_cmp op_gt ok_CI (co_sl (i := 3) rfl (.inl rfl)) (co_ex (ce_bfn call_len ok_len rfl L.b_len (by decide +kernel) (ca_cons (co_ex (ce_ix ck (co_sl (i := 1) rfl (.inl rfl)) (co_ex ce_int))) ca_nil))))))) (css_one (cs_ret ce_bl)) css_nil) (css_cons (cs_set (i := 4) ck.nd rfl (.inl rfl) (ce_bin op_addV ok_add (co_ex (ce_lc (own := [("layer", 6)]) (ws := [6]) rfl ck (ci_seq (ce_s10 (co_sl (i := 1) rfl (.inl rfl)) ce_int)) (blkOk_by rfl) (by decide) (by decide) (fun s H C cl fp => (cg_name ck.blk.nd rfl (.inl rfl))) (fun s H C cl fp => cts_nil) (fun s H C cl fp => (ce_fz (ce_bfn call_len ok_len rfl L.b_len (by decide +kernel) (ca_cons (co_sl (i := 6) rfl (.inl rfl)) ca_nil)))))) (co_ex (ce_lst (ca_cons (co_ex (ce_rd (i := 2) rfl (.inl rfl))) ca_nil))))) (css_one (cs_ret (ce_bfn (cr_allM rfl) ok_allM rfl L.b_all (by decide +kernel) (ca_cons (co_ex (ce_lc2 (own := [("layer", 6), ("many", 7), ("gate", 8)]) (vs1 := [8]) (ws := [6, 7]) (ws1 := [8]) rfl ck (ci_zipK rfl L.b_zip (ca_cons (co_ex (ce_rd (i := 1) rfl (.inl rfl))) (ca_cons (co_ex (ce_rd (i := 4) rfl (.inl rfl))) ca_nil))) (blkOk_by rfl) (by decide) (by decide) (by decide) (by decide) (fun s H C cl fp => (cg_tup rfl (cgs_cons (cg_name ck.blk.nd rfl (.inl rfl)) (cgs_cons (cg_name ck.blk.nd rfl (.inl rfl)) cgs_nil)) (tn_cons (tn_cons tn_nil)))) (fun s H C cl fp => cts_nil) (fun s H C cl fp => (ci_seq (ce_rd (i := 6) rfl (.inl rfl)))) (fun s H C cl fp => (cg_name ck.blk.nd rfl (.inl rfl))) (fun s H C cl fp => cts_nil) (fun s H C cl fp => (ce_fz (ce_fn (k := 4) F_is_layer_gate hr (by decide) ck.blk rfl (ca_cons (co_sl (i := 0) rfl (.inr (.inl rfl))) (ca_cons (co_sl (i := 8) rfl (.inl rfl)) (ca_cons (co_sl (i := 7) rfl (.inl rfl)) ca_nil)))))))) ca_nil))))))))
theorem sc_Layers : FnScope ["self", "prime", "layers", "inputs", "outputs", "layer"] ["self", "prime", "layers", "inputs", "outputs"] (defScope s_Layers) := ⟨rfl, rfl, rfl, by decide +kernel, rfl, by decide +kernel, by decide +kernel⟩
theorem F_Layers (L : Lk P w K mg base G) (F_are_layers : Fn P w K mg base G 5 "are_layers" 6 4 v_are_layers) (F_letters_in : Fn P w K mg base G 1 "letters_in" 4 1 v_letters_in) : Cl P w K mg base G 6 10 5 v_Layers := by
  obtain ⟨f, fd, mk, D⟩ := L.d_Layers
  exact cl_mk (N := ["self", "prime", "layers", "inputs", "outputs", "layer"]) (ps := ["self", "prime", "layers", "inputs", "outputs"]) (m := 1) mk D sc_Layers rfl rfl (by decide +kernel) fun cdv A outer s H E hr ck => (css_cons (cs_if (ct_not (ct_tr (co_ex (ce_fn (k := 5) F_are_layers hr (by decide) ck rfl (ca_cons (co_sl (i := 1) rfl (.inl rfl)) (ca_cons (co_sl (i := 2) rfl (.inl rfl)) (ca_cons (co_sl (i := 3) rfl (.inl rfl)) (ca_cons (co_sl (i := 4) rfl (.inl rfl)) ca_nil)))))))) (css_one (cs_rz L.x_BadLayers rfl hr (by decide) ck rfl (ca_cons (co_ex (ce_tup (ca_cons (co_ex (ce_rd (i := 1) rfl (.inl rfl))) (ca_cons (co_ex (ce_rd (i := 2) rfl (.inl rfl))) (ca_cons (co_ex (ce_rd (i := 3) rfl (.inl rfl))) (ca_cons (co_ex (ce_rd (i := 4) rfl (.inl rfl))) ca_nil)))))) ca_nil))) css_nil) (css_cons (cs_fs (i := 0) L.ao rfl (.inl rfl) (ce_rd (i := 1) rfl (.inl rfl))) (css_cons (cs_fs (i := 0) L.ao rfl (.inl rfl) (ce_rd (i := 2) rfl (.inl rfl))) (css_cons (cs_fs (i := 0) L.ao rfl (.inl rfl) (ce_rd (i := 3) rfl (.inl rfl))) (css_cons (cs_fs (i := 0) L.ao rfl (.inl rfl) (ce_rd (i := 4) rfl (.inl rfl))) (css_one (cs_fs (i := 0) L.ao rfl (.inl rfl) (ce_bty call_tuple_of ok_tuple rfl L.b_tuple (by decide +kernel) (ca_cons (co_ex (ce_bin op_addV ok_add (co_ex (ce_lc (own := [("layer", 5)]) (ws := [5]) rfl ck (ci_seq (ce_rd (i := 2) rfl (.inl rfl))) (blkOk_by rfl) (by decide) (by decide) (fun s H C cl fp => (cg_name ck.blk.nd rfl (.inl rfl))) (fun s H C cl fp => cts_nil) (fun s H C cl fp => (ce_fz (ce_fn (k := 1) F_letters_in hr (by decide) ck.blk rfl (ca_cons (co_ex (ce_bfn call_len ok_len rfl L.b_len (by decide +kernel) (ca_cons (co_sl (i := 5) rfl (.inl rfl)) ca_nil))) ca_nil)))))) (co_ex (ce_lst (ca_cons (co_ex (ce_fz (ce_fn (k := 1) F_letters_in hr (by decide) ck rfl (ca_cons (co_sl (i := 3) rfl (.inl rfl)) ca_nil)))) ca_nil))))) ca_nil)))))))))
theorem sc_is_layers : FnScope ["value"] ["value"] (defScope s_is_layers) := ⟨rfl, rfl, rfl, by decide +kernel, rfl, by decide +kernel, by decide +kernel⟩
theorem F_is_layers (L : Lk P w K mg base G)  : Fn P w K mg base G 8 "is_layers" 7 1 v_is_layers := by
  obtain ⟨fd, D⟩ := L.d_is_layers
  exact fn_mk (N := ["value"]) (ps := ["value"]) (m := 0) D sc_is_layers rfl rfl (by decide +kernel) L.g_is_layers fun cdv A outer s H E hr ck => (css_one (cs_ret (ce_isi (L.i_Layers) (.own _) (co_sl (i := 0) rfl (.inl rfl)) (pe_glob rfl L.c_Layers rfl) rfl L.b_isinstance)))
theorem sc_need_layers : FnScope ["layers"] ["layers"] (defScope s_need_layers) := ⟨rfl, rfl, rfl, by decide +kernel, rfl, by decide +kernel, by decide +kernel⟩
theorem F_need_layers (L : Lk P w K mg base G) (F_is_layers : Fn P w K mg base G 8 "is_layers" 7 1 v_is_layers) : Fn P w K mg base G 9 "need_layers" 8 1 v_need_layers := by
  obtain ⟨fd, D⟩ := L.d_need_layers
  exact fn_mk (N := ["layers"]) (ps := ["layers"]) (m := 0) D sc_need_layers rfl rfl (by decide +kernel) L.g_need_layers fun cdv A outer s H E hr ck => (css_one (cs_if (ct_not (ct_tr (co_ex (ce_fn (k := 8) F_is_layers hr (by decide) ck rfl (ca_cons (co_sl (i := 0) rfl (.inl rfl)) ca_nil))))) (css_one (cs_rz L.x_BadLayers rfl hr (by decide) ck rfl (ca_cons (co_ex (ce_rd (i := 0) rfl (.inl rfl))) ca_nil))) css_nil))
theorem sc_layers_told : FnScope ["layers"] ["layers"] (defScope s_layers_told) := ⟨rfl, rfl, rfl, by decide +kernel, rfl, by decide +kernel, by decide +kernel⟩
theorem F_layers_told (L : Lk P w K mg base G)  : Fn P w K mg base G 1 "layers_told" 9 1 v_layers_told := by
  obtain ⟨fd, D⟩ := L.d_layers_told
  exact fn_mk (N := ["layers"]) (ps := ["layers"]) (m := 0) D sc_layers_told rfl rfl (by decide +kernel) L.g_layers_told fun cdv A outer s H E hr ck => (css_one (cs_ret (ce_tup (ca_cons (co_ex (ce_at L.ao (co_sl (i := 0) rfl (.inl rfl)))) (ca_cons (co_ex (ce_at L.ao (co_sl (i := 0) rfl (.inl rfl)))) (ca_cons (co_ex (ce_at L.ao (co_sl (i := 0) rfl (.inl rfl)))) (ca_cons (co_ex (ce_at L.ao (co_sl (i := 0) rfl (.inl rfl)))) ca_nil)))))))
theorem sc_same_layers : FnScope ["first", "second"] ["first", "second"] (defScope s_same_layers) := ⟨rfl, rfl, rfl, by decide +kernel, rfl, by decide +kernel, by decide +kernel⟩
theorem F_same_layers (L : Lk P w K mg base G) (F_layers_told : Fn P w K mg base G 1 "layers_told" 9 1 v_layers_told) (F_need_layers : Fn P w K mg base G 9 "need_layers" 8 1 v_need_layers) : Fn P w K mg base G 10 "same_layers" 10 2 v_same_layers := by
  obtain ⟨fd, D⟩ := L.d_same_layers
  exact fn_mk (N := ["first", "second"]) (ps := ["first", "second"]) (m := 0) D sc_same_layers rfl rfl (by decide +kernel) L.g_same_layers fun cdv A outer s H E hr ck => (css_cons (cs_expr (ce_fn (k := 9) F_need_layers hr (by decide) ck rfl (ca_cons (co_sl (i := 0) rfl (.inl rfl)) ca_nil))) (css_cons (cs_expr (ce_fn (k := 9) F_need_layers hr (by decide) ck rfl (ca_cons (co_sl (i := 1) rfl (.inl rfl)) ca_nil))) (css_one (cs_ret (ce_cmp (op_eqq ck.u64) ok_eq (co_ex (ce_fn (k := 1) F_layers_told hr (by decide) ck rfl (ca_cons (co_sl (i := 0) rfl (.inl rfl)) ca_nil))) (co_ex (ce_fn (k := 1) F_layers_told hr (by decide) ck rfl (ca_cons (co_sl (i := 1) rfl (.inl rfl)) ca_nil))))))))
theorem sc_of_kind : FnScope ["layer", "kind", "gate"] ["layer", "kind"] (defScope s_of_kind) := ⟨rfl, rfl, rfl, by decide +kernel, rfl, by decide +kernel, by decide +kernel⟩
theorem F_of_kind (L : Lk P w K mg base G)  : Fn P w K mg base G 1 "of_kind" 11 2 v_of_kind := by
  obtain ⟨fd, D⟩ := L.d_of_kind
  exact fn_mk (N := ["layer", "kind", "gate"]) (ps := ["layer", "kind"]) (m := 1) D sc_of_kind rfl rfl (by decide +kernel) L.g_of_kind fun cdv A outer s H E hr ck => (css_one (cs_ret (ce_lc (own := [("gate", 2)]) (ws := [2]) rfl ck (ci_seq (ce_rd (i := 0) rfl (.inl rfl))) (blkOk_by rfl) (by decide) (by decide) (fun s H C cl fp => (cg_name ck.blk.nd rfl (.inl rfl))) (fun s H C cl fp => (cts_one (ct_cmp (op_eqq ck.blk.u64) ok_eq (co_ex (ce_ix ck.blk (co_sl (i := 2) rfl (.inl rfl)) (co_ex ce_int))) (co_sl (i := 1) rfl (.inr (.inl rfl)))))) (fun s H C cl fp => (ce_rd (i := 2) rfl (.inl rfl))))))
theorem sc_kind_counts : FnScope ["layers", "layer", "kind"] ["layers"] (defScope s_kind_counts) := ⟨rfl, rfl, rfl, by decide +kernel, rfl, by decide +kernel, by decide +kernel⟩
theorem F_kind_counts (L : Lk P w K mg base G) (F_need_layers : Fn P w K mg base G 9 "need_layers" 8 1 v_need_layers) (F_of_kind : Fn P w K mg base G 1 "of_kind" 11 2 v_of_kind) : Fn P w K mg base G 10 "kind_counts" 12 1 v_kind_counts := by
  obtain ⟨fd, D⟩ := L.d_kind_counts
  exact fn_mk (N := ["layers", "layer", "kind"]) (ps := ["layers"]) (m := 2) D sc_kind_counts rfl rfl (by decide +kernel) L.g_kind_counts fun cdv A outer s H E hr ck => (css_cons (cs_expr (ce_fn (k := 9) F_need_layers hr (by decide) ck rfl (ca_cons (co_sl (i := 0) rfl (.inl rfl)) ca_nil))) (css_one (cs_ret (ce_bty call_tuple_of ok_tuple rfl L.b_tuple (by decide +kernel) (ca_cons (co_ex (ce_lc (own := [("layer", 1)]) (ws := [1]) rfl ck (ci_seq (ce_at L.ao (co_sl (i := 0) rfl (.inl rfl)))) (blkOk_by rfl) (by decide) (by decide) (fun s H C cl fp => (cg_name ck.blk.nd rfl (.inr rfl))) (fun s H C cl fp => cts_nil) (fun s H C cl fp => (ce_fz (ce_bty call_tuple_of ok_tuple rfl L.b_tuple (by decide +kernel) (ca_cons (co_ex (ce_lc (own := [("kind", 2)]) (ws := [2]) rfl ck.blk (ci_seq (ce_gloD rfl L.m_KINDS)) (blkOk_by rfl) (by decide) (by decide) (fun s H C cl fp => (cg_name ck.blk.blk.nd rfl (.inl rfl))) (fun s H C cl fp => cts_nil) (fun s H C cl fp => (ce_fz (ce_bfn call_len ok_len rfl L.b_len (by decide +kernel) (ca_cons (co_ex (ce_fn (k := 1) F_of_kind hr (by decide) ck.blk.blk rfl (ca_cons (co_sl (i := 1) rfl (.inr (.inl rfl))) (ca_cons (co_sl (i := 2) rfl (.inl rfl)) ca_nil)))) ca_nil)))))) ca_nil)))))) ca_nil)))))
theorem sc_draw_count : FnScope ["layers", "many"] ["layers"] (defScope s_draw_count) := ⟨rfl, rfl, rfl, by decide +kernel, rfl, by decide +kernel, by decide +kernel⟩
theorem F_draw_count (L : Lk P w K mg base G) (F_need_layers : Fn P w K mg base G 9 "need_layers" 8 1 v_need_layers) : Fn P w K mg base G 10 "draw_count" 13 1 v_draw_count := by
  obtain ⟨fd, D⟩ := L.d_draw_count
  exact fn_mk (N := ["layers", "many"]) (ps := ["layers"]) (m := 1) D sc_draw_count rfl rfl (by decide +kernel) L.g_draw_count fun cdv A outer s H E hr ck => (css_cons (cs_expr (ce_fn (k := 9) F_need_layers hr (by decide) ck rfl (ca_cons (co_sl (i := 0) rfl (.inl rfl)) ca_nil))) (css_one (cs_ret (ce_bin op_addV ok_add (co_ex (ce_ix ck (co_ex (ce_at L.ao (co_sl (i := 0) rfl (.inl rfl)))) (co_ex ce_int))) (co_ex (ce_bfn (cr_sum rfl) ok_sum rfl L.b_sum (by decide +kernel) (ca_cons (co_ex (ce_lc (own := [("many", 1)]) (ws := [1]) rfl ck (ci_seq (ce_s10 (co_ex (ce_at L.ao (co_sl (i := 0) rfl (.inl rfl)))) ce_int)) (blkOk_by rfl) (by decide) (by decide) (fun s H C cl fp => (cg_name ck.blk.nd rfl (.inl rfl))) (fun s H C cl fp => cts_nil) (fun s H C cl fp => (ce_fz (ce_bin op_addV ok_add (co_ex (ce_bin op_mulV ok_mulV (co_ex ce_int) (co_sl (i := 1) rfl (.inl rfl)))) (co_ex ce_int)))))) ca_nil)))))))
theorem sc__law_new_layers : FnScope ["told", "p", "layers", "inputs", "outputs"] ["told"] (defScope s__law_new_layers) := ⟨rfl, rfl, rfl, by decide +kernel, rfl, by decide +kernel, by decide +kernel⟩
theorem F__law_new_layers (L : Lk P w K mg base G) (F_Layers : Cl P w K mg base G 6 10 5 v_Layers) : Fn P w K mg base G 8 "_law_new_layers" 14 1 v__law_new_layers := by
  obtain ⟨fd, D⟩ := L.d__law_new_layers
  exact fn_mk (N := ["told", "p", "layers", "inputs", "outputs"]) (ps := ["told"]) (m := 4) D sc__law_new_layers rfl rfl (by decide +kernel) L.g__law_new_layers fun cdv A outer s H E hr ck => (css_cons (cs_asg (ce_rd (i := 0) rfl (.inl rfl)) (cg_tup rfl (cgs_cons (cg_name ck.nd rfl (.inl rfl)) (cgs_cons (cg_name ck.nd rfl (.inl rfl)) (cgs_cons (cg_name ck.nd rfl (.inl rfl)) (cgs_cons (cg_name ck.nd rfl (.inl rfl)) cgs_nil)))) (tn_cons (tn_cons (tn_cons (tn_cons tn_nil)))))) (css_one (cs_ret (ce_fz (ce_mk F_Layers hr (by decide) ck rfl L.c_Layers (ca_cons (co_sl (i := 1) rfl (.inl rfl)) (ca_cons (co_sl (i := 2) rfl (.inl rfl)) (ca_cons (co_sl (i := 3) rfl (.inl rfl)) (ca_cons (co_sl (i := 4) rfl (.inl rfl)) ca_nil)))))))))
theorem sc__law_ask_layers : FnScope ["told", "p", "layers", "inputs", "outputs"] ["told"] (defScope s__law_ask_layers) := ⟨rfl, rfl, rfl, by decide +kernel, rfl, by decide +kernel, by decide +kernel⟩
theorem F__law_ask_layers (L : Lk P w K mg base G) (F_are_layers : Fn P w K mg base G 5 "are_layers" 6 4 v_are_layers) : Fn P w K mg base G 6 "_law_ask_layers" 15 1 v__law_ask_layers := by
  obtain ⟨fd, D⟩ := L.d__law_ask_layers
  exact fn_mk (N := ["told", "p", "layers", "inputs", "outputs"]) (ps := ["told"]) (m := 4) D sc__law_ask_layers rfl rfl (by decide +kernel) L.g__law_ask_layers fun cdv A outer s H E hr ck => (css_cons (cs_asg (ce_rd (i := 0) rfl (.inl rfl)) (cg_tup rfl (cgs_cons (cg_name ck.nd rfl (.inl rfl)) (cgs_cons (cg_name ck.nd rfl (.inl rfl)) (cgs_cons (cg_name ck.nd rfl (.inl rfl)) (cgs_cons (cg_name ck.nd rfl (.inl rfl)) cgs_nil)))) (tn_cons (tn_cons (tn_cons (tn_cons tn_nil)))))) (css_one (cs_ret (ce_fn (k := 5) F_are_layers hr (by decide) ck rfl (ca_cons (co_sl (i := 1) rfl (.inl rfl)) (ca_cons (co_sl (i := 2) rfl (.inl rfl)) (ca_cons (co_sl (i := 3) rfl (.inl rfl)) (ca_cons (co_sl (i := 4) rfl (.inl rfl)) ca_nil))))))))
theorem sc__law_pen : FnScope ["script", "fold", "cell"] ["script"] (defScope s__law_pen) := ⟨rfl, rfl, rfl, by decide +kernel, rfl, by decide +kernel, by decide +kernel⟩
theorem F__law_pen (L : Lk P w K mg base G)  : Fn P w K mg base G 1 "_law_pen" 16 1 v__law_pen := by
  obtain ⟨fd, D⟩ := L.d__law_pen
  exact fn_mk (N := ["script", "fold", "cell"]) (ps := ["script"]) (m := 2) D sc__law_pen rfl rfl (by decide +kernel) L.g__law_pen fun cdv A outer s H E hr ck => (css_cons (cs_set (i := 1) ck.nd rfl (.inl rfl) ce_int) (css_cons (cs_for (passes_of rfl) rfl (ci_seq (ce_rd (i := 0) rfl (.inl rfl))) (cg_name ck.nd rfl (.inl rfl)) (css_one (cs_set (i := 1) ck.nd rfl (.inl rfl) (ce_bin op_modV ok_mod (co_ex (ce_bty call_int1 ok_int rfl L.b_int (by decide +kernel) (ca_cons (co_ex (ce_bin op_addV ok_add (co_ex (ce_bin op_mulV ok_mulV (co_sl (i := 1) rfl (.inl rfl)) (co_ex ce_int))) (co_sl (i := 2) rfl (.inl rfl)))) ca_nil))) (co_ex ce_int))))) (css_one (cs_ret (ce_disp (.str (ce_fz (ce_bty call_list_of ok_list rfl L.b_list (by decide +kernel) (ca_cons (co_sl (i := 0) rfl (.inl rfl)) ca_nil))) (.str ce_int (.str ce_int (.str ce_int (.str (ce_rd (i := 1) rfl (.inl rfl)) .nil))))) (by simp) (by decide))))))
theorem sc__law_draw : FnScope ["pen", "many", "cell", "digit", "blend"] ["pen", "many"] (defScope s__law_draw) := ⟨rfl, rfl, rfl, by decide +kernel, rfl, by decide +kernel, by decide +kernel⟩
theorem F__law_draw (L : Lk P w K mg base G)  : Fn P w K mg base G 1 "_law_draw" 17 2 v__law_draw := by
  obtain ⟨fd, D⟩ := L.d__law_draw
  exact fn_mk (N := ["pen", "many", "cell", "digit", "blend"]) (ps := ["pen", "many"]) (m := 3) D sc__law_draw rfl rfl (by decide +kernel) L.g__law_draw fun cdv A outer s H E hr ck => (css_cons (cs_put (i := 0) ck rfl (.inl rfl) (ce_fz (ce_bin op_addV ok_add (co_ex (ce_ix ck (co_sl (i := 0) rfl (.inl rfl)) (co_ex ce_str))) (co_ex ce_int))) ce_str) (css_cons (cs_if (ct_w (cw_and (ct_cmp (op_eqq ck.u64) ok_eq (co_ex (ce_ix ck (co_sl (i := 0) rfl (.inl rfl)) (co_ex ce_str))) (co_ex ce_int)) (cw_and1 (ct_cmp op_lt ok_CI (co_ex (ce_ix ck (co_sl (i := 0) rfl (.inl rfl)) (co_ex ce_str))) (co_ex (ce_bfn call_len ok_len rfl L.b_len (by decide +kernel) (ca_cons (co_ex (ce_ix ck (co_sl (i := 0) rfl (.inl rfl)) (co_ex ce_str))) ca_nil))))))) (css_cons (cs_set (i := 2) ck.nd rfl (.inl rfl) (ce_ix ck (co_ex (ce_ix ck (co_sl (i := 0) rfl (.inl rfl)) (co_ex ce_str))) (co_ex (ce_ix ck (co_sl (i := 0) rfl (.inl rfl)) (co_ex ce_str))))) (css_cons (cs_put (i := 0) ck rfl (.inl rfl) (ce_fz (ce_bin op_addV ok_add (co_ex (ce_ix ck (co_sl (i := 0) rfl (.inl rfl)) (co_ex ce_str))) (co_ex ce_int))) ce_str) (css_one (cs_if (ct_cmp op_ge ok_CI (co_sl (i := 2) rfl (.inl rfl)) (co_ex (ce_bin op_pow ok_pow (co_ex ce_int) (co_ex ce_int)))) (css_one (cs_put (i := 0) ck rfl (.inl rfl) (ce_fz (ce_bin op_sub ok_sub (co_sl (i := 2) rfl (.inl rfl)) (co_ex (ce_bin op_pow ok_pow (co_ex ce_int) (co_ex ce_int))))) ce_str)) (css_one (cs_put (i := 0) ck rfl (.inl rfl) (ce_fz (ce_bin op_modV ok_mod (co_ex (ce_bty call_int1 ok_int rfl L.b_int (by decide +kernel) (ca_cons (co_ex (ce_bin op_addV ok_add (co_ex (ce_bin op_mulV ok_mulV (co_ex (ce_ix ck (co_sl (i := 0) rfl (.inl rfl)) (co_ex ce_str))) (co_ex ce_int))) (co_sl (i := 2) rfl (.inl rfl)))) ca_nil))) (co_ex ce_int))) ce_str)))))) css_nil) (css_cons (cs_if (ct_cmp op_gt ok_CI (co_ex (ce_ix ck (co_sl (i := 0) rfl (.inl rfl)) (co_ex ce_str))) (co_ex ce_int)) (css_cons (cs_set (i := 3) ck.nd rfl (.inl rfl) (ce_bin op_modV ok_mod (co_ex (ce_bty call_int1 ok_int rfl L.b_int (by decide +kernel) (ca_cons (co_ex (ce_ix ck (co_sl (i := 0) rfl (.inl rfl)) (co_ex ce_str))) ca_nil))) (co_sl (i := 1) rfl (.inl rfl)))) (css_cons (cs_put (i := 0) ck rfl (.inl rfl) (ce_fz (ce_bin op_divV ok_div (co_ex (ce_ix ck (co_sl (i := 0) rfl (.inl rfl)) (co_ex ce_str))) (co_sl (i := 1) rfl (.inl rfl)))) ce_str) (css_one (cs_ret (ce_mv (i := 3) rfl (.inl rfl)))))) css_nil) (css_cons (cs_set (i := 4) ck.nd rfl (.inl rfl) (ce_bin op_addV ok_add (co_ex (ce_bin op_addV ok_add (co_ex (ce_ix ck (co_sl (i := 0) rfl (.inl rfl)) (co_ex ce_str))) (co_ex (ce_bin op_mulV ok_mulV (co_ex (ce_ix ck (co_sl (i := 0) rfl (.inl rfl)) (co_ex ce_str))) (co_ex ce_int))))) (co_ex ce_int))) (css_one (cs_ret (ce_bin op_modV ok_mod (co_ex (ce_bin op_divV ok_div (co_ex (ce_bty call_int1 ok_int rfl L.b_int (by decide +kernel) (ca_cons (co_ex (ce_bin op_modV ok_mod (co_ex (ce_bin op_pow ok_pow (co_sl (i := 4) rfl (.inl rfl)) (co_ex ce_int))) (co_ex ce_int))) ca_nil))) (co_ex ce_int))) (co_sl (i := 1) rfl (.inl rfl)))))))))
theorem sc__law_pick : FnScope ["pen", "some"] ["pen", "some"] (defScope s__law_pick) := ⟨rfl, rfl, rfl, by decide +kernel, rfl, by decide +kernel, by decide +kernel⟩
theorem F__law_pick (L : Lk P w K mg base G) (F__law_draw : Fn P w K mg base G 1 "_law_draw" 17 2 v__law_draw) : Fn P w K mg base G 2 "_law_pick" 18 2 v__law_pick := by
  obtain ⟨fd, D⟩ := L.d__law_pick
  exact fn_mk (N := ["pen", "some"]) (ps := ["pen", "some"]) (m := 0) D sc__law_pick rfl rfl (by decide +kernel) L.g__law_pick fun cdv A outer s H E hr ck => (css_one (cs_ret (ce_ix ck (co_sl (i := 1) rfl (.inl rfl)) (co_ex (ce_fn (k := 1) F__law_draw hr (by decide) ck rfl (ca_cons (co_sl (i := 0) rfl (.inl rfl)) (ca_cons (co_ex (ce_bfn call_len ok_len rfl L.b_len (by decide +kernel) (ca_cons (co_sl (i := 1) rfl (.inl rfl)) ca_nil))) ca_nil)))))))
theorem sc__law_layers : FnScope ["pen", "deep", "wide", "p", "sizes", "k", "layers", "behind", "layer", "j", "places", "some"] ["pen", "deep", "wide"] (defScope s__law_layers) := ⟨rfl, rfl, rfl, by decide +kernel, rfl, by decide +kernel, by decide +kernel⟩
theorem F__law_layers (L : Lk P w K mg base G) (F__law_draw : Fn P w K mg base G 1 "_law_draw" 17 2 v__law_draw) (F__law_pick : Fn P w K mg base G 2 "_law_pick" 18 2 v__law_pick) : Fn P w K mg base G 3 "_law_layers" 20 3 v__law_layers := by
  obtain ⟨fd, D⟩ := L.d__law_layers
  exact fn_mk (N := ["pen", "deep", "wide", "p", "sizes", "k", "layers", "behind", "layer", "j", "places", "some"]) (ps := ["pen", "deep", "wide"]) (m := 9) D sc__law_layers rfl rfl (by decide +kernel) L.g__law_layers fun cdv A outer s H E hr ck => (css_cons (cs_par (i := 3) (j := 4) rfl ck rfl rfl (by decide) rfl rfl (ca_cons (co_ex (ce_fn (k := 2) F__law_pick hr (by decide) ck rfl (ca_cons (co_sl (i := 0) rfl (.inl rfl)) (ca_cons (co_ex (ce_lst (ca_cons (co_ex ce_int) (ca_cons (co_ex ce_int) (ca_cons (co_ex ce_int) (ca_cons (co_ex ce_int) (ca_cons (co_ex ce_int) (ca_cons (co_ex ce_int) ca_nil)))))))) ca_nil)))) (ca_cons (co_ex (ce_lst ca_nil)) ca_nil)) rfl) (css_cons (cs_for (passes_of rfl) rfl (ci_r1 rfl L.b_range (ca_cons (co_ex (ce_fz (ce_bin op_addV ok_add (co_ex ce_int) (co_ex (ce_fn (k := 1) F__law_draw hr (by decide) ck rfl (ca_cons (co_sl (i := 0) rfl (.inl rfl)) (ca_cons (co_sl (i := 1) rfl (.inl rfl)) ca_nil))))))) ca_nil)) (cg_name ck.nd rfl (.inl rfl)) (css_one (cs_expr (ce_append (i := 4) rfl (.inl rfl) (ca_cons (co_ex (ce_fz (ce_bin op_addV ok_add (co_ex ce_int) (co_ex (ce_fn (k := 1) F__law_draw hr (by decide) ck rfl (ca_cons (co_sl (i := 0) rfl (.inl rfl)) (ca_cons (co_sl (i := 2) rfl (.inl rfl)) ca_nil))))))) ca_nil))))) (css_cons (cs_set (i := 6) ck.nd rfl (.inl rfl) (ce_lst ca_nil)) (css_cons (cs_for (passes_of rfl) rfl (ci_r1 rfl L.b_range (ca_cons (co_ex (ce_fz (ce_bin op_sub ok_sub (co_ex (ce_bfn call_len ok_len rfl L.b_len (by decide +kernel) (ca_cons (co_sl (i := 4) rfl (.inl rfl)) ca_nil))) (co_ex ce_int)))) ca_nil)) (cg_name ck.nd rfl (.inl rfl)) (css_cons (cs_par (i := 7) (j := 8) rfl ck rfl rfl (by decide) rfl rfl (ca_cons (co_ex (ce_ix ck (co_sl (i := 4) rfl (.inl rfl)) (co_ex (ce_bin op_addV ok_add (co_sl (i := 5) rfl (.inl rfl)) (co_ex ce_int))))) (ca_cons (co_ex (ce_lst ca_nil)) ca_nil)) rfl) (css_cons (cs_for (passes_of rfl) rfl (ci_r1 rfl L.b_range (ca_cons (co_ex (ce_ix ck (co_sl (i := 4) rfl (.inl rfl)) (co_sl (i := 5) rfl (.inl rfl)))) ca_nil)) (cg_name ck.nd rfl (.inl rfl)) (css_cons (cs_set (i := 10) ck.nd rfl (.inl rfl) (ce_tup (ca_cons (co_ex (ce_fz (ce_fn (k := 1) F__law_draw hr (by decide) ck rfl (ca_cons (co_sl (i := 0) rfl (.inl rfl)) (ca_cons (co_sl (i := 7) rfl (.inl rfl)) ca_nil))))) (ca_cons (co_ex (ce_fz (ce_fn (k := 1) F__law_draw hr (by decide) ck rfl (ca_cons (co_sl (i := 0) rfl (.inl rfl)) (ca_cons (co_sl (i := 7) rfl (.inl rfl)) ca_nil))))) ca_nil)))) (css_cons (cs_set (i := 11) ck.nd rfl (.inl rfl) (ce_lst (ca_cons (co_ex (ce_fz (ce_bin op_addV ok_add (co_ex (ce_tup (ca_cons (co_ex ce_str) ca_nil))) (co_sl (i := 10) rfl (.inl rfl))))) (ca_cons (co_ex (ce_fz (ce_bin op_addV ok_add (co_ex (ce_tup (ca_cons (co_ex ce_str) ca_nil))) (co_sl (i := 10) rfl (.inl rfl))))) (ca_cons (co_ex (ce_tup (ca_cons (co_ex ce_str) (ca_cons (co_ex (ce_ix ck (co_sl (i := 10) rfl (.inl rfl)) (co_ex ce_int))) ca_nil)))) ca_nil))))) (css_one (cs_expr (ce_append (i := 8) rfl (.inl rfl) (ca_cons (co_ex (ce_fz (ce_fn (k := 2) F__law_pick hr (by decide) ck rfl (ca_cons (co_sl (i := 0) rfl (.inl rfl)) (ca_cons (co_ex (ce_bin op_addV ok_add (co_sl (i := 11) rfl (.inl rfl)) (co_ex (ce_lst (ca_cons (co_ex (ce_tup (ca_cons (co_ex ce_str) (ca_cons (co_ex (ce_fz (ce_fn (k := 2) F__law_pick hr (by decide) ck rfl (ca_cons (co_sl (i := 0) rfl (.inl rfl)) (ca_cons (co_ex (ce_lst (ca_cons (co_ex ce_int) (ca_cons (co_ex ce_int) (ca_cons (co_ex (ce_fz (ce_fn (k := 1) F__law_draw hr (by decide) ck rfl (ca_cons (co_sl (i := 0) rfl (.inl rfl)) (ca_cons (co_sl (i := 3) rfl (.inl rfl)) ca_nil))))) ca_nil))))) ca_nil))))) ca_nil)))) ca_nil))))) ca_nil))))) ca_nil))))))) (css_one (cs_expr (ce_append (i := 6) rfl (.inl rfl) (ca_cons (co_ex (ce_fz (ce_bty call_tuple_of ok_tuple rfl L.b_tuple (by decide +kernel) (ca_cons (co_sl (i := 8) rfl (.inl rfl)) ca_nil)))) ca_nil))))))) (css_one (cs_ret (ce_tup (ca_cons (co_ex (ce_rd (i := 3) rfl (.inl rfl))) (ca_cons (co_ex (ce_fz (ce_bty call_tuple_of ok_tuple rfl L.b_tuple (by decide +kernel) (ca_cons (co_sl (i := 6) rfl (.inl rfl)) ca_nil)))) (ca_cons (co_ex (ce_ix ck (co_sl (i := 4) rfl (.inl rfl)) (co_ex (ce_un un_neg ok_neg (co_ex ce_int))))) (ca_cons (co_ex (ce_fz (ce_bin op_addV ok_add (co_ex ce_int) (co_ex (ce_fn (k := 1) F__law_draw hr (by decide) ck rfl (ca_cons (co_sl (i := 0) rfl (.inl rfl)) (ca_cons (co_ex (ce_ix ck (co_sl (i := 4) rfl (.inl rfl)) (co_ex ce_int))) ca_nil))))))) ca_nil)))))))))))
theorem sc__law_is_number : FnScope ["value", "many"] ["value", "many"] (defScope s__law_is_number) := ⟨rfl, rfl, rfl, by decide +kernel, rfl, by decide +kernel, by decide +kernel⟩
theorem F__law_is_number (L : Lk P w K mg base G)  : Fn P w K mg base G 1 "_law_is_number" 21 2 v__law_is_number := by
  obtain ⟨fd, D⟩ := L.d__law_is_number
  exact fn_mk (N := ["value", "many"]) (ps := ["value", "many"]) (m := 0) D sc__law_is_number rfl rfl (by decide +kernel) L.g__law_is_number fun cdv A outer s H E hr ck => (css_one (cs_ret (ce_and (ce_isi isi_int (.ty _) (co_sl (i := 0) rfl (.inl rfl)) (pe_bltn rfl L.b_int (by decide +kernel) rfl) rfl L.b_isinstance) (ce_and (ce_not (co_ex (ce_isi isi_bool (.ty _) (co_sl (i := 0) rfl (.inl rfl)) (pe_bltn rfl L.b_bool (by decide +kernel) rfl) rfl L.b_isinstance))) (ce_one (ce_chain op_le op_lt ce_int (ce_rd (i := 0) rfl (.inl rfl)) (ce_rd (i := 1) rfl (.inl rfl))))))))
theorem sc__law_is_gate : FnScope ["p", "value", "many", "wide", "place"] ["p", "value", "many"] (defScope s__law_is_gate) := ⟨rfl, rfl, rfl, by decide +kernel, rfl, by decide +kernel, by decide +kernel⟩
theorem F__law_is_gate (L : Lk P w K mg base G) (F__law_is_number : Fn P w K mg base G 1 "_law_is_number" 21 2 v__law_is_number) : Fn P w K mg base G 2 "_law_is_gate" 22 3 v__law_is_gate := by
  obtain ⟨fd, D⟩ := L.d__law_is_gate
  exact fn_mk (N := ["p", "value", "many", "wide", "place"]) (ps := ["p", "value", "many"]) (m := 2) D sc__law_is_gate rfl rfl (by decide +kernel) L.g__law_is_gate fun cdv A outer s H E hr ck => (css_cons (cs_if (ct_w (cw_or (ct_not (ct_tr (co_ex (ce_isi isi_tuple (.ty _) (co_sl (i := 1) rfl (.inl rfl)) (pe_bltn rfl L.b_tuple (by decide +kernel) rfl) rfl L.b_isinstance)))) (cw_or (ct_cmp op_lt ok_CI (co_ex (ce_bfn call_len ok_len rfl L.b_len (by decide +kernel) (ca_cons (co_sl (i := 1) rfl (.inl rfl)) ca_nil))) (co_ex ce_int)) (cw_or1 (ct_cmp op_notIn_seq ok_notIn (co_ex (ce_ix ck (co_sl (i := 1) rfl (.inl rfl)) (co_ex ce_int))) (co_ex (ce_tup (ca_cons (co_ex ce_str) (ca_cons (co_ex ce_str) (ca_cons (co_ex ce_str) (ca_cons (co_ex ce_str) ca_nil))))))))))) (css_one (cs_ret ce_bl)) css_nil) (css_cons (cs_if (ct_cmp (op_eqq ck.u64) ok_eq (co_ex (ce_ix ck (co_sl (i := 1) rfl (.inl rfl)) (co_ex ce_int))) (co_ex ce_str)) (css_one (cs_ret (ce_and (ce_cmp (op_eqq ck.u64) ok_eq (co_ex (ce_bfn call_len ok_len rfl L.b_len (by decide +kernel) (ca_cons (co_sl (i := 1) rfl (.inl rfl)) ca_nil))) (co_ex ce_int)) (ce_one (ce_fn (k := 1) F__law_is_number hr (by decide) ck rfl (ca_cons (co_ex (ce_ix ck (co_sl (i := 1) rfl (.inl rfl)) (co_ex ce_int))) (ca_cons (co_sl (i := 0) rfl (.inl rfl)) ca_nil))))))) css_nil) (css_cons (cs_set (i := 3) ck.nd rfl (.inl rfl) (ce_if (ct_cmp (op_eqq ck.u64) ok_eq (co_ex (ce_ix ck (co_sl (i := 1) rfl (.inl rfl)) (co_ex ce_int))) (co_ex ce_str)) ce_int ce_int)) (css_one (cs_ret (ce_and (ce_cmp (op_eqq ck.u64) ok_eq (co_ex (ce_bfn call_len ok_len rfl L.b_len (by decide +kernel) (ca_cons (co_sl (i := 1) rfl (.inl rfl)) ca_nil))) (co_sl (i := 3) rfl (.inl rfl))) (ce_one (ce_cmp (op_eqq ck.u64) ok_eq (co_ex (ce_lc (own := [("place", 4)]) (ws := [4]) rfl ck (ci_seq (ce_s10 (co_sl (i := 1) rfl (.inl rfl)) ce_int)) (blkOk_by rfl) (by decide) (by decide) (fun s H C cl fp => (cg_name ck.blk.nd rfl (.inl rfl))) (fun s H C cl fp => (cts_one (ct_not (ct_tr (co_ex (ce_fn (k := 1) F__law_is_number hr (by decide) ck.blk rfl (ca_cons (co_sl (i := 4) rfl (.inl rfl)) (ca_cons (co_sl (i := 2) rfl (.inr (.inl rfl))) ca_nil)))))))) (fun s H C cl fp => ce_int))) (co_ex (ce_lst ca_nil))))))))))
theorem sc__law_are : FnScope ["value", "p", "layers", "inputs", "outputs", "behind", "layer", "many", "number", "gate"] ["value"] (defScope s__law_are) := ⟨rfl, rfl, rfl, by decide +kernel, rfl, by decide +kernel, by decide +kernel⟩
theorem F__law_are (L : Lk P w K mg base G) (F__law_is_gate : Fn P w K mg base G 2 "_law_is_gate" 22 3 v__law_is_gate) (F__law_is_number : Fn P w K mg base G 1 "_law_is_number" 21 2 v__law_is_number) : Fn P w K mg base G 3 "_law_are" 23 1 v__law_are := by
  obtain ⟨fd, D⟩ := L.d__law_are
  exact fn_mk (N := ["value", "p", "layers", "inputs", "outputs", "behind", "layer", "many", "number", "gate"]) (ps := ["value"]) (m := 9) D sc__law_are rfl rfl (by decide +kernel) L.g__law_are fun cdv A outer s H E hr ck => (css_cons (cs_asg (ce_rd (i := 0) rfl (.inl rfl)) (cg_tup rfl (cgs_cons (cg_name ck.nd rfl (.inr rfl)) (cgs_cons (cg_name ck.nd rfl (.inl rfl)) (cgs_cons (cg_name ck.nd rfl (.inl rfl)) (cgs_cons (cg_name ck.nd rfl (.inl rfl)) cgs_nil)))) (tn_cons (tn_cons (tn_cons (tn_cons tn_nil)))))) (css_cons (cs_if (ct_cmp op_notIn_seq ok_notIn (co_sl (i := 1) rfl (.inr (.inl rfl))) (co_ex (ce_lst (ca_cons (co_ex ce_int) (ca_cons (co_ex ce_int) (ca_cons (co_ex ce_int) (ca_cons (co_ex ce_int) (ca_cons (co_ex ce_int) (ca_cons (co_ex ce_int) ca_nil))))))))) (css_one (cs_ret ce_bl)) css_nil) (css_cons (cs_if (ct_cmp (op_neq ck.u64) ok_ne (co_ex (ce_lc (own := [("number", 8)]) (ws := [8]) rfl ck (ci_seq (ce_tup (ca_cons (co_ex (ce_rd (i := 3) rfl (.inl rfl))) (ca_cons (co_ex (ce_rd (i := 4) rfl (.inl rfl))) ca_nil)))) (blkOk_by rfl) (by decide) (by decide) (fun s H C cl fp => (cg_name ck.blk.nd rfl (.inl rfl))) (fun s H C cl fp => (cts_one (ct_w (cw_or (ct_not (ct_tr (co_ex (ce_fn (k := 1) F__law_is_number hr (by decide) ck.blk rfl (ca_cons (co_sl (i := 8) rfl (.inl rfl)) (ca_cons (co_ex (ce_bin op_pow ok_pow (co_ex ce_int) (co_ex ce_int))) ca_nil)))))) (cw_or1 (ct_cmp (op_eqq ck.blk.u64) ok_eq (co_sl (i := 8) rfl (.inl rfl)) (co_ex ce_int))))))) (fun s H C cl fp => ce_int))) (co_ex (ce_lst ca_nil))) (css_one (cs_ret ce_bl)) css_nil) (css_cons (cs_if (ct_w (cw_or (ct_not (ct_tr (co_ex (ce_isi isi_tuple (.ty _) (co_sl (i := 2) rfl (.inl rfl)) (pe_bltn rfl L.b_tuple (by decide +kernel) rfl) rfl L.b_isinstance)))) (cw_or1 (ct_cmp (op_eqq ck.u64) ok_eq (co_sl (i := 2) rfl (.inl rfl)) (co_ex (ce_tup ca_nil)))))) (css_one (cs_ret ce_bl)) css_nil) (css_cons (cs_if (ct_w (cw_or (ct_cmp (op_neq ck.u64) ok_ne (co_ex (ce_lc (own := [("layer", 6)]) (ws := [6]) rfl ck (ci_seq (ce_rd (i := 2) rfl (.inl rfl))) (blkOk_by rfl) (by decide) (by decide) (fun s H C cl fp => (cg_name ck.blk.nd rfl (.inl rfl))) (fun s H C cl fp => (cts_one (ct_w (cw_or (ct_not (ct_tr (co_ex (ce_isi isi_tuple (.ty _) (co_sl (i := 6) rfl (.inl rfl)) (pe_bltn rfl L.b_tuple (by decide +kernel) rfl) rfl L.b_isinstance)))) (cw_or1 (ct_cmp (op_eqq ck.blk.u64) ok_eq (co_sl (i := 6) rfl (.inl rfl)) (co_ex (ce_tup ca_nil)))))))) (fun s H C cl fp => (ce_rd (i := 6) rfl (.inl rfl))))) (co_ex (ce_lst ca_nil))) (cw_or1 (ct_cmp op_gt ok_CI (co_sl (i := 4) rfl (.inl rfl)) (co_ex (ce_bfn call_len ok_len rfl L.b_len (by decide +kernel) (ca_cons (co_ex (ce_ix ck (co_sl (i := 2) rfl (.inl rfl)) (co_ex ce_int))) ca_nil))))))) (css_one (cs_ret ce_bl)) css_nil) (css_cons (cs_set (i := 5) ck.nd rfl (.inl rfl) (ce_bin op_addV ok_add (co_ex (ce_lc (own := [("layer", 6)]) (ws := [6]) rfl ck (ci_seq (ce_s10 (co_sl (i := 2) rfl (.inl rfl)) ce_int)) (blkOk_by rfl) (by decide) (by decide) (fun s H C cl fp => (cg_name ck.blk.nd rfl (.inl rfl))) (fun s H C cl fp => cts_nil) (fun s H C cl fp => (ce_fz (ce_bfn call_len ok_len rfl L.b_len (by decide +kernel) (ca_cons (co_sl (i := 6) rfl (.inl rfl)) ca_nil)))))) (co_ex (ce_lst (ca_cons (co_ex (ce_rd (i := 3) rfl (.inl rfl))) ca_nil))))) (css_cons (cs_for (passes_of rfl) rfl (ci_zipK rfl L.b_zip (ca_cons (co_ex (ce_rd (i := 2) rfl (.inl rfl))) (ca_cons (co_ex (ce_rd (i := 5) rfl (.inl rfl))) ca_nil))) (cg_tup rfl (cgs_cons (cg_name ck.nd rfl (.inl rfl)) (cgs_cons (cg_name ck.nd rfl (.inr rfl)) cgs_nil)) (tn_cons (tn_cons tn_nil))) (css_one (cs_if (ct_cmp (op_neq ck.u64) ok_ne (co_ex (ce_lc (own := [("gate", 9)]) (ws := [9]) rfl ck (ci_seq (ce_rd (i := 6) rfl (.inl rfl))) (blkOk_by rfl) (by decide) (by decide) (fun s H C cl fp => (cg_name ck.blk.nd rfl (.inl rfl))) (fun s H C cl fp => (cts_one (ct_not (ct_tr (co_ex (ce_fn (k := 2) F__law_is_gate hr (by decide) ck.blk rfl (ca_cons (co_sl (i := 1) rfl (.inr (.inl rfl))) (ca_cons (co_sl (i := 9) rfl (.inl rfl)) (ca_cons (co_sl (i := 7) rfl (.inr (.inl rfl))) ca_nil))))))))) (fun s H C cl fp => (ce_rd (i := 9) rfl (.inl rfl))))) (co_ex (ce_lst ca_nil))) (css_one (cs_ret ce_bl)) css_nil))) (css_one (cs_ret ce_bl)))))))))
theorem sc__law_letters : FnScope ["n", "b", "corners"] ["n"] (defScope s__law_letters) := ⟨rfl, rfl, rfl, by decide +kernel, rfl, by decide +kernel, by decide +kernel⟩
theorem F__law_letters (L : Lk P w K mg base G)  : Fn P w K mg base G 1 "_law_letters" 24 1 v__law_letters := by
  obtain ⟨fd, D⟩ := L.d__law_letters
  exact fn_mk (N := ["n", "b", "corners"]) (ps := ["n"]) (m := 2) D sc__law_letters rfl rfl (by decide +kernel) L.g__law_letters fun cdv A outer s H E hr ck => (css_cons (cs_asg (ce_tup (ca_cons (co_ex ce_int) (ca_cons (co_ex ce_int) ca_nil))) (cg_tup rfl (cgs_cons (cg_name ck.nd rfl (.inl rfl)) (cgs_cons (cg_name ck.nd rfl (.inl rfl)) cgs_nil)) (tn_cons (tn_cons tn_nil)))) (css_cons (cs_while fuel__law_letters (passes_of rfl) (ct_cmp op_lt ok_CI (co_sl (i := 2) rfl (.inl rfl)) (co_sl (i := 0) rfl (.inl rfl))) (css_one (cs_par (i := 1) (j := 2) rfl ck rfl rfl (by decide) rfl rfl (ca_cons (co_ex (ce_bin op_addV ok_add (co_sl (i := 1) rfl (.inl rfl)) (co_ex ce_int))) (ca_cons (co_ex (ce_bin op_mulV ok_mulV (co_ex ce_int) (co_sl (i := 2) rfl (.inl rfl)))) ca_nil)) rfl))) (css_one (cs_ret (ce_mv (i := 1) rfl (.inl rfl))))))
theorem sc__law_bent : FnScope ["pen", "told", "p", "layers", "inputs", "outputs", "i", "j", "layer", "many", "new", "some"] ["pen", "told"] (defScope s__law_bent) := ⟨rfl, rfl, rfl, by decide +kernel, rfl, by decide +kernel, by decide +kernel⟩
theorem F__law_bent (L : Lk P w K mg base G) (F__law_draw : Fn P w K mg base G 1 "_law_draw" 17 2 v__law_draw) (F__law_pick : Fn P w K mg base G 2 "_law_pick" 18 2 v__law_pick) : Fn P w K mg base G 3 "_law_bent" 25 2 v__law_bent := by
  obtain ⟨fd, D⟩ := L.d__law_bent
  exact fn_mk (N := ["pen", "told", "p", "layers", "inputs", "outputs", "i", "j", "layer", "many", "new", "some"]) (ps := ["pen", "told"]) (m := 10) D sc__law_bent rfl rfl (by decide +kernel) L.g__law_bent fun cdv A outer s H E hr ck => (css_cons (cs_asg (ce_rd (i := 1) rfl (.inl rfl)) (cg_tup rfl (cgs_cons (cg_name ck.nd rfl (.inl rfl)) (cgs_cons (cg_name ck.nd rfl (.inl rfl)) (cgs_cons (cg_name ck.nd rfl (.inl rfl)) (cgs_cons (cg_name ck.nd rfl (.inl rfl)) cgs_nil)))) (tn_cons (tn_cons (tn_cons (tn_cons tn_nil)))))) (css_cons (cs_set (i := 6) ck.nd rfl (.inl rfl) (ce_fn (k := 1) F__law_draw hr (by decide) ck rfl (ca_cons (co_sl (i := 0) rfl (.inl rfl)) (ca_cons (co_ex (ce_bfn call_len ok_len rfl L.b_len (by decide +kernel) (ca_cons (co_sl (i := 3) rfl (.inl rfl)) ca_nil))) ca_nil)))) (css_cons (cs_par (i := 7) (j := 8) rfl ck rfl rfl (by decide) rfl rfl (ca_cons (co_ex (ce_fn (k := 1) F__law_draw hr (by decide) ck rfl (ca_cons (co_sl (i := 0) rfl (.inl rfl)) (ca_cons (co_ex (ce_bfn call_len ok_len rfl L.b_len (by decide +kernel) (ca_cons (co_ex (ce_ix ck (co_sl (i := 3) rfl (.inl rfl)) (co_sl (i := 6) rfl (.inl rfl)))) ca_nil))) ca_nil)))) (ca_cons (co_ex (ce_ix ck (co_sl (i := 3) rfl (.inl rfl)) (co_sl (i := 6) rfl (.inl rfl)))) ca_nil)) rfl) (css_cons (cs_set (i := 9) ck.nd rfl (.inl rfl) (ce_if (ct_cmp op_lt ok_CI (co_ex (ce_bin op_addV ok_add (co_sl (i := 6) rfl (.inl rfl)) (co_ex ce_int))) (co_ex (ce_bfn call_len ok_len rfl L.b_len (by decide +kernel) (ca_cons (co_sl (i := 3) rfl (.inl rfl)) ca_nil)))) (ce_bfn call_len ok_len rfl L.b_len (by decide +kernel) (ca_cons (co_ex (ce_ix ck (co_sl (i := 3) rfl (.inl rfl)) (co_ex (ce_bin op_addV ok_add (co_sl (i := 6) rfl (.inl rfl)) (co_ex ce_int))))) ca_nil)) (ce_rd (i := 4) rfl (.inl rfl)))) (css_cons (cs_set (i := 10) ck.nd rfl (.inl rfl) (ce_fn (k := 2) F__law_pick hr (by decide) ck rfl (ca_cons (co_sl (i := 0) rfl (.inl rfl)) (ca_cons (co_ex (ce_lst (ca_cons (co_ex (ce_tup (ca_cons (co_ex ce_str) (ca_cons (co_ex (ce_rd (i := 2) rfl (.inl rfl))) ca_nil)))) (ca_cons (co_ex (ce_tup (ca_cons (co_ex ce_str) (ca_cons (co_ex (ce_un un_neg ok_neg (co_ex ce_int))) ca_nil)))) (ca_cons (co_ex (ce_tup (ca_cons (co_ex ce_str) (ca_cons (co_ex (ce_rd (i := 9) rfl (.inl rfl))) ca_nil)))) (ca_cons (co_ex (ce_tup (ca_cons (co_ex ce_str) (ca_cons (co_ex ce_int) (ca_cons (co_ex (ce_rd (i := 9) rfl (.inl rfl))) ca_nil))))) (ca_cons (co_ex (ce_tup (ca_cons (co_ex ce_str) (ca_cons (co_ex ce_bl) (ca_cons (co_ex ce_int) ca_nil))))) (ca_cons (co_ex (ce_tup (ca_cons (co_ex ce_str) (ca_cons (co_ex ce_int) (ca_cons (co_ex ce_int) ca_nil))))) ca_nil)))))))) ca_nil)))) (css_cons (cs_set (i := 10) ck.nd rfl (.inl rfl) (ce_fn (k := 2) F__law_pick hr (by decide) ck rfl (ca_cons (co_sl (i := 0) rfl (.inl rfl)) (ca_cons (co_ex (ce_lst (ca_cons (co_ex (ce_rd (i := 10) rfl (.inl rfl))) (ca_cons (co_ex ce_non) (ca_cons (co_ex (ce_tup (ca_cons (co_ex ce_str) (ca_cons (co_ex ce_int) ca_nil)))) (ca_cons (co_ex (ce_tup (ca_cons (co_ex ce_str) ca_nil))) (ca_cons (co_ex (ce_tup ca_nil)) (ca_cons (co_ex (ce_fz (ce_lst (ca_cons (co_ex ce_str) (ca_cons (co_ex ce_int) ca_nil))))) (ca_cons (co_ex (ce_tup (ca_cons (co_ex ce_str) (ca_cons (co_ex ce_int) (ca_cons (co_ex ce_int) ca_nil))))) (ca_cons (co_ex (ce_tup (ca_cons (co_ex ce_str) (ca_cons (co_ex ce_int) ca_nil)))) (ca_cons (co_ex ce_str) ca_nil))))))))))) ca_nil)))) (css_cons (cs_set (i := 11) ck.nd rfl (.inl rfl) (ce_rep (ce_lst (ca_cons (co_ex (ce_tup (ca_cons (co_ex (ce_rd (i := 2) rfl (.inl rfl))) (ca_cons (co_ex (ce_fz (ce_bin op_addV ok_add (co_ex (ce_bin op_addV ok_add (co_ex (ce_s01 (co_sl (i := 3) rfl (.inl rfl)) (ce_rd (i := 6) rfl (.inl rfl)))) (co_ex (ce_tup (ca_cons (co_ex (ce_fz (ce_bin op_addV ok_add (co_ex (ce_bin op_addV ok_add (co_ex (ce_s01 (co_sl (i := 8) rfl (.inl rfl)) (ce_rd (i := 7) rfl (.inl rfl)))) (co_ex (ce_tup (ca_cons (co_ex (ce_rd (i := 10) rfl (.inl rfl))) ca_nil))))) (co_ex (ce_s10 (co_sl (i := 8) rfl (.inl rfl)) (ce_bin op_addV ok_add (co_sl (i := 7) rfl (.inl rfl)) (co_ex ce_int))))))) ca_nil))))) (co_ex (ce_s10 (co_sl (i := 3) rfl (.inl rfl)) (ce_bin op_addV ok_add (co_sl (i := 6) rfl (.inl rfl)) (co_ex ce_int))))))) (ca_cons (co_ex (ce_rd (i := 4) rfl (.inl rfl))) (ca_cons (co_ex (ce_rd (i := 5) rfl (.inl rfl))) ca_nil)))))) ca_nil)) ce_int)) (css_cons (cs_set (i := 11) ck.nd rfl (.inl rfl) (ce_bin op_addV ok_add (co_sl (i := 11) rfl (.inl rfl)) (co_ex (ce_lst (ca_cons (co_ex (ce_tup (ca_cons (co_ex (ce_rd (i := 2) rfl (.inl rfl))) (ca_cons (co_ex (ce_fz (ce_bin op_addV ok_add (co_ex (ce_bin op_addV ok_add (co_ex (ce_s01 (co_sl (i := 3) rfl (.inl rfl)) (ce_rd (i := 6) rfl (.inl rfl)))) (co_ex (ce_tup (ca_cons (co_ex (ce_tup ca_nil)) ca_nil))))) (co_ex (ce_s10 (co_sl (i := 3) rfl (.inl rfl)) (ce_bin op_addV ok_add (co_sl (i := 6) rfl (.inl rfl)) (co_ex ce_int))))))) (ca_cons (co_ex (ce_rd (i := 4) rfl (.inl rfl))) (ca_cons (co_ex (ce_rd (i := 5) rfl (.inl rfl))) ca_nil)))))) (ca_cons (co_ex (ce_tup (ca_cons (co_ex (ce_rd (i := 2) rfl (.inl rfl))) (ca_cons (co_ex (ce_tup ca_nil)) (ca_cons (co_ex (ce_rd (i := 4) rfl (.inl rfl))) (ca_cons (co_ex (ce_rd (i := 5) rfl (.inl rfl))) ca_nil)))))) ca_nil)))))) (css_cons (cs_set (i := 11) ck.nd rfl (.inl rfl) (ce_bin op_addV ok_add (co_sl (i := 11) rfl (.inl rfl)) (co_ex (ce_lst (ca_cons (co_ex (ce_tup (ca_cons (co_ex (ce_rd (i := 2) rfl (.inl rfl))) (ca_cons (co_ex (ce_fz (ce_bin op_addV ok_add (co_ex (ce_bin op_addV ok_add (co_ex (ce_s01 (co_sl (i := 3) rfl (.inl rfl)) (ce_rd (i := 6) rfl (.inl rfl)))) (co_ex (ce_tup (ca_cons (co_ex (ce_fz (ce_bty call_list_of ok_list rfl L.b_list (by decide +kernel) (ca_cons (co_sl (i := 8) rfl (.inl rfl)) ca_nil)))) ca_nil))))) (co_ex (ce_s10 (co_sl (i := 3) rfl (.inl rfl)) (ce_bin op_addV ok_add (co_sl (i := 6) rfl (.inl rfl)) (co_ex ce_int))))))) (ca_cons (co_ex (ce_rd (i := 4) rfl (.inl rfl))) (ca_cons (co_ex (ce_rd (i := 5) rfl (.inl rfl))) ca_nil)))))) ca_nil))))) (css_cons (cs_expr (ce_append (i := 11) rfl (.inl rfl) (ca_cons (co_ex (ce_tup (ca_cons (co_ex (ce_rd (i := 2) rfl (.inl rfl))) (ca_cons (co_ex (ce_fz (ce_bty call_list_of ok_list rfl L.b_list (by decide +kernel) (ca_cons (co_sl (i := 3) rfl (.inl rfl)) ca_nil)))) (ca_cons (co_ex (ce_rd (i := 4) rfl (.inl rfl))) (ca_cons (co_ex (ce_rd (i := 5) rfl (.inl rfl))) ca_nil)))))) ca_nil))) (css_cons (cs_set (i := 11) ck.nd rfl (.inl rfl) (ce_bin op_addV ok_add (co_sl (i := 11) rfl (.inl rfl)) (co_ex (ce_lst (ca_cons (co_ex (ce_tup (ca_cons (co_ex (ce_rd (i := 2) rfl (.inl rfl))) (ca_cons (co_ex (ce_rd (i := 3) rfl (.inl rfl))) (ca_cons (co_ex ce_int) (ca_cons (co_ex (ce_rd (i := 5) rfl (.inl rfl))) ca_nil)))))) (ca_cons (co_ex (ce_tup (ca_cons (co_ex (ce_rd (i := 2) rfl (.inl rfl))) (ca_cons (co_ex (ce_rd (i := 3) rfl (.inl rfl))) (ca_cons (co_ex (ce_rd (i := 4) rfl (.inl rfl))) (ca_cons (co_ex ce_int) ca_nil)))))) (ca_cons (co_ex (ce_tup (ca_cons (co_ex (ce_rd (i := 2) rfl (.inl rfl))) (ca_cons (co_ex (ce_rd (i := 3) rfl (.inl rfl))) (ca_cons (co_ex (ce_rd (i := 4) rfl (.inl rfl))) (ca_cons (co_ex (ce_fz (ce_bin op_addV ok_add (co_ex (ce_bfn call_len ok_len rfl L.b_len (by decide +kernel) (ca_cons (co_ex (ce_ix ck (co_sl (i := 3) rfl (.inl rfl)) (co_ex ce_int))) ca_nil))) (co_ex ce_int)))) ca_nil)))))) ca_nil))))))) (css_cons (cs_set (i := 11) ck.nd rfl (.inl rfl) (ce_bin op_addV ok_add (co_sl (i := 11) rfl (.inl rfl)) (co_ex (ce_lst (ca_cons (co_ex (ce_tup (ca_cons (co_ex (ce_rd (i := 2) rfl (.inl rfl))) (ca_cons (co_ex (ce_rd (i := 3) rfl (.inl rfl))) (ca_cons (co_ex ce_bl) (ca_cons (co_ex (ce_rd (i := 5) rfl (.inl rfl))) ca_nil)))))) (ca_cons (co_ex (ce_tup (ca_cons (co_ex ce_int) (ca_cons (co_ex (ce_rd (i := 3) rfl (.inl rfl))) (ca_cons (co_ex (ce_rd (i := 4) rfl (.inl rfl))) (ca_cons (co_ex (ce_rd (i := 5) rfl (.inl rfl))) ca_nil)))))) (ca_cons (co_ex (ce_tup (ca_cons (co_ex ce_int) (ca_cons (co_ex (ce_rd (i := 3) rfl (.inl rfl))) (ca_cons (co_ex (ce_rd (i := 4) rfl (.inl rfl))) (ca_cons (co_ex (ce_rd (i := 5) rfl (.inl rfl))) ca_nil)))))) ca_nil))))))) (css_one (cs_ret (ce_fn (k := 2) F__law_pick hr (by decide) ck rfl (ca_cons (co_sl (i := 0) rfl (.inl rfl)) (ca_cons (co_ex (ce_bin op_addV ok_add (co_sl (i := 11) rfl (.inl rfl)) (co_ex (ce_lst (ca_cons (co_ex (ce_tup (ca_cons (co_ex (ce_rd (i := 2) rfl (.inl rfl))) (ca_cons (co_ex (ce_fz (ce_s10 (co_sl (i := 3) rfl (.inl rfl)) ce_int))) (ca_cons (co_ex (ce_rd (i := 4) rfl (.inl rfl))) (ca_cons (co_ex (ce_rd (i := 5) rfl (.inl rfl))) ca_nil)))))) (ca_cons (co_ex (ce_tup (ca_cons (co_ex (ce_rd (i := 2) rfl (.inl rfl))) (ca_cons (co_ex (ce_rd (i := 3) rfl (.inl rfl))) (ca_cons (co_ex (ce_fz (ce_bin op_addV ok_add (co_sl (i := 4) rfl (.inl rfl)) (co_ex ce_int)))) (ca_cons (co_ex (ce_rd (i := 5) rfl (.inl rfl))) ca_nil)))))) (ca_cons (co_ex (ce_rd (i := 1) rfl (.inl rfl))) ca_nil))))))) ca_nil)))))))))))))))))
theorem T__law_errors_right (F_draw_count : Fn P w K mg base G 10 "draw_count" 13 1 v_draw_count) (F_kind_counts : Fn P w K mg base G 10 "kind_counts" 12 1 v_kind_counts) : Tabd P w K mg base G 10 tb__law_errors_right := by
  intro n v h
  unfold tb__law_errors_right at h
  split at h
  · rename_i e
    subst e
    cases h
    exact ⟨_, _, F_draw_count.mono (by decide)⟩
  split at h
  · rename_i e
    subst e
    cases h
    exact ⟨_, _, F_kind_counts.mono (by decide)⟩
  cases h
theorem sc__law_errors_right : FnScope ["some", "told", "odd", "got", "call"] ["some", "told"] (defScope s__law_errors_right) := ⟨rfl, rfl, rfl, by decide +kernel, rfl, by decide +kernel, by decide +kernel⟩
theorem F__law_errors_right (L : Lk P w K mg base G) (F_is_layers : Fn P w K mg base G 8 "is_layers" 7 1 v_is_layers) (F_same_layers : Fn P w K mg base G 10 "same_layers" 10 2 v_same_layers) (E__law_error : Er P w K mg base G "_law_error" 19 subs ks__law_error md__law_error) (F_draw_count : Fn P w K mg base G 10 "draw_count" 13 1 v_draw_count) (F_kind_counts : Fn P w K mg base G 10 "kind_counts" 12 1 v_kind_counts) : Fn P w K mg base G 13 "_law_errors_right" 26 2 v__law_errors_right := by
  obtain ⟨fd, cc, PP, D, hcd, TB, mt⟩ := L.t__law_errors_right
  refine fn_mkT (N := ["some", "told", "odd", "got", "call"]) (ps := ["some", "told"]) (m := 3) D sc__law_errors_right rfl rfl (by decide +kernel) L.g__law_errors_right ?_
  rw [hcd]
  intro A outer s H E hr ck
  exact (css_cons (cs_for (passes_of rfl) rfl (ci_seq (ce_lst (ca_cons (co_ex ce_non) (ca_cons (co_ex (ce_rd (i := 1) rfl (.inl rfl))) (ca_cons (co_ex ce_int) (ca_cons (co_ex ce_str) ca_nil)))))) (cg_name ck.nd rfl (.inr rfl)) (css_cons (cs_setLc (i := 3) (own := [("call", 4)]) (ws := [4]) rfl ck rfl rfl rfl (ci_seq (ce_lst (ca_cons (co_ex (ce_glo (v := .ref (G.fn 13)) rfl L.g_draw_count rfl (fun F => .fn 13))) (ca_cons (co_ex (ce_glo (v := .ref (G.fn 12)) rfl L.g_kind_counts rfl (fun F => .fn 12))) ca_nil)))) (blkOk_by rfl) (by decide) (by decide) (fun s H C cl fp => (cg_name ck.blk.nd rfl (.inr rfl))) (fun s H C cl fp => cts_nil) (fun s H C cl fp => (ce_fz (ce_lam (mm := [false, false, true, false, true]) (k := 10) E__law_error ck.blk rfl mt TB rfl rfl hr (by decide) (LamX.lamS_by rfl) rfl (fun _ _ _ _ => rfl) (fun A outer s H E f c hr ck => (ce_callF (k := 10) (i := 4) (T__law_errors_right F_draw_count F_kind_counts) hr (by decide) ck rfl (.inr (.inr rfl)) (ca_cons (co_sl (i := 2) rfl (.inr (.inr rfl))) ca_nil))))))) (css_cons (cs_expr (ce_append (i := 3) rfl (.inl rfl) (ca_cons (co_ex (ce_fz (ce_lam (mm := [false, false, true]) (k := 10) E__law_error ck rfl mt TB rfl rfl hr (by decide) (LamX.lamS_by rfl) rfl (fun _ _ _ _ => rfl) (fun A outer s H E f c hr ck => (ce_fn (k := 10) F_same_layers hr (by decide) ck rfl (ca_cons (co_sl (i := 2) rfl (.inr (.inr rfl))) (ca_cons (co_ex ce_non) ca_nil))))))) ca_nil))) (css_cons (cs_expr (ce_append (i := 3) rfl (.inl rfl) (ca_cons (co_ex (ce_fz (ce_lam (mm := [true, false, true]) (k := 10) E__law_error ck rfl mt TB rfl rfl hr (by decide) (LamX.lamS_by rfl) rfl (fun _ _ _ _ => rfl) (fun A outer s H E f c hr ck => (ce_fn (k := 10) F_same_layers hr (by decide) ck rfl (ca_cons (co_sl (i := 0) rfl (.inr (.inr rfl))) (ca_cons (co_sl (i := 2) rfl (.inr (.inr rfl))) ca_nil))))))) ca_nil))) (css_one (cs_if (ct_w (cw_or (ct_cmp (op_neq ck.u64) ok_ne (co_ex (ce_bfn (cr_reprV ck.gd ck.u66) ok_reprV rfl L.b_repr (by decide +kernel) (ca_cons (co_sl (i := 3) rfl (.inl rfl)) ca_nil))) (co_ex (ce_bfn (cr_reprV ck.gd ck.u66) ok_reprV rfl L.b_repr (by decide +kernel) (ca_cons (co_ex (ce_rep (ce_lst (ca_cons (co_ex (ce_fz (ce_lst (ca_cons (co_ex ce_str) (ca_cons (co_ex (ce_rd (i := 2) rfl (.inr (.inl rfl)))) ca_nil))))) ca_nil)) ce_int)) ca_nil)))) (cw_or1 (ct_cmp op_isNot ok_isNot (co_ex (ce_fn (k := 8) F_is_layers hr (by decide) ck rfl (ca_cons (co_sl (i := 2) rfl (.inr (.inl rfl))) ca_nil))) (co_ex ce_bl))))) (css_one (cs_ret ce_bl)) css_nil)))))) (css_one (cs_ret ce_bl)))
theorem sc_law : FnScope ["script", "pen", "lap", "told", "some", "p", "layers", "inputs", "outputs", "letters", "counts", "layer", "kinds", "time", "bent", "due", "gate", "kind"] ["script"] (defScope s_law) := ⟨rfl, rfl, rfl, by decide +kernel, rfl, by decide +kernel, by decide +kernel⟩
theorem F_law (L : Lk P w K mg base G) (F__law_are : Fn P w K mg base G 3 "_law_are" 23 1 v__law_are) (F__law_ask_layers : Fn P w K mg base G 6 "_law_ask_layers" 15 1 v__law_ask_layers) (F__law_bent : Fn P w K mg base G 3 "_law_bent" 25 2 v__law_bent) (F__law_errors_right : Fn P w K mg base G 13 "_law_errors_right" 26 2 v__law_errors_right) (F__law_layers : Fn P w K mg base G 3 "_law_layers" 20 3 v__law_layers) (F__law_letters : Fn P w K mg base G 1 "_law_letters" 24 1 v__law_letters) (F__law_new_layers : Fn P w K mg base G 8 "_law_new_layers" 14 1 v__law_new_layers) (F__law_pen : Fn P w K mg base G 1 "_law_pen" 16 1 v__law_pen) (F_draw_count : Fn P w K mg base G 10 "draw_count" 13 1 v_draw_count) (F_is_layers : Fn P w K mg base G 8 "is_layers" 7 1 v_is_layers) (F_kind_counts : Fn P w K mg base G 10 "kind_counts" 12 1 v_kind_counts) (F_same_layers : Fn P w K mg base G 10 "same_layers" 10 2 v_same_layers) (E__law_error : Er P w K mg base G "_law_error" 19 subs ks__law_error md__law_error) : Fn P w K mg base G 14 "law" 27 1 v_law := by
  obtain ⟨fd, cc, PP, D, hcd, TB, mt⟩ := L.t_law
  refine fn_mkT (N := ["script", "pen", "lap", "told", "some", "p", "layers", "inputs", "outputs", "letters", "counts", "layer", "kinds", "time", "bent", "due", "gate", "kind"]) (ps := ["script"]) (m := 17) D sc_law rfl rfl (by decide +kernel) L.g_law ?_
  rw [hcd]
  intro A outer s H E hr ck
  exact (css_cons (cs_set (i := 1) ck.nd rfl (.inl rfl) (ce_fn (k := 1) F__law_pen hr (by decide) ck rfl (ca_cons (co_sl (i := 0) rfl (.inl rfl)) ca_nil))) (css_cons (cs_for (passes_of rfl) rfl (ci_r1 rfl L.b_range (ca_cons (co_ex (ce_fz (ce_bin op_addV ok_add (co_ex ce_int) (co_ex (ce_bfn (call_min2 rfl) ok_min2 rfl L.b_min (by decide +kernel) (ca_cons (co_ex ce_int) (ca_cons (co_ex (ce_bfn call_len ok_len rfl L.b_len (by decide +kernel) (ca_cons (co_sl (i := 0) rfl (.inl rfl)) ca_nil))) ca_nil))))))) ca_nil)) (cg_name ck.nd rfl (.inl rfl)) (css_cons (cs_set (i := 3) ck.nd rfl (.inl rfl) (ce_fn (k := 3) F__law_layers hr (by decide) ck rfl (ca_cons (co_sl (i := 1) rfl (.inl rfl)) (ca_cons (co_ex ce_int) (ca_cons (co_ex ce_int) ca_nil))))) (css_cons (cs_set (i := 4) ck.nd rfl (.inl rfl) (ce_fn (k := 8) F__law_new_layers hr (by decide) ck rfl (ca_cons (co_sl (i := 3) rfl (.inl rfl)) ca_nil))) (css_cons (cs_asg (ce_rd (i := 3) rfl (.inl rfl)) (cg_tup rfl (cgs_cons (cg_name ck.nd rfl (.inl rfl)) (cgs_cons (cg_name ck.nd rfl (.inl rfl)) (cgs_cons (cg_name ck.nd rfl (.inl rfl)) (cgs_cons (cg_name ck.nd rfl (.inl rfl)) cgs_nil)))) (tn_cons (tn_cons (tn_cons (tn_cons tn_nil)))))) (css_cons (cs_if (ct_w (cw_or (ct_cmp (op_neq ck.u64) ok_ne (co_ex (ce_tup (ca_cons (co_ex (ce_at L.ao (co_sl (i := 4) rfl (.inl rfl)))) (ca_cons (co_ex (ce_at L.ao (co_sl (i := 4) rfl (.inl rfl)))) (ca_cons (co_ex (ce_at L.ao (co_sl (i := 4) rfl (.inl rfl)))) (ca_cons (co_ex (ce_at L.ao (co_sl (i := 4) rfl (.inl rfl)))) ca_nil)))))) (co_sl (i := 3) rfl (.inl rfl))) (cw_or1 (ct_cmp op_isNot ok_isNot (co_ex (ce_fn (k := 8) F_is_layers hr (by decide) ck rfl (ca_cons (co_sl (i := 4) rfl (.inl rfl)) ca_nil))) (co_ex ce_bl))))) (css_one (cs_ret ce_bl)) css_nil) (css_cons (cs_set (i := 9) ck.nd rfl (.inl rfl) (ce_bin op_addV ok_add (co_ex (ce_lc (own := [("layer", 11)]) (ws := [11]) rfl ck (ci_seq (ce_rd (i := 6) rfl (.inl rfl))) (blkOk_by rfl) (by decide) (by decide) (fun s H C cl fp => (cg_name ck.blk.nd rfl (.inl rfl))) (fun s H C cl fp => cts_nil) (fun s H C cl fp => (ce_fz (ce_fn (k := 1) F__law_letters hr (by decide) ck.blk rfl (ca_cons (co_ex (ce_bfn call_len ok_len rfl L.b_len (by decide +kernel) (ca_cons (co_sl (i := 11) rfl (.inl rfl)) ca_nil))) ca_nil)))))) (co_ex (ce_lst (ca_cons (co_ex (ce_fz (ce_fn (k := 1) F__law_letters hr (by decide) ck rfl (ca_cons (co_sl (i := 7) rfl (.inl rfl)) ca_nil)))) ca_nil))))) (css_cons (cs_if (ct_cmp (op_neq ck.u64) ok_ne (co_ex (ce_bfn (cr_reprV ck.gd ck.u66) ok_reprV rfl L.b_repr (by decide +kernel) (ca_cons (co_ex (ce_at L.ao (co_sl (i := 4) rfl (.inl rfl)))) ca_nil))) (co_ex (ce_bfn (cr_reprV ck.gd ck.u66) ok_reprV rfl L.b_repr (by decide +kernel) (ca_cons (co_ex (ce_bty call_tuple_of ok_tuple rfl L.b_tuple (by decide +kernel) (ca_cons (co_sl (i := 9) rfl (.inl rfl)) ca_nil))) ca_nil)))) (css_one (cs_ret ce_bl)) css_nil) (css_cons (cs_set (i := 10) ck.nd rfl (.inl rfl) (ce_lst ca_nil)) (css_cons (cs_for (passes_of rfl) rfl (ci_seq (ce_rd (i := 6) rfl (.inl rfl))) (cg_name ck.nd rfl (.inl rfl)) (css_cons (cs_set (i := 12) ck.nd rfl (.inr rfl) (ce_lc (own := [("gate", 16)]) (ws := [16]) rfl ck (ci_seq (ce_rd (i := 11) rfl (.inl rfl))) (blkOk_by rfl) (by decide) (by decide) (fun s H C cl fp => (cg_name ck.blk.nd rfl (.inl rfl))) (fun s H C cl fp => cts_nil) (fun s H C cl fp => (ce_ix ck.blk (co_sl (i := 16) rfl (.inl rfl)) (co_ex ce_int))))) (css_one (cs_expr (ce_append (i := 10) rfl (.inl rfl) (ca_cons (co_ex (ce_fz (ce_bty call_tuple_of ok_tuple rfl L.b_tuple (by decide +kernel) (ca_cons (co_ex (ce_lc (own := [("kind", 17)]) (ws := [17]) rfl ck (ci_seq (ce_tup (ca_cons (co_ex ce_str) (ca_cons (co_ex ce_str) (ca_cons (co_ex ce_str) (ca_cons (co_ex ce_str) ca_nil)))))) (blkOk_by rfl) (by decide) (by decide) (fun s H C cl fp => (cg_name ck.blk.nd rfl (.inl rfl))) (fun s H C cl fp => cts_nil) (fun s H C cl fp => (ce_fz (ce_count (i := 12) rfl (.inr (.inl rfl)) (ca_cons (co_sl (i := 17) rfl (.inl rfl)) ca_nil)))))) ca_nil)))) ca_nil)))))) (css_cons (cs_if (ct_cmp (op_neq ck.u64) ok_ne (co_ex (ce_bfn (cr_reprV ck.gd ck.u66) ok_reprV rfl L.b_repr (by decide +kernel) (ca_cons (co_ex (ce_fn (k := 10) F_kind_counts hr (by decide) ck rfl (ca_cons (co_sl (i := 4) rfl (.inl rfl)) ca_nil))) ca_nil))) (co_ex (ce_bfn (cr_reprV ck.gd ck.u66) ok_reprV rfl L.b_repr (by decide +kernel) (ca_cons (co_ex (ce_bty call_tuple_of ok_tuple rfl L.b_tuple (by decide +kernel) (ca_cons (co_sl (i := 10) rfl (.inl rfl)) ca_nil))) ca_nil)))) (css_one (cs_ret ce_bl)) css_nil) (css_cons (cs_if (ct_cmp (op_neq ck.u64) ok_ne (co_ex (ce_bfn (cr_reprV ck.gd ck.u66) ok_reprV rfl L.b_repr (by decide +kernel) (ca_cons (co_ex (ce_fn (k := 10) F_draw_count hr (by decide) ck rfl (ca_cons (co_sl (i := 4) rfl (.inl rfl)) ca_nil))) ca_nil))) (co_ex (ce_bfn (cr_reprV ck.gd ck.u66) ok_reprV rfl L.b_repr (by decide +kernel) (ca_cons (co_ex (ce_bin op_addV ok_add (co_ex (ce_bin op_addV ok_add (co_ex (ce_ix ck (co_sl (i := 9) rfl (.inl rfl)) (co_ex ce_int))) (co_ex (ce_bin op_mulV ok_mulV (co_ex ce_int) (co_ex (ce_bfn (cr_sum rfl) ok_sum rfl L.b_sum (by decide +kernel) (ca_cons (co_ex (ce_s10 (co_sl (i := 9) rfl (.inl rfl)) ce_int)) ca_nil))))))) (co_ex (ce_bfn call_len ok_len rfl L.b_len (by decide +kernel) (ca_cons (co_sl (i := 6) rfl (.inl rfl)) ca_nil))))) ca_nil)))) (css_one (cs_ret ce_bl)) css_nil) (css_cons (cs_for (passes_of rfl) rfl (ci_r1 rfl L.b_range (ca_cons (co_ex ce_int) ca_nil)) (cg_name ck.nd rfl (.inl rfl)) (css_cons (cs_set (i := 14) ck.nd rfl (.inr rfl) (ce_fn (k := 3) F__law_bent hr (by decide) ck rfl (ca_cons (co_sl (i := 1) rfl (.inl rfl)) (ca_cons (co_sl (i := 3) rfl (.inl rfl)) ca_nil)))) (css_cons (cs_set (i := 15) ck.nd rfl (.inl rfl) (ce_fn (k := 3) F__law_are hr (by decide) ck rfl (ca_cons (co_sl (i := 14) rfl (.inr (.inl rfl))) ca_nil))) (css_cons (cs_if (ct_cmp (op_neq ck.u64) ok_ne (co_ex (ce_bfn (cr_reprV ck.gd ck.u66) ok_reprV rfl L.b_repr (by decide +kernel) (ca_cons (co_ex (ce_fn (k := 6) F__law_ask_layers hr (by decide) ck rfl (ca_cons (co_sl (i := 14) rfl (.inr (.inl rfl))) ca_nil))) ca_nil))) (co_ex (ce_bfn (cr_reprV ck.gd ck.u66) ok_reprV rfl L.b_repr (by decide +kernel) (ca_cons (co_sl (i := 15) rfl (.inl rfl)) ca_nil)))) (css_one (cs_ret ce_bl)) css_nil) (css_cons (cs_if (ct_cmp (op_neq ck.u64) ok_ne (co_ex (ce_bfn (cr_reprV ck.gd ck.u66) ok_reprV rfl L.b_repr (by decide +kernel) (ca_cons (co_ex (ce_lam (mm := [false, false, false, false, false, false, false, false, false, false, false, false, false, false, true]) (k := 8) E__law_error ck rfl mt TB rfl rfl hr (by decide) (LamX.lamS_by rfl) rfl (fun _ _ _ _ => rfl) (fun A outer s H E f c hr ck => (ce_fn (k := 8) F__law_new_layers hr (by decide) ck rfl (ca_cons (co_sl (i := 14) rfl (.inr (.inr rfl))) ca_nil))))) ca_nil))) (co_ex (ce_bfn (cr_reprV ck.gd ck.u66) ok_reprV rfl L.b_repr (by decide +kernel) (ca_cons (co_ex (ce_if (ct_tr (co_sl (i := 15) rfl (.inl rfl))) (ce_lst (ca_cons (co_ex ce_str) ca_nil)) (ce_lst (ca_cons (co_ex ce_str) (ca_cons (co_ex (ce_rd (i := 14) rfl (.inr (.inl rfl)))) ca_nil))))) ca_nil)))) (css_one (cs_ret ce_bl)) css_nil) (css_one (cs_if (ct_w (cw_and (ct_tr (co_sl (i := 15) rfl (.inl rfl))) (cw_and1 (ct_cmp (op_neq ck.u64) ok_ne (co_ex (ce_fn (k := 10) F_same_layers hr (by decide) ck rfl (ca_cons (co_sl (i := 4) rfl (.inl rfl)) (ca_cons (co_ex (ce_fn (k := 8) F__law_new_layers hr (by decide) ck rfl (ca_cons (co_sl (i := 14) rfl (.inr (.inl rfl))) ca_nil))) ca_nil)))) (co_ex (ce_cmp (op_eqq ck.u64) ok_eq (co_sl (i := 14) rfl (.inr (.inl rfl))) (co_sl (i := 3) rfl (.inl rfl)))))))) (css_one (cs_ret ce_bl)) css_nil))))))) (css_one (cs_if (ct_not (ct_tr (co_ex (ce_fn (k := 13) F__law_errors_right hr (by decide) ck rfl (ca_cons (co_sl (i := 4) rfl (.inl rfl)) (ca_cons (co_sl (i := 3) rfl (.inl rfl)) ca_nil)))))) (css_one (cs_ret ce_bl)) css_nil)))))))))))))) (css_one (cs_ret ce_bl))))
end
/-! ### the head -/
abbrev law_at : Nat := 40
def nmF (i : Nat) : Str := ((["is_whole", "is_count", "is_prime", "is_rest_in", "letters_in", "is_layer_gate", "are_layers", "is_layers", "need_layers", "layers_told", "same_layers", "of_kind", "kind_counts", "draw_count", "_law_new_layers", "_law_ask_layers", "_law_pen", "_law_draw", "_law_pick", "_law_error", "_law_layers", "_law_is_number", "_law_is_gate", "_law_are", "_law_letters", "_law_bent", "_law_errors_right", "law"] : List Str)).getD i ""
def nmC (i : Nat) : Str := ((["RunError", "BadText", "BadNumber", "BadName", "BadProgram", "BadInputs", "BadGates", "BadLayers", "BadReceipt", "NotKept", "Layers"] : List Str)).getD i ""
abbrev ts : List Str := ["_law_errors_right", "law"]
def faS : List He.Fa := ([.free "all", .free "bool", .free "int", .free "isinstance", .free "len", .free "list", .free "min", .free "range", .free "repr", .free "str", .free "sum", .free "tuple", .free "zip", .glo "is_whole", .glo "is_count", .glo "is_prime", .glo "is_rest_in", .glo "letters_in", .glo "is_layer_gate", .glo "are_layers", .glo "is_layers", .glo "need_layers", .glo "layers_told", .glo "same_layers", .glo "of_kind", .glo "kind_counts", .glo "draw_count", .glo "_law_new_layers", .glo "_law_ask_layers", .glo "_law_pen"] : List He.Fa) ++ ([.glo "_law_draw", .glo "_law_pick", .glo "_law_error", .glo "_law_layers", .glo "_law_is_number", .glo "_law_is_gate", .glo "_law_are", .glo "_law_letters", .glo "_law_bent", .glo "_law_errors_right", .glo "law", .noat "BadText" "column", .noat "BadText" "line", .noat "BadNumber" "number", .noat "BadNumber" "what", .noat "BadName" "name", .noat "BadProgram" "program", .noat "BadInputs" "inputs", .noat "BadGates" "gates", .noat "BadLayers" "layers", .noat "BadReceipt" "receipt", .noat "NotKept" "promise", .noat "NotKept" "witness", .glo "RunError", .glo "BadText", .glo "BadNumber", .glo "BadName", .glo "BadProgram", .glo "BadInputs", .glo "BadGates"] : List He.Fa) ++ ([.glo "BadLayers", .meth "BadLayers" "__init__", .glo "BadReceipt", .glo "NotKept", .glo "Layers", .mkr "Layers", .int "MOST" 999999937, .glo "KINDS"] : List He.Fa)
def fnS : List He.DefD := ([⟨("is_whole", none), "is_whole", "is_whole", defArgs s_is_whole, defBody s_is_whole, defScope s_is_whole, [], []⟩, ⟨("is_count", none), "is_count", "is_count", defArgs s_is_count, defBody s_is_count, defScope s_is_count, [], []⟩, ⟨("is_prime", none), "is_prime", "is_prime", defArgs s_is_prime, defBody s_is_prime, defScope s_is_prime, [], []⟩, ⟨("is_rest_in", none), "is_rest_in", "is_rest_in", defArgs s_is_rest_in, defBody s_is_rest_in, defScope s_is_rest_in, [], []⟩, ⟨("letters_in", none), "letters_in", "letters_in", defArgs s_letters_in, defBody s_letters_in, defScope s_letters_in, [], []⟩, ⟨("is_layer_gate", none), "is_layer_gate", "is_layer_gate", defArgs s_is_layer_gate, defBody s_is_layer_gate, defScope s_is_layer_gate, [], []⟩, ⟨("are_layers", none), "are_layers", "are_layers", defArgs s_are_layers, defBody s_are_layers, defScope s_are_layers, [], []⟩, ⟨("is_layers", none), "is_layers", "is_layers", defArgs s_is_layers, defBody s_is_layers, defScope s_is_layers, [], []⟩, ⟨("need_layers", none), "need_layers", "need_layers", defArgs s_need_layers, defBody s_need_layers, defScope s_need_layers, [], []⟩, ⟨("layers_told", none), "layers_told", "layers_told", defArgs s_layers_told, defBody s_layers_told, defScope s_layers_told, [], []⟩, ⟨("same_layers", none), "same_layers", "same_layers", defArgs s_same_layers, defBody s_same_layers, defScope s_same_layers, [], []⟩, ⟨("of_kind", none), "of_kind", "of_kind", defArgs s_of_kind, defBody s_of_kind, defScope s_of_kind, [], []⟩, ⟨("kind_counts", none), "kind_counts", "kind_counts", defArgs s_kind_counts, defBody s_kind_counts, defScope s_kind_counts, [], []⟩, ⟨("draw_count", none), "draw_count", "draw_count", defArgs s_draw_count, defBody s_draw_count, defScope s_draw_count, [], []⟩, ⟨("_law_new_layers", none), "_law_new_layers", "_law_new_layers", defArgs s__law_new_layers, defBody s__law_new_layers, defScope s__law_new_layers, [], []⟩, ⟨("_law_ask_layers", none), "_law_ask_layers", "_law_ask_layers", defArgs s__law_ask_layers, defBody s__law_ask_layers, defScope s__law_ask_layers, [], []⟩, ⟨("_law_pen", none), "_law_pen", "_law_pen", defArgs s__law_pen, defBody s__law_pen, defScope s__law_pen, [], []⟩, ⟨("_law_draw", none), "_law_draw", "_law_draw", defArgs s__law_draw, defBody s__law_draw, defScope s__law_draw, [], []⟩, ⟨("_law_pick", none), "_law_pick", "_law_pick", defArgs s__law_pick, defBody s__law_pick, defScope s__law_pick, [], []⟩, ⟨("_law_error", none), "_law_error", "_law_error", defArgs s__law_error, defBody s__law_error, defScope s__law_error, [], []⟩, ⟨("_law_layers", none), "_law_layers", "_law_layers", defArgs s__law_layers, defBody s__law_layers, defScope s__law_layers, [], []⟩, ⟨("_law_is_number", none), "_law_is_number", "_law_is_number", defArgs s__law_is_number, defBody s__law_is_number, defScope s__law_is_number, [], []⟩, ⟨("_law_is_gate", none), "_law_is_gate", "_law_is_gate", defArgs s__law_is_gate, defBody s__law_is_gate, defScope s__law_is_gate, [], []⟩, ⟨("_law_are", none), "_law_are", "_law_are", defArgs s__law_are, defBody s__law_are, defScope s__law_are, [], []⟩, ⟨("_law_letters", none), "_law_letters", "_law_letters", defArgs s__law_letters, defBody s__law_letters, defScope s__law_letters, [], []⟩, ⟨("_law_bent", none), "_law_bent", "_law_bent", defArgs s__law_bent, defBody s__law_bent, defScope s__law_bent, [], []⟩, ⟨("_law_errors_right", none), "_law_errors_right", "_law_errors_right", defArgs s__law_errors_right, defBody s__law_errors_right, defScope s__law_errors_right, [], []⟩, ⟨("law", none), "law", "law", defArgs s_law, defBody s_law, defScope s_law, [], []⟩, ⟨("BadLayers", some "__init__"), "__init__", "BadLayers.__init__", defArgs s_BadLayers, defBody s_BadLayers, defScope s_BadLayers, [], []⟩, ⟨("Layers", some "__init__"), "__init__", "Layers.__init__", defArgs s_Layers, defBody s_Layers, defScope s_Layers, [], []⟩] : List He.DefD)
def moS : List (PySem.W.Frag → Bool) := ([fun K => accB K nmC accL, fun K => xfB K (He.ga K "RunError"), fun K => xfB K (He.ga K "BadText"), fun K => xfB K (He.ga K "BadNumber"), fun K => xfB K (He.ga K "BadName"), fun K => xfB K (He.ga K "BadProgram"), fun K => xfB K (He.ga K "BadInputs"), fun K => xfB K (He.ga K "BadGates"), fun K => xfB K (He.ga K "BadLayers"), fun K => xfB K (He.ga K "BadReceipt"), fun K => xfB K (He.ga K "NotKept"), fun K => exmB K nmC subL, fun K => oexB K (He.ga K "BadLayers"), fun K => isiB K nmC [10] 10, fun K => He.tupB K "KINDS" [.str "add", .str "mul", .str "keep", .str "put"]] : List (PySem.W.Frag → Bool))
abbrev GG (Kf : PySem.W.Frag) : Gt := ⟨fun i => He.ga (cut Kf ts) (nmF i), fun i => He.ga (cut Kf ts) (nmC i), ts.map fun x => ((tabA Kf x).2, lq x)⟩
theorem lk {P : Program} {w : World} {Kf : PySem.W.Frag} {h : Heap} {mg : Str → Option Value} {base : Heap} (X0 : Kf.In h) (Gn : h.Ns mainGlobals mg) (c : SaysV ts faS fnS moS Kf) (TB : ∀ p ∈ ts.map (tabA Kf), LamX.TabB base mg p.1 p.2) : Lk P w (cut Kf ts) mg base (GG Kf) := by
  have X := cut_in (ts := ts) X0
  exact {
    ao := accB_ok (nm := nmC) (fun _ => rfl) (c.more 0),
    b_all := He.free_ok X Gn (c.d.fact 0),
    b_bool := He.free_ok X Gn (c.d.fact 1),
    b_int := He.free_ok X Gn (c.d.fact 2),
    b_isinstance := He.free_ok X Gn (c.d.fact 3),
    b_len := He.free_ok X Gn (c.d.fact 4),
    b_list := He.free_ok X Gn (c.d.fact 5),
    b_min := He.free_ok X Gn (c.d.fact 6),
    b_range := He.free_ok X Gn (c.d.fact 7),
    b_repr := He.free_ok X Gn (c.d.fact 8),
    b_str := He.free_ok X Gn (c.d.fact 9),
    b_sum := He.free_ok X Gn (c.d.fact 10),
    b_tuple := He.free_ok X Gn (c.d.fact 11),
    b_zip := He.free_ok X Gn (c.d.fact 12),
    g_is_whole := He.glo_ok X Gn (c.d.fact 13),
    d_is_whole := c.d.def_ 0,
    g_is_count := He.glo_ok X Gn (c.d.fact 14),
    d_is_count := c.d.def_ 1,
    g_is_prime := He.glo_ok X Gn (c.d.fact 15),
    d_is_prime := c.d.def_ 2,
    g_is_rest_in := He.glo_ok X Gn (c.d.fact 16),
    d_is_rest_in := c.d.def_ 3,
    g_letters_in := He.glo_ok X Gn (c.d.fact 17),
    d_letters_in := c.d.def_ 4,
    g_is_layer_gate := He.glo_ok X Gn (c.d.fact 18),
    d_is_layer_gate := c.d.def_ 5,
    g_are_layers := He.glo_ok X Gn (c.d.fact 19),
    d_are_layers := c.d.def_ 6,
    g_is_layers := He.glo_ok X Gn (c.d.fact 20),
    d_is_layers := c.d.def_ 7,
    g_need_layers := He.glo_ok X Gn (c.d.fact 21),
    d_need_layers := c.d.def_ 8,
    g_layers_told := He.glo_ok X Gn (c.d.fact 22),
    d_layers_told := c.d.def_ 9,
    g_same_layers := He.glo_ok X Gn (c.d.fact 23),
    d_same_layers := c.d.def_ 10,
    g_of_kind := He.glo_ok X Gn (c.d.fact 24),
    d_of_kind := c.d.def_ 11,
    g_kind_counts := He.glo_ok X Gn (c.d.fact 25),
    d_kind_counts := c.d.def_ 12,
    g_draw_count := He.glo_ok X Gn (c.d.fact 26),
    d_draw_count := c.d.def_ 13,
    g__law_new_layers := He.glo_ok X Gn (c.d.fact 27),
    d__law_new_layers := c.d.def_ 14,
    g__law_ask_layers := He.glo_ok X Gn (c.d.fact 28),
    d__law_ask_layers := c.d.def_ 15,
    g__law_pen := He.glo_ok X Gn (c.d.fact 29),
    d__law_pen := c.d.def_ 16,
    g__law_draw := He.glo_ok X Gn (c.d.fact 30),
    d__law_draw := c.d.def_ 17,
    g__law_pick := He.glo_ok X Gn (c.d.fact 31),
    d__law_pick := c.d.def_ 18,
    g__law_error := He.glo_ok X Gn (c.d.fact 32),
    d__law_error := c.d.def_ 19,
    g__law_layers := He.glo_ok X Gn (c.d.fact 33),
    d__law_layers := c.d.def_ 20,
    g__law_is_number := He.glo_ok X Gn (c.d.fact 34),
    d__law_is_number := c.d.def_ 21,
    g__law_is_gate := He.glo_ok X Gn (c.d.fact 35),
    d__law_is_gate := c.d.def_ 22,
    g__law_are := He.glo_ok X Gn (c.d.fact 36),
    d__law_are := c.d.def_ 23,
    g__law_letters := He.glo_ok X Gn (c.d.fact 37),
    d__law_letters := c.d.def_ 24,
    g__law_bent := He.glo_ok X Gn (c.d.fact 38),
    d__law_bent := c.d.def_ 25,
    g__law_errors_right := He.glo_ok X Gn (c.d.fact 39),
    t__law_errors_right := c.funT (G := GG Kf) (lq := lq) TB rfl 26 0 rfl rfl rfl rfl rfl,
    g_law := He.glo_ok X Gn (c.d.fact 40),
    t_law := c.funT (G := GG Kf) (lq := lq) TB rfl 27 1 rfl rfl rfl rfl rfl,
    f_RunError := xfB_ok (c.more 1),
    f_BadText := xfB_ok (c.more 2),
    n_BadText_column := He.noat_ok (c.d.fact 41),
    n_BadText_line := He.noat_ok (c.d.fact 42),
    f_BadNumber := xfB_ok (c.more 3),
    n_BadNumber_number := He.noat_ok (c.d.fact 43),
    n_BadNumber_what := He.noat_ok (c.d.fact 44),
    f_BadName := xfB_ok (c.more 4),
    n_BadName_name := He.noat_ok (c.d.fact 45),
    f_BadProgram := xfB_ok (c.more 5),
    n_BadProgram_program := He.noat_ok (c.d.fact 46),
    f_BadInputs := xfB_ok (c.more 6),
    n_BadInputs_inputs := He.noat_ok (c.d.fact 47),
    f_BadGates := xfB_ok (c.more 7),
    n_BadGates_gates := He.noat_ok (c.d.fact 48),
    f_BadLayers := xfB_ok (c.more 8),
    n_BadLayers_layers := He.noat_ok (c.d.fact 49),
    f_BadReceipt := xfB_ok (c.more 9),
    n_BadReceipt_receipt := He.noat_ok (c.d.fact 50),
    f_NotKept := xfB_ok (c.more 10),
    n_NotKept_promise := He.noat_ok (c.d.fact 51),
    n_NotKept_witness := He.noat_ok (c.d.fact 52),
    e_ok := exmB_ok (nm := nmC) (fun _ => rfl) (c.more 11),
    c_RunError := He.glo_ok X Gn (c.d.fact 53),
    c_BadText := He.glo_ok X Gn (c.d.fact 54),
    c_BadNumber := He.glo_ok X Gn (c.d.fact 55),
    c_BadName := He.glo_ok X Gn (c.d.fact 56),
    c_BadProgram := He.glo_ok X Gn (c.d.fact 57),
    c_BadInputs := He.glo_ok X Gn (c.d.fact 58),
    c_BadGates := He.glo_ok X Gn (c.d.fact 59),
    c_BadLayers := He.glo_ok X Gn (c.d.fact 60),
    x_BadLayers := (c.d.def_ 28).elim fun fd D => xc1 (fd := fd) D ⟨rfl, rfl, rfl, by decide +kernel, rfl, by decide +kernel, by decide +kernel⟩ (oexB_ok (c.more 12)) (He.glo_ok X Gn (c.d.fact 60)) (He.meth_ok (c.d.fact 61)) (He.noat_ok (c.d.fact 49)) (by decide +kernel) (.inl rfl) (.inl rfl),
    c_BadReceipt := He.glo_ok X Gn (c.d.fact 62),
    c_NotKept := He.glo_ok X Gn (c.d.fact 63),
    c_Layers := He.glo_ok X Gn (c.d.fact 64),
    i_Layers := isiB_ok (nm := nmC) rfl (fun _ _ => rfl) (c.more 13),
    d_Layers := (c.d.def_ 29).elim fun fd D => ⟨_, fd, He.mkr_ok (c.d.fact 65), D⟩,
    m_MOST := He.int_ok X Gn (c.d.fact 66),
    m_KINDS := ⟨_, He.glo_ok X Gn (c.d.fact 67), fun F => .tup (He.tupB_ok (c.more 14) F) (.cons (.str "add") (.cons (.str "mul") (.cons (.str "keep") (.cons (.str "put") .nil))))⟩ }
theorem F_all {P : Program} {w : World} {K : PySem.W.Frag} {mg : Str → Option Value} {base : Heap} {G : Gt} (L : Lk P w K mg base G) : Fn P w K mg base G 14 "law" 27 1 v_law := by
  have E__law_error := E__law_error L
  have F_is_whole := F_is_whole L 
  have F_is_count := F_is_count L F_is_whole
  have F_is_prime := F_is_prime L F_is_count
  have F_is_rest_in := F_is_rest_in L F_is_count
  have F_letters_in := F_letters_in L 
  have F_is_layer_gate := F_is_layer_gate L F_is_count F_is_rest_in
  have F_are_layers := F_are_layers L F_is_count F_is_layer_gate F_is_prime
  have F_Layers := F_Layers L F_are_layers F_letters_in
  have F_is_layers := F_is_layers L 
  have F_need_layers := F_need_layers L F_is_layers
  have F_layers_told := F_layers_told L 
  have F_same_layers := F_same_layers L F_layers_told F_need_layers
  have F_of_kind := F_of_kind L 
  have F_kind_counts := F_kind_counts L F_need_layers F_of_kind
  have F_draw_count := F_draw_count L F_need_layers
  have F__law_new_layers := F__law_new_layers L F_Layers
  have F__law_ask_layers := F__law_ask_layers L F_are_layers
  have F__law_pen := F__law_pen L 
  have F__law_draw := F__law_draw L 
  have F__law_pick := F__law_pick L F__law_draw
  have F__law_layers := F__law_layers L F__law_draw F__law_pick
  have F__law_is_number := F__law_is_number L 
  have F__law_is_gate := F__law_is_gate L F__law_is_number
  have F__law_are := F__law_are L F__law_is_gate F__law_is_number
  have F__law_letters := F__law_letters L 
  have F__law_bent := F__law_bent L F__law_draw F__law_pick
  have F__law_errors_right := F__law_errors_right L F_is_layers F_same_layers E__law_error F_draw_count F_kind_counts
  have F_law := F_law L F__law_are F__law_ask_layers F__law_bent F__law_errors_right F__law_layers F__law_letters F__law_new_layers F__law_pen F_draw_count F_is_layers F_kind_counts F_same_layers E__law_error
  exact F_law
abbrev RR : PySem.W.OpenRow := PySem.W.OpenLaw.row PySem.Challenge.rw_believedruns_k39_whole_layers_judged
def loose : List PySem.Str := (["is_whole", "is_count", "is_prime", "is_rest_in", "letters_in", "is_layer_gate", "are_layers", "is_layers", "need_layers", "layers_told", "same_layers", "of_kind", "kind_counts", "draw_count", "_law_new_layers", "_law_ask_layers", "_law_pen", "_law_draw", "_law_pick", "_law_error", "_law_layers", "_law_is_number", "_law_is_gate", "_law_are", "_law_letters", "_law_bent", "_law_errors_right", "RunError", "BadText", "BadNumber"] : List PySem.Str) ++ (["BadName", "BadProgram", "BadInputs", "BadGates", "BadLayers", "BadReceipt", "NotKept", "Layers", "MOST", "KINDS"] : List PySem.Str)
abbrev hk : PySem.W.Hook := hookV 4 ts faS fnS moS
def ob (s : PySem.W.SharedT) : AlV := obsVG 4 ts faS fnS moS (HandSHeadRun.getT s)
theorem ob_eq (s : PySem.W.SharedT) : ob s = hk.obs s.abs := obsVG_eq (HandSHeadRun.getT_eq s)
theorem run (w : World) : HandSHeadRun.RunEq RR (PySem.W.view RR.prog [44]) hk ob 20000 loose w := by
  intro os
  kernel_rfl
end Lw
open PySem PySem.W PySem.Calls PyProof.Rows
theorem PySem.Challenge.cw_believedruns_k39_whole_layers_judged_holds : PySem.Challenge.rw_believedruns_k39_whole_layers_judged.Holds := by
  w_on; o_law
  refine HandSHeadRun.head_any (r := OpenLaw.row PySem.Challenge.rw_believedruns_k39_whole_layers_judged) (q := view (OpenLaw.row PySem.Challenge.rw_believedruns_k39_whole_layers_judged).prog [44]) (H := Lw.hk) (ob := Lw.ob) (M := 20000) (loose := Lw.loose) (d := HandSHeadRun.topDef (OpenLaw.row PySem.Challenge.rw_believedruns_k39_whole_layers_judged).prog 44) (kwd := []) Lw.ob_eq
    (by kernel_rfl) (fun s => by kernel_rfl) Lw.run (by kernel_rfl) (by kernel_rfl) (by kernel_rfl) (by rfl) (by first | assumption | decide +kernel) (by decide +kernel) ⟨rfl, rfl, rfl, rfl, rfl, by decide +kernel⟩ ?hw ?hc
  case hw => w_witness2
  case hc =>
    refine Vi.walk_V (l := PySem.Challenge.rw_believedruns_k39_whole_layers_judged) (n := 63) (k := 14) (i := 27) (x := "law") (v := Lw.v_law) rfl (by decide) (by kernel_rfl) ⟨rfl, by decide, by decide⟩ (by kernel_rfl) ?F Lw.law_true
    intro w mg h Y Gn
    obtain ⟨Kf, X0, c⟩ := Y
    exact ⟨_, _, _, c.laid X0 _ _ _, He.glo_ok (Vi.cut_in X0) Gn (c.d.fact Lw.law_at), fun base KX Gb TB => Lw.F_all (Lw.lk (base := base) X0 Gn c TB)⟩

